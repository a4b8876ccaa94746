import PyProof.Rows.All
import Wide.All
import OpenK.AllK
import Wide.FinOn
import KE.SortData
import HandS.ForMost
import HandS.TupAny
import HandS.TupMul
import HandS.Style
import HandS.Conv
import HandS.IsInst
import HandS.Deep
import HandS.DictComp
import HandS.Zip
import HandS.SetFor
import HandS.ListItems
import HandS.Defaults
import HandS.Flow
import HandS.Wide
import KE.KDictKeyed
import KE.SortCalls
import KE.GoesMore
import KE.GoesEnum
import KE.KDictPairs
import PyProof.ListRange
import HandS.SetKeys
import KE.KDictDisplayH
import KE.DataFind
import KE.KDictWalk
import KE.DataMinMax
import KE.KeyNested
import KE.KDictCopyH
import KE.KItemsList
import KE.KDictZip
import HandS.HeadHook4
import HandS.HeadEnd
import KE.KStateDown
import HandS.Head0
import HandS.Head1
import HandS.Head2
import HandS.HeadHook1
import HandS.HeadHook2
import PySem.Challenge.RW_wornrigs_k08_counted_orders
section
set_option Elab.async false
set_option linter.all false
set_option maxRecDepth 100000
/-! WrA: a small language of pure Python (slots in the place of names), its evaluator over PyData. -/
namespace Wr
open PySem

inductive Blt where
  | sorted1 | tuple1 | list1 | dict1 | sum1 | min1 | max1 | min2 | max2 | any1 | all1 | bool1 | int1
  | lenset | sortset | sortitems | listitems | listrng | minvals | maxvals | dictzip
  deriving DecidableEq
inductive Ty where
  | int | bool | str | tuple | list
  deriving DecidableEq

mutual
inductive Tg where
  | nm (i : Nat)
  | tp (ts : Tgs)
inductive Tgs where
  | nil
  | cons (t : Tg) (ts : Tgs)
end

mutual
inductive E where
  | var (i : Nat)
  | cst (d : PyData)
  | bin (op : Operator) (a b : O)
  | cat (a b : O)
  | cmp (op : CmpOp) (a b : O)
  | chn (op op' : CmpOp) (a b c : E)
  | and (es : Es)
  | or (es : Es)
  | not (a : E)
  | ife (c a b : E)
  | idx (a : O) (b : E)
  | slc (a : O) (lo hi : E)
  | rev (a : O)
  | tup (es : Es)
  | lst (es : Es)
  | dc0
  | dc1 (k v : E)
  | call (f : Nat) (es : Es)
  | len (a : O)
  | blt (b : Blt) (es : Es)
  | isi (a : O) (ts : List Ty)
  | get (a : O) (k x : E)
  | cnt (a : O) (x : E)
  | cpr (elt : E) (tg : Tg) (it : I) (cs : Es)
  | cp2 (elt : E) (tg : Tg) (it : I) (tg2 : Tg) (it2 : I)
  | dcp (k v : E) (tg : Tg) (it : I)
  | tin (neg : Bool) (i : Nat) (k : E)
  | tgt (i : Nat) (k x : E)
  | tsr (i : Nat)
  | tmn (i : Nat)
  | tmx (i : Nat)
  | tne (i : Nat)
inductive Es where
  | nil
  | cons (e : E) (es : Es)
inductive O where
  | ex (e : E)
  | bo (i : Nat)
inductive I where
  | vr (i : Nat)
  | val (e : E)
  | rg1 (b : E)
  | rg2 (a b : E)
  | enu (e : E)
  | zip (a b : E)
  | di (i : Nat)
end

mutual
inductive S where
  | asg (i : Nat) (e : E)
  | unp (tg : Tg) (e : E)
  | par (is : List Nat) (es : Es)
  | six (i : Nat) (k v : E)
  | app (i : Nat) (e : E)
  | upd (i : Nat) (e : E)
  | rmv (i : Nat) (e : E)
  | apop (i j : Nat) (k : E) (es : Es)
  | ret (e : E)
  | rto (i : Nat)
  | ife (c : E) (a b : Ss)
  | whl (c : E) (b : Ss)
  | for (tg : Tg) (it : I) (b : Ss)
  | shr (i : Nat)
  | tnw (i : Nat)
  | tn1 (i : Nat) (k v : E)
  | tmv (i j : Nat)
  | tcp (i j : Nat)
  | tpt (i : Nat) (k v : E)
  | tfk (tg : Tg) (j : Nat) (b : Ss)
  | tfi (tg : Tg) (j : Nat) (b : Ss)
inductive Ss where
  | nil
  | cons (s : S) (ss : Ss)
end

/-- a slot: empty; shared data; a list or dict that this name alone holds; a dict with tuples as keys that this name alone holds -/
inductive Sl where
  | un
  | sh (d : PyData)
  | ow (d : PyData)
  | dt (kds : List (PyData × PyData))
abbrev Ev := List Sl

/-! ### the operations over data -/
mutual
/-- no dict in it -/
def noD : PyData → Bool
  | .none | .bool _ | .int _ | .str _ => true
  | .list xs | .tuple xs => noDAll xs
  | .dict _ => false
def noDAll : List PyData → Bool
  | [] => true
  | x :: xs => noD x && noDAll xs
end
def lim : Nat := 1000000
/-- are tuples of ints known to have no own dict? (mkproof.py prints true for the laws that count in tuples; then enumerate and tuple * int are not covered) -/
def plM : Bool := true
/-- a pair of a text and an int -/
def isPr : PyData → Bool
  | .tuple [.str _, .int _] => true
  | .int _ => plM
  | _ => false
/-- the first item is such a pair: such tuples are known to have no own dict -/
def plD : List PyData → Bool
  | x :: _ => isPr x
  | [] => plM
def small (i : Int) : Bool := decide (-(2 ^ 64) < i) && decide (i < 2 ^ 64)
def addD : PyData → PyData → Option PyData
  | .int a, .int b => some (.int (a + b))
  | .tuple a, .tuple b => if a.length + b.length ≤ lim then some (.tuple (a ++ b)) else none
  | .list a, .list b => if a.length + b.length ≤ lim then some (.list (a ++ b)) else none
  | .str a, .str b => if a.length + b.length ≤ lim then some (.str (a ++ b)) else none
  | _, _ => none
def mulD : PyData → PyData → Option PyData
  | .int a, .int b => if small a || small b then some (.int (a * b)) else none
  | .tuple a, .int b => if 0 ≤ b ∧ b ≤ 1000 ∧ a.length ≤ 1000 ∧ plD a = false ∧ plM = false then some (.tuple (List.replicate b.toNat a).flatten) else none
  | _, _ => none
def binD : Operator → PyData → PyData → Option PyData
  | .Add, a, b => addD a b
  | .Sub, .int a, .int b => some (.int (a - b))
  | .Mult, a, b => mulD a b
  | .FloorDiv, .int a, .int b => if 0 < b ∧ b < 1073741824 then some (.int (a / b)) else none
  | .Mod, .int a, .int b => if 0 < b then some (.int (a % b)) else none
  | .Pow, .int a, .int b => if 0 ≤ b ∧ b ≤ 1000 ∧ small a = true then some (.int (a ^ b.toNat)) else none
  | _, _, _ => none
def eqD (a b : PyData) : Option Bool :=
  match a, b with
  | .dict x, .dict y => if x.isEmpty || y.isEmpty then some (x.isEmpty && y.isEmpty) else none
  | .list x, .list [] => some x.isEmpty
  | a, b => if noD a && noD b && decide (min a.depth b.depth ≤ 64) then some (PyData.eqv a b) else none
def keyD : PyData → Bool
  | .str _ => true
  | _ => false
def inD (x y : PyData) : Option Bool :=
  match y with
  | .list ds => if noD x && noDAll ds && decide (x.depth ≤ 64) then some (ds.any fun z => PyData.eqv z x) else none
  | .tuple ds => if noD x && noDAll ds && decide (x.depth ≤ 64) then some (ds.any fun z => PyData.eqv z x) else none
  | .dict kvs => if keyD x then some (kvs.any fun kv => PyData.eqv kv.1 x) else none
  | .str s => match x with
    | .str c => match c.cps.toList with
      | [k] => some (decide (k ∈ s.cps.toList))
      | _ => none
    | _ => none
  | _ => none
def cmpD : CmpOp → PyData → PyData → Option Bool
  | .Eq, a, b => eqD a b
  | .NotEq, a, b => (eqD a b).map (!·)
  | .Lt, .int a, .int b => some (decide (a < b))
  | .Lt, .str a, .str b => some (decide (a.cps.toList < b.cps.toList))
  | .LtE, .int a, .int b => some (decide (a ≤ b))
  | .Gt, .int a, .int b => some (decide (b < a))
  | .GtE, .int a, .int b => some (decide (b ≤ a))
  | .In, a, b => inD a b
  | .NotIn, a, b => (inD a b).map (!·)
  | .Is, a, .none => some (match a with | .none => true | _ => false)
  | .IsNot, a, .none => some (match a with | .none => false | _ => true)
  | .Is, .bool a, .bool b => some (a == b)
  | .IsNot, .bool a, .bool b => some (!(a == b))
  | _, _, _ => none
def atD (xs : List PyData) (i : Int) : Option PyData :=
  if 0 ≤ i then xs[i.toNat]? else if 0 ≤ i + xs.length then xs[(i + xs.length).toNat]? else none
def lookD (kvs : List (PyData × PyData)) (k : PyData) : Option PyData :=
  match kvs with
  | [] => none
  | (a, b) :: r => if PyData.eqv a k then some b else lookD r k
def idxD : PyData → PyData → Option PyData
  | .list xs, .int i => atD xs i
  | .tuple xs, .int i => atD xs i
  | .dict kvs, k => if keyD k then lookD kvs k else none
  | _, _ => none
def bndD (n : Nat) : PyData → Option Nat
  | .int i => some (if 0 ≤ i then min i.toNat n else (i + n).toNat)
  | _ => none
def loD (n : Nat) : PyData → Option Nat
  | .none => some 0
  | d => bndD n d
def hiD (n : Nat) : PyData → Option Nat
  | .none => some n
  | d => bndD n d
def cutD (xs : List PyData) (lo hi : PyData) : Option (List PyData) :=
  match loD xs.length lo, hiD xs.length hi with
  | some a, some b => some ((xs.drop a).take (b - a))
  | _, _ => none
def slcD : PyData → PyData → PyData → Option PyData
  | .list xs, lo, hi => (cutD xs lo hi).map .list
  | .tuple xs, lo, hi => (cutD xs lo hi).map .tuple
  | _, _, _ => none
def revD : PyData → Option PyData
  | .list xs => some (.list xs.reverse)
  | .tuple xs => some (.tuple xs.reverse)
  | _ => none
def lenD : PyData → Option PyData
  | .list xs => some (.int xs.length)
  | .tuple xs => some (.int xs.length)
  | .dict xs => some (.int xs.length)
  | .str x => if x.length ≤ lim then some (.int x.length) else none
  | _ => none
def tyD : Ty → PyData → Bool
  | .int, .int _ => true
  | .int, .bool _ => true
  | .bool, .bool _ => true
  | .str, .str _ => true
  | .tuple, .tuple _ => true
  | .list, .list _ => true
  | _, _ => false
/-- d[k] = v -/
def putD (kvs : List (PyData × PyData)) (k v : PyData) : List (PyData × PyData) :=
  if (kvs.any fun kv => PyData.eqv kv.1 k) = true then kvs.map (fun kv => if PyData.eqv kv.1 k = true then (kv.1, v) else kv) else kvs ++ [(k, v)]
def mergeD (kvs : List (PyData × PyData)) : List (PyData × PyData) → List (PyData × PyData)
  | [] => kvs
  | (k, v) :: r => mergeD (putD kvs k v) r
mutual
/-- what may stand in a key of a dict with tuple keys: ints, texts and such tuples -/
def kyD : PyData → Bool
  | .int _ | .str _ => true
  | .tuple xs => kyDs xs
  | _ => false
def kyDs : List PyData → Bool
  | [] => true
  | x :: xs => kyD x && kyDs xs
end
def ktD : PyData → Bool
  | .tuple xs => kyDs xs && decide ((PyData.tuple xs).depth ≤ 8)
  | _ => false
def getD2 : PyData → PyData → PyData → Option PyData
  | .dict kvs, k, x => if keyD k then some ((lookD kvs k).getD x) else none
  | _, _, _ => none
/-! sorting -/
def insD (x : PyData) : List PyData → List PyData
  | [] => [x]
  | y :: r => if PySem.W.dataLt y x then y :: insD x r else x :: y :: r
def sortD : List PyData → List PyData
  | [] => []
  | x :: r => insD x (sortD r)
def allAlike : List PyData → Bool
  | [] => true
  | x :: r => (x :: r).all (fun y => PySem.W.alike x y && PySem.W.alike y x) && allAlike r
def sortableD (ds : List PyData) : Bool :=
  (ds.all fun d => match d with | .tuple _ => true | _ => false) || (ds.all fun d => match d with | .none => false | .tuple _ => false | _ => true)
def sortedD (ds : List PyData) : Option PyData :=
  if allAlike ds && sortableD ds && noDAll ds && ds.all (fun d => decide (d.depth ≤ 40)) then some (.list (sortD ds)) else none
def intsD : List PyData → Option (List Int)
  | [] => some []
  | .int i :: r => (intsD r).map (i :: ·)
  | _ :: _ => none
def boolsD : List PyData → Option (List Bool)
  | [] => some []
  | .bool b :: r => (boolsD r).map (b :: ·)
  | _ :: _ => none
def minI (x : Int) : List Int → Int
  | [] => x
  | y :: r => minI (if y < x then y else x) r
def maxI (x : Int) : List Int → Int
  | [] => x
  | y :: r => maxI (if x < y then y else x) r
def minD : List PyData → Option PyData
  | ds => match intsD ds with
    | some (x :: r) => some (.int (minI x r))
    | _ => none
def maxD : List PyData → Option PyData
  | ds => match intsD ds with
    | some (x :: r) => some (.int (maxI x r))
    | _ => none
def seqD : PyData → Option (List PyData)
  | .list xs => some xs
  | .tuple xs => some xs
  | _ => none
/-- .. and a text -/
def walkS : PyData → Option (List PyData)
  | .list xs => some xs
  | .tuple xs => some xs
  | .str x => if x.length ≤ lim then some (x.cps.toList.map fun c => .str ⟨#[c]⟩) else none
  | _ => none
/-- what a for walks -/
def walkD : PyData → Option (List PyData)
  | .list xs => some xs
  | .tuple xs => some xs
  | .dict kvs => some (kvs.map (·.1))
  | .str x => if x.length ≤ lim then some (x.cps.toList.map fun c => .str ⟨#[c]⟩) else none
  | _ => none
def pairsD : List PyData → Option (List (PyData × PyData))
  | [] => some []
  | .tuple [k, v] :: r => if keyD k then (pairsD r).map ((k, v) :: ·) else none
  | _ :: _ => none
def itemsD (kvs : List (PyData × PyData)) : List PyData := kvs.map fun kv => .tuple [kv.1, kv.2]
def flatKey : PyData → Bool
  | .str _ => true
  | .int _ => true
  | _ => false
/-- the members, each once -/
def dedup : List PyData → List PyData
  | [] => []
  | x :: r => if r.any (fun y => PyData.eqv y x) then dedup r else x :: dedup r
def rngD (a b : Int) : List PyData := (List.range (b - a).toNat).map fun k => .int (a + (k : Nat))
def rngOk (a b : Int) : Bool := decide (-1000000 ≤ a) && decide (a ≤ 1000000) && decide (-1000000 ≤ b) && decide (b ≤ 1000000)
def zipD : List PyData → List PyData → List PyData
  | a :: r, b :: s => .tuple [a, b] :: zipD r s
  | _, _ => []
def zip2D : PyData → PyData → Option (List PyData)
  | .list xs, .list ys => if xs.all (fun x => !isPr x) then some (zipD xs ys) else none
  | .tuple xs, .tuple ys => if xs.all (fun x => !isPr x) then some (zipD xs ys) else none
  | _, _ => none
def enumD : Nat → List PyData → List PyData
  | _, [] => []
  | n, a :: r => .tuple [.int (n : Nat), a] :: enumD (n + 1) r
def sorted1D : List PyData → Option PyData
  | [.list ds] => sortedD ds
  | [.tuple ds] => sortedD ds
  | [.dict kvs] => sortedD (kvs.map (·.1))
  | _ => none
def tuple1D : List PyData → Option PyData
  | [.list ds] => some (.tuple ds)
  | [.tuple ds] => some (.tuple ds)
  | _ => none
def list1D : List PyData → Option PyData
  | [.list ds] => some (.list ds)
  | [.tuple ds] => some (.list ds)
  | [.dict kvs] => some (.list (kvs.map (·.1)))
  | _ => none
def dict1D : List PyData → Option PyData
  | [.list ds] => (pairsD ds).map fun kvs => .dict (mergeD [] kvs)
  | [.tuple ds] => if plD ds then (pairsD ds).map fun kvs => .dict (mergeD [] kvs) else none
  | [.dict kvs] => some (.dict kvs)
  | _ => none
def sum1D : List PyData → Option PyData
  | [.list ds] => (intsD ds).map fun is => .int is.sum
  | _ => none
def min1D : List PyData → Option PyData
  | [.list ds] => minD ds
  | _ => none
def max1D : List PyData → Option PyData
  | [.list ds] => maxD ds
  | [.tuple ds] => maxD ds
  | _ => none
def min2D : List PyData → Option PyData
  | [.int a, .int b] => some (.int (if b < a then b else a))
  | _ => none
def max2D : List PyData → Option PyData
  | [.int a, .int b] => some (.int (if a < b then b else a))
  | _ => none
def any1D : List PyData → Option PyData
  | [.list ds] => (boolsD ds).map fun bs => .bool (bs.any id)
  | _ => none
def all1D : List PyData → Option PyData
  | [.list ds] => (boolsD ds).map fun bs => .bool (bs.all id)
  | _ => none
def bool1D : List PyData → Option PyData
  | [.int i] => some (.bool (i != 0))
  | _ => none
def int1D : List PyData → Option PyData
  | [.bool b] => some (.int (if b then 1 else 0))
  | _ => none
def lensetD : List PyData → Option PyData
  | [.list ds] => if ds.all flatKey && decide (ds.length ≤ 1000) then some (.int (dedup ds).length) else none
  | _ => none
def sortsetD : List PyData → Option PyData
  | [.list ds] => if ds.all flatKey && decide (ds.length ≤ 1000) then sortedD (dedup ds) else none
  | [.tuple ds] => if ds.all flatKey && decide (ds.length ≤ 1000) then sortedD (dedup ds) else none
  | _ => none
def sortitemsD : List PyData → Option PyData
  | [.dict kvs] => sortedD (itemsD kvs)
  | _ => none
def listitemsD : List PyData → Option PyData
  | [.dict kvs] => some (.list (itemsD kvs))
  | _ => none
def listrngD : List PyData → Option PyData
  | [.int b] => if rngOk 0 b then some (.list (rngD 0 b)) else none
  | _ => none
def minvalsD : List PyData → Option PyData
  | [.dict kvs] => match sortedD (kvs.map (·.2)) with
    | some (.list (x :: _)) => some x
    | _ => none
  | _ => none
def maxvalsD : List PyData → Option PyData
  | [.dict kvs] => maxD (kvs.map (·.2))
  | _ => none
/-- the least of some tuples -/
def minT : List PyData → Option PyData
  | [] => none
  | x :: r => if allAlike (x :: r) && sortableD (x :: r) && noDAll (x :: r) && (x :: r).all (fun d => decide (d.depth ≤ 40)) then some (r.foldl (fun a y => if PySem.W.dataLt y a then y else a) x) else none
/-- .. the greatest -/
def maxT : List PyData → Option PyData
  | [] => none
  | x :: r => if allAlike (x :: r) && sortableD (x :: r) && noDAll (x :: r) && (x :: r).all (fun d => decide (d.depth ≤ 40)) then some (r.foldl (fun a y => if PySem.W.dataLt a y then y else a) x) else none
/-- two keys that hash apart in every World -/
def cpK : PyData → PyData → Bool
  | .tuple [.tuple [.tuple [.str a, .int i], .tuple [.str b, .int j]]], .tuple [.tuple [.tuple [.str c, .int k], .tuple [.str d, .int l]]] => decide (c = a) && decide (d = b) && decide (i = 9) && decide (j = 5) && decide (k = 9) && decide (l = 0)
  | _, _ => false
/-- such a dict may be copied -/
def cpOk : List (PyData × PyData) → Bool
  | [] => true
  | [_] => true
  | [p, q] => cpK p.1 q.1
  | _ => false
def dictzipD : List PyData → Option PyData
  | [.list a, .list b] => (pairsD (zipD a b)).map fun kvs => .dict (mergeD [] kvs)
  | _ => none
def bltD : Blt → List PyData → Option PyData
  | .sorted1 => sorted1D
  | .tuple1 => tuple1D
  | .list1 => list1D
  | .dict1 => dict1D
  | .sum1 => sum1D
  | .min1 => min1D
  | .max1 => max1D
  | .min2 => min2D
  | .max2 => max2D
  | .any1 => any1D
  | .all1 => all1D
  | .bool1 => bool1D
  | .int1 => int1D
  | .lenset => lensetD
  | .sortset => sortsetD
  | .sortitems => sortitemsD
  | .listitems => listitemsD
  | .listrng => listrngD
  | .minvals => minvalsD
  | .maxvals => maxvalsD
  | .dictzip => dictzipD

/-! ### targets -/
mutual
def bindT (env : Ev) : Tg → PyData → Option Ev
  | .nm i, d => some (env.set i (.sh d))
  | .tp ts, .tuple ds => bindTs env ts ds
  | .tp _, _ => none
def bindTs (env : Ev) : Tgs → List PyData → Option Ev
  | .nil, [] => some env
  | .cons t ts, d :: ds => match bindT env t d with
    | some env' => bindTs env' ts ds
    | none => none
  | .nil, _ :: _ => none
  | .cons _ _, [] => none
end
mutual
def slotsT : Tg → List Nat
  | .nm i => [i]
  | .tp ts => slotsTs ts
def slotsTs : Tgs → List Nat
  | .nil => []
  | .cons t ts => slotsT t ++ slotsTs ts
end
def wipeE (env : Ev) : List Nat → Ev
  | [] => env
  | v :: vs => (wipeE env vs).set v .un

/-- each item by f: skipped, or an item of the new list -/
def collect (f : PyData → Option (Option PyData)) : List PyData → Option (List PyData)
  | [] => some []
  | d :: ds => match f d with
    | none => none
    | some none => collect f ds
    | some (some y) => (collect f ds).map (y :: ·)
def collect2 (f : PyData → Option (List PyData)) : List PyData → Option (List PyData)
  | [] => some []
  | d :: ds => match f d with
    | none => none
    | some ys => (collect2 f ds).map (ys ++ ·)
def collectD (f : PyData → Option (PyData × PyData)) : List PyData → List (PyData × PyData) → Option (List (PyData × PyData))
  | [], acc => some acc
  | d :: ds, acc => match f d with
    | none => none
    | some (k, v) => collectD f ds (putD acc k v)

/-- a part of a slice is left out, or an int -/
def okB : E → PyData → Bool
  | .cst _, _ => true
  | _, .none => false
  | _, _ => true
def isNone : E → Bool
  | .cst .none => true
  | _ => false
section
variable (Ph : Nat → List PyData → Option PyData)
mutual
def evE (env : Ev) : E → Option PyData
  | .var i => match env[i]? with
    | some (.sh d) => some d
    | _ => none
  | .cst d => some d
  | .bin op a b => match evO env a with
    | some x => match evO env b with
      | some y => binD op x y
      | none => none
    | none => none
  | .cat a b => match evO env a with
    | some (.list x) => match evO env b with
      | some (.list y) => if x.length + y.length ≤ lim then some (.list (x ++ y)) else none
      | _ => none
    | _ => none
  | .cmp op a b => match evO env a with
    | some x => match evO env b with
      | some y => (cmpD op x y).map .bool
      | none => none
    | none => none
  | .chn op op' a b c => match evE env a with
    | some x => match evE env b with
      | some y => match cmpD op x y with
        | some true => match evE env c with
          | some z => (cmpD op' y z).map .bool
          | none => none
        | some false => some (.bool false)
        | none => none
      | none => none
    | none => none
  | .and es => evAnd env es
  | .or es => evOr env es
  | .not a => match evE env a with
    | some (.bool b) => some (.bool (!b))
    | _ => none
  | .ife c a b => match evE env c with
    | some (.bool true) => evE env a
    | some (.bool false) => evE env b
    | _ => none
  | .idx a b => match evO env a with
    | some x => match evE env b with
      | some y => idxD x y
      | none => none
    | none => none
  | .slc a lo hi => match evO env a with
    | some x => match evE env lo with
      | some l => match evE env hi with
        | some h => if okB lo l && okB hi h then slcD x l h else none
        | none => none
      | none => none
    | none => none
  | .rev a => match evO env a with
    | some x => revD x
    | none => none
  | .tup es => (evEs env es).map .tuple
  | .lst es => (evEs env es).map .list
  | .dc0 => some (.dict [])
  | .dc1 k v => match evE env k with
    | some x => match evE env v with
      | some y => if keyD x then some (.dict [(x, y)]) else none
      | none => none
    | none => none
  | .call f es => match evEs env es with
    | some ds => Ph f ds
    | none => none
  | .len a => match evO env a with
    | some x => lenD x
    | none => none
  | .blt b es => match evEs env es with
    | some ds => bltD b ds
    | none => none
  | .isi a ts => match evO env a with
    | some x => some (.bool (ts.any fun t => tyD t x))
    | none => none
  | .get a k x => match evO env a with
    | some d => match evE env k with
      | some kk => match evE env x with
        | some z => getD2 d kk z
        | none => none
      | none => none
    | none => none
  | .cnt a x => match evO env a with
    | some (.tuple ds) => match evE env x with
      | some (.int i) => if plD ds then (intsD ds).map fun is => .int (is.count i) else none
      | _ => none
    | _ => none
  | .cpr elt tg it cs => match evI env it with
    | some ds => (collect (fun d => match bindT (wipeE env (slotsT tg)) tg d with
        | some env' => match evAnd env' cs with
          | some (.bool true) => (evE env' elt).map some
          | some (.bool false) => some none
          | _ => none
        | none => none) ds).map .list
    | none => none
  | .cp2 elt tg it tg2 it2 => match evI env it with
    | some ds => match collect2 (fun d => match bindT (wipeE env (slotsT tg ++ slotsT tg2)) tg d with
        | some env' => match evI env' it2 with
          | some ds2 => collect (fun d2 => match bindT (wipeE env' (slotsT tg2)) tg2 d2 with
            | some env2 => (evE env2 elt).map some
            | none => none) ds2
          | none => none
        | none => none) ds with
      | some ys => if ys.length ≤ lim then some (.list ys) else none
      | none => none
    | none => none
  | .dcp k v tg it => match evI env it with
    | some ds => (collectD (fun d => match bindT (wipeE env (slotsT tg)) tg d with
        | some env' => match evE env' k with
          | some x => match evE env' v with
            | some y => if keyD x then some (x, y) else none
            | none => none
          | none => none
        | none => none) ds []).map .dict
    | none => none
  | .tin neg i k => match evE env k with
    | some x => match env[i]? with
      | some (.dt kds) => if ktD x then some (.bool (if neg then !(lookD kds x).isSome else (lookD kds x).isSome)) else none
      | _ => none
    | none => none
  | .tgt i k x => match env[i]? with
    | some (.dt kds) => match evE env k with
      | some kk => match evE env x with
        | some z => if ktD kk then some ((lookD kds kk).getD z) else none
        | none => none
      | none => none
    | _ => none
  | .tsr i => match env[i]? with
    | some (.dt kds) => sortedD (kds.map (·.1))
    | _ => none
  | .tmn i => match env[i]? with
    | some (.dt kds) => minT (kds.map (·.2))
    | _ => none
  | .tmx i => match env[i]? with
    | some (.dt kds) => maxT (kds.map (·.2))
    | _ => none
  | .tne i => match env[i]? with
    | some (.dt kds) => some (.bool (!kds.isEmpty))
    | _ => none
def evEs (env : Ev) : Es → Option (List PyData)
  | .nil => some []
  | .cons e es => match evE env e with
    | some d => match evEs env es with
      | some ds => some (d :: ds)
      | none => none
    | none => none
def evAnd (env : Ev) : Es → Option PyData
  | .nil => some (.bool true)
  | .cons e es => match evE env e with
    | some (.bool true) => evAnd env es
    | some (.bool false) => some (.bool false)
    | _ => none
def evOr (env : Ev) : Es → Option PyData
  | .nil => some (.bool false)
  | .cons e es => match evE env e with
    | some (.bool false) => evOr env es
    | some (.bool true) => some (.bool true)
    | _ => none
def evO (env : Ev) : O → Option PyData
  | .ex e => evE env e
  | .bo i => match env[i]? with
    | some (.ow d) => some d
    | some (.sh d) => some d
    | _ => none
def evI (env : Ev) : I → Option (List PyData)
  | .vr i => match env[i]? with
    | some (.sh d) => walkD d
    | _ => none
  | .val e => match evE env e with
    | some d => walkS d
    | none => none
  | .rg1 b => match evE env b with
    | some (.int j) => if rngOk 0 j then some (rngD 0 j) else none
    | _ => none
  | .rg2 a b => match evE env a with
    | some (.int i) => match evE env b with
      | some (.int j) => if rngOk i j then some (rngD i j) else none
      | _ => none
    | _ => none
  | .enu e => match evE env e with
    | some d => if plM = true then none else (seqD d).map (enumD 0)
    | none => none
  | .zip a b => match evE env a with
    | some x => match evE env b with
      | some y => zip2D x y
      | none => none
    | none => none
  | .di i => match env[i]? with
    | some (.sh (.dict kvs)) => some (itemsD kvs)
    | _ => none
end

/-- is the value of e new, held by nobody else? (fr tells it of the defs) -/
def frs (fr : Nat → Bool) : E → Bool
  | .cat .. => true
  | .lst .. => true
  | .dc0 => true
  | .dc1 .. => true
  | .blt .list1 _ => true
  | .blt .dict1 _ => true
  | .blt .listrng _ => true
  | .cpr .. => true
  | .call f _ => fr f
  | _ => false

inductive Out where
  | nx (env : Ev)
  | rt (d : PyData) (fr : Bool)

def loopW (c : Ev → Option PyData) (body : Ev → Option Out) : Nat → Ev → Option Out
  | 0, _ => none
  | n + 1, env => match c env with
    | some (.bool true) => match body env with
      | some (.nx env') => loopW c body n env'
      | r => r
    | some (.bool false) => some (.nx env)
    | _ => none
def loopF (tg : Tg) (body : Ev → Option Out) : List PyData → Ev → Option Out
  | [], env => some (.nx env)
  | d :: ds, env => match bindT env tg d with
    | some env' => match body env' with
      | some (.nx env2) => loopF tg body ds env2
      | r => r
    | none => none
def wfuel : Nat := 1000000
def setAll (fr : Nat → Bool) : List Nat → Es → List PyData → Ev → Option Ev
  | [], .nil, [], env => some env
  | i :: is, .cons e es, d :: ds, env => setAll fr is es ds (env.set i (if frs fr e then .ow d else .sh d))
  | _, _, _, _ => none
def sixD : PyData → PyData → PyData → Option PyData
  | .list xs, .int i, v => if 0 ≤ i ∧ i.toNat < xs.length then some (.list (xs.set i.toNat v)) else none
  | .dict kvs, k, v => if keyD k && decide (kvs.length ≤ lim) then some (.dict (putD kvs k v)) else none
  | _, _, _ => none
def appD : PyData → PyData → Option PyData
  | .list xs, v => if xs.length ≤ lim then some (.list (xs ++ [v])) else none
  | _, _ => none
def updD : PyData → PyData → Option PyData
  | .dict a, .dict b => if a.length + b.length ≤ lim then some (.dict (mergeD a b)) else none
  | _, _ => none
def eraseD (x : PyData) : List PyData → Option (List PyData)
  | [] => none
  | y :: r => if PyData.eqv y x then some r else (eraseD x r).map (y :: ·)
def rmvD : PyData → PyData → Option PyData
  | .list xs, .int i => match intsD xs with
    | some _ => (eraseD (.int i) xs).map .list
    | none => none
  | _, _ => none
variable (fr : Nat → Bool)
mutual
def exS (env : Ev) : S → Option Out
  | .asg i e => match evE Ph env e with
    | some d => some (.nx (env.set i (if frs fr e then .ow d else .sh d)))
    | none => none
  | .unp tg e => match evE Ph env e with
    | some d => (bindT env tg d).map .nx
    | none => none
  | .par is es => match evEs Ph env es with
    | some ds => (setAll fr is es ds env).map .nx
    | none => none
  | .six i k v => match evE Ph env v with
    | some y => match evE Ph env k with
      | some x => match env[i]? with
        | some (.ow d) => (sixD d x y).map fun d' => .nx (env.set i (.ow d'))
        | _ => none
      | none => none
    | none => none
  | .app i e => match evE Ph env e with
    | some y => match env[i]? with
      | some (.ow d) => (appD d y).map fun d' => .nx (env.set i (.ow d'))
      | _ => none
    | none => none
  | .upd i e => match evE Ph env e with
    | some y => match env[i]? with
      | some (.ow d) => (updD d y).map fun d' => .nx (env.set i (.ow d'))
      | _ => none
    | none => none
  | .rmv i e => match evE Ph env e with
    | some y => match env[i]? with
      | some (.ow d) => (rmvD d y).map fun d' => .nx (env.set i (.ow d'))
      | _ => none
    | none => none
  | .apop i j k es => match evE Ph env k with
    | some (.int m) => match env[j]? with
      | some (.ow (.list xs)) => if 0 ≤ m ∧ m < 1000 then match xs[m.toNat]? with
          | some x => match evEs Ph (env.set j .un) es with
            | some ds => match env[i]? with
              | some (.ow d) => if i = j ∨ isPr x = true then none else (appD d (.tuple (x :: ds))).map fun d' => .nx ((env.set j (.ow (.list (xs.eraseIdx m.toNat)))).set i (.ow d'))
              | _ => none
            | none => none
          | none => none
        else none
      | _ => none
    | _ => none
  | .ret e => match evE Ph env e with
    | some d => some (.rt d (frs fr e))
    | none => none
  | .rto i => match env[i]? with
    | some (.ow d) => some (.rt d true)
    | _ => none
  | .ife c a b => match evE Ph env c with
    | some (.bool true) => exSs env a
    | some (.bool false) => exSs env b
    | _ => none
  | .whl c b => loopW (fun env => evE Ph env c) (fun env => exSs env b) wfuel env
  | .for tg it b => match evI Ph env it with
    | some ds => loopF tg (fun env => exSs env b) ds env
    | none => none
  | .shr i => match env[i]? with
    | some (.ow d) => some (.nx (env.set i (.sh d)))
    | some (.sh _) => some (.nx env)
    | _ => none
  | .tnw i => some (.nx (env.set i (.dt [])))
  | .tn1 i k v => match evE Ph env k with
    | some x => match evE Ph env v with
      | some y => if ktD x then some (.nx (env.set i (.dt [(x, y)]))) else none
      | none => none
    | none => none
  | .tmv i j => match env[j]? with
    | some (.dt kds) => some (.nx ((env.set j .un).set i (.dt kds)))
    | _ => none
  | .tcp i j => match env[j]? with
    | some (.dt kds) => if cpOk kds then some (.nx (env.set i (.dt kds))) else none
    | _ => none
  | .tpt i k v => match evE Ph env v with
    | some y => match evE Ph env k with
      | some x => match env[i]? with
        | some (.dt kds) => if ktD x && decide (kds.length ≤ lim) then some (.nx (env.set i (.dt (putD kds x y)))) else none
        | _ => none
      | none => none
    | none => none
  | .tfk tg j b => match env[j]? with
    | some (.dt kds) => loopF tg (fun env => exSs env b) (kds.map (·.1)) (env.set j .un)
    | _ => none
  | .tfi tg j b => match env[j]? with
    | some (.dt kds) => if kds.all (fun p => !isPr p.1) then loopF tg (fun env => exSs env b) (itemsD kds) (env.set j .un) else none
    | _ => none
def exSs (env : Ev) : Ss → Option Out
  | .nil => some (.nx env)
  | .cons s ss => match exS env s with
    | some (.nx env') => exSs env' ss
    | r => r
end
end

/-- a def: its parameters, its slots, its body, whether it hands back something new -/
structure Fn where
  np : Nat
  ns : Nat
  body : Ss
  fresh : Bool
def runFn (Ph : Nat → List PyData → Option PyData) (fr : Nat → Bool) (f : Fn) (ds : List PyData) : Option PyData :=
  if ds.length = f.np then match exSs Ph fr (ds.map .sh ++ List.replicate (f.ns - f.np) .un) f.body with
    | some (.rt d b) => if f.fresh && !b then none else some d
    | _ => none
  else none
abbrev Tab := List (Nat × Fn)
def frOf (T : Tab) (f : Nat) : Bool := match T.lookup f with
  | some fn => fn.fresh
  | none => false
/-- n calls, one in another -/
def Phi (T : Tab) : Nat → Nat → List PyData → Option PyData
  | 0, _, _ => none
  | n + 1, f, ds => match T.lookup f with
    | some fn => runFn (Phi T n) (frOf T) fn ds
    | none => none
def st (l : List Nat) : Str := ⟨l.toArray⟩
end Wr
end

section
set_option Elab.async false
set_option linter.all false
set_option maxRecDepth 100000
set_option maxHeartbeats 4000000
/-! WrB: how data stands in the abstract heap; frames. -/
namespace Wr
open PySem PySem.Spec PyProof.Rows L2

abbrev strOk (x : Str) : Bool := PyData.strOk x
def kD : Key → PyData
  | .inl i => .int i
  | .inr x => .str x
/-- a tuple that is known to have no own dict -/
def Pln (H : Hp) (a : Addr) : Prop := ∃ o xs, H a = some (.frz o (.tup xs)) ∧ o.dict = none
mutual
inductive Rp (K : PySem.W.Frag) (H : Hp) : V → PyData → Prop
  | non : Rp K H .non .none
  | bl (b : Bool) : Rp K H (.bl b) (.bool b)
  | int (i : Int) : Rp K H (.int i) (.int i)
  | str (x : Str) : strOk x = true → Rp K H (.str x) (.str x)
  | lst {a : Addr} {xs : List V} {ds : List PyData} : SqL K H a xs → RpAll K H xs ds → Rp K H (.ref a) (.list ds)
  | tup {a : Addr} {xs : List V} {ds : List PyData} : SqT K H a xs → RpAll K H xs ds → (plD ds = true → Pln H a) → Rp K H (.ref a) (.tuple ds)
  | dic {a : Addr} {kvs : List (Key × V)} {kds : List (PyData × PyData)} : Rd H a (.dK kvs) → RpKV K H kvs kds → Rp K H (.ref a) (.dict kds)
inductive RpAll (K : PySem.W.Frag) (H : Hp) : List V → List PyData → Prop
  | nil : RpAll K H [] []
  | cons {v : V} {vs : List V} {d : PyData} {ds : List PyData} : Rp K H v d → RpAll K H vs ds → RpAll K H (v :: vs) (d :: ds)
inductive RpKV (K : PySem.W.Frag) (H : Hp) : List (Key × V) → List (PyData × PyData) → Prop
  | nil : RpKV K H [] []
  | cons {x : Str} {v : V} {kvs : List (Key × V)} {d : PyData} {kds : List (PyData × PyData)} : strOk x = true → Rp K H v d → RpKV K H kvs kds → RpKV K H ((.inr x, v) :: kvs) ((.str x, d) :: kds)
end

/-- what can be read in Hs can be read in H -/
def View (Hs H : Hp) : Prop := (∀ a u, Rd Hs a u → Rd H a u) ∧ ∀ a o xs, Hs a = some (.frz o (.tup xs)) → H a = some (.frz o (.tup xs))
theorem View.refl (H : Hp) : View H H := ⟨fun _ _ h => h, fun _ _ _ h => h⟩
theorem View.trans {a b c : Hp} (h : View a b) (g : View b c) : View a c := ⟨fun x u q => g.1 x u (h.1 x u q), fun x o xs q => g.2 x o xs (h.2 x o xs q)⟩
theorem Pln.view {Hs H : Hp} {a : Addr} (w : View Hs H) (p : Pln Hs a) : Pln H a := let ⟨o, xs, e, n⟩ := p; ⟨o, xs, w.2 a o xs e, n⟩
theorem View.of_same {Hs H : Hp} (h : Same Hs H) : View Hs H := ⟨fun a u q => by
  rcases q with q | ⟨o, q⟩
  · exact .inl (h _ _ q)
  · exact .inr ⟨o, h _ _ q⟩, fun a o xs e => h _ _ e⟩
theorem View.seqL {K : PySem.W.Frag} {Hs H : Hp} {a : Addr} {xs : List V} (v : View Hs H) (h : SqL K Hs a xs) : SqL K H a xs := by
  rcases h with h | h
  · exact .inl (v.1 _ _ h)
  · exact .inr h
theorem View.seqT {K : PySem.W.Frag} {Hs H : Hp} {a : Addr} {xs : List V} (v : View Hs H) (h : SqT K Hs a xs) : SqT K H a xs := by
  rcases h with h | h
  · exact .inl (v.1 _ _ h)
  · exact .inr h
mutual
theorem Rp.view {K : PySem.W.Frag} {Hs H : Hp} (w : View Hs H) : ∀ {d : PyData} {v : V}, Rp K Hs v d → Rp K H v d
  | _, _, .non => .non
  | _, _, .bl b => .bl b
  | _, _, .int i => .int i
  | _, _, .str x h => .str x h
  | _, _, .lst h r => .lst (w.seqL h) (RpAll.view w r)
  | _, _, .tup h r p => .tup (w.seqT h) (RpAll.view w r) fun z => (p z).view w
  | _, _, .dic h r => .dic (w.1 _ _ h) (RpKV.view w r)
theorem RpAll.view {K : PySem.W.Frag} {Hs H : Hp} (w : View Hs H) : ∀ {ds : List PyData} {vs : List V}, RpAll K Hs vs ds → RpAll K H vs ds
  | _, _, .nil => .nil
  | _, _, .cons h r => .cons (Rp.view w h) (RpAll.view w r)
theorem RpKV.view {K : PySem.W.Frag} {Hs H : Hp} (w : View Hs H) : ∀ {kds : List (PyData × PyData)} {kvs : List (Key × V)}, RpKV K Hs kvs kds → RpKV K H kvs kds
  | _, _, .nil => .nil
  | _, _, .cons h1 h r => .cons h1 (Rp.view w h) (RpKV.view w r)
end
section
variable {K : PySem.W.Frag} {H : Hp}
theorem RpAll.length : ∀ {vs : List V} {ds : List PyData}, RpAll K H vs ds → vs.length = ds.length
  | _, _, .nil => rfl
  | _, _, .cons _ r => congrArg (· + 1) (RpAll.length r)
theorem RpAll.append : ∀ {vs ws : List V} {ds es : List PyData}, RpAll K H vs ds → RpAll K H ws es → RpAll K H (vs ++ ws) (ds ++ es)
  | _, _, _, _, .nil, s => s
  | _, _, _, _, .cons h r, s => .cons h (RpAll.append r s)
theorem RpAll.get : ∀ {vs : List V} {ds : List PyData} {i : Nat} {d : PyData}, RpAll K H vs ds → ds[i]? = some d → ∃ v, vs[i]? = some v ∧ Rp K H v d
  | _, _, _, _, .nil, e => by simp at e
  | _, _, 0, _, .cons h _, e => by simp at e; subst e; exact ⟨_, rfl, h⟩
  | _, _, i + 1, _, .cons _ r, e => by
    obtain ⟨v, h1, h2⟩ := RpAll.get (i := i) r (by simpa using e)
    exact ⟨v, by simpa using h1, h2⟩
theorem RpAll.get' : ∀ {vs : List V} {ds : List PyData} {i : Nat} {v : V}, RpAll K H vs ds → vs[i]? = some v → ∃ d, ds[i]? = some d ∧ Rp K H v d
  | _, _, _, _, .nil, e => by simp at e
  | _, _, 0, _, .cons h _, e => by simp at e; subst e; exact ⟨_, rfl, h⟩
  | _, _, i + 1, _, .cons _ r, e => by
    obtain ⟨v, h1, h2⟩ := RpAll.get' (i := i) r (by simpa using e)
    exact ⟨v, by simpa using h1, h2⟩
theorem RpAll.drop : ∀ {vs : List V} {ds : List PyData} (n : Nat), RpAll K H vs ds → RpAll K H (vs.drop n) (ds.drop n)
  | _, _, 0, r => r
  | _, _, _ + 1, .nil => .nil
  | _, _, n + 1, .cons _ r => RpAll.drop n r
theorem RpAll.take : ∀ {vs : List V} {ds : List PyData} (n : Nat), RpAll K H vs ds → RpAll K H (vs.take n) (ds.take n)
  | _, _, 0, _ => .nil
  | _, _, _ + 1, .nil => .nil
  | _, _, n + 1, .cons h r => .cons h (RpAll.take n r)
theorem RpAll.reverse : ∀ {vs : List V} {ds : List PyData}, RpAll K H vs ds → RpAll K H vs.reverse ds.reverse
  | _, _, .nil => .nil
  | _, _, .cons h r => by rw [List.reverse_cons, List.reverse_cons]; exact (RpAll.reverse r).append (.cons h .nil)
theorem RpAll.set {v : V} {d : PyData} (h : Rp K H v d) : ∀ {vs : List V} {ds : List PyData} (i : Nat), RpAll K H vs ds → RpAll K H (vs.set i v) (ds.set i d)
  | _, _, _, .nil => .nil
  | _, _, 0, .cons _ r => .cons h r
  | _, _, i + 1, .cons g r => .cons g (RpAll.set h i r)
theorem RpAll.eraseIdx : ∀ {vs : List V} {ds : List PyData} (i : Nat), RpAll K H vs ds → RpAll K H (vs.eraseIdx i) (ds.eraseIdx i)
  | _, _, _, .nil => .nil
  | _, _, 0, .cons _ r => r
  | _, _, i + 1, .cons g r => .cons g (RpAll.eraseIdx i r)
theorem RpAll.rep {vs : List V} {ds : List PyData} (h : RpAll K H vs ds) : ∀ n : Nat, RpAll K H (List.replicate n vs).flatten (List.replicate n ds).flatten
  | 0 => .nil
  | n + 1 => by
    rw [List.replicate_succ, List.replicate_succ, List.flatten_cons, List.flatten_cons]
    exact h.append (RpAll.rep h n)
theorem RpKV.length : ∀ {kvs : List (Key × V)} {kds : List (PyData × PyData)}, RpKV K H kvs kds → kvs.length = kds.length
  | _, _, .nil => rfl
  | _, _, .cons _ _ r => congrArg (· + 1) (RpKV.length r)
theorem RpKV.keys : ∀ {kvs : List (Key × V)} {kds : List (PyData × PyData)}, RpKV K H kvs kds → RpAll K H (kvs.map fun kv => kV kv.1) (kds.map (·.1))
  | _, _, .nil => .nil
  | _, _, .cons h _ r => .cons (.str _ h) (RpKV.keys r)
theorem RpKV.vals : ∀ {kvs : List (Key × V)} {kds : List (PyData × PyData)}, RpKV K H kvs kds → RpAll K H (kvs.map (·.2)) (kds.map (·.2))
  | _, _, .nil => .nil
  | _, _, .cons _ h r => .cons h (RpKV.vals r)
theorem RpAll.ints : ∀ {vs : List V} {ds : List PyData} {is : List Int}, RpAll K H vs ds → intsD ds = some is → vs = is.map V.int ∧ ds = is.map PyData.int
  | _, _, is, .nil, e => by
    simp [intsD] at e
    subst e
    exact ⟨rfl, rfl⟩
  | _, _, is, .cons h r, e => by
    cases h <;> simp [intsD] at e
    obtain ⟨js, e1, e2⟩ := e
    subst e2
    obtain ⟨h1, h2⟩ := RpAll.ints r e1
    subst h1 h2
    exact ⟨rfl, rfl⟩
theorem RpAll.bools : ∀ {vs : List V} {ds : List PyData} {is : List Bool}, RpAll K H vs ds → boolsD ds = some is → vs = is.map V.bl
  | _, _, is, .nil, e => by
    simp [boolsD] at e
    subst e
    rfl
  | _, _, is, .cons h r, e => by
    cases h <;> simp [boolsD] at e
    obtain ⟨js, e1, e2⟩ := e
    subst e2
    rw [RpAll.bools r e1]
    rfl
/-! data without dicts reads as the layer's -/
mutual
theorem Rp.dp : ∀ {d : PyData} {v : V}, Rp K H v d → noD d = true → Dp K H v d ∧ d.canLay0 = true
  | _, _, .non, _ => ⟨.non, by simp [PyData.canLay0]⟩
  | _, _, .bl b, _ => ⟨.bl b, by simp [PyData.canLay0]⟩
  | _, _, .int i, _ => ⟨.int i, by simp [PyData.canLay0]⟩
  | _, _, .str x h, _ => ⟨.str x, by simpa [PyData.canLay0] using h⟩
  | _, _, .lst h r, e => by
    obtain ⟨h1, h2⟩ := RpAll.dp r (by simpa [noD] using e)
    exact ⟨.lst h h1, by simpa [PyData.canLay0] using h2⟩
  | _, _, .tup h r _, e => by
    obtain ⟨h1, h2⟩ := RpAll.dp r (by simpa [noD] using e)
    exact ⟨.tup h h1, by simpa [PyData.canLay0] using h2⟩
  | _, _, .dic _ _, e => by simp [noD] at e
theorem RpAll.dp : ∀ {ds : List PyData} {vs : List V}, RpAll K H vs ds → noDAll ds = true → DpAll K H vs ds ∧ PyData.canLayAll0 ds = true
  | _, _, .nil, _ => ⟨.nil, by simp [PyData.canLayAll0]⟩
  | d :: ds, _, .cons h r, e => by
    have e' : noD d = true ∧ noDAll ds = true := by simpa [noDAll] using e
    obtain ⟨h1, h2⟩ := Rp.dp h e'.1
    obtain ⟨h3, h4⟩ := RpAll.dp r e'.2
    exact ⟨.cons h1 h3, by simp [PyData.canLayAll0, h2, h4]⟩
end
end

/-! ### what one name alone holds -/
def HoIs (K : PySem.W.Frag) (Hs : Hp) : HO → PyData → Prop
  | .lst xs, .list ds => RpAll K Hs xs ds
  | .dK kvs, .dict kds => RpKV K Hs kvs kds
  | _, _ => False
theorem HoIs.view {K : PySem.W.Frag} {Hs H : Hp} (w : View Hs H) {o : HO} {d : PyData} (h : HoIs K Hs o d) : HoIs K H o d := by
  cases o <;> cases d <;> first | exact h.elim | exact RpAll.view w h | exact RpKV.view w h
def Own (K : PySem.W.Frag) (Hs H : Hp) (a : Addr) (d : PyData) : Prop := Hs a = none ∧ ∃ o, H a = some o ∧ HoIs K Hs o d
/-- what is read: shared data, or what a name holds -/
def Rq (K : PySem.W.Frag) (Hs H : Hp) (v : V) (d : PyData) : Prop := Rp K Hs v d ∨ ∃ a, v = .ref a ∧ Own K Hs H a d
theorem HoIs.rp {K : PySem.W.Frag} {Hs H : Hp} {a : Addr} {o : HO} {d : PyData} (h : HoIs K Hs o d) (w : View Hs H) (e : H a = some o) : Rp K H (.ref a) d := by
  cases o <;> cases d <;> first | exact h.elim | exact .lst (SqL.of e) (RpAll.view w h) | exact .dic (.inl e) (RpKV.view w h)
/-- the whole heap as the shared one -/
theorem Rq.rp {K : PySem.W.Frag} {Hs H : Hp} {v : V} {d : PyData} (h : Rq K Hs H v d) (w : View Hs H) : Rp K H v d := by
  rcases h with h | ⟨a, rfl, _, o, e, h⟩
  · exact h.view w
  · exact h.rp w e

/-- the step of an expression: what stood stands; what is shared anew is new -/
structure FrE (H Hs H' Hs' : Hp) : Prop where
  same : Same H H'
  shar : Same Hs Hs'
  view : View Hs' H'
  new : ∀ b, Hs b = none → Hs' b ≠ none → H b = none
theorem FrE.refl {H Hs : Hp} (v : View Hs H) : FrE H Hs H Hs := ⟨Same.refl _, Same.refl _, v, fun b h h' => absurd h h'⟩
theorem FrE.trans {H Hs H1 Hs1 H2 Hs2 : Hp} (a : FrE H Hs H1 Hs1) (b : FrE H1 Hs1 H2 Hs2) : FrE H Hs H2 Hs2 := by
  refine ⟨a.same.trans b.same, a.shar.trans b.shar, b.view, fun c h h' => ?_⟩
  cases q : Hs1 c with
  | none => exact a.same.free (b.new c q h')
  | some o => exact a.new c h (by rw [q]; simp)
theorem FrE.own {K : PySem.W.Frag} {H Hs H' Hs' : Hp} (f : FrE H Hs H' Hs') {a : Addr} {d : PyData} (h : Own K Hs H a d) : Own K Hs' H' a d := by
  obtain ⟨h1, o, e, h2⟩ := h
  refine ⟨?_, o, f.same _ _ e, h2.view (View.of_same f.shar)⟩
  cases q : Hs' a with
  | none => rfl
  | some u =>
    have := f.new a h1 (by rw [q]; simp)
    rw [e] at this; cases this
theorem FrE.rp {K : PySem.W.Frag} {H Hs H' Hs' : Hp} (f : FrE H Hs H' Hs') {v : V} {d : PyData} (h : Rp K Hs v d) : Rp K Hs' v d := h.view (View.of_same f.shar)
theorem FrE.rpAll {K : PySem.W.Frag} {H Hs H' Hs' : Hp} (f : FrE H Hs H' Hs') {v : List V} {d : List PyData} (h : RpAll K Hs v d) : RpAll K Hs' v d := h.view (View.of_same f.shar)
theorem FrE.rq {K : PySem.W.Frag} {H Hs H' Hs' : Hp} (f : FrE H Hs H' Hs') {v : V} {d : PyData} (h : Rq K Hs H v d) : Rq K Hs' H' v d := by
  rcases h with h | ⟨a, e, h⟩
  · exact .inl (f.rp h)
  · exact .inr ⟨a, e, f.own h⟩
/-- a new object, not shared -/
theorem FrE.alloc {H Hs : Hp} {p : Addr} {o : HO} (v : View Hs H) (h : H p = none) : FrE H Hs (upd H p o) Hs := by
  have s : Same H (upd H p o) := fun b x e => by rw [upd_ne (ne_of_none e h)]; exact e
  exact ⟨s, Same.refl _, v.trans (View.of_same s), fun b h h' => absurd h h'⟩
theorem View.none {Hs H : Hp} (v : View Hs H) {p : Addr} (h : H p = none) : Hs p = none := by
  cases q : Hs p with
  | none => rfl
  | some u =>
    rcases v.1 p u (.inl q) with e | ⟨o, e⟩ <;> rw [h] at e <;> cases e
/-- an object that nobody shares is shared -/
theorem same_upd {H : Hp} {p : Addr} {o : HO} (h : H p = none) : Same H (upd H p o) := fun b x e => by
  rw [upd_ne (ne_of_none e h)]
  exact e
def Frzn : HO → Prop
  | .frz _ _ => True
  | _ => False
theorem view_share {Hs H : Hp} {a : Addr} {o : HO} (v : View Hs H) (e : H a = some o) (nf : ¬ Frzn o) : View (upd Hs a o) H := by
  refine ⟨fun b u q => ?_, fun b ob xs q => ?_⟩
  · by_cases hb : b = a
    · subst hb
      rcases q with q | ⟨ob, q⟩
      · rw [upd_same] at q; cases q; exact .inl e
      · rw [upd_same] at q; cases q; exact (nf trivial).elim
    · unfold Rd at q
      rw [upd_ne hb] at q
      exact v.1 b u q
  · by_cases hb : b = a
    · subst hb
      rw [upd_same] at q; cases q; exact (nf trivial).elim
    · rw [upd_ne hb] at q
      exact v.2 b ob xs q
theorem HoIs.nf {K : PySem.W.Frag} {Hs : Hp} {o : HO} {d : PyData} (h : HoIs K Hs o d) : ¬ Frzn o := by
  cases o <;> cases d <;> first | exact h.elim | exact fun z => z
theorem Own.share {K : PySem.W.Frag} {Hs H : Hp} {a : Addr} {d : PyData} (h : Own K Hs H a d) (v : View Hs H) : ∃ o, H a = some o ∧ Same Hs (upd Hs a o) ∧ View (upd Hs a o) H ∧ Rp K (upd Hs a o) (.ref a) d := by
  obtain ⟨h1, o, e, h2⟩ := h
  have s : Same Hs (upd Hs a o) := same_upd h1
  exact ⟨o, e, s, view_share v e h2.nf, (h2.view (View.of_same s)).rp (View.refl _) upd_same⟩

/-! ### dicts with tuples as keys -/
mutual
/-- the model's word for such a key -/
def kOf : PyData → NestedKey
  | .int i => .num i
  | .str x => .text x
  | .tuple xs => .tup (kOfs xs)
  | _ => .none
def kOfs : List PyData → List NestedKey
  | [] => []
  | x :: xs => kOf x :: kOfs xs
end
/-- what is true of such a dict's own object -/
def tabF (P : Program) (w : World) (a : Addr) (kvs : List (PyData × Addr × V)) (h : Heap) : Prop :=
  kvs.length ≤ sizeLine ∧ (a == sysModules) = false ∧ ∃ xs : List (NestedKey × Addr × Value),
    Paired (fun (p : PyData × Addr × V) (q : NestedKey × Addr × Value) => q.1 = kOf p.1 ∧ q.2.1 = p.2.1 ∧ RelV p.2.2 q.2.2) kvs xs ∧
    ∃ o es ep, h.get? a = some o ∧ o.ExactDict ∧ o.data = .dict es ep ∧ es.toList = xs.map (entryOfKey (nestedKind P w)) ∧ (xs.map (·.1)).Nodup
def tabO (P : Program) (w : World) (a : Addr) (kvs : List (PyData × Addr × V)) : HO := .ext (tabF P w a kvs)
/-- its keys and values stand for these data -/
def TabIs (K : PySem.W.Frag) (Hs : Hp) : List (PyData × Addr × V) → List (PyData × PyData) → Prop :=
  Paired fun p q => p.1 = q.1 ∧ ktD q.1 = true ∧ Rp K Hs (.ref p.2.1) q.1 ∧ Rp K Hs p.2.2 q.2
theorem TabIs.view {K : PySem.W.Frag} {Hs H : Hp} (w : View Hs H) {kvs : List (PyData × Addr × V)} {kds : List (PyData × PyData)} (h : TabIs K Hs kvs kds) : TabIs K H kvs kds := Paired.mapP h fun _ _ z => ⟨z.1, z.2.1, z.2.2.1.view w, z.2.2.2.view w⟩
/-- the program and the world of the walk -/
class Wld where
  P : Program
  w : World
def OwnT [Wld] (K : PySem.W.Frag) (Hs H : Hp) (a : Addr) (kds : List (PyData × PyData)) : Prop := Hs a = none ∧ ∃ kvs, H a = some (tabO Wld.P Wld.w a kvs) ∧ TabIs K Hs kvs kds
variable [Wld]
theorem FrE.stays {H Hs H' Hs' : Hp} (f : FrE H Hs H' Hs') {a : Addr} {o : HO} (n : Hs a = none) (e : H a = some o) : Hs' a = none := by
  cases q : Hs' a with
  | none => rfl
  | some u =>
    have := f.new a n (by rw [q]; simp)
    rw [e] at this; cases this
theorem FrE.ownT {K : PySem.W.Frag} {H Hs H' Hs' : Hp} (f : FrE H Hs H' Hs') {a : Addr} {kds : List (PyData × PyData)} (h : OwnT K Hs H a kds) : OwnT K Hs' H' a kds := by
  obtain ⟨h1, kvs, e, h2⟩ := h
  exact ⟨f.stays h1 e, kvs, f.same _ _ e, h2.view (View.of_same f.shar)⟩
/-! ### the slots -/
def SlOk (K : PySem.W.Frag) (Hs H : Hp) : Sl → Option V → Prop
  | .un, _ => True
  | .sh d, o => ∃ v, o = some v ∧ Rp K Hs v d
  | .ow d, o => ∃ a, o = some (.ref a) ∧ Own K Hs H a d
  | .dt kds, o => ∃ a, o = some (.ref a) ∧ OwnT K Hs H a kds
/-- this name alone holds it -/
def OwS : Sl → Prop
  | .ow _ => True
  | .dt _ => True
  | _ => False
def OwnedAt (env : Ev) (σ : L2.St) (b : Addr) : Prop := ∃ (i : Nat) (x : Sl), env[i]? = some x ∧ OwS x ∧ σ[i]? = some (some (.ref b))
structure EnvOk (K : PySem.W.Frag) (env : Ev) (σ : L2.St) (H Hs : Hp) : Prop where
  view : View Hs H
  len : env.length = σ.length
  pt : ∀ (i : Nat) (x : Sl), env[i]? = some x → ∃ o, σ[i]? = some o ∧ SlOk K Hs H x o
  sep : ∀ (i j : Nat) (a : Addr) (x y : Sl), i ≠ j → env[i]? = some x → env[j]? = some y → OwS x → OwS y → σ[i]? = some (some (.ref a)) → σ[j]? = some (some (.ref a)) → False
section
variable {K : PySem.W.Frag} {env : Ev} {σ : L2.St} {H Hs : Hp}
theorem EnvOk.sh (e : EnvOk K env σ H Hs) (i : Nat) (d : PyData) (h : env[i]? = some (.sh d)) : ∃ v, σ[i]? = some (some v) ∧ Rp K Hs v d := by
  obtain ⟨o, h1, v, rfl, h2⟩ := e.pt i _ h
  exact ⟨v, h1, h2⟩
theorem EnvOk.ow (e : EnvOk K env σ H Hs) (i : Nat) (d : PyData) (h : env[i]? = some (.ow d)) : ∃ a, σ[i]? = some (some (.ref a)) ∧ Own K Hs H a d := by
  obtain ⟨o, h1, v, rfl, h2⟩ := e.pt i _ h
  exact ⟨v, h1, h2⟩
theorem EnvOk.dt (e : EnvOk K env σ H Hs) (i : Nat) (kds : List (PyData × PyData)) (h : env[i]? = some (.dt kds)) : ∃ a, σ[i]? = some (some (.ref a)) ∧ OwnT K Hs H a kds := by
  obtain ⟨o, h1, v, rfl, h2⟩ := e.pt i _ h
  exact ⟨v, h1, h2⟩
/-- what a name alone holds is tracked, and not shared -/
theorem SlOk.held {x : Sl} {a : Addr} (h : SlOk K Hs H x (some (.ref a))) (o : OwS x) : Hs a = none ∧ H a ≠ none := by
  cases x with
  | un => exact o.elim
  | sh d => exact o.elim
  | ow d =>
    obtain ⟨b, e, h1, u, h2, _⟩ := h
    cases e
    exact ⟨h1, by rw [h2]; simp⟩
  | dt d =>
    obtain ⟨b, e, h1, u, h2, _⟩ := h
    cases e
    exact ⟨h1, by rw [h2]; simp⟩
theorem EnvOk.owned (e : EnvOk K env σ H Hs) {b : Addr} (h : OwnedAt env σ b) : H b ≠ none ∧ Hs b = none := by
  obtain ⟨i, x, h1, h2, h3⟩ := h
  obtain ⟨o, h4, h5⟩ := e.pt i x h1
  rw [h3] at h4
  cases h4
  exact (h5.held h2).symm
theorem SlOk.fr {H' Hs' : Hp} {x : Sl} {o : Option V} (h : SlOk K Hs H x o) (f : FrE H Hs H' Hs') : SlOk K Hs' H' x o := by
  cases x with
  | un => exact trivial
  | sh d => exact let ⟨v, e, r⟩ := h; ⟨v, e, f.rp r⟩
  | ow d => exact let ⟨v, e, r⟩ := h; ⟨v, e, f.own r⟩
  | dt d => exact let ⟨v, e, r⟩ := h; ⟨v, e, f.ownT r⟩
theorem EnvOk.fr {H' Hs' : Hp} (e : EnvOk K env σ H Hs) (f : FrE H Hs H' Hs') : EnvOk K env σ H' Hs' := by
  refine ⟨f.view, e.len, fun i x h => ?_, e.sep⟩
  obtain ⟨o, h1, h2⟩ := e.pt i x h
  exact ⟨o, h1, h2.fr f⟩
/-- the shared heap grows, the heap stays at what names alone hold -/
theorem SlOk.re {H' Hs' : Hp} {x : Sl} {o : Option V} (h : SlOk K Hs H x o) (s : Same Hs Hs') (hk : ∀ a, OwS x → o = some (.ref a) → H' a = H a ∧ Hs' a = none) : SlOk K Hs' H' x o := by
  cases x with
  | un => exact trivial
  | sh d => exact let ⟨v, e, r⟩ := h; ⟨v, e, r.view (View.of_same s)⟩
  | ow d =>
    obtain ⟨v, e, h1, u, h2, h3⟩ := h
    obtain ⟨k1, k2⟩ := hk v trivial e
    exact ⟨v, e, k2, u, by rw [k1]; exact h2, h3.view (View.of_same s)⟩
  | dt d =>
    obtain ⟨v, e, h1, u, h2, h3⟩ := h
    obtain ⟨k1, k2⟩ := hk v trivial e
    exact ⟨v, e, k2, u, by rw [k1]; exact h2, h3.view (View.of_same s)⟩
theorem EnvOk.re {H' Hs' : Hp} (e : EnvOk K env σ H Hs) (s : Same Hs Hs') (w : View Hs' H') (hk : ∀ b, OwnedAt env σ b → H' b = H b ∧ Hs' b = none) : EnvOk K env σ H' Hs' := by
  refine ⟨w, e.len, fun i x h => ?_, e.sep⟩
  obtain ⟨o, h1, h2⟩ := e.pt i x h
  exact ⟨o, h1, h2.re s fun a ox eo => hk a ⟨i, x, h, ox, by rw [h1, eo]⟩⟩
end

/-- the result of an expression: shared, or new and held by nobody -/
def Rs (K : PySem.W.Frag) (H Hs' H' : Hp) (v : V) (d : PyData) : Bool → Prop
  | false => Rp K Hs' v d
  | true => ∃ a, v = .ref a ∧ H a = none ∧ Own K Hs' H' a d
/-- .. shared in any case -/
theorem Rs.share {K : PySem.W.Frag} {H Hs H' Hs' : Hp} {v : V} {d : PyData} {fr : Bool} (f : FrE H Hs H' Hs') (h : Rs K H Hs' H' v d fr) : ∃ Hs2, FrE H Hs H' Hs2 ∧ Rp K Hs2 v d ∧ FrE H' Hs' H' Hs2 ∨ ∃ a, v = .ref a ∧ H a = none ∧ FrE H Hs H' Hs2 ∧ Rp K Hs2 v d := by
  cases fr with
  | false => exact ⟨Hs', .inl ⟨f, h, FrE.refl f.view⟩⟩
  | true =>
    obtain ⟨a, rfl, n, ow⟩ := h
    obtain ⟨o, e, s, w, r⟩ := ow.share f.view
    refine ⟨upd Hs' a o, .inr ⟨a, rfl, n, ⟨f.same, f.shar.trans s, w, fun b hb hb' => ?_⟩, r⟩⟩
    by_cases z : b = a
    · subst z; exact n
    · rw [upd_ne z] at hb'
      exact f.new b hb hb'
theorem Rs.shared {K : PySem.W.Frag} {H Hs H' Hs' : Hp} {v : V} {d : PyData} {fr : Bool} (f : FrE H Hs H' Hs') (h : Rs K H Hs' H' v d fr) : ∃ Hs2, FrE H Hs H' Hs2 ∧ Rp K Hs2 v d := by
  obtain ⟨Hs2, ⟨h1, h2, _⟩ | ⟨_, _, _, h1, h2⟩⟩ := h.share f <;> exact ⟨Hs2, h1, h2⟩
end Wr
end

section
set_option Elab.async false
set_option linter.all false
set_option maxRecDepth 100000
set_option maxHeartbeats 4000000
/-! WrC: operators by values. -/
namespace Wr
open PySem PySem.Spec PyProof.Rows L2

theorem PE.mono {X : Cx} {e : Expr} {t t' : TE} (h : PE X e t) (hm : ∀ σ H Q, t' σ H Q → t σ H Q) : PE X e t' := ⟨fun pins s σ H Q I q => h.run pins s σ H Q I (hm σ H Q q)⟩
theorem PE.or {X : Cx} {e : Expr} {t t' : TE} (h : PE X e t) (h' : PE X e t') : PE X e (fun σ H Q => t σ H Q ∨ t' σ H Q) := ⟨fun pins s σ H Q I q => q.elim (h.run pins s σ H Q I) (h'.run pins s σ H Q I)⟩
theorem PT.mono {X : Cx} {e : Expr} {t t' : TT} (h : PT X e t) (hm : ∀ σ H Q, t' σ H Q → t σ H Q) : PT X e t' := ⟨fun pins s σ H Q I q => h.run pins s σ H Q I (hm σ H Q q)⟩
theorem PW.mono {X : Cx} {e : Expr} {t t' : TT} (h : PW X e t) (hm : ∀ σ H Q, t' σ H Q → t σ H Q) : PW X e t' := ⟨fun wh pins s σ H Q I q => h.run wh pins s σ H Q I (hm σ H Q q)⟩
theorem PA.mono {X : Cx} {e : List Expr} {t t' : TA} (h : PA X e t) (hm : ∀ σ H Q, t' σ H Q → t σ H Q) : PA X e t' := ⟨fun pos pins s σ H Q I q => h.run pos pins s σ H Q I (hm σ H Q q)⟩
theorem PS.mono {X : Cx} {e : Stmt} {t t' : TS} (h : PS X e t) (hm : ∀ D σ H, t' D σ H → t D σ H) : PS X e t' := ⟨fun pins s σ H D I q => h.run pins s σ H D I (hm D σ H q)⟩
theorem PSs.mono {X : Cx} {e : List Stmt} {t t' : TS} (h : PSs X e t) (hm : ∀ D σ H, t' D σ H → t D σ H) : PSs X e t' := ⟨fun pins s σ H D I q => h.run pins s σ H D I (hm D σ H q)⟩
theorem PS.or {X : Cx} {e : Stmt} {t t' : TS} (h : PS X e t) (h' : PS X e t') : PS X e (fun D σ H => t D σ H ∨ t' D σ H) := ⟨fun pins s σ H D I q => q.elim (h.run pins s σ H D I) (h'.run pins s σ H D I)⟩
theorem PI.mono {X : Cx} {tg e : Expr} {t t' : TI} (h : PI X tg e t) (hm : ∀ σ H R, t' σ H R → t σ H R) : PI X tg e t' := ⟨fun pins s σ H R I q => h.run pins s σ H R I (hm σ H R q)⟩
theorem PI.or {X : Cx} {tg e : Expr} {t t' : TI} (h : PI X tg e t) (h' : PI X tg e t') : PI X tg e (fun σ H R => t σ H R ∨ t' σ H R) := ⟨fun pins s σ H R I q => q.elim (h.run pins s σ H R I) (h'.run pins s σ H R I)⟩
theorem PG.mono {X : Cx} {tg : Expr} {t t' : TG} (h : PG X tg t) (hm : ∀ v σ H Q, t' v σ H Q → t v σ H Q) : PG X tg t' := ⟨fun pins s σ H v u Q I r q => h.run pins s σ H v u Q I r (hm v σ H Q q)⟩

/-! ### views of data -/
section
variable {K : PySem.W.Frag} {Hs H : Hp} {v : V}
theorem Rq.int {i : Int} (h : Rq K Hs H v (.int i)) : v = .int i := by
  rcases h with h | ⟨a, rfl, _, o, _, h⟩
  · cases h; rfl
  · cases o <;> exact h.elim
theorem Rq.bool {i : Bool} (h : Rq K Hs H v (.bool i)) : v = .bl i := by
  rcases h with h | ⟨a, rfl, _, o, _, h⟩
  · cases h; rfl
  · cases o <;> exact h.elim
theorem Rq.none (h : Rq K Hs H v .none) : v = .non := by
  rcases h with h | ⟨a, rfl, _, o, _, h⟩
  · cases h; rfl
  · cases o <;> exact h.elim
theorem Rq.str {i : Str} (h : Rq K Hs H v (.str i)) : v = .str i ∧ strOk i = true := by
  rcases h with h | ⟨a, rfl, _, o, _, h⟩
  · cases h; exact ⟨rfl, by assumption⟩
  · cases o <;> exact h.elim
theorem Rq.tuple {ds : List PyData} (h : Rq K Hs H v (.tuple ds)) (w : View Hs H) : ∃ a xs, v = .ref a ∧ SqT K H a xs ∧ RpAll K Hs xs ds ∧ SqT K Hs a xs ∧ (plD ds = true → Pln Hs a) := by
  rcases h with h | ⟨a, rfl, _, o, _, h⟩
  · cases h with
    | tup h r p => exact ⟨_, _, rfl, w.seqT h, r, h, p⟩
  · cases o <;> exact h.elim
theorem Rq.list {ds : List PyData} (h : Rq K Hs H v (.list ds)) (w : View Hs H) : ∃ a xs, v = .ref a ∧ SqL K H a xs ∧ RpAll K Hs xs ds := by
  rcases h with h | ⟨a, rfl, _, o, e, h⟩
  · cases h with
    | lst h r => exact ⟨_, _, rfl, w.seqL h, r⟩
  · cases o <;> first | exact h.elim | exact ⟨_, _, rfl, SqL.of e, h⟩
theorem Rq.dict {ds : List (PyData × PyData)} (h : Rq K Hs H v (.dict ds)) (w : View Hs H) : ∃ a xs, v = .ref a ∧ Rd H a (.dK xs) ∧ RpKV K Hs xs ds := by
  rcases h with h | ⟨a, rfl, _, o, e, h⟩
  · cases h with
    | dic h r => exact ⟨_, _, rfl, w.1 _ _ h, r⟩
  · cases o <;> first | exact h.elim | exact ⟨_, _, rfl, .inl e, h⟩
end

/-! ### new objects -/
theorem FrE.put {H Hs : Hp} {p : Addr} {o : HO} (v : View Hs H) (h : H p = none) : FrE H Hs (upd H p o) (upd Hs p o) := by
  have hs : Hs p = none := v.none h
  refine ⟨same_upd h, same_upd hs, ⟨fun b u q => ?_, fun b ob xs q => ?_⟩, fun b hb hb' => ?_⟩
  · by_cases z : b = p
    · subst z
      unfold Rd at q ⊢
      rw [upd_same] at q ⊢
      exact q
    · unfold Rd at q ⊢
      rw [upd_ne z] at q ⊢
      exact v.1 b u q
  · by_cases z : b = p
    · subst z
      rw [upd_same] at q ⊢
      exact q
    · rw [upd_ne z] at q ⊢
      exact v.2 b ob xs q
  · by_cases z : b = p
    · subst z; exact h
    · rw [upd_ne z] at hb'
      exact absurd hb hb'
theorem rp_tup {K : PySem.W.Frag} {Hs : Hp} {p : Addr} {xs : List V} {ds : List PyData} (hs : Hs p = none) (r : RpAll K Hs xs ds) (n : plD ds = false) : Rp K (upd Hs p (.tup xs)) (.ref p) (.tuple ds) :=
  .tup (SqT.of upd_same) (r.view (View.of_same (same_upd hs))) fun z => by rw [n] at z; cases z
theorem rp_tupF {K : PySem.W.Frag} {Hs : Hp} {p : Addr} {xs : List V} {ds : List PyData} {ob : Obj} (hs : Hs p = none) (r : RpAll K Hs xs ds) (n : ob.dict = none) : Rp K (upd Hs p (.frz ob (.tup xs))) (.ref p) (.tuple ds) :=
  .tup (.inl (.inr ⟨ob, upd_same⟩)) (r.view (View.of_same (same_upd hs))) fun _ => ⟨ob, xs, upd_same, n⟩
theorem rp_lst {K : PySem.W.Frag} {Hs : Hp} {p : Addr} {xs : List V} {ds : List PyData} (hs : Hs p = none) (r : RpAll K Hs xs ds) : Rp K (upd Hs p (.lst xs)) (.ref p) (.list ds) :=
  .lst (SqL.of upd_same) (r.view (View.of_same (same_upd hs)))
theorem own_lst {K : PySem.W.Frag} {Hs H : Hp} {p : Addr} {xs : List V} {ds : List PyData} (v : View Hs H) (h : H p = none) (r : RpAll K Hs xs ds) : Own K Hs (upd H p (.lst xs)) p (.list ds) :=
  ⟨v.none h, _, upd_same, r⟩
theorem own_dic {K : PySem.W.Frag} {Hs H : Hp} {p : Addr} {xs : List (Key × V)} {ds : List (PyData × PyData)} (v : View Hs H) (h : H p = none) (r : RpKV K Hs xs ds) : Own K Hs (upd H p (.dK xs)) p (.dict ds) :=
  ⟨v.none h, _, upd_same, r⟩
theorem lim_line : lim ≤ sizeLine := by decide

/-! ### binary operators -/
section
variable {X : Cx}
theorem op_catL : OpR X (binaryOp .Add) (fun x y H Q => ∃ l b xs zs, x = .ref l ∧ y = .ref b ∧ SqL X.K H l xs ∧ SqL X.K H b zs ∧ xs.length + zs.length ≤ sizeLine ∧ ∀ p, H p = none → Q (.ref p) (upd H p (.lst (xs ++ zs)))) := by
  intro pins s σ H x y v u Q I rx ry h
  obtain ⟨l, b, xs, zs, rfl, rfl, hH, hB, hz, q⟩ := h
  cases rx
  cases ry
  obtain ⟨its, r, hl, _⟩ := I.list hH
  obtain ⟨its2, r2, hl2, _⟩ := I.list hB
  obtain ⟨⟨cls, dd, data, sl⟩, n, ho, hc, hx, hd⟩ := hl
  obtain ⟨⟨cls2, dd2, data2, sl2⟩, n2, ho2, hc2, hx2, hd2⟩ := hl2
  simp only at hc hd hc2 hd2
  subst hc hd hc2 hd2
  have e : its.toArray ++ its2.toArray = (its ++ its2).toArray := by simp
  refine concat_meets ⟨_, ho, rfl⟩ ⟨_, ho2, rfl⟩ noFill_list_add seq_list_add PySem.F.slot_list_add PySem.F.entry_list_add (PySem.F.args_list_add_2 _ _) (list_addW l b its.toArray its2.toArray n n2 dd dd2 sl sl2 (by
    rw [List.size_toArray, List.size_toArray, ← r.length, ← r2.length]; exact hz)) ⟨ho, ho2, ?_⟩
  rw [e]
  exact ⟨.ref _, _, I.lnew (t' := s.toks) (r.append r2) (by rw [List.length_append]; omega), rfl, q _ I.fresh⟩
theorem OpR.or {f : Value → Value → Sem Value} {r r' : R2} (h : OpR X f r) (h' : OpR X f r') : OpR X f (fun x y H Q => r x y H Q ∨ r' x y H Q) := by
  intro pins s σ H x y v u Q I rx ry q
  rcases q with q | q
  · exact h pins s σ H x y v u Q I rx ry q
  · exact h' pins s σ H x y v u Q I rx ry q
theorem OpR.mono {f : Value → Value → Sem Value} {r r' : R2} (h : OpR X f r) (hm : ∀ x y H Q, r' x y H Q → r x y H Q) : OpR X f r' := by
  intro pins s σ H x y v u Q I rx ry q
  exact h pins s σ H x y v u Q I rx ry (hm _ _ _ _ q)

def rBin (K : PySem.W.Frag) (op : Operator) : R2 := fun x y H Q => ∃ Hs dx dy d, View Hs H ∧ Rq K Hs H x dx ∧ Rq K Hs H y dy ∧ binD op dx dy = some d ∧ ∀ v H' Hs', FrE H Hs H' Hs' → Rp K Hs' v d → Q v H'
def rCatF (K : PySem.W.Frag) : R2 := fun x y H Q => ∃ Hs dx dy, View Hs H ∧ Rq K Hs H x (.list dx) ∧ Rq K Hs H y (.list dy) ∧ dx.length + dy.length ≤ lim ∧ ∀ v H' Hs', FrE H Hs H' Hs' → Rs K H Hs' H' v (.list (dx ++ dy)) true → Q v H'
theorem op_catF : OpR X (binaryOp .Add) (rCatF X.K) := by
  refine OpR.mono op_catL fun x y H Q h => ?_
  obtain ⟨Hs, dx, dy, w, h1, h2, hl, q⟩ := h
  obtain ⟨a, xs, rfl, s1, r1⟩ := h1.list w
  obtain ⟨b, ys, rfl, s2, r2⟩ := h2.list w
  refine ⟨a, b, xs, ys, rfl, rfl, s1, s2, by have := lim_line; rw [r1.length, r2.length]; omega, fun p hp => ?_⟩
  exact q _ _ _ (FrE.alloc w hp) ⟨p, rfl, hp, own_lst w hp (r1.append r2)⟩

theorem strOk_append {a b : Str} (h : strOk a = true) (h' : strOk b = true) : strOk (a ++ b) = true := by
  unfold strOk PyData.strOk at *
  have e : (a ++ b).cps = a.cps ++ b.cps := rfl
  rw [e, Array.all_append, h, h']
  rfl
theorem small_mul {a b : Int} (h : (small a || small b) = true) : CMul a b := by
  unfold small at h
  simp only [Bool.or_eq_true, Bool.and_eq_true, decide_eq_true_eq] at h
  exact h
theorem small_abs {a : Int} (h : small a = true) : a.natAbs < 2 ^ 64 := by
  unfold small at h
  simp only [Bool.and_eq_true, decide_eq_true_eq] at h
  omega

/-- tuple + tuple, the new one known -/
theorem op_catF2 : OpR X (binaryOp .Add) (fun x y H Q => ∃ a b xs ys, x = .ref a ∧ y = .ref b ∧ SqT X.K H a xs ∧ SqT X.K H b ys ∧ xs.length + ys.length ≤ sizeLine ∧ (xs = [] → Q (.ref b) H) ∧ (xs ≠ [] → ys = [] → Q (.ref a) H) ∧
    (xs ≠ [] → ys ≠ [] → ∀ p ob, ob.dict = none → H p = none → Q (.ref p) (upd H p (.frz ob (.tup (xs ++ ys)))))) := by
  intro pins s σ H x y v u Q I rx ry h
  obtain ⟨a, b, xs, ys, rfl, rfl, ha, hb, hz, q0, q1, q2⟩ := h
  cases rx
  cases ry
  obtain ⟨its, r1, p1, _⟩ := I.tuple ha
  obtain ⟨its2, r2, p2, _⟩ := I.tuple hb
  by_cases hx : xs = []
  · subst hx
    cases r1
    exact cat_tup0 p1 p2 ⟨.ref b, H, I, rfl, q0 rfl⟩
  · refine HT.cat_tup p1 p2 (fun z => hx (r1.nil_iff.mp z)) (fun z => ⟨.ref a, H, I, rfl, q1 hx (r2.nil_iff.mp z)⟩) (fun z => ?_) (by rw [← r1.length, ← r2.length]; exact hz)
    refine ⟨.ref s.heap.objs.size, _, I.laid (t' := s.toks) (o := .frz { cls := .type "tuple", data := .seq (its ++ its2).toArray } (.tup (xs ++ ys))) (fun b ob q => Heap.get?_push_of_some _ q) (Nat.le_refl _) ?_, rfl, q2 hx (fun e => z (r2.nil_iff.mpr e)) _ _ rfl (I.hok.fresh (Nat.le_refl _))⟩
    exact ⟨Heap.get?_push_size _ rfl, by rw [List.length_append]; exact hz, _, r1.append r2, IsTup.new _ _⟩
theorem op_add' : OpR X (binaryOp .Add) (rBin X.K .Add) := by
  refine OpR.mono (OpR.or (OpR.or op_add op_add_str) (OpR.or op_catF2 op_catL)) fun x y H Q h => ?_
  obtain ⟨Hs, dx, dy, d, w, h1, h2, e, q⟩ := h
  replace e : addD dx dy = some d := e
  unfold addD at e
  split at e
  · rename_i a b
    cases e
    rw [h1.int, h2.int]
    exact .inl (.inl ⟨a, b, rfl, rfl, q _ _ _ (FrE.refl w) (.int _)⟩)
  · rename_i a b
    split at e
    · rename_i hl
      cases e
      obtain ⟨p1, xs, rfl, s1, r1, t1, l1⟩ := h1.tuple w
      obtain ⟨p2, ys, rfl, s2, r2, t2, l2⟩ := h2.tuple w
      refine .inr (.inl ⟨p1, p2, xs, ys, rfl, rfl, s1, s2, by have := lim_line; rw [r1.length, r2.length]; omega, fun z => ?_, fun _ z => ?_, fun _ _ p ob hob hp => ?_⟩)
      · subst z
        cases r1
        exact q _ _ _ (FrE.refl w) (.tup t2 r2 l2)
      · subst z
        cases r2
        rw [List.append_nil] at q
        exact q _ _ _ (FrE.refl w) (.tup t1 r1 l1)
      · exact q _ _ _ (FrE.put w hp) (rp_tupF (w.none hp) (r1.append r2) hob)
    · cases e
  · rename_i a b
    split at e
    · rename_i hl
      cases e
      obtain ⟨p1, xs, rfl, s1, r1⟩ := h1.list w
      obtain ⟨p2, ys, rfl, s2, r2⟩ := h2.list w
      refine .inr (.inr ⟨p1, p2, xs, ys, rfl, rfl, s1, s2, by have := lim_line; rw [r1.length, r2.length]; omega, fun p hp => ?_⟩)
      exact q _ _ _ (FrE.put w hp) (rp_lst (w.none hp) (r1.append r2))
    · cases e
  · rename_i a b
    split at e
    · rename_i hl
      cases e
      obtain ⟨rfl, o1⟩ := h1.str
      obtain ⟨rfl, o2⟩ := h2.str
      exact .inl (.inr ⟨a, b, rfl, rfl, by have := lim_line; omega, q _ _ _ (FrE.refl w) (.str _ (strOk_append o1 o2))⟩)
    · cases e
  · cases e
/-- tuple * int, also 0 and 1 and of the empty tuple: by the model's own words -/
theorem op_mulW (hrt : OpR X (binaryOp .Mult) (fun x y H Q => ∃ l k xs, x = .ref l ∧ y = .int k ∧ SqT X.K H l xs ∧ 0 ≤ k ∧ k ≤ 1000 ∧ xs.length ≤ 1000 ∧ (xs = [] ∨ k = 1 → Q (.ref l) H) ∧ (xs ≠ [] → k ≠ 1 → ∀ p, H p = none → Q (.ref p) (upd H p (.tup (List.replicate k.toNat xs).flatten))))) : OpR X (binaryOp .Mult) (rBin X.K .Mult) := by
  refine OpR.mono (OpR.or op_mul hrt) fun x y H Q h => ?_
  obtain ⟨Hs, dx, dy, d, w, h1, h2, e, q⟩ := h
  replace e : mulD dx dy = some d := e
  unfold mulD at e
  split at e
  · rename_i a b
    split at e
    · rename_i hs
      cases e
      rw [h1.int, h2.int]
      exact .inl ⟨a, b, rfl, rfl, small_mul hs, q _ _ _ (FrE.refl w) (.int _)⟩
    · cases e
  · rename_i a b
    split at e
    · rename_i hs
      cases e
      obtain ⟨p1, xs, rfl, s1, r1, t1, l1⟩ := h1.tuple w
      rw [h2.int]
      have hpl : plD (List.replicate b.toNat a).flatten = false := by
        cases b.toNat with
        | zero => exact hs.2.2.2.2
        | succ m =>
          rw [List.replicate_succ, List.flatten_cons]
          cases a with
          | nil =>
            have : (List.replicate m ([] : List PyData)).flatten = [] := by simp
            rw [this]
            exact hs.2.2.2.2
          | cons x r => exact hs.2.2.2.1
      refine .inr ⟨p1, b, xs, rfl, rfl, s1, hs.1, hs.2.1, by rw [r1.length]; exact hs.2.2.1, fun z => ?_, fun _ _ p hp => ?_⟩
      · refine q _ _ _ (FrE.refl w) (.tup t1 ?_ fun y => by rw [hpl] at y; cases y)
        rcases z with rfl | rfl
        · cases r1
          have : (List.replicate b.toNat ([] : List PyData)).flatten = [] := by simp
          rw [this]
          exact .nil
        · simpa using r1
      · exact q _ _ _ (FrE.put w hp) (rp_tup (w.none hp) (r1.rep _) hpl)
    · cases e
  · cases e
theorem op_bin_int {op : Operator} {C : Int → Int → Prop} {g : Int → Int → Int} (ho : OpR X (binaryOp op) (rI C fun i j => .int (g i j))) (hd : ∀ dx dy d, binD op dx dy = some d → ∃ i j, dx = .int i ∧ dy = .int j ∧ C i j ∧ d = .int (g i j)) : OpR X (binaryOp op) (rBin X.K op) := by
  refine OpR.mono ho fun x y H Q h => ?_
  obtain ⟨Hs, dx, dy, d, w, h1, h2, e, q⟩ := h
  obtain ⟨i, j, rfl, rfl, c, rfl⟩ := hd _ _ _ e
  rw [h1.int, h2.int]
  exact ⟨i, j, rfl, rfl, c, q _ _ _ (FrE.refl w) (.int _)⟩
theorem op_sub' : OpR X (binaryOp .Sub) (rBin X.K .Sub) := by
  refine op_bin_int (C := fun _ _ => True) (g := fun i j => i - j) (OpR.mono op_sub fun x y H Q ⟨i, j, e1, e2, _, q⟩ => ⟨i, j, e1, e2, q⟩) fun dx dy d e => ?_
  cases dx <;> cases dy <;> simp [binD] at e
  exact ⟨_, _, rfl, rfl, trivial, e.symm⟩
theorem op_fdiv' : OpR X (binaryOp .FloorDiv) (rBin X.K .FloorDiv) := by
  refine op_bin_int op_fdiv fun dx dy d e => ?_
  cases dx <;> cases dy <;> simp [binD] at e
  exact ⟨_, _, rfl, rfl, e.1, e.2.symm⟩
theorem op_mod' : OpR X (binaryOp .Mod) (rBin X.K .Mod) := by
  refine op_bin_int op_mod fun dx dy d e => ?_
  cases dx <;> cases dy <;> simp [binD] at e
  exact ⟨_, _, rfl, rfl, e.1, e.2.symm⟩
theorem op_pow' : OpR X (binaryOp .Pow) (rBin X.K .Pow) := by
  refine op_bin_int op_pow fun dx dy d e => ?_
  cases dx <;> cases dy <;> simp [binD] at e
  refine ⟨_, _, rfl, rfl, ⟨e.1.1, by omega, small_abs e.1.2.2⟩, e.2.symm⟩
end
end Wr
end

section
set_option Elab.async false
set_option linter.all false
set_option maxRecDepth 100000
set_option maxHeartbeats 4000000
/-! WrD: comparisons by values. -/
namespace Wr
open PySem PySem.Spec PyProof.Rows L2
section
variable {X : Cx}
def rCmp (K : PySem.W.Frag) (op : CmpOp) : R2 := fun x y H Q => ∃ Hs dx dy b, View Hs H ∧ Rq K Hs H x dx ∧ Rq K Hs H y dy ∧ cmpD op dx dy = some b ∧ Q (.bl b) H

theorem Inv.reads {pins : List (Addr × Obj)} {σ : L2.St} {H : Hp} {s : Shared} (I : Inv X pins σ H s) {d : PyData} {v : V} {u : Value} (h : Rp X.K H v d) (n : noD d = true) (r : RelV v u) : ∃ as, Reads s.heap u d as := Dp.reads I d v u (h.dp n).1 r

theorem op_eqN (hu : X.A.units + 65 < cLine) : OpR X (compareOp .Eq) (fun x y H Q => ∃ dx dy, Rp X.K H x dx ∧ Rp X.K H y dy ∧ noD dx = true ∧ noD dy = true ∧ min dx.depth dy.depth ≤ 64 ∧ Q (.bl (PyData.eqv dx dy)) H) := by
  intro pins s σ H x y v u Q I rx ry h
  obtain ⟨dx, dy, h1, h2, n1, n2, hd, q⟩ := h
  obtain ⟨as, r1⟩ := Inv.reads I h1 n1 rx
  obtain ⟨bs, r2⟩ := Inv.reads I h2 n2 ry
  exact SeqAt.compareEq_reads r1 r2 (h1.dp n1).2 (h2.dp n2).2 (by omega) ⟨.bl _, H, I, rfl, q⟩
theorem op_neN (hu : X.A.units + 65 < cLine) : OpR X (compareOp .NotEq) (fun x y H Q => ∃ dx dy, Rp X.K H x dx ∧ Rp X.K H y dy ∧ noD dx = true ∧ noD dy = true ∧ min dx.depth dy.depth ≤ 64 ∧ Q (.bl (!PyData.eqv dx dy)) H) := by
  intro pins s σ H x y v u Q I rx ry h
  obtain ⟨dx, dy, h1, h2, n1, n2, hd, q⟩ := h
  obtain ⟨as, r1⟩ := Inv.reads I h1 n1 rx
  obtain ⟨bs, r2⟩ := Inv.reads I h2 n2 ry
  exact SeqAt.compareNe_reads r1 r2 (h1.dp n1).2 (h2.dp n2).2 (by omega) ⟨.bl _, H, I, rfl, q⟩
/-- a list and the empty one -/
theorem op_eqE (hu : X.A.units + 65 < cLine) : OpR X (compareOp .Eq) (fun x y H Q => ∃ a b xs, x = .ref a ∧ y = .ref b ∧ SqL X.K H a xs ∧ SqL X.K H b [] ∧ Q (.bl xs.isEmpty) H) := by
  intro pins s σ H x y v u Q I rx ry h
  obtain ⟨a, b, xs, rfl, rfl, h1, h2, q⟩ := h
  cases rx
  cases ry
  obtain ⟨its, r, hl, _⟩ := I.list h1
  obtain ⟨its2, r2, hl2, _⟩ := I.list h2
  cases r2
  cases xs with
  | nil =>
    cases r
    exact SeqAt.eq_listAt (e := fun _ => true) hl.isList hl2.isList rfl (by omega) (fun j h1 _ => absurd h1 (Nat.not_lt_zero _)) ⟨.bl _, H, I, rfl, q⟩
  | cons x xs =>
    refine SeqAt.eq_list_lengthsAt hl.isList hl2.isList ?_ (by omega) ⟨.bl _, H, I, rfl, q⟩
    have := r.length
    cases its with
    | nil => simp at this
    | cons _ _ => simp
theorem op_neE (hu : X.A.units + 65 < cLine) : OpR X (compareOp .NotEq) (fun x y H Q => ∃ a b xs, x = .ref a ∧ y = .ref b ∧ SqL X.K H a xs ∧ SqL X.K H b [] ∧ Q (.bl (!xs.isEmpty)) H) := by
  intro pins s σ H x y v u Q I rx ry h
  obtain ⟨a, b, xs, rfl, rfl, h1, h2, q⟩ := h
  cases rx
  cases ry
  obtain ⟨its, r, hl, _⟩ := I.list h1
  obtain ⟨its2, r2, hl2, _⟩ := I.list h2
  cases r2
  cases xs with
  | nil =>
    cases r
    exact SeqAt.RcNeAt.lists (e := fun _ => true) hl.isList hl2.isList rfl (by omega) (fun j h1 _ => absurd h1 (Nat.not_lt_zero _)) _ _ _ _ ⟨.bl _, H, I, rfl, q⟩
  | cons x xs =>
    refine SeqAt.RcNeAt.lists_lengths hl.isList hl2.isList ?_ (by omega) _ _ _ _ ⟨.bl _, H, I, rfl, q⟩
    have := r.length
    cases its with
    | nil => simp at this
    | cons _ _ => simp
/-- two dicts, one of them empty -/
theorem dict_hits {s : Shared} {A : Around} {ka kb : List (Key × Value)} (h : ka.isEmpty = true ∨ kb.isEmpty = true) (hl : ka.length = kb.length) : PySem.W.KeqHits A s kb ka true := by
  have : ka = [] := by
    rcases h with h | h
    · exact List.isEmpty_iff.mp h
    · have := List.isEmpty_iff.mp h
      subst this
      exact List.eq_nil_of_length_eq_zero hl
  subst this
  exact .nil
theorem op_eqDD (hu : X.A.units + 65 < cLine) : OpR X (compareOp .Eq) (fun x y H Q => ∃ a b ks ls, x = .ref a ∧ y = .ref b ∧ Rd H a (.dK ks) ∧ Rd H b (.dK ls) ∧ (ks.isEmpty = true ∨ ls.isEmpty = true) ∧ Q (.bl (ks.isEmpty && ls.isEmpty)) H) := by
  intro pins s σ H x y v u Q I rx ry h
  obtain ⟨a, b, ks, ls, rfl, rfl, ea, eb, he, q⟩ := h
  cases rx
  cases ry
  obtain ⟨_, ya, va, ra, da⟩ := (show ObjOk X.prog X.w H s.heap a (.dK ks) from ea.ok I.hok)
  obtain ⟨_, yb, vb, rb, db⟩ := (show ObjOk X.prog X.w H s.heap b (.dK ls) from eb.ok I.hok)
  have l1 : ks.length = va.length := ra.length
  have l2 : ls.length = vb.length := rb.length
  have e1 : va.isEmpty = ks.isEmpty := by cases va <;> cases ks <;> simp at l1 ⊢
  have e2 : vb.isEmpty = ls.isEmpty := by cases vb <;> cases ls <;> simp at l2 ⊢
  refine PySem.W.keq_eq (knd := mixKind X.prog X.w) (r := true) ya yb da db (by omega) (fun hl => dict_hits (by rw [e1, e2]; exact he) hl) (fin_bl I q ?_)
  rw [← e1, ← e2]
  rw [← e1, ← e2] at he
  cases va <;> cases vb <;> simp at he ⊢
theorem op_neDD (hu : X.A.units + 65 < cLine) : OpR X (compareOp .NotEq) (fun x y H Q => ∃ a b ks ls, x = .ref a ∧ y = .ref b ∧ Rd H a (.dK ks) ∧ Rd H b (.dK ls) ∧ (ks.isEmpty = true ∨ ls.isEmpty = true) ∧ Q (.bl (!(ks.isEmpty && ls.isEmpty))) H) := by
  intro pins s σ H x y v u Q I rx ry h
  obtain ⟨a, b, ks, ls, rfl, rfl, ea, eb, he, q⟩ := h
  cases rx
  cases ry
  obtain ⟨_, ya, va, ra, da⟩ := (show ObjOk X.prog X.w H s.heap a (.dK ks) from ea.ok I.hok)
  obtain ⟨_, yb, vb, rb, db⟩ := (show ObjOk X.prog X.w H s.heap b (.dK ls) from eb.ok I.hok)
  have l1 : ks.length = va.length := ra.length
  have l2 : ls.length = vb.length := rb.length
  have e1 : va.isEmpty = ks.isEmpty := by cases va <;> cases ks <;> simp at l1 ⊢
  have e2 : vb.isEmpty = ls.isEmpty := by cases vb <;> cases ls <;> simp at l2 ⊢
  refine PySem.W.keq_ne (knd := mixKind X.prog X.w) (r := true) ya yb da db (by omega) (fun hl => dict_hits (by rw [e1, e2]; exact he) hl) (fin_bl I q ?_)
  rw [← e1, ← e2]
  rw [← e1, ← e2] at he
  cases va <;> cases vb <;> simp at he ⊢
theorem RpKV.empty {K : PySem.W.Frag} {H : Hp} {kvs : List (Key × V)} {kds : List (PyData × PyData)} (h : RpKV K H kvs kds) : kvs.isEmpty = kds.isEmpty := by cases h <;> rfl
theorem RpAll.empty {K : PySem.W.Frag} {H : Hp} {kvs : List V} {kds : List PyData} (h : RpAll K H kvs kds) : kvs.isEmpty = kds.isEmpty := by cases h <;> rfl
theorem op_eq' (hu : X.A.units + 65 < cLine) : OpR X (compareOp .Eq) (rCmp X.K .Eq) := by
  refine OpR.mono (OpR.or (op_eqN hu) (OpR.or (op_eqE hu) (op_eqDD hu))) fun x y H Q h => ?_
  obtain ⟨Hs, dx, dy, d, w, h1, h2, e, q⟩ := h
  replace e : eqD dx dy = some d := e
  unfold eqD at e
  split at e
  · split at e
    · rename_i hl
      cases e
      obtain ⟨a, xs, rfl, r1, k1⟩ := h1.dict w
      obtain ⟨b, ys, rfl, r2, k2⟩ := h2.dict w
      rw [← k1.empty, ← k2.empty] at q hl
      exact .inr (.inr ⟨a, b, xs, ys, rfl, rfl, r1, r2, by simpa using hl, q⟩)
    · cases e
  · cases e
    obtain ⟨a, xs, rfl, r1, k1⟩ := h1.list w
    obtain ⟨b, ys, rfl, r2, k2⟩ := h2.list w
    cases k2
    rw [← k1.empty] at q
    exact .inr (.inl ⟨a, b, xs, rfl, rfl, r1, r2, q⟩)
  · split at e
    · rename_i hl
      cases e
      simp only [Bool.and_eq_true, decide_eq_true_eq] at hl
      exact .inl ⟨_, _, h1.rp w, h2.rp w, hl.1.1, hl.1.2, hl.2, q⟩
    · cases e
theorem op_ne' (hu : X.A.units + 65 < cLine) : OpR X (compareOp .NotEq) (rCmp X.K .NotEq) := by
  refine OpR.mono (OpR.or (op_neN hu) (OpR.or (op_neE hu) (op_neDD hu))) fun x y H Q h => ?_
  obtain ⟨Hs, dx, dy, d, w, h1, h2, e, q⟩ := h
  obtain ⟨c, e1, e2⟩ := Option.map_eq_some_iff.mp (show (eqD dx dy).map (!·) = some d from e)
  clear e
  subst e2
  have e := e1; clear e1
  unfold eqD at e
  split at e
  · split at e
    · rename_i hl
      cases e
      obtain ⟨a, xs, rfl, r1, k1⟩ := h1.dict w
      obtain ⟨b, ys, rfl, r2, k2⟩ := h2.dict w
      rw [← k1.empty, ← k2.empty] at q hl
      exact .inr (.inr ⟨a, b, xs, ys, rfl, rfl, r1, r2, by simpa using hl, q⟩)
    · cases e
  · cases e
    obtain ⟨a, xs, rfl, r1, k1⟩ := h1.list w
    obtain ⟨b, ys, rfl, r2, k2⟩ := h2.list w
    cases k2
    rw [← k1.empty] at q
    exact .inr (.inl ⟨a, b, xs, rfl, rfl, r1, r2, q⟩)
  · split at e
    · rename_i hl
      cases e
      simp only [Bool.and_eq_true, decide_eq_true_eq] at hl
      exact .inl ⟨_, _, h1.rp w, h2.rp w, hl.1.1, hl.1.2, hl.2, q⟩
    · cases e
/-! in -/
theorem op_inN (hu : X.A.units + 66 < cLine) : OpR X (compareOp .In) (fun x y H Q => ∃ dx ds, Rp X.K H x dx ∧ (Rp X.K H y (.list ds) ∨ Rp X.K H y (.tuple ds)) ∧ noD dx = true ∧ noDAll ds = true ∧ dx.depth ≤ 64 ∧ Q (.bl (ds.any fun z => PyData.eqv z dx)) H) := by
  intro pins s σ H x y v u Q I rx ry h
  obtain ⟨dx, ds, h1, h2, n1, n2, hd, q⟩ := h
  obtain ⟨as, r1⟩ := Inv.reads I h1 n1 rx
  have hm : min (PyData.depthAll ds) dx.depth ≤ 64 := by omega
  rcases h2 with h2 | h2
  · have n2' : noD (.list ds) = true := by simpa [noD] using n2
    obtain ⟨bs, r2⟩ := Inv.reads I h2 n2' ry
    exact SeqAt.in_list_reads r2 r1 (by simpa [PyData.canLay0] using (h2.dp n2').2) (h1.dp n1).2 (by omega) ⟨.bl _, H, I, rfl, q⟩
  · have n2' : noD (.tuple ds) = true := by simpa [noD] using n2
    obtain ⟨bs, r2⟩ := Inv.reads I h2 n2' ry
    exact SeqAt.in_tuple_reads r2 r1 (by simpa [PyData.canLay0] using (h2.dp n2').2) (h1.dp n1).2 (by omega) ⟨.bl _, H, I, rfl, q⟩
theorem op_notInN (hu : X.A.units + 66 < cLine) : OpR X (compareOp .NotIn) (fun x y H Q => ∃ dx ds, Rp X.K H x dx ∧ (Rp X.K H y (.list ds) ∨ Rp X.K H y (.tuple ds)) ∧ noD dx = true ∧ noDAll ds = true ∧ dx.depth ≤ 64 ∧ Q (.bl (!ds.any fun z => PyData.eqv z dx)) H) := by
  intro pins s σ H x y v u Q I rx ry h
  obtain ⟨dx, ds, h1, h2, n1, n2, hd, q⟩ := h
  obtain ⟨as, r1⟩ := Inv.reads I h1 n1 rx
  have hm : min (PyData.depthAll ds) dx.depth ≤ 64 := by omega
  rcases h2 with h2 | h2
  · have n2' : noD (.list ds) = true := by simpa [noD] using n2
    obtain ⟨bs, r2⟩ := Inv.reads I h2 n2' ry
    exact SeqAt.notIn_list_reads r2 r1 (by simpa [PyData.canLay0] using (h2.dp n2').2) (h1.dp n1).2 (by omega) ⟨.bl _, H, I, rfl, q⟩
  · have n2' : noD (.tuple ds) = true := by simpa [noD] using n2
    obtain ⟨bs, r2⟩ := Inv.reads I h2 n2' ry
    exact SeqAt.notIn_tuple_reads r2 r1 (by simpa [PyData.canLay0] using (h2.dp n2').2) (h1.dp n1).2 (by omega) ⟨.bl _, H, I, rfl, q⟩
theorem op_inDD (hu : X.A.units + 1 < cLine) : OpR X (compareOp .In) (fun x y H Q => ∃ a o, y = .ref a ∧ DGet H a x o ∧ Q (.bl o.isSome) H) := by
  intro pins s σ H x y v u Q I rx ry h
  obtain ⟨a, o, rfl, g, q⟩ := h
  cases ry
  exact d_in hu I g rx fun s3 I3 => ⟨.bl o.isSome, H, I3, rfl, q⟩
theorem op_notInDD (hu : X.A.units + 1 < cLine) : OpR X (compareOp .NotIn) (fun x y H Q => ∃ a o, y = .ref a ∧ DGet H a x o ∧ Q (.bl (!o.isSome)) H) := by
  intro pins s σ H x y v u Q I rx ry h
  obtain ⟨a, o, rfl, g, q⟩ := h
  cases ry
  exact d_notIn hu I g rx fun s3 I3 => ⟨.bl (!o.isSome), H, I3, rfl, q⟩
/-- look-ups in dicts with text keys -/
theorem eqv_str (x y : Str) : PyData.eqv (.str x) (.str y) = (x == y) := by simp [PyData.eqv]
theorem RpKV.look {K : PySem.W.Frag} {H : Hp} (x : Str) : ∀ {kvs : List (Key × V)} {kds : List (PyData × PyData)}, RpKV K H kvs kds → (∀ d, lookD kds (.str x) = some d → ∃ v, valV kvs (.inr x) = some v ∧ Rp K H v d) ∧ (lookD kds (.str x) = none → valV kvs (.inr x) = none)
  | _, _, .nil => ⟨fun d h => by simp [lookD] at h, fun _ => rfl⟩
  | _, _, .cons (x := y) (v := v) (kvs := kvs) (d := d) (kds := kds) h1 h2 r => by
    have ih := RpKV.look x r
    by_cases e : y = x
    · subst e
      have e1 : lookD ((.str y, d) :: kds) (.str y) = some d := by simp [lookD, eqv_str]
      have e2 : valV ((Sum.inr y, v) :: kvs) (.inr y : Key) = some v := by simp [valV]
      rw [e1, e2]
      exact ⟨fun d' h => by cases h; exact ⟨v, rfl, h2⟩, fun h => by cases h⟩
    · have e1 : lookD ((.str y, d) :: kds) (.str x) = lookD kds (.str x) := by simp [lookD, eqv_str, e]
      have e2 : valV ((Sum.inr y, v) :: kvs) (.inr x : Key) = valV kvs (.inr x) := by
        have : ¬ (Sum.inr y : Key) = Sum.inr x := fun z => e (Sum.inr.inj z)
        simp [valV, this]
      rw [e1, e2]
      exact ih
theorem any_look (kds : List (PyData × PyData)) (x : PyData) : (kds.any fun kv => PyData.eqv kv.1 x) = (lookD kds x).isSome := by
  induction kds with
  | nil => rfl
  | cons kv r ih =>
    obtain ⟨a, b⟩ := kv
    simp only [List.any_cons, lookD, ih]
    cases PyData.eqv a x <;> simp
theorem RpKV.isSome {K : PySem.W.Frag} {H : Hp} {kvs : List (Key × V)} {kds : List (PyData × PyData)} (r : RpKV K H kvs kds) (x : Str) : (lookD kds (.str x)).isSome = (valV kvs (.inr x : Key)).isSome := by
  obtain ⟨h1, h2⟩ := r.look x
  cases e : lookD kds (.str x) with
  | none => rw [h2 e]; rfl
  | some d =>
    obtain ⟨v, e2, _⟩ := h1 d e
    rw [e2]
    rfl
theorem op_in' (hu : X.A.units + 66 < cLine) : OpR X (compareOp .In) (rCmp X.K .In) := by
  refine OpR.mono (OpR.or (op_inN hu) (OpR.or (op_inDD (by omega)) op_in_sign)) fun x y H Q h => ?_
  obtain ⟨Hs, dx, dy, d, w, h1, h2, e, q⟩ := h
  replace e : inD dx dy = some d := e
  unfold inD at e
  split at e
  · split at e
    · rename_i hl
      cases e
      simp only [Bool.and_eq_true, decide_eq_true_eq] at hl
      exact .inl ⟨_, _, h1.rp w, .inl (h2.rp w), hl.1.1, hl.1.2, hl.2, q⟩
    · cases e
  · split at e
    · rename_i hl
      cases e
      simp only [Bool.and_eq_true, decide_eq_true_eq] at hl
      exact .inl ⟨_, _, h1.rp w, .inr (h2.rp w), hl.1.1, hl.1.2, hl.2, q⟩
    · cases e
  · split at e
    · rename_i hl
      cases e
      cases dx <;> simp [keyD] at hl
      obtain ⟨rfl, _⟩ := h1.str
      obtain ⟨b, ys, rfl, r2, k2⟩ := h2.dict w
      rw [any_look, k2.isSome] at q
      exact .inr (.inl ⟨b, _, rfl, .inl ⟨ys, .inr _, r2, rfl, rfl⟩, q⟩)
    · cases e
  · split at e
    · rename_i c
      split at e
      · rename_i k hk
        cases e
        obtain ⟨rfl, _⟩ := h1.str
        obtain ⟨rfl, _⟩ := h2.str
        refine .inr (.inr ⟨k, _, ?_, rfl, q⟩)
        have : c = ⟨#[k]⟩ := by
          cases c
          simp only [Str.mk.injEq]
          exact Array.toList_inj.mp hk
        rw [this]
      · cases e
    · cases e
  · cases e
theorem op_notIn' (hu : X.A.units + 66 < cLine) : OpR X (compareOp .NotIn) (rCmp X.K .NotIn) := by
  refine OpR.mono (OpR.or (op_notInN hu) (OpR.or (op_notInDD (by omega)) op_notIn_sign)) fun x y H Q h => ?_
  obtain ⟨Hs, dx, dy, d, w, h1, h2, e, q⟩ := h
  obtain ⟨c0, e1, e2⟩ := Option.map_eq_some_iff.mp (show (inD dx dy).map (!·) = some d from e)
  clear e
  subst e2
  have e := e1; clear e1
  unfold inD at e
  split at e
  · split at e
    · rename_i hl
      cases e
      simp only [Bool.and_eq_true, decide_eq_true_eq] at hl
      exact .inl ⟨_, _, h1.rp w, .inl (h2.rp w), hl.1.1, hl.1.2, hl.2, q⟩
    · cases e
  · split at e
    · rename_i hl
      cases e
      simp only [Bool.and_eq_true, decide_eq_true_eq] at hl
      exact .inl ⟨_, _, h1.rp w, .inr (h2.rp w), hl.1.1, hl.1.2, hl.2, q⟩
    · cases e
  · split at e
    · rename_i hl
      cases e
      cases dx <;> simp [keyD] at hl
      obtain ⟨rfl, _⟩ := h1.str
      obtain ⟨b, ys, rfl, r2, k2⟩ := h2.dict w
      rw [any_look, k2.isSome] at q
      exact .inr (.inl ⟨b, _, rfl, .inl ⟨ys, .inr _, r2, rfl, rfl⟩, q⟩)
    · cases e
  · split at e
    · rename_i c
      split at e
      · rename_i k hk
        cases e
        obtain ⟨rfl, _⟩ := h1.str
        obtain ⟨rfl, _⟩ := h2.str
        refine .inr (.inr ⟨k, _, ?_, rfl, q⟩)
        have : c = ⟨#[k]⟩ := by
          cases c
          simp only [Str.mk.injEq]
          exact Array.toList_inj.mp hk
        rw [this]
      · cases e
    · cases e
  · cases e
theorem Rq.isNon {K : PySem.W.Frag} {Hs H : Hp} {v : V} {d : PyData} (h : Rq K Hs H v d) : decide (v = .non) = (match d with | .none => true | _ => false) := by
  rcases h with h | ⟨a, rfl, _, o, _, h⟩
  · cases h <;> rfl
  · cases o <;> cases d <;> first | exact h.elim | rfl
theorem op_is' : OpR X (compareOp .Is) (rCmp X.K .Is) := by
  refine OpR.mono (OpR.or op_isN op_isBl) fun x y H Q h => ?_
  obtain ⟨Hs, dx, dy, d, w, h1, h2, e, q⟩ := h
  have hx := h1.isNon
  cases dy with
  | none =>
    rw [h2.none]
    refine .inl ⟨rfl, ?_⟩
    rw [hx]
    cases dx <;> simp [cmpD] at e <;> subst e <;> exact q
  | bool b =>
    cases dx <;> simp [cmpD] at e
    rename_i a
    rw [h1.bool, h2.bool]
    refine .inr ⟨a, b, rfl, rfl, ?_⟩
    subst e
    have : decide (a = b) = (a == b) := by cases a <;> cases b <;> rfl
    rw [this]
    exact q
  | _ => cases dx <;> simp [cmpD] at e
theorem op_isNot' : OpR X (compareOp .IsNot) (rCmp X.K .IsNot) := by
  refine OpR.mono (OpR.or op_notN op_notBl) fun x y H Q h => ?_
  obtain ⟨Hs, dx, dy, d, w, h1, h2, e, q⟩ := h
  have hx := h1.isNon
  cases dy with
  | none =>
    rw [h2.none]
    refine .inl ⟨rfl, ?_⟩
    rw [hx]
    cases dx <;> simp [cmpD] at e <;> subst e <;> exact q
  | bool b =>
    cases dx <;> simp [cmpD] at e
    rename_i a
    rw [h1.bool, h2.bool]
    refine .inr ⟨a, b, rfl, rfl, ?_⟩
    have : decide (a = b) = (a == b) := by cases a <;> cases b <;> rfl
    rw [this, e]
    simpa using q
  | _ => cases dx <;> simp [cmpD] at e
theorem op_lt' : OpR X (compareOp .Lt) (rCmp X.K .Lt) := by
  refine OpR.mono (OpR.or op_lt op_lt_str) fun x y H Q h => ?_
  obtain ⟨Hs, dx, dy, d, w, h1, h2, e, q⟩ := h
  cases dx <;> cases dy <;> simp only [cmpD, Option.some.injEq, reduceCtorEq] at e
  · subst e
    rw [h1.int, h2.int]
    exact .inl ⟨_, _, rfl, rfl, q⟩
  · subst e
    obtain ⟨rfl, _⟩ := h1.str
    obtain ⟨rfl, _⟩ := h2.str
    exact .inr ⟨_, _, rfl, rfl, q⟩
theorem op_cmp_int {op : CmpOp} {g : Int → Int → Bool} (ho : OpR X (compareOp op) (rI0 fun i j => .bl (g i j))) (hd : ∀ dx dy b, cmpD op dx dy = some b → ∃ i j, dx = .int i ∧ dy = .int j ∧ b = g i j) : OpR X (compareOp op) (rCmp X.K op) := by
  refine OpR.mono ho fun x y H Q h => ?_
  obtain ⟨Hs, dx, dy, d, w, h1, h2, e, q⟩ := h
  obtain ⟨i, j, rfl, rfl, rfl⟩ := hd _ _ _ e
  rw [h1.int, h2.int]
  exact ⟨i, j, rfl, rfl, q⟩
theorem op_le' : OpR X (compareOp .LtE) (rCmp X.K .LtE) := op_cmp_int op_le fun dx dy b e => by
  cases dx <;> cases dy <;> simp [cmpD] at e
  exact ⟨_, _, rfl, rfl, e.symm⟩
theorem op_gt' : OpR X (compareOp .Gt) (rCmp X.K .Gt) := op_cmp_int op_gt fun dx dy b e => by
  cases dx <;> cases dy <;> simp [cmpD] at e
  exact ⟨_, _, rfl, rfl, e.symm⟩
theorem op_ge' : OpR X (compareOp .GtE) (rCmp X.K .GtE) := op_cmp_int op_ge fun dx dy b e => by
  cases dx <;> cases dy <;> simp [cmpD] at e
  exact ⟨_, _, rfl, rfl, e.symm⟩
theorem op_cmp (hu : X.A.units + 66 < cLine) : ∀ op : CmpOp, OpR X (compareOp op) (rCmp X.K op)
  | .Eq => op_eq' (by omega)
  | .NotEq => op_ne' (by omega)
  | .Lt => op_lt'
  | .LtE => op_le'
  | .Gt => op_gt'
  | .GtE => op_ge'
  | .Is => op_is'
  | .IsNot => op_isNot'
  | .In => op_in' hu
  | .NotIn => op_notIn' hu
end
end Wr
end

section
set_option Elab.async false
set_option linter.all false
set_option maxRecDepth 100000
set_option maxHeartbeats 4000000
/-! WrE: slots, readings, targets, plain expressions. -/
namespace Wr
open PySem PySem.Spec PyProof.Rows L2
variable [Wld]

/-! ### the slots, changed -/
theorem set_get {α : Type} (l : List α) (i j : Nat) (x : α) : (l.set i x)[j]? = if i = j then (if j < l.length then some x else none) else l[j]? := by
  rw [List.getElem?_set]
  by_cases h : i = j
  · subst h; simp
  · simp [h]
section
variable {K : PySem.W.Frag} {env : Ev} {σ : L2.St} {H Hs : Hp}
/-- a name is given something else -/
theorem EnvOk.set_any (e : EnvOk K env σ H Hs) (i : Nat) {x : Sl} {o : Option V} (h : SlOk K Hs H x o) (n : ∀ a, OwS x → o = some (.ref a) → ¬ OwnedAt env σ a) : EnvOk K (env.set i x) (σ.set i o) H Hs := by
  refine ⟨e.view, by rw [List.length_set, List.length_set, e.len], fun j y hy => ?_, fun j k b x1 x2 hjk h1 h2 o1 o2 h3 h4 => ?_⟩
  · rw [set_get] at hy ⊢
    by_cases z : i = j
    · rw [if_pos z] at hy ⊢
      by_cases l : j < env.length
      · rw [if_pos l] at hy
        cases hy
        rw [if_pos (by rw [← e.len]; exact l)]
        exact ⟨o, rfl, h⟩
      · rw [if_neg l] at hy; cases hy
    · rw [if_neg z] at hy ⊢
      exact e.pt j y hy
  · rw [set_get] at h1 h2 h3 h4
    by_cases z1 : i = j
    · rw [if_neg (by omega : ¬ i = k)] at h2 h4
      rw [if_pos z1] at h1 h3
      split at h1
      · cases h1
        split at h3
        · exact n b o1 (by injection h3) ⟨k, x2, h2, o2, h4⟩
        · cases h3
      · cases h1
    · rw [if_neg z1] at h1 h3
      by_cases z2 : i = k
      · rw [if_pos z2] at h2 h4
        split at h2
        · cases h2
          split at h4
          · exact n b o2 (by injection h4) ⟨j, x1, h1, o1, h3⟩
          · cases h4
        · cases h2
      · rw [if_neg z2] at h2 h4
        exact e.sep j k b x1 x2 hjk h1 h2 o1 o2 h3 h4
theorem EnvOk.set_sh (e : EnvOk K env σ H Hs) (i : Nat) {v : V} {d : PyData} (r : Rp K Hs v d) : EnvOk K (env.set i (.sh d)) (σ.set i (some v)) H Hs := e.set_any i (x := .sh d) ⟨v, rfl, r⟩ fun _ z => z.elim
theorem EnvOk.set_un (e : EnvOk K env σ H Hs) (i : Nat) (v : Option V) : EnvOk K (env.set i .un) (σ.set i v) H Hs := e.set_any i (x := .un) trivial fun _ z => z.elim
/-- a list or dict that no name holds yet is given to a name -/
theorem EnvOk.set_ow (e : EnvOk K env σ H Hs) (i : Nat) {a : Addr} {d : PyData} (o : Own K Hs H a d) (n : ¬ OwnedAt env σ a) : EnvOk K (env.set i (.ow d)) (σ.set i (some (.ref a))) H Hs := e.set_any i (x := .ow d) ⟨a, rfl, o⟩ fun b _ eb => by
  cases eb
  exact n
theorem EnvOk.set_dt (e : EnvOk K env σ H Hs) (i : Nat) {a : Addr} {d : List (PyData × PyData)} (o : OwnT K Hs H a d) (n : ¬ OwnedAt env σ a) : EnvOk K (env.set i (.dt d)) (σ.set i (some (.ref a))) H Hs := e.set_any i (x := .dt d) ⟨a, rfl, o⟩ fun b _ eb => by
  cases eb
  exact n
theorem set_same {α : Type} : ∀ (l : List α) (i : Nat) (x : α), l[i]? = some x → l.set i x = l
  | [], _, _, h => by simp at h
  | y :: r, 0, x, h => by simp at h; subst h; rfl
  | y :: r, i + 1, x, h => by rw [List.set_cons_succ, set_same r i x (by simpa using h)]
/-- .. in the evaluator's slots alone -/
theorem EnvOk.set_at (e : EnvOk K env σ H Hs) (i : Nat) {x : Sl} {o : Option V} (hs : σ[i]? = some o) (h : SlOk K Hs H x o) (n : ∀ a, OwS x → o = some (.ref a) → ¬ OwnedAt env σ a) : EnvOk K (env.set i x) σ H Hs := by
  have := e.set_any i h n
  rw [set_same σ i o hs] at this
  exact this
theorem EnvOk.wipe (e : EnvOk K env σ H Hs) : ∀ vs : List Nat, EnvOk K (wipeE env vs) (L2.wipe σ vs) H Hs
  | [] => e
  | v :: vs => (EnvOk.wipe e vs).set_un v none
/-- a name's own list is shared -/
theorem EnvOk.share (e : EnvOk K env σ H Hs) {i : Nat} {d : PyData} (h : env[i]? = some (.ow d)) : ∃ Hs', Same Hs Hs' ∧ EnvOk K (env.set i (.sh d)) σ H Hs' ∧ (∀ b, Hs b = none → Hs' b ≠ none → OwnedAt env σ b) := by
  obtain ⟨a, h1, h2⟩ := e.ow i d h
  obtain ⟨o, e1, s, w, r⟩ := h2.share e.view
  have e0 : EnvOk K (env.set i .un) σ H Hs := e.set_at i (x := .un) h1 trivial fun _ z => z.elim
  have no : ¬ OwnedAt (env.set i .un) σ a := fun ⟨j, x, q1, q2, q3⟩ => by
    rw [set_get] at q1
    by_cases z : i = j
    · rw [if_pos z] at q1
      split at q1
      · cases q1
        exact q2
      · cases q1
    · rw [if_neg z] at q1
      exact e.sep i j a (.ow d) x z h q1 trivial q2 h1 q3
  have e2 : EnvOk K (env.set i .un) σ H (upd Hs a o) := e0.re s w fun b hb => ⟨rfl, by
    have nb : b ≠ a := fun z => no (by rw [← z]; exact hb)
    rw [upd_ne nb]
    exact (e0.owned hb).2⟩
  have e3 := e2.set_at i (x := .sh d) h1 ⟨_, rfl, r⟩ fun _ z => z.elim
  rw [List.set_set] at e3
  refine ⟨upd Hs a o, s, e3, fun b n n' => ?_⟩
  by_cases z : b = a
  · subst z
    exact ⟨i, .ow d, h, trivial, h1⟩
  · rw [upd_ne z] at n'
    exact absurd n n'
end

/-! ### readings -/
section
variable (K : PySem.W.Frag) (Ph : Nat → List PyData → Option PyData)
def tE (fr : Bool) (e : E) : TE := fun σ H Q => ∃ env Hs d, EnvOk K env σ H Hs ∧ evE Ph env e = some d ∧ ∀ v H' Hs', FrE H Hs H' Hs' → Rs K H Hs' H' v d fr → Q v H'
def tO (o : O) : TE := fun σ H Q => ∃ env Hs d, EnvOk K env σ H Hs ∧ evO Ph env o = some d ∧ ∀ v H' Hs', FrE H Hs H' Hs' → Rq K Hs' H' v d → Q v H'
def tEs (es : Es) : TA := fun σ H Q => ∃ env Hs ds, EnvOk K env σ H Hs ∧ evEs Ph env es = some ds ∧ ∀ vs H' Hs', FrE H Hs H' Hs' → RpAll K Hs' vs ds → Q vs H'
def tT (e : E) : TT := fun σ H Q => ∃ env Hs b, EnvOk K env σ H Hs ∧ evE Ph env e = some (.bool b) ∧ ∀ H' Hs', FrE H Hs H' Hs' → Q b H'
def tAn (es : Es) : TT := fun σ H Q => ∃ env Hs b, EnvOk K env σ H Hs ∧ evAnd Ph env es = some (.bool b) ∧ ∀ H' Hs', FrE H Hs H' Hs' → Q b H'
def tOr' (es : Es) : TT := fun σ H Q => ∃ env Hs b, EnvOk K env σ H Hs ∧ evOr Ph env es = some (.bool b) ∧ ∀ H' Hs', FrE H Hs H' Hs' → Q b H'
end
section
variable {X : Cx} {Ph : Nat → List PyData → Option PyData}
theorem pe_shared {e : Expr} {ir : E} {fr : Bool} (h : PE X e (tE X.K Ph fr ir)) : PE X e (tE X.K Ph false ir) := by
  refine PE.mono h fun σ H Q q => ?_
  obtain ⟨env, Hs, d, ok, ev, q⟩ := q
  refine ⟨env, Hs, d, ok, ev, fun v H' Hs' f r => ?_⟩
  obtain ⟨Hs2, f2, r2⟩ := r.shared f
  exact q v H' Hs2 f2 r2
theorem pe_o {e : Expr} {ir : E} {fr : Bool} (h : PE X e (tE X.K Ph fr ir)) : PE X e (tO X.K Ph (.ex ir)) := by
  refine PE.mono (pe_shared h) fun σ H Q q => ?_
  obtain ⟨env, Hs, d, ok, ev, q⟩ := q
  exact ⟨env, Hs, d, ok, ev, fun v H' Hs' f r => q v H' Hs' f (.inl r)⟩
/-! names, constants -/
theorem pe_v {i : Nat} {x : Str} {pos : Pos} (hN : X.N[i]? = some x) (hv : Vis X.env.scope x) (hd : (x == ("__debug__" : Str)) = false) (hcd : (x == ("__classdict__" : Str)) = false) : PE X (.Name x pos) (tE X.K Ph false (.var i)) := by
  refine PE.mono (pe_var hN hv hd hcd) fun σ H Q q => ?_
  obtain ⟨env, Hs, d, ok, ev, q⟩ := q
  have e : env[i]? = some (.sh d) := by
    rw [evE] at ev
    split at ev
    · cases ev; assumption
    · cases ev
  obtain ⟨v, h1, h2⟩ := ok.sh i d e
  exact ⟨v, h1, q v H Hs (FrE.refl ok.view) h2⟩
theorem pe_b {i : Nat} {x : Str} {pos : Pos} (hN : X.N[i]? = some x) (hv : Vis X.env.scope x) (hd : (x == ("__debug__" : Str)) = false) (hcd : (x == ("__classdict__" : Str)) = false) : PE X (.Name x pos) (tO X.K Ph (.bo i)) := by
  refine PE.mono (pe_var hN hv hd hcd) fun σ H Q q => ?_
  obtain ⟨env, Hs, d, ok, ev, q⟩ := q
  rw [evO] at ev
  split at ev
  · rename_i d' e
    cases ev
    obtain ⟨a, h1, h2⟩ := ok.ow i d e
    exact ⟨_, h1, q _ H Hs (FrE.refl ok.view) (.inr ⟨a, rfl, h2⟩)⟩
  · rename_i d' e
    cases ev
    obtain ⟨v, h1, h2⟩ := ok.sh i d e
    exact ⟨v, h1, q v H Hs (FrE.refl ok.view) (.inl h2)⟩
  · cases ev
theorem pe_cst {e : Expr} {v : V} {d : PyData} (h : PE X e (tC v)) (r : ∀ H, Rp X.K H v d) : PE X e (tE X.K Ph false (.cst d)) := by
  refine PE.mono h fun σ H Q q => ?_
  obtain ⟨env, Hs, d', ok, ev, q⟩ := q
  rw [evE] at ev
  cases ev
  exact q v H Hs (FrE.refl ok.view) (r Hs)
theorem pe_negc {j k : Nat} {p pos : Pos} {i : Int} : PE X (.UnaryOp .USub (.Constant (.int i) j p) pos) (tE X.K Ph false (.cst (.int (-i)))) := by
  refine PE.mono (pe_un un_neg pe_int) fun σ H Q q => ?_
  obtain ⟨env, Hs, d', ok, ev, q⟩ := q
  rw [evE] at ev
  cases ev
  exact ⟨i, rfl, q _ H Hs (FrE.refl ok.view) (.int _)⟩
/-! operators -/
theorem pe_bin {op : Operator} {a b : Expr} {x y : O} {pos : Pos} (ho : OpR X (binaryOp op) (rBin X.K op)) (ha : PE X a (tO X.K Ph x)) (hb : PE X b (tO X.K Ph y)) : PE X (.BinOp a op b pos) (tE X.K Ph false (.bin op x y)) := by
  refine PE.mono (pe_op ho ha hb) fun σ H Q q => ?_
  obtain ⟨env, Hs, d, ok, ev, q⟩ := q
  rw [evE] at ev
  split at ev
  · rename_i dx ex
    split at ev
    · rename_i dy ey
      refine ⟨env, Hs, dx, ok, ex, fun v1 H1 Hs1 f1 r1 => ⟨env, Hs1, dy, ok.fr f1, ey, fun v2 H2 Hs2 f2 r2 => ?_⟩⟩
      exact ⟨Hs2, dx, dy, d, f2.view, f2.rq r1, r2, ev, fun v H' Hs' f r => q v H' Hs' ((f1.trans f2).trans f) r⟩
    · cases ev
  · cases ev
theorem pe_cat {a b : Expr} {x y : O} {pos : Pos} (ha : PE X a (tO X.K Ph x)) (hb : PE X b (tO X.K Ph y)) : PE X (.BinOp a .Add b pos) (tE X.K Ph true (.cat x y)) := by
  refine PE.mono (pe_op op_catF ha hb) fun σ H Q q => ?_
  obtain ⟨env, Hs, d, ok, ev, q⟩ := q
  rw [evE] at ev
  split at ev
  · rename_i dx ex
    split at ev
    · rename_i dy ey
      split at ev
      · rename_i hl
        cases ev
        refine ⟨env, Hs, _, ok, ex, fun v1 H1 Hs1 f1 r1 => ⟨env, Hs1, _, ok.fr f1, ey, fun v2 H2 Hs2 f2 r2 => ?_⟩⟩
        refine ⟨Hs2, dx, dy, f2.view, f2.rq r1, r2, hl, fun v H' Hs' f r => q v H' Hs' ((f1.trans f2).trans f) ?_⟩
        obtain ⟨p, e, n, o⟩ := r
        exact ⟨p, e, (f1.trans f2).same.free n, o⟩
      · cases ev
    · cases ev
  · cases ev
theorem pe_cmp' {op : CmpOp} {a b : Expr} {x y : O} {pos : Pos} (ho : OpR X (compareOp op) (rCmp X.K op)) (ha : PE X a (tO X.K Ph x)) (hb : PE X b (tO X.K Ph y)) (hm : behindInMarks op b = false) : PE X (.Compare a [op] [b] pos) (tE X.K Ph false (.cmp op x y)) := by
  refine PE.mono (pe_cmpR ho ha hb hm) fun σ H Q q => ?_
  obtain ⟨env, Hs, d, ok, ev, q⟩ := q
  rw [evE] at ev
  split at ev
  · rename_i dx ex
    split at ev
    · rename_i dy ey
      obtain ⟨b', e1, rfl⟩ := Option.map_eq_some_iff.mp ev
      refine ⟨env, Hs, dx, ok, ex, fun v1 H1 Hs1 f1 r1 => ⟨env, Hs1, dy, ok.fr f1, ey, fun v2 H2 Hs2 f2 r2 => ?_⟩⟩
      exact ⟨Hs2, dx, dy, b', f2.view, f2.rq r1, r2, e1, q _ H2 Hs2 (f1.trans f2) (.bl b')⟩
    · cases ev
  · cases ev
theorem pt_cmp' {op : CmpOp} {a b : Expr} {x y : O} {pos : Pos} (ho : OpR X (compareOp op) (rCmp X.K op)) (ha : PE X a (tO X.K Ph x)) (hb : PE X b (tO X.K Ph y)) (hm : behindInMarks op b = false) : PT X (.Compare a [op] [b] pos) (tT X.K Ph (.cmp op x y)) := by
  refine PT.mono (pt_cmpR ho ha hb hm) fun σ H Q q => ?_
  obtain ⟨env, Hs, d, ok, ev, q⟩ := q
  rw [evE] at ev
  split at ev
  · rename_i dx ex
    split at ev
    · rename_i dy ey
      obtain ⟨b', e1, e2⟩ := Option.map_eq_some_iff.mp ev
      cases e2
      refine ⟨env, Hs, dx, ok, ex, fun v1 H1 Hs1 f1 r1 => ⟨env, Hs1, dy, ok.fr f1, ey, fun v2 H2 Hs2 f2 r2 => ?_⟩⟩
      exact ⟨Hs2, dx, dy, d, f2.view, f2.rq r1, r2, e1, d, rfl, q H2 Hs2 (f1.trans f2)⟩
    · cases ev
  · cases ev
/-- a op b op' c -/
theorem pe_chn {op op' : CmpOp} {a b c : Expr} {x y z : E} {pos : Pos} (ho : OpR X (compareOp op) (rCmp X.K op)) (ho' : OpR X (compareOp op') (rCmp X.K op')) (ha : PE X a (tE X.K Ph false x)) (hb : PE X b (tE X.K Ph false y)) (hc : PE X c (tE X.K Ph false z)) (hm : lastMarks [op, op'] [b, c] = false) :
    PE X (.Compare a [op, op'] [b, c] pos) (tE X.K Ph false (.chn op op' x y z)) := by
  refine PE.mono (pe_chain ho ho' ha hb hc hm) fun σ H Q q => ?_
  obtain ⟨env, Hs, d, ok, ev, q⟩ := q
  rw [evE] at ev
  split at ev
  · rename_i dx ex
    split at ev
    · rename_i dy ey
      refine ⟨env, Hs, dx, ok, ex, fun v1 H1 Hs1 f1 r1 => ⟨env, Hs1, dy, ok.fr f1, ey, fun v2 H2 Hs2 f2 r2 => ?_⟩⟩
      split at ev
      · rename_i e1
        split at ev
        · rename_i dz ez
          obtain ⟨b', e2, rfl⟩ := Option.map_eq_some_iff.mp ev
          refine ⟨Hs2, dx, dy, true, f2.view, .inl (f2.rp r1), .inl r2, e1, true, rfl, iteT ?_⟩
          refine ⟨env, Hs2, dz, (ok.fr f1).fr f2, ez, fun v3 H3 Hs3 f3 r3 => ?_⟩
          exact ⟨Hs3, dy, dz, b', f3.view, .inl (f3.rp r2), .inl r3, e2, q _ H3 Hs3 ((f1.trans f2).trans f3) (.bl b')⟩
        · cases ev
      · rename_i e1
        cases ev
        exact ⟨Hs2, dx, dy, false, f2.view, .inl (f2.rp r1), .inl r2, e1, false, rfl, iteF (q _ H2 Hs2 (f1.trans f2) (.bl false))⟩
      · cases ev
    · cases ev
  · cases ev
theorem pt_chn {op op' : CmpOp} {a b c : Expr} {x y z : E} {pos : Pos} (ho : OpR X (compareOp op) (rCmp X.K op)) (ho' : OpR X (compareOp op') (rCmp X.K op')) (ha : PE X a (tE X.K Ph false x)) (hb : PE X b (tE X.K Ph false y)) (hc : PE X c (tE X.K Ph false z)) (hm : lastMarks [op, op'] [b, c] = false) :
    PT X (.Compare a [op, op'] [b, c] pos) (tT X.K Ph (.chn op op' x y z)) := by
  refine PT.mono (pt_chain ho ho' ha hb hc hm) fun σ H Q q => ?_
  obtain ⟨env, Hs, d, ok, ev, q⟩ := q
  rw [evE] at ev
  split at ev
  · rename_i dx ex
    split at ev
    · rename_i dy ey
      refine ⟨env, Hs, dx, ok, ex, fun v1 H1 Hs1 f1 r1 => ⟨env, Hs1, dy, ok.fr f1, ey, fun v2 H2 Hs2 f2 r2 => ?_⟩⟩
      split at ev
      · rename_i e1
        split at ev
        · rename_i dz ez
          obtain ⟨b', e2, e3⟩ := Option.map_eq_some_iff.mp ev
          cases e3
          refine ⟨Hs2, dx, dy, true, f2.view, .inl (f2.rp r1), .inl r2, e1, true, rfl, iteT ?_⟩
          refine ⟨env, Hs2, dz, (ok.fr f1).fr f2, ez, fun v3 H3 Hs3 f3 r3 => ?_⟩
          exact ⟨Hs3, dy, dz, d, f3.view, .inl (f3.rp r2), .inl r3, e2, d, rfl, q H3 Hs3 ((f1.trans f2).trans f3)⟩
        · cases ev
      · rename_i e1
        cases ev
        exact ⟨Hs2, dx, dy, false, f2.view, .inl (f2.rp r1), .inl r2, e1, false, rfl, iteF ⟨false, rfl, q H2 Hs2 (f1.trans f2)⟩⟩
      · cases ev
    · cases ev
  · cases ev
/-! truth -/
theorem evAnd_bool {env : Ev} : ∀ {es : Es} {d : PyData}, evAnd Ph env es = some d → ∃ b, d = .bool b
  | .nil, d, h => by rw [evAnd] at h; cases h; exact ⟨_, rfl⟩
  | .cons e es, d, h => by
    rw [evAnd] at h
    split at h
    · exact evAnd_bool h
    · cases h; exact ⟨_, rfl⟩
    · cases h
theorem evOr_bool {env : Ev} : ∀ {es : Es} {d : PyData}, evOr Ph env es = some d → ∃ b, d = .bool b
  | .nil, d, h => by rw [evOr] at h; cases h; exact ⟨_, rfl⟩
  | .cons e es, d, h => by
    rw [evOr] at h
    split at h
    · exact evOr_bool h
    · cases h; exact ⟨_, rfl⟩
    · cases h
theorem pt_plain {e : Expr} {ir : E} (h : PE X e (tE X.K Ph false ir)) (he : ∀ whole, isTrue e X.env whole = (do let v ← whole; standAt e.pos; holding [v] (truthy v))) : PT X e (tT X.K Ph ir) := by
  refine PT.mono (pt_val h he) fun σ H Q q => ?_
  obtain ⟨env, Hs, b, ok, ev, q⟩ := q
  refine ⟨env, Hs, _, ok, ev, fun v H' Hs' f r => ?_⟩
  cases r
  exact ⟨b, rfl, q H' Hs' f⟩
theorem pw_an1 {a : Expr} {x : E} {pos : Pos} (ha : PT X a (tT X.K Ph x)) : PW X (.BoolOp .And [a] pos) (tAn X.K Ph (.cons x .nil)) := by
  refine PW.mono (pw_and1 ha) fun σ H Q q => ?_
  obtain ⟨env, Hs, b, ok, ev, q⟩ := q
  rw [evAnd] at ev
  split at ev
  · rename_i e
    rw [evAnd] at ev
    cases ev
    exact ⟨env, Hs, _, ok, e, q⟩
  · rename_i e
    cases ev
    exact ⟨env, Hs, _, ok, e, q⟩
  · cases ev
theorem pw_an {a b : Expr} {rest : List Expr} {x : E} {xs : Es} {pos : Pos} (ha : PT X a (tT X.K Ph x)) (hb : PW X (.BoolOp .And (b :: rest) pos) (tAn X.K Ph xs)) : PW X (.BoolOp .And (a :: b :: rest) pos) (tAn X.K Ph (.cons x xs)) := by
  refine PW.mono (pw_and ha hb) fun σ H Q q => ?_
  obtain ⟨env, Hs, b, ok, ev, q⟩ := q
  rw [evAnd] at ev
  split at ev
  · rename_i e
    exact ⟨env, Hs, true, ok, e, fun H1 Hs1 f1 => iteT ⟨env, Hs1, b, ok.fr f1, ev, fun H2 Hs2 f2 => q H2 Hs2 (f1.trans f2)⟩⟩
  · rename_i e
    cases ev
    exact ⟨env, Hs, false, ok, e, fun H1 Hs1 f1 => iteF (q H1 Hs1 f1)⟩
  · cases ev
theorem pw_or1' {a : Expr} {x : E} {pos : Pos} (ha : PT X a (tT X.K Ph x)) : PW X (.BoolOp .Or [a] pos) (tOr' X.K Ph (.cons x .nil)) := by
  refine PW.mono (pw_or1 ha) fun σ H Q q => ?_
  obtain ⟨env, Hs, b, ok, ev, q⟩ := q
  rw [evOr] at ev
  split at ev
  · rename_i e
    rw [evOr] at ev
    cases ev
    exact ⟨env, Hs, _, ok, e, q⟩
  · rename_i e
    cases ev
    exact ⟨env, Hs, _, ok, e, q⟩
  · cases ev
theorem pw_or' {a b : Expr} {rest : List Expr} {x : E} {xs : Es} {pos : Pos} (ha : PT X a (tT X.K Ph x)) (hb : PW X (.BoolOp .Or (b :: rest) pos) (tOr' X.K Ph xs)) : PW X (.BoolOp .Or (a :: b :: rest) pos) (tOr' X.K Ph (.cons x xs)) := by
  refine PW.mono (pw_or ha hb) fun σ H Q q => ?_
  obtain ⟨env, Hs, b, ok, ev, q⟩ := q
  rw [evOr] at ev
  split at ev
  · rename_i e
    exact ⟨env, Hs, false, ok, e, fun H1 Hs1 f1 => iteF ⟨env, Hs1, b, ok.fr f1, ev, fun H2 Hs2 f2 => q H2 Hs2 (f1.trans f2)⟩⟩
  · rename_i e
    cases ev
    exact ⟨env, Hs, true, ok, e, fun H1 Hs1 f1 => iteT (q H1 Hs1 f1)⟩
  · cases ev
/-- .. as values -/
def tAnV (K : PySem.W.Frag) (Ph : Nat → List PyData → Option PyData) (es : Es) : TE := fun σ H Q => ∃ env Hs d, EnvOk K env σ H Hs ∧ evAnd Ph env es = some d ∧ ∀ v H' Hs', FrE H Hs H' Hs' → Rp K Hs' v d → Q v H'
def tOrV' (K : PySem.W.Frag) (Ph : Nat → List PyData → Option PyData) (es : Es) : TE := fun σ H Q => ∃ env Hs d, EnvOk K env σ H Hs ∧ evOr Ph env es = some d ∧ ∀ v H' Hs', FrE H Hs H' Hs' → Rp K Hs' v d → Q v H'
theorem pv_an1 {a : Expr} {x : E} {pos : Pos} (ha : PE X a (tE X.K Ph false x)) : PE X (.BoolOp .And [a] pos) (tAnV X.K Ph (.cons x .nil)) := by
  refine PE.mono (pe_one ha) fun σ H Q q => ?_
  obtain ⟨env, Hs, b, ok, ev, q⟩ := q
  rw [evAnd] at ev
  split at ev
  · rename_i e
    rw [evAnd] at ev
    cases ev
    exact ⟨env, Hs, _, ok, e, q⟩
  · rename_i e
    cases ev
    exact ⟨env, Hs, _, ok, e, q⟩
  · cases ev
theorem pv_an {a b : Expr} {rest : List Expr} {x : E} {xs : Es} {pos : Pos} (ha : PE X a (tE X.K Ph false x)) (hb : PE X (.BoolOp .And (b :: rest) pos) (tAnV X.K Ph xs)) : PE X (.BoolOp .And (a :: b :: rest) pos) (tAnV X.K Ph (.cons x xs)) := by
  refine PE.mono (pe_and ha hb) fun σ H Q q => ?_
  obtain ⟨env, Hs, d, ok, ev, q⟩ := q
  rw [evAnd] at ev
  split at ev
  · rename_i e
    refine ⟨env, Hs, _, ok, e, fun v H1 Hs1 f1 r1 => ?_⟩
    cases r1
    exact ⟨true, rfl, iteT ⟨env, Hs1, d, ok.fr f1, ev, fun v H2 Hs2 f2 r2 => q v H2 Hs2 (f1.trans f2) r2⟩⟩
  · rename_i e
    cases ev
    refine ⟨env, Hs, _, ok, e, fun v H1 Hs1 f1 r1 => ?_⟩
    cases r1
    exact ⟨false, rfl, iteF (q _ H1 Hs1 f1 (.bl false))⟩
  · cases ev
theorem pv_or1 {a : Expr} {x : E} {pos : Pos} (ha : PE X a (tE X.K Ph false x)) : PE X (.BoolOp .Or [a] pos) (tOrV' X.K Ph (.cons x .nil)) := by
  refine PE.mono (pe_one ha) fun σ H Q q => ?_
  obtain ⟨env, Hs, b, ok, ev, q⟩ := q
  rw [evOr] at ev
  split at ev
  · rename_i e
    rw [evOr] at ev
    cases ev
    exact ⟨env, Hs, _, ok, e, q⟩
  · rename_i e
    cases ev
    exact ⟨env, Hs, _, ok, e, q⟩
  · cases ev
theorem pv_or {a b : Expr} {rest : List Expr} {x : E} {xs : Es} {pos : Pos} (ha : PE X a (tE X.K Ph false x)) (hb : PE X (.BoolOp .Or (b :: rest) pos) (tOrV' X.K Ph xs)) : PE X (.BoolOp .Or (a :: b :: rest) pos) (tOrV' X.K Ph (.cons x xs)) := by
  refine PE.mono (pe_or ha hb) fun σ H Q q => ?_
  obtain ⟨env, Hs, d, ok, ev, q⟩ := q
  rw [evOr] at ev
  split at ev
  · rename_i e
    refine ⟨env, Hs, _, ok, e, fun v H1 Hs1 f1 r1 => ?_⟩
    cases r1
    exact ⟨false, rfl, iteF ⟨env, Hs1, d, ok.fr f1, ev, fun v H2 Hs2 f2 r2 => q v H2 Hs2 (f1.trans f2) r2⟩⟩
  · rename_i e
    cases ev
    refine ⟨env, Hs, _, ok, e, fun v H1 Hs1 f1 r1 => ?_⟩
    cases r1
    exact ⟨true, rfl, iteT (q _ H1 Hs1 f1 (.bl true))⟩
  · cases ev
theorem pe_and' {e : Expr} {es : Es} (h : PE X e (tAnV X.K Ph es)) : PE X e (tE X.K Ph false (.and es)) := PE.mono h fun σ H Q ⟨env, Hs, d, ok, ev, q⟩ => ⟨env, Hs, d, ok, by rw [evE] at ev; exact ev, q⟩
theorem pe_or'' {e : Expr} {es : Es} (h : PE X e (tOrV' X.K Ph es)) : PE X e (tE X.K Ph false (.or es)) := PE.mono h fun σ H Q ⟨env, Hs, d, ok, ev, q⟩ => ⟨env, Hs, d, ok, by rw [evE] at ev; exact ev, q⟩
theorem pt_and' {e : Expr} {es : Es} (h : PW X e (tAn X.K Ph es)) : PT X e (tT X.K Ph (.and es)) := PT.mono h.pt fun σ H Q ⟨env, Hs, d, ok, ev, q⟩ => ⟨env, Hs, d, ok, by rw [evE] at ev; exact ev, q⟩
theorem pt_or'' {e : Expr} {es : Es} (h : PW X e (tOr' X.K Ph es)) : PT X e (tT X.K Ph (.or es)) := PT.mono h.pt fun σ H Q ⟨env, Hs, d, ok, ev, q⟩ => ⟨env, Hs, d, ok, by rw [evE] at ev; exact ev, q⟩
theorem pe_not' {a : Expr} {x : E} {pos : Pos} (ha : PE X a (tE X.K Ph false x)) : PE X (.UnaryOp .Not a pos) (tE X.K Ph false (.not x)) := by
  refine PE.mono (pe_not ha) fun σ H Q q => ?_
  obtain ⟨env, Hs, d, ok, ev, q⟩ := q
  rw [evE] at ev
  split at ev
  · rename_i b e
    cases ev
    refine ⟨env, Hs, _, ok, e, fun v H1 Hs1 f1 r1 => ?_⟩
    cases r1
    exact ⟨b, rfl, q _ H1 Hs1 f1 (.bl _)⟩
  · cases ev
theorem pt_not' {a : Expr} {x : E} {pos : Pos} (ha : PT X a (tT X.K Ph x)) : PT X (.UnaryOp .Not a pos) (tT X.K Ph (.not x)) := by
  refine PT.mono (pt_not ha) fun σ H Q q => ?_
  obtain ⟨env, Hs, d, ok, ev, q⟩ := q
  rw [evE] at ev
  split at ev
  · rename_i b e
    cases ev
    exact ⟨env, Hs, b, ok, e, fun H1 Hs1 f1 => q H1 Hs1 f1⟩
  · cases ev
theorem pe_ife {c a b : Expr} {z x y : E} {pos : Pos} (hc : PT X c (tT X.K Ph z)) (ha : PE X a (tE X.K Ph false x)) (hb : PE X b (tE X.K Ph false y)) : PE X (.IfExp c a b pos) (tE X.K Ph false (.ife z x y)) := by
  refine PE.mono (pe_ifExp hc ha hb) fun σ H Q q => ?_
  obtain ⟨env, Hs, d, ok, ev, q⟩ := q
  rw [evE] at ev
  split at ev
  · rename_i e
    exact ⟨env, Hs, true, ok, e, fun H1 Hs1 f1 => iteT ⟨env, Hs1, d, ok.fr f1, ev, fun v H2 Hs2 f2 r2 => q v H2 Hs2 (f1.trans f2) r2⟩⟩
  · rename_i e
    exact ⟨env, Hs, false, ok, e, fun H1 Hs1 f1 => iteF ⟨env, Hs1, d, ok.fr f1, ev, fun v H2 Hs2 f2 r2 => q v H2 Hs2 (f1.trans f2) r2⟩⟩
  · cases ev
/-! arguments, displays -/
theorem pa_nil' : PA X [] (tEs X.K Ph .nil) := by
  refine PA.mono pa_nil fun σ H Q q => ?_
  obtain ⟨env, Hs, d, ok, ev, q⟩ := q
  rw [evEs] at ev
  cases ev
  exact q _ H Hs (FrE.refl ok.view) .nil
theorem pa_cons' {e : Expr} {es : List Expr} {x : E} {xs : Es} (ha : PE X e (tE X.K Ph false x)) (hr : PA X es (tEs X.K Ph xs)) (hs : starEach (e :: es) X.env = (false, eval e X.env) :: starEach es X.env) : PA X (e :: es) (tEs X.K Ph (.cons x xs)) := by
  refine PA.mono (pa_cons ha hr hs) fun σ H Q q => ?_
  obtain ⟨env, Hs, d, ok, ev, q⟩ := q
  rw [evEs] at ev
  split at ev
  · rename_i d1 e1
    split at ev
    · rename_i ds e2
      cases ev
      exact ⟨env, Hs, d1, ok, e1, fun v H1 Hs1 f1 r1 => ⟨env, Hs1, ds, ok.fr f1, e2, fun vs H2 Hs2 f2 r2 => q _ H2 Hs2 (f1.trans f2) (.cons (f2.rp r1) r2)⟩⟩
    · cases ev
  · cases ev
theorem evEs_length {env : Ev} : ∀ {es : Es} {ds : List PyData}, evEs Ph env es = some ds → ds.length ≤ sizeOf es
  | .nil, ds, h => by rw [evEs] at h; cases h; simp
  | .cons e es, ds, h => by
    rw [evEs] at h
    split at h
    · split at h
      · rename_i ds' e2
        cases h
        have := evEs_length e2
        simp only [List.length_cons, Es.cons.sizeOf_spec]
        omega
      · cases h
    · cases h
def Es.len : Es → Nat
  | .nil => 0
  | .cons _ es => es.len + 1
theorem evEs_len {env : Ev} : ∀ {es : Es} {ds : List PyData}, evEs Ph env es = some ds → ds.length = es.len
  | .nil, ds, h => by rw [evEs] at h; cases h; rfl
  | .cons e es, ds, h => by
    rw [evEs] at h
    split at h
    · split at h
      · rename_i ds' e2
        cases h
        rw [List.length_cons, evEs_len e2]
        rfl
      · cases h
    · cases h
/-- (a, b, ..): the new tuple is known -/
theorem pe_tupF {es : List Expr} {t : TA} {k : Nat} {pos : Pos} (h : PA X es t) : PE X (.Tuple es k pos) (fun σ H Q => t σ H fun xs H1 => xs.length ≤ sizeLine ∧ ∀ p ob, ob.dict = none → H1 p = none → Q (.ref p) (upd H1 p (.frz ob (.tup xs)))) := by
  refine ⟨fun pins s σ H Q I hq => ?_⟩
  refine wpAny_Tuple_spliced (thn (h.run pos pins s σ H _ I hq) fun us s1 ⟨xs, H1, I1, r, z, q⟩ => ⟨by rw [← r.length]; exact z, ?_⟩)
  refine ⟨.ref s1.heap.objs.size, upd H1 s1.heap.objs.size (.frz { cls := .type "tuple", data := .seq us.toArray } (.tup xs)), I1.laid (t' := s1.toks) (fun b u e => Heap.get?_push_of_some _ e) (Nat.le_refl _) ?_, rfl, q _ _ rfl (I1.hok.fresh (Nat.le_refl _))⟩
  exact ⟨Heap.get?_push_size _ rfl, z, us, r, ⟨_, Heap.get?_push_size _ rfl, rfl, _, rfl⟩⟩
theorem pe_tup' {es : List Expr} {xs : Es} {k : Nat} {pos : Pos} (h : PA X es (tEs X.K Ph xs)) (hl : xs.len ≤ 1000) : PE X (.Tuple es k pos) (tE X.K Ph false (.tup xs)) := by
  refine PE.mono (pe_tupF h) fun σ H Q q => ?_
  obtain ⟨env, Hs, d, ok, ev, q⟩ := q
  rw [evE] at ev
  obtain ⟨ds, e1, rfl⟩ := Option.map_eq_some_iff.mp ev
  refine ⟨env, Hs, ds, ok, e1, fun vs H1 Hs1 f1 r1 => ⟨?_, fun p ob hob hp => ?_⟩⟩
  · rw [r1.length, evEs_len e1]
    exact Nat.le_of_lt (small1000 hl)
  · exact q _ _ _ (f1.trans (FrE.put f1.view hp)) (rp_tupF (f1.view.none hp) r1 hob)
theorem pe_lst' {es : List Expr} {xs : Es} {pos : Pos} (h : PA X es (tEs X.K Ph xs)) (hl : xs.len ≤ 1000) : PE X (.List es pos) (tE X.K Ph true (.lst xs)) := by
  refine PE.mono (pe_lst h) fun σ H Q q => ?_
  obtain ⟨env, Hs, d, ok, ev, q⟩ := q
  rw [evE] at ev
  obtain ⟨ds, e1, rfl⟩ := Option.map_eq_some_iff.mp ev
  refine ⟨env, Hs, ds, ok, e1, fun vs H1 Hs1 f1 r1 => ⟨?_, fun p hp => ?_⟩⟩
  · rw [r1.length, evEs_len e1]
    exact Nat.le_of_lt (small1000 hl)
  · exact q _ _ _ (f1.trans (FrE.alloc f1.view hp)) ⟨p, rfl, f1.same.free hp, own_lst f1.view hp r1⟩
theorem pe_dc0 {pos : Pos} : PE X (.Dict [] [] pos) (tE X.K Ph true .dc0) := by
  refine PE.mono pe_dnewK fun σ H Q q => ?_
  obtain ⟨env, Hs, d, ok, ev, q⟩ := q
  rw [evE] at ev
  cases ev
  exact fun p hp => q _ _ _ (FrE.alloc ok.view hp) ⟨p, rfl, hp, own_dic ok.view hp .nil⟩
end
end Wr
end

section
set_option Elab.async false
set_option linter.all false
set_option maxRecDepth 100000
set_option maxHeartbeats 4000000
/-! WrF: calls, len, subscripts, slices, isinstance, get. -/
namespace Wr
open PySem PySem.Spec PyProof.Rows L2
variable [Wld]
section
variable {X : Cx} {Ph : Nat → List PyData → Option PyData}

/-! ### the promise of a def -/
def spF (K : PySem.W.Frag) (Ph : Nat → List PyData → Option PyData) (fr : Bool) (np f : Nat) : Sp := fun vs H Q _ => ∃ Hs ds d, View Hs H ∧ RpAll K Hs vs ds ∧ Ph f ds = some d ∧ vs.length = np ∧ ∀ v H' Hs', FrE H Hs H' Hs' → Rs K H Hs' H' v d fr → Q v H'
theorem pe_fn {k : Nat} {a : Addr} {fd : FuncData} {ps : List Str} {f np : Nat} {fr : Bool} {x : Str} {p pos : Pos} {e : Expr} {es : List Expr} {xs : Es} (F : FnOk X.prog X.w X.K X.mg X.base CX0 k a fd ps (spF X.K Ph fr np f)) (hr : Room k X.A) (hg : Gl X x) (hm : X.mg x = some (.ref a))
    (hk : PySem.W.keepIn X.K (.ref a) = true) (hb : Binds X.K fd ps []) (ha : PA X (e :: es) (tEs X.K Ph xs)) (hn : xs.len = np) (hdb : (x == ("__debug__" : Str)) = false) (he : starEach (e :: es) X.env = (false, eval e X.env) :: starEach es X.env) (hpl : (backTo pos (starEach es X.env)).any (·.1) = false) :
    PE X (.Call (.Name x p) (e :: es) [] pos) (tE X.K Ph fr (.call f xs)) := by
  refine PE.mono (pe_call F hr hg hm hk hb .nil pass0 ha hdb he hpl) fun σ H Q q => ?_
  obtain ⟨env, Hs, d, ok, ev, q⟩ := q
  rw [evE] at ev
  split at ev
  · rename_i ds e1
    refine ⟨env, Hs, ds, ok, e1, fun vs H1 Hs1 f1 r1 => ?_⟩
    show spF X.K Ph fr np f (vs ++ []) H1 Q E0
    rw [List.append_nil]
    refine ⟨Hs1, ds, d, f1.view, r1, ev, ?_, fun v H' Hs' f2 r2 => q v H' Hs' (f1.trans f2) ?_⟩
    · rw [r1.length, evEs_len e1, hn]
    · cases fr with
      | false => exact r2
      | true =>
        obtain ⟨b, e2, n, o⟩ := r2
        exact ⟨b, e2, f1.same.free n, o⟩
  · cases ev

/-! ### one argument that may be a name's own list -/
theorem pa_o {e : Expr} {x : O} (ha : PE X e (tO X.K Ph x)) (hs : starEach [e] X.env = (false, eval e X.env) :: starEach [] X.env) : PA X [e] (tCons (tO X.K Ph x) tNil) := pa_cons ha pa_nil hs
theorem call_lenDR : CallR X (.builtin "len") (fun xs H Q => ∃ a kvs, xs = [.ref a] ∧ Rd H a (.dK kvs) ∧ Q (.int kvs.length) H) := by
  intro pins s σ H xs us Q I r h
  obtain ⟨a, kvs, rfl, hd, q⟩ := h
  obtain ⟨u, rfl, rx⟩ := vals1 r
  cases rx
  exact d_len I hd fun t s' I' => ⟨.int kvs.length, H, I', ⟨t, rfl⟩, q⟩
def rLenX (K : PySem.W.Frag) : List V → Hp → VK → Prop := fun vs H Q => ∃ Hs x dx d, vs = [x] ∧ View Hs H ∧ Rq K Hs H x dx ∧ lenD dx = some d ∧ ∀ i, d = .int i → Q (.int i) H
theorem CallR.mono {f : Value} {r r' : List V → Hp → VK → Prop} (h : CallR X f r) (hm : ∀ xs H Q, r' xs H Q → r xs H Q) : CallR X f r' := fun pins s σ H xs us Q I r q => h pins s σ H xs us Q I r (hm _ _ _ q)
theorem call_lenX : CallR X (.builtin "len") (rLenX X.K) := by
  refine CallR.mono (CallR.or (CallR.or call_len_seq call_len_str) call_lenDR) fun xs H Q q => ?_
  obtain ⟨Hs, x, dx, d, rfl, w, h, e, q⟩ := q
  cases dx with
  | list ds =>
    cases e
    obtain ⟨a, ys, rfl, s1, r1⟩ := h.list w
    exact .inl (.inl ⟨a, ys, rfl, .inl s1, by rw [r1.length]; exact q _ rfl⟩)
  | tuple ds =>
    cases e
    obtain ⟨a, ys, rfl, s1, r1, _⟩ := h.tuple w
    exact .inl (.inl ⟨a, ys, rfl, .inr s1, by rw [r1.length]; exact q _ rfl⟩)
  | dict kds =>
    cases e
    obtain ⟨a, ys, rfl, s1, r1⟩ := h.dict w
    exact .inr ⟨a, ys, rfl, s1, by rw [r1.length]; exact q _ rfl⟩
  | str z =>
    obtain ⟨rfl, _⟩ := h.str
    replace e : (if z.length ≤ lim then some (PyData.int z.length) else none) = some d := e
    by_cases hl : z.length ≤ lim
    · rw [if_pos hl] at e
      cases e
      exact .inl (.inr ⟨z, rfl, by have := lim_line; omega, q _ rfl⟩)
    · rw [if_neg hl] at e
      cases e
  | _ => cases e
theorem pe_len {e : Expr} {x : O} {p pos : Pos} (hg : Gl X "len") (hm : X.mg "len" = none) (ha : PE X e (tO X.K Ph x)) (hs : starEach [e] X.env = (false, eval e X.env) :: starEach [] X.env) : PE X (.Call (.Name "len" p) [e] [] pos) (tE X.K Ph false (.len x)) := by
  refine PE.mono (pe_callB call_lenX hg hm PySem.boot_len (pa_o ha hs) (he := hs)) fun σ H Q q => ?_
  obtain ⟨env, Hs, d, ok, ev, q⟩ := q
  rw [evE] at ev
  split at ev
  · rename_i dx e1
    refine ⟨env, Hs, dx, ok, e1, fun v H1 Hs1 f1 r1 => ⟨Hs1, v, dx, d, rfl, f1.view, r1, ev, fun i z => ?_⟩⟩
    subst z
    exact q _ H1 Hs1 f1 (.int i)
  · cases ev
/-! subscripts -/
theorem atD_atI {K : PySem.W.Frag} {H : Hp} {xs : List V} {ds : List PyData} {i : Int} {d : PyData} (r : RpAll K H xs ds) (h : atD ds i = some d) : ∃ v, atI xs i = some v ∧ Rp K H v d := by
  have hl := r.length
  unfold atD at h
  unfold atI ixN
  by_cases h0 : 0 ≤ i
  · rw [if_pos h0] at h ⊢
    obtain ⟨v, h1, h2⟩ := r.get h
    have : i.toNat < xs.length := (List.getElem?_eq_some_iff.mp h1).1
    rw [if_pos (by omega)]
    exact ⟨v, h1, h2⟩
  · rw [if_neg h0] at h ⊢
    split at h
    · rename_i h1
      rw [if_pos (by omega)]
      rw [← hl] at h
      obtain ⟨v, h1, h2⟩ := r.get h
      exact ⟨v, h1, h2⟩
    · cases h
def rIdx (K : PySem.W.Frag) : R2 := fun x y H Q => ∃ Hs dx dy d, View Hs H ∧ Rq K Hs H x dx ∧ Rp K Hs y dy ∧ idxD dx dy = some d ∧ ∀ v, Rp K Hs v d → Q v H
theorem ix_idx (hu : X.A.units + 1 < cLine) : IxR X (rIdx X.K) := by
  have hd : IxR X (fun x y H Q => ∃ a v, x = .ref a ∧ DGet H a y (some v) ∧ Q v H) := by
    intro value slice pins s σ H x y v u Q I rx ry h hs
    obtain ⟨a, z, rfl, g, q⟩ := h
    cases rx
    have hT := dict_typeIs I g
    have hg : wpAny (model X.prog X.w) X.A (getItem (.ref a) u) (EP X pins σ Q) X.xe s := d_getItem hu I g ry fun w' s3 I3 rw' => ⟨z, H, I3, rw', q⟩
    exact tail_any hT PySem.F.slot_dict_getitem.lookup hg hs
  intro value slice pins s σ H x y v u Q I rx ry h hs
  refine (IxR.or (IxR.or ix_list ix_tup) hd) value slice pins s σ H x y v u Q I rx ry ?_ hs
  obtain ⟨Hs, dx, dy, d, w, h1, h2, e, q⟩ := h
  unfold idxD at e
  split at e
  · rename_i xs i
    obtain ⟨a, ys, rfl, s1, r1⟩ := h1.list w
    cases h2
    obtain ⟨v, e1, r⟩ := atD_atI r1 e
    exact .inl (.inl ⟨a, ys, i, v, rfl, rfl, s1, e1, q v r⟩)
  · rename_i xs i
    obtain ⟨a, ys, rfl, s1, r1, _⟩ := h1.tuple w
    cases h2
    obtain ⟨v, e1, r⟩ := atD_atI r1 e
    exact .inl (.inr ⟨a, ys, i, v, rfl, rfl, s1, e1, q v r⟩)
  · split at e
    · rename_i hk
      cases dy <;> simp [keyD] at hk
      obtain ⟨a, ys, rfl, s1, r1⟩ := h1.dict w
      cases h2
      obtain ⟨v, e1, r⟩ := (r1.look _).1 _ e
      exact .inr ⟨a, v, rfl, .inl ⟨ys, .inr _, s1, rfl, e1.symm⟩, q v r⟩
    · cases e
  · cases e
theorem pe_idx {a b : Expr} {x : O} {y : E} {pos : Pos} (hu : X.A.units + 1 < cLine) (ha : PE X a (tO X.K Ph x)) (hb : PE X b (tE X.K Ph false y)) (hs : PlainIx b) : PE X (.Subscript a b pos) (tE X.K Ph false (.idx x y)) := by
  refine PE.mono (pe_ix (ix_idx hu) ha hb hs) fun σ H Q q => ?_
  obtain ⟨env, Hs, d, ok, ev, q⟩ := q
  rw [evE] at ev
  split at ev
  · rename_i dx e1
    split at ev
    · rename_i dy e2
      refine ⟨env, Hs, dx, ok, e1, fun v1 H1 Hs1 f1 r1 => ⟨env, Hs1, dy, ok.fr f1, e2, fun v2 H2 Hs2 f2 r2 => ?_⟩⟩
      exact ⟨Hs2, dx, dy, d, f2.view, f2.rq r1, r2, ev, fun v r => q v H2 Hs2 (f1.trans f2) r⟩
    · cases ev
  · cases ev
/-! slices -/
def partD : PyData → Option Int
  | .int i => some i
  | _ => none
theorem cutD_cutV {K : PySem.W.Frag} {H : Hp} {xs : List V} {ds out : List PyData} {lo hi : PyData} (r : RpAll K H xs ds) (h : cutD ds lo hi = some out) : RpAll K H (cutV xs (partD lo) (partD hi)) out ∧ (lo = .none ∨ ∃ i, lo = .int i) ∧ (hi = .none ∨ ∃ i, hi = .int i) := by
  have hl := r.length
  have key : ∀ (n : Nat) (d : PyData) (k : Nat), loD n d = some k → HT.sIx n 0 (partD d) = k ∧ (d = .none ∨ ∃ i, d = .int i) := fun n d k e => by
    cases d <;> simp [loD, bndD] at e
    · subst e; exact ⟨rfl, .inl rfl⟩
    · rename_i i
      refine ⟨?_, .inr ⟨i, rfl⟩⟩
      show (if i < 0 then (i + (n : Int)).toNat else min i.toNat n) = k
      by_cases h0 : 0 ≤ i
      · rw [if_pos h0] at e
        rw [if_neg (by omega)]
        exact e
      · rw [if_neg h0] at e
        rw [if_pos (by omega)]
        exact e
  have key2 : ∀ (n : Nat) (d : PyData) (k : Nat), hiD n d = some k → HT.sIx n n (partD d) = k ∧ (d = .none ∨ ∃ i, d = .int i) := fun n d k e => by
    cases d <;> simp [hiD, bndD] at e
    · subst e; exact ⟨rfl, .inl rfl⟩
    · rename_i i
      refine ⟨?_, .inr ⟨i, rfl⟩⟩
      show (if i < 0 then (i + (n : Int)).toNat else min i.toNat n) = k
      by_cases h0 : 0 ≤ i
      · rw [if_pos h0] at e
        rw [if_neg (by omega)]
        exact e
      · rw [if_neg h0] at e
        rw [if_pos (by omega)]
        exact e
  unfold cutD at h
  split at h
  · rename_i a b e1 e2
    cases h
    rw [← hl] at e1 e2
    obtain ⟨k1, k2⟩ := key _ _ _ e1
    obtain ⟨k3, k4⟩ := key2 _ _ _ e2
    refine ⟨?_, k2, k4⟩
    unfold cutV
    rw [k1, k3]
    exact (r.drop _).take _
  · cases h
def rSlX (K : PySem.W.Frag) : V → Option Int → Option Int → Hp → VK → Prop := fun x l h H Q => ∃ Hs dx lo hi d, View Hs H ∧ Rq K Hs H x dx ∧ l = partD lo ∧ h = partD hi ∧ slcD dx lo hi = some d ∧ ∀ v H' Hs', FrE H Hs H' Hs' → Rp K Hs' v d → Q v H'
theorem cut_full {xs out : List PyData} {lo hi : PyData} (e : cutD xs lo hi = some out) (h : out.length = xs.length) : out = xs := by
  unfold cutD at e
  split at e
  · rename_i a b _ _
    cases e
    rw [List.length_take, List.length_drop] at h
    cases xs with
    | nil => simp
    | cons x r =>
      rw [List.length_cons] at h
      obtain rfl : a = 0 := by omega
      rw [List.drop_zero]
      exact List.take_of_length_le (by rw [List.length_cons]; omega)
  · cases e
/-- t[lo:hi]: the new tuple is known -/
theorem sl_tupF : SlR X (fun x lo hi H Q => ∃ a xs, x = .ref a ∧ SqT X.K H a xs ∧ (HT.sIx xs.length 0 lo = 0 ∧ HT.sIx xs.length xs.length hi = xs.length → Q (.ref a) H) ∧
    (¬ (HT.sIx xs.length 0 lo = 0 ∧ HT.sIx xs.length xs.length hi = xs.length) → ∀ p ob, ob.dict = none → H p = none → Q (.ref p) (upd H p (.frz ob (.tup (cutV xs lo hi)))))) := by
  intro pins s σ H x v vl vu lo hi sl Q I rx hs pl pu h
  obtain ⟨a, xs, rfl, hx, q1, q2⟩ := h
  cases rx
  obtain ⟨its, r, ht, hz⟩ := I.tuple hx
  have hlen : its.toArray.size = xs.length := by rw [List.size_toArray]; exact r.length.symm
  refine ⟨"tuple", _, PyProof.Rows.slot_tuple_getitem.lookup, ht.typeIs, ?_⟩
  by_cases hw : HT.sIx xs.length 0 lo = 0 ∧ HT.sIx xs.length xs.length hi = xs.length
  · exact getItem_tuple_whole ht hs pl pu (by rw [hlen]; exact hw) ⟨.ref a, H, I, rfl, q1 hw⟩
  · refine HT.getItem_tuple_cut ht hs pl pu (by rw [hlen]; exact hw) ?_ (by rw [hlen]; exact hz)
    rw [hlen]
    refine ⟨.ref s.heap.objs.size, _, I.laid (t' := s.toks) (o := .frz { cls := .type "tuple", data := .seq ((its.toArray.toList.drop (HT.sIx xs.length 0 lo)).take (HT.sIx xs.length xs.length hi - HT.sIx xs.length 0 lo)).toArray } (.tup (cutV xs lo hi))) (fun b ob q => Heap.get?_push_of_some _ q) (Nat.le_refl _) ?_, rfl, q2 hw _ _ rfl (I.hok.fresh (Nat.le_refl _))⟩
    exact ⟨Heap.get?_push_size _ rfl, Nat.le_trans (cutV_length xs lo hi) hz, _, (r.drop (HT.sIx xs.length 0 lo)).take (HT.sIx xs.length xs.length hi - HT.sIx xs.length 0 lo), IsTup.new _ _⟩
theorem sl_X : SlR X (rSlX X.K) := by
  intro pins s σ H x v vl vu lo hi sl Q I rx hs pl pu h
  obtain ⟨Hs, dx, l, u, d, w, h1, rfl, rfl, e, q⟩ := h
  unfold slcD at e
  split at e
  · obtain ⟨out, e1, rfl⟩ := Option.map_eq_some_iff.mp e
    obtain ⟨a, ys, rfl, s1, r1⟩ := h1.list w
    exact sl_list pins s σ H _ v vl vu _ _ sl Q I rx hs pl pu ⟨a, ys, rfl, s1, fun p hp => q _ _ _ (FrE.put w hp) (rp_lst (w.none hp) (cutD_cutV r1 e1).1)⟩
  · obtain ⟨out, e1, rfl⟩ := Option.map_eq_some_iff.mp e
    obtain ⟨a, ys, rfl, s1, r1, t1, l1⟩ := h1.tuple w
    have hc := (cutD_cutV r1 e1).1
    refine sl_tupF pins s σ H _ v vl vu _ _ sl Q I rx hs pl pu ⟨a, ys, rfl, s1, fun z => ?_, fun _ p ob hob hp => q _ _ _ (FrE.put w hp) (rp_tupF (w.none hp) hc hob)⟩
    have hc2 := hc
    unfold cutV at hc
    rw [z.1, z.2, List.drop_zero, Nat.sub_zero, List.take_length] at hc
    refine q _ _ _ (FrE.refl w) (.tup t1 hc ?_)
    rw [cut_full e1 (by rw [← hc.length, r1.length])]
    exact l1
  · cases e
/-- a part of a slice -/
def tPt (K : PySem.W.Frag) (Ph : Nat → List PyData → Option PyData) (e : E) : TO := fun σ H Q => ∃ env Hs d, EnvOk K env σ H Hs ∧ evE Ph env e = some d ∧ (d = .none ∨ ∃ i, d = .int i) ∧ okB e d = true ∧ ∀ H' Hs', FrE H Hs H' Hs' → Q (partD d) H'
theorem po_n : PO X none (tPt X.K Ph (.cst .none)) := by
  refine ⟨fun pins s σ H Q I h => po_none.run pins s σ H Q I ?_⟩
  obtain ⟨env, Hs, d, ok, ev, hd, _, q⟩ := h
  rw [evE] at ev
  cases ev
  exact q H Hs (FrE.refl ok.view)
theorem po_s {e : Expr} {x : E} (h : PE X e (tE X.K Ph false x)) (hx : isNone x = false) : PO X (some e) (tPt X.K Ph x) := by
  refine ⟨fun pins s σ H Q I h' => (po_some h).run pins s σ H Q I ?_⟩
  obtain ⟨env, Hs, d, ok, ev, hd, hb, q⟩ := h'
  refine ⟨env, Hs, d, ok, ev, fun v H' Hs' f r => ?_⟩
  rcases hd with rfl | ⟨i, rfl⟩
  · cases x <;> simp [okB] at hb
    rw [evE] at ev
    cases ev
    cases hx
  · cases r
    exact ⟨i, rfl, q H' Hs' f⟩
theorem slcD_parts {x lo hi d : PyData} (h : slcD x lo hi = some d) : (lo = .none ∨ ∃ i, lo = .int i) ∧ (hi = .none ∨ ∃ i, hi = .int i) := by
  have key : ∀ xs out, cutD xs lo hi = some out → (lo = .none ∨ ∃ i, lo = .int i) ∧ (hi = .none ∨ ∃ i, hi = .int i) := fun xs out e => by
    unfold cutD at e
    split at e
    · rename_i a b e1 e2
      constructor
      · cases lo <;> simp [loD, bndD] at e1 ⊢
      · cases hi <;> simp [hiD, bndD] at e2 ⊢
    · cases e
  unfold slcD at h
  split at h
  · obtain ⟨out, e1, _⟩ := Option.map_eq_some_iff.mp h
    exact key _ _ e1
  · obtain ⟨out, e1, _⟩ := Option.map_eq_some_iff.mp h
    exact key _ _ e1
  · cases h
theorem pe_slc {a : Expr} {lo hi : Option Expr} {x : O} {l h : E} {p2 pos : Pos} (ha : PE X a (tO X.K Ph x)) (hl : PO X lo (tPt X.K Ph l)) (hh : PO X hi (tPt X.K Ph h)) : PE X (.Subscript a (.Slice lo hi none p2) pos) (tE X.K Ph false (.slc x l h)) := by
  refine PE.mono (pe_slice sl_X ha hl hh) fun σ H Q q => ?_
  obtain ⟨env, Hs, d, ok, ev, q⟩ := q
  rw [evE] at ev
  split at ev
  · rename_i dx e1
    split at ev
    · rename_i dl e2
      split at ev
      · rename_i dh e3
        split at ev
        case isFalse => cases ev
        rename_i hb
        obtain ⟨b1, b2⟩ := Bool.and_eq_true_iff.mp hb
        obtain ⟨z1, z2⟩ := slcD_parts ev
        refine ⟨env, Hs, dx, ok, e1, fun v1 H1 Hs1 f1 r1 => ⟨env, Hs1, dl, ok.fr f1, e2, z1, b1, fun H2 Hs2 f2 => ⟨env, Hs2, dh, (ok.fr f1).fr f2, e3, z2, b2, fun H3 Hs3 f3 => ?_⟩⟩⟩
        exact ⟨Hs3, dx, dl, dh, d, f3.view, f3.rq (f2.rq r1), rfl, rfl, ev, fun v H' Hs' f r => q v H' Hs' (((f1.trans f2).trans f3).trans f) r⟩
      · cases ev
    · cases ev
  · cases ev
/-! get -/
theorem pe_get {o e f : Expr} {x : O} {y z : E} {apos cpos : Pos} (hu : X.A.units + 1 < cLine) (ho : PE X o (tO X.K Ph x)) (he : PE X e (tE X.K Ph false y)) (hf : PE X f (tE X.K Ph false z)) (m : M2 X o "get" apos e f cpos) : PE X (.Call (.Attribute o "get" apos) [e, f] [] cpos) (tE X.K Ph false (.get x y z)) := by
  refine PE.mono (pe_dget2 hu ho he hf m) fun σ H Q q => ?_
  obtain ⟨env, Hs, d, ok, ev, q⟩ := q
  rw [evE] at ev
  split at ev
  · rename_i dx e1
    split at ev
    · rename_i dy e2
      split at ev
      · rename_i dz e3
        unfold getD2 at ev
        split at ev
        · rename_i kvs
          split at ev
          · rename_i hk
            cases ev
            cases dy <;> simp [keyD] at hk
            refine ⟨env, Hs, _, ok, e1, fun v1 H1 Hs1 f1 r1 => ?_⟩
            obtain ⟨a, ys, rfl, s1, k1⟩ := r1.dict f1.view
            refine ⟨a, rfl, .inl ⟨ys, s1⟩, env, Hs1, _, ok.fr f1, e2, fun v2 H2 Hs2 f2 r2 => ⟨env, Hs2, _, (ok.fr f1).fr f2, e3, fun v3 H3 Hs3 f3 r3 => ?_⟩⟩
            cases r2
            obtain ⟨b, zs, eb, s3, k3⟩ := ((f3.rq (f2.rq r1))).dict f3.view
            cases eb
            refine ⟨_, .inl ⟨zs, .inr _, s3, rfl, rfl⟩, ?_⟩
            refine q _ H3 Hs3 ((f1.trans f2).trans f3) ?_
            rename_i kk _
            obtain ⟨g1, g2⟩ := k3.look kk
            cases el : lookD kvs (.str kk) with
            | none =>
              rw [g2 el]
              exact r3
            | some d =>
              obtain ⟨v, e4, r4⟩ := g1 d el
              rw [e4]
              exact r4
          · cases ev
        · cases ev
      · cases ev
    · cases ev
  · cases ev
end
end Wr
end

section
set_option Elab.async false
set_option linter.all false
set_option maxRecDepth 100000
set_option maxHeartbeats 4000000
/-! WrG: isinstance, simple built-ins. -/
namespace Wr
open PySem PySem.Spec PyProof.Rows L2
variable [Wld]
section
variable {X : Cx} {Ph : Nat → List PyData → Option PyData}
def tyN : PyData → String
  | .none => "NoneType"
  | .bool _ => "bool"
  | .int _ => "int"
  | .str _ => "str"
  | .list _ => "list"
  | .tuple _ => "tuple"
  | .dict _ => "dict"
def tyS : Ty → String
  | .int => "int"
  | .bool => "bool"
  | .str => "str"
  | .tuple => "tuple"
  | .list => "list"
theorem Rq.ty {K : PySem.W.Frag} {Hs H : Hp} {v : V} {d : PyData} (h : Rq K Hs H v d) (w : View Hs H) : TyX K H v (.type (tyN d)) := by
  cases d with
  | none => rw [h.none]; exact .base .non
  | bool b => rw [h.bool]; exact .base (.bl b)
  | int b => rw [h.int]; exact .base (.int b)
  | str b => rw [h.str.1]; exact .base (.str b)
  | list ds =>
    obtain ⟨a, xs, rfl, s, _⟩ := h.list w
    rcases s with (s | ⟨o, s⟩) | ⟨o, its, n, s, c, _⟩
    · exact .base (.lst s)
    · exact .base (.frz s)
    · exact .kList s c
  | tuple ds =>
    obtain ⟨a, xs, rfl, s, _⟩ := h.tuple w
    rcases s with (s | ⟨o, s⟩) | ⟨o, its, n, s, c, _⟩
    · exact .base (.tup s)
    · exact .fTuple s
    · exact .kTuple s c
  | dict ds =>
    obtain ⟨a, xs, rfl, s, _⟩ := h.dict w
    rcases s with s | ⟨o, s⟩
    · exact .base (.dK s)
    · exact .fDict s
theorem kitT1 : ∀ t : Ty, kitB "NoneType" (tyS t) = some false := by intro t; cases t <;> decide +kernel
theorem kitT2 : ∀ t : Ty, kitB "bool" (tyS t) = some (match t with | .int => true | .bool => true | _ => false) := by intro t; cases t <;> decide +kernel
theorem kitT3 : ∀ t : Ty, kitB "int" (tyS t) = some (match t with | .int => true | _ => false) := by intro t; cases t <;> decide +kernel
theorem kitT4 : ∀ t : Ty, kitB "str" (tyS t) = some (match t with | .str => true | _ => false) := by intro t; cases t <;> decide +kernel
theorem kitT5 : ∀ t : Ty, kitB "list" (tyS t) = some (match t with | .list => true | _ => false) := by intro t; cases t <;> decide +kernel
theorem kitT6 : ∀ t : Ty, kitB "tuple" (tyS t) = some (match t with | .tuple => true | _ => false) := by intro t; cases t <;> decide +kernel
theorem kitT7 : ∀ t : Ty, kitB "dict" (tyS t) = some false := by intro t; cases t <;> decide +kernel
theorem kit_tyD {K : PySem.W.Frag} (t : Ty) (d : PyData) : PySem.W.kitOne K (.type (tyN d)) (.type (tyS t)) = some (tyD t d) := by
  refine kit_ty ?_
  cases d with
  | none => rw [show tyN .none = "NoneType" from rfl, kitT1]; cases t <;> rfl
  | bool b => rw [show tyN (.bool b) = "bool" from rfl, kitT2]; cases t <;> rfl
  | int b => rw [show tyN (.int b) = "int" from rfl, kitT3]; cases t <;> rfl
  | str b => rw [show tyN (.str b) = "str" from rfl, kitT4]; cases t <;> rfl
  | list b => rw [show tyN (.list b) = "list" from rfl, kitT5]; cases t <;> rfl
  | tuple b => rw [show tyN (.tuple b) = "tuple" from rfl, kitT6]; cases t <;> rfl
  | dict b => rw [show tyN (.dict b) = "dict" from rfl, kitT7]; cases t <;> rfl
theorem kitAny_tyD {K : PySem.W.Frag} (d : PyData) : ∀ ts : List Ty, PySem.W.kitAny K (.type (tyN d)) (ts.map fun t => .type (tyS t)) = some (ts.any fun t => tyD t d)
  | [] => kitAny_nil
  | t :: ts => by
    refine kitAny_cons (kit_tyD t d) (fun e => ?_) (fun e => ?_)
    · rw [List.any_cons, e, Bool.false_or]
      exact kitAny_tyD d ts
    · rw [List.any_cons, e]
      rfl
theorem boot_ty : ∀ t : Ty, bootBuiltins (Str.ofString (tyS t)) = some (.type (tyS t)) := by intro t; cases t <;> decide +kernel
theorem pe_ty {t : Ty} {p : Pos} (hg : Gl X (Str.ofString (tyS t))) (hm : X.mg (Str.ofString (tyS t)) = none) : PE X (.Name (Str.ofString (tyS t)) p) (tC (.ty (tyS t))) :=
  pe_bltn hg hm (boot_ty t) rfl (by cases t <;> decide +kernel) (by cases t <;> decide +kernel)
theorem boot_isi : bootBuiltins "isinstance" = some (.builtin "isinstance") := PyProof.Rows.boot_isinstance
theorem pe_isi1 {e : Expr} {x : O} {t : Ty} {p p2 pos : Pos} (hg : Gl X "isinstance") (hm : X.mg "isinstance" = none) (hg2 : Gl X (Str.ofString (tyS t))) (hm2 : X.mg (Str.ofString (tyS t)) = none) (ha : PE X e (tO X.K Ph x)) (hs : starEach [e, .Name (Str.ofString (tyS t)) p2] X.env = (false, eval e X.env) :: starEach [.Name (Str.ofString (tyS t)) p2] X.env) :
    PE X (.Call (.Name "isinstance" p) [e, .Name (Str.ofString (tyS t)) p2] [] pos) (tE X.K Ph false (.isi x [t])) := by
  refine PE.mono (pe_callB call_isi hg hm boot_isi (pa_cons ha (pa_cons (pe_ty hg2 hm2) pa_nil) hs) (he := hs)) fun σ H Q q => ?_
  obtain ⟨env, Hs, d, ok, ev, q⟩ := q
  rw [evE] at ev
  split at ev
  · rename_i dx e1
    cases ev
    refine ⟨env, Hs, dx, ok, e1, fun v H1 Hs1 f1 r1 => ⟨v, .ty (tyS t), _, _, _, rfl, .ty _, r1.ty f1.view, kit_tyD t dx, ?_⟩⟩
    refine q _ H1 Hs1 f1 ?_
    rw [List.any_cons, List.any_nil, Bool.or_false]
    exact .bl _
  · cases ev
theorem pe_isi2 {e : Expr} {x : O} {t u : Ty} {k : Nat} {p p2 p3 p4 pos : Pos} (hg : Gl X "isinstance") (hm : X.mg "isinstance" = none) (hg2 : Gl X (Str.ofString (tyS t))) (hm2 : X.mg (Str.ofString (tyS t)) = none) (hg3 : Gl X (Str.ofString (tyS u))) (hm3 : X.mg (Str.ofString (tyS u)) = none) (ha : PE X e (tO X.K Ph x))
    (hs : starEach [e, .Tuple [.Name (Str.ofString (tyS t)) p2, .Name (Str.ofString (tyS u)) p3] k p4] X.env = (false, eval e X.env) :: starEach [.Tuple [.Name (Str.ofString (tyS t)) p2, .Name (Str.ofString (tyS u)) p3] k p4] X.env) :
    PE X (.Call (.Name "isinstance" p) [e, .Tuple [.Name (Str.ofString (tyS t)) p2, .Name (Str.ofString (tyS u)) p3] k p4] [] pos) (tE X.K Ph false (.isi x [t, u])) := by
  refine PE.mono (pe_callB call_isiT hg hm boot_isi (pa_cons ha (pa_cons (pe_tup (pa_cons (pe_ty hg2 hm2) (pa_cons (pe_ty hg3 hm3) pa_nil))) pa_nil) hs) (he := hs)) fun σ H Q q => ?_
  obtain ⟨env, Hs, d, ok, ev, q⟩ := q
  rw [evE] at ev
  split at ev
  · rename_i dx e1
    cases ev
    refine ⟨env, Hs, dx, ok, e1, fun v H1 Hs1 f1 r1 => ⟨by show 2 ≤ sizeLine; decide, fun p hp => ?_⟩⟩
    have f2 := FrE.alloc (o := .tup [.ty (tyS t), .ty (tyS u)]) f1.view hp
    exact ⟨v, p, [.ty (tyS t), .ty (tyS u)], _, _, _, rfl, upd_same, .cons (.ty _) (.cons (.ty _) .nil), (f2.rq r1).ty f2.view, kitAny_tyD dx [t, u], q _ _ Hs1 (f1.trans f2) (.bl _)⟩
  · cases ev

/-! ### built-ins of values that are shared -/
def bfr : Blt → Bool
  | .list1 => true
  | .dict1 => true
  | .listrng => true
  | _ => false
def rBlt (K : PySem.W.Frag) (b : Blt) : List V → Hp → VK → Prop := fun vs H Q => ∃ Hs ds d, View Hs H ∧ RpAll K Hs vs ds ∧ bltD b ds = some d ∧ ∀ v H' Hs', FrE H Hs H' Hs' → Rs K H Hs' H' v d (bfr b) → Q v H'
theorem rs_up {K : PySem.W.Frag} {H Hs H1 Hs1 H' Hs' : Hp} {v : V} {d : PyData} {fr : Bool} (f1 : FrE H Hs H1 Hs1) (r : Rs K H1 Hs' H' v d fr) : Rs K H Hs' H' v d fr := by
  cases fr with
  | false => exact r
  | true =>
    obtain ⟨b, e2, n, o⟩ := r
    exact ⟨b, e2, f1.same.free n, o⟩
theorem pe_bltB {x : Str} {id : String} {b : Blt} {e : Expr} {es : List Expr} {xs : Es} {p pos : Pos} (hc : CallR X (.builtin id) (rBlt X.K b)) (hg : Gl X x) (hm : X.mg x = none) (hv : bootBuiltins x = some (.builtin id)) (ha : PA X (e :: es) (tEs X.K Ph xs)) (hn : x ≠ "__name__") (hdb : (x == ("__debug__" : Str)) = false)
    (he : starEach (e :: es) X.env = (false, eval e X.env) :: starEach es X.env) (hpl : (backTo pos (starEach es X.env)).any (·.1) = false) : PE X (.Call (.Name x p) (e :: es) [] pos) (tE X.K Ph (bfr b) (.blt b xs)) := by
  refine PE.mono (pe_callB hc hg hm hv ha hn hdb he hpl) fun σ H Q q => ?_
  obtain ⟨env, Hs, d, ok, ev, q⟩ := q
  rw [evE] at ev
  split at ev
  · rename_i ds e1
    exact ⟨env, Hs, ds, ok, e1, fun vs H1 Hs1 f1 r1 => ⟨Hs1, ds, d, f1.view, r1, ev, fun v H' Hs' f r => q v H' Hs' (f1.trans f) (rs_up f1 r)⟩⟩
  · cases ev
theorem pe_bltT {x : Str} {id : String} {b : Blt} {e : Expr} {es : List Expr} {xs : Es} {p pos : Pos} (hc : CallR X (.type id) (rBlt X.K b)) (hg : Gl X x) (hm : X.mg x = none) (hv : bootBuiltins x = some (.type id)) (ha : PA X (e :: es) (tEs X.K Ph xs)) (hn : x ≠ "__name__") (hdb : (x == ("__debug__" : Str)) = false)
    (he : starEach (e :: es) X.env = (false, eval e X.env) :: starEach es X.env) (hpl : (backTo pos (starEach es X.env)).any (·.1) = false) : PE X (.Call (.Name x p) (e :: es) [] pos) (tE X.K Ph (bfr b) (.blt b xs)) := by
  refine PE.mono (pe_callTy hc hg hm hv ha hn hdb he hpl) fun σ H Q q => ?_
  obtain ⟨env, Hs, d, ok, ev, q⟩ := q
  rw [evE] at ev
  split at ev
  · rename_i ds e1
    exact ⟨env, Hs, ds, ok, e1, fun vs H1 Hs1 f1 r1 => ⟨Hs1, ds, d, f1.view, r1, ev, fun v H' Hs' f r => q v H' Hs' (f1.trans f) (rs_up f1 r)⟩⟩
  · cases ev
theorem RpAll.one {K : PySem.W.Frag} {H : Hp} {vs : List V} {d : PyData} (h : RpAll K H vs [d]) : ∃ v, vs = [v] ∧ Rp K H v d := by
  cases h with
  | cons h r => cases r; exact ⟨_, rfl, h⟩
theorem RpAll.two {K : PySem.W.Frag} {H : Hp} {vs : List V} {d d' : PyData} (h : RpAll K H vs [d, d']) : ∃ v v', vs = [v, v'] ∧ Rp K H v d ∧ Rp K H v' d' := by
  cases h with
  | cons h r =>
    obtain ⟨v', rfl, h'⟩ := r.one
    exact ⟨_, v', rfl, h, h'⟩
/-- tuple(x): the new one is known -/
theorem call_tupF : CallR X (.type "tuple") (fun xs H Q => ∃ p ys, xs = [.ref p] ∧ ((SqL X.K H p ys ∧ ∀ l ob, ob.dict = none → H l = none → Q (.ref l) (upd H l (.frz ob (.tup ys)))) ∨ (SqT X.K H p ys ∧ Q (.ref p) H))) := by
  intro pins s σ H xs us Q I r h
  obtain ⟨p, ys, rfl, h⟩ := h
  obtain ⟨u, rfl, rx⟩ := vals1 r
  cases rx
  rcases h with ⟨hq, q⟩ | ⟨hq, q⟩
  · obtain ⟨its, r', pl, hz⟩ := I.list hq
    have hlen := r'.length
    refine call_tuple_list pl.isList (fun h' kp => ?_) (by simp only [List.size_toArray] <;> omega)
    have I1 : Inv X pins σ H { s with heap := h' } := I.kept (t' := s.toks) kp
    have nw : ObjOk X.prog X.w (upd H h'.objs.size (.frz { cls := .type "tuple", data := .seq its.toArray } (.tup ys))) (h'.push { cls := .type "tuple", data := .seq its.toArray }) h'.objs.size (.frz { cls := .type "tuple", data := .seq its.toArray } (.tup ys)) :=
      ⟨Heap.get?_push_size _ rfl, hz, its, r', IsTup.new _ _⟩
    exact ⟨.ref h'.objs.size, _, I1.laid (t' := s.toks) (fun b o e => Heap.get?_push_of_some _ e) (Nat.le_refl _) nw, rfl, q _ _ rfl (I1.hok.fresh (Nat.le_refl _))⟩
  · obtain ⟨its, r', pl, hz⟩ := I.tuple hq
    exact call_tuple_same pl ⟨.ref p, H, I, rfl, q⟩
/-- tuple(x) -/
theorem cb_tuple : CallR X (.type "tuple") (rBlt X.K .tuple1) := by
  refine CallR.mono call_tupF fun xs H Q q => ?_
  obtain ⟨Hs, ds, d, w, r, e, q⟩ := q
  replace e : tuple1D ds = some d := e
  unfold tuple1D at e
  split at e
  · cases e
    obtain ⟨v, rfl, h⟩ := r.one
    obtain ⟨a, ys, rfl, s1, r1⟩ := (Rq.list (.inl h) w)
    exact ⟨a, ys, rfl, .inl ⟨s1, fun l ob hob hl => q _ _ _ (FrE.put w hl) (rp_tupF (w.none hl) r1 hob)⟩⟩
  · cases e
    obtain ⟨v, rfl, h⟩ := r.one
    obtain ⟨a, ys, rfl, s1, r1, _⟩ := (Rq.tuple (.inl h) w)
    exact ⟨a, ys, rfl, .inr ⟨s1, q _ _ _ (FrE.refl w) h⟩⟩
  · cases e
theorem call_list_dR (hc : X.calm = true) : CallR X (.type "list") (fun xs H Q => ∃ p kvs, xs = [.ref p] ∧ Rd H p (.dK kvs) ∧ ∀ q, H q = none → Q (.ref q) (upd H q (.lst (kvs.map fun kv => kV kv.1)))) := by
  intro pins s σ H xs us Q I r h
  obtain ⟨p, kvs, e, hk, q⟩ := h
  subst e
  obtain ⟨u, eu, rx⟩ := vals1 r
  subst eu
  obtain rfl : u = Value.ref p := rx
  obtain ⟨z, lo, vs, rk, hd⟩ := (show ObjOk X.prog X.w H s.heap p (.dK kvs) from hk.ok I.hok)
  obtain ⟨ep, hat⟩ := hd.dictAt
  have hl : kvs.length = vs.length := Paired.length rk
  refine PySem.W.kdl_call (PySem.W.kdl_dict (knd := mixKind X.prog X.w) (kvs := vs) (ep := ep) lo) (I.ok.hd hc) hat (by rw [← hl]; exact z) fun h' tk acc' c' hkeep hS hacc => ?_
  refine ⟨.ref s.heap.objs.size, upd H s.heap.objs.size (.lst (kvs.map fun kv => kV kv.1)), I.laid hkeep (Nat.le_refl _) (show ObjOk X.prog X.w _ _ _ (.lst (kvs.map fun kv => kV kv.1)) from ⟨?_, acc'.toList, c', ?_, ?_⟩), rfl, q _ (I.hok.fresh (Nat.le_refl _))⟩
  · rw [List.length_map]; exact z
  · have el : acc'.toList.length = acc'.size := by simp
    refine vals_of_at (by rw [List.length_map, el, hacc.1, hl]) fun j x w h1 h2 => ?_
    obtain ⟨k, y, hky, hi⟩ := hacc.2 j w (by rw [← Array.getElem?_toList]; exact h2)
    have e1 : (kvs.map (·.1))[j]? = some k := by
      rw [KV.keys rk, List.getElem?_map, hky] <;> rfl
    have e2 : (kvs.map fun kv => kV kv.1)[j]? = some (kV k) := by
      have e3 : (kvs.map fun kv => kV kv.1) = (kvs.map (·.1)).map kV := by rw [List.map_map] <;> rfl
      rw [e3, List.getElem?_map, e1] <;> rfl
    rw [e2] at h1
    cases h1
    exact keyIs_rel hi
  · rw [Array.toArray_toList]; exact hS
/-- list(x) -/
theorem cb_list (hc : X.calm = true) : CallR X (.type "list") (rBlt X.K .list1) := by
  refine CallR.mono (CallR.or call_list_of (call_list_dR hc)) fun xs H Q q => ?_
  obtain ⟨Hs, ds, d, w, r, e, q⟩ := q
  replace e : list1D ds = some d := e
  unfold list1D at e
  split at e
  · cases e
    obtain ⟨v, rfl, h⟩ := r.one
    obtain ⟨a, ys, rfl, s1, r1⟩ := (Rq.list (.inl h) w)
    exact .inl ⟨a, ys, rfl, .inl s1, fun l hl => q _ _ _ (FrE.alloc w hl) ⟨l, rfl, hl, own_lst w hl r1⟩⟩
  · cases e
    obtain ⟨v, rfl, h⟩ := r.one
    obtain ⟨a, ys, rfl, s1, r1, _⟩ := (Rq.tuple (.inl h) w)
    exact .inl ⟨a, ys, rfl, .inr s1, fun l hl => q _ _ _ (FrE.alloc w hl) ⟨l, rfl, hl, own_lst w hl r1⟩⟩
  · cases e
    obtain ⟨v, rfl, h⟩ := r.one
    obtain ⟨a, ys, rfl, s1, r1⟩ := (Rq.dict (.inl h) w)
    exact .inr ⟨a, ys, rfl, s1, fun l hl => q _ _ _ (FrE.alloc w hl) ⟨l, rfl, hl, own_lst w hl r1.keys⟩⟩
  · cases e
theorem cb_min2 (hc : X.calm = true) : CallR X (.builtin "min") (rBlt X.K .min2) := by
  refine CallR.mono (call_min2 hc) fun xs H Q q => ?_
  obtain ⟨Hs, ds, d, w, r, e, q⟩ := q
  replace e : min2D ds = some d := e
  unfold min2D at e
  split at e
  · cases e
    obtain ⟨v, v', rfl, h1, h2⟩ := r.two
    cases h1
    cases h2
    exact ⟨_, _, rfl, q _ _ _ (FrE.refl w) (.int _)⟩
  · cases e
theorem cb_max2 (hc : X.calm = true) : CallR X (.builtin "max") (rBlt X.K .max2) := by
  refine CallR.mono (call_max2 hc) fun xs H Q q => ?_
  obtain ⟨Hs, ds, d, w, r, e, q⟩ := q
  replace e : max2D ds = some d := e
  unfold max2D at e
  split at e
  · cases e
    obtain ⟨v, v', rfl, h1, h2⟩ := r.two
    cases h1
    cases h2
    exact ⟨_, _, rfl, q _ _ _ (FrE.refl w) (.int _)⟩
  · cases e
theorem cb_bool : CallR X (.type "bool") (rBlt X.K .bool1) := by
  refine CallR.mono call_bool1 fun xs H Q q => ?_
  obtain ⟨Hs, ds, d, w, r, e, q⟩ := q
  replace e : bool1D ds = some d := e
  unfold bool1D at e
  split at e
  · cases e
    obtain ⟨v, rfl, h1⟩ := r.one
    cases h1
    exact .inl ⟨_, rfl, q _ _ _ (FrE.refl w) (.bl _)⟩
  · cases e
theorem cb_int : CallR X (.type "int") (rBlt X.K .int1) := by
  refine CallR.mono call_int1 fun xs H Q q => ?_
  obtain ⟨Hs, ds, d, w, r, e, q⟩ := q
  replace e : int1D ds = some d := e
  unfold int1D at e
  split at e
  · cases e
    obtain ⟨v, rfl, h1⟩ := r.one
    cases h1
    exact .inr ⟨_, rfl, q _ _ _ (FrE.refl w) (.int _)⟩
  · cases e
theorem cb_sum (hc : X.calm = true) : CallR X (.builtin "sum") (rBlt X.K .sum1) := by
  refine CallR.mono (cr_sum hc) fun xs H Q q => ?_
  obtain ⟨Hs, ds, d, w, r, e, q⟩ := q
  replace e : sum1D ds = some d := e
  unfold sum1D at e
  split at e
  · obtain ⟨is, e1, rfl⟩ := Option.map_eq_some_iff.mp e
    obtain ⟨v, rfl, h⟩ := r.one
    obtain ⟨a, ys, rfl, s1, r1⟩ := (Rq.list (.inl h) w)
    obtain ⟨rfl, _⟩ := r1.ints e1
    exact ⟨a, is, rfl, s1, q _ _ _ (FrE.refl w) (.int _)⟩
  · cases e
theorem cb_any (hc : X.calm = true) : CallR X (.builtin "any") (rBlt X.K .any1) := by
  refine CallR.mono (cr_any hc) fun xs H Q q => ?_
  obtain ⟨Hs, ds, d, w, r, e, q⟩ := q
  replace e : any1D ds = some d := e
  unfold any1D at e
  split at e
  · obtain ⟨is, e1, rfl⟩ := Option.map_eq_some_iff.mp e
    obtain ⟨v, rfl, h⟩ := r.one
    obtain ⟨a, ys, rfl, s1, r1⟩ := (Rq.list (.inl h) w)
    have z := r1.bools e1
    subst z
    exact ⟨a, is, rfl, s1, q _ _ _ (FrE.refl w) (.bl _)⟩
  · cases e
theorem cb_all (hc : X.calm = true) : CallR X (.builtin "all") (rBlt X.K .all1) := by
  refine CallR.mono (cr_all hc) fun xs H Q q => ?_
  obtain ⟨Hs, ds, d, w, r, e, q⟩ := q
  replace e : all1D ds = some d := e
  unfold all1D at e
  split at e
  · obtain ⟨is, e1, rfl⟩ := Option.map_eq_some_iff.mp e
    obtain ⟨v, rfl, h⟩ := r.one
    obtain ⟨a, ys, rfl, s1, r1⟩ := (Rq.list (.inl h) w)
    have z := r1.bools e1
    subst z
    exact ⟨a, is, rfl, s1, q _ _ _ (FrE.refl w) (.bl _)⟩
  · cases e
end
end Wr
end

section
set_option Elab.async false
set_option linter.all false
set_option maxRecDepth 100000
set_option maxHeartbeats 4000000
/-! WrH: what is walked; comprehensions. -/
namespace Wr
open PySem PySem.Spec PyProof.Rows L2
variable [Wld]
/-- what is shared stands as it was -/
def Kp (Hs H H2 : Hp) : Prop := ∀ b u, Hs b ≠ none → H b = some u → H2 b = some u
theorem Kp.refl {Hs H : Hp} : Kp Hs H H := fun _ _ _ h => h
theorem Kp.of_same {Hs H H2 : Hp} (h : Same H H2) : Kp Hs H H2 := fun b u _ e => h b u e
theorem Kp.trans {Hs H H1 H2 Hs1 : Hp} (a : Kp Hs H H1) (s : Same Hs Hs1) (b : Kp Hs1 H1 H2) : Kp Hs H H2 := fun c u n e => b c u (by
  cases q : Hs c with
  | none => exact absurd q n
  | some o => rw [s c o q]; simp) (a c u n e)
/-- J walks the data ds -/
structure Wk (K : PySem.W.Frag) (J : It) (ds : List PyData) (H Hs : Hp) : Prop where
  len : ds.length ≤ sizeLine
  go : ∀ H2 Hs2 i, Same Hs Hs2 → View Hs2 H2 → Kp Hs H H2 → i < ds.length → J.go i H2
  yl : ∀ H2 Hs2 i d x H3, Same Hs Hs2 → View Hs2 H2 → Kp Hs H H2 → ds[i]? = some d → J.yld i H2 x H3 → ∃ Hs3, FrE H2 Hs2 H3 Hs3 ∧ Rp K Hs3 x d
  st : ∀ H2 Hs2 i, Same Hs Hs2 → View Hs2 H2 → Kp Hs H H2 → ds.length ≤ i → J.stop i H2
section
variable {K : PySem.W.Frag} {H Hs : Hp} {a : Addr} {xs : List V} {ds : List PyData}
theorem Wk.list (z : xs.length ≤ sizeLine) (s : SqL K Hs a xs) (r : RpAll K Hs xs ds) : Wk K (Itl K a) ds H Hs where
  len := by rw [← r.length]; exact z
  go := fun H2 Hs2 i s1 w1 k1 hi => by
    have : i < xs.length := by rw [r.length]; exact hi
    exact ⟨xs, xs[i], w1.seqL ((View.of_same s1).seqL s), List.getElem?_eq_getElem this⟩
  yl := fun H2 Hs2 i d x H3 s1 w1 k1 hd hy => by
    obtain ⟨rfl, h⟩ := hy
    obtain ⟨v, h1, h2⟩ := r.get hd
    have e := h xs (w1.seqL ((View.of_same s1).seqL s))
    rw [h1] at e
    cases e
    exact ⟨Hs2, FrE.refl w1, h2.view (View.of_same s1)⟩
  st := fun H2 Hs2 i s1 w1 k1 hi => ⟨xs, w1.seqL ((View.of_same s1).seqL s), by rw [r.length]; exact hi⟩
theorem Wk.tuple (z : xs.length ≤ sizeLine) (s : SqT K Hs a xs) (r : RpAll K Hs xs ds) : Wk K (Itt K a) ds H Hs where
  len := by rw [← r.length]; exact z
  go := fun H2 Hs2 i s1 w1 k1 hi => by
    have : i < xs.length := by rw [r.length]; exact hi
    exact ⟨xs, xs[i], w1.seqT ((View.of_same s1).seqT s), List.getElem?_eq_getElem this⟩
  yl := fun H2 Hs2 i d x H3 s1 w1 k1 hd hy => by
    obtain ⟨rfl, h⟩ := hy
    obtain ⟨v, h1, h2⟩ := r.get hd
    have e := h xs (w1.seqT ((View.of_same s1).seqT s))
    rw [h1] at e
    cases e
    exact ⟨Hs2, FrE.refl w1, h2.view (View.of_same s1)⟩
  st := fun H2 Hs2 i s1 w1 k1 hi => ⟨xs, w1.seqT ((View.of_same s1).seqT s), by rw [r.length]; exact hi⟩
theorem strOk_char {x : Str} {c : Nat} (h : strOk x = true) (hc : c ∈ x.cps.toList) : strOk ⟨#[c]⟩ = true := by
  unfold strOk PyData.strOk at *
  have h' : ∀ y ∈ x.cps.toList, decide (y < 0x110000) = true := by
    intro y hy
    have := Array.all_eq_true_iff_forall_mem.mp h y (by simpa using hy)
    exact this
  have := h' c hc
  simp only [decide_eq_true_eq] at this
  simp [this]
theorem Wk.str {x : Str} (z : x.length ≤ lim) (h : strOk x = true) : Wk K (Its x) (x.cps.toList.map fun c => .str ⟨#[c]⟩) H Hs where
  len := by rw [List.length_map, Array.length_toList]; exact Nat.le_trans z lim_line
  go := fun H2 Hs2 i s1 w1 k1 hi => by
    rw [List.length_map, Array.length_toList] at hi
    exact hi
  yl := fun H2 Hs2 i d y H3 s1 w1 k1 hd hy => by
    obtain ⟨rfl, c, h1, rfl⟩ := hy
    have e : x.cps.toList[i]? = some c := by rw [Array.getElem?_toList]; exact h1
    rw [List.getElem?_map, e] at hd
    cases hd
    exact ⟨Hs2, FrE.refl w1, .str _ (strOk_char h (List.mem_of_getElem? e))⟩
  st := fun H2 Hs2 i s1 w1 k1 hi => by
    rw [List.length_map, Array.length_toList] at hi
    exact hi
theorem rng_b {a b : Int} (h : rngOk a b = true) : (-1000000 ≤ a ∧ a ≤ 1000000) ∧ -1000000 ≤ b ∧ b ≤ 1000000 := by
  unfold rngOk at h
  simp only [Bool.and_eq_true, decide_eq_true_eq] at h
  exact ⟨⟨h.1.1.1, h.1.1.2⟩, h.1.2, h.2⟩
theorem Wk.range (lo hi : Int) (z : rngOk lo hi = true) : Wk K (Itr lo (hi - lo).toNat) (rngD lo hi) H Hs where
  len := by
    have := rng_b z
    have h2 : (sizeLine : Nat) = 16777216 := sizeLine_eq
    unfold rngD
    rw [List.length_map, List.length_range]
    omega
  go := fun H2 Hs2 i s1 w1 k1 h => by
    unfold rngD at h
    rw [List.length_map, List.length_range] at h
    exact h
  yl := fun H2 Hs2 i d y H3 s1 w1 k1 hd hy => by
    obtain ⟨rfl, rfl⟩ := hy
    unfold rngD at hd
    rw [List.getElem?_map] at hd
    cases q : (List.range (hi - lo).toNat)[i]? with
    | none => rw [q] at hd; cases hd
    | some k =>
      rw [q] at hd
      cases hd
      have : k = i := by
        rw [List.getElem?_range] at q
        · cases q; rfl
        · have := (List.getElem?_eq_some_iff.mp q).1
          rw [List.length_range] at this
          exact this
      subst this
      exact ⟨Hs2, FrE.refl w1, .int _⟩
  st := fun H2 Hs2 i s1 w1 k1 h => by
    unfold rngD at h
    rw [List.length_map, List.length_range] at h
    exact h
theorem RpKV.at {kvs : List (Key × V)} {kds : List (PyData × PyData)} : ∀ {i : Nat}, RpKV K Hs kvs kds → ∀ {k : Key} {v : V}, kvs[i]? = some (k, v) → ∃ x d, k = .inr x ∧ strOk x = true ∧ kds[i]? = some (.str x, d) ∧ Rp K Hs v d := by
  intro i r
  induction i generalizing kvs kds with
  | zero =>
    intro k v e
    cases r with
    | nil => simp at e
    | cons h1 h2 h3 =>
      simp at e
      obtain ⟨rfl, rfl⟩ := e
      exact ⟨_, _, rfl, h1, rfl, h2⟩
  | succ i ih =>
    intro k v e
    cases r with
    | nil => simp at e
    | cons h1 h2 h3 =>
      obtain ⟨x, d, q1, q2, q3, q4⟩ := ih h3 (by simpa using e)
      exact ⟨x, d, q1, q2, by simpa using q3, q4⟩
theorem Wk.keys {o : Obj} {kvs : List (Key × V)} {kds : List (PyData × PyData)} (z : kvs.length ≤ sizeLine) (e : H a = some (.frz o (.dK kvs))) (hn : Hs a ≠ none) (r : RpKV K Hs kvs kds) : Wk K (Itk a o kvs) (kds.map (·.1)) H Hs where
  len := by rw [List.length_map, ← r.length]; exact z
  go := fun H2 Hs2 i s1 w1 k1 hi => by
    rw [List.length_map, ← r.length] at hi
    exact ⟨k1 a _ hn e, hi⟩
  yl := fun H2 Hs2 i d y H3 s1 w1 k1 hd hy => by
    obtain ⟨rfl, k, v, h1, rfl⟩ := hy
    obtain ⟨x, d', rfl, q2, q3, q4⟩ := r.at h1
    rw [List.getElem?_map, q3] at hd
    cases hd
    exact ⟨Hs2, FrE.refl w1, .str _ q2⟩
  st := fun H2 Hs2 i s1 w1 k1 hi => by
    rw [List.length_map, ← r.length] at hi
    exact ⟨k1 a _ hn e, hi⟩
theorem Wk.items {o : Obj} {kvs : List (Key × V)} {kds : List (PyData × PyData)} (z : kvs.length ≤ sizeLine) (e : H a = some (.frz o (.dK kvs))) (hn : Hs a ≠ none) (r : RpKV K Hs kvs kds) : Wk K (Iti a o kvs) (itemsD kds) H Hs where
  len := by unfold itemsD; rw [List.length_map, ← r.length]; exact z
  go := fun H2 Hs2 i s1 w1 k1 hi => by
    unfold itemsD at hi
    rw [List.length_map, ← r.length] at hi
    exact ⟨k1 a _ hn e, hi⟩
  yl := fun H2 Hs2 i d y H3 s1 w1 k1 hd hy => by
    obtain ⟨T, k, v, h1, rfl, hT, rfl⟩ := hy
    obtain ⟨x, d', rfl, q2, q3, q4⟩ := r.at h1
    unfold itemsD at hd
    rw [List.getElem?_map, q3] at hd
    cases hd
    exact ⟨_, FrE.put w1 hT, rp_tup (w1.none hT) (.cons (.str _ q2) (.cons (q4.view (View.of_same s1)) .nil)) rfl⟩
  st := fun H2 Hs2 i s1 w1 k1 hi => by
    unfold itemsD at hi
    rw [List.length_map, ← r.length] at hi
    exact ⟨k1 a _ hn e, hi⟩
theorem enumD_length : ∀ (n : Nat) (ds : List PyData), (enumD n ds).length = ds.length
  | _, [] => rfl
  | n, _ :: r => congrArg (· + 1) (enumD_length (n + 1) r)
theorem enumD_get : ∀ (n i : Nat) (ds : List PyData) (d : PyData), (enumD n ds)[i]? = some d → ∃ x, ds[i]? = some x ∧ d = .tuple [.int ((n + i : Nat) : Int), x]
  | _, _, [], _, h => by simp [enumD] at h
  | n, 0, x :: r, d, h => by simp [enumD] at h; exact ⟨x, rfl, by rw [← h]; simp⟩
  | n, i + 1, x :: r, d, h => by
    obtain ⟨y, h1, h2⟩ := enumD_get (n + 1) i r d (by simpa [enumD] using h)
    exact ⟨y, by simpa using h1, by rw [h2, show n + 1 + i = n + (i + 1) by omega]⟩
theorem Wk.enum (hpm : plM = false) (z : xs.length ≤ sizeLine) (s : SqL K Hs a xs) (r : RpAll K Hs xs ds) : Wk K (Ite K a) (enumD 0 ds) H Hs where
  len := by rw [enumD_length, ← r.length]; exact z
  go := fun H2 Hs2 i s1 w1 k1 hi => by
    rw [enumD_length] at hi
    have : i < xs.length := by rw [r.length]; exact hi
    exact ⟨xs, xs[i], w1.seqL ((View.of_same s1).seqL s), List.getElem?_eq_getElem this⟩
  yl := fun H2 Hs2 i d x H3 s1 w1 k1 hd hy => by
    obtain ⟨T, y, rfl, hT, rfl, h⟩ := hy
    obtain ⟨z, hz, rfl⟩ := enumD_get _ _ _ _ hd
    obtain ⟨v, h1, h2⟩ := r.get hz
    have e := h xs (w1.seqL ((View.of_same s1).seqL s))
    rw [h1] at e
    cases e
    rw [Nat.zero_add]
    exact ⟨_, FrE.put w1 hT, rp_tup (w1.none hT) (.cons (.int _) (.cons (h2.view (View.of_same s1)) .nil)) hpm⟩
  st := fun H2 Hs2 i s1 w1 k1 hi => by
    rw [enumD_length] at hi
    exact ⟨xs, w1.seqL ((View.of_same s1).seqL s), by rw [r.length]; exact hi⟩
theorem zipD_length : ∀ (a b : List PyData), (zipD a b).length = min a.length b.length
  | [], _ => by simp [zipD]
  | _ :: _, [] => by simp [zipD]
  | _ :: r, _ :: s => by simp [zipD, zipD_length r s]
theorem zipD_get : ∀ (i : Nat) (a b : List PyData) (d : PyData), (zipD a b)[i]? = some d → ∃ x y, a[i]? = some x ∧ b[i]? = some y ∧ d = .tuple [x, y]
  | _, [], _, _, h => by simp [zipD] at h
  | _, _ :: _, [], _, h => by simp [zipD] at h
  | 0, x :: r, y :: s, d, h => by simp [zipD] at h; exact ⟨x, y, rfl, rfl, h.symm⟩
  | i + 1, x :: r, y :: s, d, h => by
    obtain ⟨x', y', h1, h2, h3⟩ := zipD_get i r s d (by simpa [zipD] using h)
    exact ⟨x', y', by simpa using h1, by simpa using h2, h3⟩
theorem Wk.zip {b : Addr} {ys : List V} {es : List PyData} (z : xs.length ≤ sizeLine) (s : SqL K Hs a xs) (r : RpAll K Hs xs ds) (s' : SqL K Hs b ys) (r' : RpAll K Hs ys es) (nz : ∀ x ∈ ds, isPr x = false) : Wk K (Itz K a b) (zipD ds es) H Hs where
  len := by rw [zipD_length, ← r.length]; omega
  go := fun H2 Hs2 i s1 w1 k1 hi => by
    rw [zipD_length] at hi
    have h1 : i < xs.length := by rw [r.length]; omega
    have h2 : i < ys.length := by rw [r'.length]; omega
    exact ⟨xs, ys, xs[i], ys[i], w1.seqL ((View.of_same s1).seqL s), w1.seqL ((View.of_same s1).seqL s'), List.getElem?_eq_getElem h1, List.getElem?_eq_getElem h2⟩
  yl := fun H2 Hs2 i d x H3 s1 w1 k1 hd hy => by
    obtain ⟨T, y, y', rfl, hT, rfl, h, h'⟩ := hy
    obtain ⟨z, z', hz, hz', rfl⟩ := zipD_get _ _ _ _ hd
    obtain ⟨v, h1, h2⟩ := r.get hz
    obtain ⟨v', h1', h2'⟩ := r'.get hz'
    have e := h xs (w1.seqL ((View.of_same s1).seqL s))
    rw [h1] at e
    cases e
    have e := h' ys (w1.seqL ((View.of_same s1).seqL s'))
    rw [h1'] at e
    cases e
    exact ⟨_, FrE.put w1 hT, rp_tup (w1.none hT) (.cons (h2.view (View.of_same s1)) (.cons (h2'.view (View.of_same s1)) .nil)) (nz _ (List.mem_of_getElem? hz))⟩
  st := fun H2 Hs2 i s1 w1 k1 hi => by
    rw [zipD_length] at hi
    exact ⟨xs, ys, w1.seqL ((View.of_same s1).seqL s), w1.seqL ((View.of_same s1).seqL s'), by rw [r.length, r'.length]; omega⟩
theorem Wk.zipT {b : Addr} {ys : List V} {es : List PyData} (z : xs.length ≤ sizeLine) (s : SqT K Hs a xs) (r : RpAll K Hs xs ds) (s' : SqT K Hs b ys) (r' : RpAll K Hs ys es) (nz : ∀ x ∈ ds, isPr x = false) : Wk K (RZ.ItzT K a b) (zipD ds es) H Hs where
  len := by rw [zipD_length, ← r.length]; omega
  go := fun H2 Hs2 i s1 w1 k1 hi => by
    rw [zipD_length] at hi
    have h1 : i < xs.length := by rw [r.length]; omega
    have h2 : i < ys.length := by rw [r'.length]; omega
    exact ⟨xs, ys, xs[i], ys[i], w1.seqT ((View.of_same s1).seqT s), w1.seqT ((View.of_same s1).seqT s'), List.getElem?_eq_getElem h1, List.getElem?_eq_getElem h2⟩
  yl := fun H2 Hs2 i d x H3 s1 w1 k1 hd hy => by
    obtain ⟨T, y, y', rfl, hT, rfl, h, h'⟩ := hy
    obtain ⟨z, z', hz, hz', rfl⟩ := zipD_get _ _ _ _ hd
    obtain ⟨v, h1, h2⟩ := r.get hz
    obtain ⟨v', h1', h2'⟩ := r'.get hz'
    have e := h xs (w1.seqT ((View.of_same s1).seqT s))
    rw [h1] at e
    cases e
    have e := h' ys (w1.seqT ((View.of_same s1).seqT s'))
    rw [h1'] at e
    cases e
    exact ⟨_, FrE.put w1 hT, rp_tup (w1.none hT) (.cons (h2.view (View.of_same s1)) (.cons (h2'.view (View.of_same s1)) .nil)) (nz _ (List.mem_of_getElem? hz))⟩
  st := fun H2 Hs2 i s1 w1 k1 hi => by
    rw [zipD_length] at hi
    exact ⟨xs, ys, w1.seqT ((View.of_same s1).seqT s), w1.seqT ((View.of_same s1).seqT s'), by rw [r.length, r'.length]; omega⟩
end

/-- what the model's heaps keep -/
structure HLen (K : PySem.W.Frag) (H : Hp) : Prop where
  l : ∀ a xs, SqL K H a xs → xs.length ≤ sizeLine
  t : ∀ a xs, SqT K H a xs → xs.length ≤ sizeLine
  d : ∀ a kvs, Rd H a (.dK kvs) → kvs.length ≤ sizeLine
theorem hlen_of {X : Cx} {pins : List (Addr × Obj)} {σ : L2.St} {H : Hp} {s : Shared} (I : Inv X pins σ H s) : HLen X.K H where
  l := fun a xs h => let ⟨_, _, _, z⟩ := I.list h; z
  t := fun a xs h => let ⟨_, _, _, z⟩ := I.tuple h; z
  d := fun a kvs h => let ⟨z, _⟩ := (show ObjOk X.prog X.w H s.heap a (.dK kvs) from h.ok I.hok); z
theorem PI.inv {X : Cx} {tg e : Expr} {wi : TI} (h : PI X tg e wi) : PI X tg e (fun σ H R => wi σ H fun J H' => HLen X.K H' → R J H') := by
  refine ⟨fun pins s σ H R I q => ?_⟩
  refine thn (h.run pins s σ H _ I q) fun v s1 h1 => thn h1 fun itv s2 h2 => ?_
  obtain ⟨it, fp, tn, J, H', e, I', T, t0, f, r⟩ := h2
  exact ⟨it, fp, tn, J, H', e, I', T, t0, f, r (hlen_of I')⟩
/-- a dict that is walked is locked -/
def Fz (env : Ev) (σ : L2.St) (H : Hp) : I → Prop
  | .vr i => ∀ kds, env[i]? = some (.sh (.dict kds)) → ∀ a kvs, σ[i]? = some (some (.ref a)) → Rd H a (.dK kvs) → ∃ o, H a = some (.frz o (.dK kvs))
  | .di i => ∀ kds, env[i]? = some (.sh (.dict kds)) → ∀ a kvs, σ[i]? = some (some (.ref a)) → Rd H a (.dK kvs) → ∃ o, H a = some (.frz o (.dK kvs))
  | _ => True
def tI (K : PySem.W.Frag) (Ph : Nat → List PyData → Option PyData) (ir : I) : TI := fun σ H R => ∃ env Hs ds, EnvOk K env σ H Hs ∧ evI Ph env ir = some ds ∧ Fz env σ H ir ∧ ∀ J H' Hs', FrE H Hs H' Hs' → Wk K J ds H' Hs' → R J H'
section
variable {X : Cx} {Ph : Nat → List PyData → Option PyData} {tg : Expr}
theorem pi_vr {i : Nat} {x : Str} {pos : Pos} (hN : X.N[i]? = some x) (hv : Vis X.env.scope x) (hd : (x == ("__debug__" : Str)) = false) (hcd : (x == ("__classdict__" : Str)) = false) : PI X tg (.Name x pos) (tI X.K Ph (.vr i)) := by
  have h := pe_var (pos := pos) hN hv hd hcd
  refine PI.mono (PI.inv (PI.or (PI.or (pi_list h) (pi_tup h)) (PI.or (pi_str h) (pi_keys h)))) fun σ H R q => ?_
  obtain ⟨env, Hs, ds, ok, ev, fz, q⟩ := q
  rw [evI] at ev
  split at ev
  · rename_i d e
    obtain ⟨v, h1, h2⟩ := ok.sh i d e
    cases d with
    | list xs =>
      cases ev
      cases h2 with
      | lst s r => exact .inl (.inl ⟨_, h1, _, rfl, ⟨_, ok.view.seqL s⟩, fun hl => q _ H Hs (FrE.refl ok.view) (Wk.list (hl.l _ _ (ok.view.seqL s)) s r)⟩)
    | tuple xs =>
      cases ev
      cases h2 with
      | tup s r => exact .inl (.inr ⟨_, h1, _, rfl, ⟨_, ok.view.seqT s⟩, fun hl => q _ H Hs (FrE.refl ok.view) (Wk.tuple (hl.t _ _ (ok.view.seqT s)) s r)⟩)
    | dict kvs =>
      cases ev
      cases h2 with
      | dic s r =>
        obtain ⟨o, e1⟩ := fz _ e _ _ h1 (ok.view.1 _ _ s)
        refine .inr (.inr ⟨_, h1, _, o, rfl, .inl ⟨_, e1, fun hl => q _ H Hs (FrE.refl ok.view) (Wk.keys (hl.d _ _ (ok.view.1 _ _ s)) e1 ?_ r)⟩⟩)
        rcases s with s | ⟨_, s⟩ <;> rw [s] <;> simp
    | str z =>
      replace ev : (if z.length ≤ lim then some (z.cps.toList.map fun c => PyData.str ⟨#[c]⟩) else none) = some ds := ev
      by_cases hl : z.length ≤ lim
      · rw [if_pos hl] at ev
        cases ev
        cases h2 with
        | str _ hs => exact .inr (.inl ⟨_, h1, z, rfl, fun _ => q _ H Hs (FrE.refl ok.view) (Wk.str hl hs)⟩)
      · rw [if_neg hl] at ev
        cases ev
    | _ => cases ev
  · cases ev
theorem pi_val {e : Expr} {x : E} (h : PE X e (tE X.K Ph false x)) : PI X tg e (tI X.K Ph (.val x)) := by
  refine PI.mono (PI.inv (PI.or (PI.or (pi_list h) (pi_tup h)) (pi_str h))) fun σ H R q => ?_
  obtain ⟨env, Hs, ds, ok, ev, fz, q⟩ := q
  rw [evI] at ev
  split at ev
  · rename_i d e
    cases d with
    | list xs =>
      cases ev
      refine .inl (.inl ⟨env, Hs, _, ok, e, fun v H' Hs' f r => ?_⟩)
      cases r with
      | lst s r => exact ⟨_, rfl, ⟨_, f.view.seqL s⟩, fun hl => q _ H' Hs' f (Wk.list (hl.l _ _ (f.view.seqL s)) s r)⟩
    | tuple xs =>
      cases ev
      refine .inl (.inr ⟨env, Hs, _, ok, e, fun v H' Hs' f r => ?_⟩)
      cases r with
      | tup s r => exact ⟨_, rfl, ⟨_, f.view.seqT s⟩, fun hl => q _ H' Hs' f (Wk.tuple (hl.t _ _ (f.view.seqT s)) s r)⟩
    | str z =>
      replace ev : (if z.length ≤ lim then some (z.cps.toList.map fun c => PyData.str ⟨#[c]⟩) else none) = some ds := ev
      by_cases hl : z.length ≤ lim
      · rw [if_pos hl] at ev
        cases ev
        refine .inr ⟨env, Hs, _, ok, e, fun v H' Hs' f r => ?_⟩
        cases r with
        | str _ hs => exact ⟨z, rfl, fun _ => q _ H' Hs' f (Wk.str hl hs)⟩
      · rw [if_neg hl] at ev
        cases ev
    | _ => cases ev
  · cases ev
theorem pi_di {i : Nat} {x : Str} {elts : List Expr} {kk : Nat} {tpos pos apos cpos : Pos} (hN : X.N[i]? = some x) (hv : Vis X.env.scope x) (hd : (x == ("__debug__" : Str)) = false) (hcd : (x == ("__classdict__" : Str)) = false) (hline : (apos.endLine == cpos.line) = true) :
    PI X (.Tuple elts kk tpos) (.Call (.Attribute (.Name x pos) "items" apos) [] [] cpos) (tI X.K Ph (.di i)) := by
  have h := pe_var (pos := pos) hN hv hd hcd
  refine PI.mono (PI.inv (pi_items h (by rfl) hline)) fun σ H R q => ?_
  obtain ⟨env, Hs, ds, ok, ev, fz, q⟩ := q
  rw [evI] at ev
  split at ev
  · rename_i kvs e
    cases ev
    obtain ⟨v, h1, h2⟩ := ok.sh i _ e
    cases h2 with
    | dic s r =>
      obtain ⟨o, e1⟩ := fz _ e _ _ h1 (ok.view.1 _ _ s)
      refine ⟨_, h1, _, o, _, rfl, e1, fun hl => q _ H Hs (FrE.refl ok.view) (Wk.items (hl.d _ _ (ok.view.1 _ _ s)) e1 ?_ r)⟩
      rcases s with s | ⟨_, s⟩ <;> rw [s] <;> simp
  · cases ev
theorem pi_rg1 {b : Expr} {y : E} {p pos : Pos} (hg : Gl X "range") (hm : X.mg "range" = none) (hb : PE X b (tE X.K Ph false y)) (hs : starEach [b] X.env = [(false, eval b X.env)]) : PI X tg (.Call (.Name "range" p) [b] [] pos) (tI X.K Ph (.rg1 y)) := by
  refine PI.mono (pi_range1 hg hm (pa_cons hb pa_nil hs) hs) fun σ H R q => ?_
  obtain ⟨env, Hs, ds, ok, ev, fz, q⟩ := q
  rw [evI] at ev
  split at ev
  · rename_i j e
    split at ev
    · rename_i hr
      cases ev
      refine ⟨env, Hs, _, ok, e, fun v H' Hs' f r => ?_⟩
      cases r
      have hb := rng_b hr
      refine ⟨j, rfl, by omega, by omega, q _ H' Hs' f ?_⟩
      have := Wk.range (K := X.K) (H := H') (Hs := Hs') 0 j hr
      rw [Int.sub_zero] at this
      exact this
    · cases ev
  · cases ev
theorem pi_rg2 {a b : Expr} {x y : E} {p pos : Pos} (hg : Gl X "range") (hm : X.mg "range" = none) (ha : PE X a (tE X.K Ph false x)) (hb : PE X b (tE X.K Ph false y)) (hs : starEach [a, b] X.env = [(false, eval a X.env), (false, eval b X.env)]) (hs2 : starEach [b] X.env = [(false, eval b X.env)]) : PI X tg (.Call (.Name "range" p) [a, b] [] pos) (tI X.K Ph (.rg2 x y)) := by
  refine PI.mono (pi_range2 hg hm (pa_cons ha (pa_cons hb pa_nil hs2) (by rw [hs, hs2])) hs hs2) fun σ H R q => ?_
  obtain ⟨env, Hs, ds, ok, ev, fz, q⟩ := q
  rw [evI] at ev
  split at ev
  · rename_i i e1
    split at ev
    · rename_i j e2
      split at ev
      · rename_i hr
        cases ev
        refine ⟨env, Hs, _, ok, e1, fun v H1 Hs1 f1 r1 => ⟨env, Hs1, _, ok.fr f1, e2, fun v2 H2 Hs2 f2 r2 => ?_⟩⟩
        cases r1
        cases r2
        have hb := rng_b hr
        exact ⟨i, j, rfl, ⟨by omega, by omega, by omega, by omega⟩, q _ H2 Hs2 (f1.trans f2) (Wk.range i j hr)⟩
      · cases ev
    · cases ev
  · cases ev
theorem pi_zp {a b : Expr} {x y : E} {elts : List Expr} {kk : Nat} {p pos tpos : Pos} (hg : Gl X "zip") (hm : X.mg "zip" = none) (ha : PE X a (tE X.K Ph false x)) (hb : PE X b (tE X.K Ph false y)) (hs : starEach [a, b] X.env = (false, eval a X.env) :: starEach [b] X.env) (hs2 : starEach [b] X.env = (false, eval b X.env) :: starEach [] X.env)
    (hpl : (backTo pos (starEach [b] X.env)).any (·.1) = false) : PI X (.Tuple elts kk tpos) (.Call (.Name "zip" p) [a, b] [] pos) (tI X.K Ph (.zip x y)) := by
  refine PI.mono (PI.inv (RZ.pi_zipA hg hm (pa_cons ha (pa_cons hb pa_nil hs2) hs) hs hpl)) fun σ H R q => ?_
  obtain ⟨env, Hs, ds, ok, ev, fz, q⟩ := q
  rw [evI] at ev
  split at ev
  · rename_i dx e1
    split at ev
    · rename_i dy e2
      refine ⟨env, Hs, _, ok, e1, fun v H1 Hs1 f1 r1 => ⟨env, Hs1, _, ok.fr f1, e2, fun v2 H2 Hs2 f2 r2 => ?_⟩⟩
      unfold zip2D at ev
      split at ev
      · split at ev
        · rename_i hz
          cases ev
          have nz : ∀ x ∈ _, isPr x = false := fun x hx => by simpa using List.all_eq_true.mp hz x hx
          cases f2.rp r1 with
          | lst s r =>
            cases r2 with
            | lst s' r' => exact ⟨_, _, _, _, rfl, .inl ⟨f2.view.seqL s, f2.view.seqL s', fun hl => q _ H2 Hs2 (f1.trans f2) (Wk.zip (hl.l _ _ (f2.view.seqL s)) s r s' r' nz)⟩⟩
        · cases ev
      · split at ev
        · rename_i hz
          cases ev
          have nz : ∀ x ∈ _, isPr x = false := fun x hx => by simpa using List.all_eq_true.mp hz x hx
          cases f2.rp r1 with
          | tup s r p =>
            cases r2 with
            | tup s' r' p' => exact ⟨_, _, _, _, rfl, .inr ⟨f2.view.seqT s, f2.view.seqT s', fun hl => q _ H2 Hs2 (f1.trans f2) (Wk.zipT (hl.t _ _ (f2.view.seqT s)) s r s' r' nz)⟩⟩
        · cases ev
      · cases ev
    · cases ev
  · cases ev
end
end Wr
end

section
set_option Elab.async false
set_option linter.all false
set_option maxRecDepth 100000
set_option maxHeartbeats 4000000
/-! WrI: targets, list comprehensions, dict comprehensions. -/
namespace Wr
open PySem PySem.Spec PyProof.Rows L2
variable [Wld]
/-! ### targets -/
theorem wipe_set (σ : L2.St) (i : Nat) (x : Option V) : ∀ vs : List Nat, i ∈ vs → wipe (σ.set i x) vs = wipe σ vs
  | [], h => by simp at h
  | v :: vs, h => by
    unfold wipe
    by_cases hi : i ∈ vs
    · rw [wipe_set σ i x vs hi]
    · have e : i = v := by
        rcases List.mem_cons.mp h with e | h
        · exact e
        · exact absurd h hi
      subst e
      have key : ∀ (ws : List Nat) (τ : L2.St), i ∉ ws → wipe (τ.set i x) ws = (wipe τ ws).set i x := by
        intro ws
        induction ws with
        | nil => intro τ _; rfl
        | cons w ws ih =>
          intro τ hw
          unfold wipe
          rw [ih τ (fun z => hw (List.mem_cons_of_mem _ z)), List.set_comm _ _ (fun z => hw (by rw [z]; exact List.mem_cons_self))]
      rw [key vs σ hi, List.set_set]
def gT (K : PySem.W.Frag) (t : Tg) : TG := fun v σ H Q => ∃ env Hs d env', EnvOk K env σ H Hs ∧ Rp K Hs v d ∧ bindT env t d = some env' ∧
  ∀ σ', EnvOk K env' σ' H Hs → (∀ vs : List Nat, (∀ i ∈ slotsT t, i ∈ vs) → wipe σ' vs = wipe σ vs) → (∀ b, OwnedAt env' σ' b → OwnedAt env σ b) → Q σ' H
def gTs (K : PySem.W.Frag) (ts : Tgs) : TGs := fun vs σ H Q => ∃ env Hs ds env', EnvOk K env σ H Hs ∧ RpAll K Hs vs ds ∧ bindTs env ts ds = some env' ∧
  ∀ σ', EnvOk K env' σ' H Hs → (∀ vs : List Nat, (∀ i ∈ slotsTs ts, i ∈ vs) → wipe σ' vs = wipe σ vs) → (∀ b, OwnedAt env' σ' b → OwnedAt env σ b) → Q σ' H
/-- a slot that holds nothing alone -/
theorem owned_set_no {env : Ev} {σ : L2.St} {i : Nat} {x : Sl} {v : Option V} {b : Addr} (nx : ¬ OwS x) (h : OwnedAt (env.set i x) (σ.set i v) b) : OwnedAt env σ b := by
  obtain ⟨j, d', h1, h2, h3⟩ := h
  rw [set_get] at h1 h3
  by_cases z : i = j
  · rw [if_pos z] at h1
    split at h1
    · cases h1
      exact absurd h2 nx
    · cases h1
  · rw [if_neg z] at h1 h3
    exact ⟨j, d', h1, h2, h3⟩
theorem owned_set_at {env : Ev} {σ : L2.St} {i : Nat} {x : Sl} {b : Addr} (nx : ¬ OwS x) (h : OwnedAt (env.set i x) σ b) : OwnedAt env σ b := by
  obtain ⟨j, d', h1, h2, h3⟩ := h
  rw [set_get] at h1
  by_cases z : i = j
  · rw [if_pos z] at h1
    split at h1
    · cases h1
      exact absurd h2 nx
    · cases h1
  · rw [if_neg z] at h1
    exact ⟨j, d', h1, h2, h3⟩
theorem owned_set_one {env : Ev} {σ : L2.St} {i : Nat} {x : Sl} {a b : Addr} (h : OwnedAt (env.set i x) (σ.set i (some (.ref a))) b) : OwnedAt env σ b ∨ b = a := by
  obtain ⟨j, d', h1, h2, h3⟩ := h
  rw [set_get] at h1 h3
  by_cases z : i = j
  · rw [if_pos z] at h3
    split at h3
    · cases h3; exact .inr rfl
    · cases h3
  · rw [if_neg z] at h1 h3
    exact .inl ⟨j, d', h1, h2, h3⟩
theorem owned_set {env : Ev} {σ : L2.St} {i : Nat} {d : PyData} {v : Option V} {b : Addr} (h : OwnedAt (env.set i (.sh d)) (σ.set i v) b) : OwnedAt env σ b := owned_set_no (fun z => by cases z) h
section
variable {X : Cx}
theorem pg_nm {i : Nat} {x : Str} {pos : Pos} (hN : X.N.Nodup) (hi : X.N[i]? = some x) (hx : Loc X.env.scope x) (hf : X.fn x = true ∨ X.env.scope.names.lookup x = some .local) : PG X (.Name x pos) (gT X.K (.nm i)) := by
  refine PG.mono (pg_name hN hi hx hf) fun v σ H Q q => ?_
  obtain ⟨env, Hs, d, env', ok, r, e, q⟩ := q
  rw [bindT] at e
  cases e
  exact q _ (ok.set_sh i r) (fun vs h => wipe_set σ i _ vs (h i (by simp [slotsT]))) (fun b h => owned_set h)
theorem pg_tp {es : List Expr} {k : Nat} {ts : Tgs} {pos : Pos} (hc : X.calm = true) (h : PGs X es (gTs X.K ts)) (hst : (assignEach es X.env).findIdx? (·.1) = none) (hn : ∀ env ds env', bindTs env ts ds = some env' → ds.length = (assignEach es X.env).length) : PG X (.Tuple es k pos) (gT X.K (.tp ts)) := by
  refine PG.mono (pg_tup hc h rfl hst) fun v σ H Q q => ?_
  obtain ⟨env, Hs, d, env', ok, r, e, q⟩ := q
  cases d with
  | tuple ds =>
    rw [bindT] at e
    cases r with
    | tup s r => exact ⟨_, _, rfl, ok.view.seqT s, by rw [r.length]; exact hn _ _ _ e, env, Hs, ds, env', ok, r, e, fun σ' o w ow => q σ' o (fun vs h => w vs (fun i hi => h i (by rw [slotsT]; exact hi))) ow⟩
  | _ => rw [bindT] at e <;> first | cases e | (intro _ z; cases z)
theorem pgs_nil' : PGs X [] (gTs X.K .nil) := by
  refine ⟨fun pins s σ H vs us Q I r h => pgs_nil.run pins s σ H vs us Q I r ?_⟩
  obtain ⟨env, Hs, ds, env', ok, r, e, q⟩ := h
  cases ds with
  | nil =>
    rw [bindTs] at e
    cases e
    cases r
    exact ⟨rfl, q σ ok (fun _ _ => rfl) (fun _ h => h)⟩
  | cons _ _ => rw [bindTs] at e; cases e
theorem pgs_cons' {e : Expr} {es : List Expr} {t : Tg} {ts : Tgs} (h1 : PG X e (gT X.K t)) (h2 : PGs X es (gTs X.K ts)) (hs : (assignEach (e :: es) X.env).map (·.2) = assign e X.env :: (assignEach es X.env).map (·.2)) : PGs X (e :: es) (gTs X.K (.cons t ts)) := by
  refine ⟨fun pins s σ H vs us Q I r h => (pgs_cons h1 h2 hs).run pins s σ H vs us Q I r ?_⟩
  obtain ⟨env, Hs, ds, env', ok, r, e, q⟩ := h
  cases ds with
  | nil => rw [bindTs] at e; cases e
  | cons d ds =>
    rw [bindTs] at e
    split at e
    · rename_i env1 e1
      cases r with
      | cons r1 r2 =>
        refine ⟨_, _, rfl, env, Hs, d, env1, ok, r1, e1, fun σ1 ok1 w1 ow1 => ⟨env1, Hs, ds, env', ok1, r2, e, fun σ2 ok2 w2 ow2 => ?_⟩⟩
        refine q σ2 ok2 (fun vs h => ?_) (fun b h => ow1 b (ow2 b h))
        rw [slotsTs] at h
        rw [w2 vs (fun i hi => h i (List.mem_append_right _ hi)), w1 vs (fun i hi => h i (List.mem_append_left _ hi))]
    · cases e
end
theorem wipe_len {K : PySem.W.Frag} {env : Ev} {σ : L2.St} {H Hs : Hp} (e : EnvOk K env σ H Hs) : True := trivial
theorem owned_wipe {env : Ev} {σ : L2.St} {b : Addr} : ∀ vs : List Nat, OwnedAt (wipeE env vs) (wipe σ vs) b → OwnedAt env σ b
  | [], h => h
  | v :: vs, h => by
    rw [wipeE, wipe] at h
    exact owned_wipe vs (owned_set_no (fun z => by cases z) h)

theorem wipe_none (σ : L2.St) (i : Nat) : ∀ vs : List Nat, i ∈ vs → (wipe σ vs).set i none = wipe σ vs
  | [], h => by simp at h
  | v :: vs, h => by
    rw [wipe]
    rcases List.mem_cons.mp h with e | h
    · subst e; rw [List.set_set]
    · by_cases z : v = i
      · subst z; rw [List.set_set]
      · rw [List.set_comm _ _ z, wipe_none σ i vs h]
theorem wipe_sub (σ : L2.St) (ws : List Nat) : ∀ vs : List Nat, (∀ i ∈ vs, i ∈ ws) → wipe (wipe σ ws) vs = wipe σ ws
  | [], _ => rfl
  | v :: vs, h => by
    rw [wipe, wipe_sub σ ws vs (fun i hi => h i (List.mem_cons_of_mem _ hi))]
    exact wipe_none σ v ws (h v List.mem_cons_self)
theorem wipe_set_idem (σ : L2.St) (vs : List Nat) : wipe (wipe σ vs) vs = wipe σ vs := wipe_sub σ vs vs (fun _ h => h)
/-! ### the step of a comprehension's list -/
theorem FrE.grow {H Hs H1 Hs1 : Hp} {D : Addr} {o : HO} (f : FrE H Hs H1 Hs1) (hD : H D = none) (hs : Hs1 D = none) : FrE H Hs (upd H1 D o) Hs1 := by
  refine ⟨fun b u e => ?_, f.shar, ⟨fun b u q => ?_, fun b ob xs q => ?_⟩, f.new⟩
  · rw [upd_ne (ne_of_none e hD)]
    exact f.same b u e
  · have nb : b ≠ D := by
      rintro rfl
      rcases q with q | ⟨_, q⟩ <;> rw [hs] at q <;> cases q
    have := f.view.1 b u q
    unfold Rd at this ⊢
    rw [upd_ne nb]
    exact this
  · rw [upd_ne (ne_of_none q hs)]
    exact f.view.2 b ob xs q
theorem collect_cons {f : PyData → Option (Option PyData)} {d : PyData} {ds out : List PyData} (h : collect f (d :: ds) = some out) : (f d = some none ∧ collect f ds = some out) ∨ ∃ y r, f d = some (some y) ∧ collect f ds = some r ∧ out = y :: r := by
  rw [collect] at h
  split at h
  · cases h
  · exact .inl ⟨by assumption, h⟩
  · rename_i y e
    obtain ⟨r, h1, h2⟩ := Option.map_eq_some_iff.mp h
    exact .inr ⟨y, r, e, h1, h2.symm⟩
/-- with the lock's wish -/
def tEz (K : PySem.W.Frag) (Ph : Nat → List PyData → Option PyData) (fr : Bool) (it : I) (e : E) : TE := fun σ H Q => ∃ env Hs d, EnvOk K env σ H Hs ∧ evE Ph env e = some d ∧ Fz env σ H it ∧ ∀ v H' Hs', FrE H Hs H' Hs' → Rs K H Hs' H' v d fr → Q v H'
section
variable {X : Cx} {Ph : Nat → List PyData → Option PyData}
theorem lc_run {K : PySem.W.Frag} {elt : E} {tg : Tg} {it : I} {cs : Es} {fr : Bool} {σ : L2.St} {H : Hp} {Q : VK} (h : tEz K Ph true it (.cpr elt tg it cs) σ H Q) : tLc (tI K Ph it) (gT K tg) (tAn K Ph cs) (tE K Ph false elt) (slotsT tg) σ H Q := by
  obtain ⟨env, Hs, d, ok, ev, fz, q⟩ := h
  rw [evE] at ev
  split at ev
  · rename_i ds e1
    obtain ⟨out, e2, rfl⟩ := Option.map_eq_some_iff.mp ev
    refine ⟨env, Hs, ds, ok, e1, fz, fun J H1 Hs1 f1 wk D hD => ?_⟩
    generalize hf : (fun d => match bindT (wipeE env (slotsT tg)) tg d with
        | some env' => match evAnd Ph env' cs with
          | some (.bool true) => (evE Ph env' elt).map some
          | some (.bool false) => some none
          | _ => none
        | none => none) = f at e2
    have hsD : Hs1 D = none := f1.view.none hD
    refine ⟨fun i m Hc => m = ds.length - i ∧ i ≤ ds.length ∧ ∃ Hsc acc done rest, FrE H1 Hs1 Hc Hsc ∧ Hc D = some (.lst acc) ∧ Hsc D = none ∧ RpAll K Hsc acc done ∧ collect f (ds.drop i) = some rest ∧ out = done ++ rest ∧ acc.length ≤ i,
      ⟨ds.length, rfl, Nat.zero_le _, Hs1, [], [], out, FrE.alloc f1.view hD, upd_same, hsD, .nil, by simpa using e2, rfl, Nat.le_refl _⟩, fun i m Hc hW => ?_⟩
    obtain ⟨rfl, hi, Hsc, acc, done, rest, fc, hcD, hsc, ra, ec, eo, hl⟩ := hW
    have okc : EnvOk K env σ Hc Hsc := (ok.fr f1).fr fc
    by_cases hlt : i < ds.length
    · refine .inr ⟨wk.go Hc Hsc i fc.shar fc.view (Kp.of_same fc.same) hlt, fun Hn => ∃ Hsc acc done rest, FrE H1 Hs1 Hn Hsc ∧ Hn D = some (.lst acc) ∧ Hsc D = none ∧ RpAll K Hsc acc done ∧ collect f (ds.drop (i + 1)) = some rest ∧ out = done ++ rest ∧ acc.length ≤ i + 1, fun Hn hn => ?_, fun x Hy hy => ?_⟩
      · obtain ⟨a1, a2, a3, a4, hh⟩ := hn
        exact ⟨ds.length - (i + 1), by omega, rfl, by omega, a1, a2, a3, a4, hh⟩
      · have ed : ds.drop i = ds[i] :: ds.drop (i + 1) := List.drop_eq_getElem_cons hlt
        rw [ed] at ec
        obtain ⟨Hsy, fy, ry⟩ := wk.yl Hc Hsc i ds[i] x Hy fc.shar fc.view (Kp.of_same fc.same) (List.getElem?_eq_getElem hlt) hy
        have okw : EnvOk K (wipeE env (slotsT tg)) (wipe σ (slotsT tg)) Hy Hsy := (okc.fr fy).wipe _
        have fcy := fc.trans fy
        have hyD : Hy D = some (.lst acc) := fy.same _ _ hcD
        have hsy : Hsy D = none := by
          cases z : Hsy D with
          | none => rfl
          | some u =>
            have := fy.new D hsc (by rw [z]; simp)
            rw [hcD] at this; cases this
        -- what f says of this item
        have hfd : ∀ r, f ds[i] = some r → ∃ env', bindT (wipeE env (slotsT tg)) tg ds[i] = some env' ∧ ((evAnd Ph env' cs = some (.bool true) ∧ ∃ y, evE Ph env' elt = some y ∧ r = some y) ∨ (evAnd Ph env' cs = some (.bool false) ∧ r = none)) := by
          intro r hr
          rw [← hf] at hr
          dsimp only at hr
          split at hr
          · rename_i env' eb
            refine ⟨env', eb, ?_⟩
            split at hr
            · rename_i ea
              obtain ⟨y, h1, h2⟩ := Option.map_eq_some_iff.mp hr
              exact .inl ⟨ea, y, h1, h2.symm⟩
            · rename_i ea
              cases hr
              exact .inr ⟨ea, rfl⟩
            · cases hr
          · cases hr
        have keepD : ∀ {Ha Hsa Hb Hsb : Hp}, FrE Ha Hsa Hb Hsb → Ha D = some (.lst acc) → Hsa D = none → Hb D = some (.lst acc) ∧ Hsb D = none := fun {Ha Hsa Hb Hsb} fab h1 h2 => by
          refine ⟨fab.same _ _ h1, ?_⟩
          cases z : Hsb D with
          | none => rfl
          | some u =>
            have := fab.new D h2 (by rw [z]; simp)
            rw [h1] at this; cases this
        rcases collect_cons ec with ⟨h1, h2⟩ | ⟨y, r, h1, h2, h3⟩
        · obtain ⟨env', eb, ⟨_, _, _, z⟩ | ⟨ea, _⟩⟩ := hfd _ h1
          · cases z
          refine ⟨_, Hsy, ds[i], env', okw, ry, eb, fun σ2 ok2 w2 ow2 => ⟨?_, env', Hsy, false, ok2, ea, fun H3 Hs3 f3 => iteF ?_⟩⟩
          · rw [w2 _ (fun i hi => hi)]
            exact wipe_set_idem _ _
          · obtain ⟨d1, d2⟩ := keepD f3 hyD hsy
            exact ⟨Hs3, acc, done, rest, fcy.trans f3, d1, d2, (f3.rpAll (fy.rpAll ra)), h2, eo, by omega⟩
        · obtain ⟨env', eb, ⟨ea, y', ey, z⟩ | ⟨_, z⟩⟩ := hfd _ h1
          · cases z
            refine ⟨_, Hsy, ds[i], env', okw, ry, eb, fun σ2 ok2 w2 ow2 => ⟨?_, env', Hsy, true, ok2, ea, fun H3 Hs3 f3 => iteT ?_⟩⟩
            · rw [w2 _ (fun i hi => hi)]
              exact wipe_set_idem _ _
            · refine ⟨env', Hs3, y, ok2.fr f3, ey, fun v4 H4 Hs4 f4 r4 => ?_⟩
              obtain ⟨d1, d2⟩ := keepD (f3.trans f4) hyD hsy
              refine ⟨acc, d1, by have := wk.len; omega, Hs4, acc ++ [v4], done ++ [y], r, ((fcy.trans f3).trans f4).grow hD d2, upd_same, d2, ?_, h2, ?_, ?_⟩
              · exact (f4.rpAll (f3.rpAll (fy.rpAll ra))).append (.cons r4 .nil)
              · rw [eo, h3]; simp
              · rw [List.length_append]
                show acc.length + 1 ≤ i + 1
                omega
          · cases z
    · refine .inl ⟨wk.st Hc Hsc i fc.shar fc.view (Kp.of_same fc.same) (by omega), ?_⟩
      have e0 : ds.drop i = [] := List.drop_eq_nil_of_le (by omega)
      rw [e0, collect] at ec
      cases ec
      rw [List.append_nil] at eo
      subst eo
      refine q _ Hc Hsc (f1.trans fc) ⟨D, rfl, f1.same.free hD, hsc, _, hcD, ra⟩
  · cases ev

/-! ### dicts filled -/
theorem RpKV.put {K : PySem.W.Frag} {H : Hp} {x : Str} {v : V} {d : PyData} (hx : strOk x = true) (hv : Rp K H v d) {kvs : List (Key × V)} {kds : List (PyData × PyData)} (r : RpKV K H kvs kds) : RpKV K H (putK kvs (.inr x) v) (putD kds (.str x) d) := by
  have hany : ∀ {kvs : List (Key × V)} {kds : List (PyData × PyData)}, RpKV K H kvs kds → (kvs.any fun kv => decide (kv.1 = (.inr x : Key))) = (kds.any fun kv => PyData.eqv kv.1 (.str x)) := by
    intro kvs kds r
    induction kvs generalizing kds with
    | nil => cases r; rfl
    | cons p kvs ih =>
      cases r with
      | cons h1 h2 h3 =>
        rename_i y w d' kds'
        simp only [List.any_cons, ih h3, eqv_str]
        congr 1
        rw [key_rr]
        by_cases e : y = x
        · subst e; simp
        · simp [e]
  have hmap : ∀ {kvs : List (Key × V)} {kds : List (PyData × PyData)}, RpKV K H kvs kds → RpKV K H (kvs.map (fun kv => if kv.1 = (.inr x : Key) then (kv.1, v) else kv)) (kds.map (fun kv => if PyData.eqv kv.1 (.str x) = true then (kv.1, d) else kv)) := by
    intro kvs kds r
    induction kvs generalizing kds with
    | nil => cases r; exact .nil
    | cons p kvs ih =>
      cases r with
      | cons h1 h2 h3 =>
        rename_i y w d' kds'
        rw [List.map_cons, List.map_cons]
        by_cases e : y = x
        · subst e
          rw [if_pos rfl, if_pos (by simp [eqv_str])]
          exact .cons h1 hv (ih h3)
        · rw [if_neg (fun z => e (Sum.inr.inj z)), if_neg (by simp [eqv_str, e])]
          exact .cons h1 h2 (ih h3)
  have happ : ∀ {kvs : List (Key × V)} {kds : List (PyData × PyData)}, RpKV K H kvs kds → RpKV K H (kvs ++ [(.inr x, v)]) (kds ++ [(.str x, d)]) := by
    intro kvs kds r
    induction kvs generalizing kds with
    | nil => cases r; exact .cons hx hv .nil
    | cons p kvs ih =>
      cases r with
      | cons h1 h2 h3 => exact .cons h1 h2 (ih h3)
  unfold putK putD
  rw [hany r]
  split
  · exact hmap r
  · exact happ r
theorem RpKV.merge {K : PySem.W.Frag} {H : Hp} : ∀ {more : List (Key × V)} {mds : List (PyData × PyData)} {kvs : List (Key × V)} {kds : List (PyData × PyData)}, RpKV K H more mds → RpKV K H kvs kds → RpKV K H (mergeK kvs more) (mergeD kds mds)
  | [], _, _, _, h, r => by cases h; exact r
  | p :: more, _, _, _, h, r => by
    cases h with
    | cons h1 h2 h3 =>
      have := RpKV.merge h3 (r.put h1 h2)
      exact this
theorem length_putD (kds : List (PyData × PyData)) (k v : PyData) : (putD kds k v).length ≤ kds.length + 1 := by
  unfold putD
  split
  · rw [List.length_map]; omega
  · simp
theorem dc_run {K : PySem.W.Frag} {ke ve : E} {tg : Tg} {it : I} {σ : L2.St} {H : Hp} {Q : VK} (h : tEz K Ph false it (.dcp ke ve tg it) σ H Q) : tDc (tI K Ph it) (gT K tg) tYes (tE K Ph false ke) (tE K Ph false ve) (slotsT tg) σ H Q := by
  obtain ⟨env, Hs, d, ok, ev, fz, q⟩ := h
  rw [evE] at ev
  split at ev
  · rename_i ds e1
    obtain ⟨out, e2, rfl⟩ := Option.map_eq_some_iff.mp ev
    refine ⟨env, Hs, ds, ok, e1, fz, fun J H1 Hs1 f1 wk D hD => ?_⟩
    generalize hf : (fun d => match bindT (wipeE env (slotsT tg)) tg d with
        | some env' => match evE Ph env' ke with
          | some x => match evE Ph env' ve with
            | some y => if keyD x then some (x, y) else none
            | none => none
          | none => none
        | none => none) = f at e2
    have hsD : Hs1 D = none := f1.view.none hD
    refine ⟨fun i m Hc => m = ds.length - i ∧ i ≤ ds.length ∧ ∃ Hsc kvs done, FrE H1 Hs1 Hc Hsc ∧ Hc D = some (.dK kvs) ∧ Hsc D = none ∧ RpKV K Hsc kvs done ∧ collectD f (ds.drop i) done = some out ∧ kvs.length ≤ i,
      ⟨ds.length, rfl, Nat.zero_le _, Hs1, [], [], FrE.alloc f1.view hD, upd_same, hsD, .nil, by simpa using e2, Nat.le_refl _⟩, fun i m Hc hW => ?_⟩
    obtain ⟨rfl, hi, Hsc, kvs, done, fc, hcD, hsc, ra, ec, hl⟩ := hW
    have okc : EnvOk K env σ Hc Hsc := (ok.fr f1).fr fc
    by_cases hlt : i < ds.length
    · refine .inr ⟨wk.go Hc Hsc i fc.shar fc.view (Kp.of_same fc.same) hlt, fun Hn => ∃ Hsc kvs done, FrE H1 Hs1 Hn Hsc ∧ Hn D = some (.dK kvs) ∧ Hsc D = none ∧ RpKV K Hsc kvs done ∧ collectD f (ds.drop (i + 1)) done = some out ∧ kvs.length ≤ i + 1, fun Hn hn => ?_, fun x Hy hy => ?_⟩
      · obtain ⟨a1, a2, a3, hh⟩ := hn
        exact ⟨ds.length - (i + 1), by omega, rfl, by omega, a1, a2, a3, hh⟩
      · have ed : ds.drop i = ds[i] :: ds.drop (i + 1) := List.drop_eq_getElem_cons hlt
        rw [ed, collectD] at ec
        obtain ⟨Hsy, fy, ry⟩ := wk.yl Hc Hsc i ds[i] x Hy fc.shar fc.view (Kp.of_same fc.same) (List.getElem?_eq_getElem hlt) hy
        have okw : EnvOk K (wipeE env (slotsT tg)) (wipe σ (slotsT tg)) Hy Hsy := (okc.fr fy).wipe _
        have fcy := fc.trans fy
        have hyD : Hy D = some (.dK kvs) := fy.same _ _ hcD
        have keepD : ∀ {Ha Hsa Hb Hsb : Hp}, FrE Ha Hsa Hb Hsb → Ha D = some (.dK kvs) → Hsa D = none → Hb D = some (.dK kvs) ∧ Hsb D = none := fun {Ha Hsa Hb Hsb} fab h1 h2 => by
          refine ⟨fab.same _ _ h1, ?_⟩
          cases z : Hsb D with
          | none => rfl
          | some u =>
            have := fab.new D h2 (by rw [z]; simp)
            rw [h1] at this; cases this
        have hsy : Hsy D = none := (keepD fy hcD hsc).2
        split at ec
        · cases ec
        · rename_i kx vx ef
          have hfd : ∃ env', bindT (wipeE env (slotsT tg)) tg ds[i] = some env' ∧ evE Ph env' ke = some kx ∧ evE Ph env' ve = some vx ∧ keyD kx = true := by
            rw [← hf] at ef
            dsimp only at ef
            split at ef
            · rename_i env' eb
              split at ef
              · rename_i x' ex
                split at ef
                · rename_i y' ey
                  split at ef
                  · rename_i hk
                    cases ef
                    exact ⟨env', eb, ex, ey, hk⟩
                  · cases ef
                · cases ef
              · cases ef
            · cases ef
          obtain ⟨env', eb, ex, ey, hk⟩ := hfd
          refine ⟨_, Hsy, ds[i], env', okw, ry, eb, fun σ2 ok2 w2 ow2 => ⟨?_, ?_⟩⟩
          · rw [w2 _ (fun i hi => hi)]
            exact wipe_set_idem _ _
          · refine ⟨env', Hsy, kx, ok2, ex, fun v3 H3 Hs3 f3 r3 => ⟨env', Hs3, vx, ok2.fr f3, ey, fun v4 H4 Hs4 f4 r4 => ?_⟩⟩
            cases kx <;> simp [keyD] at hk
            rename_i kk
            have hok : strOk kk = true := by cases r3; assumption
            have r3' := r3
            cases r3'
            obtain ⟨d1, d2⟩ := keepD (f3.trans f4) hyD hsy
            refine ⟨kvs, .inr kk, rfl, d1, by have := wk.len; omega, Hs4, putK kvs (.inr kk) v4, putD done (.str kk) vx, ((fcy.trans f3).trans f4).grow hD d2, upd_same, d2, ?_, ec, ?_⟩
            · exact RpKV.put hok r4 ((ra.view (View.of_same fy.shar)).view (View.of_same (f3.trans f4).shar))
            · have := length_putK kvs (.inr kk : Key) v4
              omega
    · refine .inl ⟨wk.st Hc Hsc i fc.shar fc.view (Kp.of_same fc.same) (by omega), ?_⟩
      have e0 : ds.drop i = [] := List.drop_eq_nil_of_le (by omega)
      rw [e0, collectD] at ec
      cases ec
      have ow : Own K Hsc Hc D (.dict out) := ⟨hsc, _, hcD, ra⟩
      obtain ⟨Hs2, f2, r2⟩ := Rs.shared (fr := true) (f1.trans fc) ⟨D, rfl, f1.same.free hD, ow⟩
      exact q _ Hc Hs2 f2 r2
  · cases ev
/-! ### the lock -/
theorem EnvOk.lock {K : PySem.W.Frag} {env : Ev} {σ : L2.St} {H Hs : Hp} {a : Addr} {u : HO} {od : Obj} (ok : EnvOk K env σ H Hs) (e : H a = some u) (nf : ¬ Frzn u) (hs : Hs a ≠ none) : EnvOk K env σ (upd H a (.frz od u)) Hs := by
  refine ok.re (Same.refl _) ⟨fun b w q => ?_, fun b ob xs q => ?_⟩ fun b hb => ?_
  · have := ok.view.1 b w q
    by_cases z : b = a
    · subst z
      rcases this with t | ⟨o, t⟩
      · rw [e] at t; cases t
        exact .inr ⟨od, upd_same⟩
      · rw [e] at t; cases t
        exact (nf trivial).elim
    · unfold Rd at this ⊢
      rw [upd_ne z]
      exact this
  · have t := ok.view.2 b ob xs q
    have z : b ≠ a := by
      rintro rfl
      rw [e] at t; cases t
      exact (nf trivial).elim
    rw [upd_ne z]
    exact t
  · have h2 := (ok.owned hb).2
    refine ⟨?_, h2⟩
    rw [upd_ne]
    rintro rfl
    exact hs h2
/-- the lock taken off behind -/
theorem FrE.unlock {H Hs H' Hs' : Hp} {a : Addr} {u : HO} {od : Obj} (e : H a = some u) (nf : ¬ Frzn u) (f : FrE (upd H a (.frz od u)) Hs H' Hs') (hs : Hs a = some u) : H' a = some (.frz od u) ∧ FrE H Hs (upd H' a u) Hs' := by
  have e1 : H' a = some (.frz od u) := f.same _ _ upd_same
  refine ⟨e1, fun b w q => ?_, f.shar, ⟨fun b w q => ?_, fun b ob xs q => ?_⟩, fun b h1 h2 => ?_⟩
  · by_cases z : b = a
    · subst z
      rw [e] at q; cases q
      exact upd_same
    · rw [upd_ne z]
      exact f.same b w (by rw [upd_ne z]; exact q)
  · have := f.view.1 b w q
    by_cases z : b = a
    · subst z
      rcases this with t | ⟨o, t⟩
      · rw [e1] at t; cases t
        have h1 := f.shar b u hs
        rcases q with q | ⟨o', q⟩ <;> rw [h1] at q <;> cases q
      · rw [e1] at t; cases t
        exact .inl upd_same
    · unfold Rd at this ⊢
      rw [upd_ne z]
      exact this
  · have z : b ≠ a := by
      rintro rfl
      rw [f.shar b u hs] at q; cases q
      exact (nf trivial).elim
    rw [upd_ne z]
    exact f.view.2 b ob xs q
  · have h3 := f.new b h1 h2
    by_cases z : b = a
    · subst z; rw [hs] at h1; cases h1
    · rw [upd_ne z] at h3
      exact h3
theorem Own.frame {K : PySem.W.Frag} {Hs H : Hp} {p a : Addr} {d : PyData} {u : HO} (h : Own K Hs H p d) (ne : p ≠ a) : Own K Hs (upd H a u) p d := by
  obtain ⟨h1, o, h2, h3⟩ := h
  exact ⟨h1, o, by rw [upd_ne ne]; exact h2, h3⟩
theorem rs_unlock {K : PySem.W.Frag} {H Hs' H' : Hp} {a : Addr} {u u' : HO} {v : V} {d : PyData} {fr : Bool} (r : Rs K (upd H a u') Hs' H' v d fr) : Rs K H Hs' (upd H' a u) v d fr := by
  cases fr with
  | false => exact r
  | true =>
    obtain ⟨p, e, n, o⟩ := r
    have ne : p ≠ a := fun z => by rw [z, upd_same] at n; cases n
    rw [upd_ne ne] at n
    exact ⟨p, e, n, o.frame ne⟩
/-- where the dict that is walked stands -/
theorem fz_or {K : PySem.W.Frag} {env : Ev} {σ : L2.St} {H Hs : Hp} (ok : EnvOk K env σ H Hs) (it : I) : Fz env σ H it ∨ ∃ a kvs, H a = some (.dK kvs) ∧ Hs a = some (.dK kvs) ∧ ∀ od, Fz env σ (upd H a (.frz od (.dK kvs))) it := by
  have key : ∀ i : Nat, (∀ kds, env[i]? = some (.sh (.dict kds)) → ∀ a kvs, σ[i]? = some (some (.ref a)) → Rd H a (.dK kvs) → ∃ o, H a = some (.frz o (.dK kvs))) ∨ ∃ a kvs, H a = some (.dK kvs) ∧ Hs a = some (.dK kvs) ∧ ∀ od, ∀ kds, env[i]? = some (.sh (.dict kds)) → ∀ b ks, σ[i]? = some (some (.ref b)) → Rd (upd H a (.frz od (.dK kvs))) b (.dK ks) → ∃ o, (upd H a (.frz od (.dK kvs))) b = some (.frz o (.dK ks)) := by
    intro i
    refine Classical.byCases (fun h => .inl h) fun h => ?_
    refine .inr ?_
    obtain ⟨kds, e, a, kvs, hs, hr, hno⟩ : ∃ kds, env[i]? = some (.sh (.dict kds)) ∧ ∃ a kvs, σ[i]? = some (some (.ref a)) ∧ Rd H a (.dK kvs) ∧ ¬ ∃ o, H a = some (.frz o (.dK kvs)) := by
      refine Classical.byContradiction fun hc => h fun kds e a kvs hs hr => ?_
      exact Classical.byContradiction fun hn => hc ⟨kds, e, a, kvs, hs, hr, hn⟩
    have hH : H a = some (.dK kvs) := by
      rcases hr with hr | hr
      · exact hr
      · exact absurd hr hno
    obtain ⟨v, h1, h2⟩ := ok.sh i _ e
    rw [hs] at h1
    cases h1
    cases h2 with
    | dic s r =>
      rename_i ks
      have hv := ok.view.1 _ _ s
      have ek : ks = kvs := by
        rcases hv with hv | ⟨o, hv⟩ <;> rw [hH] at hv <;> cases hv
        rfl
      subst ek
      have hHs : Hs a = some (.dK ks) := by
        rcases s with s | ⟨o, s⟩
        · exact s
        · have := ok.view.1 a _ (.inl s)
          rcases this with t | ⟨o', t⟩ <;> rw [hH] at t <;> cases t
      refine ⟨a, ks, hH, hHs, fun od kds' e' b ks' hb hr' => ?_⟩
      rw [hs] at hb
      cases hb
      rcases hr' with t | t
      · rw [upd_same] at t; cases t
      · exact t
  cases it with
  | vr i => exact key i
  | di i => exact key i
  | _ => exact .inl trivial
theorem pe_unz {e : Expr} {it : I} {ir : E} {fr : Bool} (h : PE X e (tEz X.K Ph fr it ir)) : PE X e (tE X.K Ph fr ir) := by
  refine PE.mono (PE.or h (pe_lock h)) fun σ H Q q => ?_
  obtain ⟨env, Hs, d, ok, ev, q⟩ := q
  rcases fz_or ok it with fz | ⟨a, kvs, h1, h2, fz⟩
  · exact .inl ⟨env, Hs, d, ok, ev, fz, q⟩
  · refine .inr ⟨a, .dK kvs, h1, trivial, fun od => ⟨env, Hs, d, ok.lock h1 (fun z => z) (by rw [h2]; simp), ev, fz od, fun v H' Hs' f r => ?_⟩⟩
    obtain ⟨e1, f1⟩ := FrE.unlock h1 (fun z => z) f h2
    exact ⟨e1, q v _ Hs' f1 (rs_unlock r)⟩
/-- [elt for tg in iter if ..] -/
theorem pe_cpr {elt tg iter : Expr} {ifs : List Expr} {scope : Scope} {own : List (Str × Nat)} {pos : Pos} {el : E} {t : Tg} {it : I} {cs : Es} (hc : X.calm = true) (hN : X.N.Nodup) (hi : PI X tg iter (tI X.K Ph it)) (ok : BlkOk X.N X.env.scope scope own) (ho : own.map (·.2) = slotsT t)
    (hg : ∀ (s : Shared) (H : Hp) (C : Addr) (cl : List (Str × Addr)) (fp : List Addr), PG (X.blk s H scope (compEnvC scope cl C X.env) fp) tg (gT X.K t)) (ht : ∀ (s : Shared) (H : Hp) (C : Addr) (cl : List (Str × Addr)) (fp : List Addr), PTs (X.blk s H scope (compEnvC scope cl C X.env) fp) ifs (tAn X.K Ph cs))
    (he : ∀ (s : Shared) (H : Hp) (C : Addr) (cl : List (Str × Addr)) (fp : List Addr), PE (X.blk s H scope (compEnvC scope cl C X.env) fp) elt (tE X.K Ph false el)) (hs : ∀ x, foldedSetIterable iter X.env x = pure x) :
    PE X (.ListComp elt [⟨tg, iter, ifs, 0⟩] scope pos) (tE X.K Ph true (.cpr el t it cs)) := by
  refine pe_unz (it := it) (PE.mono (pe_lc hc hN hi ok hg ht he hs) fun σ H Q q => ?_)
  rw [ho]
  exact lc_run (fr := false) q
theorem pe_dcp {kx vx tg iter : Expr} {scope : Scope} {own : List (Str × Nat)} {pos : Pos} {ke ve : E} {t : Tg} {it : I} (hc : X.calm = true) (hN : X.N.Nodup) (hi : PI X tg iter (tI X.K Ph it)) (ok : BlkOk X.N X.env.scope scope own) (ho : own.map (·.2) = slotsT t)
    (hg : ∀ (s : Shared) (H : Hp) (C : Addr) (cl : List (Str × Addr)) (fp : List Addr), PG (X.blk s H scope (compEnvC scope cl C X.env) fp) tg (gT X.K t))
    (hk : ∀ (s : Shared) (H : Hp) (C : Addr) (cl : List (Str × Addr)) (fp : List Addr), PE (X.blk s H scope (compEnvC scope cl C X.env) fp) kx (tE X.K Ph false ke))
    (he : ∀ (s : Shared) (H : Hp) (C : Addr) (cl : List (Str × Addr)) (fp : List Addr), PE (X.blk s H scope (compEnvC scope cl C X.env) fp) vx (tE X.K Ph false ve)) (hs : ∀ x, foldedSetIterable iter X.env x = pure x) :
    PE X (.DictComp kx vx [⟨tg, iter, [], 0⟩] scope pos) (tE X.K Ph false (.dcp ke ve t it)) := by
  refine pe_unz (it := it) (PE.mono (pe_dc hc hN hi ok hg (fun _ _ _ _ _ => pts_nil) hk he hs) fun σ H Q q => ?_)
  rw [ho]
  exact dc_run q
theorem pts_an0 : PTs X [] (tAn X.K Ph .nil) := ⟨fun pins s σ H Q I h => pts_nil.run pins s σ H Q I (by
  obtain ⟨env, Hs, b, ok, ev, q⟩ := h
  rw [evAnd] at ev
  cases ev
  exact q H Hs (FrE.refl ok.view))⟩
theorem pts_an1 {c : Expr} {x : E} (h : PT X c (tT X.K Ph x)) : PTs X [c] (tAn X.K Ph (.cons x .nil)) := ⟨fun pins s σ H Q I hh => (pts_one h).run pins s σ H Q I (by
  obtain ⟨env, Hs, b, ok, ev, q⟩ := hh
  rw [evAnd] at ev
  split at ev
  · rename_i e
    rw [evAnd] at ev
    cases ev
    exact ⟨env, Hs, _, ok, e, q⟩
  · rename_i e
    cases ev
    exact ⟨env, Hs, _, ok, e, q⟩
  · cases ev)⟩
end
end Wr
end

section
set_option Elab.async false
set_option linter.all false
set_option maxRecDepth 100000
set_option maxHeartbeats 4000000
/-! WrJ: two fors in a comprehension. -/
namespace Wr
open PySem PySem.Spec PyProof.Rows L2
variable [Wld]
theorem collect2_cons {f : PyData → Option (List PyData)} {d : PyData} {ds out : List PyData} (h : collect2 f (d :: ds) = some out) : ∃ ys r, f d = some ys ∧ collect2 f ds = some r ∧ out = ys ++ r := by
  rw [collect2] at h
  split at h
  · cases h
  · rename_i ys e
    obtain ⟨r, h1, h2⟩ := Option.map_eq_some_iff.mp h
    exact ⟨ys, r, e, h1, h2.symm⟩
def noFz : I → Bool
  | .vr _ => false
  | .di _ => false
  | _ => true
theorem fz_no {env : Ev} {σ : L2.St} {H : Hp} {it : I} (h : noFz it = true) : Fz env σ H it := by
  cases it <;> first | exact trivial | cases h
section
variable {X : Cx} {Ph : Nat → List PyData → Option PyData}
theorem keepAt {Ha Hsa Hb Hsb : Hp} {D : Addr} {o : HO} (fab : FrE Ha Hsa Hb Hsb) (h1 : Ha D = some o) (h2 : Hsa D = none) : Hb D = some o ∧ Hsb D = none := by
  refine ⟨fab.same _ _ h1, ?_⟩
  cases z : Hsb D with
  | none => rfl
  | some u =>
    have := fab.new D h2 (by rw [z]; simp)
    rw [h1] at this; cases this
theorem EnvOk.poke {K : PySem.W.Frag} {env : Ev} {σ : L2.St} {H Hs : Hp} {D : Addr} {o : HO} (ok : EnvOk K env σ H Hs) (hn : ¬ OwnedAt env σ D) (hs : Hs D = none) : EnvOk K env σ (upd H D o) Hs := by
  refine ok.re (Same.refl _) ⟨fun b w q => ?_, fun b ob xs q => ?_⟩ fun b hb => ?_
  · have nb : b ≠ D := by
      rintro rfl
      rcases q with q | ⟨_, q⟩ <;> rw [hs] at q <;> cases q
    have := ok.view.1 b w q
    unfold Rd at this ⊢
    rw [upd_ne nb]
    exact this
  · rw [upd_ne (ne_of_none q hs)]
    exact ok.view.2 b ob xs q
  · refine ⟨?_, (ok.owned hb).2⟩
    rw [upd_ne]
    rintro rfl
    exact hn hb
theorem lc2_run {K : PySem.W.Frag} {elt : E} {tg tg2 : Tg} {it it2 : I} {σ : L2.St} {H : Hp} {Q : VK} (hnz : noFz it2 = true) (h : tEz K Ph true it (.cp2 elt tg it tg2 it2) σ H Q) :
    tLc2 (tI K Ph it) (gT K tg) tYes (tI K Ph it2) (gT K tg2) tYes (tE K Ph false elt) (slotsT tg ++ slotsT tg2) (slotsT tg2) σ H Q := by
  obtain ⟨env, Hs, d, ok, ev, fz, q⟩ := h
  rw [evE] at ev
  split at ev
  · rename_i ds e1
    split at ev
    · rename_i out e2
      split at ev
      · rename_i hlim
        cases ev
        refine ⟨env, Hs, ds, ok, e1, fz, fun J H1 Hs1 f1 wk D hD => ?_⟩
        generalize hf : (fun d => match bindT (wipeE env (slotsT tg ++ slotsT tg2)) tg d with
          | some env' => match evI Ph env' it2 with
            | some ds2 => collect (fun d2 => match bindT (wipeE env' (slotsT tg2)) tg2 d2 with
              | some env2 => (evE Ph env2 elt).map some
              | none => none) ds2
            | none => none
          | none => none) = f at e2
        have hsD : Hs1 D = none := f1.view.none hD
        refine ⟨fun i m Hc => m = ds.length - i ∧ i ≤ ds.length ∧ ∃ Hsc acc done rest, FrE H1 Hs1 Hc Hsc ∧ Hc D = some (.lst acc) ∧ Hsc D = none ∧ RpAll K Hsc acc done ∧ collect2 f (ds.drop i) = some rest ∧ out = done ++ rest,
          ⟨ds.length, rfl, Nat.zero_le _, Hs1, [], [], out, FrE.alloc f1.view hD, upd_same, hsD, .nil, by simpa using e2, rfl⟩, fun i m Hc hW => ?_⟩
        obtain ⟨rfl, hi, Hsc, acc, done, rest, fc, hcD, hsc, ra, ec, eo⟩ := hW
        have okc : EnvOk K env σ Hc Hsc := (ok.fr f1).fr fc
        by_cases hlt : i < ds.length
        · refine .inr ⟨wk.go Hc Hsc i fc.shar fc.view (Kp.of_same fc.same) hlt, fun Hn => ∃ Hsc acc done rest, FrE H1 Hs1 Hn Hsc ∧ Hn D = some (.lst acc) ∧ Hsc D = none ∧ RpAll K Hsc acc done ∧ collect2 f (ds.drop (i + 1)) = some rest ∧ out = done ++ rest, fun Hn hn => ?_, fun x Hy hy => ?_⟩
          · obtain ⟨a1, a2, a3, a4, hh⟩ := hn
            exact ⟨ds.length - (i + 1), by omega, rfl, by omega, a1, a2, a3, a4, hh⟩
          · have ed : ds.drop i = ds[i] :: ds.drop (i + 1) := List.drop_eq_getElem_cons hlt
            rw [ed] at ec
            obtain ⟨Hsy, fy, ry⟩ := wk.yl Hc Hsc i ds[i] x Hy fc.shar fc.view (Kp.of_same fc.same) (List.getElem?_eq_getElem hlt) hy
            have okw : EnvOk K (wipeE env (slotsT tg ++ slotsT tg2)) (wipe σ (slotsT tg ++ slotsT tg2)) Hy Hsy := (okc.fr fy).wipe _
            have fcy := fc.trans fy
            obtain ⟨hyD, hsy⟩ := keepAt fy hcD hsc
            obtain ⟨ys, r, h1, h2, h3⟩ := collect2_cons ec
            rw [← hf] at h1
            dsimp only at h1
            split at h1
            · rename_i env' eb
              split at h1
              · rename_i ds2 ei
                refine ⟨_, Hsy, ds[i], env', okw, ry, eb, fun σ2 ok2 w2 ow2 => ⟨?_, ?_⟩⟩
                · rw [w2 _ (fun i hi => List.mem_append_left _ hi)]
                  exact wipe_set_idem _ _
                · simp only [tYes, if_true]
                  have nown : ¬ OwnedAt env' σ2 D := fun z => ((ok.fr f1).owned (owned_wipe _ (ow2 _ z))).1 hD
                  refine ⟨env', Hsy, ds2, ok2, ei, fz_no hnz, fun J1 H4 Hs4 f4 wk1 => ?_⟩
                  obtain ⟨h4D, hs4⟩ := keepAt f4 hyD hsy
                  generalize hg : (fun d2 => match bindT (wipeE env' (slotsT tg2)) tg2 d2 with
                    | some env2 => (evE Ph env2 elt).map some
                    | none => none) = g at h1
                  refine ⟨fun j k Hb => k = ds2.length - j ∧ j ≤ ds2.length ∧ ∃ Hsb acc1 done1 rest1, FrE H1 Hs1 Hb Hsb ∧ Same Hs4 Hsb ∧ Kp Hs4 H4 Hb ∧ EnvOk K env' σ2 Hb Hsb ∧ Hb D = some (.lst acc1) ∧ Hsb D = none ∧ RpAll K Hsb acc1 done1 ∧ collect g (ds2.drop j) = some rest1 ∧ done ++ ys = done1 ++ rest1,
                    ⟨ds2.length, rfl, Nat.zero_le _, Hs4, acc, done, ys, fcy.trans f4, Same.refl _, Kp.refl, ok2.fr f4, h4D, hs4, f4.rpAll (fy.rpAll ra), by simpa using h1, rfl⟩, fun j k Hb hW1 => ?_⟩
                  obtain ⟨rfl, hj, Hsb, acc1, done1, rest1, fb, sb, kb, okb, hbD, hsb, rb, eb1, eo1⟩ := hW1
                  by_cases hjl : j < ds2.length
                  · refine .inr ⟨wk1.go Hb Hsb j sb fb.view kb hjl, fun Hn => ∃ Hsb acc1 done1 rest1, FrE H1 Hs1 Hn Hsb ∧ Same Hs4 Hsb ∧ Kp Hs4 H4 Hn ∧ EnvOk K env' σ2 Hn Hsb ∧ Hn D = some (.lst acc1) ∧ Hsb D = none ∧ RpAll K Hsb acc1 done1 ∧ collect g (ds2.drop (j + 1)) = some rest1 ∧ done ++ ys = done1 ++ rest1, fun Hn hn => ?_, fun x1 Hz hz => ?_⟩
                    · obtain ⟨a1, a2, a3, a4, hh⟩ := hn
                      exact ⟨ds2.length - (j + 1), by omega, rfl, by omega, a1, a2, a3, a4, hh⟩
                    · have ed1 : ds2.drop j = ds2[j] :: ds2.drop (j + 1) := List.drop_eq_getElem_cons hjl
                      rw [ed1] at eb1
                      obtain ⟨Hsz, fzz, rz⟩ := wk1.yl Hb Hsb j ds2[j] x1 Hz sb fb.view kb (List.getElem?_eq_getElem hjl) hz
                      have okz : EnvOk K (wipeE env' (slotsT tg2)) (wipe σ2 (slotsT tg2)) Hz Hsz := (okb.fr fzz).wipe _
                      obtain ⟨hzD, hsz⟩ := keepAt fzz hbD hsb
                      have hgd : ∀ r, g ds2[j] = some r → ∃ env2, bindT (wipeE env' (slotsT tg2)) tg2 ds2[j] = some env2 ∧ ∃ y, evE Ph env2 elt = some y ∧ r = some y := by
                        intro r hr
                        rw [← hg] at hr
                        dsimp only at hr
                        split at hr
                        · rename_i env2 eb2
                          obtain ⟨y, h1, h2⟩ := Option.map_eq_some_iff.mp hr
                          exact ⟨env2, eb2, y, h1, h2.symm⟩
                        · cases hr
                      rcases collect_cons eb1 with ⟨g1, g2⟩ | ⟨y, rr, g1, g2, g3⟩
                      · obtain ⟨env2, eb2, y, _, z⟩ := hgd _ g1
                        cases z
                      · obtain ⟨env2, eb2, y', ey, z⟩ := hgd _ g1
                        cases z
                        refine ⟨_, Hsz, ds2[j], env2, okz, rz, eb2, fun σ3 ok3 w3 ow3 => ⟨?_, ?_⟩⟩
                        · rw [w3 _ (fun i hi => hi)]
                          exact wipe_set_idem _ _
                        · refine ⟨env2, Hsz, y, ok3, ey, fun v4 H7 Hs7 f7 r7 => ?_⟩
                          obtain ⟨d1, d2⟩ := keepAt f7 hzD hsz
                          have ln := congrArg List.length eo1
                          have lo := congrArg List.length eo
                          have la := rb.length
                          rw [h3] at lo
                          rw [g3] at ln
                          simp only [List.length_append, List.length_cons] at ln lo
                          have ls := lim_line
                          have f47 := fzz.trans f7
                          refine ⟨acc1, d1, by omega, Hs7, acc1 ++ [v4], done1 ++ [y], rr, (fb.trans f47).grow hD d2, Same.trans sb f47.shar, ?_, ?_, upd_same, d2, ?_, g2, ?_⟩
                          · intro b u hb hu
                            have nb : b ≠ D := fun z => hb (by rw [z]; exact hs4)
                            rw [upd_ne nb]
                            exact f47.same _ _ (kb b u hb hu)
                          · exact (okb.fr f47).poke nown d2
                          · exact (f7.rpAll (fzz.rpAll rb)).append (.cons r7 .nil)
                          · rw [eo1, g3]; simp
                  · refine .inl ⟨wk1.st Hb Hsb j sb fb.view kb (by omega), ?_⟩
                    have e0 : ds2.drop j = [] := List.drop_eq_nil_of_le (by omega)
                    rw [e0, collect] at eb1
                    cases eb1
                    rw [List.append_nil] at eo1
                    exact ⟨Hsb, acc1, done1, r, fb, hbD, hsb, rb, h2, by rw [eo, h3, ← eo1]; simp⟩
              · cases h1
            · cases h1
        · refine .inl ⟨wk.st Hc Hsc i fc.shar fc.view (Kp.of_same fc.same) (by omega), ?_⟩
          have e0 : ds.drop i = [] := List.drop_eq_nil_of_le (by omega)
          rw [e0, collect2] at ec
          cases ec
          rw [List.append_nil] at eo
          subst eo
          exact q _ Hc Hsc (f1.trans fc) ⟨D, rfl, f1.same.free hD, hsc, _, hcD, ra⟩
      · cases ev
    · cases ev
  · cases ev
end
end Wr
end

section
set_option Elab.async false
set_option linter.all false
set_option maxRecDepth 100000
set_option maxHeartbeats 4000000
/-! WrK: statements: frames, readings, control. -/
namespace Wr
open PySem PySem.Spec PyProof.Rows L2
variable [Wld]
/-- the step of a statement -/
structure FrS (env : Ev) (σ : L2.St) (H Hs : Hp) (own' : Addr → Prop) (H' Hs' : Hp) : Prop where
  shar : Same Hs Hs'
  view : View Hs' H'
  keep : ∀ b u, H b = some u → ¬ OwnedAt env σ b → H' b = some u
  new : ∀ b, Hs b = none → Hs' b ≠ none → H b = none ∨ OwnedAt env σ b
  own : ∀ b, own' b → OwnedAt env σ b ∨ H b = none
section
variable {K : PySem.W.Frag} {env env' : Ev} {σ σ' : L2.St} {H Hs H' Hs' H2 Hs2 : Hp}
theorem FrS.refl (ok : EnvOk K env σ H Hs) : FrS env σ H Hs (OwnedAt env σ) H Hs := ⟨Same.refl _, ok.view, fun _ _ e _ => e, fun b h h' => absurd h h', fun _ h => .inl h⟩
theorem FrS.ofE (f : FrE H Hs H' Hs') : FrS env σ H Hs (OwnedAt env σ) H' Hs' := ⟨f.shar, f.view, fun b u e _ => f.same b u e, fun b h h' => .inl (f.new b h h'), fun _ h => .inl h⟩
theorem FrS.trans {o2 : Addr → Prop} (a : FrS env σ H Hs (OwnedAt env' σ') H' Hs') (b : FrS env' σ' H' Hs' o2 H2 Hs2) : FrS env σ H Hs o2 H2 Hs2 := by
  have back : ∀ c, H' c = none → H c = none ∨ OwnedAt env σ c := fun c h => by
    refine Classical.byContradiction fun hn => ?_
    cases e : H c with
    | none => exact hn (.inl e)
    | some u =>
      have := a.keep c u e (fun z => hn (.inr z))
      rw [h] at this; cases this
  refine ⟨Same.trans a.shar b.shar, b.view, fun c u e n => ?_, fun c h h' => ?_, fun c h => ?_⟩
  · refine b.keep c u (a.keep c u e n) fun z => ?_
    rcases a.own c z with z | z
    · exact n z
    · rw [e] at z; cases z
  · cases e : Hs' c with
    | some u => exact a.new c h (by rw [e]; simp)
    | none =>
      rcases b.new c e h' with z | z
      · exact back c z
      · exact (a.own c z).symm
  · rcases b.own c h with z | z
    · exact a.own c z
    · exact (back c z).symm
theorem FrS.own_mono {o1 o2 : Addr → Prop} (a : FrS env σ H Hs o1 H' Hs') (h : ∀ b, o2 b → o1 b) : FrS env σ H Hs o2 H' Hs' := ⟨a.shar, a.view, a.keep, a.new, fun b z => a.own b (h b z)⟩
theorem FrS.own_or {o1 o2 : Addr → Prop} (a : FrS env σ H Hs o1 H' Hs') (h : ∀ b, o2 b → o1 b ∨ H b = none) : FrS env σ H Hs o2 H' Hs' := ⟨a.shar, a.view, a.keep, a.new, fun b z => (h b z).elim (a.own b) .inr⟩
theorem FrS.kp (a : FrS env σ H Hs o1 H' Hs') (ok : EnvOk K env σ H Hs) : Kp Hs H H' := fun b u n e => a.keep b u e fun z => n (ok.owned z).2
theorem owned_set_un {i : Nat} {v : Option V} {b : Addr} (h : OwnedAt (env.set i .un) (σ.set i v) b) : OwnedAt env σ b := owned_set_no (fun z => by cases z) h
theorem owned_set_ow {i : Nat} {a : Addr} {d : PyData} {b : Addr} (h : OwnedAt (env.set i (.ow d)) (σ.set i (some (.ref a))) b) : OwnedAt env σ b ∨ b = a := owned_set_one h
theorem owned_set_sh' {i : Nat} {d : PyData} {b : Addr} (h : OwnedAt (env.set i (.sh d)) σ b) : OwnedAt env σ b := owned_set_at (fun z => by cases z) h
/-- what one name alone holds changes -/
theorem EnvOk.mutateG (ok : EnvOk K env σ H Hs) {i : Nat} {a : Addr} {x y : Sl} {o : HO} (h : env[i]? = some x) (ox : OwS x) (hs : σ[i]? = some (some (.ref a))) (n : Hs a = none) (hy : SlOk K Hs (upd H a o) y (some (.ref a))) :
    EnvOk K (env.set i y) σ (upd H a o) Hs ∧ FrS env σ H Hs (OwnedAt (env.set i y) σ) (upd H a o) Hs := by
  have hv : View Hs (upd H a o) := ⟨fun b w q => by
    have nb : b ≠ a := by
      rintro rfl
      rcases q with q | ⟨_, q⟩ <;> rw [n] at q <;> cases q
    have := ok.view.1 b w q
    unfold Rd at this ⊢
    rw [upd_ne nb]
    exact this, fun b ob xs q => by
    rw [upd_ne (ne_of_none q n)]
    exact ok.view.2 b ob xs q⟩
  have no : ¬ OwnedAt (env.set i .un) σ a := fun ⟨j, z, q1, q2, q3⟩ => by
    rw [set_get] at q1
    by_cases e : i = j
    · rw [if_pos e] at q1
      split at q1
      · cases q1
        exact q2
      · cases q1
    · rw [if_neg e] at q1
      exact ok.sep i j a x z e h q1 ox q2 hs q3
  have e0 : EnvOk K (env.set i .un) σ H Hs := ok.set_at i (x := .un) hs trivial fun _ z => z.elim
  have e1 : EnvOk K (env.set i .un) σ (upd H a o) Hs := e0.re (Same.refl _) hv fun b hb => ⟨by
    rw [upd_ne]
    rintro rfl
    exact no hb, (e0.owned hb).2⟩
  have e2 := e1.set_at i hs hy (fun b _ eb => by
    cases eb
    exact no)
  rw [List.set_set] at e2
  refine ⟨e2, Same.refl _, hv, fun b u e nb => ?_, fun b h1 h2 => absurd h1 h2, fun b hb => ?_⟩
  · rw [upd_ne]
    · exact e
    · rintro rfl
      exact nb ⟨i, x, h, ox, hs⟩
  · obtain ⟨j, z, h1, h2, h3⟩ := hb
    rw [set_get] at h1
    by_cases e : i = j
    · subst e
      exact .inl ⟨i, x, h, ox, h3⟩
    · rw [if_neg e] at h1
      exact .inl ⟨j, z, h1, h2, h3⟩
/-- a name's own list or dict changes -/
theorem EnvOk.mutate (ok : EnvOk K env σ H Hs) {i : Nat} {a : Addr} {d d' : PyData} {o : HO} (h : env[i]? = some (.ow d)) (hs : σ[i]? = some (some (.ref a))) (n : Hs a = none) (ho : HoIs K Hs o d') :
    EnvOk K (env.set i (.ow d')) σ (upd H a o) Hs ∧ FrS env σ H Hs (OwnedAt (env.set i (.ow d')) σ) (upd H a o) Hs :=
  ok.mutateG (y := .ow d') h trivial hs n ⟨a, rfl, n, o, upd_same, ho⟩
end
/-! ### readings -/
def RsS (K : PySem.W.Frag) (env : Ev) (σ : L2.St) (H Hs' H' : Hp) (v : V) (d : PyData) : Bool → Prop
  | false => Rp K Hs' v d
  | true => ∃ a, v = .ref a ∧ (H a = none ∨ OwnedAt env σ a) ∧ Own K Hs' H' a d
def toD (K : PySem.W.Frag) (env : Ev) (σ : L2.St) (H Hs : Hp) (D : Ends) : Out → Prop
  | .nx env' => ∀ σ' H' Hs', EnvOk K env' σ' H' Hs' → FrS env σ H Hs (OwnedAt env' σ') H' Hs' → D.nx σ' H'
  | .rt d b => ∀ v H' Hs', FrS env σ H Hs (fun _ => False) H' Hs' → RsS K env σ H Hs' H' v d b → D.rt v H'
theorem toD.step {K : PySem.W.Frag} {env env' : Ev} {σ σ' : L2.St} {H Hs H' Hs' : Hp} {D : Ends} {out : Out} (f : FrS env σ H Hs (OwnedAt env' σ') H' Hs') (h : toD K env σ H Hs D out) : toD K env' σ' H' Hs' D out := by
  cases out with
  | nx e2 => exact fun σ2 H2 Hs2 ok f2 => h σ2 H2 Hs2 ok (f.trans f2)
  | rt d b =>
    intro v H2 Hs2 f2 r
    refine h v H2 Hs2 (f.trans f2) ?_
    cases b with
    | false => exact r
    | true =>
      obtain ⟨a, e, h1, h2⟩ := r
      refine ⟨a, e, ?_, h2⟩
      rcases h1 with h1 | h1
      · refine Classical.byContradiction fun hn => ?_
        cases q : H a with
        | none => exact hn (.inl q)
        | some u =>
          have := f.keep a u q (fun z => hn (.inr z))
          rw [h1] at this; cases this
      · exact (f.own a h1).symm
section
variable (K : PySem.W.Frag) (Ph : Nat → List PyData → Option PyData) (fr : Nat → Bool)
def tS (s : S) : TS := fun D σ H => ∃ env Hs out, EnvOk K env σ H Hs ∧ exS Ph fr env s = some out ∧ toD K env σ H Hs D out
def tSs (s : Ss) : TS := fun D σ H => ∃ env Hs out, EnvOk K env σ H Hs ∧ exSs Ph fr env s = some out ∧ toD K env σ H Hs D out
end
section
variable {X : Cx} {Ph : Nat → List PyData → Option PyData} {fr : Nat → Bool}
theorem pss_nil' : PSs X [] (tSs X.K Ph fr .nil) := by
  refine PSs.mono pss_nil fun D σ H q => ?_
  obtain ⟨env, Hs, out, ok, ev, q⟩ := q
  rw [exSs] at ev
  cases ev
  exact q σ H Hs ok (FrS.refl ok)
theorem pss_cons' {st : Stmt} {rest : List Stmt} {s : S} {ss : Ss} (h1 : PS X st (tS X.K Ph fr s)) (h2 : PSs X rest (tSs X.K Ph fr ss)) : PSs X (st :: rest) (tSs X.K Ph fr (.cons s ss)) := by
  refine PSs.mono (pss_cons h1 h2) fun D σ H q => ?_
  obtain ⟨env, Hs, out, ok, ev, q⟩ := q
  rw [exSs] at ev
  split at ev
  · rename_i env' e1
    exact ⟨env, Hs, .nx env', ok, e1, fun σ' H' Hs' ok' f => ⟨env', Hs', out, ok', ev, toD.step f q⟩⟩
  · rename_i r hr
    refine ⟨env, Hs, out, ok, ev, ?_⟩
    cases out with
    | nx e => exact absurd ev (hr e)
    | rt d b => exact q
/-- a docstring -/
theorem pss_doc {rest : List Stmt} {ss : Ss} {x j p p'} (h2 : PSs X rest (tSs X.K Ph fr ss)) : PSs X (.Expr (.Constant (.str x) j p) p' :: rest) (tSs X.K Ph fr ss) := by
  exact PSs.mono (pss_cons ps_doc h2) fun D σ H q => q
theorem pss_shr {rest : List Stmt} {ss : Ss} {i : Nat} (h2 : PSs X rest (tSs X.K Ph fr ss)) : PSs X rest (tSs X.K Ph fr (.cons (.shr i) ss)) := by
  refine PSs.mono h2 fun D σ H q => ?_
  obtain ⟨env, Hs, out, ok, ev, q⟩ := q
  rw [exSs, exS] at ev
  rcases hcase : env[i]? with _ | (_ | d | d | d)
  · rw [hcase] at ev; cases ev
  · rw [hcase] at ev; cases ev
  · rw [hcase] at ev
    exact ⟨env, Hs, out, ok, ev, q⟩
  · rw [hcase] at ev
    obtain ⟨Hs', s, ok', nw⟩ := ok.share hcase
    refine ⟨_, Hs', out, ok', ev, toD.step ⟨s, ok'.view, fun b u e _ => e, fun b h h' => .inr (nw b h h'), fun b hb => .inl (owned_set_sh' hb)⟩ q⟩
  · rw [hcase] at ev; cases ev
/-- name = value -/
theorem asg_run {K : PySem.W.Frag} {i : Nat} {e : E} {D : Ends} {σ : L2.St} {H : Hp} (q : tS K Ph fr (.asg i e) D σ H) : tAsg (tE K Ph (frs fr e) e) (gName i) D σ H := by
  obtain ⟨env, Hs, out, ok, ev, q⟩ := q
  rw [exS] at ev
  split at ev
  · rename_i d e1
    cases ev
    refine ⟨env, Hs, d, ok, e1, fun v H' Hs' f r => ?_⟩
    have okf := ok.fr f
    revert q r
    cases frs fr e with
    | false =>
      intro q r
      exact q (σ.set i (some v)) H' Hs' (okf.set_sh i r) ((FrS.ofE f).own_mono fun b h => owned_set h)
    | true =>
      intro q r
      obtain ⟨a, rfl, n, o⟩ := r
      refine q (σ.set i (some (.ref a))) H' Hs' (okf.set_ow i o ?_) ((FrS.ofE f).own_or fun b h => ?_)
      · intro z
        exact (ok.owned z).1 n
      · rcases owned_set_ow h with z | z
        · exact .inl z
        · exact .inr (by rw [z]; exact n)
  · cases ev
theorem ps_asg' {i : Nat} {x : Str} {e : Expr} {ir : E} {pos' pos : Pos} (hN : X.N.Nodup) (hi : X.N[i]? = some x) (hx : Loc X.env.scope x) (hf : X.fn x = true ∨ X.env.scope.names.lookup x = some .local) (he : PE X e (tE X.K Ph (frs fr ir) ir)) (hs : swapsWith e (some (.Name x pos')) pos.line X.env = pure false) :
    PS X (.Assign [.Name x pos'] e pos) (tS X.K Ph fr (.asg i ir)) := PS.mono (ps_set hN hi hx he hs hf) fun D σ H q => asg_run q
theorem ps_unp {tg e : Expr} {t : Tg} {ir : E} {pos : Pos} (he : PE X e (tE X.K Ph false ir)) (hg : PG X tg (gT X.K t)) (hs : swapsWithSole [tg] e pos.line X.env = pure false) (hw : swappedStores [tg] e X.env = pure none) (h1 : (assignEach [tg] X.env).map (·.2) = [assign tg X.env]) :
    PS X (.Assign [tg] e pos) (tS X.K Ph fr (.unp t ir)) := by
  refine PS.mono (ps_asg he hg hs hw h1) fun D σ H q => ?_
  obtain ⟨env, Hs, out, ok, ev, q⟩ := q
  rw [exS] at ev
  split at ev
  · rename_i d e1
    obtain ⟨env', e2, rfl⟩ := Option.map_eq_some_iff.mp ev
    refine ⟨env, Hs, d, ok, e1, fun v H' Hs' f r => ⟨env, Hs', d, env', ok.fr f, r, e2, fun σ' ok' _ ow => q σ' H' Hs' ok' ((FrS.ofE f).own_mono ow)⟩⟩
  · cases ev
theorem ps_ret' {e : Expr} {ir : E} {pos : Pos} (he : PE X e (tE X.K Ph (frs fr ir) ir)) : PS X (.Return (some e) pos) (tS X.K Ph fr (.ret ir)) := by
  refine PS.mono (ps_ret he) fun D σ H q => ?_
  obtain ⟨env, Hs, out, ok, ev, q⟩ := q
  rw [exS] at ev
  split at ev
  · rename_i d e1
    cases ev
    refine ⟨env, Hs, d, ok, e1, fun v H' Hs' f r => q v H' Hs' ((FrS.ofE (env := env) (σ := σ) f).own_mono fun b h => h.elim) ?_⟩
    revert r
    cases frs fr ir with
    | false => exact fun r => r
    | true => exact fun ⟨a, h1, h2, h3⟩ => ⟨a, h1, .inl h2, h3⟩
  · cases ev
theorem ps_rto {i : Nat} {x : Str} {p pos : Pos} (hN : X.N[i]? = some x) (hv : Vis X.env.scope x) (hd : (x == ("__debug__" : Str)) = false) (hcd : (x == ("__classdict__" : Str)) = false) : PS X (.Return (some (.Name x p)) pos) (tS X.K Ph fr (.rto i)) := by
  refine PS.mono (ps_ret (pe_var hN hv hd hcd)) fun D σ H q => ?_
  obtain ⟨env, Hs, out, ok, ev, q⟩ := q
  rw [exS] at ev
  split at ev
  · rename_i d e1
    cases ev
    obtain ⟨a, h1, h2⟩ := ok.ow i d e1
    exact ⟨_, h1, q _ H Hs ((FrS.refl ok).own_mono fun b h => h.elim) ⟨a, rfl, .inr ⟨i, .ow d, e1, trivial, h1⟩, h2⟩⟩
  · cases ev
theorem ps_ife {c : Expr} {a b : List Stmt} {ci : E} {ai bi : Ss} {pos : Pos} (hc : PT X c (tT X.K Ph ci)) (ha : PSs X a (tSs X.K Ph fr ai)) (hb : PSs X b (tSs X.K Ph fr bi)) : PS X (.If c a b pos) (tS X.K Ph fr (.ife ci ai bi)) := by
  refine PS.mono (ps_if hc ha hb) fun D σ H q => ?_
  obtain ⟨env, Hs, out, ok, ev, q⟩ := q
  rw [exS] at ev
  split at ev
  · rename_i e1
    exact ⟨env, Hs, true, ok, e1, fun H' Hs' f => iteT ⟨env, Hs', out, ok.fr f, ev, toD.step (FrS.ofE f) q⟩⟩
  · rename_i e1
    exact ⟨env, Hs, false, ok, e1, fun H' Hs' f => iteF ⟨env, Hs', out, ok.fr f, ev, toD.step (FrS.ofE f) q⟩⟩
  · cases ev
theorem ps_whl {c : Expr} {body : List Stmt} {ci : E} {bi : Ss} {pos : Pos} (hp : PassesOwn (model X.prog X.w) X.A X.env X.xe) (hc : PT X c (tT X.K Ph ci)) (hb : PSs X body (tSs X.K Ph fr bi)) : PS X (.While c body [] pos) (tS X.K Ph fr (.whl ci bi)) := by
  refine PS.mono (ps_while hp hc hb) fun D σ H q => ?_
  obtain ⟨env, Hs, out, ok, ev, q⟩ := q
  rw [exS] at ev
  generalize wfuel = n at ev
  refine ⟨fun m σ H => ∃ env Hs, EnvOk X.K env σ H Hs ∧ loopW (fun env => evE Ph env ci) (fun env => exSs Ph fr env bi) m env = some out ∧ toD X.K env σ H Hs D out, ⟨n, env, Hs, ok, ev, q⟩, fun m σ H hW => ?_⟩
  obtain ⟨env, Hs, ok, ev, q⟩ := hW
  cases m with
  | zero => rw [loopW] at ev; cases ev
  | succ m =>
    rw [loopW] at ev
    split at ev
    · rename_i e1
      refine ⟨env, Hs, true, ok, e1, fun H' Hs' f => iteT ?_⟩
      refine ⟨fun σ H => ∃ env Hs, EnvOk X.K env σ H Hs ∧ loopW (fun env => evE Ph env ci) (fun env => exSs Ph fr env bi) m env = some out ∧ toD X.K env σ H Hs D out, fun σ' H' h => ⟨m, Nat.lt_succ_self m, h⟩, ?_⟩
      have q' := toD.step (FrS.ofE f) q
      split at ev
      · rename_i env' e2
        exact ⟨env, Hs', .nx env', ok.fr f, e2, fun σ2 H2 Hs2 ok2 f2 => ⟨env', Hs2, ok2, ev, toD.step f2 q'⟩⟩
      · rename_i r hr
        refine ⟨env, Hs', out, ok.fr f, ev, ?_⟩
        cases out with
        | nx e => exact absurd ev (hr e)
        | rt d b => exact q'
    · rename_i e1
      cases ev
      exact ⟨env, Hs, false, ok, e1, fun H' Hs' f => iteF (q σ H' Hs' (ok.fr f) (FrS.ofE f))⟩
    · cases ev
/-- for, the walked dict locked -/
def tSz (K : PySem.W.Frag) (Ph : Nat → List PyData → Option PyData) (fr : Nat → Bool) (it : I) (s : S) : TS := fun D σ H => ∃ env Hs out, EnvOk K env σ H Hs ∧ exS Ph fr env s = some out ∧ Fz env σ H it ∧ toD K env σ H Hs D out
theorem for_run {K : PySem.W.Frag} {t : Tg} {it : I} {bi : Ss} {D : Ends} {σ : L2.St} {H : Hp} (q : tSz K Ph fr it (.for t it bi) D σ H) : tFor (tI K Ph it) (gT K t) (tSs K Ph fr bi) D σ H := by
  obtain ⟨env, Hs, out, ok, ev, fz, q⟩ := q
  rw [exS] at ev
  split at ev
  · rename_i ds e1
    refine ⟨env, Hs, ds, ok, e1, fz, fun J H1 Hs1 f1 wk => ?_⟩
    have q1 := toD.step (FrS.ofE f1) q
    have ok1 := ok.fr f1
    refine ⟨fun i m σc Hc => m = ds.length - i ∧ i ≤ ds.length ∧ ∃ envc Hsc, EnvOk K envc σc Hc Hsc ∧ FrS env σ H1 Hs1 (OwnedAt envc σc) Hc Hsc ∧ loopF t (fun env => exSs Ph fr env bi) (ds.drop i) envc = some out, ⟨ds.length, rfl, Nat.zero_le _, env, Hs1, ok1, FrS.refl ok1, by simpa using ev⟩, fun i m σc Hc hW => ?_⟩
    obtain ⟨rfl, hi, envc, Hsc, okc, fc, ec⟩ := hW
    have kp := fc.kp ok1
    by_cases hlt : i < ds.length
    · refine .inr ⟨wk.go Hc Hsc i fc.shar fc.view kp hlt, fun σn Hn => ∃ envc Hsc, EnvOk K envc σn Hn Hsc ∧ FrS env σ H1 Hs1 (OwnedAt envc σn) Hn Hsc ∧ loopF t (fun env => exSs Ph fr env bi) (ds.drop (i + 1)) envc = some out, fun σn Hn hn => ?_, fun x Hy hy => ?_⟩
      · obtain ⟨a1, a2, hh⟩ := hn
        exact ⟨ds.length - (i + 1), by omega, rfl, by omega, a1, a2, hh⟩
      · have ed : ds.drop i = ds[i] :: ds.drop (i + 1) := List.drop_eq_getElem_cons hlt
        rw [ed, loopF] at ec
        obtain ⟨Hsy, fy, ry⟩ := wk.yl Hc Hsc i ds[i] x Hy fc.shar fc.view kp (List.getElem?_eq_getElem hlt) hy
        have okw := okc.fr fy
        split at ec
        · rename_i env1 eb
          refine ⟨envc, Hsy, ds[i], env1, okw, ry, eb, fun σ2 ok2 w2 ow2 => ?_⟩
          have f2 : FrS env σ H1 Hs1 (OwnedAt env1 σ2) Hy Hsy := (fc.trans (FrS.ofE fy)).own_mono ow2
          split at ec
          · rename_i env2 e2
            exact ⟨env1, Hsy, .nx env2, ok2, e2, fun σ3 H3 Hs3 ok3 f3 => ⟨env2, Hs3, ok3, f2.trans f3, ec⟩⟩
          · rename_i r hr
            refine ⟨env1, Hsy, out, ok2, ec, ?_⟩
            have q2 := toD.step f2 q1
            cases out with
            | nx e => exact absurd ec (hr e)
            | rt d b => exact q2
        · cases ec
    · refine .inl ⟨wk.st Hc Hsc i fc.shar fc.view kp (by omega), ?_⟩
      have e0 : ds.drop i = [] := List.drop_eq_nil_of_le (by omega)
      rw [e0, loopF] at ec
      cases ec
      exact q1 σc Hc Hsc okc fc
  · cases ev
theorem FrS.unlock {env : Ev} {σ : L2.St} {H Hs H' Hs' : Hp} {o2 : Addr → Prop} {a : Addr} {u : HO} {od : Obj} (e : H a = some u) (nf : ¬ Frzn u) (hno : ¬ OwnedAt env σ a) (f : FrS env σ (upd H a (.frz od u)) Hs o2 H' Hs') (hs : Hs a = some u) : H' a = some (.frz od u) ∧ FrS env σ H Hs o2 (upd H' a u) Hs' := by
  have e1 : H' a = some (.frz od u) := f.keep _ _ upd_same hno
  refine ⟨e1, f.shar, ⟨fun b w q => ?_, fun b ob xs q => ?_⟩, fun b w q n => ?_, fun b h1 h2 => ?_, fun b hb => ?_⟩
  · have := f.view.1 b w q
    by_cases z : b = a
    · subst z
      rcases this with t | ⟨o, t⟩
      · rw [e1] at t; cases t
        have h1 := f.shar b u hs
        rcases q with q | ⟨o', q⟩ <;> rw [h1] at q <;> cases q
      · rw [e1] at t; cases t
        exact .inl upd_same
    · unfold Rd at this ⊢
      rw [upd_ne z]
      exact this
  · have z : b ≠ a := by
      rintro rfl
      rw [f.shar b u hs] at q; cases q
      exact (nf trivial).elim
    rw [upd_ne z]
    exact f.view.2 b ob xs q
  · by_cases z : b = a
    · subst z
      rw [e] at q; cases q
      exact upd_same
    · rw [upd_ne z]
      exact f.keep b w (by rw [upd_ne z]; exact q) n
  · rcases f.new b h1 h2 with h3 | h3
    · by_cases z : b = a
      · subst z; rw [hs] at h1; cases h1
      · rw [upd_ne z] at h3
        exact .inl h3
    · exact .inr h3
  · rcases f.own b hb with h3 | h3
    · exact .inl h3
    · by_cases z : b = a
      · subst z; rw [upd_same] at h3; cases h3
      · rw [upd_ne z] at h3
        exact .inr h3
/-- the lock is taken, and taken off behind -/
theorem tLock_run {K : PySem.W.Frag} {it : I} {s : S} {D : Ends} {σ : L2.St} {H : Hp} (q : tS K Ph fr s D σ H) : tSz K Ph fr it s D σ H ∨ tLock (tSz K Ph fr it s) D σ H := by
  obtain ⟨env, Hs, out, ok, ev, q⟩ := q
  rcases fz_or ok it with fz | ⟨a, kvs, h1, h2, fz⟩
  · exact .inl ⟨env, Hs, out, ok, ev, fz, q⟩
  · refine .inr ⟨a, .dK kvs, h1, trivial, fun od => ⟨env, Hs, out, ok.lock h1 (fun z => z) (by rw [h2]; simp), ev, fz od, ?_⟩⟩
    have hno : ¬ OwnedAt env σ a := fun z => by have := (ok.owned z).2; rw [h2] at this; cases this
    cases out with
    | nx env' =>
      intro σ' H' Hs' ok' f
      obtain ⟨e1, f1⟩ := FrS.unlock h1 (fun z => z) hno f h2
      refine ⟨e1, q σ' _ Hs' (ok'.re (Same.refl _) f1.view fun b hb => ?_) f1⟩
      have g2 := (ok'.owned hb).2
      refine ⟨?_, g2⟩
      rw [upd_ne]
      rintro rfl
      rw [f.shar _ _ h2] at g2; cases g2
    | rt d b =>
      intro v H' Hs' f r
      obtain ⟨e1, f1⟩ := FrS.unlock h1 (fun z => z) hno f h2
      refine ⟨e1, q v _ Hs' f1 ?_⟩
      cases b with
      | false => exact r
      | true =>
        obtain ⟨p, e, n, o⟩ := r
        have ne : p ≠ a := fun z => by
          have := o.1
          rw [z, f.shar _ _ h2] at this; cases this
        refine ⟨p, e, ?_, o.frame ne⟩
        rcases n with n | n
        · rw [upd_ne ne] at n; exact .inl n
        · exact .inr n
theorem ps_unz {st : Stmt} {it : I} {s : S} (h : PS X st (tSz X.K Ph fr it s)) : PS X st (tS X.K Ph fr s) := PS.mono (PS.or h (ps_lock h)) fun D σ H q => tLock_run q
theorem ps_for' {tg iter : Expr} {body : List Stmt} {t : Tg} {it : I} {bi : Ss} {pos : Pos} (hp : PassesOwn (model X.prog X.w) X.A X.env X.xe) (hc : X.calm = true) (hi : PI X tg iter (tI X.K Ph it)) (hg : PG X tg (gT X.K t)) (hb : PSs X body (tSs X.K Ph fr bi)) (hs : ∀ x, foldedSetIterable iter X.env x = pure x) :
    PS X (.For tg iter body [] pos) (tS X.K Ph fr (.for t it bi)) := ps_unz (it := it) (PS.mono (ps_for hp hc hi hg hb hs) fun D σ H q => for_run q)
end
end Wr
end

section
set_option Elab.async false
set_option linter.all false
set_option maxRecDepth 100000
set_option maxHeartbeats 4000000
/-! WrL: statements that change things; two fors as a value; assignments of comprehensions. -/
namespace Wr
open PySem PySem.Spec PyProof.Rows L2
variable [Wld]
section
variable {K : PySem.W.Frag} {env : Ev} {σ : L2.St} {H0 H Hs H' Hs' : Hp}
theorem EnvOk.put {b : Bool} {v : V} {d : PyData} (ok : EnvOk K env σ H Hs) (r : Rs K H0 Hs H v d b) (nb : b = true → ∀ a, v = .ref a → ¬ OwnedAt env σ a) (i : Nat) :
    EnvOk K (env.set i (if b = true then .ow d else .sh d)) (σ.set i (some v)) H Hs ∧ ∀ c, OwnedAt (env.set i (if b = true then .ow d else .sh d)) (σ.set i (some v)) c → OwnedAt env σ c ∨ (b = true ∧ v = .ref c) := by
  cases b with
  | false => exact ⟨ok.set_sh i r, fun c h => .inl (owned_set h)⟩
  | true =>
    obtain ⟨a, rfl, n, o⟩ := r
    refine ⟨ok.set_ow i o (nb rfl a rfl), fun c h => ?_⟩
    rcases owned_set_ow h with z | z
    · exact .inl z
    · exact .inr ⟨rfl, by rw [z]⟩
theorem Rs.fr {b : Bool} {v : V} {d : PyData} (f : FrE H Hs H' Hs') (r : Rs K H0 Hs H v d b) : Rs K H0 Hs' H' v d b := by
  cases b with
  | false => exact f.rp r
  | true =>
    obtain ⟨a, e, n, o⟩ := r
    exact ⟨a, e, n, f.own o⟩
end
section
variable {X : Cx} {Ph : Nat → List PyData → Option PyData} {fr : Nat → Bool}
theorem par_run {K : PySem.W.Frag} {i j : Nat} {e1 e2 : E} {D : Ends} {σ : L2.St} {H : Hp}
    (q : tS K Ph fr (.par [i, j] (.cons e1 (.cons e2 .nil))) D σ H) : ∃ env Hs d1 d2, EnvOk K env σ H Hs ∧ evE Ph env e1 = some d1 ∧ evE Ph env e2 = some d2 ∧
      ∀ v1 H1 Hs1, FrE H Hs H1 Hs1 → Rs K H Hs1 H1 v1 d1 (frs fr e1) → ∀ v2 H2 Hs2, FrE H1 Hs1 H2 Hs2 → Rs K H1 Hs2 H2 v2 d2 (frs fr e2) → ∀ H3, FrE H2 Hs2 H3 Hs2 → D.nx ((σ.set i (some v1)).set j (some v2)) H3 := by
  obtain ⟨env, Hs, out, ok, ev, q⟩ := q
  rw [exS] at ev
  split at ev
  · rename_i ds e0
    rw [evEs] at e0
    split at e0
    · rename_i d1 h1
      rw [evEs] at e0
      split at e0
      · rename_i ds' h2
        split at h2
        · rename_i d2 h3
          rw [evEs] at h2
          cases h2
          cases e0
          obtain ⟨env', h4, rfl⟩ := Option.map_eq_some_iff.mp ev
          rw [setAll, setAll, setAll] at h4
          cases h4
          refine ⟨env, Hs, d1, d2, ok, h1, h3, fun v1 H1 Hs1 f1 r1 v2 H2 Hs2 f2 r2 H3 f3 => ?_⟩
          have f12 := f1.trans f2
          have f13 := f12.trans f3
          have r1' := r1.fr (f2.trans f3)
          have r2' := r2.fr f3
          obtain ⟨ok1, w1⟩ := (ok.fr f13).put r1' (fun hb a ha z => by
            subst ha
            rw [hb] at r1
            obtain ⟨a', e, n, _⟩ := r1
            cases e
            exact (ok.owned z).1 n) i
          obtain ⟨ok2, w2⟩ := ok1.put r2' (fun hb a ha z => by
            subst ha
            rw [hb] at r2
            obtain ⟨a', e, n, _⟩ := r2
            cases e
            rcases w1 _ z with z | ⟨hb1, z⟩
            · exact ((ok.fr f1).owned z).1 n
            · rw [hb1] at r1
              obtain ⟨a', e, _, _, _, h, _⟩ := r1
              rw [z] at e
              cases e
              rw [h] at n; cases n) j
          refine q _ H3 Hs2 ok2 ((FrS.ofE f13).own_or fun c h => ?_)
          rcases w2 _ h with z | ⟨hb, z⟩
          · rcases w1 _ z with z | ⟨hb, z⟩
            · exact .inl z
            · rw [hb] at r1
              obtain ⟨a', e, n, _⟩ := r1
              rw [z] at e; cases e
              exact .inr n
          · rw [hb] at r2
            obtain ⟨a', e, n, _⟩ := r2
            rw [z] at e; cases e
            exact .inr (f1.same.free n)
        · cases h2
      · cases e0
    · cases e0
  · cases ev
theorem ps_par' {i j : Nat} {x y : Str} {a b : Expr} {e1 e2 : E} {px py pt pos : Pos} {kt k2 pt2} (hc : X.calm = true) (hN : X.N.Nodup) (hi : X.N[i]? = some x) (hj : X.N[j]? = some y) (hij : i ≠ j)
    (hx : X.env.scope.names.lookup x = some .local) (hy : X.env.scope.names.lookup y = some .local) (ha : PE X a (tE X.K Ph (frs fr e1) e1)) (hb : PE X b (tE X.K Ph (frs fr e2) e2))
    (s1 : starEach [a, b] X.env = (false, eval a X.env) :: starEach [b] X.env) (s2 : starEach [b] X.env = (false, eval b X.env) :: starEach [] X.env)
    (hw : swappedStores [.Tuple [.Name x px, .Name y py] kt pt] (.Tuple [a, b] k2 pt2) X.env = pure (some [x, y]))
    (hs : swapsWithSole [.Tuple [.Name x px, .Name y py] kt pt] (.Tuple [a, b] k2 pt2) pos.line X.env = pure false) :
    PS X (.Assign [.Tuple [.Name x px, .Name y py] kt pt] (.Tuple [a, b] k2 pt2) pos) (tS X.K Ph fr (.par [i, j] (.cons e1 (.cons e2 .nil)))) := by
  refine PS.mono (ps_par hc hN hi hj hij hx hy (pa_cons ha (pa_cons hb pa_nil s2) s1) hw hs) fun D σ H q => ?_
  obtain ⟨env, Hs, d1, d2, ok, h1, h2, q⟩ := par_run q
  exact ⟨env, Hs, d1, ok, h1, fun v1 H1 Hs1 f1 r1 => ⟨env, Hs1, d2, ok.fr f1, h2, fun v2 H2 Hs2 f2 r2 => ⟨v1, v2, rfl, q v1 H1 Hs1 f1 r1 v2 H2 Hs2 f2 r2 H2 (FrE.refl f2.view)⟩⟩⟩
/-- .. where a name is a cell: by a tuple -/
theorem ps_parT {i j : Nat} {x y : Str} {a b : Expr} {e1 e2 : E} {px py pt pos : Pos} {kt k2 pt2} (hc : X.calm = true) (hN : X.N.Nodup) (hi : X.N[i]? = some x) (hj : X.N[j]? = some y)
    (hx : Loc X.env.scope x) (hxf : X.fn x = true ∨ X.env.scope.names.lookup x = some .local) (hy : Loc X.env.scope y) (hyf : X.fn y = true ∨ X.env.scope.names.lookup y = some .local) (ha : PE X a (tE X.K Ph (frs fr e1) e1)) (hb : PE X b (tE X.K Ph (frs fr e2) e2))
    (s1 : starEach [a, b] X.env = (false, eval a X.env) :: starEach [b] X.env) (s2 : starEach [b] X.env = (false, eval b X.env) :: starEach [] X.env)
    (hw : swappedStores [.Tuple [.Name x px, .Name y py] kt pt] (.Tuple [a, b] k2 pt2) X.env = pure none)
    (hs : swapsWithSole [.Tuple [.Name x px, .Name y py] kt pt] (.Tuple [a, b] k2 pt2) pos.line X.env = pure false) (h1 : (assignEach [.Tuple [.Name x px, .Name y py] kt pt] X.env).map (·.2) = [assign (.Tuple [.Name x px, .Name y py] kt pt) X.env])
    (g1 : (assignEach [.Name x px, .Name y py] X.env).map (·.2) = assign (.Name x px) X.env :: (assignEach [.Name y py] X.env).map (·.2)) (g2 : (assignEach [.Name y py] X.env).map (·.2) = assign (.Name y py) X.env :: (assignEach [] X.env).map (·.2))
    (hst : (assignEach [.Name x px, .Name y py] X.env).findIdx? (·.1) = none) (hl : (assignEach [.Name x px, .Name y py] X.env).length = 2) :
    PS X (.Assign [.Tuple [.Name x px, .Name y py] kt pt] (.Tuple [a, b] k2 pt2) pos) (tS X.K Ph fr (.par [i, j] (.cons e1 (.cons e2 .nil)))) := by
  refine PS.mono (ps_asg (pe_tup (pa_cons ha (pa_cons hb pa_nil s2) s1)) (pg_tup hc (pgs_cons (pg_name hN hi hx hxf) (pgs_cons (pg_name hN hj hy hyf) pgs_nil g2) g1) rfl hst) hs hw h1) fun D σ H q => ?_
  obtain ⟨env, Hs, d1, d2, ok, h1, h2, q⟩ := par_run q
  refine ⟨env, Hs, d1, ok, h1, fun v1 H1 Hs1 f1 r1 => ⟨env, Hs1, d2, ok.fr f1, h2, fun v2 H2 Hs2 f2 r2 => ⟨by show 2 ≤ sizeLine; decide, fun p hp => ?_⟩⟩⟩
  exact ⟨p, [v1, v2], rfl, SqT.of upd_same, by rw [hl]; rfl, v1, [v2], rfl, v2, [], rfl, rfl, q v1 H1 Hs1 f1 r1 v2 H2 Hs2 f2 r2 _ (FrE.alloc f2.view hp)⟩
/-! changes -/
theorem own_list {K : PySem.W.Frag} {Hs H : Hp} {a : Addr} {ds : List PyData} (h : Own K Hs H a (.list ds)) : ∃ xs, H a = some (.lst xs) ∧ RpAll K Hs xs ds ∧ Hs a = none := by
  obtain ⟨n, o, h1, h2⟩ := h
  cases o <;> first | exact ⟨_, h1, h2, n⟩ | exact h2.elim
theorem own_dict {K : PySem.W.Frag} {Hs H : Hp} {a : Addr} {ds : List (PyData × PyData)} (h : Own K Hs H a (.dict ds)) : ∃ xs, H a = some (.dK xs) ∧ RpKV K Hs xs ds ∧ Hs a = none := by
  obtain ⟨n, o, h1, h2⟩ := h
  cases o <;> first | exact ⟨_, h1, h2, n⟩ | exact h2.elim
theorem ps_app {i : Nat} {x : Str} {e : Expr} {ir : E} {p apos cpos pos : Pos} (hN : X.N[i]? = some x) (hv : Vis X.env.scope x) (hd : (x == ("__debug__" : Str)) = false) (hcd : (x == ("__classdict__" : Str)) = false) (he : PE X e (tE X.K Ph false ir))
    (hbase : attributeBase (.Name x p) "append" X.env (eval (.Name x p) X.env) = eval (.Name x p) X.env)
    (hfew : ((backTo cpos (starEach [e] X.env)).all (fun x => !x.1) && (backToKw cpos (keywordEach [] X.env)).all (fun x => x.1.isSome) && decide (([e] : List Expr).length + ([] : List Keyword).length + (if ([] : List Keyword).isEmpty then 0 else 1) < 30)) = true)
    (hline : (apos.endLine == cpos.line) = true) (hs : starEach [e] X.env = (false, eval e X.env) :: starEach [] X.env) (hplain : (backTo cpos (starEach [] X.env)).any (·.1) = false) (hsw : swapsWith (.Call (.Attribute (.Name x p) "append" apos) [e] [] cpos) none pos.line X.env = pure false) :
    PS X (.Expr (.Call (.Attribute (.Name x p) "append" apos) [e] [] cpos) pos) (tS X.K Ph fr (.app i ir)) := by
  refine PS.mono (ps_expr (pe_bm PySem.F.plainAttrs_list PySem.F.slot_list_append PySem.F.type_list_append mt_append (pe_var hN hv hd hcd) (pa_cons he pa_nil hs) hbase hfew hline hs hplain) hsw) fun D σ H q => ?_
  obtain ⟨env, Hs, out, ok, ev, q⟩ := q
  rw [exS] at ev
  split at ev
  · rename_i y e1
    split at ev
    · rename_i d e2
      obtain ⟨d', e3, rfl⟩ := Option.map_eq_some_iff.mp ev
      cases d <;> simp only [appD] at e3 <;> try cases e3
      rename_i ds
      split at e3
      · rename_i hlim
        cases e3
        obtain ⟨a, h1, h2⟩ := ok.ow i _ e2
        obtain ⟨xs, hx, _, _⟩ := own_list h2
        refine ⟨_, h1, .inl ⟨rfl, xs, SqL.of hx⟩, env, Hs, y, ok, e1, fun v H1 Hs1 f1 r1 => ?_⟩
        obtain ⟨xs1, hx1, ra, hn⟩ := own_list (f1.own h2)
        have := lim_line
        have lx : lim < sizeLine := by decide
        refine ⟨a, xs1, v, rfl, rfl, hx1, by rw [ra.length]; omega, ?_⟩
        obtain ⟨ok2, f2⟩ := (ok.fr f1).mutate (o := .lst (xs1 ++ [v])) (d' := .list (ds ++ [y])) e2 h1 hn (ra.append (.cons r1 .nil))
        exact q σ _ Hs1 ok2 ((FrS.ofE f1).trans f2)
      · cases e3
    · cases ev
  · cases ev
theorem eraseIdx_map' {α β : Type} (f : α → β) : ∀ (l : List α) (j : Nat), (l.map f).eraseIdx j = (l.eraseIdx j).map f
  | [], _ => rfl
  | _ :: _, 0 => rfl
  | a :: l, j + 1 => by simp [eraseIdx_map' f l j]
theorem set_self {α : Type} : ∀ {l : List α} {i : Nat} {x : α}, l[i]? = some x → l.set i x = l
  | [], _, _, h => by simp at h
  | a :: l, 0, x, h => by simp at h; subst h; rfl
  | a :: l, i + 1, x, h => by simp at h ⊢; exact set_self h
theorem eraseD_at : ∀ {ns : List Int} {k : Int} {out : List PyData}, eraseD (.int k) (ns.map .int) = some out → ∃ j, ns[j]? = some k ∧ (∀ m : Nat, m < j → ns[m]? ≠ some k) ∧ out = (ns.eraseIdx j).map .int
  | [], _, _, h => by simp [eraseD] at h
  | n :: ns, k, out, h => by
    rw [List.map_cons, eraseD] at h
    split at h
    · rename_i he
      cases h
      have : n = k := by simpa [PyData.eqv] using he
      subst this
      exact ⟨0, rfl, fun m hm => by omega, rfl⟩
    · rename_i he
      obtain ⟨r, h1, rfl⟩ := Option.map_eq_some_iff.mp h
      obtain ⟨j, g1, g2, g3⟩ := eraseD_at h1
      refine ⟨j + 1, by simpa using g1, fun m hm => ?_, by rw [g3]; rfl⟩
      cases m with
      | zero =>
        intro z
        simp at z
        subst z
        exact he (by simp [PyData.eqv])
      | succ m => simpa using g2 m (by omega)
theorem ps_rmv {i : Nat} {x : Str} {e : Expr} {ir : E} {p apos cpos pos : Pos} (hN : X.N[i]? = some x) (hv : Vis X.env.scope x) (hd : (x == ("__debug__" : Str)) = false) (hcd : (x == ("__classdict__" : Str)) = false) (he : PE X e (tE X.K Ph false ir))
    (hbase : attributeBase (.Name x p) "remove" X.env (eval (.Name x p) X.env) = eval (.Name x p) X.env)
    (hfew : ((backTo cpos (starEach [e] X.env)).all (fun x => !x.1) && (backToKw cpos (keywordEach [] X.env)).all (fun x => x.1.isSome) && decide (([e] : List Expr).length + ([] : List Keyword).length + (if ([] : List Keyword).isEmpty then 0 else 1) < 30)) = true)
    (hline : (apos.endLine == cpos.line) = true) (hs : starEach [e] X.env = (false, eval e X.env) :: starEach [] X.env) (hplain : (backTo cpos (starEach [] X.env)).any (·.1) = false) (hsw : swapsWith (.Call (.Attribute (.Name x p) "remove" apos) [e] [] cpos) none pos.line X.env = pure false) :
    PS X (.Expr (.Call (.Attribute (.Name x p) "remove" apos) [e] [] cpos) pos) (tS X.K Ph fr (.rmv i ir)) := by
  refine PS.mono (ps_expr (pe_bm PySem.F.plainAttrs_list PySem.F.slot_list_remove PySem.F.type_list_remove mt_remove (pe_var hN hv hd hcd) (pa_cons he pa_nil hs) hbase hfew hline hs hplain) hsw) fun D σ H q => ?_
  obtain ⟨env, Hs, out, ok, ev, q⟩ := q
  rw [exS] at ev
  split at ev
  · rename_i y e1
    split at ev
    · rename_i d e2
      obtain ⟨d', e3, rfl⟩ := Option.map_eq_some_iff.mp ev
      cases d <;> cases y <;> simp only [rmvD] at e3 <;> try cases e3
      rename_i ds k
      split at e3
      · rename_i is his
        obtain ⟨out, e4, rfl⟩ := Option.map_eq_some_iff.mp e3
        obtain ⟨a, h1, h2⟩ := ok.ow i _ e2
        obtain ⟨xs, hx, _, _⟩ := own_list h2
        refine ⟨_, h1, .inl ⟨rfl, xs, SqL.of hx⟩, env, Hs, _, ok, e1, fun v H1 Hs1 f1 r1 => ?_⟩
        obtain ⟨xs1, hx1, ra, hn⟩ := own_list (f1.own h2)
        obtain ⟨g1, g2⟩ := ra.ints his
        cases r1
        subst g1 g2
        obtain ⟨j, j1, j2, rfl⟩ := eraseD_at e4
        refine ⟨a, is, k, j, rfl, rfl, hx1, j1, j2, ?_⟩
        have ra2 := ra.eraseIdx j
        rw [eraseIdx_map', eraseIdx_map'] at ra2
        obtain ⟨ok2, f2⟩ := (ok.fr f1).mutate (o := .lst ((is.eraseIdx j).map V.int)) (d' := .list ((is.eraseIdx j).map .int)) e2 h1 hn ra2
        exact q σ _ Hs1 ok2 ((FrS.ofE f1).trans f2)
      · cases e3
    · cases ev
  · cases ev
theorem ps_sixL {i : Nat} {x : Str} {k e : Expr} {ki vi : E} {p spos pos : Pos} (hN : X.N[i]? = some x) (hv : Vis X.env.scope x) (hd : (x == ("__debug__" : Str)) = false) (hcd : (x == ("__classdict__" : Str)) = false) (hu : X.A.units + 1 < cLine) (hk : PE X k (tE X.K Ph false ki)) (he : PE X e (tE X.K Ph false vi))
    (ha : ∀ v, assign (.Subscript (.Name x p) k spos) X.env v = (do
      let ov ← holding [v] (eval (.Name x p) X.env)
      let iv ← holding [v, ov] (eval k X.env)
      standAt spos
      holding [v, ov, iv] (setItem ov iv v)
      release [v, ov, iv] []))
    (hs : swapsWithSole [.Subscript (.Name x p) k spos] e pos.line X.env = pure false) (hw : swappedStores [.Subscript (.Name x p) k spos] e X.env = pure none) (h1 : (assignEach [.Subscript (.Name x p) k spos] X.env).map (·.2) = [assign (.Subscript (.Name x p) k spos) X.env]) (hs2 : swapsWith e (some (.Subscript (.Name x p) k spos)) pos.line X.env = pure false) :
    PS X (.Assign [.Subscript (.Name x p) k spos] e pos) (tS X.K Ph fr (.six i ki vi)) := by
  refine PS.mono (PS.or (ps_asg he (pg_sub (pe_var hN hv hd hcd) hk set_list ha) hs hw h1) (ps_dput hu (pe_var hN hv hd hcd) hk he hs2)) fun D σ H q => ?_
  obtain ⟨env, Hs, out, ok, ev, q⟩ := q
  rw [exS] at ev
  split at ev
  · rename_i y e1
    split at ev
    · rename_i z e2
      split at ev
      · rename_i d e3
        obtain ⟨d', e4, rfl⟩ := Option.map_eq_some_iff.mp ev
        obtain ⟨a, h1, h2⟩ := ok.ow i _ e3
        cases d with
        | list ds =>
          left
          cases z <;> simp only [sixD] at e4 <;> try cases e4
          rename_i k
          split at e4
          · rename_i hk
            cases e4
            refine ⟨env, Hs, y, ok, e1, fun v H1 Hs1 f1 r1 => ⟨_, h1, env, Hs1, _, ok.fr f1, e2, fun kv H2 Hs2 f2 r2 => ?_⟩⟩
            obtain ⟨xs1, hx1, ra, hn⟩ := own_list ((f1.trans f2).own h2)
            cases r2
            refine ⟨a, xs1, k, k.toNat, rfl, rfl, hx1, ?_, ?_⟩
            · unfold ixN
              rw [if_pos hk.1, if_pos (by rw [ra.length]; omega)]
            · obtain ⟨ok2, f3⟩ := ((ok.fr f1).fr f2).mutate (o := .lst (xs1.set k.toNat v)) (d' := .list (ds.set k.toNat y)) e3 h1 hn (ra.set (f2.rp r1) _)
              exact q σ _ Hs2 ok2 ((FrS.ofE (f1.trans f2)).trans f3)
          · cases e4
        | dict kds =>
          right
          simp only [sixD] at e4
          split at e4
          · rename_i hkk
            cases e4
            simp only [Bool.and_eq_true, decide_eq_true_eq] at hkk
            refine ⟨env, Hs, y, ok, e1, fun v H1 Hs1 f1 r1 => ⟨_, h1, env, Hs1, _, ok.fr f1, e2, fun kv H2 Hs2 f2 r2 => ?_⟩⟩
            obtain ⟨xs1, hx1, ra, hn⟩ := own_dict ((f1.trans f2).own h2)
            have hk1 := hkk.1
            cases z <;> simp [keyD] at hk1
            rename_i kk
            have hok : strOk kk = true := by cases r2; assumption
            cases r2
            have lx : lim < sizeLine := by decide
            obtain ⟨ok2, f3⟩ := ((ok.fr f1).fr f2).mutate (o := .dK (putK xs1 (.inr kk) v)) (d' := .dict (putD kds (.str kk) y)) e3 h1 hn (RpKV.put hok (f2.rp r1) ra)
            exact ⟨a, _, rfl, DPut.k (k := .inr kk) hx1 (by rw [ra.length]; omega), q σ _ Hs2 ok2 ((FrS.ofE (f1.trans f2)).trans f3)⟩
          · cases e4
        | _ => simp only [sixD] at e4; cases e4
      · cases ev
    · cases ev
  · cases ev
/-- xs.append((ys.pop(k), ..)) -/
theorem ps_apop {i j : Nat} {x y : Str} {k : Expr} {es : List Expr} {ki : E} {xs : Es} {kt : Nat} {p p2 apos cpos apos2 cpos2 tpos pos : Pos} (hN : X.N[i]? = some x) (hv : Vis X.env.scope x) (hd : (x == ("__debug__" : Str)) = false) (hcd : (x == ("__classdict__" : Str)) = false)
    (hN2 : X.N[j]? = some y) (hv2 : Vis X.env.scope y) (hd2 : (y == ("__debug__" : Str)) = false) (hcd2 : (y == ("__classdict__" : Str)) = false) (hk : PE X k (tE X.K Ph false ki)) (hes : PA X es (tEs X.K Ph xs)) (hl : xs.len ≤ 999)
    (hbase : attributeBase (.Name x p) "append" X.env (eval (.Name x p) X.env) = eval (.Name x p) X.env) (hbase2 : attributeBase (.Name y p2) "pop" X.env (eval (.Name y p2) X.env) = eval (.Name y p2) X.env)
    (hfew : ((backTo cpos (starEach [.Tuple (.Call (.Attribute (.Name y p2) "pop" apos2) [k] [] cpos2 :: es) kt tpos] X.env)).all (fun x => !x.1) && (backToKw cpos (keywordEach [] X.env)).all (fun x => x.1.isSome) && decide (([.Tuple (.Call (.Attribute (.Name y p2) "pop" apos2) [k] [] cpos2 :: es) kt tpos] : List Expr).length + ([] : List Keyword).length + (if ([] : List Keyword).isEmpty then 0 else 1) < 30)) = true)
    (hline : (apos.endLine == cpos.line) = true) (hs : starEach [.Tuple (.Call (.Attribute (.Name y p2) "pop" apos2) [k] [] cpos2 :: es) kt tpos] X.env = (false, eval (.Tuple (.Call (.Attribute (.Name y p2) "pop" apos2) [k] [] cpos2 :: es) kt tpos) X.env) :: starEach [] X.env) (hplain : (backTo cpos (starEach [] X.env)).any (·.1) = false)
    (hfew2 : ((backTo cpos2 (starEach [k] X.env)).all (fun x => !x.1) && (backToKw cpos2 (keywordEach [] X.env)).all (fun x => x.1.isSome) && decide (([k] : List Expr).length + ([] : List Keyword).length + (if ([] : List Keyword).isEmpty then 0 else 1) < 30)) = true)
    (hline2 : (apos2.endLine == cpos2.line) = true) (hs2 : starEach [k] X.env = (false, eval k X.env) :: starEach [] X.env) (hplain2 : (backTo cpos2 (starEach [] X.env)).any (·.1) = false)
    (hs3 : starEach (.Call (.Attribute (.Name y p2) "pop" apos2) [k] [] cpos2 :: es) X.env = (false, eval (.Call (.Attribute (.Name y p2) "pop" apos2) [k] [] cpos2) X.env) :: starEach es X.env)
    (hsw : swapsWith (.Call (.Attribute (.Name x p) "append" apos) [.Tuple (.Call (.Attribute (.Name y p2) "pop" apos2) [k] [] cpos2 :: es) kt tpos] [] cpos) none pos.line X.env = pure false) :
    PS X (.Expr (.Call (.Attribute (.Name x p) "append" apos) [.Tuple (.Call (.Attribute (.Name y p2) "pop" apos2) [k] [] cpos2 :: es) kt tpos] [] cpos) pos) (tS X.K Ph fr (.apop i j ki xs)) := by
  refine PS.mono (ps_expr (pe_bm PySem.F.plainAttrs_list PySem.F.slot_list_append PySem.F.type_list_append mt_append (pe_var hN hv hd hcd)
    (pa_cons (pe_tup (pa_cons (pe_bm PySem.F.plainAttrs_list PySem.F.slot_list_pop PySem.F.type_list_pop mt_popAt (pe_var hN2 hv2 hd2 hcd2) (pa_cons hk pa_nil hs2) hbase2 hfew2 hline2 hs2 hplain2) hes hs3)) pa_nil hs) hbase hfew hline hs hplain) hsw) fun D σ H q => ?_
  obtain ⟨env, Hs, out, ok, ev, q⟩ := q
  rw [exS] at ev
  split at ev
  · rename_i m e1
    split at ev
    · rename_i ds e2
      split at ev
      · rename_i hm0
        split at ev
        · rename_i y0 e3
          split at ev
          · rename_i ys e4
            split at ev
            · rename_i d e5
              split at ev
              · cases ev
              · rename_i hij
                obtain ⟨d', e6, rfl⟩ := Option.map_eq_some_iff.mp ev
                cases d <;> simp only [appD] at e6 <;> try cases e6
                rename_i ls
                split at e6
                · rename_i hlim
                  cases e6
                  obtain ⟨a, h1, h2⟩ := ok.ow i _ e5
                  obtain ⟨b, g1, g2⟩ := ok.ow j _ e2
                  obtain ⟨as, hx, _, _⟩ := own_list h2
                  obtain ⟨bs, hy, _, _⟩ := own_list g2
                  refine ⟨_, h1, .inl ⟨rfl, as, SqL.of hx⟩, _, g1, .inl ⟨rfl, bs, SqL.of hy⟩, env, Hs, _, ok, e1, fun kv H1 Hs1 f1 r1 => ?_⟩
                  cases r1
                  have ok1 := ok.fr f1
                  obtain ⟨bs1, hy1, rb, hnb⟩ := own_list (f1.own g2)
                  obtain ⟨v, hv, rv⟩ := rb.get e3
                  have hlt : m.toNat < bs1.length := (List.getElem?_eq_some_iff.mp hv).1
                  have hsz : bs1.length ≤ sizeLine ∨ True := .inr trivial
                  obtain ⟨okb, fb⟩ := ok1.mutate (o := .lst (bs1.eraseIdx m.toNat)) (d' := .list (ds.eraseIdx m.toNat)) e2 g1 hnb (rb.eraseIdx _)
                  refine ⟨b, bs1, m, m.toNat, v, rfl, rfl, hy1, by omega, by omega, ?_, hv, ?_⟩
                  · unfold seqIndex?
                    simp only [if_neg (show ¬ m < 0 by omega)]
                    rw [if_pos (by simp only [Bool.and_eq_true, decide_eq_true_eq]; omega)]
                  · have okn := okb.set_un j (some (.ref b))
                    rw [List.set_set, set_self g1] at okn
                    refine ⟨_, Hs1, ys, okn, e4, fun vs H2 Hs2 f2 r2 => ⟨?_, fun p hp => ?_⟩⟩
                    · have := evEs_len e4
                      have := r2.length
                      have : (999 : Nat) < sizeLine := by decide
                      rw [List.length_cons]
                      omega
                    · have f3 := f2.trans (FrE.put (o := .tup (v :: vs)) f2.view hp)
                      have okc := okb.fr f3
                      have e5' : (env.set j (.ow (.list (ds.eraseIdx m.toNat))))[i]? = some (.ow (.list ls)) := by
                        rw [set_get, if_neg (fun z => hij (.inl z.symm))]; exact e5
                      obtain ⟨a', h1', h2'⟩ := okc.ow i _ e5'
                      rw [h1] at h1'
                      cases h1'
                      obtain ⟨as1, hx1, ra, hna⟩ := own_list h2'
                      have lx : lim < sizeLine := by decide
                      refine ⟨a, as1, .ref p, rfl, rfl, hx1, by rw [ra.length]; omega, ?_⟩
                      have rt : Rp X.K (upd Hs2 p (.tup (v :: vs))) (.ref p) (.tuple (y0 :: ys)) := rp_tup (f2.view.none hp) (.cons (f2.rp rv) r2) (by
                        show isPr y0 = false
                        cases hy : isPr y0 with
                        | false => rfl
                        | true => exact absurd (.inr hy) hij)
                      obtain ⟨okd, fd⟩ := okc.mutate (o := .lst (as1 ++ [.ref p])) (d' := .list (ls ++ [.tuple (y0 :: ys)])) e5' h1 hna (ra.append (.cons rt .nil))
                      exact q σ _ _ okd ((((FrS.ofE f1).trans fb).trans (FrS.ofE f3)).trans fd)
                · cases e6
            · cases ev
          · cases ev
        · cases ev
      · cases ev
    · cases ev
  · cases ev
end
end Wr
end

section
set_option Elab.async false
set_option linter.all false
set_option maxRecDepth 100000
set_option maxHeartbeats 4000000
/-! WrLa: tuples can be sorted, empty ones among them too. -/
namespace Wr
open PySem PySem.Calls PySem.SeqAt PySem.W PyProof.Rows
section
variable {prog : Program} {w : World} {A : Around} {E : Value → Shared → Prop} {s : Shared}
theorem one_tup {da db : List PyData} {a b : Value} {as bs : List Addr} {Q : Bool → Shared → Prop} (ra : Reads s.heap a (.tuple da) as) (rb : Reads s.heap b (.tuple db) bs) (hal : alikeAll da db = true)
    (hu : A.units + min (PyData.tuple da).depth (PyData.tuple db).depth < cLine) (q : Q (dataLt (.tuple da) (.tuple db)) s) : wpAny (model prog w) A (oneLt' true a b) Q E s := by
  cases ra with
  | @tuple l o us n _ as₁ h1 h2 h3 h4 =>
    cases rb with
    | @tuple l' o' us' n' _ bs₁ k1 k2 k3 k4 =>
      obtain ⟨oc, od, oda, osl⟩ := o
      obtain ⟨oc', od', oda', osl'⟩ := o'
      simp only at h2 h3 k2 k3
      subst h2 h3 k2 k3
      have n1 : us.size = da.length := by simpa using SeqAt.ReadsAll.length _ _ _ h4
      have n2 : us'.size = db.length := by simpa using SeqAt.ReadsAll.length _ _ _ k4
      rw [dataLt_tuple, ← firstLt_toks da db hal, ← n1, ← n2] at q
      rw [oneLt'_eq]
      simp only [if_true]
      refine wpAny_bind (wpAny_cRoomFor (room_here hu) ?_)
      refine wpAny_bind (wpAny_callSpecialIfBound?_slot (T := "tuple") ⟨_, h1, rfl⟩ PySem.F.slot_tuple_lt (call_meets PySem.F.slot_tuple_lt ⟨_, h1, rfl⟩ PySem.F.entry_tuple_lt (PySem.F.args_tuple_lt_2 _ _)
        (tuple_ltAt l l' us us' n n' od od' osl osl' (pairEq da db) (fun j => dataLt (da.getD j .none) (db.getD j .none))) ⟨h1, k1, fun j j1 j2 => ?_, fun j j1 j2 hj => ?_, ?_⟩))
      · have := eqAt_alikeAll da db A.in1 s us.toList us'.toList _ _ h4 k4 hal (room_in hu) j (by simpa using j1) (by simpa using j2)
        simpa using this
      · have := rcLt_alikeAll da db A.in1 s us.toList us'.toList _ _ h4 k4 hal (room_in hu) j (by simpa using j1) (by simpa using j2) hj
        simpa using this
      · exact wpAny_truthy_bool q
theorem firsts_any {M : Model} : ∀ (vs : List Value) (ds : List PyData) {Q : List (Option Value) → Shared → Prop}, EachIs (fun v d => ∃ as, Reads s.heap v d as) vs ds → (∀ d ∈ ds, ∃ xs, d = .tuple xs) →
    (∀ fs : List (Option Value), fs.length = vs.length → (∀ (i : Nat) (d : PyData), ds[i]? = some d → ∃ f, fs[i]? = some f ∧ (f.isSome = true ↔ d ≠ .tuple [])) → Q fs s) → wpAny M A (vs.mapM firstOfTuple') Q E s
  | _, _, Q, .nil, _, q => by
    rw [List.mapM_nil]
    exact wpAny_pure (q [] rfl fun i d h => by simp at h)
  | v :: vs, d :: ds, Q, .cons ⟨as, r⟩ t, hd, q => by
    obtain ⟨xs, rfl⟩ := hd d List.mem_cons_self
    cases r with
    | @tuple a o us n _ as₁ h1 h2 h3 h4 =>
      rw [List.mapM_cons]
      refine wpAny_bind ?_
      rw [kas_first_eq]
      refine wpAny_bind (Looks.here (show Looks M s.heap (typeOf (.ref a)) o.cls from (Looks.ld h1).andThen .now) ?_)
      rw [h2, if_neg (by decide)]
      refine wpAny_bind (listItems_at h1 h3 (wpAny_pure ?_))
      refine wpAny_bind (firsts_any vs ds t (fun d hm => hd d (List.mem_cons_of_mem _ hm)) fun fs hl hf => wpAny_pure (q _ (by rw [List.length_cons, List.length_cons, hl]) fun i d h => ?_))
      cases i with
      | zero =>
        rw [List.getElem?_cons_zero] at h
        cases h
        refine ⟨_, List.getElem?_cons_zero, ?_⟩
        have hl2 := SeqAt.ReadsAll.length _ _ _ h4
        rw [Array.length_toList] at hl2
        cases xs with
        | nil =>
          rw [Array.getElem?_eq_none (by rw [hl2]; exact Nat.le_refl _)]
          simp
        | cons x r =>
          have : 0 < us.size := by rw [hl2]; simp
          rw [Array.getElem?_eq_getElem this]
          simp
      | succ i =>
        rw [List.getElem?_cons_succ] at h ⊢
        exact hf i d h
theorem sorts_tups {vs : List Value} {ds : List PyData} (e : EachIs (fun v d => ∃ as, Reads s.heap v d as) vs ds) (hal : AllAlike ds) (ht : ∀ d ∈ ds, ∃ xs, d = .tuple xs) (hu : ∀ d, d ∈ ds → A.units + d.depth < cLine) : SortsAt prog w A s (dataKind s.heap ds) vs := by
  by_cases hne : ∀ d ∈ ds, ∃ x r, d = .tuple (x :: r)
  · exact SortsAt.data e hal (.inl hne) hu
  have room : ∀ {d d' : PyData}, d ∈ ds → A.units + min d.depth d'.depth < cLine := fun {d d'} hd => Nat.lt_of_le_of_lt (Nat.add_le_add_left (Nat.min_le_left _ _) _) (hu d hd)
  refine ⟨fun v hv => ?_, ?_⟩
  · obtain ⟨d, hd, as, r⟩ := e.left v hv
    exact ⟨_, dataKind_some hal hd r⟩
  obtain ⟨d1, hd1, hd1'⟩ : ∃ d ∈ ds, d = .tuple [] := by
    refine Classical.byContradiction fun z => hne fun d hd => ?_
    obtain ⟨xs, rfl⟩ := ht d hd
    cases xs with
    | nil => exact absurd ⟨_, hd, rfl⟩ z
    | cons x r => exact ⟨x, r, rfl⟩
  subst hd1'
  have hlook : ∀ (M : Model), ∀ v ∈ vs, Looks M s.heap (typeOf v) (Value.type "tuple") := fun M v hv => by
    obtain ⟨d, hd, as, r⟩ := e.left v hv
    obtain ⟨xs, rfl⟩ := ht d hd
    exact looks_reads r
  have hlen : vs.length = ds.length := e.length
  cases h0 : ds with
  | nil => rw [h0] at hd1; cases hd1
  | cons d0 dr =>
    rw [← h0]
    by_cases hf : d0 = .tuple []
    · refine ⟨oneType', ?_, fun h2 E Q q => ?_⟩
      · intro E x y a b Q ha hb q
        obtain ⟨d, as, hd, ra, rfl⟩ := dataKind_inv ha
        obtain ⟨d', as', hd', rb, rfl⟩ := dataKind_inv hb
        obtain ⟨xs, rfl⟩ := ht d hd
        obtain ⟨ys, rfl⟩ := ht d' hd'
        rw [keyLt'_oneType]
        exact one_tup ra rb (by have := hal _ hd _ hd'; simpa [alike] using this) (room hd) q
      · rw [keyKind'_eq, List.mapM_toArray, map_eq_pure_bind]
        refine wpAny_bind (wpAny_bind (firsts_any vs ds e ht fun fs hl hfs => wpAny_pure ?_))
        have hn : ¬ (fs.toArray.all (fun x => x.isSome)) = true := by
          rw [List.all_toArray, List.all_eq_true]
          intro z
          obtain ⟨i, hi⟩ := List.getElem?_of_mem hd1
          obtain ⟨f, hf1, hf2⟩ := hfs i _ hi
          exact (hf2.mp (z f (List.mem_of_getElem? hf1))) rfl
        obtain ⟨f0, hf0, hf0'⟩ := hfs 0 d0 (by rw [h0]; rfl)
        have hz : f0 = none := by
          cases f0 with
          | none => rfl
          | some u => exact absurd hf (hf0'.mp rfl)
        rw [if_neg hn, if_neg (by rw [List.getElem?_toArray, hf0, hz]; simp)]
        rw [oneTypeOnly'_eq, List.mapM_toArray, map_eq_pure_bind]
        refine wpAny_bind (wpAny_bind (wpAny_bind (kas_mapM (r := Value.type "tuple") _ (fun v hv Q' hq => (hlook _ v hv).here hq) (wpAny_pure ?_))))
        obtain ⟨v1, vr, rfl⟩ : ∃ v1 vr, vs = v1 :: vr := by
          cases vs with
          | nil => simp at h2
          | cons v1 vr => exact ⟨v1, vr, rfl⟩
        have ha : ((List.map (fun _ => Value.type "tuple") (v1 :: vr)).toArray.all fun x => x == Value.type "tuple") = true := by
          simp only [List.all_toArray, List.all_map, List.all_eq_true]
          intro _ _
          exact beq_self_eq_true _
        have h3 : (List.map (fun _ => Value.type "tuple") (v1 :: vr)).toArray[0]? = some (Value.type "tuple") := by simp
        rw [h3]
        simp only [ha, if_true]
        exact wpAny_pure (wpAny_pure q)
    · refine ⟨general', ?_, fun h2 E Q q => ?_⟩
      · intro E x y a b Q ha hb q
        obtain ⟨d, as, hd, ra, rfl⟩ := dataKind_inv ha
        obtain ⟨d', as', hd', rb, rfl⟩ := dataKind_inv hb
        show wpAny _ _ (oneLt' false x y) _ _ _
        refine oneLt_alike (fun z => nomatch z) ra rb (hal _ hd _ hd') ?_ (room hd) q
        obtain ⟨xs, rfl⟩ := ht d hd
        exact fun z => nomatch z
      · rw [keyKind'_eq, List.mapM_toArray, map_eq_pure_bind]
        refine wpAny_bind (wpAny_bind (firsts_any vs ds e ht fun fs hl hfs => wpAny_pure ?_))
        have hn : ¬ (fs.toArray.all (fun x => x.isSome)) = true := by
          rw [List.all_toArray, List.all_eq_true]
          intro z
          obtain ⟨i, hi⟩ := List.getElem?_of_mem hd1
          obtain ⟨f, hf1, hf2⟩ := hfs i _ hi
          exact (hf2.mp (z f (List.mem_of_getElem? hf1))) rfl
        obtain ⟨f0, hf0, hf0'⟩ := hfs 0 d0 (by rw [h0]; rfl)
        rw [if_neg hn, if_pos (by
          rw [List.getElem?_toArray, hf0]
          exact hf0'.mpr hf)]
        exact wpAny_pure q
end
end Wr
end

section
set_option Elab.async false
set_option linter.all false
set_option maxRecDepth 100000
set_option maxHeartbeats 4000000
/-! WrM: sorted. -/
namespace Wr
open PySem PySem.Spec PyProof.Rows L2
variable [Wld]
theorem le_total' : PySem.W.TotalLe (PySem.W.dataLe (β := PyData) false id) := PySem.W.sortLe_total _ _ _
theorem dataLe_lt (a b : PyData) : PySem.W.dataLe (β := PyData) false id a b = !PySem.W.dataLt b a := rfl
/-- inserting is what the model's sort does -/
theorem sortD_eq : ∀ ds : List PyData, sortD ds = ds.mergeSort (PySem.W.dataLe false id)
  | [] => by simp [sortD]
  | x :: r => by
    rw [sortD, sortD_eq r]
    obtain ⟨l₁, l₂, h1, h2, h3⟩ := List.mergeSort_cons (le := PySem.W.dataLe (β := PyData) false id) (fun a b c => le_total'.trans a b c) (fun a b => by
      rcases le_total'.total a b with h | h <;> simp [h]) x r
    rw [h1, h2]
    have hs : (l₁ ++ x :: l₂).Pairwise (fun a b => PySem.W.dataLe (β := PyData) false id a b = true) := by
      rw [← h1]
      exact List.pairwise_mergeSort (fun a b c => le_total'.trans a b c) (fun a b => by
        rcases le_total'.total a b with h | h <;> simp [h]) _
    have key : ∀ l : List PyData, (∀ b, b ∈ l → (!PySem.W.dataLe (β := PyData) false id x b) = true) → insD x (l ++ l₂) = l ++ x :: l₂ := by
      intro l
      induction l with
      | nil =>
        intro _
        cases l₂ with
        | nil => rfl
        | cons y t =>
          have hxy : PySem.W.dataLe (β := PyData) false id x y = true := by
            have := (List.pairwise_append.mp hs).2.1
            rw [List.pairwise_cons] at this
            exact this.1 y List.mem_cons_self
          rw [dataLe_lt] at hxy
          rw [List.nil_append, insD, if_neg (by simpa using hxy)]
          rfl
      | cons y t ih =>
        intro hb
        have hy := hb y List.mem_cons_self
        rw [dataLe_lt] at hy
        rw [List.cons_append, insD, if_pos (by simpa using hy), ih (fun b hb' => hb b (List.mem_cons_of_mem _ hb'))]
        rfl
    exact key l₁ h3
theorem allAlike_iff : ∀ {ds : List PyData}, allAlike ds = true → PySem.W.AllAlike ds
  | [], _ => fun d hd => by simp at hd
  | x :: r, h => by
    rw [allAlike, Bool.and_eq_true, List.all_eq_true] at h
    have ih := allAlike_iff h.2
    intro d hd d' hd'
    rcases List.mem_cons.mp hd with rfl | hd1
    · have := h.1 d' hd'
      rw [Bool.and_eq_true] at this
      exact this.1
    · rcases List.mem_cons.mp hd' with rfl | hd2
      · have := h.1 d hd
        rw [Bool.and_eq_true] at this
        exact this.2
      · exact ih d hd1 d' hd2
theorem sortable_or {ds : List PyData} (h : sortableD ds = true) : (∀ d ∈ ds, ∃ xs, d = .tuple xs) ∨ ∀ d ∈ ds, d ≠ .none ∧ ∀ xs, d ≠ .tuple xs := by
  rw [sortableD, Bool.or_eq_true, List.all_eq_true, List.all_eq_true] at h
  rcases h with h | h
  · left
    intro d hd
    have := h d hd
    split at this
    · exact ⟨_, rfl⟩
    · cases this
  · right
    intro d hd
    have := h d hd
    refine ⟨?_, fun xs => ?_⟩
    · rintro rfl; cases this
    · rintro rfl; cases this
theorem sorts_any {prog : Program} {w : World} {A : Around} {s : Shared} {vs : List Value} {ds : List PyData} (e : PySem.W.EachIs (fun v d => ∃ as, Reads s.heap v d as) vs ds) (hal : PySem.W.AllAlike ds) (hk : sortableD ds = true) (hu : ∀ d, d ∈ ds → A.units + d.depth < cLine) :
    PySem.W.SortsAt prog w A s (PySem.W.dataKind s.heap ds) vs := by
  rcases sortable_or hk with h | h
  · exact sorts_tups e hal h hu
  · exact PySem.W.SortsAt.data e hal (.inr h) hu
theorem EachIs_map {α β γ : Type} {R : α → β → Prop} {R' : α → γ → Prop} (f : β → γ) (h : ∀ a b, R a b → R' a (f b)) : ∀ {as : List α} {bs : List β}, PySem.W.EachIs R as bs → PySem.W.EachIs R' as (bs.map f)
  | _, _, .nil => .nil
  | _, _, .cons r t => .cons (h _ _ r) (EachIs_map f h t)
section
variable {X : Cx} {pins : List (Addr × Obj)} {σ : L2.St} {H : Hp} {s : Shared}
/-- the values of u, one after another, stand for ds -/
def ColD (X : Cx) (pins : List (Addr × Obj)) (σ : L2.St) (H Hs : Hp) (s : Shared) (u : Value) (ds : List PyData) : Prop :=
  ∀ (E : Value → Shared → Prop) (Q : List Value → Shared → Prop), (∀ s1 H1 Hs1 xs acc, Inv X pins σ H1 s1 → FrE H Hs H1 Hs1 → Vals xs acc → RpAll X.K Hs1 xs ds → xs.length ≤ sizeLine → Q acc s1) → wpAny (model X.prog X.w) X.A.in1 (PySem.collect u) Q E s
theorem each_of : ∀ {xs : List V} {us : List Value} {ds : List PyData} {K : PySem.W.Frag} {Hs : Hp}, Vals xs us → RpAll K Hs xs ds → PySem.W.EachIs (fun u (b : V × PyData) => RelV b.1 u ∧ Rp K Hs b.1 b.2) us (xs.zip ds)
  | _, _, _, _, _, .nil, .nil => .nil
  | _, _, _, _, _, .cons r t, .cons q p => .cons ⟨r, q⟩ (each_of t p)
theorem of_each : ∀ {bs : List (V × PyData)} {us : List Value} {K : PySem.W.Frag} {Hs : Hp}, PySem.W.EachIs (fun u (b : V × PyData) => RelV b.1 u ∧ Rp K Hs b.1 b.2) us bs → Vals (bs.map (·.1)) us ∧ RpAll K Hs (bs.map (·.1)) (bs.map (·.2))
  | _, _, _, _, .nil => ⟨.nil, .nil⟩
  | _, _, _, _, .cons r t => ⟨.cons r.1 (of_each t).1, .cons r.2 (of_each t).2⟩
theorem zip_snd {α β : Type} : ∀ {xs : List α} {ds : List β}, xs.length = ds.length → (xs.zip ds).map (·.2) = ds
  | [], [], _ => rfl
  | a :: xs, b :: ds, h => by simp [zip_snd (show xs.length = ds.length by simpa using h)]
  | [], _ :: _, h => by simp at h
  | _ :: _, [], h => by simp at h
theorem noDAll_mem : ∀ {ds : List PyData}, noDAll ds = true → ∀ d ∈ ds, noD d = true
  | x :: r, h, d, hd => by
    rw [noDAll, Bool.and_eq_true] at h
    rcases List.mem_cons.mp hd with rfl | hd
    · exact h.1
    · exact noDAll_mem h.2 d hd
/-- .. in some order that M tells -/
def ColM (X : Cx) (pins : List (Addr × Obj)) (σ : L2.St) (H Hs : Hp) (s : Shared) (u : Value) (M : List PyData → Prop) : Prop :=
  ∀ (E : Value → Shared → Prop) (Q : List Value → Shared → Prop), (∀ s1 H1 Hs1 xs acc ds, M ds → Inv X pins σ H1 s1 → FrE H Hs H1 Hs1 → Vals xs acc → RpAll X.K Hs1 xs ds → xs.length ≤ sizeLine → Q acc s1) → wpAny (model X.prog X.w) X.A.in1 (PySem.collect u) Q E s
theorem sorted_of_colM {u : Value} {M : List PyData → Prop} {R : List PyData} {Hs : Hp} {Q : VK} (hun : X.A.units + 66 < cLine) (hcol : ColM X pins σ H Hs s u M) (hM : ∀ ds, M ds → sortedD ds = some (.list R))
    (q : ∀ p ys H1 Hs1, FrE H Hs H1 Hs1 → H1 p = none → RpAll X.K Hs1 ys R → Q (.ref p) (upd H1 p (.lst ys))) : wpAny (model X.prog X.w) X.A (call (.builtin "sorted") [u]) (EP X pins σ Q) X.xe s := by
  · refine Calls.call_function_entry PyProof.Rows.kind_sorted PyProof.Rows.plain_sorted PyProof.Rows.entry_sorted (PyProof.Rows.args_sorted1 _) ?_
    unfold Builtin.«sorted»
    refine wpAny_bind (m := checkCount "sorted" 1 1 _) (wpAny_pure ?_)
    refine wpAny_bind (hcol _ _ fun s1 H1 Hs1 xs acc ds hMd I1 f1 hacc rx hL => ?_)
    have hd := hM ds hMd
    rw [sortedD] at hd
    split at hd
    case isFalse => cases hd
    rename_i hc
    replace hd : sortD ds = R := by injection hd with hd; injection hd
    subst hd
    simp only [Bool.and_eq_true, List.all_eq_true, decide_eq_true_eq] at hc
    obtain ⟨⟨⟨hal, hso⟩, hno⟩, hdep⟩ := hc
    have hsnd : (xs.zip ds).map (·.2) = ds := zip_snd rx.length
    have w := f1.view
    obtain ⟨h', gn, dr, tk, so⟩ := s1
    have hln : acc.length ≤ sizeLine := by rw [← hacc.length]; exact hL
    refine wpAny_bind (wpAny_newList ?_ hln)
    have hoL : (h'.push (seqObj "list" acc.toArray 0)).get? h'.objs.size = some (seqObj "list" acc.toArray 0) := Heap.get?_push_size _ rfl
    show wpAny _ _ _ _ _ { heap := h'.push (seqObj "list" acc.toArray 0), gens := gn, drawn := dr, toks := tk, os := so }
    have e0 := each_of hacc rx
    have hold : ∀ b o, h'.get? b = some o → (PySem.W.sortingHeap (h'.push (seqObj "list" acc.toArray 0)) h'.objs.size acc).get? b = some o := fun b o e =>
      PySem.W.sortingHeap_old (Nat.ne_of_lt (Heap.lt_size e)) (Heap.get?_push_of_some _ e)
    have er : PySem.W.EachIs (fun v (b : V × PyData) => ∃ as, Reads (PySem.W.sortingHeap (h'.push (seqObj "list" acc.toArray 0)) h'.objs.size acc) v b.2 as) acc (xs.zip ds) := by
      have : ∀ {us : List Value} {bs : List (V × PyData)}, PySem.W.EachIs (fun u (b : V × PyData) => RelV b.1 u ∧ Rp X.K Hs1 b.1 b.2) us bs → (∀ b ∈ bs, noD b.2 = true) → PySem.W.EachIs (fun v (b : V × PyData) => ∃ as, Reads (PySem.W.sortingHeap (h'.push (seqObj "list" acc.toArray 0)) h'.objs.size acc) v b.2 as) us bs := by
        intro us bs e
        induction e with
        | nil => exact fun _ => .nil
        | cons r t ih =>
          intro hb
          obtain ⟨as, ra⟩ := Inv.reads I1 (r.2.view w) (hb _ List.mem_cons_self) r.1
          exact .cons ⟨as, PyProof.Rows.Reads.keeps hold ra⟩ (ih fun b m => hb b (List.mem_cons_of_mem _ m))
      refine this e0 fun b m => ?_
      have : b.2 ∈ (xs.zip ds).map (·.2) := List.mem_map.mpr ⟨b, m, rfl⟩
      rw [hsnd] at this
      exact noDAll_mem hno _ this
    have hal' : PySem.W.AllAlike ((xs.zip ds).map (·.2)) := by rw [hsnd]; exact allAlike_iff hal
    have fin := PySem.W.sortVals_data (enc := fun b : V × PyData => b.2) false e0 er hal'
    rw [hsnd] at fin
    obtain ⟨fv, frp⟩ := of_each fin
    have hms : ((xs.zip ds).mergeSort (PySem.W.dataLe false fun b => b.2)).map (·.2) = sortD ds := by
      have e9 := List.map_mergeSort (r := PySem.W.dataLe (β := V × PyData) false fun b => b.2) (s := PySem.W.dataLe (β := PyData) false id) (f := fun b : V × PyData => b.2) (l := xs.zip ds) (fun a _ b _ => rfl)
      rw [e9, hsnd, sortD_eq]
    rw [hms] at frp
    refine wpAny_bind (wpAny_holding (wpAny_call_entry PyProof.Rows.slot_list_sort ⟨_, hoL, rfl⟩ PyProof.Rows.entry_list_sort
      (PySem.W.list_sort_vals (s := { heap := h'.push (seqObj "list" acc.toArray 0), gens := gn, drawn := dr, toks := tk, os := so }) hoL
        (sorts_any (s := { heap := PySem.W.sortingHeap (h'.push (seqObj "list" acc.toArray 0)) h'.objs.size acc, gens := gn, drawn := dr, toks := tk, os := so }) (ds := ds) ?_ (allAlike_iff hal) hso ?_) hln ⟨_, rfl, ?_⟩)
      (PyProof.Rows.args_list_sort _)))
    · have := EachIs_map (R' := fun v d => ∃ as, Reads (PySem.W.sortingHeap (h'.push (seqObj "list" acc.toArray 0)) h'.objs.size acc) v d as) (fun b : V × PyData => b.2) (fun _ _ h => h) er
      rw [hsnd] at this
      exact this
    · intro d hd
      have := hdep d hd
      show X.A.units + 1 + 1 + d.depth < cLine
      omega
    · obtain ⟨e', he'⟩ := PyProof.Rows.sortedHeap_at (vs := acc) (out := (PySem.W.sortVals (PySem.W.dataKind (PySem.W.sortingHeap (h'.push (seqObj "list" acc.toArray 0)) h'.objs.size acc) ds) false acc acc).toArray) hoL
      have hlen : ((((xs.zip ds).mergeSort (PySem.W.dataLe false fun b => b.2)).map (·.1))).length ≤ sizeLine := by
        rw [fv.length]
        have := fin.length
        rw [this, List.length_mergeSort, List.length_zip, ← rx.length, Nat.min_self]
        exact hL
      refine wpAny_pure ⟨_, rfl, .ref h'.objs.size, upd H1 h'.objs.size (.lst (((xs.zip ds).mergeSort (PySem.W.dataLe false fun b => b.2)).map (·.1))), I1.laid (t' := tk) (fun b u e => ?_) (Nat.le_refl _)
        (show ObjOk X.prog X.w _ _ _ (.lst _) from ⟨hlen, _, e', fv, he'⟩), rfl, q _ _ _ _ f1 (I1.hok.fresh (Nat.le_refl _)) frp⟩
      have hb : b < h'.objs.size := Heap.lt_size e
      show (sortedHeap _ _ _ _).get? b = some u
      rw [PyProof.Rows.sortedHeap_old (Nat.ne_of_lt hb) (by rw [size_push']; exact Nat.lt_succ_of_lt hb)]
      exact Heap.get?_push_of_some _ e
theorem sorted_of_col {u : Value} {ds : List PyData} {d : PyData} {Hs : Hp} {Q : VK} (hun : X.A.units + 66 < cLine) (hcol : ColD X pins σ H Hs s u ds) (hd : sortedD ds = some d)
    (q : ∀ p ys H1 Hs1, FrE H Hs H1 Hs1 → H1 p = none → d = .list (sortD ds) → RpAll X.K Hs1 ys (sortD ds) → Q (.ref p) (upd H1 p (.lst ys))) : wpAny (model X.prog X.w) X.A (call (.builtin "sorted") [u]) (EP X pins σ Q) X.xe s := by
  have e : d = .list (sortD ds) := by
    rw [sortedD] at hd
    split at hd
    · cases hd; rfl
    · cases hd
  refine sorted_of_colM (M := (· = ds)) hun (fun E Q' q' => hcol E Q' fun s1 H1 Hs1 xs acc I1 f1 hv rx hl => q' s1 H1 Hs1 xs acc ds rfl I1 f1 hv rx hl) (fun ds' h => ?_) fun p ys H1 Hs1 f1 hp ry => q p ys H1 Hs1 f1 hp e ry
  subst h
  rw [hd, e]
/-! what is collected -/
theorem col_seq {a : Addr} {xs : List V} {ds : List PyData} {Hs : Hp} (I : Inv X pins σ H s) (w : View Hs H) (h : SqL X.K H a xs ∨ SqT X.K H a xs) (rx : RpAll X.K Hs xs ds) : ColD X pins σ H Hs s (.ref a) ds := by
  intro E Q q
  rcases h with h | h
  · obtain ⟨its, rv, hl, hz⟩ := I.list h
    obtain ⟨o, ho, hc, n, hd⟩ := hl.isList
    refine wpAny_collect_seq a (.inl rfl) ho hc hd (fun h' hk => ?_) (by have := rv.length; simp; omega)
    exact q _ H Hs xs _ (I.kept (t' := s.toks) hk) (FrE.refl w) rv rx hz
  · obtain ⟨its, rv, ⟨o, ho, hc, n, hd⟩, hz⟩ := I.tuple h
    refine wpAny_collect_seq a (.inr rfl) ho hc hd (fun h' hk => ?_) (by have := rv.length; simp; omega)
    exact q _ H Hs xs _ (I.kept (t' := s.toks) hk) (FrE.refl w) rv rx hz
theorem col_keys {a : Addr} {kvs : List (Key × V)} {kds : List (PyData × PyData)} {Hs : Hp} (hc : X.calm = true) (I : Inv X pins σ H s) (w : View Hs H) (h : Rd H a (.dK kvs)) (rx : RpKV X.K Hs kvs kds) : ColD X pins σ H Hs s (.ref a) (kds.map (·.1)) := by
  intro E Q q
  obtain ⟨z, lo, vs, rk, hd⟩ := (show ObjOk X.prog X.w H s.heap a (.dK kvs) from h.ok I.hok)
  obtain ⟨ep, hat⟩ := hd.dictAt
  have hl : kvs.length = vs.length := Paired.length rk
  refine PySem.W.kdu_collect (A := X.A.in1) (PySem.W.kdl_dict (knd := mixKind X.prog X.w) (kvs := vs) (ep := ep) lo) (I.ok.hd hc) hat (by rw [← hl]; exact z) fun h' tk acc hk hacc => ?_
  refine q _ H Hs (kvs.map fun kv => kV kv.1) _ (I.kept (t' := tk) hk) (FrE.refl w) ?_ rx.keys (by rw [List.length_map]; exact z)
  have el : acc.toList.length = acc.size := by simp
  refine vals_of_at (by rw [List.length_map, el, hacc.1, hl]) fun j x w h1 h2 => ?_
  obtain ⟨k, y, hky, hi⟩ := hacc.2 j w (by rw [← Array.getElem?_toList]; exact h2)
  have e1 : (kvs.map (·.1))[j]? = some k := by rw [KV.keys rk, List.getElem?_map, hky] <;> rfl
  rw [show (kvs.map fun kv => kV kv.1) = (kvs.map (·.1)).map kV from by rw [List.map_map] <;> rfl, List.getElem?_map, e1] at h1
  cases h1
  exact keyIs_rel hi
theorem cb_sorted (hun : X.A.units + 66 < cLine) (hc : X.calm = true) : CallR X (.builtin "sorted") (rBlt X.K .sorted1) := by
  intro pins s σ H xs us Q I r h
  obtain ⟨Hs, ds, d, w, rr, e, q⟩ := h
  replace e : sorted1D ds = some d := e
  have fin : ∀ {u : Value} {es : List PyData}, us = [u] → ColD X pins σ H Hs s u es → sortedD es = some d → wpAny (model X.prog X.w) X.A (call (.builtin "sorted") us) (EP X pins σ Q) X.xe s := fun {u es} hu hcol hd => by
    subst hu
    refine sorted_of_col hun hcol hd fun p ys H1 Hs1 f1 hp ed ry => ?_
    subst ed
    exact q _ _ _ (f1.trans (FrE.put f1.view hp)) (rp_lst (f1.view.none hp) ry)
  unfold sorted1D at e
  split at e
  · obtain ⟨v, rfl, h⟩ := rr.one
    obtain ⟨u, eu, ru⟩ := vals1 r
    obtain ⟨a, ys, rfl, s1, r1⟩ := Rq.list (.inl h) w
    obtain rfl : u = Value.ref a := ru
    exact fin eu (col_seq I w (.inl s1) r1) e
  · obtain ⟨v, rfl, h⟩ := rr.one
    obtain ⟨u, eu, ru⟩ := vals1 r
    obtain ⟨a, ys, rfl, s1, r1, _⟩ := Rq.tuple (.inl h) w
    obtain rfl : u = Value.ref a := ru
    exact fin eu (col_seq I w (.inr s1) r1) e
  · obtain ⟨v, rfl, h⟩ := rr.one
    obtain ⟨u, eu, ru⟩ := vals1 r
    obtain ⟨a, ys, rfl, s1, r1⟩ := Rq.dict (.inl h) w
    obtain rfl : u = Value.ref a := ru
    exact fin eu (col_keys hc I w s1 r1) e
  · cases e
end
end Wr
end

section
set_option Elab.async false
set_option linter.all false
set_option maxRecDepth 100000
set_option maxHeartbeats 4000000
/-! WrN: enumerate over lists and tuples. -/
namespace Wr
open PySem PySem.Spec PyProof.Rows L2
variable [Wld]
theorem enum1_new {v : Value} {ob : Obj} {Hq : Heap → Prop} (B : PySem.Begins v ob Hq) :
    Meets (Builtin.«enumerate.__new__» ⟨[.type "enumerate", v], []⟩) (fun _ R s => Hq s.heap ∧
      R (.ok (.ret (.ref (s.heap.push ob).objs.size))) { s with heap := (s.heap.push ob).push { cls := .type "enumerate", data := .fields #[.none, .bool false, .ref s.heap.objs.size, rawInt 0, .none, .none] } }) :=
  .of_wp fun prog w A R s hh => by
    obtain ⟨hp, gn, dr, tk, so⟩ := s
    obtain ⟨hq, hr⟩ := hh
    have hsub := sub_enumerate
    have st0 : ∀ {A' : Around} {E' : Value → Shared → Prop} {Q' : Value → Shared → Prop}, Q' (.ref hp.objs.size) ⟨hp.push ob, gn, dr, tk, so⟩ → wpAny (model prog w) A' (pyIter v) Q' E' ⟨hp, gn, dr, tk, so⟩ :=
      fun z => B.iter prog w _ _ ⟨hp, gn, dr, tk, so⟩ _ hq z
    wp_walk using st0
    refine wpAny_stack_any fun stk => wpAny_pure ?_
    split
    · rename_i cc _ _ _ _ _
      cases (cc == Value.type "enumerate") <;> (wp_walk using st0; exact ⟨_, rfl, hr⟩)
    · wp_walk using st0
      exact ⟨_, rfl, hr⟩
section
variable {prog : Program} {w : World} {A : Around} {E : Value → Shared → Prop} {s : Shared}
theorem enum_tuple {t : Addr} {its : Array Value} {Q : Value → Shared → Prop} (hT : s.heap.IsTuple t its)
    (h : ∀ h2, IsEnum h2 (s.heap.objs.size + 1) s.heap.objs.size 0 .none → h2.IsTupleIter s.heap.objs.size t 0 → (∀ b o, s.heap.get? b = some o → h2.get? b = some o) → Q (.ref (s.heap.objs.size + 1)) { s with heap := h2 }) :
    wpAny (model prog w) A (call (.type "enumerate") [.ref t]) Q E s := by
  refine callType_new F.called_enumerate (by decide) (F.typeCall_enumerate_1 _) (F.newCall_enumerate_1 _) (fun x => F.args_object_init_2 x _) F.entry_enumerate_new (enum1_new (PySem.begins_tuple t its)) ⟨hT, ?_⟩
  have hz : (s.heap.push { cls := .type "tuple_iterator", data := .fields #[.ref t, .int 0 0] }).objs.size = s.heap.objs.size + 1 := Heap.size_push ..
  show _ ∧ _
  rw [hz]
  have he : IsEnum ((s.heap.push { cls := .type "tuple_iterator", data := .fields #[.ref t, .int 0 0] }).push
      { cls := .type "enumerate", data := .fields #[.none, .bool false, .ref s.heap.objs.size, rawInt 0, .none, .none] }) (s.heap.objs.size + 1) s.heap.objs.size 0 .none := by
    have e9 := Heap.get?_push_size (s.heap.push { cls := .type "tuple_iterator", data := .fields #[.ref t, .int 0 0] })
      (o := { cls := .type "enumerate", data := .fields #[.none, .bool false, .ref s.heap.objs.size, rawInt 0, .none, .none] }) rfl
    rw [hz] at e9
    exact e9
  exact ⟨⟨_, he, rfl⟩, h _ he ⟨_, Heap.get?_push_of_some _ (Heap.get?_push_size _ rfl), rfl, rfl⟩ fun b o x => Heap.get?_push_of_some _ (Heap.get?_push_of_some _ x)⟩
end
/-- the tuple at a, each item in a new pair -/
def IteT (K : PySem.W.Frag) (a : Addr) : It :=
  ⟨fun i H => ∃ (xs : List V) (x : V), SqT K H a xs ∧ xs[i]? = some x, fun i H v H' => ∃ T x, v = .ref T ∧ H T = none ∧ H' = upd H T (.tup [.int (i : Nat), x]) ∧ ∀ xs, SqT K H a xs → xs[i]? = some x, fun i H => ∃ xs : List V, SqT K H a xs ∧ xs.length ≤ i⟩
theorem turn_enumT {P : Program} {w : World} {K : PySem.W.Frag} {elts : List Expr} {kk : Nat} {tpos : Pos} (a e it : Addr) :
    Turn P w K (.Tuple elts kk tpos) (IteT K a) [e, it] e (fun i h => (∃ old, IsEnum h e it ((i : Nat) : Int) old) ∧ h.IsTupleIter it a i ∧ e ≠ it) where
  mem := List.mem_cons_self
  obj := fun i h stt b hb => by
    obtain ⟨⟨old, he⟩, ⟨o, ho, hc, hd⟩, _⟩ := stt
    rcases List.mem_cons.mp hb with z | z
    · exact ⟨_, by rw [z]; exact he, fun v q => by simp at q⟩
    · have z' : b = it := by simpa using z
      exact ⟨o, by rw [z']; exact ho, fun v q => by rw [hd] at q; cases q⟩
  keep := fun i h h2 stt k => ⟨stt.1.imp fun old he => k e (by simp) _ he, stt.2.1.at fun o q => k it (by simp) o q, stt.2.2⟩
  item := by
    intro X hP hw hK hc i pins s σ H E I hf stt hg
    subst hP hw hK
    obtain ⟨⟨old, he⟩, hit, hne⟩ := stt
    obtain ⟨xs, x, hq, hx⟩ := hg
    obtain ⟨its, rv, tp, hz⟩ := I.tuple hq
    obtain ⟨u, hu, ru⟩ := rv.get hx
    have hel : e < s.heap.objs.size := Heap.lt_size he
    have hil : it < s.heap.objs.size := by obtain ⟨_, z, _⟩ := hit; exact Heap.lt_size z
    have hal : a < s.heap.objs.size := by obtain ⟨_, z, _⟩ := tp; exact Heap.lt_size z
    have hai : a ≠ it := fun z => by
      obtain ⟨o1, g1, g2, _⟩ := tp
      obtain ⟨o2, g3, g4, _⟩ := hit
      rw [z, g3] at g1
      cases g1
      rw [g4] at g2
      simp at g2
    have hea : e ≠ a := fun z => by
      obtain ⟨o1, g1, g2, _⟩ := tp
      have g3 := he
      unfold IsEnum at g3
      rw [z, g1] at g3
      cases g3
      simp at g2
    have hi : i < its.toArray.size := by
      have := rv.length
      have := (List.getElem?_eq_some_iff.mp hx).1
      simp; omega
    refine wpAny_pyNext_enum_itemD (PySem.Draws.tuple (A := X.A.in1) (I.ok.hd hc) it a hai its.toArray) he ⟨hit, tp⟩ hi hne (by simp [hne, hea]) fun x' h2 tk hP' ho hst hT hsz hk => ?_
    have ex : x' = u := by
      have h1 : its[i]? = some x' := by simpa using hP'
      rw [hu] at h1; cases h1; rfl
    subst ex
    refine ⟨_, rfl, wpAny_letOwnedTupleGo_enum (s := { s with heap := h2, toks := tk + 1 }) ho fun h3 he3 sb => ?_⟩
    have hT2 : h3.get? s.heap.objs.size = some { cls := .type "tuple", data := .seq #[.int i tk, x'] } := (sb.2 _ (Nat.ne_of_gt hel)).trans hT
    have nw : ObjOk X.prog X.w (upd H s.heap.objs.size (.tup [.int (i : Nat), x])) h3 s.heap.objs.size (.tup [.int (i : Nat), x]) :=
      ⟨by show 2 ≤ sizeLine; decide, [.int i tk, x'], .cons ⟨_, rfl⟩ (.cons ru .nil), ⟨_, hT2, rfl, _, rfl⟩⟩
    have I1 : Inv X pins σ (upd H s.heap.objs.size (.tup [.int (i : Nat), x])) { s with heap := h3, toks := tk + 1 } :=
      I.turnedNew (ch := [e, it]) (fun b ob hb q => (sb.2 b (fun z => hb (by simp [z]))).trans (hk b ob (fun z => hb (by simp [z])) (fun z => hb (by simp [z])) q)) hf (Nat.le_refl _) nw
    refine ⟨.ref s.heap.objs.size, _, I1, rfl, ⟨_, x, rfl, I.hok.fresh (Nat.le_refl _), rfl, fun ys hy => by rw [I.tuple_inj hy hq]; exact hx⟩, ⟨⟨x', ?_⟩, hst.1.at fun o q => (sb.2 it (Ne.symm hne)).trans q, hne⟩, fun b hb => ?_⟩
    · have e1 : ((i + 1 : Nat) : Int) = (i : Int) + 1 := by omega
      rw [e1]; exact he3
    · have hb2 : b < s.heap.objs.size := by
        rcases List.mem_cons.mp hb with z | z
        · rw [z]; exact hel
        · have z' : b = it := by simpa using z
          rw [z']; exact hil
      rw [upd_ne (Nat.ne_of_lt hb2)]
      exact (hf b hb).1
  done := by
    intro X hP hw hK hc i pins s σ H E I hf stt hg
    subst hP hw hK
    obtain ⟨⟨old, he⟩, hit, hne⟩ := stt
    obtain ⟨xs, hq, hx⟩ := hg
    obtain ⟨its, rv, tp, hz⟩ := I.tuple hq
    obtain ⟨f0, f1, f2, f3, f4, f5⟩ := hf it (by simp)
    have hai : a ≠ it := fun z => by
      obtain ⟨o1, g1, g2, _⟩ := tp
      obtain ⟨o2, g3, g4, _⟩ := hit
      rw [z, g3] at g1
      cases g1
      rw [g4] at g2
      simp at g2
    have hl := rv.length
    have hend : its.toArray[i]? = none := by simp; omega
    have D : Draws X.prog X.w X.A.in1 it [it, a] i (fun _ _ => False) (fun j h => j = i ∧ h.IsTupleIter it a i ∧ h.IsTuple a its.toArray) :=
      { live := fun j h st2 => by obtain ⟨_, ⟨o, ho, _⟩, _⟩ := st2; exact ⟨o, ho⟩
        frame := fun j h h2 st2 hk => ⟨st2.1, st2.2.1.at fun o e2 => hk it (by simp) o e2, st2.2.2.at fun o e2 => hk a (by simp) o e2⟩
        item := fun j s2 Q2 E2 hj st2 hQ2 => absurd st2.1 (Nat.ne_of_lt hj)
        done := fun s2 Q2 E2 st2 hE2 => PySem.wpAny_nextOf_tuple_end (I.ok.hd hc) st2.2.1 st2.2.2 hend hE2 }
    exact wpAny_pyNext_enum_endD D he ⟨rfl, hit, tp⟩ fun h2 eb => ⟨rfl, I.turned (t' := s.toks) (fun b o hb q => eb b o hb q) f0 f1 f3 f4 f5⟩
  self := fun A i s Q E stt h => by
    obtain ⟨⟨_, he⟩, _⟩ := stt
    exact wpAny_pyIter_enum he h
section
variable {X : Cx} {Ph : Nat → List PyData → Option PyData}
def iEnumT (K : PySem.W.Frag) (ta : TA) : TI := fun σ H R => ta σ H fun vs H1 => ∃ a xs, vs = [.ref a] ∧ SqT K H1 a xs ∧ R (IteT K a) H1
theorem pi_enumT {e : Expr} {ta : TA} {p pos tpos : Pos} {elts : List Expr} {kk : Nat} (hg : Gl X "enumerate") (hm : X.mg "enumerate" = none) (ha : PA X [e] ta) (hs : starEach [e] X.env = [(false, eval e X.env)]) :
    PI X (.Tuple elts kk tpos) (.Call (.Name "enumerate" p) [e] [] pos) (iEnumT X.K ta) := by
  refine ⟨fun pins s σ H R I hh => Call_ (ld_blt I hg hm boot_enumerate (PyProof.Rows.callWith_type1 (thn (ha.run pos pins s σ H _ I hh) fun us s1 ⟨vs, H1, I1, r1, q1⟩ => ?_) hs rfl))⟩
  obtain ⟨a, xs, ex, hq, q⟩ := q1
  subst ex
  obtain ⟨u, eu, ru⟩ := vals1 r1
  subst eu
  obtain rfl : u = Value.ref a := ru
  obtain ⟨its, rv, tp, hz⟩ := I1.tuple hq
  refine enum_tuple (show s1.heap.IsTuple a its.toArray from tp) fun h2 he hit hk => wpAny_pyIter_enum he ?_
  have I2 : Inv X pins σ H1 { s1 with heap := h2 } := I1.kept (t' := s1.toks) hk
  refine ⟨s1.heap.objs.size + 1, [s1.heap.objs.size + 1, s1.heap.objs.size], _, _, H1, rfl, I2, turn_enumT a (s1.heap.objs.size + 1) s1.heap.objs.size, ⟨⟨.none, he⟩, hit, Nat.succ_ne_self _⟩, fun b hb => ?_, q⟩
  have hle : s1.heap.objs.size ≤ b := by
    rcases List.mem_cons.mp hb with z | z
    · rw [z]; exact Nat.le_succ _
    · have z' : b = s1.heap.objs.size := by simpa using z
      rw [z']; exact Nat.le_refl _
  exact I1.fpOk hle (I1.hok.fresh hle)
theorem Wk.enumT {K : PySem.W.Frag} {H Hs : Hp} {a : Addr} {xs : List V} {ds : List PyData} (hpm : plM = false) (z : xs.length ≤ sizeLine) (s : SqT K Hs a xs) (r : RpAll K Hs xs ds) : Wk K (IteT K a) (enumD 0 ds) H Hs where
  len := by rw [enumD_length, ← r.length]; exact z
  go := fun H2 Hs2 i s1 w1 k1 hi => by
    rw [enumD_length] at hi
    have : i < xs.length := by rw [r.length]; exact hi
    exact ⟨xs, xs[i], w1.seqT ((View.of_same s1).seqT s), List.getElem?_eq_getElem this⟩
  yl := fun H2 Hs2 i d x H3 s1 w1 k1 hd hy => by
    obtain ⟨T, y, rfl, hT, rfl, h⟩ := hy
    obtain ⟨z, hz, rfl⟩ := enumD_get _ _ _ _ hd
    obtain ⟨v, h1, h2⟩ := r.get hz
    have e := h xs (w1.seqT ((View.of_same s1).seqT s))
    rw [h1] at e
    cases e
    rw [Nat.zero_add]
    exact ⟨_, FrE.put w1 hT, rp_tup (w1.none hT) (.cons (.int _) (.cons (h2.view (View.of_same s1)) .nil)) hpm⟩
  st := fun H2 Hs2 i s1 w1 k1 hi => by
    rw [enumD_length] at hi
    exact ⟨xs, w1.seqT ((View.of_same s1).seqT s), by rw [r.length]; exact hi⟩
theorem pi_enu {e : Expr} {x : E} {p pos tpos : Pos} {elts : List Expr} {kk : Nat} (hg : Gl X "enumerate") (hm : X.mg "enumerate" = none) (he : PE X e (tE X.K Ph false x)) (hs : starEach [e] X.env = [(false, eval e X.env)]) (hs1 : starEach [e] X.env = (false, eval e X.env) :: starEach [] X.env) :
    PI X (.Tuple elts kk tpos) (.Call (.Name "enumerate" p) [e] [] pos) (tI X.K Ph (.enu x)) := by
  refine PI.mono (PI.or (PI.inv (pi_enum hg hm (pa_cons he pa_nil hs1) hs)) (PI.inv (pi_enumT hg hm (pa_cons he pa_nil hs1) hs))) fun σ H R q => ?_
  obtain ⟨env, Hs, ds, ok, ev, fz, q⟩ := q
  rw [evI] at ev
  split at ev
  · rename_i d e1
    have hpm : plM = false ∧ (seqD d).map (enumD 0) = some ds := by
      first
        | exact ⟨rfl, ev⟩
        | exact absurd ev (by rw [if_pos (show plM = true from rfl)]; simp)
    obtain ⟨hpm, ev⟩ := hpm
    obtain ⟨es, e2, rfl⟩ := Option.map_eq_some_iff.mp ev
    cases d with
    | list ds =>
      cases e2
      refine .inl ⟨env, Hs, _, ok, e1, fun v H1 Hs1 f1 r1 => ?_⟩
      have r1' : Rp X.K Hs1 v (.list _) := r1
      cases r1' with
      | lst s r => exact ⟨_, _, rfl, f1.view.seqL s, fun hl => q _ _ _ f1 (Wk.enum hpm (hl.l _ _ (f1.view.seqL s)) s r)⟩
    | tuple ds =>
      cases e2
      refine .inr ⟨env, Hs, _, ok, e1, fun v H1 Hs1 f1 r1 => ?_⟩
      have r1' : Rp X.K Hs1 v (.tuple _) := r1
      cases r1' with
      | tup s r => exact ⟨_, _, rfl, f1.view.seqT s, fun hl => q _ _ _ f1 (Wk.enumT hpm (hl.t _ _ (f1.view.seqT s)) s r)⟩
    | _ => cases e2
  · cases ev
/-! two fors as a value -/
theorem pe_cp2 {elt tg iter tg1 iter1 : Expr} {scope : Scope} {own : List (Str × Nat)} {pos : Pos} {el : E} {t t1 : Tg} {it it1 : I} (hc : X.calm = true) (hN : X.N.Nodup) (hi : PI X tg iter (tI X.K Ph it)) (ok : BlkOk X.N X.env.scope scope own) (ho : own.map (·.2) = slotsT t ++ slotsT t1) (hnz : noFz it1 = true)
    (hg : ∀ (s : Shared) (H : Hp) (C : Addr) (cl : List (Str × Addr)) (fp : List Addr), PG (X.blk s H scope (compEnvC scope cl C X.env) fp) tg (gT X.K t))
    (hi1 : ∀ (s : Shared) (H : Hp) (C : Addr) (cl : List (Str × Addr)) (fp : List Addr), PI (X.blk s H scope (compEnvC scope cl C X.env) fp) tg1 iter1 (tI X.K Ph it1))
    (hg1 : ∀ (s : Shared) (H : Hp) (C : Addr) (cl : List (Str × Addr)) (fp : List Addr), PG (X.blk s H scope (compEnvC scope cl C X.env) fp) tg1 (gT X.K t1))
    (he : ∀ (s : Shared) (H : Hp) (C : Addr) (cl : List (Str × Addr)) (fp : List Addr), PE (X.blk s H scope (compEnvC scope cl C X.env) fp) elt (tE X.K Ph false el)) (hs : ∀ x, foldedSetIterable iter X.env x = pure x) (hs1 : ∀ env x, foldedSetIterable iter1 env x = pure x) :
    PE X (.ListComp elt [⟨tg, iter, [], 0⟩, ⟨tg1, iter1, [], 0⟩] scope pos) (tE X.K Ph false (.cp2 el t it t1 it1)) := by
  refine pe_shared (pe_unz (it := it) (fr := true) (PE.mono (pe_lc2 (vs1 := slotsT t1) hc hN hi ok (by rw [ho]; exact fun i h => List.mem_append_right _ h) hg (fun _ _ _ _ _ => pts_nil) hi1 hg1 (fun _ _ _ _ _ => pts_nil) he hs hs1) fun σ H Q q => ?_))
  rw [ho]
  exact lc2_run hnz q
/-! name = a comprehension: stored within the block's frame -/
theorem asgz_run {K : PySem.W.Frag} {fr : Nat → Bool} {i : Nat} {e : E} {it : I} {D : Ends} {σ : L2.St} {H : Hp} (q : tSz K Ph fr it (.asg i e) D σ H) : tAsg (tEz K Ph (frs fr e) it e) (gName i) D σ H := by
  obtain ⟨env, Hs, out, ok, ev, fz, q⟩ := q
  rw [exS] at ev
  split at ev
  · rename_i d e1
    cases ev
    refine ⟨env, Hs, d, ok, e1, fz, fun v H' Hs' f r => ?_⟩
    have okf := ok.fr f
    revert q r
    cases frs fr e with
    | false =>
      intro q r
      exact q (σ.set i (some v)) H' Hs' (okf.set_sh i r) ((FrS.ofE f).own_mono fun b h => owned_set h)
    | true =>
      intro q r
      obtain ⟨a, rfl, n, o⟩ := r
      refine q (σ.set i (some (.ref a))) H' Hs' (okf.set_ow i o (fun z => (ok.owned z).1 n)) ((FrS.ofE f).own_or fun b h => ?_)
      rcases owned_set_ow h with z | z
      · exact .inl z
      · exact .inr (by rw [z]; exact n)
  · cases ev
/-- y = [elt for tg in iter if ..] -/
theorem ps_setCpr {fr : Nat → Bool} {i : Nat} {y : Str} {py : Pos} {elt tg iter : Expr} {ifs : List Expr} {scope : Scope} {own : List (Str × Nat)} {pos spos : Pos} {el : E} {t : Tg} {it : I} {cs : Es} (hc : X.calm = true) (hN : X.N.Nodup) (hy : X.N[i]? = some y) (hyl : X.env.scope.names.lookup y = some .local)
    (hsw : swapsWith (.ListComp elt [⟨tg, iter, ifs, 0⟩] scope pos) (some (.Name y py)) spos.line X.env = pure true) (hi : PI X tg iter (tI X.K Ph it)) (ok : BlkOk X.N X.env.scope scope own) (ho : own.map (·.2) = slotsT t)
    (hg : ∀ (s : Shared) (H : Hp) (C : Addr) (cl : List (Str × Addr)) (fp : List Addr), PG (X.blk s H scope (compEnvC scope cl C X.env) fp) tg (gT X.K t)) (ht : ∀ (s : Shared) (H : Hp) (C : Addr) (cl : List (Str × Addr)) (fp : List Addr), PTs (X.blk s H scope (compEnvC scope cl C X.env) fp) ifs (tAn X.K Ph cs))
    (he : ∀ (s : Shared) (H : Hp) (C : Addr) (cl : List (Str × Addr)) (fp : List Addr), PE (X.blk s H scope (compEnvC scope cl C X.env) fp) elt (tE X.K Ph false el)) (hs : ∀ x, foldedSetIterable iter X.env x = pure x) :
    PS X (.Assign [.Name y py] (.ListComp elt [⟨tg, iter, ifs, 0⟩] scope pos) spos) (tS X.K Ph fr (.asg i (.cpr el t it cs))) := by
  refine ps_unz (it := it) (PS.mono (ps_setLc hc hN hy hyl hsw hi ok hg ht he hs) fun D σ H q => ?_)
  rw [ho]
  exact lc_run (fr := false) (asgz_run q)
theorem ps_setCp2 {fr : Nat → Bool} {i : Nat} {y : Str} {py : Pos} {elt tg iter tg1 iter1 : Expr} {scope : Scope} {own : List (Str × Nat)} {pos spos : Pos} {el : E} {t t1 : Tg} {it it1 : I} (hc : X.calm = true) (hN : X.N.Nodup) (hy : X.N[i]? = some y) (hyl : X.env.scope.names.lookup y = some .local)
    (hsw : swapsWith (.ListComp elt [⟨tg, iter, [], 0⟩, ⟨tg1, iter1, [], 0⟩] scope pos) (some (.Name y py)) spos.line X.env = pure true) (hi : PI X tg iter (tI X.K Ph it)) (ok : BlkOk X.N X.env.scope scope own) (ho : own.map (·.2) = slotsT t ++ slotsT t1) (hnz : noFz it1 = true)
    (hg : ∀ (s : Shared) (H : Hp) (C : Addr) (cl : List (Str × Addr)) (fp : List Addr), PG (X.blk s H scope (compEnvC scope cl C X.env) fp) tg (gT X.K t))
    (hi1 : ∀ (s : Shared) (H : Hp) (C : Addr) (cl : List (Str × Addr)) (fp : List Addr), PI (X.blk s H scope (compEnvC scope cl C X.env) fp) tg1 iter1 (tI X.K Ph it1))
    (hg1 : ∀ (s : Shared) (H : Hp) (C : Addr) (cl : List (Str × Addr)) (fp : List Addr), PG (X.blk s H scope (compEnvC scope cl C X.env) fp) tg1 (gT X.K t1))
    (he : ∀ (s : Shared) (H : Hp) (C : Addr) (cl : List (Str × Addr)) (fp : List Addr), PE (X.blk s H scope (compEnvC scope cl C X.env) fp) elt (tE X.K Ph false el)) (hs : ∀ x, foldedSetIterable iter X.env x = pure x) (hs1 : ∀ env x, foldedSetIterable iter1 env x = pure x) :
    PS X (.Assign [.Name y py] (.ListComp elt [⟨tg, iter, [], 0⟩, ⟨tg1, iter1, [], 0⟩] scope pos) spos) (tS X.K Ph fr (.asg i (.cp2 el t it t1 it1))) := by
  refine ps_unz (it := it) (PS.mono (ps_setLc2 (vs1 := slotsT t1) hc hN hy hyl hsw hi ok (by rw [ho]; exact fun i h => List.mem_append_right _ h) hg (fun _ _ _ _ _ => pts_nil) hi1 hg1 (fun _ _ _ _ _ => pts_nil) he hs hs1) fun D σ H q => ?_)
  rw [ho]
  refine lc2_run hnz ?_
  obtain ⟨env, Hs, d, ok', ev, fz, q'⟩ := asgz_run q
  refine ⟨env, Hs, d, ok', ev, fz, fun v H' Hs' f r => ?_⟩
  obtain ⟨Hs2, f2, r2⟩ := r.shared f
  exact q' v H' Hs2 f2 r2
/-- {k: v} -/
theorem pe_dc1 {k v : Expr} {x y : E} {pos : Pos} (hk : PE X k (tE X.K Ph false x)) (hv : PE X v (tE X.K Ph false y)) : PE X (.Dict [some k] [v] pos) (tE X.K Ph true (.dc1 x y)) := by
  refine PE.mono (pe_disp (pps_cons hk hv pps_nil) rfl rfl (by simp) (by simp)) fun σ H Q q => ?_
  obtain ⟨env, Hs, d, ok, ev, q⟩ := q
  rw [evE] at ev
  split at ev
  · rename_i a e1
    split at ev
    · rename_i b e2
      split at ev
      · rename_i hkd
        cases ev
        intro p hp
        have f0 : FrE H Hs (upd H p (.dK [])) Hs := FrE.alloc ok.view hp
        refine ⟨env, Hs, a, ok.fr f0, e1, fun kv H1 Hs1 f1 r1 => ⟨env, Hs1, b, (ok.fr f0).fr f1, e2, fun vv H2 Hs2 f2 r2 => ?_⟩⟩
        cases a <;> simp [keyD] at hkd
        rename_i kk
        have hok : strOk kk = true := by cases r1; assumption
        have r1' := r1
        cases r1'
        have hs0 : Hs p = none := ok.view.none hp
        obtain ⟨d1, d2⟩ := keepAt (f1.trans f2) (show upd H p (.dK []) p = some (.dK []) from upd_same) hs0
        refine ⟨d1, [(.inr kk, vv)], rfl, by simp, ?_⟩
        refine q _ _ Hs2 ((f0.trans (f1.trans f2)).grow hp d2) ⟨p, rfl, hp, d2, _, upd_same, ?_⟩
        show RpKV X.K Hs2 (mergeK [] [(.inr kk, vv)]) [(.str kk, b)]
        exact .cons hok r2 .nil
      · cases ev
    · cases ev
  · cases ev
end
end Wr
end

section
set_option Elab.async false
set_option linter.all false
set_option maxRecDepth 100000
set_option maxHeartbeats 4000000
/-! WrO: xs[::-1]. -/
namespace Wr
open PySem PySem.Spec PyProof.Rows L2 HT
variable [Wld]
theorem fm_congr {α β : Type} {f g : α → Option β} : ∀ {l : List α}, (∀ x ∈ l, f x = g x) → l.filterMap f = l.filterMap g
  | [], _ => rfl
  | a :: l, h => by
    rw [List.filterMap_cons, List.filterMap_cons, h a List.mem_cons_self, fm_congr (fun x hx => h x (List.mem_cons_of_mem _ hx))]
section
variable {prog : Program} {w : World} {A : Around} {E : Value → Shared → Prop} {s : Shared}
theorem applied_rev {sl : Addr} {vl vu vk : Value} {n : Nat} {Q : Int × Int × Nat → Shared → Prop} (hs : s.heap.IsSliceOf sl vl vu vk) (pl : IsPart vl none) (pu : IsPart vu none) (pk : IsPart vk (some (-1)))
    (h : Q ((n : Int) - 1, -1, n) s) : wpAny (model prog w) A (Builtin.Slice.sliceApplied (.ref sl) (pure (n : Int))) Q E s := by
  obtain ⟨ob, g1, g2, g3⟩ := id hs
  unfold Builtin.Slice.sliceApplied Builtin.Slice.sliceFields
  refine wpAny_bind (wpAny_bind (wpAny_field g1 g3 (x := vl) rfl (wpAny_bind (wpAny_field g1 g3 (x := vu) rfl (wpAny_bind (wpAny_field g1 g3 (x := vk) rfl (wpAny_pure ?_)))))))
  refine wpAny_bind (slicePart_ pk ?_)
  show wpAny _ _ (if ((-1 : Int) == 0) = true then _ else _) _ _ s
  rw [if_neg (by decide)]
  refine wpAny_bind (slicePart_ pl (wpAny_bind (slicePart_ pu (wpAny_bind (wpAny_pure ?_)))))
  show wpAny _ _ (match Builtin.Slice.sliceAdjust none none (-1) (n : Int) with | (lo, hi) => pure (lo, (-1 : Int), Builtin.Slice.slicePlaces lo hi (-1))) _ _ s
  have e1 : Builtin.Slice.sliceAdjust none none (-1) (n : Int) = ((n : Int) - 1, -1) := by
    simp [Builtin.Slice.sliceAdjust]
  rw [e1]
  have e2 : Builtin.Slice.slicePlaces ((n : Int) - 1) (-1) (-1) = n := by
    simp [Builtin.Slice.slicePlaces]
    omega
  show wpAny _ _ (pure ((n : Int) - 1, (-1 : Int), Builtin.Slice.slicePlaces ((n : Int) - 1) (-1) (-1))) _ _ s
  rw [e2]
  exact wpAny_pure h
theorem pick_rev (xs : Array Value) : ((List.range xs.size).filterMap fun (m : Nat) => xs[((xs.size : Int) - 1 + (m : Int) * -1).toNat]?).toArray = xs.toList.reverse.toArray := by
  have := PySem.W.krv_pick xs
  rw [← this]
  unfold slicePick
  rw [PySem.W.krv_bounds]
  dsimp only
  rw [PySem.W.krv_sliceRange, List.filterMap_map]
  congr 1
  refine fm_congr fun m hm => ?_
  have hm' : m < xs.size := by simpa using hm
  have e : ((xs.size : Int) - 1 + (m : Int) * -1).toNat = xs.size - 1 - m := by omega
  rw [e]
  rfl
theorem rev_tuple {t sl : Addr} {its : Array Value} {vl vu vk : Value} {Q : Value → Shared → Prop} (ht : IsTup s.heap t its) (hs : s.heap.IsSliceOf sl vl vu vk) (pl : IsPart vl none) (pu : IsPart vu none) (pk : IsPart vk (some (-1)))
    (h : Q (.ref s.heap.objs.size) { s with heap := s.heap.push { cls := .type "tuple", data := .seq its.toList.reverse.toArray } }) (hsz : its.size ≤ sizeLine) : wpAny (model prog w) A (getItem (.ref t) (.ref sl)) Q E s := by
  have hok : sizeOk (.seq its.toList.reverse.toArray) := by
    show its.toList.reverse.toArray.size ≤ sizeLine
    simpa using hsz
  obtain ⟨ob, g1, g2, g3⟩ := id hs
  have hTs : s.TypeIs (.ref sl) "slice" := ⟨ob, g1, g2⟩
  unfold getItem
  try with_reducible refine wpAny_holding ?_
  first | refine wpAny_bind (wpAny_pure ?_) | skip
  refine wpAny_bind (wpAny_sequenceKey ht.typeIs (by decide) ?_)
  refine wpAny_bind (wpAny_callSpecial?_slot (name := Str.ofString "__getitem__") ht.typeIs PyProof.Rows.slot_tuple_getitem (wpAny_call_entry PyProof.Rows.slot_tuple_getitem ht.typeIs entry_tuple_getitem ?_ (args_tuple_getitem _ _)))
  show wpAny _ _ (Builtin.Tuple.tupleItemsOf (.ref t) >>= _) _ _ s
  refine wpAny_bind (tupleItemsOf_ ht (wpAny_bind (wpAny_typeOf hTs ?_)))
  rw [if_pos (by decide)]
  refine wpAny_bind (applied_rev hs pl pu pk ?_)
  show wpAny _ _ (if ((its.size : Int) - 1 == 0 && (-1 : Int) == 1 && its.size == its.size) = true then _ else _) _ _ s
  rw [if_neg (by simp), pick_rev]
  first
    | exact wpAny_bind (m := Builtin.Tuple.tupleExact _) (wpAny_newObj_type (wpAny_pure ⟨_, rfl, wpAny_pure h⟩) hok)
    | exact wpAny_bind (m := Builtin.Tuple.tupleExact _) (wpAny_newObj_type (wpAny_bind (wpAny_pure (wpAny_pure ⟨_, rfl, wpAny_pure h⟩))) hok)
    | exact wpAny_bind (wpAny_bind (m := Builtin.Tuple.tupleExact _) (wpAny_newObj_type (wpAny_pure (wpAny_pure ⟨_, rfl, wpAny_pure h⟩)) hok))
    | exact wpAny_bind (wpAny_bind (m := Builtin.Tuple.tupleExact _) (wpAny_newObj_type (wpAny_pure ⟨_, rfl, wpAny_pure h⟩) hok))
end
section
variable {X : Cx} {Ph : Nat → List PyData → Option PyData}
def tRevT (K : PySem.W.Frag) (te : TE) : TE := fun σ H Q => te σ H fun x H1 => ∃ a xs, x = .ref a ∧ SqT K H1 a xs ∧ ∀ p ob, ob.dict = none → H1 p = none → Q (.ref p) (upd H1 p (.frz ob (.tup xs.reverse)))
theorem pe_revT {e : Expr} {te : TE} {k : Nat} {p1 p2 p3 pos : Pos} (he : PE X e te) : PE X (.Subscript e (.Slice none none (some (.UnaryOp .USub (.Constant (.int 1) k p1) p2)) p3) pos) (tRevT X.K te) := by
  refine ⟨fun pins s σ H Q I hh => Subscript_ (thn (he.run pins s σ H _ I hh) fun v s1 ⟨x, H1, I1, r1, q1⟩ => ?_)⟩
  obtain ⟨a, xs, ex, hx, q⟩ := q1
  subst ex
  obtain rfl : v = Value.ref a := r1
  have hst : PO X (some (.UnaryOp .USub (.Constant (.int 1) k p1) p2)) (tPart (tUn (rU fun i => .int (-i)) (tC (.int 1)))) := po_some (pe_un un_neg pe_int)
  refine wpAny_Slice (thn (po_none.run pins s1 σ H1 (fun o H2 => o = none ∧ H2 = H1) I1 ⟨rfl, rfl⟩) fun vl s2 ⟨l, H2, I2, pl, el, e2⟩ => ?_)
  subst el e2
  refine thn (po_none.run pins s2 σ H2 (fun o H3 => o = none ∧ H3 = H2) I2 ⟨rfl, rfl⟩) fun vu s3 ⟨u, H3, I3, pu, eu, e3⟩ => ?_
  subst eu e3
  refine thn (hst.run pins s3 σ H3 (fun o H4 => o = some (-1) ∧ H4 = H3) I3 ⟨1, rfl, -1, rfl, rfl, rfl⟩) fun vk s4 ⟨o, H4, I4, pk, eo, e4⟩ => ?_
  subst eo e4
  have I5 : Inv X pins σ H4 { s4 with heap := s4.heap.push { cls := .type "slice", data := .fields #[vl, vu, vk] } } := I4.kept (t' := s4.toks) fun b ob q => Heap.get?_push_of_some _ q
  obtain ⟨its, r, ht, hz⟩ := I5.tuple hx
  have hlen := r.length
  show wpAny (model X.prog X.w) X.A (subscriptTail e (.Slice none none (some (.UnaryOp .USub (.Constant (.int 1) k p1) p2)) p3) (.ref a) (.ref s4.heap.objs.size)) (EP X pins σ Q) X.xe { s4 with heap := s4.heap.push { cls := .type "slice", data := .fields #[vl, vu, vk] } }
  refine tail_any (ops := [.ref a, .ref s4.heap.objs.size]) ht.typeIs (PyProof.Rows.slot_tuple_getitem.lookup) ?_ (by with_unfolding_all rfl)
  refine rev_tuple ht (Heap.IsSliceOf.new _ vl vu vk) pl pu pk ?_ (by rw [List.size_toArray]; omega)
  refine ⟨.ref _, _, I5.laid (t' := s4.toks) (o := .frz { cls := .type "tuple", data := .seq its.reverse.toArray } (.tup xs.reverse)) (fun b ob q => Heap.get?_push_of_some _ q) (Nat.le_refl _) ?_, rfl, q _ _ rfl (I5.hok.fresh (Nat.le_refl _))⟩
  exact ⟨Heap.get?_push_size _ rfl, by rw [List.length_reverse]; exact hz, _, r.reverse, IsTup.new _ _⟩
theorem pe_rev {e : Expr} {x : O} {k : Nat} {p1 p2 p3 pos : Pos} (he : PE X e (tO X.K Ph x)) : PE X (.Subscript e (.Slice none none (some (.UnaryOp .USub (.Constant (.int 1) k p1) p2)) p3) pos) (tE X.K Ph false (.rev x)) := by
  refine PE.mono (PE.or (pe_revL he) (pe_revT he)) fun σ H Q q => ?_
  obtain ⟨env, Hs, d, ok, ev, q⟩ := q
  rw [evE] at ev
  split at ev
  · rename_i dx e1
    cases dx with
    | list ds =>
      cases ev
      refine .inl ⟨env, Hs, _, ok, e1, fun v H1 Hs1 f1 r1 => ?_⟩
      obtain ⟨a, xs, rfl, s1, r2⟩ := Rq.list r1 f1.view
      exact ⟨a, xs, rfl, s1, fun p hp => q _ _ _ (f1.trans (FrE.put f1.view hp)) (rp_lst (f1.view.none hp) r2.reverse)⟩
    | tuple ds =>
      cases ev
      refine .inr ⟨env, Hs, _, ok, e1, fun v H1 Hs1 f1 r1 => ?_⟩
      obtain ⟨a, xs, rfl, s1, r2, _⟩ := Rq.tuple r1 f1.view
      exact ⟨a, xs, rfl, s1, fun p ob hob hp => q _ _ _ (f1.trans (FrE.put f1.view hp)) (rp_tupF (f1.view.none hp) r2.reverse hob)⟩
    | _ => cases ev
  · cases ev
end
end Wr
end

section
set_option Elab.async false
set_option linter.all false
set_option maxRecDepth 100000
set_option maxHeartbeats 4000000
/-! WrP: update, dict(pairs), min, max, sorted(d.items()). -/
namespace Wr
open PySem PySem.Spec PyProof.Rows L2
variable [Wld]
section
variable {X : Cx} {Ph : Nat → List PyData → Option PyData} {fr : Nat → Bool}
def rUpd : V → List V → Hp → VK → Prop := fun x xs H Q => ∃ d o ks ls, x = .ref d ∧ xs = [.ref o] ∧ d ≠ o ∧ H d = some (.dK ks) ∧ Rd H o (.dK ls) ∧ ks.length + ls.length ≤ sizeLine ∧ Q .non (upd H d (.dK (mergeK ks ls)))
theorem mt_update : MtM X "dict.update" rUpd := by
  intro pins s σ H x xs v us Q I rx rxs h
  obtain ⟨d, o, ks, ls, rfl, rfl, hne, hd, ho, hl, q⟩ := h
  obtain rfl : v = Value.ref d := rx
  obtain ⟨u, rfl, ru⟩ := vals1 rxs
  obtain rfl : u = Value.ref o := ru
  obtain ⟨z1, lo1, vs1, rel1, dd1⟩ := dk_of I.hok hd
  obtain ⟨z2, lo2, vs2, rel2, dd2⟩ := dk_rd I.hok ho
  have l1 : ks.length = vs1.length := Paired.length rel1
  have l2 : ls.length = vs2.length := Paired.length rel2
  refine call_meetsIn PySem.F.slot_dict_update dd1.typeIs PySem.F.entry_dict_update (PySem.F.args_dict_update_2 _ _) (meets_dict_update (mixKind X.prog X.w) d o hne lo2)
    ⟨vs1, vs2, dd1, dd2, by omega, fun h2 hm _ sb => ?_⟩
  have hex : ∃ q, h2.get? d = some q := by
    obtain ⟨ob, _, _, e, _⟩ := hm
    exact ⟨ob, e⟩
  refine ⟨.non, _, d_write (t' := s.toks) (ob := .dK (mergeK ks ls)) I (by rw [hd]; trivial) sb hex ?_, rfl, q⟩
  exact ⟨Nat.le_trans (length_mergeK _ _) hl, lo1, _, KV.merge rel2 rel1, hm⟩
theorem mergeK_cons (ks : List (Key × V)) (p : Key × V) (ls : List (Key × V)) : mergeK ks (p :: ls) = mergeK (putK ks p.1 p.2) ls := rfl
theorem ps_upd {i : Nat} {x : Str} {e : Expr} {ir : E} {p apos cpos pos : Pos} (hN : X.N[i]? = some x) (hv : Vis X.env.scope x) (hd : (x == ("__debug__" : Str)) = false) (hcd : (x == ("__classdict__" : Str)) = false) (he : PE X e (tE X.K Ph false ir))
    (hbase : attributeBase (.Name x p) "update" X.env (eval (.Name x p) X.env) = eval (.Name x p) X.env)
    (hfew : ((backTo cpos (starEach [e] X.env)).all (fun x => !x.1) && (backToKw cpos (keywordEach [] X.env)).all (fun x => x.1.isSome) && decide (([e] : List Expr).length + ([] : List Keyword).length + (if ([] : List Keyword).isEmpty then 0 else 1) < 30)) = true)
    (hline : (apos.endLine == cpos.line) = true) (hs : starEach [e] X.env = (false, eval e X.env) :: starEach [] X.env) (hplain : (backTo cpos (starEach [] X.env)).any (·.1) = false) (hsw : swapsWith (.Call (.Attribute (.Name x p) "update" apos) [e] [] cpos) none pos.line X.env = pure false) :
    PS X (.Expr (.Call (.Attribute (.Name x p) "update" apos) [e] [] cpos) pos) (tS X.K Ph fr (.upd i ir)) := by
  refine PS.mono (ps_expr (pe_bm PySem.F.plainAttrs_dict PySem.F.slot_dict_update PySem.F.type_dict_update mt_update (pe_var hN hv hd hcd) (pa_cons he pa_nil hs) hbase hfew hline hs hplain) hsw) fun D σ H q => ?_
  obtain ⟨env, Hs, out, ok, ev, q⟩ := q
  rw [exS] at ev
  split at ev
  · rename_i y e1
    split at ev
    · rename_i d e2
      obtain ⟨d', e3, rfl⟩ := Option.map_eq_some_iff.mp ev
      cases d <;> cases y <;> simp only [updD] at e3 <;> try cases e3
      rename_i ks ls
      split at e3
      · rename_i hlim
        cases e3
        obtain ⟨a, h1, h2⟩ := ok.ow i _ e2
        obtain ⟨xs, hx, _, _⟩ := own_dict h2
        refine ⟨_, h1, .inr (.inr (.inl ⟨rfl, .inl ⟨xs, hx⟩⟩)), env, Hs, _, ok, e1, fun v H1 Hs1 f1 r1 => ?_⟩
        obtain ⟨xs1, hx1, ra, hn⟩ := own_dict (f1.own h2)
        have r1' : Rp X.K Hs1 v (.dict ls) := r1
        cases r1' with
        | dic s r =>
          rename_i o ys
          have hne : a ≠ o := by
            rintro rfl
            rcases s with s | ⟨_, s⟩ <;> rw [hn] at s <;> cases s
          have := lim_line
          refine ⟨a, o, xs1, ys, rfl, rfl, hne, hx1, f1.view.1 _ _ s, by rw [ra.length, r.length]; omega, ?_⟩
          obtain ⟨ok2, f2⟩ := (ok.fr f1).mutate (o := .dK (mergeK xs1 ys)) (d' := .dict (mergeD ks ls)) e2 h1 hn (RpKV.merge r ra)
          exact q σ _ Hs1 ok2 ((FrS.ofE f1).trans f2)
      · cases e3
    · cases ev
  · cases ev
/-! dict(x) -/
theorem pairs_of {K : PySem.W.Frag} {Hs : Hp} : ∀ {xs : List V} {ds : List PyData} {kds : List (PyData × PyData)}, RpAll K Hs xs ds → pairsD ds = some kds → ∃ (ps : List Addr) (kvs : List (Key × V)), xs = ps.map V.ref ∧ Paired (fun p (kv : Key × V) => SqT K Hs p [kV kv.1, kv.2]) ps kvs ∧ RpKV K Hs kvs kds
  | _, _, _, .nil, h => by
    cases h
    exact ⟨[], [], rfl, .nil, .nil⟩
  | _, _, _, .cons (d := d) r t, h => by
    unfold pairsD at h
    split at h
    · cases ‹_ :: _ = []›
    · rename_i k v rest heq
      cases heq
      split at h
      · rename_i hk
        obtain ⟨kds, h1, rfl⟩ := Option.map_eq_some_iff.mp h
        obtain ⟨ps, kvs, e1, e2, e3⟩ := pairs_of t h1
        cases r with
        | tup s r hpl0 =>
          clear hpl0
          obtain ⟨x, y, rfl, rk, rv⟩ := r.two
          cases k <;> simp [keyD] at hk
          rename_i kk
          have hok : strOk kk = true := by cases rk; assumption
          cases rk
          exact ⟨_ :: ps, (.inr kk, y) :: kvs, by rw [e1]; rfl, .cons s e2, .cons hok rv e3⟩
      · cases h
    · cases h
theorem Paired.impP {α β : Type} {F G : α → β → Prop} (h : ∀ a b, F a b → G a b) : ∀ {l : List α} {m : List β}, Paired F l m → Paired G l m
  | _, _, .nil => .nil
  | _, _, .cons r t => .cons (h _ _ r) (Paired.impP h t)
theorem pairs_two {pins : List (Addr × Obj)} {σ : L2.St} {H : Hp} {s : Shared} (I : Inv X pins σ H s) : ∀ {ps : List Addr} {kvs : List (Key × V)}, Paired (fun p (kv : Key × V) => SqT X.K H p [kV kv.1, kv.2]) ps kvs →
    ∃ (prs : List (Key × Value)) (vps : List (Value × Value)), KV kvs prs ∧ vps.length = ps.length ∧ prs.length = ps.length ∧ ∀ (j : Nat) (k v : Value), vps[j]? = some (k, v) → ∃ (b : Addr) (q : Key), ps[j]? = some b ∧ s.heap.IsTuple b #[k, v] ∧ prs[j]? = some (q, v) ∧ (mixKind X.prog X.w).is q k = true
  | _, _, .nil => ⟨[], [], .nil, rfl, rfl, fun j k v e => by simp at e⟩
  | _, _, .cons (a := p) (b := kv) h t => by
    obtain ⟨prs, vps, r, l1, l2, hp⟩ := pairs_two I t
    obtain ⟨its, rv, ⟨ob, hob, hcl, n, hdt⟩, _⟩ := I.tuple h
    obtain ⟨u, y, ei, ru, ry⟩ := vals2 rv
    subst ei
    refine ⟨(kv.1, y) :: prs, (u, y) :: vps, .cons ⟨rfl, ry⟩ r, by rw [List.length_cons, List.length_cons, l1], by rw [List.length_cons, List.length_cons, l2], fun j k v e => ?_⟩
    cases j with
    | zero =>
      cases (Option.some.inj e : (u, y) = (k, v))
      exact ⟨p, kv.1, rfl, ⟨ob, hob, hcl, n, hdt⟩, rfl, kV_is (P := X.prog) (w := X.w) ru⟩
    | succ j =>
      obtain ⟨b, q, e1, e2, e3, e4⟩ := hp j k v (by simpa using e)
      exact ⟨b, q, by simpa using e1, e2, by simpa using e3, e4⟩
/-- dict(t) of a tuple of pairs that has no own dict -/
theorem call_dictPT (hcalm : X.calm = true) : CallR X (.type "dict") (fun xs H Q => ∃ (a : Addr) (ps : List Addr) (kvs : List (Key × V)), xs = [.ref a] ∧ SqT X.K H a (ps.map V.ref) ∧ Pln H a ∧ Paired (fun p (kv : Key × V) => SqT X.K H p [kV kv.1, kv.2]) ps kvs ∧
    ∀ p, H p = none → Q (.ref p) (upd H p (.dK (mergeK [] kvs)))) := by
  intro pins s σ H xs us Q I r q
  obtain ⟨a, ps, kvs, rfl, hq, ⟨o, xs', hf, hdn⟩, hp, q⟩ := q
  obtain ⟨u, rfl, rx⟩ := vals1 r
  cases rx
  obtain ⟨its, rv, ⟨o2, ho2, hc2, n2, hd2⟩, hz⟩ := I.tuple hq
  have ho : s.heap.get? a = some o := (show s.heap.get? a = some o ∧ _ from I.hok a _ hf).1
  rw [ho] at ho2
  cases ho2
  obtain rfl := refs_at rv
  rw [List.length_map] at hz
  obtain ⟨prs, vps, rel, l1, l2, hpr⟩ := pairs_two I hp
  have ok : PlainSeq "tuple" s.heap a (ps.map Value.ref).toArray ∧ PairItems s.heap (ps.map Value.ref).toArray (fun j => ps.getD j 0) vps := by
    refine ⟨⟨o, n2, ho, hc2, hdn, hd2⟩, by simp [l1], fun j k v e => ?_⟩
    obtain ⟨b, _, e1, e2, _, _⟩ := hpr j k v e
    have eb : ps.getD j 0 = b := by rw [List.getD_eq_getElem?_getD, e1]; rfl
    show (ps.map Value.ref).toArray[j]? = some (.ref (ps.getD j 0)) ∧ PairAt s.heap (ps.getD j 0) k v
    rw [eb]
    exact ⟨by simp [e1], .inl e2⟩
  refine PySem.call_dict_pairs (knd := mixKind X.prog X.w) (kvs := prs) (PairArg.tuple a _ _ vps) (I.ok.hd hcalm) ok ⟨by rw [l1, l2], fun i key v hr => ?_⟩ (by rw [l1]; exact hz) fun h' tk hd' k => ?_
  · obtain ⟨_, q', _, _, e3, e4⟩ := hpr i key v hr
    exact ⟨q', e3, e4⟩
  · have hm : (s.heap.objs.size == sysModules) = false := beq_eq_false_iff_ne.mpr (Nat.ne_of_gt I.big)
    have hlen : (mergeK [] kvs).length ≤ sizeLine := by
      refine Nat.le_trans (length_mergeK kvs []) ?_
      rw [List.length_nil, Nat.zero_add, rel.length, l2]
      exact hz
    exact ⟨.ref s.heap.objs.size, upd H s.heap.objs.size (.dK (mergeK [] kvs)), I.laid (t' := tk) (fun b ob e => k b ob (fun z => nomatch z) e) (Nat.le_refl _) (show ObjOk X.prog X.w _ _ _ (.dK (mergeK [] kvs)) from ⟨hlen, hm, merged [] prs, KV.merge rel .nil, hd'⟩), rfl, q _ (I.hok.fresh (Nat.le_refl _))⟩
theorem cb_dict (hc : X.calm = true) : CallR X (.type "dict") (rBlt X.K .dict1) := by
  refine CallR.mono (CallR.or (CallR.or (call_dictP hc) call_dictD) (call_dictPT hc)) fun xs H Q q => ?_
  obtain ⟨Hs, ds, d, w, r, e, q⟩ := q
  replace e : dict1D ds = some d := e
  unfold dict1D at e
  split at e
  · obtain ⟨kds, e1, rfl⟩ := Option.map_eq_some_iff.mp e
    obtain ⟨v, rfl, h⟩ := r.one
    obtain ⟨a, ys, rfl, s1, r1⟩ := (Rq.list (.inl h) w)
    obtain ⟨ps, kvs, rfl, hp, rk⟩ := pairs_of r1 e1
    exact .inl (.inl ⟨a, ps, kvs, rfl, s1, Paired.impP (fun _ _ z => w.seqT z) hp, fun l hl => q _ _ _ (FrE.alloc w hl) ⟨l, rfl, hl, own_dic w hl (RpKV.merge rk .nil)⟩⟩)
  · split at e
    · rename_i hpl
      obtain ⟨kds, e1, rfl⟩ := Option.map_eq_some_iff.mp e
      obtain ⟨v, rfl, h⟩ := r.one
      obtain ⟨a, ys, rfl, s1, r1, _, l1⟩ := (Rq.tuple (.inl h) w)
      obtain ⟨ps, kvs, rfl, hp, rk⟩ := pairs_of r1 e1
      exact .inr ⟨a, ps, kvs, rfl, s1, (l1 hpl).view w, Paired.impP (fun _ _ z => w.seqT z) hp, fun l hl => q _ _ _ (FrE.alloc w hl) ⟨l, rfl, hl, own_dic w hl (RpKV.merge rk .nil)⟩⟩
    · cases e
  · cases e
    obtain ⟨v, rfl, h⟩ := r.one
    obtain ⟨a, ys, rfl, s1, r1⟩ := (Rq.dict (.inl h) w)
    exact .inl (.inr ⟨a, ys, rfl, s1, fun l hl => q _ _ _ (FrE.alloc w hl) ⟨l, rfl, hl, own_dic w hl r1⟩⟩)
  · cases e
/-! min, max -/
theorem minI_spec : ∀ (ns : List Int) (x : Int), minI x ns ∈ x :: ns ∧ ∀ y ∈ x :: ns, minI x ns ≤ y
  | [], x => by simp [minI]
  | a :: ns, x => by
    rw [minI]
    obtain ⟨h1, h2⟩ := minI_spec ns (if a < x then a else x)
    refine ⟨?_, fun y hy => ?_⟩
    · rcases List.mem_cons.mp h1 with h | h
      · rw [h]; split <;> simp
      · exact List.mem_cons_of_mem _ (List.mem_cons_of_mem _ h)
    · have h3 := h2 _ List.mem_cons_self
      rcases List.mem_cons.mp hy with rfl | hy
      · split at h3 <;> split <;> omega
      · rcases List.mem_cons.mp hy with rfl | hy
        · split at h3 <;> split <;> omega
        · exact h2 y (List.mem_cons_of_mem _ hy)
theorem maxI_spec : ∀ (ns : List Int) (x : Int), maxI x ns ∈ x :: ns ∧ ∀ y ∈ x :: ns, y ≤ maxI x ns
  | [], x => by simp [maxI]
  | a :: ns, x => by
    rw [maxI]
    obtain ⟨h1, h2⟩ := maxI_spec ns (if x < a then a else x)
    refine ⟨?_, fun y hy => ?_⟩
    · rcases List.mem_cons.mp h1 with h | h
      · rw [h]; split <;> simp
      · exact List.mem_cons_of_mem _ (List.mem_cons_of_mem _ h)
    · have h3 := h2 _ List.mem_cons_self
      rcases List.mem_cons.mp hy with rfl | hy
      · split at h3 <;> split <;> omega
      · rcases List.mem_cons.mp hy with rfl | hy
        · split at h3 <;> split <;> omega
        · exact h2 y (List.mem_cons_of_mem _ hy)
theorem cb_min1 (hc : X.calm = true) : CallR X (.builtin "min") (rBlt X.K .min1) := by
  refine CallR.mono (cr_min hc) fun xs H Q q => ?_
  obtain ⟨Hs, ds, d, w, r, e, q⟩ := q
  replace e : min1D ds = some d := e
  unfold min1D at e
  split at e
  · obtain ⟨v, rfl, h⟩ := r.one
    obtain ⟨a, ys, rfl, s1, r1⟩ := (Rq.list (.inl h) w)
    unfold minD at e
    dsimp only at e
    split at e
    · rename_i x rest hi
      cases e
      obtain ⟨rfl, _⟩ := r1.ints hi
      obtain ⟨m1, m2⟩ := minI_spec rest x
      refine ⟨a, x :: rest, rfl, s1, by simp, fun m hm hle => ?_⟩
      have em : m = minI x rest := Int.le_antisymm (hle _ m1) (m2 _ hm)
      subst em
      exact q _ _ _ (FrE.refl w) (.int _)
    · cases e
  · cases e
theorem max_tupR {prog : Program} {w : World} {A : Around} {E : Value → Shared → Prop} {s : Shared} {l : Addr} {its : List Value} {ns : List Int} {Q : Value → Shared → Prop} (hh : A.handled = none) (hl : s.heap.IsTuple l its.toArray) (hi : IntsAre its ns) (hne : 0 < ns.length)
    (h : ∀ h' tk M t', (∀ b o, s.heap.get? b = some o → h'.get? b = some o) → M ∈ ns → (∀ a, a ∈ ns → a ≤ M) → Q (.int M t') { s with heap := h', toks := tk }) : wpAny (model prog w) A (call (.builtin "max") [.ref l]) Q E s := by
  obtain ⟨xs, e⟩ := hi.allInts.items
  have hn : numsOf (intItems xs).toList = ns := by rw [← e]; exact hi.numsOf
  rw [nums_intItems] at hn
  subst hn
  rw [e] at hl
  have hsz : 0 < xs.size := by simpa using hne
  have hlt : l < s.heap.objs.size := by obtain ⟨_, q, _⟩ := hl; exact Heap.lt_size q
  refine call_max_walk (wpAny_pyIter_tuple hl ?_)
  refine ⟨_, _, _, _, _, _, _, rfl, Walks.tuple (A := A.in1) hh _ l (Nat.ne_of_lt hlt) (intItems xs), ⟨⟨_, Heap.get?_push_size _ rfl, rfl, rfl⟩, hl.push _⟩, fun b hb => ?_, by simpa [intItems] using hsz, CmpOf.ints_gt (numAt xs) (fun _ _ => intItems_at), fun v h' tk hP hk => ?_⟩
  · show b < (s.heap.push _).objs.size
    rw [Heap.size_push]
    rcases List.mem_cons.mp hb with rfl | hb
    · exact Nat.lt_succ_self _
    · rw [List.mem_singleton.mp hb]
      exact Nat.lt_succ_of_lt hlt
  · rw [show (intItems xs).size = xs.size by simp [intItems]] at hP
    obtain ⟨t, rfl⟩ := intItems_at hP
    obtain ⟨h1, h2⟩ := argBest_gt (numAt xs) (xs.size - 1)
    refine h h' tk _ t (fun b o q => hk b o (fun hm => ?_) (Heap.get?_push_of_some _ q)) ?_ fun a ha => ?_
    · rw [List.mem_singleton.mp hm] at q
      exact absurd (Heap.lt_size q) (Nat.lt_irrefl _)
    · rw [numAt_eq]; exact PySem.getD_mem (by rw [List.length_map, Array.length_toList]; omega)
    · obtain ⟨j, hj, rfl⟩ := mem_getD ha
      rw [List.length_map, Array.length_toList] at hj
      rw [← numAt_eq]; exact h2 j (by omega)
theorem cr_maxT (hc : X.calm = true) : CallR X (.builtin "max") (fun vs H Q => ∃ (a : Addr) (ns : List Int), vs = [V.ref a] ∧ SqT X.K H a (ns.map V.int) ∧ 0 < ns.length ∧ ∀ m, m ∈ ns → (∀ y, y ∈ ns → y ≤ m) → Q (.int m) H) := by
  intro pins s σ H vs us Q I r h
  obtain ⟨a, ns, rfl, hs, hne, q⟩ := h
  obtain ⟨its, rv, hl, _⟩ := I.tuple hs
  rw [Vals.ref1 r]
  exact max_tupR (I.ok.hd hc) hl rv.ints hne fun h' tk m t' hk h1 h2 => ⟨.int _, H, I.kept hk, ⟨_, rfl⟩, q m h1 h2⟩
theorem cb_max1 (hc : X.calm = true) : CallR X (.builtin "max") (rBlt X.K .max1) := by
  refine CallR.mono (CallR.or (cr_max hc) (cr_maxT hc)) fun xs H Q q => ?_
  obtain ⟨Hs, ds, d, w, r, e, q⟩ := q
  replace e : max1D ds = some d := e
  unfold max1D at e
  split at e
  · obtain ⟨v, rfl, h⟩ := r.one
    obtain ⟨a, ys, rfl, s1, r1⟩ := (Rq.list (.inl h) w)
    unfold maxD at e
    dsimp only at e
    split at e
    · rename_i x rest hi
      cases e
      obtain ⟨rfl, _⟩ := r1.ints hi
      obtain ⟨m1, m2⟩ := maxI_spec rest x
      refine .inl ⟨a, x :: rest, rfl, s1, by simp, fun m hm hle => ?_⟩
      have em : m = maxI x rest := Int.le_antisymm (m2 _ hm) (hle _ m1)
      subst em
      exact q _ _ _ (FrE.refl w) (.int _)
    · cases e
  · obtain ⟨v, rfl, h⟩ := r.one
    obtain ⟨a, ys, rfl, s1, r1, _⟩ := (Rq.tuple (.inl h) w)
    unfold maxD at e
    dsimp only at e
    split at e
    · rename_i x rest hi
      cases e
      obtain ⟨rfl, _⟩ := r1.ints hi
      obtain ⟨m1, m2⟩ := maxI_spec rest x
      refine .inr ⟨a, x :: rest, rfl, s1, by simp, fun m hm hle => ?_⟩
      have em : m = maxI x rest := Int.le_antisymm (m2 _ hm) (hle _ m1)
      subst em
      exact q _ _ _ (FrE.refl w) (.int _)
    · cases e
  · cases e
/-! d.items() -/
theorem tups_laid {pins : List (Addr × Obj)} {σ : L2.St} {H : Hp} {s : Shared} {h2 : Heap} {tk : Nat} {kvs : List (Key × V)} {vs : List (Key × Value)} {as : List Addr} (I : Inv X pins σ H s) (kv : KV kvs vs)
    (hk : ∀ b o, s.heap.get? b = some o → h2.get? b = some o) (hl : as.length = vs.length) (hG : PySem.W.KdxG (mixKind X.prog X.w) vs s.heap.objs.size h2 as) :
    ∃ H2 : Hp, (∀ b o, H b = some o → H2 b = some o) ∧ (∀ t ∈ as, H t = none) ∧ (∀ b, b ∉ as → H2 b = H b) ∧ Paired (fun (t : Addr) (q : Key × V) => H2 t = some (.tup [kV q.1, q.2])) as kvs ∧ Inv X pins σ H2 { s with heap := h2, toks := tk } := by
  have lk : kvs.length = vs.length := Paired.length kv
  have nd : as.Nodup := List.Pairwise.imp (fun {a b} (z : a < b) => Nat.ne_of_lt z) hG.rise
  have fresh : ∀ t ∈ as, H t = none := fun t ht => I.hok.fresh (Nat.le_of_lt (hG.above t ht))
  have laid := LiI.putT_at as kvs H (by omega) nd
  have off : ∀ b, b ∉ as → LiI.putT H as kvs b = H b := fun b hb => LiI.putT_off as kvs _ hb
  have kp : ∀ b u, H b = some u → LiI.putT H as kvs b = some u := fun b u e => by
    rw [off b (fun z => by rw [fresh b z] at e; cases e)]
    exact e
  refine ⟨LiI.putT H as kvs, kp, fresh, off, laid, ?_⟩
  refine I.call' (ch := []) rfl ⟨fun b o q _ _ _ => hk b o q, fun b o q _ _ _ => ⟨o.slots, hk b o q⟩, fun b o q n _ => ?_, fun b o q _ => ⟨o, hk b o q⟩, fun b xs q => kp b _ q, fun b o u q => kp b _ q, fun b ps q => ⟨#[], by rw [kp b _ q]; simp⟩⟩ (fun b u q => ?_) I.bare fun b z => by simp at z
  · rw [off b fun z => absurd (Heap.lt_size q) (Nat.not_lt.mpr (Nat.le_of_lt (hG.above b z)))]
    exact n
  · by_cases hb : b ∈ as
    · obtain ⟨j, pk, e1, e2, e3⟩ := LiI.paired_ix laid hb
      rw [e3] at q
      cases q
      obtain ⟨key, k, x, g1, g2, g3⟩ := hG.pairs j b e1
      obtain ⟨qv, g4, g5, g6⟩ := LiI.paired_get kv e2
      rw [g1] at g4
      cases g4
      have rk : RelV (kV pk.1) key := by
        rw [g5]
        exact keyIs_rel (show keyIs k key = true from g2)
      exact ⟨by show 2 ≤ sizeLine; decide, [key, x], .cons rk (.cons g6 .nil), ⟨_, g3, rfl, _, rfl⟩⟩
    · rw [off b hb] at q
      exact (I.hok b u q).stay (fun d v _ y => hk d v y) (fun d y => kp d _ y) fun d xs y => kp d _ y
theorem rp_items {K : PySem.W.Frag} {Hs H2 : Hp} : ∀ {as : List Addr} {kvs : List (Key × V)} {kds : List (PyData × PyData)}, Paired (fun (t : Addr) (q : Key × V) => H2 t = some (.tup [kV q.1, q.2])) as kvs → RpKV K Hs kvs kds → View Hs H2 → RpAll K H2 (as.map V.ref) (itemsD kds)
  | _, _, _, .nil, .nil, _ => .nil
  | _, _, _, .cons h t, .cons hok rv r, w => .cons (.tup (SqT.of h) (.cons (.str _ hok) (.cons (rv.view w) .nil)) fun z => nomatch z) (rp_items t r w)
theorem col_items {d r : Addr} {kvs : List (Key × V)} {kds : List (PyData × PyData)} {Hs : Hp} {pins : List (Addr × Obj)} {σ : L2.St} {H : Hp} {s : Shared} (hc : X.calm = true) (I : Inv X pins σ H s) (w : View Hs H) (hr : s.heap.IsItemsView r d) (h : Rd H d (.dK kvs)) (rx : RpKV X.K Hs kvs kds) :
    ColD X pins σ H Hs s (.ref r) (itemsD kds) := by
  intro E Q q
  obtain ⟨z, lo, vs, rk, hd⟩ := dk_rd I.hok h
  obtain ⟨ep, hat⟩ := hd.dictAt
  have hl : kvs.length = vs.length := Paired.length rk
  refine PySem.W.kdx_collect (A := X.A.in1) (knd := mixKind X.prog X.w) (kvs := vs) (ep := ep) (I.ok.hd hc) hr hat (by omega) fun h2 tk as hk hl2 hG => ?_
  obtain ⟨H2, k1, k2, k3, k4, J⟩ := tups_laid (tk := tk) I rk hk hl2 hG
  have wv : View Hs H2 := ⟨fun b u e => by
    rcases w.1 b u e with z | ⟨o, z⟩
    · exact .inl (k1 _ _ z)
    · exact .inr ⟨o, k1 _ _ z⟩, fun b o xs e => k1 _ _ (w.2 b o xs e)⟩
  -- the new tuples are shared
  let Hs2 : Hp := fun b => if b ∈ as then H2 b else Hs b
  have e1 : ∀ b, b ∈ as → Hs2 b = H2 b := fun b hb => if_pos hb
  have e2 : ∀ b, b ∉ as → Hs2 b = Hs b := fun b hb => if_neg hb
  have sh : Same Hs Hs2 := fun b u e => by
    rw [e2 b fun z => by have := w.none (k2 b z); rw [e] at this; cases this]
    exact e
  have v2 : View Hs2 H2 := ⟨fun b u e => by
    by_cases hb : b ∈ as
    · unfold Rd at e ⊢
      rw [e1 b hb] at e
      exact e
    · have e' : Rd Hs b u := by unfold Rd at e ⊢; rw [e2 b hb] at e; exact e
      exact wv.1 b u e', fun b o xs e => by
    by_cases hb : b ∈ as
    · rw [e1 b hb] at e
      exact e
    · rw [e2 b hb] at e
      exact wv.2 b o xs e⟩
  have f : FrE H Hs H2 Hs2 := ⟨k1, sh, v2, fun b h1 h2 => by
    by_cases hb : b ∈ as
    · exact k2 b hb
    · rw [e2 b hb] at h2; exact absurd h1 h2⟩
  have k4' : Paired (fun (t : Addr) (q : Key × V) => Hs2 t = some (.tup [kV q.1, q.2])) as kvs := by
    have : ∀ {ts : List Addr} {ks : List (Key × V)}, Paired (fun (t : Addr) (q : Key × V) => H2 t = some (.tup [kV q.1, q.2])) ts ks → (∀ t ∈ ts, t ∈ as) → Paired (fun (t : Addr) (q : Key × V) => Hs2 t = some (.tup [kV q.1, q.2])) ts ks := by
      intro ts ks p
      induction p with
      | nil => exact fun _ => .nil
      | cons h t ih => exact fun hm => .cons (by rw [e1 _ (hm _ List.mem_cons_self)]; exact h) (ih fun t ht => hm t (List.mem_cons_of_mem _ ht))
    exact this k4 fun _ h => h
  refine q _ H2 Hs2 (as.map V.ref) _ J f (LiI.vals_refs as) (rp_items k4' rx (View.of_same sh)) ?_
  rw [List.length_map]
  omega
theorem pe_sortitems {o : Expr} {x : E} {p apos mpos pos : Pos} (hun : X.A.units + 66 < cLine) (hc : X.calm = true) (hg : Gl X "sorted") (hm : X.mg "sorted" = none) (hd : PE X o (tE X.K Ph false x)) (hbase : attributeBase o "items" X.env (eval o X.env) = eval o X.env) (hline : (apos.endLine == mpos.line) = true)
    (hse : starEach [Expr.Call (.Attribute o "items" apos) [] [] mpos] X.env = [(false, eval (Expr.Call (.Attribute o "items" apos) [] [] mpos) X.env)]) :
    PE X (.Call (.Name "sorted" p) [.Call (.Attribute o "items" apos) [] [] mpos] [] pos) (tE X.K Ph false (.blt .sortitems (.cons x .nil))) := by
  refine ⟨fun pins s σ H Q I hh => ?_⟩
  obtain ⟨env, Hs, d, ok, ev, q⟩ := hh
  rw [evE] at ev
  split at ev
  · rename_i ds e0
    rw [evEs] at e0
    split at e0
    · rename_i d0 e1
      rw [evEs] at e0
      cases e0
      replace ev : sortitemsD [d0] = some d := ev
      cases d0 <;> simp only [sortitemsD] at ev <;> try cases ev
      rename_i kds
      refine wpAny_Call_Name_kw (ld_blt I hg hm (u := .builtin "sorted") PyProof.Rows.boot_sorted ?_ (by decide) (by decide))
      rw [hse]
      refine PySem.callWith_builtin1 (wpAny_Call_method0_late hbase hline (thn (hd.run pins s σ H (fun v H1 => ∃ Hs1, FrE H Hs H1 Hs1 ∧ Rp X.K Hs1 v (.dict kds)) I ⟨env, Hs, _, ok, e1, fun v H1 Hs1 f1 r1 => ⟨Hs1, f1, r1⟩⟩) fun v s1 ⟨xv, H1, I1, rv, Hs1, f1, r1⟩ => ?_))
      cases r1 with
      | dic sq rk =>
        rename_i a kvs
        obtain rfl : v = Value.ref a := rv
        have hrd := f1.view.1 _ _ sq
        obtain ⟨z, lo, vs, rel, dof⟩ := dk_rd I1.hok hrd
        obtain ⟨ep, dat⟩ := dof.dictAt
        obtain ⟨ob, es, ho, ex, hdat, hko, hpr, hnd⟩ := id dat
        refine ⟨"dict", "dict.items", F.plainAttrs_dict, F.slot_dict_items, F.type_dict_items, ⟨ob, ho, ex.1⟩, fun b e => ?_, Calls.callWith_builtin rfl (PySem.evalArgs_none ?_)⟩
        · cases e
          exact ⟨ob, ho, ex.2.1⟩
        refine call_meetsIn F.slot_dict_items ⟨ob, ho, ex.1⟩ F.entry_dict_items (F.args_dict_items_1 _) (meets_dict_items (mixKind X.prog X.w) a lo) ⟨⟨vs, dof⟩, ?_⟩
        have I2 : Inv X pins σ H1 { s1 with heap := s1.heap.push { cls := .type "dict_items", data := .fields #[.ref a] } } := I1.kept (t' := s1.toks) fun b ob q => Heap.get?_push_of_some _ q
        refine sorted_of_col hun (col_items hc I2 f1.view ⟨_, Heap.get?_push_size _ rfl, rfl, rfl⟩ hrd rk) ev fun p2 ys H2 Hs2 f2 hp ed ry => ?_
        subst ed
        exact q _ _ _ ((f1.trans f2).trans (FrE.put f2.view hp)) (rp_lst (f2.view.none hp) ry)
    · cases e0
  · cases ev
end
end Wr
end

section
set_option Elab.async false
set_option linter.all false
set_option maxRecDepth 100000
set_option maxHeartbeats 4000000
/-! WrPa: list(range(n)). -/
namespace Wr
open PySem PySem.Spec PyProof.Rows L2
variable [Wld]
section
variable {X : Cx} {Ph : Nat → List PyData → Option PyData} {fr : Nat → Bool}
theorem cr_rng1 : CallR X (.type "range") (fun vs H Q => ∃ j, vs = [V.int j] ∧ ∀ p, H p = none → Q (.ref p) (upd H p (.rng 0 j))) := by
  intro pins s σ H vs us Q I r h
  obtain ⟨j, rfl, q⟩ := h
  obtain ⟨u1, rfl, rj⟩ := vals1 r
  obtain ⟨u, rfl⟩ := rj
  have J := I.laid (o := .rng 0 j) (t' := s.toks + 1 + 1) (h' := s.heap.push { cls := .type "range", data := .fields #[.int 0 s.toks, .int j u, .int 1 (s.toks + 1)] }) (fun b o e => Heap.get?_push_of_some _ e) (Nat.le_refl _) ⟨s.toks, u, s.toks + 1, Heap.get?_push_size _ rfl⟩
  exact call_range_1 ⟨.ref s.heap.objs.size, _, J, rfl, q _ (I.hok.fresh (Nat.le_refl _))⟩
def rngV (n : Nat) : List V := (List.range n).map fun k => V.int (k : Nat)
theorem cr_list_rng (hc : X.calm = true) : CallR X (.type "list") (fun xs H Q => ∃ p j, xs = [V.ref p] ∧ H p = some (.rng 0 j) ∧ -1000000 ≤ j ∧ j ≤ 1000000 ∧ ∀ q, H q = none → Q (.ref q) (upd H q (.lst (rngV j.toNat)))) := by
  intro pins s σ H xs us Q I r h
  obtain ⟨p, j, rfl, hp, b1, b2, q⟩ := h
  obtain ⟨u, rfl, ru⟩ := vals1 r
  obtain rfl : u = Value.ref p := ru
  obtain ⟨t1, t2, t3, ho⟩ := I.hok p _ hp
  have hn : Builtin.Range.rangeSize 0 j 1 = ((j.toNat : Nat) : Int) := by
    have z := rangeSize_nat 0 j
    rwa [Int.sub_zero] at z
  refine call_list_range (n := j.toNat) (I.ok.hd hc) ho (small_one (by omega) (by omega) (by omega) (by omega)) hn (by omega) fun h' tk acc' c' hkeep hS hacc => ?_
  have hlen : (rngV j.toNat).length = j.toNat := by rw [rngV, List.length_map, List.length_range]
  refine ⟨.ref s.heap.objs.size, upd H s.heap.objs.size (.lst (rngV j.toNat)), I.laid hkeep (Nat.le_refl _) (show ObjOk X.prog X.w _ _ _ (.lst (rngV j.toNat)) from ⟨?_, acc'.toList, c', ?_, ?_⟩), rfl, q _ (I.hok.fresh (Nat.le_refl _))⟩
  · rw [hlen]
    have : (1000000 : Nat) ≤ sizeLine := by decide
    omega
  · have el : acc'.toList.length = acc'.size := by simp
    refine vals_of_at (by rw [hlen, el, hacc.1]) fun i x w h1 h2 => ?_
    obtain ⟨t, rfl⟩ := hacc.2 i w (by rw [← Array.getElem?_toList]; exact h2)
    rw [rngV, List.getElem?_map] at h1
    cases hr : (List.range j.toNat)[i]? with
    | none => rw [hr] at h1; cases h1
    | some y =>
      rw [hr] at h1
      cases h1
      obtain ⟨_, hy⟩ := List.getElem?_eq_some_iff.mp hr
      rw [List.getElem_range] at hy
      subst hy
      exact ⟨t, by rw [Int.zero_add, Int.mul_one]⟩
  · rw [Array.toArray_toList]; exact hS
theorem rngV_rp {K : PySem.W.Frag} {H : Hp} (j : Int) : RpAll K H (rngV j.toNat) (rngD 0 j) := by
  rw [rngV, rngD, Int.sub_zero]
  generalize List.range j.toNat = l
  induction l with
  | nil => exact .nil
  | cons k t ih => exact .cons (by show Rp K H (V.int (k : Nat)) (PyData.int (0 + (k : Nat))); rw [Int.zero_add]; exact .int _) ih
theorem pe_listrng {e : Expr} {x : E} {p p2 pos pos2 : Pos} (hc : X.calm = true) (hg : Gl X "list") (hm : X.mg "list" = none) (hg2 : Gl X "range") (hm2 : X.mg "range" = none) (ha : PE X e (tE X.K Ph false x))
    (hs : starEach [e] X.env = (false, eval e X.env) :: starEach [] X.env) :
    PE X (.Call (.Name "list" p) [.Call (.Name "range" p2) [e] [] pos2] [] pos) (tE X.K Ph true (.blt .listrng (.cons x .nil))) := by
  refine PE.mono (pe_callTy (cr_list_rng hc) hg hm (by decide +kernel) (pa_cons (pe_callTy cr_rng1 hg2 hm2 (by decide +kernel) (pa_cons ha pa_nil hs) (he := hs)) pa_nil)) fun σ H Q q => ?_
  obtain ⟨env, Hs, d, ok, ev, q⟩ := q
  rw [evE] at ev
  split at ev
  · rename_i ds e0
    rw [evEs] at e0
    split at e0
    · rename_i d0 e1
      rw [evEs] at e0
      cases e0
      replace ev : listrngD [d0] = some d := ev
      cases d0 <;> simp only [listrngD] at ev <;> try cases ev
      rename_i j
      split at ev
      · rename_i ho
        cases ev
        simp only [rngOk, Bool.and_eq_true, decide_eq_true_eq] at ho
        refine ⟨env, Hs, _, ok, e1, fun v H1 Hs1 f1 r1 => ?_⟩
        cases r1
        refine ⟨j, rfl, fun a ha => ?_⟩
        refine ⟨a, j, rfl, upd_same, by omega, by omega, fun b hb => ?_⟩
        have f2 := FrE.alloc (o := .rng 0 j) f1.view ha
        have f3 := FrE.alloc (o := .lst (rngV j.toNat)) f2.view hb
        exact q _ _ _ ((f1.trans f2).trans f3) ⟨b, rfl, (f1.trans f2).same.free hb, own_lst f2.view hb (rngV_rp j)⟩
      · cases ev
    · cases e0
  · cases ev
end
end Wr
end

section
set_option Elab.async false
set_option linter.all false
set_option maxRecDepth 100000
set_option maxHeartbeats 4000000
/-! WrPb: set(xs) of ints and texts; its length, its members sorted. -/
namespace Wr
open PySem PySem.Spec PyProof.Rows L2
variable [Wld]

/-- the set at a: its members are L, each once -/
def SetM (P : Program) (w : World) (h : Heap) (a : Addr) (L : List Key) : Prop :=
  ∃ (o : Obj) (es : Array (Int × Value)) (ep : Nat) (t : SetTable),
    (h.get? a = some o ∧ o.ExactSet ∧ o.data = .set es ep t) ∧
    (ElemsOf (mixKind P w) es.toList ∧ ∀ k, k ∈ L ↔ ∃ e ∈ es.toList, (mixKind P w).is k e.2 = true) ∧
    (es.size < scanBound ∧ t.fits es.size = true ∧ es.size = L.length ∧ L.Nodup) ∧
    (Ris t.place.toList ∧ (w.params.followText "set-order" = true ∨ t.led = true))
open Classical in
/-- one more member -/
noncomputable def addK (L : List Key) (k : Key) : List Key := if k ∈ L then L else L ++ [k]
theorem mem_addK {L : List Key} {k j : Key} : j ∈ addK L k ↔ j ∈ L ∨ j = k := by
  unfold addK
  split
  · rename_i h
    exact ⟨.inl, fun z => z.elim id fun e => by rw [e]; exact h⟩
  · rw [List.mem_append, List.mem_singleton]
noncomputable def metK (ks : List Key) : List Key := ks.foldl addK []
section
variable {P : Program} {w : World} {A : Around} {E : Value → Shared → Prop} {s : Shared} {a : Addr}
theorem SetM.at {h h' : Heap} {L : List Key} (R : SetM P w h a L) (kp : ∀ o, h.get? a = some o → h'.get? a = some o) : SetM P w h' a L := by
  obtain ⟨o, es, ep, t, ⟨h1, h2⟩, r⟩ := R
  exact ⟨o, es, ep, t, ⟨kp o h1, h2⟩, r⟩
theorem setM_tail {g : Bool → Sem Unit} (hg : ∀ (b : Bool) (sx : Shared) (Qx : Unit → Shared → Prop), Qx () sx → wpAny (model P w) A (g b) Qx E sx)
    {o : Obj} {es esN : Array (Int × Value)} {ep : Nat} {t tN : SetTable} {L : List Key}
    (ho : s.heap.get? a = some o) (hx : o.ExactSet) (hd : o.data = .set es ep t)
    (el : ElemsOf (mixKind P w) esN.toList) (mem : ∀ k, k ∈ L ↔ ∃ e ∈ esN.toList, (mixKind P w).is k e.2 = true)
    (b : esN.size < scanBound) (ft : tN.fits esN.size = true) (n : esN.size = L.length) (nd : L.Nodup)
    (rs : Ris tN.place.toList) (ld : w.params.followText "set-order" = true ∨ tN.led = true) {dm : Bool} {R : Option Bool → Shared → Prop}
    (q : ∀ h', Heap.SameBut a s.heap h' → SetM P w h' a L → R (some true) { s with heap := h' }) :
    wpAny (model P w) A (do
        storeSet a esN tN
        if (!dm && tN.tooFull) = true then do
            g (relayAll tN esN (SetTable.grown esN.size)).2.2
            storeSet a (relayAll tN esN (SetTable.grown esN.size)).1 (relayAll tN esN (SetTable.grown esN.size)).2.1
            pure (some true)
          else pure (some true)) R E s := by
  refine wpAny_bind (wpAny_storeSet_of ho hd ?_ (fits_of_scanBound b))
  have hN := store_at (es' := esN) (t' := tN) ho hd
  have sb := Heap.SameBut.update s.heap a (Obj.putSet esN tN)
  split
  · have c1 := relayAll_perm tN esN (SetTable.grown esN.size)
    have c2 := relayAll_fits tN esN (SetTable.grown esN.size)
    have c3 := relayAll_ris tN esN (SetTable.grown esN.size)
    have c4 := relayAll_led tN esN (SetTable.grown esN.size)
    generalize relayAll tN esN (SetTable.grown esN.size) = y at c1 c2 c3 c4 ⊢
    obtain ⟨esM, tM, gv⟩ := y
    dsimp only at c1 c2 c3 c4 ⊢
    have z : esM.size = esN.size := by
      rw [← Array.length_toList, c1.length_eq, Array.length_toList]
    refine wpAny_bind (hg _ _ _ ?_)
    refine wpAny_bind (wpAny_storeSet_of hN rfl ?_ (fits_of_scanBound (by rw [z]; exact b)))
    have hM := store_at (es' := esM) (t' := tM) hN rfl
    refine wpAny_pure (q _ (sb.trans (Heap.SameBut.update _ a _)) ⟨_, esM, _, tM, ⟨hM, hx, rfl⟩, ⟨el.perm c1, fun k => (mem k).trans ?_⟩, ⟨by rw [z]; exact b, c2, by rw [z]; exact n, nd⟩, c3, ?_⟩)
    · exact ⟨fun ⟨e, m, i⟩ => ⟨e, c1.mem_iff.mpr m, i⟩, fun ⟨e, m, i⟩ => ⟨e, c1.mem_iff.mp m, i⟩⟩
    · rcases ld with ld | ld
      · exact .inl ld
      · exact .inr (by rw [c4]; exact ld)
  · exact wpAny_pure (q _ sb ⟨_, esN, _, tN, ⟨hN, hx, rfl⟩, ⟨el, mem⟩, ⟨b, ft, n, nd⟩, rs, ld⟩)

theorem setM_add {k : Key} {u : Value} {L : List Key} {Q : Bool → Shared → Prop} (R : SetM P w s.heap a L) (ik : (mixKind P w).is k u = true) (sc : u.scannable = true)
    (rm : L.length + 1 < scanBound) (hQ : ∀ h' b, Heap.SameBut a s.heap h' → SetM P w h' a (addK L k) → Q b { s with heap := h' }) :
    wpAny (model P w) A (setAddHashed a u ((mixKind P w).hash k)) Q E s := by
  obtain ⟨o, es, ep, t, ⟨ho, hx, hd⟩, ⟨el, mem⟩, ⟨bd, ft, n, nd⟩, rs, ld⟩ := R
  unfold setAddHashed setAddHashedIn
  refine wpAny_holding (wpAny_bind (wpAny_setState_of ho hd ft ?_))
  dsimp only
  rw [byScan_of sc bd el]
  simp only [↓reduceIte]
  unfold setAddByScan
  refine wpAny_bind ?_
  refine wpAny_bind (wpAny_rule ?_)
  refine wpAny_bind (wpAny_setScan_of ik ho hd ft el ?_)
  have hin : k ∈ L ↔ (List.findIdx? (fun e => (mixKind P w).is k e.2) es.toList).isSome = true := by
    rw [mem k, List.findIdx?_isSome, List.any_eq_true]
  cases hi : List.findIdx? (fun e => (mixKind P w).is k e.2) es.toList with
  | some j =>
    dsimp only
    have kL : k ∈ L := hin.mpr (by rw [hi]; rfl)
    refine wpAny_pure (wpAny_pure ?_)
    refine hQ s.heap _ (Heap.SameBut.refl a s.heap) ⟨o, es, ep, t, ⟨ho, hx, hd⟩, ?_⟩
    unfold addK
    rw [if_pos kL]
    exact ⟨⟨el, mem⟩, ⟨bd, ft, n, nd⟩, rs, ld⟩
  | none =>
    dsimp only
    have kL : k ∉ L := fun z => by
      have := hin.mp z
      rw [hi] at this
      cases this
    have eL : addK L k = L ++ [k] := if_neg kL
    have gw : ∀ (b : Bool) (sx : Shared) (Qx : Unit → Shared → Prop), Qx () sx → wpAny (model P w) A (match b with | true => rule "set.scan.the-table-gave-way" | false => pure ()) Qx E sx := by
      intro b sx Qx qx
      cases b
      · exact wpAny_pure qx
      · exact wpAny_rule qx
    have c1 := layNew_perm t es ((mixKind P w).hash k) u
    have c2 := layNew_fits t es ((mixKind P w).hash k) u
    have c3 := layNew_ris t es ((mixKind P w).hash k) u rs
    have c4 := layNew_led t es ((mixKind P w).hash k) u
    generalize layNew t es ((mixKind P w).hash k) u = y at c1 c2 c3 c4 ⊢
    obtain ⟨esN, tN, dm, gv⟩ := y
    dsimp only at c1 c2 c3 c4 ⊢
    rw [Array.toList_push] at c1
    have elN : ElemsOf (mixKind P w) esN.toList := (el.push ik sc).perm c1
    have z : esN.size = L.length + 1 := by
      rw [← Array.length_toList, c1.length_eq, List.length_append, Array.length_toList, n]
      rfl
    have memN : ∀ i, i ∈ L ++ [k] ↔ ∃ e ∈ esN.toList, (mixKind P w).is i e.2 = true := fun i => by
      rw [List.mem_append, mem i, List.mem_singleton]
      constructor
      · rintro (⟨e, m, q⟩ | rfl)
        · exact ⟨e, c1.mem_iff.mpr (List.mem_append_left _ m), q⟩
        · exact ⟨_, c1.mem_iff.mpr (List.mem_append_right _ (List.mem_singleton.mpr rfl)), ik⟩
      · rintro ⟨e, m, q⟩
        rcases List.mem_append.mp (c1.mem_iff.mp m) with m | m
        · exact .inl ⟨e, m, q⟩
        · rw [List.mem_singleton] at m
          subst m
          exact .inr ((mixKind P w).inj u i k q ik)
    have bN : esN.size < scanBound := by rw [z]; exact rm
    have nN : esN.size = (L ++ [k]).length := by rw [z, List.length_append]; rfl
    have ndN : (L ++ [k]).Nodup := by
      rw [List.nodup_append]
      refine ⟨nd, by simp, fun x hx y hy e => ?_⟩
      rw [List.mem_singleton] at hy
      subst e hy
      exact kL hx
    have ldN : w.params.followText "set-order" = true ∨ tN.led = true := ld.imp id fun q => by rw [c4]; exact q
    have fin : ∀ h', Heap.SameBut a s.heap h' → SetM P w h' a (L ++ [k]) → ∀ b, Q b { s with heap := h' } := fun h' sb r b => hQ h' b sb (by rw [eL]; exact r)
    refine wpAny_bind (gw _ _ _ ?_)
    split
    · refine wpAny_bind ?_
      rw [hashByValue_scannable 8 sc]
      refine wpAny_pure ?_
      refine setM_tail (fun b sx Qx qx => ?_) ho hx hd elN memN bN ?_ nN ndN ?_ ?_ (fun h' sb r => ?_)
      · cases b
        · exact wpAny_pure qx
        · exact wpAny_rule qx
      · split
        · exact c2
        · exact SetTable.fits_plain_off c2
      · split <;> exact c3
      · split <;> exact ldN
      · dsimp only
        exact wpAny_pure (fin h' sb r _)
    · refine wpAny_bind (wpAny_pure ?_)
      simp only [↓reduceIte]
      refine setM_tail (fun b sx Qx qx => ?_) ho hx hd elN memN bN c2 nN ndN c3 ldN (fun h' sb r => ?_)
      · cases b
        · exact wpAny_pure qx
        · exact wpAny_rule qx
      · dsimp only
        exact wpAny_pure (fin h' sb r _)
theorem foldK_len : ∀ (ks L : List Key), (ks.foldl addK L).length ≤ L.length + ks.length
  | [], L => by simp
  | k :: ks, L => by
    have h := foldK_len ks (addK L k)
    have h2 : (addK L k).length ≤ L.length + 1 := by
      unfold addK
      split <;> simp
    rw [List.foldl_cons, List.length_cons]
    omega
theorem metK_take {ks : List Key} {i : Nat} {k : Key} (h : ks[i]? = some k) : metK (ks.take (i + 1)) = addK (metK (ks.take i)) k := by
  unfold metK
  rw [List.take_add_one, h, List.foldl_append]
  rfl
theorem foldK_mem : ∀ (ks L : List Key) (j : Key), j ∈ ks.foldl addK L ↔ j ∈ L ∨ j ∈ ks
  | [], L, j => by simp
  | k :: ks, L, j => by
    rw [List.foldl_cons, foldK_mem ks, mem_addK, List.mem_cons]
    exact or_assoc
theorem setM_new {h : Heap} (ho : h.get? a = some { cls := .type "set", dict := none, data := .set #[] 0 (.fresh 0 0 (!w.params.followText "set-order")) }) : SetM P w h a [] := by
  refine ⟨_, #[], 0, _, ⟨ho, ⟨rfl, rfl, rfl⟩, rfl⟩, ⟨fun e m => by simp at m, fun k => by simp⟩, ⟨by decide, rfl, rfl, List.nodup_nil⟩, List.Pairwise.nil, ?_⟩
  show _ ∨ (!w.params.followText "set-order") = true
  cases w.params.followText "set-order" <;> simp
theorem setM_loop {I : Addr} {fp wr : List Addr} {G : Array GenState → Array GenState → Prop} {n : Nat} {Pv : Nat → Value → Prop} {St : Nat → Shared → Prop} {R : Result → Shared → Prop}
    (W : WalksS P w A.in1 I fp wr G n Pv St) (D : Addr) (hD : D ∉ fp) (ks : List Key) (hn : n = ks.length) (hb : ks.length + 1 < scanBound)
    (hv : ∀ i v, Pv i v → ∃ k, ks[i]? = some k ∧ (mixKind P w).is k v = true ∧ v.scannable = true) :
    ∀ (m i : Nat) (s : Shared), n - i = m → i ≤ n → St i s → SetM P w s.heap D (metK (ks.take i)) →
      (∀ s', Moved (D :: wr) G s s' → SetM P w s'.heap D (metK ks) → R (.ok (.ret .none)) s') →
      codeAny (model P w) A (.builtin "set.update.loop" ⟨[.ref D, .ref I], []⟩) R s := by
  have dw : D ∉ wr := fun z => hD (W.sub _ z)
  have up : ∀ b ∈ wr, b ∈ D :: wr := fun b z => List.mem_cons_of_mem _ z
  intro m
  induction m with
  | zero =>
    intro i s e1 e2 st hS q
    obtain rfl : i = n := by omega
    refine codeAny_builtin F.entry_set_update_loop ?_
    rw [Around.under_plainId F.plain_set_update_loop _]
    show wpAny _ A.in1 (pyNext (.ref I) >>= _) _ _ s
    refine wpAny_bind (W.done s _ _ st fun s' mv => ?_)
    show wpAny _ A.in1 (ret Value.none) _ _ s'
    rw [List.take_of_length_le (by omega)] at hS
    exact wpAny_pure (q s' (mv.mono up) (hS.at fun o z => mv.heap D o dw z))
  | succ m ih =>
    intro i s e1 e2 st hS q
    have lt : i < n := by omega
    refine codeAny_builtin F.entry_set_update_loop ?_
    rw [Around.under_plainId F.plain_set_update_loop _]
    show wpAny _ A.in1 (pyNext (.ref I) >>= _) _ _ s
    refine wpAny_bind (W.item i s _ _ lt st fun v s' pv st' mv => ?_)
    obtain ⟨k, hk, ik, sc⟩ := hv i v pv
    show wpAny _ A.in1 (holding [v] (setAdd D v) >>= _) _ _ s'
    refine wpAny_bind (wpAny_holding ?_)
    unfold setAdd
    refine wpAny_holding ?_
    refine wpAny_bind ((mixKind P w).pyHash ik ?_)
    have lb : (metK (ks.take i)).length ≤ i := by
      have := foldK_len (ks.take i) []
      rw [List.length_take] at this
      simp only [List.length_nil] at this
      show (List.foldl addK [] (ks.take i)).length ≤ i
      omega
    refine setM_add (s := { s' with toks := s'.toks + 1 }) (hS.at fun o z => mv.heap D o dw z) ik sc (by omega) fun h' b sb hS2 => ?_
    refine wpAny_pure ⟨plainId_quiet F.plain_set_update_loop _, ih (i + 1) _ (by omega) lt (W.frame _ s' _ _ st' (Nat.le_succ _) fun c hc o z => ?_) (by rw [metK_take hk]; exact hS2) fun s2 mv2 hS3 => ?_⟩
    · rw [sb.2 c (fun e : c = D => hD (by rw [← e]; exact hc))]
      exact z
    · refine q s2 (Moved.trans W.gtrans ((mv.mono up).then_heap (Nat.le_succ _) fun c o hc z => ?_) mv2) hS3
      rw [sb.2 c (fun e : c = D => hc (by rw [e]; exact List.mem_cons_self))]
      exact z

theorem call_setM_l {l : Addr} {its : Array Value} (ks : List Key) {Q : Value → Shared → Prop} (hh : A.handled = none) (hl : s.heap.IsList l its)
    (hz : its.size = ks.length) (hb : ks.length + 1 < scanBound) (hv : ∀ (i : Nat) (v : Value), its[i]? = some v → ∃ k, ks[i]? = some k ∧ (mixKind P w).is k v = true ∧ v.scannable = true)
    (q : ∀ (h' : Heap) (tk : Nat), SetM P w h' s.heap.objs.size (metK ks) → (∀ b o, s.heap.get? b = some o → h'.get? b = some o) → Q (.ref s.heap.objs.size) { s with heap := h', toks := tk }) :
    wpAny (model P w) A (call (.type "set") [.ref l]) Q E s := by
  obtain ⟨mc, mt, hmro⟩ := F.called_set.mro
  have f1 := F.called_set.made
  have f2 := F.called_set.sub
  refine wpAny_call (codeAny_of_tree ?_)
  show wpAny _ _ (callAny (.type "set") _) _ _ _
  refine wpAny_pure ⟨Code.quiet_builtin _ (by decide +kernel), codeAny_builtin F.entry_type_call ?_⟩
  rw [Around.under_plain (weight_type_call_type "set" [.ref l] []) rfl]
  have f3 := F.called_set.notType
  have f4 := F.called_set.canCreate
  have f5 := F.typeCall_set_1 (.ref l)
  repeat (any_goals (first | assumption | wp_step))
  generalize hob : ({ cls := .type "set", dict := none, data := .set #[] 0 (.fresh 0 0 (!w.params.followText "set-order")) } : Obj) = ob
  refine codeAny_mono (code_set_led1 (.ref l) (E := E) (Q₁ := fun x sx => x = .ref s.heap.objs.size ∧ sx = { s with heap := s.heap.push ob }) ⟨rfl, by rw [hob]⟩) fun r sx hr => ?_
  cases r with
  | error e => exact hr
  | ok fl =>
    cases fl with
    | ret x =>
      obtain ⟨rfl, rfl⟩ := hr
      have hS : (s.heap.push ob).get? s.heap.objs.size = some ob := Heap.get?_push_size _ (by rw [← hob]; rfl)
      have hT : Shared.TypeIs { s with heap := s.heap.push ob } (.ref s.heap.objs.size) "set" := ⟨_, hS, by rw [← hob]⟩
      have g1 := F.called_set.init.lookup
      have g2 := F.called_set.init.bind (.ref s.heap.objs.size)
      repeat (any_goals (first | assumption | wp_step))
      refine codeAny_mono (codeAny_call_builtin (R := wants (fun r sy => r = .none ∧ ∃ h' tk, sy = { s with heap := h', toks := tk } ∧ SetM P w h' s.heap.objs.size (metK ks) ∧
          (∀ b o, s.heap.get? b = some o → h'.get? b = some o)) E) F.called_set.init.plain F.entry_set_init (check_set_init_1 hT ?_)) fun r2 sy hr2 => ?_
      · obtain ⟨ol, hol, hcl, nl, hdl⟩ := hl
        obtain ⟨oc, od, oda, osl⟩ := ol
        simp only at hcl hdl
        subst hcl
        subst hdl
        have hol2 : (s.heap.push ob).get? l = some { cls := .type "list", dict := od, data := .seq its nl, slots := osl } := Heap.get?_push_of_some _ hol
        have k1 := F.sub_list_set
        have k2 := F.sub_list_frozenset
        have k3 : (Value.type "list" == Value.type "dict") = false := by decide
        have hl1 : (s.heap.push ob).IsList l its := ⟨_, hol2, rfl, nl, rfl⟩
        subst hob
        unfold Builtin.«set.__init__» noKeywords Builtin.Frozenset.updateFrom
        generalize hPI : pyIter = PI
        wp_walk
        subst hPI
        refine wpAny_pyIter_list hl1 ?_
        refine wpAny_bind (wpAny_runValue ?_)
        have lS : l < s.heap.objs.size := Heap.lt_size hol
        have h3 : A.in1.in1.in1.handled = none := by simp [hh]
        have zp : (s.heap.push { cls := .type "set", dict := none, data := .set #[] 0 (.fresh 0 0 (!w.params.followText "set-order")) }).objs.size = s.heap.objs.size + 1 := Heap.size_push ..
        have ne : l ≠ (s.heap.push { cls := .type "set", dict := none, data := .set #[] 0 (.fresh 0 0 (!w.params.followText "set-order")) }).objs.size := by rw [zp]; exact Nat.ne_of_lt (Nat.lt_succ_of_lt lS)
        have nf : s.heap.objs.size ∉ [(s.heap.push { cls := .type "set", dict := none, data := .set #[] 0 (.fresh 0 0 (!w.params.followText "set-order")) }).objs.size, l] := by
          rw [zp]
          simp only [List.mem_cons, List.mem_singleton, List.not_mem_nil, or_false, not_or]
          exact ⟨Nat.ne_of_lt (Nat.lt_succ_self _), Nat.ne_of_gt lS⟩
        refine setM_loop ((Walks.list h3 _ l ne its).toS) s.heap.objs.size nf ks hz hb hv (its.size - 0) 0 _ (by omega) (Nat.zero_le _)
          ⟨⟨_, Heap.get?_push_size _ rfl, rfl, rfl⟩, (hl1.push _)⟩ ?S0 ?R0
        case S0 =>
          exact setM_new (Heap.get?_push_of_some _ hS)
        case R0 =>
          intro s' mv hS'
          obtain ⟨h', gg, dd, tk', oo⟩ := s'
          obtain rfl : gg = s.gens := mv.gens
          obtain rfl : dd = s.drawn := mv.drawn
          obtain rfl : oo = s.os := mv.os
          show wpAny _ _ _ _ _ _
          refine wpAny_pure ?_
          show wpAny _ _ (ret Value.none) _ _ _
          refine wpAny_pure ⟨rfl, h', tk', rfl, hS', fun b o e => ?_⟩
          have hb0 : b < s.heap.objs.size := Heap.lt_size e
          refine mv.heap b o ?_ (Heap.get?_push_of_some _ (Heap.get?_push_of_some _ e))
          rw [zp]
          simp only [List.mem_cons, List.mem_singleton, List.not_mem_nil, or_false, not_or]
          exact ⟨Nat.ne_of_lt hb0, Nat.ne_of_lt (Nat.lt_succ_of_lt hb0)⟩
      · cases r2 with
        | error e => exact hr2
        | ok fl2 =>
          cases fl2 with
          | ret r =>
            obtain ⟨rfl, h', tk, rfl, hS', hk'⟩ := hr2
            repeat (any_goals (first | assumption | wp_step))
            exact q _ _ hS' hk'
          | _ => exact hr2.elim
    | _ => exact hr.elim

theorem call_setM_t {l : Addr} {its : Array Value} (ks : List Key) {Q : Value → Shared → Prop} (hh : A.handled = none) (hl : s.heap.IsTuple l its)
    (hz : its.size = ks.length) (hb : ks.length + 1 < scanBound) (hv : ∀ (i : Nat) (v : Value), its[i]? = some v → ∃ k, ks[i]? = some k ∧ (mixKind P w).is k v = true ∧ v.scannable = true)
    (q : ∀ (h' : Heap) (tk : Nat), SetM P w h' s.heap.objs.size (metK ks) → (∀ b o, s.heap.get? b = some o → h'.get? b = some o) → Q (.ref s.heap.objs.size) { s with heap := h', toks := tk }) :
    wpAny (model P w) A (call (.type "set") [.ref l]) Q E s := by
  obtain ⟨mc, mt, hmro⟩ := F.called_set.mro
  have f1 := F.called_set.made
  have f2 := F.called_set.sub
  refine wpAny_call (codeAny_of_tree ?_)
  show wpAny _ _ (callAny (.type "set") _) _ _ _
  refine wpAny_pure ⟨Code.quiet_builtin _ (by decide +kernel), codeAny_builtin F.entry_type_call ?_⟩
  rw [Around.under_plain (weight_type_call_type "set" [.ref l] []) rfl]
  have f3 := F.called_set.notType
  have f4 := F.called_set.canCreate
  have f5 := F.typeCall_set_1 (.ref l)
  repeat (any_goals (first | assumption | wp_step))
  generalize hob : ({ cls := .type "set", dict := none, data := .set #[] 0 (.fresh 0 0 (!w.params.followText "set-order")) } : Obj) = ob
  refine codeAny_mono (code_set_led1 (.ref l) (E := E) (Q₁ := fun x sx => x = .ref s.heap.objs.size ∧ sx = { s with heap := s.heap.push ob }) ⟨rfl, by rw [hob]⟩) fun r sx hr => ?_
  cases r with
  | error e => exact hr
  | ok fl =>
    cases fl with
    | ret x =>
      obtain ⟨rfl, rfl⟩ := hr
      have hS : (s.heap.push ob).get? s.heap.objs.size = some ob := Heap.get?_push_size _ (by rw [← hob]; rfl)
      have hT : Shared.TypeIs { s with heap := s.heap.push ob } (.ref s.heap.objs.size) "set" := ⟨_, hS, by rw [← hob]⟩
      have g1 := F.called_set.init.lookup
      have g2 := F.called_set.init.bind (.ref s.heap.objs.size)
      repeat (any_goals (first | assumption | wp_step))
      refine codeAny_mono (codeAny_call_builtin (R := wants (fun r sy => r = .none ∧ ∃ h' tk, sy = { s with heap := h', toks := tk } ∧ SetM P w h' s.heap.objs.size (metK ks) ∧
          (∀ b o, s.heap.get? b = some o → h'.get? b = some o)) E) F.called_set.init.plain F.entry_set_init (check_set_init_1 hT ?_)) fun r2 sy hr2 => ?_
      · obtain ⟨ol, hol, hcl, nl, hdl⟩ := hl
        obtain ⟨oc, od, oda, osl⟩ := ol
        simp only at hcl hdl
        subst hcl
        subst hdl
        have hol2 : (s.heap.push ob).get? l = some { cls := .type "tuple", dict := od, data := .seq its nl, slots := osl } := Heap.get?_push_of_some _ hol
        have k1 := F.sub_tuple_set
        have k2 := F.sub_tuple_frozenset
        have k3 : (Value.type "tuple" == Value.type "dict") = false := by decide
        have hl1 : (s.heap.push ob).IsTuple l its := ⟨_, hol2, rfl, nl, rfl⟩
        subst hob
        unfold Builtin.«set.__init__» noKeywords Builtin.Frozenset.updateFrom
        generalize hPI : pyIter = PI
        wp_walk
        subst hPI
        refine wpAny_pyIter_tuple hl1 ?_
        refine wpAny_bind (wpAny_runValue ?_)
        have lS : l < s.heap.objs.size := Heap.lt_size hol
        have h3 : A.in1.in1.in1.handled = none := by simp [hh]
        have zp : (s.heap.push { cls := .type "set", dict := none, data := .set #[] 0 (.fresh 0 0 (!w.params.followText "set-order")) }).objs.size = s.heap.objs.size + 1 := Heap.size_push ..
        have ne : l ≠ (s.heap.push { cls := .type "set", dict := none, data := .set #[] 0 (.fresh 0 0 (!w.params.followText "set-order")) }).objs.size := by rw [zp]; exact Nat.ne_of_lt (Nat.lt_succ_of_lt lS)
        have nf : s.heap.objs.size ∉ [(s.heap.push { cls := .type "set", dict := none, data := .set #[] 0 (.fresh 0 0 (!w.params.followText "set-order")) }).objs.size, l] := by
          rw [zp]
          simp only [List.mem_cons, List.mem_singleton, List.not_mem_nil, or_false, not_or]
          exact ⟨Nat.ne_of_lt (Nat.lt_succ_self _), Nat.ne_of_gt lS⟩
        refine setM_loop ((Walks.tuple h3 _ l ne its).toS) s.heap.objs.size nf ks hz hb hv (its.size - 0) 0 _ (by omega) (Nat.zero_le _)
          ⟨⟨_, Heap.get?_push_size _ rfl, rfl, rfl⟩, (hl1.push _)⟩ ?S0 ?R0
        case S0 =>
          exact setM_new (Heap.get?_push_of_some _ hS)
        case R0 =>
          intro s' mv hS'
          obtain ⟨h', gg, dd, tk', oo⟩ := s'
          obtain rfl : gg = s.gens := mv.gens
          obtain rfl : dd = s.drawn := mv.drawn
          obtain rfl : oo = s.os := mv.os
          show wpAny _ _ _ _ _ _
          refine wpAny_pure ?_
          show wpAny _ _ (ret Value.none) _ _ _
          refine wpAny_pure ⟨rfl, h', tk', rfl, hS', fun b o e => ?_⟩
          have hb0 : b < s.heap.objs.size := Heap.lt_size e
          refine mv.heap b o ?_ (Heap.get?_push_of_some _ (Heap.get?_push_of_some _ e))
          rw [zp]
          simp only [List.mem_cons, List.mem_singleton, List.not_mem_nil, or_false, not_or]
          exact ⟨Nat.ne_of_lt hb0, Nat.ne_of_lt (Nat.lt_succ_of_lt hb0)⟩
      · cases r2 with
        | error e => exact hr2
        | ok fl2 =>
          cases fl2 with
          | ret r =>
            obtain ⟨rfl, h', tk, rfl, hS', hk'⟩ := hr2
            repeat (any_goals (first | assumption | wp_step))
            exact q _ _ hS' hk'
          | _ => exact hr2.elim
    | _ => exact hr.elim
end
end Wr
end

section
set_option Elab.async false
set_option linter.all false
set_option maxRecDepth 100000
set_option maxHeartbeats 4000000
/-! WrPc: len(set(xs)), sorted(set(xs)). -/
namespace Wr
open PySem PySem.Spec PyProof.Rows L2
variable [Wld]
/-! ### keys and data -/
theorem kD_inj {a b : Key} (h : kD a = kD b) : a = b := by
  cases a <;> cases b <;> simp [kD] at h <;> rw [h]
theorem str_beq (x y : Str) : (x == y) = true ↔ x = y := beq_iff_eq
theorem eqv_kD (a b : Key) : PyData.eqv (kD a) (kD b) = true ↔ a = b := by
  cases a <;> cases b
  · simp only [kD, PyData.eqv, beq_iff_eq]
    exact ⟨fun h => by rw [h], fun h => by cases h; rfl⟩
  · exact ⟨fun h => by simp [kD, PyData.eqv] at h, fun h => nomatch h⟩
  · exact ⟨fun h => by simp [kD, PyData.eqv] at h, fun h => nomatch h⟩
  · simp only [kD, PyData.eqv, str_beq]
    exact ⟨fun h => by rw [h], fun h => by cases h; rfl⟩
theorem flat_keys : ∀ {ds : List PyData}, ds.all flatKey = true → ∃ ks : List Key, ds = ks.map kD
  | [], _ => ⟨[], rfl⟩
  | d :: ds, h => by
    rw [List.all_cons, Bool.and_eq_true] at h
    obtain ⟨ks, rfl⟩ := flat_keys h.2
    have h1 := h.1
    cases d <;> simp only [flatKey, Bool.false_eq_true] at h1
    · rename_i i
      exact ⟨.inl i :: ks, rfl⟩
    · rename_i x
      exact ⟨.inr x :: ks, rfl⟩
theorem dedup_mem : ∀ (ks : List Key), ∃ L : List Key, dedup (ks.map kD) = L.map kD ∧ L.Nodup ∧ ∀ k, k ∈ L ↔ k ∈ ks
  | [] => ⟨[], rfl, List.nodup_nil, fun k => Iff.rfl⟩
  | k :: ks => by
    obtain ⟨L, e, nd, hm⟩ := dedup_mem ks
    rw [List.map_cons, dedup]
    split
    · rename_i h
      rw [List.any_map, List.any_eq_true] at h
      obtain ⟨j, hj, e2⟩ := h
      have e3 : j = k := (eqv_kD j k).mp e2
      subst e3
      exact ⟨L, e, nd, fun i => by rw [hm, List.mem_cons]; exact ⟨.inr, fun z => z.elim (fun z => by rw [z]; exact hj) id⟩⟩
    · rename_i h
      refine ⟨k :: L, by rw [e]; rfl, List.nodup_cons.mpr ⟨fun z => h ?_, nd⟩, fun i => by rw [List.mem_cons, List.mem_cons, hm]⟩
      rw [List.any_map, List.any_eq_true]
      exact ⟨k, (hm k).mp z, (eqv_kD k k).mpr rfl⟩
theorem addK_nodup {L : List Key} (nd : L.Nodup) (k : Key) : (addK L k).Nodup := by
  unfold addK
  split
  · exact nd
  · rename_i h
    rw [List.nodup_append]
    refine ⟨nd, by simp, fun x hx y hy e => ?_⟩
    rw [List.mem_singleton] at hy
    subst e hy
    exact h hx
theorem foldK_nodup : ∀ (ks L : List Key), L.Nodup → (ks.foldl addK L).Nodup
  | [], _, h => h
  | k :: ks, L, h => foldK_nodup ks _ (addK_nodup h k)
theorem metK_perm (ks : List Key) {L : List Key} (nd : L.Nodup) (hm : ∀ k, k ∈ L ↔ k ∈ ks) : (metK ks).Perm L :=
  (List.perm_ext_iff_of_nodup (foldK_nodup ks [] List.nodup_nil) nd).mpr fun k => by
    rw [hm, foldK_mem]
    simp
theorem map_kD : ∀ {K : PySem.W.Frag} {Hs : Hp} {vs : List V} {ks : List Key}, RpAll K Hs vs (ks.map kD) → vs = ks.map kV ∧ ∀ k ∈ ks, ∀ x, k = .inr x → strOk x = true
  | _, _, _, [], .nil => ⟨rfl, fun k hk => nomatch hk⟩
  | _, _, _, k :: ks, .cons h r => by
    obtain ⟨e, hs⟩ := map_kD r
    cases k with
    | inl i =>
      replace h : Rp _ _ _ (.int i) := h
      cases h
      refine ⟨by rw [e]; rfl, fun j hj x ex => ?_⟩
      rcases List.mem_cons.mp hj with rfl | hj
      · cases ex
      · exact hs j hj x ex
    | inr y =>
      replace h : Rp _ _ _ (.str y) := h
      cases h with
      | str _ hy =>
        refine ⟨by rw [e]; rfl, fun j hj x ex => ?_⟩
        rcases List.mem_cons.mp hj with rfl | hj
        · cases ex; exact hy
        · exact hs j hj x ex
theorem rp_keys {K : PySem.W.Frag} {Hs : Hp} : ∀ {ks : List Key}, (∀ k ∈ ks, ∀ x, k = .inr x → strOk x = true) → RpAll K Hs (ks.map kV) (ks.map kD)
  | [], _ => .nil
  | k :: ks, h => by
    refine .cons ?_ (rp_keys fun j hj => h j (List.mem_cons_of_mem _ hj))
    cases k with
    | inl i => exact .int i
    | inr x => exact .str x (h _ List.mem_cons_self x rfl)
/-! ### sorting a set does not ask for its order -/
theorem sortD_perm {ds es : List PyData} (h : ds.Perm es) (ks : List Key) (he : es = ks.map kD) (hal : allAlike es = true) : sortD ds = sortD es := by
  have ht : ∀ a b : PyData, (PySem.W.dataLe (β := PyData) false id a b || PySem.W.dataLe (β := PyData) false id b a) = true := fun a b => by
    rcases le_total'.total a b with h | h <;> simp [h]
  have p1 : (sortD ds).Perm ds := by rw [sortD_eq]; exact List.mergeSort_perm _ _
  have p2 : (sortD es).Perm es := by rw [sortD_eq]; exact List.mergeSort_perm _ _
  refine List.Perm.eq_of_pairwise (le := fun a b => PySem.W.dataLe (β := PyData) false id a b = true) (fun a b ha hb h1 h2 => ?_) ?_ ?_ (p1.trans (h.trans p2.symm))
  · have ma : a ∈ es := h.mem_iff.mp (p1.mem_iff.mp ha)
    have mb : b ∈ es := p2.mem_iff.mp hb
    have ali := allAlike_iff hal a ma b mb
    rw [dataLe_lt] at h1 h2
    simp only [Bool.not_eq_true'] at h1 h2
    have et : PySem.W.keyToks a = PySem.W.keyToks b := (PyProof.Rows.lex_total (O := itemOrd) _ _ h1 h2).symm
    rw [he] at ma mb
    obtain ⟨ka, _, rfl⟩ := List.mem_map.mp ma
    obtain ⟨kb, _, rfl⟩ := List.mem_map.mp mb
    cases ka <;> cases kb <;> simp only [kD, PySem.W.keyToks, List.cons.injEq, and_true, reduceCtorEq, Sum.inl.injEq, Sum.inr.injEq] at et ⊢
    · rw [et]
    · rw [PySem.W.str_of_cps et]
  · rw [sortD_eq]
    exact List.pairwise_mergeSort (fun a b c => le_total'.trans a b c) ht _
  · rw [sortD_eq]
    exact List.pairwise_mergeSort (fun a b c => le_total'.trans a b c) ht _
theorem allAlike_of' : ∀ {ds : List PyData}, PySem.W.AllAlike ds → allAlike ds = true
  | [], _ => rfl
  | x :: r, h => by
    rw [allAlike, allAlike_of' fun a ha b hb => h a (List.mem_cons_of_mem _ ha) b (List.mem_cons_of_mem _ hb), Bool.and_true, List.all_eq_true]
    intro y hy
    rw [Bool.and_eq_true]
    exact ⟨h x List.mem_cons_self y hy, h y hy x List.mem_cons_self⟩
theorem noDAll_of' : ∀ {ds : List PyData}, (∀ x ∈ ds, noD x = true) → noDAll ds = true
  | [], _ => rfl
  | x :: r, h => by rw [noDAll, h x List.mem_cons_self, noDAll_of' fun y hy => h y (List.mem_cons_of_mem _ hy)]; rfl
theorem all_perm {α : Type} {f : α → Bool} {l m : List α} (h : l.Perm m) : l.all f = m.all f := by
  rw [Bool.eq_iff_iff, List.all_eq_true, List.all_eq_true]
  exact ⟨fun z x hx => z x (h.mem_iff.mpr hx), fun z x hx => z x (h.mem_iff.mp hx)⟩
theorem sortedD_perm {ds es : List PyData} (h : ds.Perm es) (ks : List Key) (he : es = ks.map kD) {d : PyData} (hd : sortedD es = some d) : sortedD ds = some d ∧ d = .list (sortD es) := by
  rw [sortedD] at hd
  split at hd
  · rename_i hc
    cases hd
    simp only [Bool.and_eq_true] at hc
    obtain ⟨⟨⟨c1, c2⟩, c3⟩, c4⟩ := hc
    refine ⟨?_, rfl⟩
    have a1 : allAlike ds = true := allAlike_of' fun a ha b hb => allAlike_iff c1 a (h.mem_iff.mp ha) b (h.mem_iff.mp hb)
    have a2 : sortableD ds = true := by
      rw [sortableD, all_perm h, all_perm h]
      exact c2
    have a3 : noDAll ds = true := noDAll_of' fun x hx => noDAll_mem c3 x (h.mem_iff.mp hx)
    rw [sortedD, a1, a2, a3, all_perm h, c4, sortD_perm h ks he c1]
    rfl
  · cases hd
section
variable {X : Cx} {Ph : Nat → List PyData → Option PyData} {fr : Nat → Bool}
def SetO (P : Program) (w : World) (a : Addr) (L : List Key) : HO := .ext fun h => SetM P w h a L
theorem setO_ok {P : Program} {w : World} {H : Hp} {h : Heap} {a : Addr} {L : List Key} (R : SetM P w h a L) : ObjOk P w H h a (SetO P w a L) := by
  refine ⟨R, ?_, fun h1 h2 r k => SetM.at r k⟩
  obtain ⟨o, _, _, _, ⟨h1, _⟩, _⟩ := R
  exact ⟨o, h1⟩
theorem key_is {P : Program} {w : World} {k : Key} {u : Value} (r : RelV (kV k) u) : (mixKind P w).is k u = true := by
  cases k with
  | inl i => obtain ⟨t, rfl⟩ := r; exact beq_self_eq_true i
  | inr x => obtain ⟨t, rfl⟩ := r; exact beq_self_eq_true x
theorem cr_setM (hc : X.calm = true) : CallR X (.type "set") (fun xs H Q => ∃ (a : Addr) (ks : List Key), xs = [V.ref a] ∧ (SqL X.K H a (ks.map kV) ∨ SqT X.K H a (ks.map kV)) ∧ ks.length ≤ 1000 ∧
    ∀ p, H p = none → Q (.ref p) (upd H p (SetO X.prog X.w p (metK ks)))) := by
  intro pins s σ H xs us Q I r h
  obtain ⟨a, ks, rfl, hs, hl, q⟩ := h
  obtain ⟨u, rfl, ru⟩ := vals1 r
  obtain rfl : u = Value.ref a := ru
  have hb : ks.length + 1 < scanBound := by unfold scanBound; omega
  have hat : ∀ {its : List Value}, Vals (ks.map kV) its → ∀ (i : Nat) (v : Value), its.toArray[i]? = some v → ∃ k, ks[i]? = some k ∧ (mixKind X.prog X.w).is k v = true ∧ v.scannable = true := by
    intro its rv i v hv
    rw [List.getElem?_toArray] at hv
    have hi : i < its.length := (List.getElem?_eq_some_iff.mp hv).1
    rw [← rv.length, List.length_map] at hi
    obtain ⟨v2, e2, rel⟩ := rv.get (i := i) (x := kV ks[i]) (by rw [List.getElem?_map, List.getElem?_eq_getElem hi]; rfl)
    rw [hv] at e2
    cases e2
    exact ⟨ks[i], List.getElem?_eq_getElem hi, key_is rel, key_scan rel⟩
  rcases hs with hs | hs
  · obtain ⟨its, rv, pl, hz⟩ := I.list hs
    refine call_setM_l ks (I.ok.hd hc) pl.isList (by rw [List.size_toArray, ← rv.length, List.length_map]) hb (hat rv) fun h' tk R k => ?_
    exact ⟨.ref s.heap.objs.size, _, I.laid (t' := tk) k (Nat.le_refl _) (setO_ok R), rfl, q _ (I.hok.fresh (Nat.le_refl _))⟩
  · obtain ⟨its, rv, ⟨o, ho, hcl, n, hd⟩, hz⟩ := I.tuple hs
    refine call_setM_t ks (I.ok.hd hc) ⟨o, ho, hcl, n, hd⟩ (by rw [List.size_toArray, ← rv.length, List.length_map]) hb (hat rv) fun h' tk R k => ?_
    exact ⟨.ref s.heap.objs.size, _, I.laid (t' := tk) k (Nat.le_refl _) (setO_ok R), rfl, q _ (I.hok.fresh (Nat.le_refl _))⟩
theorem cr_lenM : CallR X (.builtin "len") (fun xs H Q => ∃ (a : Addr) (L : List Key), xs = [V.ref a] ∧ H a = some (SetO X.prog X.w a L) ∧ Q (.int L.length) H) := by
  intro pins s σ H xs us Q I r h
  obtain ⟨a, L, rfl, hs, q⟩ := h
  obtain ⟨u, rfl, ru⟩ := vals1 r
  obtain rfl : u = Value.ref a := ru
  obtain ⟨o, es, ep, t, ⟨ho, hx, hd⟩, _, ⟨bd, ft, n, nd⟩, _⟩ := (I.hok a _ hs).1
  have : scanBound ≤ 2 ^ 62 := by decide
  exact call_len_set ho hx hd ft (by omega) ⟨.int L.length, H, I.tok _, ⟨_, by rw [n]⟩, q⟩
theorem vals_keys {P : Program} {w : World} : ∀ {us : List Value}, (∀ u ∈ us, ∃ k, (mixKind P w).is k u = true) → ∃ ks : List Key, Vals (ks.map kV) us ∧ Paired (fun (k : Key) (u : Value) => (mixKind P w).is k u = true) ks us
  | [], _ => ⟨[], .nil, .nil⟩
  | u :: us, h => by
    obtain ⟨k, hk⟩ := h u List.mem_cons_self
    obtain ⟨ks, h1, h2⟩ := vals_keys (P := P) (w := w) fun v hv => h v (List.mem_cons_of_mem _ hv)
    exact ⟨k :: ks, .cons (keyIs_rel hk) h1, .cons hk h2⟩
theorem paired_mem {P : Program} {w : World} : ∀ {ks : List Key} {us : List Value}, Paired (fun (k : Key) (u : Value) => (mixKind P w).is k u = true) ks us → ∀ k, k ∈ ks ↔ ∃ u ∈ us, (mixKind P w).is k u = true
  | _, _, .nil, k => by simp
  | _, _, .cons (a := a) (b := b) h t, k => by
    rw [List.mem_cons, paired_mem t k]
    constructor
    · rintro (rfl | ⟨u, hu, hk⟩)
      · exact ⟨_, List.mem_cons_self, h⟩
      · exact ⟨u, List.mem_cons_of_mem _ hu, hk⟩
    · rintro ⟨u, hu, hk⟩
      rcases List.mem_cons.mp hu with rfl | hu
      · exact .inl ((mixKind P w).inj _ _ _ hk h)
      · exact .inr ⟨u, hu, hk⟩
theorem perm_sub : ∀ {L ks : List Key}, L.Nodup → (∀ x ∈ L, x ∈ ks) → ks.length = L.length → ks.Perm L
  | [], ks, _, _, hl => by
    rw [List.length_nil, List.length_eq_zero_iff] at hl
    rw [hl]
  | x :: r, ks, nd, hs, hl => by
    rw [List.nodup_cons] at nd
    obtain ⟨l1, l2, rfl⟩ := List.append_of_mem (hs x List.mem_cons_self)
    have pm : (l1 ++ x :: l2).Perm (x :: (l1 ++ l2)) := List.perm_middle
    refine pm.trans (List.Perm.cons x (perm_sub nd.2 (fun y hy => ?_) ?_))
    · have := pm.mem_iff.mp (hs y (List.mem_cons_of_mem _ hy))
      rcases List.mem_cons.mp this with e | e
      · exact absurd (e ▸ hy) nd.1
      · exact e
    · have := pm.length_eq
      rw [hl] at this
      simp only [List.length_cons] at this
      omega
theorem nodup_of_len {ks L : List Key} (nd : L.Nodup) (hm : ∀ k, k ∈ ks ↔ k ∈ L) (hl : ks.length = L.length) : ks.Perm L := perm_sub nd (fun x hx => (hm x).mpr hx) hl
theorem col_setM {pins : List (Addr × Obj)} {σ : L2.St} {H Hs : Hp} {s : Shared} {a : Addr} {L : List Key} (hc : X.calm = true) (I : Inv X pins σ H s) (w : View Hs H) (hs : H a = some (SetO X.prog X.w a L)) (ok : ∀ k ∈ L, ∀ x, k = .inr x → strOk x = true) :
    ColM X pins σ H Hs s (.ref a) (fun ds => ds.Perm (L.map kD)) := by
  intro E Q q
  obtain ⟨o, es, ep, t, ⟨ho, hx, hd⟩, ⟨el, mem⟩, ⟨bd, ft, n, nd⟩, rs, ld⟩ := (I.hok a _ hs).1
  refine collect_set (A := X.A.in1) (I.ok.hd hc) ⟨o, ho, hx.1, hd⟩ ft bd rs ld fun s1 vs k1 hz g1 o1 pm => ?_
  obtain ⟨ks, h1, h2⟩ := vals_keys (P := X.prog) (w := X.w) (us := vs) fun u hu => by
    obtain ⟨e, he, rfl⟩ := List.mem_map.mp (pm.mem_iff.mp hu)
    obtain ⟨⟨k, hk, _⟩, _⟩ := el e he
    exact ⟨k, hk⟩
  have hl : ks.length = L.length := by
    have := h1.length
    rw [List.length_map] at this
    rw [this, pm.length_eq, List.length_map, Array.length_toList, n]
  have hm : ∀ k, k ∈ ks ↔ k ∈ L := fun k => by
    rw [paired_mem h2 k, mem k]
    constructor
    · rintro ⟨u, hu, hk⟩
      obtain ⟨e, he, rfl⟩ := List.mem_map.mp (pm.mem_iff.mp hu)
      exact ⟨e, he, hk⟩
    · rintro ⟨e, he, hk⟩
      exact ⟨e.2, pm.mem_iff.mpr (List.mem_map.mpr ⟨e, he, rfl⟩), hk⟩
  have J : Inv X pins σ H { s with heap := s1.heap, gens := s1.gens, drawn := s1.drawn, toks := s1.toks } :=
    I.call (ch := []) (Un.kept k1) (I.hok.kept k1) (by rw [g1]; exact I.bare) (fun _ z => nomatch z)
  have e1 : s1 = { s with heap := s1.heap, gens := s1.gens, drawn := s1.drawn, toks := s1.toks } := by
    cases s1
    cases s
    cases o1
    rfl
  refine q _ H Hs (ks.map kV) _ (ks.map kD) ((nodup_of_len nd hm hl).map kD) ?_ (FrE.refl w) h1 (rp_keys fun k hk => ok k ((hm k).mp hk)) ?_
  · rw [e1]; exact J
  · rw [List.length_map, hl, ← n]
    have : scanBound ≤ sizeLine := by decide
    omega
theorem cr_sortM (hun : X.A.units + 66 < cLine) (hc : X.calm = true) : CallR X (.builtin "sorted") (fun xs H Q => ∃ (a : Addr) (L : List Key) (Hs : Hp) (es : List PyData), xs = [V.ref a] ∧ H a = some (SetO X.prog X.w a L) ∧ View Hs H ∧ (∀ k ∈ L, ∀ x, k = .inr x → strOk x = true) ∧
    (∃ ks : List Key, es = ks.map kD ∧ L.Perm ks) ∧ sortedD es = some (.list (sortD es)) ∧ ∀ p ys H1 Hs1, FrE H Hs H1 Hs1 → H1 p = none → RpAll X.K Hs1 ys (sortD es) → Q (.ref p) (upd H1 p (.lst ys))) := by
  intro pins s σ H xs us Q I r h
  obtain ⟨a, L, Hs, es, rfl, hs, w, ok, ⟨ks, rfl, pk⟩, hd, q⟩ := h
  obtain ⟨u, rfl, ru⟩ := vals1 r
  obtain rfl : u = Value.ref a := ru
  exact sorted_of_colM hun (col_setM hc I w hs ok) (fun ds hp => (sortedD_perm (hp.trans (pk.map kD)) ks rfl hd).1) q
/-! ### the two expressions -/
theorem pe_setarg {e : Expr} {x : E} {b : Blt} (ha : PE X e (tE X.K Ph false x)) (hs : starEach [e] X.env = (false, eval e X.env) :: starEach [] X.env)
    (hb : ∀ ds d, bltD b ds = some d → ∃ es, (ds = [.list es] ∨ ds = [.tuple es]) ∧ es.all flatKey = true ∧ es.length ≤ 1000) {σ : L2.St} {H : Hp} {Q : VK}
    (h : tE X.K Ph false (.blt b (.cons x .nil)) σ H Q) :
    ∃ env Hs d0 d es, EnvOk X.K env σ H Hs ∧ evE Ph env x = some d0 ∧ bltD b [d0] = some d ∧ (d0 = .list es ∨ d0 = .tuple es) ∧ es.all flatKey = true ∧ es.length ≤ 1000 ∧ ∀ v H' Hs', FrE H Hs H' Hs' → Rp X.K Hs' v d → Q v H' := by
  obtain ⟨env, Hs, d, ok, ev, q⟩ := h
  rw [evE] at ev
  split at ev
  · rename_i ds e0
    rw [evEs] at e0
    split at e0
    · rename_i d0 e1
      rw [evEs] at e0
      cases e0
      obtain ⟨es, h1, h2, h3⟩ := hb _ _ ev
      refine ⟨env, Hs, d0, d, es, ok, e1, ev, ?_, h2, h3, q⟩
      rcases h1 with h1 | h1
      · exact .inl (by injection h1)
      · exact .inr (by injection h1)
    · cases e0
  · cases ev
theorem seq_keys {K : PySem.W.Frag} {Hs H : Hp} {v : V} {es : List PyData} {d0 : PyData} (w : View Hs H) (h : d0 = .list es ∨ d0 = .tuple es) (hf : es.all flatKey = true) (r : Rp K Hs v d0) :
    ∃ (a : Addr) (ks : List Key), v = .ref a ∧ es = ks.map kD ∧ (SqL K H a (ks.map kV) ∨ SqT K H a (ks.map kV)) ∧ ∀ k ∈ ks, ∀ x, k = .inr x → strOk x = true := by
  obtain ⟨ks, rfl⟩ := flat_keys hf
  rcases h with rfl | rfl
  · obtain ⟨a, xs, rfl, s1, r1⟩ := Rq.list (.inl r) w
    obtain ⟨rfl, hs⟩ := map_kD r1
    exact ⟨a, ks, rfl, rfl, .inl s1, hs⟩
  · obtain ⟨a, xs, rfl, s1, r1, _⟩ := Rq.tuple (.inl r) w
    obtain ⟨rfl, hs⟩ := map_kD r1
    exact ⟨a, ks, rfl, rfl, .inr s1, hs⟩
theorem pe_lenset {e : Expr} {x : E} {p p2 pos pos2 : Pos} (hc : X.calm = true) (hg : Gl X "len") (hm : X.mg "len" = none) (hg2 : Gl X "set") (hm2 : X.mg "set" = none) (ha : PE X e (tE X.K Ph false x))
    (hs : starEach [e] X.env = (false, eval e X.env) :: starEach [] X.env) :
    PE X (.Call (.Name "len" p) [.Call (.Name "set" p2) [e] [] pos2] [] pos) (tE X.K Ph false (.blt .lenset (.cons x .nil))) := by
  refine PE.mono (pe_callB cr_lenM hg hm (by decide +kernel) (pa_cons (pe_callTy (cr_setM hc) hg2 hm2 (by decide +kernel) (pa_cons ha pa_nil hs) (he := hs)) pa_nil)) fun σ H Q h => ?_
  obtain ⟨env, Hs, d0, d, es, ok, e1, ev, hk, hf, hl, q⟩ := pe_setarg ha hs (fun ds d h => by
    replace h : lensetD ds = some d := h
    unfold lensetD at h
    split at h
    · rename_i es
      split at h
      · rename_i c
        simp only [Bool.and_eq_true, decide_eq_true_eq] at c
        exact ⟨es, .inl rfl, c.1, c.2⟩
      · cases h
    · cases h) h
  refine ⟨env, Hs, _, ok, e1, fun v H1 Hs1 f1 r1 => ?_⟩
  obtain ⟨a, ks, rfl, rfl, sq, hok⟩ := seq_keys f1.view hk hf r1
  refine ⟨a, ks, rfl, sq, by rw [List.length_map] at hl; exact hl, fun b hb => ?_⟩
  refine ⟨b, metK ks, rfl, upd_same, ?_⟩
  have f2 := FrE.alloc (o := SetO X.prog X.w b (metK ks)) f1.view hb
  obtain ⟨L, eL, nd, hmem⟩ := dedup_mem ks
  have hd : d = .int (metK ks).length := by
    have h2 : lensetD [d0] = some d := ev
    rcases hk with rfl | rfl
    · simp only [lensetD, hf, Bool.true_and] at h2
      rw [if_pos (by simpa using hl)] at h2
      cases h2
      rw [eL, List.length_map, (metK_perm ks nd hmem).length_eq]
    · cases h2
  subst hd
  exact q _ _ _ (f1.trans f2) (.int _)
theorem pe_sortset {e : Expr} {x : E} {p p2 pos pos2 : Pos} (hun : X.A.units + 66 < cLine) (hc : X.calm = true) (hg : Gl X "sorted") (hm : X.mg "sorted" = none) (hg2 : Gl X "set") (hm2 : X.mg "set" = none) (ha : PE X e (tE X.K Ph false x))
    (hs : starEach [e] X.env = (false, eval e X.env) :: starEach [] X.env) :
    PE X (.Call (.Name "sorted" p) [.Call (.Name "set" p2) [e] [] pos2] [] pos) (tE X.K Ph false (.blt .sortset (.cons x .nil))) := by
  refine PE.mono (pe_callB (cr_sortM hun hc) hg hm (by decide +kernel) (pa_cons (pe_callTy (cr_setM hc) hg2 hm2 (by decide +kernel) (pa_cons ha pa_nil hs) (he := hs)) pa_nil)) fun σ H Q h => ?_
  obtain ⟨env, Hs, d0, d, es, ok, e1, ev, hk, hf, hl, q⟩ := pe_setarg ha hs (fun ds d h => by
    replace h : sortsetD ds = some d := h
    unfold sortsetD at h
    split at h
    · rename_i es
      split at h
      · rename_i c
        simp only [Bool.and_eq_true, decide_eq_true_eq] at c
        exact ⟨es, .inl rfl, c.1, c.2⟩
      · cases h
    · rename_i es
      split at h
      · rename_i c
        simp only [Bool.and_eq_true, decide_eq_true_eq] at c
        exact ⟨es, .inr rfl, c.1, c.2⟩
      · cases h
    · cases h) h
  refine ⟨env, Hs, _, ok, e1, fun v H1 Hs1 f1 r1 => ?_⟩
  obtain ⟨a, ks, rfl, rfl, sq, hok⟩ := seq_keys f1.view hk hf r1
  refine ⟨a, ks, rfl, sq, by rw [List.length_map] at hl; exact hl, fun b hb => ?_⟩
  have f2 := FrE.alloc (o := SetO X.prog X.w b (metK ks)) f1.view hb
  obtain ⟨L, eL, nd, hmem⟩ := dedup_mem ks
  have hd : sortedD (dedup (ks.map kD)) = some d := by
    have h2 : sortsetD [d0] = some d := ev
    rcases hk with rfl | rfl <;> simp only [sortsetD, hf, Bool.true_and] at h2 <;> rw [if_pos (by simpa using hl)] at h2 <;> exact h2
  rw [eL] at hd
  have hd2 := (sortedD_perm (List.Perm.refl _) L rfl hd).2
  subst hd2
  refine ⟨b, metK ks, Hs1, L.map kD, rfl, upd_same, f2.view, fun k hk => hok k ?_, ⟨L, rfl, metK_perm ks nd hmem⟩, hd, fun p2 ys H2 Hs2 f3 hp ry => ?_⟩
  · unfold metK at hk
    rw [foldK_mem] at hk
    simpa using hk
  · exact q _ _ _ (((f1.trans f2).trans f3).trans (FrE.put f3.view hp)) (rp_lst (f3.view.none hp) ry)
end
end Wr
end

section
set_option Elab.async false
set_option linter.all false
set_option maxRecDepth 100000
set_option maxHeartbeats 4000000
/-! WrPd: dicts with tuples as keys: made, stored into, handed on; count in a tuple. -/
namespace Wr
open PySem PySem.Spec PyProof.Rows L2
variable [Wld]
/-! ### keys -/
mutual
theorem ky_eqv : ∀ {a b : PyData}, kyD a = true → kyD b = true → (PyData.eqv a b = true ↔ a = b)
  | .int i, b, _, hb => by cases b <;> simp [kyD] at hb <;> simp [PyData.eqv]
  | .str x, b, _, hb => by cases b <;> simp [kyD] at hb <;> simp [PyData.eqv]
  | .tuple xs, b, ha, hb => by
    cases b with
    | tuple ys =>
      rw [kyD] at ha hb
      rw [PyData.eqv, kys_eqv ha hb]
      simp
    | int j => simp [PyData.eqv]
    | str y => simp [PyData.eqv]
    | none => simp [kyD] at hb
    | bool y => simp [kyD] at hb
    | list y => simp [kyD] at hb
    | dict y => simp [kyD] at hb
  | .none, _, ha, _ => by simp [kyD] at ha
  | .bool _, _, ha, _ => by simp [kyD] at ha
  | .list _, _, ha, _ => by simp [kyD] at ha
  | .dict _, _, ha, _ => by simp [kyD] at ha
theorem kys_eqv : ∀ {a b : List PyData}, kyDs a = true → kyDs b = true → (PyData.eqvAll a b = true ↔ a = b)
  | [], [], _, _ => by simp [PyData.eqvAll]
  | [], _ :: _, _, _ => by simp [PyData.eqvAll]
  | _ :: _, [], _, _ => by simp [PyData.eqvAll]
  | x :: xs, y :: ys, ha, hb => by
    rw [kyDs, Bool.and_eq_true] at ha hb
    rw [PyData.eqvAll, Bool.and_eq_true, ky_eqv ha.1 hb.1, kys_eqv ha.2 hb.2]
    simp
end
mutual
theorem kOf_inj : ∀ {a b : PyData}, kyD a = true → kyD b = true → kOf a = kOf b → a = b
  | .int i, b, _, hb, h => by cases b <;> simp [kyD] at hb <;> simp [kOf] at h; rw [h]
  | .str x, b, _, hb, h => by cases b <;> simp [kyD] at hb <;> simp [kOf] at h; rw [h]
  | .tuple xs, b, ha, hb, h => by
    cases b with
    | tuple ys =>
      rw [kyD] at ha hb
      rw [kOf, kOf] at h
      injection h with h
      rw [kOfs_inj ha hb h]
    | int j => simp [kOf] at h
    | str y => simp [kOf] at h
    | none => simp [kyD] at hb
    | bool y => simp [kyD] at hb
    | list y => simp [kyD] at hb
    | dict y => simp [kyD] at hb
  | .none, _, ha, _, _ => by simp [kyD] at ha
  | .bool _, _, ha, _, _ => by simp [kyD] at ha
  | .list _, _, ha, _, _ => by simp [kyD] at ha
  | .dict _, _, ha, _, _ => by simp [kyD] at ha
theorem kOfs_inj : ∀ {a b : List PyData}, kyDs a = true → kyDs b = true → kOfs a = kOfs b → a = b
  | [], [], _, _, _ => rfl
  | [], _ :: _, _, _, h => by rw [kOfs, kOfs] at h; cases h
  | _ :: _, [], _, _, h => by rw [kOfs, kOfs] at h; cases h
  | x :: xs, y :: ys, ha, hb, h => by
    rw [kyDs, Bool.and_eq_true] at ha hb
    rw [kOfs, kOfs] at h
    injection h with h1 h2
    rw [kOf_inj ha.1 hb.1 h1, kOfs_inj ha.2 hb.2 h2]
end
mutual
theorem kOf_depth : ∀ a : PyData, (kOf a).depth ≤ a.depth
  | .int i => by simp [kOf, NestedKey.depth]
  | .str x => by simp [kOf, NestedKey.depth]
  | .tuple xs => by
    have := kOfs_depth xs
    rw [kOf, NestedKey.depth, PyData.depth]
    omega
  | .none => by simp [kOf, NestedKey.depth]
  | .bool _ => by simp [kOf, NestedKey.depth]
  | .list _ => by simp [kOf, NestedKey.depth]
  | .dict _ => by simp [kOf, NestedKey.depth]
theorem kOfs_depth : ∀ a : List PyData, NestedKey.depthAll (kOfs a) ≤ PyData.depthAll a
  | [] => by simp [kOfs, NestedKey.depthAll]
  | x :: xs => by
    have h1 := kOf_depth x
    have h2 := kOfs_depth xs
    rw [kOfs, NestedKey.depthAll, PyData.depthAll]
    omega
end
theorem kt_ky {d : PyData} (h : ktD d = true) : kyD d = true ∧ d.depth ≤ 8 := by
  cases d <;> simp only [ktD, Bool.and_eq_true, decide_eq_true_eq, Bool.false_eq_true] at h
  exact ⟨by rw [kyD]; exact h.1, h.2⟩
theorem kt_eqv {a b : PyData} (ha : ktD a = true) (hb : ktD b = true) : PyData.eqv a b = decide (kOf a = kOf b) := by
  have h1 := ky_eqv (kt_ky ha).1 (kt_ky hb).1
  by_cases e : a = b
  · subst e
    rw [h1.mpr rfl]
    simp
  · rw [decide_eq_false fun z => e (kOf_inj (kt_ky ha).1 (kt_ky hb).1 z)]
    cases q : PyData.eqv a b with
    | false => rfl
    | true => exact absurd (h1.mp q) e
mutual
theorem nest_of {X : Cx} {pins : List (Addr × Obj)} {σ : L2.St} {H : Hp} {s : Shared} (I : Inv X pins σ H s) : ∀ {d : PyData} {v : V} {u : Value}, Rp X.K H v d → kyD d = true → RelV v u → NestedIs s.heap (kOf d) u
  | _, _, _, .non, h, _ => by simp [kyD] at h
  | _, _, _, .bl _, h, _ => by simp [kyD] at h
  | _, _, u, .int i, _, r => by
    obtain ⟨t, rfl⟩ := r
    exact .int i t
  | _, _, u, .str x _, _, r => by
    obtain ⟨t, rfl⟩ := r
    exact .text x t
  | _, _, _, .lst _ _, h, _ => by simp [kyD] at h
  | _, _, u, .tup (a := a) hT ra _, h, r => by
    obtain rfl : u = Value.ref a := r
    obtain ⟨its, rv, ⟨o, ho, hc, n, hd⟩, _⟩ := I.tuple hT
    rw [kyD] at h
    exact .tup ho hc hd (by simpa using nests_of I ra h rv)
  | _, _, _, .dic _ _, h, _ => by simp [kyD] at h
theorem nests_of {X : Cx} {pins : List (Addr × Obj)} {σ : L2.St} {H : Hp} {s : Shared} (I : Inv X pins σ H s) : ∀ {ds : List PyData} {vs : List V} {us : List Value}, RpAll X.K H vs ds → kyDs ds = true → Vals vs us → NestedAll s.heap (kOfs ds) us
  | _, _, _, .nil, _, .nil => .nil
  | _, _, _, .cons h r, k, .cons q t => by
    rw [kyDs, Bool.and_eq_true] at k
    exact .cons (nest_of I h k.1 q) (nests_of I r k.2 t)
end
theorem kt_is {X : Cx} {pins : List (Addr × Obj)} {σ : L2.St} {H : Hp} {s : Shared} (I : Inv X pins σ H s) {d : PyData} {a : Addr} (r : Rp X.K H (.ref a) d) (h : ktD d = true) : (nestedKind X.prog X.w).is s.heap (kOf d) a :=
  ⟨nest_of I r (kt_ky h).1 rfl, Nat.le_trans (kOf_depth d) (kt_ky h).2⟩
/-! ### the entries -/
def TabX (K : PySem.W.Frag) (Hs : Hp) : List (PyData × PyData) → List (NestedKey × Addr × Value) → Prop :=
  Paired fun q x => ktD q.1 = true ∧ x.1 = kOf q.1 ∧ Rp K Hs (.ref x.2.1) q.1 ∧ ∃ v, RelV v x.2.2 ∧ Rp K Hs v q.2
abbrev TabV : List (PyData × Addr × V) → List (NestedKey × Addr × Value) → Prop :=
  Paired fun (p : PyData × Addr × V) (q : NestedKey × Addr × Value) => q.1 = kOf p.1 ∧ q.2.1 = p.2.1 ∧ RelV p.2.2 q.2.2
theorem tabX_of {K : PySem.W.Frag} {Hs : Hp} : ∀ {kvs : List (PyData × Addr × V)} {kds : List (PyData × PyData)} {xs : List (NestedKey × Addr × Value)}, TabIs K Hs kvs kds → TabV kvs xs → TabX K Hs kds xs
  | [], [], [], .nil, .nil => .nil
  | p :: kvs, q :: kds, x :: xs, .cons h t, .cons g u => by
    refine .cons ⟨h.2.1, ?_, ?_, p.2.2, g.2.2, h.2.2.2⟩ (tabX_of t u)
    · rw [g.1, h.1]
    · rw [g.2.1]; exact h.2.2.1
theorem tabX_back {K : PySem.W.Frag} {Hs : Hp} : ∀ {kds : List (PyData × PyData)} {xs : List (NestedKey × Addr × Value)}, TabX K Hs kds xs → ∃ kvs, TabIs K Hs kvs kds ∧ TabV kvs xs
  | [], [], .nil => ⟨[], .nil, .nil⟩
  | q :: kds, x :: xs, .cons h t => by
    obtain ⟨kvs, h1, h2⟩ := tabX_back t
    obtain ⟨k1, k2, k3, v, k4, k5⟩ := h
    exact ⟨(q.1, x.2.1, v) :: kvs, .cons ⟨rfl, k1, k3, k5⟩ h1, .cons ⟨k2, rfl, k4⟩ h2⟩
theorem TabX.any {K : PySem.W.Frag} {Hs : Hp} {k : PyData} (hk : ktD k = true) : ∀ {kds : List (PyData × PyData)} {xs : List (NestedKey × Addr × Value)}, TabX K Hs kds xs → (kds.any fun kv => PyData.eqv kv.1 k) = (atKey xs (kOf k)).isSome
  | [], [], .nil => rfl
  | q :: kds, x :: xs, .cons h t => by
    have ih := TabX.any hk t
    rw [List.any_cons, kt_eqv h.1 hk, ← h.2.1]
    by_cases e : x.1 = kOf k
    · simp [atKey, e]
    · rw [ih, decide_eq_false e]
      simp [atKey, e]
theorem TabX.look {K : PySem.W.Frag} {Hs : Hp} {k : PyData} (hk : ktD k = true) : ∀ {kds : List (PyData × PyData)} {xs : List (NestedKey × Addr × Value)}, TabX K Hs kds xs →
    (lookD kds k = none ∧ atKey xs (kOf k) = none) ∨ ∃ d p v, lookD kds k = some d ∧ atKey xs (kOf k) = some p ∧ RelV v p.2 ∧ Rp K Hs v d
  | [], [], .nil => .inl ⟨rfl, rfl⟩
  | q :: kds, x :: xs, .cons h t => by
    obtain ⟨q1, q2⟩ := q
    rw [lookD, kt_eqv h.1 hk, ← h.2.1]
    by_cases e : x.1 = kOf k
    · right
      obtain ⟨_, _, _, v, h4, h5⟩ := h
      refine ⟨q2, x.2, v, by rw [if_pos (decide_eq_true e)], by simp [atKey, e], h4, h5⟩
    · rw [if_neg (by simpa using e)]
      rcases TabX.look hk t with ⟨a, b⟩ | ⟨d, p, v, a, b, c⟩
      · exact .inl ⟨a, by simpa [atKey, e] using b⟩
      · exact .inr ⟨d, p, v, a, by simpa [atKey, e] using b, c⟩
theorem TabX.map_put {K : PySem.W.Frag} {Hs : Hp} {k d : PyData} {v : V} {r : Value} (hk : ktD k = true) (rv : RelV v r) (rd : Rp K Hs v d) : ∀ {kds : List (PyData × PyData)} {xs : List (NestedKey × Addr × Value)}, TabX K Hs kds xs →
    TabX K Hs (kds.map fun kv => if PyData.eqv kv.1 k = true then (kv.1, d) else kv) (xs.map (putAt (kOf k) r))
  | [], [], .nil => .nil
  | q :: kds, x :: xs, .cons h t => by
    refine .cons ?_ (TabX.map_put hk rv rd t)
    dsimp only
    rw [kt_eqv h.1 hk, ← h.2.1]
    by_cases e : x.1 = kOf k
    · rw [if_pos (decide_eq_true e), putAt, if_pos e]
      exact ⟨h.1, h.2.1, h.2.2.1, v, rv, rd⟩
    · rw [if_neg (by simpa using e), putAt, if_neg e]
      exact h
theorem paired_append {α β : Type} {F : α → β → Prop} : ∀ {l₁ m₁ : List α} {l₂ m₂ : List β}, Paired F l₁ l₂ → Paired F m₁ m₂ → Paired F (l₁ ++ m₁) (l₂ ++ m₂)
  | _, _, _, _, .nil, s => s
  | _, _, _, _, .cons r t, s => .cons r (paired_append t s)
theorem TabX.put {K : PySem.W.Frag} {Hs : Hp} {k d : PyData} {v : V} {r : Value} {b : Addr} (hk : ktD k = true) (rb : Rp K Hs (.ref b) k) (rv : RelV v r) (rd : Rp K Hs v d) {kds : List (PyData × PyData)} {xs : List (NestedKey × Addr × Value)} (h : TabX K Hs kds xs) :
    TabX K Hs (putD kds k d) (storedH xs (kOf k) b r) := by
  unfold putD storedH
  rw [TabX.any hk h]
  split
  · exact TabX.map_put hk rv rd h
  · exact paired_append h (.cons ⟨hk, rfl, rb, v, rv, rd⟩ .nil)
theorem TabX.length {K : PySem.W.Frag} {Hs : Hp} {kds : List (PyData × PyData)} {xs : List (NestedKey × Addr × Value)} (h : TabX K Hs kds xs) : kds.length = xs.length := Paired.length h
theorem putD_length (kds : List (PyData × PyData)) (k d : PyData) : (putD kds k d).length ≤ kds.length + 1 := by
  unfold putD
  split
  · rw [List.length_map]; omega
  · rw [List.length_append]; exact Nat.le_refl _
/-! ### the dict in the heap -/
section
variable {X : Cx} {pins : List (Addr × Obj)} {σ : L2.St} {H Hs : Hp} {s : Shared} {a : Addr} {kds : List (PyData × PyData)}
structure HasW (X : Cx) : Prop where
  P : Wld.P = X.prog
  w : Wld.w = X.w
theorem tab_rd (I : Inv X pins σ H s) {kvs : List (PyData × Addr × V)} (e : Rd H a (tabO X.prog X.w a kvs)) : tabF X.prog X.w a kvs s.heap := (e.ok I.hok).1
theorem tab_at (I : Inv X pins σ H s) (w : View Hs H) {kvs : List (PyData × Addr × V)} (e : Rd H a (tabO X.prog X.w a kvs)) (t : TabIs X.K Hs kvs kds) :
    kds.length ≤ sizeLine ∧ (a == sysModules) = false ∧ ∃ xs, TabX X.K Hs kds xs ∧ s.heap.DictOfH (nestedKind X.prog X.w) a xs := by
  obtain ⟨z, hd, xs, pr, o, es, ep, ho, hx, hdt, he, hn⟩ := tab_rd I e
  have tx := tabX_of t pr
  refine ⟨by rw [← (Paired.length t : kvs.length = kds.length)]; exact z, hd, xs, tx, o, es, ep, ho, hx, hdt, he, fun x hm => ?_, hn⟩
  have : ∀ {kds : List (PyData × PyData)} {xs : List (NestedKey × Addr × Value)}, TabX X.K Hs kds xs → ∀ x ∈ xs, (nestedKind X.prog X.w).is s.heap x.1 x.2.1 := by
    intro kds xs h
    induction h with
    | nil => intro x hx; simp at hx
    | cons h t ih =>
      intro x hx
      rcases List.mem_cons.mp hx with rfl | hx
      · rw [h.2.1]
        exact kt_is I (h.2.2.1.view w) h.1
      · exact ih x hx
  exact this tx x hm
theorem tab_new {h' : Heap} {xs : List (NestedKey × Addr × Value)} (tx : TabX X.K Hs kds xs) (z : kds.length ≤ sizeLine) (hd : (a == sysModules) = false) (dd : h'.DictOfH (nestedKind X.prog X.w) a xs) :
    ∃ kvs, TabIs X.K Hs kvs kds ∧ ∀ {H' : Hp}, ObjOk X.prog X.w H' h' a (tabO X.prog X.w a kvs) := by
  obtain ⟨kvs, t, pr⟩ := tabX_back tx
  obtain ⟨o, es, ep, ho, hx, hdt, he, _, hn⟩ := dd
  refine ⟨kvs, t, fun {H'} => ⟨⟨by rw [(Paired.length t : kvs.length = kds.length)]; exact z, hd, xs, pr, o, es, ep, ho, hx, hdt, he, hn⟩, ⟨o, ho⟩, fun h1 h2 p k => ?_⟩⟩
  obtain ⟨z, hd, xs, pr, o, es, ep, ho, hx, hdt, he, hn⟩ := p
  exact ⟨z, hd, xs, pr, o, es, ep, k o ho, hx, hdt, he, hn⟩
theorem room_in1 (hu : X.A.units + 66 < cLine) : (nestedKind X.prog X.w).room X.A.in1 := by
  show X.A.units + 1 + 8 < cLine
  omega
theorem room_in (hu : X.A.units + 66 < cLine) : (nestedKind X.prog X.w).room X.A := by
  show X.A.units + 8 < cLine
  omega
/-- {} -/
def tTNew (P : Program) (w : World) : TE := fun _ H Q => ∀ p, H p = none → Q (.ref p) (upd H p (tabO P w p []))
theorem pe_tnew {pos : Pos} : PE X (.Dict [] [] pos) (tTNew X.prog X.w) := ⟨fun pins s σ H Q I h => by
  obtain ⟨kvs, t, new⟩ := tab_new (X := X) (Hs := H) (kds := []) (h' := s.heap.push { cls := .type "dict", data := .dict #[] }) (a := s.heap.objs.size) .nil (Nat.zero_le _) (beq_eq_false_iff_ne.mpr (Ne.symm (Nat.ne_of_lt I.big))) (Heap.DictOfH.new s.heap)
  cases t
  exact wpAny_Dict_empty ⟨.ref s.heap.objs.size, _, I.laid (a := s.heap.objs.size) (t' := s.toks) (fun _ _ q => Heap.get?_push_of_some _ q) (Nat.le_refl _) new, rfl, h _ (I.hok.fresh (Nat.le_refl _))⟩⟩
/-- a display of such a dict -/
theorem dict_pairsX {env : Env} {keys : List (Option Expr)} {values : List Expr} {pos : Pos} {pairs : List (Sem Value × Sem Value)} {Q : Value → Shared → Prop} {E : Value → Shared → Prop} (hu : (nestedKind X.prog X.w).room X.A)
    (hz : (evalEachOpt keys env).zip ((evalEach values env).map fun v => do let x ← v; standAt pos; pure x) = pairs.map fun p => (some p.1, p.2)) (h0 : pairs ≠ []) (hl : pairs.length ≤ 15)
    (h : wpAny (model X.prog X.w) X.A (evalPairs pairs) (fun vs s1 => ∃ ps, CarriesH (nestedKind X.prog X.w) s1.heap vs ps ∧ s1.heap.DictOfH (nestedKind X.prog X.w) s.heap.objs.size [] ∧
      ∀ h' tk, h'.DictOfH (nestedKind X.prog X.w) s.heap.objs.size (storedAllH [] ps) → Heap.SameBut s.heap.objs.size s1.heap h' → Q (.ref s.heap.objs.size) { s1 with heap := h', toks := tk }) E
      { s with heap := s.heap.push { cls := .type "dict", data := .dict #[] } }) : wpAny (model X.prog X.w) X.A (eval (.Dict keys values pos) env) Q E s := by
  rw [arm_eval_Dict, hz]
  rw [dictDisplay_pairs pairs h0 (by omega)]
  refine wpAny_bind (wpAny_standAt ?_)
  refine wpAny_bind (wpAny_subDictH (knd := nestedKind X.prog X.w) hu hl (thn h fun vs s1 ⟨ps, h1, h2, h3⟩ => ⟨ps, h1, h2, fun h' tk a b => ?_⟩))
  exact wpAny_pure (h3 h' tk a b)
/-- {k: v} -/
def tTOne (P : Program) (w : World) (K : PySem.W.Frag) (tk tv : TE) : TE := fun σ H Q => ∀ p, H p = none → tk σ (upd H p (tabO P w p [])) fun x H1 => tv σ H1 fun y H2 => H2 p = some (tabO P w p []) ∧ ∃ Hs k d b, x = .ref b ∧ View Hs H2 ∧ ktD k = true ∧ Rp K Hs x k ∧ Rp K Hs y d ∧
  ∀ kvs, TabIs K Hs kvs [(k, d)] → Q (.ref p) (upd H2 p (tabO P w p kvs))
theorem pe_tone {k v : Expr} {tk tv : TE} {pos : Pos} (hu : X.A.units + 66 < cLine) (hk : PE X k tk) (hv : PE X v tv) : PE X (.Dict [some k] [v] pos) (tTOne X.prog X.w X.K tk tv) := by
  refine ⟨fun pins s σ H Q I q => ?_⟩
  have hn := I.hok.fresh (Nat.le_refl s.heap.objs.size)
  have hsm : (s.heap.objs.size == sysModules) = false := beq_eq_false_iff_ne.mpr (Ne.symm (Nat.ne_of_lt I.big))
  obtain ⟨kvs0, t0, new0⟩ := tab_new (X := X) (Hs := H) (kds := []) (h' := s.heap.push { cls := .type "dict", data := .dict #[] }) (a := s.heap.objs.size) .nil (Nat.zero_le _) hsm (Heap.DictOfH.new s.heap)
  cases t0
  have I1 := I.laid (a := s.heap.objs.size) (h' := s.heap.push { cls := .type "dict", data := .dict #[] }) (t' := s.toks) (fun _ _ q => Heap.get?_push_of_some _ q) (Nat.le_refl _) new0
  refine dict_pairsX (pairs := pairTrees [some k] [v] X.env pos) (room_in hu) (zip_pairTrees _ _ _ _ rfl rfl) (fun z => nomatch z) (by show 1 ≤ 15; omega) ?_
  refine pairTrees_cons_walk (thn (hk.run pins _ σ _ _ I1 (q _ hn)) fun u s1 ⟨x, H1, I2, rx, q1⟩ => thn (hv.run pins s1 σ H1 _ I2 q1) fun u2 s2 ⟨y, H2, I3, ry, e2, Hs, kd, d, b, ex, w, hkt, rk, rd, q2⟩ => pairTrees_nil_walk ?_)
  subst ex
  obtain rfl : u = Value.ref b := rx
  obtain ⟨_, _, xs0, tx0, dd0⟩ := tab_at (kds := []) I3 w (.inl e2) .nil
  cases tx0
  refine ⟨[(kOf kd, b, u2)], ⟨rfl, rfl, kt_is I3 (rk.view w) hkt, trivial⟩, dd0, fun h' tk' dd hs => ?_⟩
  replace dd : h'.DictOfH (nestedKind X.prog X.w) s.heap.objs.size [(kOf kd, b, u2)] := dd
  obtain ⟨kvs, t, new⟩ := tab_new (X := X) (Hs := Hs) (kds := [(kd, d)]) (h' := h') (a := s.heap.objs.size) (.cons ⟨hkt, rfl, rk, y, ry, rd⟩ .nil) (by show 1 ≤ sizeLine; decide) hsm dd
  exact ⟨.ref s.heap.objs.size, _, d_write I3 (by rw [e2]; exact True.intro) hs (let ⟨q, _, _, hq, _⟩ := dd; ⟨q, hq⟩) (new (H' := _)), rfl, q2 kvs t⟩
end
end Wr
end

section
set_option Elab.async false
set_option linter.all false
set_option maxRecDepth 100000
set_option maxHeartbeats 4000000
/-! WrPe: statements over dicts with tuples as keys; their keys walked and sorted; count in a tuple. -/
namespace Wr
open PySem PySem.Spec PyProof.Rows L2
variable [Wld]
section
variable {X : Cx} {Ph : Nat → List PyData → Option PyData} {fr : Nat → Bool}
theorem ownT_of (hw : HasW X) {K : PySem.W.Frag} {Hs H : Hp} {a : Addr} {kds : List (PyData × PyData)} (h : OwnT K Hs H a kds) : Hs a = none ∧ ∃ kvs, H a = some (tabO X.prog X.w a kvs) ∧ TabIs K Hs kvs kds := by
  rw [← hw.P, ← hw.w]
  exact h
theorem ownT_mk (hw : HasW X) {K : PySem.W.Frag} {Hs H : Hp} {a : Addr} {kds : List (PyData × PyData)} {kvs : List (PyData × Addr × V)} (n : Hs a = none) (e : H a = some (tabO X.prog X.w a kvs)) (t : TabIs K Hs kvs kds) : OwnT K Hs H a kds :=
  ⟨n, kvs, by rw [hw.P, hw.w]; exact e, t⟩
/-- x = {} -/
theorem ps_tnw {i : Nat} {x : Str} {p q pos : Pos} (hw : HasW X) (hN : X.N.Nodup) (hi : X.N[i]? = some x) (hx : Loc X.env.scope x) (hf : X.fn x = true ∨ X.env.scope.names.lookup x = some .local) : PS X (.Assign [.Name x p] (.Dict [] [] q) pos) (tS X.K Ph fr (.tnw i)) := by
  refine PS.mono (ps_set hN hi hx pe_tnew rfl hf) fun D σ H h => ?_
  obtain ⟨env, Hs, out, ok, ev, h⟩ := h
  rw [exS] at ev
  cases ev
  intro a ha
  have f := FrE.alloc (o := tabO X.prog X.w a []) ok.view ha
  refine h _ _ Hs ((ok.fr f).set_dt i (ownT_mk hw (ok.view.none ha) upd_same .nil) fun z => (ok.owned z).1 ha) ((FrS.ofE f).own_or fun b hb => ?_)
  rcases owned_set_one hb with z | z
  · exact .inl z
  · exact .inr (by rw [z]; exact ha)
/-- x = {k: v} -/
theorem ps_tn1 {i : Nat} {x : Str} {k v : Expr} {ki vi : E} {p q pos : Pos} (hw : HasW X) (hu : X.A.units + 66 < cLine) (hN : X.N.Nodup) (hi : X.N[i]? = some x) (hx : Loc X.env.scope x) (hf : X.fn x = true ∨ X.env.scope.names.lookup x = some .local)
    (hk : PE X k (tE X.K Ph false ki)) (hv : PE X v (tE X.K Ph false vi)) : PS X (.Assign [.Name x p] (.Dict [some k] [v] q) pos) (tS X.K Ph fr (.tn1 i ki vi)) := by
  refine PS.mono (ps_set hN hi hx (pe_tone hu hk hv) rfl hf) fun D σ H h => ?_
  obtain ⟨env, Hs, out, ok, ev, h⟩ := h
  rw [exS] at ev
  split at ev
  · rename_i kd e1
    split at ev
    · rename_i d e2
      split at ev
      · rename_i hkt
        cases ev
        intro a ha
        have f0 := FrE.alloc (o := tabO X.prog X.w a []) ok.view ha
        refine ⟨env, Hs, kd, ok.fr f0, e1, fun y H1 Hs1 f1 r1 => ⟨env, Hs1, d, (ok.fr f0).fr f1, e2, fun z H2 Hs2 f2 r2 => ?_⟩⟩
        have f12 := f1.trans f2
        have ea : H2 a = some (tabO X.prog X.w a []) := f12.same _ _ upd_same
        have na : Hs2 a = none := f12.stays (ok.view.none ha) upd_same
        obtain ⟨b, eb⟩ : ∃ b, y = .ref b := by
          cases kd <;> simp only [ktD, Bool.false_eq_true] at hkt
          cases r1
          exact ⟨_, rfl⟩
        refine ⟨ea, Hs2, kd, d, b, eb, f2.view, hkt, f2.rp r1, r2, fun kvs t => ?_⟩
        have hv2 : View Hs2 (upd H2 a (tabO X.prog X.w a kvs)) := ⟨fun c u q => by
          have nc : c ≠ a := by
            rintro rfl
            rcases q with q | ⟨_, q⟩ <;> rw [na] at q <;> cases q
          have := f2.view.1 c u q
          unfold Rd at this ⊢
          rw [upd_ne nc]
          exact this, fun c ob xs q => by
          rw [upd_ne (ne_of_none q na)]
          exact f2.view.2 c ob xs q⟩
        have f3 : FrE H Hs (upd H2 a (tabO X.prog X.w a kvs)) Hs2 := by
          have f02 := f0.trans f12
          refine ⟨fun c u q => ?_, f02.shar, hv2, f02.new⟩
          rw [upd_ne (ne_of_none q ha)]
          exact f02.same c u q
        refine h _ _ Hs2 ((ok.fr f3).set_dt i (ownT_mk hw na upd_same t) fun z => (ok.owned z).1 ha) ((FrS.ofE f3).own_or fun c hc => ?_)
        rcases owned_set_one hc with z | z
        · exact .inl z
        · exact .inr (by rw [z]; exact ha)
      · cases ev
    · cases ev
  · cases ev
/-- x = y, where y's dict is not asked again by that name -/
theorem ps_tmv {i j : Nat} {x y : Str} {p q pos : Pos} (hN : X.N.Nodup) (hi : X.N[i]? = some x) (hx : Loc X.env.scope x) (hf : X.fn x = true ∨ X.env.scope.names.lookup x = some .local)
    (hj : X.N[j]? = some y) (hv : Vis X.env.scope y) (hd : (y == ("__debug__" : Str)) = false) (hcd : (y == ("__classdict__" : Str)) = false) : PS X (.Assign [.Name x p] (.Name y q) pos) (tS X.K Ph fr (.tmv i j)) := by
  refine PS.mono (ps_set hN hi hx (pe_var hj hv hd hcd) rfl hf) fun D σ H h => ?_
  obtain ⟨env, Hs, out, ok, ev, h⟩ := h
  rw [exS] at ev
  split at ev
  · rename_i kds e1
    cases ev
    obtain ⟨a, h1, o⟩ := ok.dt j kds e1
    refine ⟨.ref a, h1, ?_⟩
    have e0 : EnvOk X.K (env.set j .un) σ H Hs := ok.set_at j (x := .un) h1 trivial fun _ z => z.elim
    have no : ¬ OwnedAt (env.set j .un) σ a := fun ⟨m, z, q1, q2, q3⟩ => by
      rw [set_get] at q1
      by_cases e : j = m
      · rw [if_pos e] at q1
        split at q1
        · cases q1
          exact q2
        · cases q1
      · rw [if_neg e] at q1
        exact ok.sep j m a (.dt kds) z e e1 q1 trivial q2 h1 q3
    refine h _ H Hs (e0.set_dt i o no) ((FrS.refl ok).own_mono fun b hb => ?_)
    rcases owned_set_one hb with z | z
    · exact owned_set_at (fun z => by cases z) z
    · rw [z]; exact ⟨j, .dt kds, e1, trivial, h1⟩
  · cases ev
/-- d[k] = v -/
def sTPut (X : Cx) (td ty tv : TE) : TS := fun D σ H => tv σ H fun v H1 => td σ H1 fun x H2 => ty σ H2 fun y H3 => ∃ a b Hs kvs kds k d, x = .ref a ∧ y = .ref b ∧ H3 a = some (tabO X.prog X.w a kvs) ∧ View Hs H3 ∧ TabIs X.K Hs kvs kds ∧ ktD k = true ∧ Rp X.K Hs y k ∧ Rp X.K Hs v d ∧ kds.length ≤ lim ∧
  ∀ kvs', TabIs X.K Hs kvs' (putD kds k d) → D.nx σ (upd H3 a (tabO X.prog X.w a kvs'))
theorem ps_tput {o i value : Expr} {td ty tv : TE} {pos' pos : Pos} (hu : X.A.units + 66 < cLine) (ho : PE X o td) (hi : PE X i ty) (hv : PE X value tv) (hs : swapsWith value (some (.Subscript o i pos')) pos.line X.env = pure false) :
    PS X (.Assign [.Subscript o i pos'] value pos) (sTPut X td ty tv) := by
  refine ⟨fun pins s σ H D I h => ?_⟩
  refine wpAny_Assign_Subscript (thn (hv.run pins s σ H _ I h) fun r s1 ⟨v, H1, I1, rv, q1⟩ => thn (ho.run pins s1 σ H1 _ I1 q1) fun u s2 ⟨x, H2, I2, rx, q2⟩ => thn (hi.run pins s2 σ H2 _ I2 q2) fun iv s3 ⟨y, H3, I3, ry, a, b, Hs, kvs, kds, k, d, ex, ey, e, w, t, hk, rk, rd, hl, q3⟩ => ?_) hs
  subst ex ey
  obtain rfl : u = Value.ref a := rx
  obtain rfl : iv = Value.ref b := ry
  obtain ⟨z, hsm, xs, tx, dd⟩ := tab_at I3 w (.inl e) t
  have lx : lim < sizeLine := by decide
  refine wpAny_setItem_heap (hsz := by rw [← tx.length]; exact z) (room_in1 hu) (kt_is I3 (rk.view w) hk) dd fun h' dd' hs' => ?_
  obtain ⟨kvs', t', new⟩ := tab_new (X := X) (TabX.put hk rk rv rd tx) (by have := putD_length kds k d; omega) hsm dd'
  exact ⟨σ, _, d_write I3 (by rw [e]; exact True.intro) hs' (let ⟨q, _, _, hq, _⟩ := dd'; ⟨q, hq⟩) new, q3 kvs' t'⟩
theorem ps_tpt {i : Nat} {x : Str} {k e : Expr} {ki vi : E} {p spos pos : Pos} (hw : HasW X) (hu : X.A.units + 66 < cLine) (hN : X.N[i]? = some x) (hv : Vis X.env.scope x) (hd : (x == ("__debug__" : Str)) = false) (hcd : (x == ("__classdict__" : Str)) = false) (hk : PE X k (tE X.K Ph false ki)) (he : PE X e (tE X.K Ph false vi))
    (hs : swapsWith e (some (.Subscript (.Name x p) k spos)) pos.line X.env = pure false) : PS X (.Assign [.Subscript (.Name x p) k spos] e pos) (tS X.K Ph fr (.tpt i ki vi)) := by
  refine PS.mono (ps_tput hu (pe_var hN hv hd hcd) hk he hs) fun D σ H h => ?_
  obtain ⟨env, Hs, out, ok, ev, h⟩ := h
  rw [exS] at ev
  split at ev
  · rename_i d e1
    split at ev
    · rename_i kd e2
      split at ev
      · rename_i kds e3
        split at ev
        · rename_i hc
          cases ev
          simp only [Bool.and_eq_true, decide_eq_true_eq] at hc
          obtain ⟨a, h1, o⟩ := ok.dt i kds e3
          refine ⟨env, Hs, d, ok, e1, fun v H1 Hs1 f1 r1 => ⟨.ref a, h1, env, Hs1, kd, ok.fr f1, e2, fun y H2 Hs2 f2 r2 => ?_⟩⟩
          obtain ⟨n, kvs, ea, t⟩ := ownT_of hw ((f1.trans f2).ownT o)
          obtain ⟨b, eb⟩ : ∃ b, y = .ref b := by
            have hk := hc.1
            cases kd <;> simp only [ktD, Bool.false_eq_true] at hk
            cases r2
            exact ⟨_, rfl⟩
          refine ⟨a, b, Hs2, kvs, kds, kd, d, rfl, eb, ea, f2.view, t, hc.1, r2, f2.rp r1, hc.2, fun kvs' t' => ?_⟩
          obtain ⟨ok2, f3⟩ := ((ok.fr f1).fr f2).mutateG (y := .dt (putD kds kd d)) (o := tabO X.prog X.w a kvs') e3 trivial h1 n ⟨a, rfl, ownT_mk hw n upd_same t'⟩
          exact h σ _ Hs2 ok2 ((FrS.ofE (f1.trans f2)).trans f3)
        · cases ev
      · cases ev
    · cases ev
  · cases ev
/-! ### the keys walked -/
/-- the keys of the locked dict, in their order -/
def Itkn (P : Program) (w : World) (d : Addr) (o : Obj) (kvs : List (PyData × Addr × V)) : It :=
  ⟨fun i H => H d = some (.frz o (tabO P w d kvs)) ∧ i < kvs.length, fun i H x H' => H' = H ∧ ∃ p, kvs[i]? = some p ∧ x = .ref p.2.1, fun i H => H d = some (.frz o (tabO P w d kvs)) ∧ kvs.length ≤ i⟩
theorem frzN {pins : List (Addr × Obj)} {σ : L2.St} {H : Hp} {s : Shared} {d : Addr} {o : Obj} {kvs : List (PyData × Addr × V)} (I : Inv X pins σ H s) (h : H d = some (.frz o (tabO X.prog X.w d kvs))) :
    (d == sysModules) = false ∧ s.heap.get? d = some o ∧ o.ExactDict ∧ kvs.length ≤ sizeLine ∧ ∃ (es : Array DictEntry) (ep : Nat), o.data = .dict es ep ∧ es.size = kvs.length ∧
      ∀ (i : Nat) (p : PyData × Addr × V), kvs[i]? = some p → ∃ en : DictEntry, es[i]? = some en ∧ en.key = .ref p.2.1 ∧ RelV p.2.2 en.val := by
  obtain ⟨hd, ⟨z, hs, xs, pr, o', es, ep, ho, hx, hdt, he, _⟩, _⟩ := I.hok d _ h
  rw [hd] at ho
  cases ho
  refine ⟨hs, hd, hx, z, es, ep, hdt, ?_, fun i p e => ?_⟩
  · have l1 : es.size = xs.length := size_of_entries he
    have l2 : kvs.length = xs.length := Paired.length pr
    omega
  · obtain ⟨b, hb, _, e2, e3⟩ := paired_get pr e
    have q := entry_at he i
    rw [hb] at q
    exact ⟨_, q, by show Value.ref b.2.1 = _; rw [e2], e3⟩
theorem turn_keysN {P : Program} {w : World} {K : PySem.W.Frag} {tg : Expr} {d : Addr} {o : Obj} {es : Array DictEntry} {ep : Nat} {kvs : List (PyData × Addr × V)} (it : Addr) (hod : o.data = .dict es ep) : Turn P w K tg (Itkn P w d o kvs) [it] it (fun i h => h.IsKeyIter it d i kvs.length ep) where
  mem := by simp
  obj := fun i h st b hb => by
    obtain rfl : b = it := by simpa using hb
    obtain ⟨oi, e, c, dd⟩ := st
    exact ⟨oi, e, fun v z => by rw [dd] at z; cases z⟩
  keep := fun i h h' st k => st.at fun oi e => k it (by simp) oi e
  item := by
    intro X hP hw hK hc i pins s σ H E I hf st hg
    subst hP hw hK
    obtain ⟨hd, hi⟩ := hg
    obtain ⟨f0, f1, f2, f3, f4, f5⟩ := hf it (by simp)
    obtain ⟨hs, hgd, hx, _, es', ep', hdt, hsz, ent⟩ := frzN I hd
    obtain ⟨rfl, rfl⟩ := dict_ep hod hdt
    have hkv : kvs[i]? = some kvs[i] := List.getElem?_eq_getElem hi
    obtain ⟨en, hen, hkey, _⟩ := ent i _ hkv
    refine next_key_item st hgd hdt hsz hen fun h' st' sb => ?_
    have I1 : Inv X pins σ H { s with heap := h' } :=
      I.turned (t' := s.toks) (fun b ob hb e => (sb.2 b hb).trans e) f0 f1 f3 f4 f5
    obtain ⟨oi, e, c, dd⟩ := id st'
    refine ⟨en.key, rfl, go_of (s := { s with heap := h' }) e c dd (by decide) ⟨.ref kvs[i].2.1, H, I1, hkey, ⟨rfl, kvs[i], hkv, rfl⟩, st', fun b hb => (hf b hb).1⟩⟩
  done := by
    intro X hP hw hK hc i pins s σ H E I hf st hg
    subst hP hw hK
    obtain ⟨hd, hi⟩ := hg
    obtain ⟨f0, f1, f2, f3, f4, f5⟩ := hf it (by simp)
    obtain ⟨hs, hgd, hx, _, es', ep', hdt, hsz, ent⟩ := frzN I hd
    obtain ⟨rfl, rfl⟩ := dict_ep hod hdt
    refine next_key_end (I.ok.hd hc) st hgd hdt hsz hi fun h' eb => ⟨rfl, ?_⟩
    exact I.turned (t' := s.toks) (fun b ob hb e => eb b ob hb e) f0 f1 f3 f4 f5
  self := fun A i s Q E st h => wpAny_pyIter_keyiter st h
def iKeysN (X : Cx) (td : TE) : TI := fun σ H R => td σ H fun x H1 => ∃ d o kvs, x = .ref d ∧ H1 d = some (.frz o (tabO X.prog X.w d kvs)) ∧ R (Itkn X.prog X.w d o kvs) H1
theorem pi_keysN {tg e : Expr} {td : TE} (he : PE X e td) : PI X tg e (iKeysN X td) := by
  refine ⟨fun pins s σ H R I h => ?_⟩
  refine thn (he.run pins s σ H _ I h) fun u s1 ⟨x, H1, I1, rx, d, o, kvs, ex, hd, q⟩ => ?_
  subst ex
  obtain rfl : u = Value.ref d := rx
  obtain ⟨hs, hgd, hx, _, es, ep, hdt, hsz, ent⟩ := frzN I1 hd
  refine iter_keys hs hgd hx hdt (pi_one (tk := s1.toks) I1 _ (turn_keysN _ hdt) ⟨_, Heap.get?_push_size _ rfl, rfl, ?_⟩ q)
  rw [hsz] <;> rfl
/-- J walks the data ds while the dict at a is locked -/
structure WkT (K : PySem.W.Frag) (J : It) (ds : List PyData) (Hs : Hp) (a : Addr) (u : HO) : Prop where
  go : ∀ H2 i, H2 a = some u → i < ds.length → J.go i H2
  yl : ∀ H2 Hs2 i d x H3, Same Hs Hs2 → View Hs2 H2 → H2 a = some u → ds[i]? = some d → J.yld i H2 x H3 → ∃ Hs3, FrE H2 Hs2 H3 Hs3 ∧ Rp K Hs3 x d
  st : ∀ H2 i, H2 a = some u → ds.length ≤ i → J.stop i H2
theorem WkT.keys {K : PySem.W.Frag} {Hs : Hp} {P : Program} {w : World} {d : Addr} {o : Obj} {kvs : List (PyData × Addr × V)} {kds : List (PyData × PyData)} (t : TabIs K Hs kvs kds) : WkT K (Itkn P w d o kvs) (kds.map (·.1)) Hs d (.frz o (tabO P w d kvs)) where
  go := fun H2 i e h => ⟨e, by rw [List.length_map, ← (Paired.length t : kvs.length = kds.length)] at h; exact h⟩
  yl := fun H2 Hs2 i d x H3 s1 w1 e hd hy => by
    obtain ⟨rfl, p, hp, rfl⟩ := hy
    obtain ⟨q, hq, h1, _, h3, _⟩ := paired_get t hp
    rw [List.getElem?_map, hq] at hd
    cases hd
    exact ⟨Hs2, FrE.refl w1, h3.view (View.of_same s1)⟩
  st := fun H2 i e h => ⟨e, by rw [List.length_map, ← (Paired.length t : kvs.length = kds.length)] at h; exact h⟩
/-- the loop over what J walks, the dict at a locked and held by no name -/
theorem tfor_run {K : PySem.W.Frag} {t : Tg} {bi : Ss} {D : Ends} {σ : L2.St} {H1 Hs1 : Hp} {J : It} {env : Ev} {ds : List PyData} {a : Addr} {u : HO} {out : Out} (wk : WkT K J ds Hs1 a u) (ea : H1 a = some u) (na : ¬ OwnedAt env σ a) (ok1 : EnvOk K env σ H1 Hs1) (ev : loopF t (fun env => exSs Ph fr env bi) ds env = some out)
    (q1 : toD K env σ H1 Hs1 D out) : ∃ W : Nat → Nat → L2.St → Hp → Prop, (∃ m, W 0 m σ H1) ∧ ∀ i m σ H, W i m σ H →
      (J.stop i H ∧ D.nx σ H) ∨ (J.go i H ∧ ∃ N : L2.St → Hp → Prop, (∀ σ' H', N σ' H' → ∃ m', m' < m ∧ W (i + 1) m' σ' H') ∧ ∀ x H', J.yld i H x H' → gT K t x σ H' fun σ2 H2 => tSs K Ph fr bi { D with nx := N, ct := N, bk := D.nx } σ2 H2) := by
  refine ⟨fun i m σc Hc => m = ds.length - i ∧ i ≤ ds.length ∧ ∃ envc Hsc, EnvOk K envc σc Hc Hsc ∧ FrS env σ H1 Hs1 (OwnedAt envc σc) Hc Hsc ∧ loopF t (fun env => exSs Ph fr env bi) (ds.drop i) envc = some out, ⟨ds.length, rfl, Nat.zero_le _, env, Hs1, ok1, FrS.refl ok1, by simpa using ev⟩, fun i m σc Hc hW => ?_⟩
  obtain ⟨rfl, hi, envc, Hsc, okc, fc, ec⟩ := hW
  have eac : Hc a = some u := fc.keep a u ea na
  by_cases hlt : i < ds.length
  · refine .inr ⟨wk.go Hc i eac hlt, fun σn Hn => ∃ envc Hsc, EnvOk K envc σn Hn Hsc ∧ FrS env σ H1 Hs1 (OwnedAt envc σn) Hn Hsc ∧ loopF t (fun env => exSs Ph fr env bi) (ds.drop (i + 1)) envc = some out, fun σn Hn hn => ?_, fun x Hy hy => ?_⟩
    · obtain ⟨a1, a2, hh⟩ := hn
      exact ⟨ds.length - (i + 1), by omega, rfl, by omega, a1, a2, hh⟩
    · have ed : ds.drop i = ds[i] :: ds.drop (i + 1) := List.drop_eq_getElem_cons hlt
      rw [ed, loopF] at ec
      obtain ⟨Hsy, fy, ry⟩ := wk.yl Hc Hsc i ds[i] x Hy fc.shar fc.view eac (List.getElem?_eq_getElem hlt) hy
      have okw := okc.fr fy
      split at ec
      · rename_i env1 eb
        refine ⟨envc, Hsy, ds[i], env1, okw, ry, eb, fun σ2 ok2 w2 ow2 => ?_⟩
        have f2 : FrS env σ H1 Hs1 (OwnedAt env1 σ2) Hy Hsy := (fc.trans (FrS.ofE fy)).own_mono ow2
        split at ec
        · rename_i env2 e2
          exact ⟨env1, Hsy, .nx env2, ok2, e2, fun σ3 H3 Hs3 ok3 f3 => ⟨env2, Hs3, ok3, f2.trans f3, ec⟩⟩
        · rename_i r hr
          refine ⟨env1, Hsy, out, ok2, ec, ?_⟩
          have q2 := toD.step f2 q1
          cases out with
          | nx e => exact absurd ec (hr e)
          | rt d b => exact q2
      · cases ec
  · refine .inl ⟨wk.st Hc i eac (by omega), ?_⟩
    have e0 : ds.drop i = [] := List.drop_eq_nil_of_le (by omega)
    rw [e0, loopF] at ec
    cases ec
    exact q1 σc Hc Hsc okc fc
/-- the dict that slot j alone holds, locked and out of the slot's hands -/
theorem unheld {K : PySem.W.Frag} {env : Ev} {σ : L2.St} {H Hs : Hp} {j : Nat} {kds : List (PyData × PyData)} {a : Addr} {u : HO} (ok : EnvOk K env σ H Hs) (e1 : env[j]? = some (.dt kds)) (h1 : σ[j]? = some (some (.ref a))) :
    ¬ OwnedAt (env.set j .un) σ a ∧ EnvOk K (env.set j .un) σ (upd H a u) Hs := by
  have e0 : EnvOk K (env.set j .un) σ H Hs := ok.set_at j (x := .un) h1 trivial fun _ z => z.elim
  have no : ¬ OwnedAt (env.set j .un) σ a := fun ⟨m, z, q1, q2, q3⟩ => by
    rw [set_get] at q1
    by_cases e : j = m
    · rw [if_pos e] at q1
      split at q1
      · cases q1
        exact q2
      · cases q1
    · rw [if_neg e] at q1
      exact ok.sep j m a (.dt kds) z e e1 q1 trivial q2 h1 q3
  have na : Hs a = none := (ok.owned ⟨j, .dt kds, e1, trivial, h1⟩).2
  refine ⟨no, e0.re (Same.refl _) ⟨fun c w q => ?_, fun c ob xs q => ?_⟩ fun b hb => ⟨?_, (e0.owned hb).2⟩⟩
  · have nc : c ≠ a := by
      rintro rfl
      rcases q with q | ⟨_, q⟩ <;> rw [na] at q <;> cases q
    have := ok.view.1 c w q
    unfold Rd at this ⊢
    rw [upd_ne nc]
    exact this
  · rw [upd_ne (ne_of_none q na)]
    exact ok.view.2 c ob xs q
  · rw [upd_ne]
    rintro rfl
    exact no hb
/-- .. and unlocked behind -/
theorem relock {K : PySem.W.Frag} {env : Ev} {σ : L2.St} {H Hs : Hp} {j : Nat} {kds : List (PyData × PyData)} {a : Addr} {u v : HO} {D : Ends} {out : Out} (ok : EnvOk K env σ H Hs) (e1 : env[j]? = some (.dt kds)) (h1 : σ[j]? = some (some (.ref a))) (q : toD K env σ H Hs D out) :
    toD K (env.set j .un) σ (upd H a u) Hs ⟨fun σ' H' => H' a = some u ∧ D.nx σ' (upd H' a v), fun x H' => H' a = some u ∧ D.rt x (upd H' a v), fun σ' H' => H' a = some u ∧ D.bk σ' (upd H' a v), fun σ' H' => H' a = some u ∧ D.ct σ' (upd H' a v)⟩ out := by
  obtain ⟨no, ok1⟩ := unheld (u := u) ok e1 h1
  have ow : OwnedAt env σ a := ⟨j, .dt kds, e1, trivial, h1⟩
  have na := (ok.owned ow).2
  have key : ∀ {o2 : Addr → Prop} {H' Hs' : Hp}, FrS (env.set j .un) σ (upd H a u) Hs o2 H' Hs' → H' a = some u ∧ Hs' a = none ∧ FrS env σ H Hs o2 (upd H' a v) Hs' := by
    intro o2 H' Hs' f
    have ha : H' a = some u := f.keep a u upd_same no
    have hs' : Hs' a = none := by
      cases z : Hs' a with
      | none => rfl
      | some w =>
        rcases f.new a na (by rw [z]; simp) with t | t
        · rw [upd_same] at t; cases t
        · exact absurd t no
    refine ⟨ha, hs', f.shar, ⟨fun c w q => ?_, fun c ob xs q => ?_⟩, fun c w e n => ?_, fun c h2 h3 => ?_, fun c hc => ?_⟩
    · have nc : c ≠ a := by
        rintro rfl
        rcases q with q | ⟨_, q⟩ <;> rw [hs'] at q <;> cases q
      have := f.view.1 c w q
      unfold Rd at this ⊢
      rw [upd_ne nc]
      exact this
    · rw [upd_ne (ne_of_none q hs')]
      exact f.view.2 c ob xs q
    · have nc : c ≠ a := fun z => n (by rw [z]; exact ow)
      rw [upd_ne nc]
      exact f.keep c w (by rw [upd_ne nc]; exact e) fun z => n (owned_set_at (fun z => by cases z) z)
    · rcases f.new c h2 h3 with t | t
      · by_cases z : c = a
        · subst z; exact .inr ow
        · rw [upd_ne z] at t; exact .inl t
      · exact .inr (owned_set_at (fun z => by cases z) t)
    · rcases f.own c hc with t | t
      · exact .inl (owned_set_at (fun z => by cases z) t)
      · by_cases z : c = a
        · subst z; exact .inl ow
        · rw [upd_ne z] at t; exact .inr t
  cases out with
  | nx env' =>
    intro σ' H' Hs' ok' f
    obtain ⟨h2, h3, f2⟩ := key f
    have nb : ∀ b, OwnedAt env' σ' b → b ≠ a := fun b hb z => by
      subst z
      rcases f.own b hb with t | t
      · exact no t
      · rw [upd_same] at t; cases t
    exact ⟨h2, q σ' _ Hs' (ok'.re (Same.refl _) f2.view fun b hb => ⟨by rw [upd_ne (nb b hb)], (ok'.owned hb).2⟩) f2⟩
  | rt d b =>
    intro x H' Hs' f r
    obtain ⟨h2, h3, f2⟩ := key f
    refine ⟨h2, q x _ Hs' f2 ?_⟩
    cases b with
    | false => exact r
    | true =>
      obtain ⟨p, e, n, o⟩ := r
      have ne : p ≠ a := by
        rintro rfl
        rcases n with n | n
        · rw [upd_same] at n; cases n
        · exact no n
      refine ⟨p, e, ?_, o.frame ne⟩
      rcases n with n | n
      · rw [upd_ne ne] at n; exact .inl n
      · exact .inr (owned_set_at (fun z => by cases z) n)
theorem ps_tfk {tg : Expr} {j : Nat} {y : Str} {body : List Stmt} {t : Tg} {bi : Ss} {q pos : Pos} (hw : HasW X) (hp : PassesOwn (model X.prog X.w) X.A X.env X.xe) (hc : X.calm = true) (hj : X.N[j]? = some y) (hv : Vis X.env.scope y) (hd : (y == ("__debug__" : Str)) = false) (hcd : (y == ("__classdict__" : Str)) = false)
    (hg : PG X tg (gT X.K t)) (hb : PSs X body (tSs X.K Ph fr bi)) : PS X (.For tg (.Name y q) body [] pos) (tS X.K Ph fr (.tfk t j bi)) := by
  refine PS.mono (ps_lock (ps_for hp hc (pi_keysN (pe_var (pos := q) hj hv hd hcd)) hg hb (fun _ => rfl))) fun D σ H h => ?_
  obtain ⟨env, Hs, out, ok, ev, h⟩ := h
  rw [exS] at ev
  split at ev
  · rename_i kds e1
    obtain ⟨a, h1, o⟩ := ok.dt j kds e1
    obtain ⟨n, kvs, ea, tb⟩ := ownT_of hw o
    refine ⟨a, tabO X.prog X.w a kvs, ea, trivial, fun od => ?_⟩
    obtain ⟨no, ok1⟩ := unheld (u := .frz od (tabO X.prog X.w a kvs)) ok e1 h1
    exact ⟨.ref a, h1, a, od, kvs, rfl, upd_same, tfor_run (WkT.keys tb) upd_same no ok1 ev (relock ok e1 h1 h)⟩
  · cases ev
/-! ### the keys sorted -/
theorem col_tab {pins : List (Addr × Obj)} {σ : L2.St} {H Hs : Hp} {s : Shared} {a : Addr} {kvs : List (PyData × Addr × V)} {kds : List (PyData × PyData)} (hc : X.calm = true) (I : Inv X pins σ H s) (w : View Hs H) (e : Rd H a (tabO X.prog X.w a kvs)) (t : TabIs X.K Hs kvs kds) : ColD X pins σ H Hs s (.ref a) (kds.map (·.1)) := by
  intro E Q q
  obtain ⟨z, hs, xs, pr, o, es, ep, ho, hx, hdt, he, hn⟩ := tab_rd I e
  have l1 : es.size = xs.length := size_of_entries he
  have l2 : kvs.length = xs.length := Paired.length pr
  have l3 : kvs.length = kds.length := Paired.length t
  refine PySem.W.kdu_collect (A := X.A.in1) (kdl_raw hs hx hdt) (I.ok.hd hc) ho (by omega) fun h' tk acc hk hacc => ?_
  have hrp : ∀ {kvs : List (PyData × Addr × V)} {kds : List (PyData × PyData)}, TabIs X.K Hs kvs kds → RpAll X.K Hs (kvs.map fun p => V.ref p.2.1) (kds.map (·.1)) := by
    intro kvs kds t
    induction t with
    | nil => exact .nil
    | cons h t ih => exact .cons h.2.2.1 ih
  refine q _ H Hs (kvs.map fun p => V.ref p.2.1) _ (I.kept (t' := tk) hk) (FrE.refl w) ?_ (hrp t) (by rw [List.length_map]; exact z)
  have el : acc.toList.length = acc.size := by simp
  refine vals_of_at (by rw [List.length_map, el, hacc.1]; omega) fun j x u h1 h2 => ?_
  obtain ⟨en, hen, rfl⟩ := hacc.2 j u (by rw [← Array.getElem?_toList]; exact h2)
  rw [List.getElem?_map] at h1
  cases hp : kvs[j]? with
  | none => rw [hp] at h1; cases h1
  | some p =>
    rw [hp] at h1
    cases h1
    obtain ⟨b, hb, _, e2, _⟩ := paired_get pr hp
    have qe := entry_at he j
    rw [hen, hb] at qe
    cases qe
    show Value.ref b.2.1 = Value.ref p.2.1
    rw [e2]
theorem cr_sortT (hun : X.A.units + 66 < cLine) (hc : X.calm = true) : CallR X (.builtin "sorted") (fun xs H Q => ∃ (a : Addr) (Hs : Hp) (kvs : List (PyData × Addr × V)) (kds : List (PyData × PyData)) (d : PyData), xs = [V.ref a] ∧ H a = some (tabO X.prog X.w a kvs) ∧ View Hs H ∧ TabIs X.K Hs kvs kds ∧ sortedD (kds.map (·.1)) = some d ∧
    ∀ p ys H1 Hs1, FrE H Hs H1 Hs1 → H1 p = none → d = .list (sortD (kds.map (·.1))) → RpAll X.K Hs1 ys (sortD (kds.map (·.1))) → Q (.ref p) (upd H1 p (.lst ys))) := by
  intro pins s σ H xs us Q I r h
  obtain ⟨a, Hs, kvs, kds, d, rfl, e, w, t, hd, q⟩ := h
  obtain ⟨u, rfl, ru⟩ := vals1 r
  obtain rfl : u = Value.ref a := ru
  exact sorted_of_col hun (col_tab hc I w (.inl e) t) hd q
theorem pe_tsr {i : Nat} {x : Str} {p p2 pos : Pos} (hw : HasW X) (hun : X.A.units + 66 < cLine) (hc : X.calm = true) (hg : Gl X "sorted") (hm : X.mg "sorted" = none) (hi : X.N[i]? = some x) (hv : Vis X.env.scope x) (hd : (x == ("__debug__" : Str)) = false) (hcd : (x == ("__classdict__" : Str)) = false) :
    PE X (.Call (.Name "sorted" p) [.Name x p2] [] pos) (tE X.K Ph false (.tsr i)) := by
  refine PE.mono (pe_callB (cr_sortT hun hc) hg hm (by decide +kernel) (pa_cons (pe_var hi hv hd hcd) pa_nil)) fun σ H Q h => ?_
  obtain ⟨env, Hs, d, ok, ev, q⟩ := h
  rw [evE] at ev
  split at ev
  · rename_i kds e1
    obtain ⟨a, h1, o⟩ := ok.dt i kds e1
    obtain ⟨n, kvs, ea, t⟩ := ownT_of hw o
    refine ⟨.ref a, h1, a, Hs, kvs, kds, d, rfl, ea, ok.view, t, ev, fun b ys H1 Hs1 f1 hb ed ry => ?_⟩
    subst ed
    exact q _ _ _ (f1.trans (FrE.put f1.view hb)) (rp_lst (f1.view.none hb) ry)
  · cases ev
/-! ### t.count(x) -/
theorem countP_ints (i : Int) : ∀ is : List Int, ((is.map PyData.int).countP fun y => PyData.eqv y (.int i)) = is.count i
  | [] => rfl
  | j :: is => by
    rw [List.map_cons, List.countP_cons, countP_ints i is, List.count_cons]
    simp [PyData.eqv]
def tCnt (K : PySem.W.Frag) (to te : TE) : TE := fun σ H Q => to σ H fun x H1 => ∃ (a : Addr) (is : List Int), x = .ref a ∧ Pln H1 a ∧ te σ H1 fun y H2 => ∃ i : Int, y = .int i ∧ SqT K H2 a (is.map V.int) ∧ Q (.int (is.count i : Nat)) H2
theorem intsRp {K : PySem.W.Frag} {H : Hp} : ∀ is : List Int, DpAll K H (is.map V.int) (is.map PyData.int) ∧ PyData.plainAll (is.map PyData.int) = true ∧ PyData.depthAll (is.map PyData.int) = 0
  | [] => ⟨.nil, rfl, rfl⟩
  | i :: is => by
    obtain ⟨h1, h2, h3⟩ := intsRp (K := K) (H := H) is
    refine ⟨.cons (.int i) h1, ?_, ?_⟩
    · rw [List.map_cons, PyData.plainAll, h2]; rfl
    · rw [List.map_cons, PyData.depthAll, h3]; rfl
theorem pe_tcnt {o e : Expr} {to te : TE} {apos cpos : Pos} (hu : X.A.units + 66 < cLine) (ho : PE X o to) (he : PE X e te) (m : M1 X o "count" apos e cpos) : PE X (.Call (.Attribute o "count" apos) [e] [] cpos) (tCnt X.K to te) := by
  refine ⟨fun pins s σ H Q I h => ?_⟩
  refine wpAny_Call_method m.base m.few m.line PySem.F.plainAttrs_tuple PySem.F.slot_tuple_count PySem.F.type_tuple_count (thn (ho.run pins s σ H _ I h) fun u s1 ⟨x, H1, I1, rx, a, is, ex, pl, q1⟩ => ?_)
  subst ex
  obtain rfl : u = Value.ref a := rx
  obtain ⟨ob, xs, ea, nd⟩ := pl
  obtain ⟨hob, z, its, rv, ob', hob', hc', n', hd'⟩ := I1.hok a _ ea
  rw [hob] at hob'
  cases hob'
  refine ⟨⟨ob, hob, hc'⟩, fun b q => ?_, ?_⟩
  · cases q
    exact ⟨ob, hob, nd⟩
  · rw [m.trees]
    refine Calls.callWith_builtin rfl (Calls.evalArgs_plain (Calls.spliced_cons (thn (he.run pins s1 σ H1 _ I1 q1) fun iv s2 ⟨y, H2, I2, ry, i, ey, sq, q2⟩ => Calls.spliced_nil ?_)))
    subst ey
    obtain ⟨its2, rv2, tp, _⟩ := I2.tuple sq
    obtain ⟨d1, d2, d3⟩ := intsRp (K := X.K) (H := H2) is
    obtain ⟨as, rs⟩ := Dp.readsAll I2 _ _ _ d1 rv2
    obtain ⟨bs, rb⟩ := Dp.reads I2 (.int i) _ _ (.int i) ry
    refine SeqAt.count_tuple_data (vs := its2.toArray) tp (by simpa using rs) rb d2 rfl (by rw [d3]; omega) ?_
    rw [countP_ints]
    exact ⟨.int (is.count i : Nat), H2, I2.tok _, ⟨_, rfl⟩, q2⟩
theorem pe_cnt {o e : Expr} {x : O} {y : E} {apos cpos : Pos} (hu : X.A.units + 66 < cLine) (ho : PE X o (tO X.K Ph x)) (he : PE X e (tE X.K Ph false y)) (m : M1 X o "count" apos e cpos) : PE X (.Call (.Attribute o "count" apos) [e] [] cpos) (tE X.K Ph false (.cnt x y)) := by
  refine PE.mono (pe_tcnt hu ho he m) fun σ H Q h => ?_
  obtain ⟨env, Hs, d, ok, ev, q⟩ := h
  rw [evE] at ev
  split at ev
  · rename_i ds e1
    split at ev
    · rename_i i e2
      split at ev
      · rename_i hp
        obtain ⟨is, hi, rfl⟩ := Option.map_eq_some_iff.mp ev
        refine ⟨env, Hs, _, ok, e1, fun v H1 Hs1 f1 r1 => ?_⟩
        obtain ⟨a, xs, rfl, s1, ra, s2, pl⟩ := Rq.tuple r1 f1.view
        obtain ⟨rfl, rfl⟩ := ra.ints hi
        refine ⟨a, is, rfl, (pl hp).view f1.view, env, Hs1, _, ok.fr f1, e2, fun v2 H2 Hs2 f2 r2 => ?_⟩
        cases r2
        exact ⟨i, rfl, f2.view.seqT ((View.of_same f2.shar).seqT s2), q _ _ _ (f1.trans f2) (.int _)⟩
      · cases ev
    · cases ev
  · cases ev
end
end Wr
end

section
set_option Elab.async false
set_option linter.all false
set_option maxRecDepth 100000
set_option maxHeartbeats 4000000
/-! WrPf: dicts with tuples as keys: in, get, != {}, items walked, the least and the greatest value. -/
namespace Wr
open PySem PySem.Spec PyProof.Rows L2
variable [Wld]
section
variable {X : Cx} {Ph : Nat → List PyData → Option PyData} {fr : Nat → Bool}
/-! ### k in d -/
def inOp (neg : Bool) : CmpOp := if neg = true then .NotIn else .In
def rTIn (X : Cx) (neg : Bool) : R2 := fun x y H Q => ∃ a b Hs kvs kds k, x = .ref b ∧ y = .ref a ∧ H a = some (tabO X.prog X.w a kvs) ∧ View Hs H ∧ TabIs X.K Hs kvs kds ∧ ktD k = true ∧ Rp X.K Hs x k ∧ Q (.bl (if neg = true then !(lookD kds k).isSome else (lookD kds k).isSome)) H
theorem op_tin (hu : X.A.units + 66 < cLine) (neg : Bool) : OpR X (compareOp (inOp neg)) (rTIn X neg) := by
  intro pins s σ H x y v u Q I rx ry h
  obtain ⟨a, b, Hs, kvs, kds, k, rfl, rfl, e, w, t, hk, rk, q⟩ := h
  obtain rfl : v = Value.ref b := rx
  obtain rfl : u = Value.ref a := ry
  obtain ⟨z, hsm, xs, tx, dd⟩ := tab_at I w (.inl e) t
  have hl : (valueAt (pairsH xs) (kOf k)).isSome = (lookD kds k).isSome := by
    rw [valueAt_pairsH]
    rcases tx.look hk with ⟨h1, h2⟩ | ⟨d, p, v, h1, h2, _⟩
    · rw [h1, h2]; rfl
    · rw [h1, h2]; rfl
  cases neg with
  | false =>
    refine in_keyed (room_in1 hu) (kt_is I (rk.view w) hk) hsm ⟨xs, dd, rfl⟩ ?_
    rw [hl]
    exact ⟨.bl _, H, I.tok _, rfl, q⟩
  | true =>
    refine notIn_keyed (room_in1 hu) (kt_is I (rk.view w) hk) hsm ⟨xs, dd, rfl⟩ ?_
    rw [hl]
    exact ⟨.bl _, H, I.tok _, rfl, q⟩
theorem ref_of_kt {K : PySem.W.Frag} {Hs : Hp} {v : V} {k : PyData} (r : Rp K Hs v k) (h : ktD k = true) : ∃ b, v = .ref b := by
  cases k <;> simp only [ktD, Bool.false_eq_true] at h
  cases r
  exact ⟨_, rfl⟩
theorem pe_tin {neg : Bool} {i : Nat} {x : Str} {e : Expr} {ki : E} {p pos : Pos} (hw : HasW X) (hu : X.A.units + 66 < cLine) (he : PE X e (tE X.K Ph false ki)) (hi : X.N[i]? = some x) (hv : Vis X.env.scope x) (hd : (x == ("__debug__" : Str)) = false) (hcd : (x == ("__classdict__" : Str)) = false) :
    PE X (.Compare e [inOp neg] [.Name x p] pos) (tE X.K Ph false (.tin neg i ki)) ∧ PT X (.Compare e [inOp neg] [.Name x p] pos) (tT X.K Ph (.tin neg i ki)) := by
  have key : ∀ {env : Ev} {Hs : Hp} {d : PyData} {σ : L2.St} {H : Hp}, EnvOk X.K env σ H Hs → evE Ph env (.tin neg i ki) = some d → ∃ k kds a, evE Ph env ki = some k ∧ ktD k = true ∧ env[i]? = some (.dt kds) ∧ σ[i]? = some (some (.ref a)) ∧ OwnT X.K Hs H a kds ∧ d = .bool (if neg = true then !(lookD kds k).isSome else (lookD kds k).isSome) := by
    intro env Hs d σ H ok ev
    rw [evE] at ev
    split at ev
    · rename_i k e1
      split at ev
      · rename_i kds e2
        split at ev
        · rename_i hk
          cases ev
          obtain ⟨a, h1, o⟩ := ok.dt i kds e2
          exact ⟨k, kds, a, e1, hk, e2, h1, o, rfl⟩
        · cases ev
      · cases ev
    · cases ev
  constructor
  · refine PE.mono (pe_cmpR (op_tin hu neg) he (pe_var hi hv hd hcd) (by cases neg <;> rfl)) fun σ H Q h => ?_
    obtain ⟨env, Hs, d, ok, ev, q⟩ := h
    obtain ⟨k, kds, a, e1, hk, e2, h1, o, rfl⟩ := key ok ev
    refine ⟨env, Hs, k, ok, e1, fun v H1 Hs1 f1 r1 => ⟨.ref a, h1, ?_⟩⟩
    obtain ⟨n, kvs, ea, t⟩ := ownT_of hw (f1.ownT o)
    obtain ⟨b, rfl⟩ := ref_of_kt r1 hk
    exact ⟨a, b, Hs1, kvs, kds, k, rfl, rfl, ea, f1.view, t, hk, r1, q _ _ _ f1 (.bl _)⟩
  · refine PT.mono (pt_cmpR (op_tin hu neg) he (pe_var hi hv hd hcd) (by cases neg <;> rfl)) fun σ H Q h => ?_
    obtain ⟨env, Hs, d, ok, ev, q⟩ := h
    obtain ⟨k, kds, a, e1, hk, e2, h1, o, ed⟩ := key ok ev
    cases ed
    refine ⟨env, Hs, k, ok, e1, fun v H1 Hs1 f1 r1 => ⟨.ref a, h1, ?_⟩⟩
    obtain ⟨n, kvs, ea, t⟩ := ownT_of hw (f1.ownT o)
    obtain ⟨b, rfl⟩ := ref_of_kt r1 hk
    exact ⟨a, b, Hs1, kvs, kds, k, rfl, rfl, ea, f1.view, t, hk, r1, _, rfl, q _ _ f1⟩
/-! ### d != {} -/
theorem same_raw {A : Around} {E : Value → Shared → Prop} {s : Shared} {nm : String} {a b : Addr} {oa ob : Obj} {es : Array DictEntry} {ep ep' : Nat} {Q : Bool → Shared → Prop} (ha : (a == sysModules) = false) (hb : (b == sysModules) = false)
    (hoa : s.heap.get? a = some oa) (hda : oa.data = .dict es ep) (hob : s.heap.get? b = some ob) (hdb : ob.data = .dict #[] ep') (h : Q es.isEmpty s) : wpAny (model X.prog X.w) A (Builtin.Dict.samePairs nm a b) Q E s := by
  unfold Builtin.Dict.samePairs Builtin.Dict.showsAll
  rw [if_neg (by rw [ha]; exact Bool.false_ne_true), if_neg (by rw [hb]; exact Bool.false_ne_true)]
  refine wpAny_bind (wpAny_pure (wpAny_bind (wpAny_pure ?_)))
  refine wpAny_bind (wpAny_dictEntries hoa hda ?_)
  dsimp only
  refine wpAny_bind (wpAny_dictEntries hob hdb ?_)
  by_cases hsz : es.size = 0
  · have he : es = #[] := Array.eq_empty_of_size_eq_zero hsz
    subst he
    rw [if_neg (by simp)]
    refine wpAny_bind (wpAny_dictEpoch hoa hda ?_)
    refine wpAny_bind ?_
    rw [Std.Legacy.Range.forIn_eq_forIn_range']
    exact wpAny_pure (wpAny_pure h)
  · rw [if_pos (by simpa using hsz)]
    have hf : es.isEmpty = false := by
      cases q : es.isEmpty with
      | false => rfl
      | true => exact absurd (by simpa using q) hsz
    rw [hf] at h
    exact wpAny_bind (wpAny_rule (wpAny_pure h))
theorem ne_raw {A : Around} {E : Value → Shared → Prop} {s : Shared} {a b : Addr} {oa ob : Obj} {es : Array DictEntry} {ep ep' : Nat} {Q : Value → Shared → Prop} (ha : (a == sysModules) = false) (hb : (b == sysModules) = false)
    (hoa : s.heap.get? a = some oa) (hxa : oa.ExactDict) (hda : oa.data = .dict es ep) (hob : s.heap.get? b = some ob) (hxb : ob.ExactDict) (hdb : ob.data = .dict #[] ep') (hu : A.units < cLine) (h : Q (.bool (!es.isEmpty)) s) : wpAny (model X.prog X.w) A (compareOp .NotEq (.ref a) (.ref b)) Q E s := by
  have ta : s.TypeIs (.ref a) "dict" := ⟨oa, hoa, hxa.1⟩
  have tb : s.TypeIs (.ref b) "dict" := ⟨ob, hob, hxb.1⟩
  refine wpAny_richCompare_same_room (op := .NotEq) ta tb PySem.F.slot_dict_ne (wpAny_call_entry PySem.F.slot_dict_ne ta PySem.F.entry_dict_ne ?_ (PySem.F.args_dict_ne_2 _ _)) hu
  show wpAny _ _ (Builtin.Dict.dictSlotArgs "__ne__" ⟨[.ref a, .ref b], []⟩ >>= _) _ _ s
  refine wpAny_bind ?_
  unfold Builtin.Dict.dictSlotArgs
  refine wpAny_bind (wpAny_notOrdered_dict ta ?_)
  show wpAny _ _ (pure (Value.ref a, Value.ref b)) _ _ s
  refine wpAny_pure (wpAny_bind (wpAny_isInstance (T := "dict") tb PySem.F.sub_dict_dict ?_))
  simp only [Bool.not_true, Bool.false_eq_true, if_false]
  refine wpAny_bind (wpAny_pure (wpAny_bind (wpAny_pure (wpAny_bind (same_raw ha hb hoa hda hob hdb ?_)))))
  refine wpAny_pure ⟨_, rfl, ⟨fun x => (nomatch x), ?_⟩⟩
  have e : (es.isEmpty == false) = !es.isEmpty := by cases es.isEmpty <;> rfl
  rw [e]
  exact h
def rTNe (X : Cx) : R2 := fun x y H Q => ∃ a b Hs kvs kds, x = .ref a ∧ y = .ref b ∧ H a = some (tabO X.prog X.w a kvs) ∧ H b = some (.dK []) ∧ View Hs H ∧ TabIs X.K Hs kvs kds ∧ Q (.bl (!kds.isEmpty)) H
theorem op_tne (hu : X.A.units + 66 < cLine) : OpR X (compareOp .NotEq) (rTNe X) := by
  intro pins s σ H x y v u Q I rx ry h
  obtain ⟨a, b, Hs, kvs, kds, rfl, rfl, ea, eb, w, t, q⟩ := h
  obtain rfl : v = Value.ref a := rx
  obtain rfl : u = Value.ref b := ry
  obtain ⟨z, hsm, xs, tx, o, es, ep, ho, hx, hdt, he, _⟩ := tab_at I w (.inl ea) t
  obtain ⟨z2, hsm2, vs, kv, ob, es2, ep2, ho2, hx2, hdt2, r2⟩ := dk_of I.hok eb
  have h2 : es2 = #[] := by
    have l1 := r2.2.1.length
    have l2 : ([] : List (Key × V)).length = vs.length := Paired.length kv
    rw [Array.length_toList] at l1
    exact Array.eq_empty_of_size_eq_zero (by rw [l1, ← l2]; rfl)
  subst h2
  have h3 : es.isEmpty = kds.isEmpty := by
    have l1 : es.size = xs.length := size_of_entries he
    have l2 := tx.length
    cases kds with
    | nil =>
      have : es = #[] := Array.eq_empty_of_size_eq_zero (by rw [l1, ← l2]; rfl)
      rw [this]; rfl
    | cons k kds =>
      cases q : es.isEmpty with
      | false => rfl
      | true =>
        have : es.size = 0 := by simpa using q
        rw [l1, ← l2] at this
        cases this
  refine ne_raw hsm hsm2 ho hx hdt ho2 hx2 hdt2 (by omega) ?_
  rw [h3]
  exact ⟨.bl _, H, I, rfl, q⟩
theorem pe_tne {i : Nat} {x : Str} {p p2 pos : Pos} (hw : HasW X) (hu : X.A.units + 66 < cLine) (hi : X.N[i]? = some x) (hv : Vis X.env.scope x) (hd : (x == ("__debug__" : Str)) = false) (hcd : (x == ("__classdict__" : Str)) = false) :
    PE X (.Compare (.Name x p) [.NotEq] [.Dict [] [] p2] pos) (tE X.K Ph false (.tne i)) ∧ PT X (.Compare (.Name x p) [.NotEq] [.Dict [] [] p2] pos) (tT X.K Ph (.tne i)) := by
  have key : ∀ {env : Ev} {Hs : Hp} {d : PyData} {σ : L2.St} {H : Hp}, EnvOk X.K env σ H Hs → evE Ph env (.tne i) = some d → ∃ kds a, σ[i]? = some (some (.ref a)) ∧ OwnT X.K Hs H a kds ∧ d = .bool (!kds.isEmpty) := by
    intro env Hs d σ H ok ev
    rw [evE] at ev
    split at ev
    · rename_i kds e2
      cases ev
      obtain ⟨a, h1, o⟩ := ok.dt i kds e2
      exact ⟨kds, a, h1, o, rfl⟩
    · cases ev
  constructor
  · refine PE.mono (pe_cmpR (op_tne hu) (pe_var hi hv hd hcd) pe_dnewK rfl) fun σ H Q h => ?_
    obtain ⟨env, Hs, d, ok, ev, q⟩ := h
    obtain ⟨kds, a, h1, o, rfl⟩ := key ok ev
    refine ⟨.ref a, h1, fun b hb => ?_⟩
    have f1 := FrE.alloc (o := .dK []) ok.view hb
    obtain ⟨n, kvs, ea, t⟩ := ownT_of hw (f1.ownT o)
    exact ⟨a, b, Hs, kvs, kds, rfl, rfl, ea, upd_same, f1.view, t, q _ _ _ f1 (.bl _)⟩
  · refine PT.mono (pt_cmpR (op_tne hu) (pe_var hi hv hd hcd) pe_dnewK rfl) fun σ H Q h => ?_
    obtain ⟨env, Hs, d, ok, ev, q⟩ := h
    obtain ⟨kds, a, h1, o, ed⟩ := key ok ev
    cases ed
    refine ⟨.ref a, h1, fun b hb => ?_⟩
    have f1 := FrE.alloc (o := .dK []) ok.view hb
    obtain ⟨n, kvs, ea, t⟩ := ownT_of hw (f1.ownT o)
    exact ⟨a, b, Hs, kvs, kds, rfl, rfl, ea, upd_same, f1.view, t, _, rfl, q _ _ f1⟩
/-! ### d.get(k, x) -/
def tTGet (X : Cx) (td ty tx : TE) : TE := fun σ H Q => td σ H fun x H1 => ∃ a kvs1, x = .ref a ∧ H1 a = some (tabO X.prog X.w a kvs1) ∧ ty σ H1 fun y H2 => tx σ H2 fun z H3 => ∃ b Hs kvs kds k d, y = .ref b ∧ H3 a = some (tabO X.prog X.w a kvs) ∧ View Hs H3 ∧ TabIs X.K Hs kvs kds ∧ ktD k = true ∧ Rp X.K Hs y k ∧ Rp X.K Hs z d ∧
  ∀ v, Rp X.K Hs v ((lookD kds k).getD d) → Q v H3
theorem pe_tget {o e f : Expr} {td ty tx : TE} {apos cpos : Pos} (hu : X.A.units + 66 < cLine) (ho : PE X o td) (he : PE X e ty) (hf : PE X f tx) (m : M2 X o "get" apos e f cpos) : PE X (.Call (.Attribute o "get" apos) [e, f] [] cpos) (tTGet X td ty tx) := by
  refine ⟨fun pins s σ H Q I h => ?_⟩
  refine wpAny_Call_method m.base m.few m.line PySem.F.plainAttrs_dict PySem.F.slot_dict_get PySem.F.type_dict_get (thn (ho.run pins s σ H _ I h) fun u s1 ⟨x, H1, I1, rx, a, kvs1, ex, e1, q1⟩ => ?_)
  subst ex
  obtain rfl : u = Value.ref a := rx
  obtain ⟨_, _, _, _, ob, es, ep, ho1, hx1, _⟩ := tab_rd I1 (.inl e1)
  refine ⟨⟨ob, ho1, hx1.1⟩, fun c q => ?_, ?_⟩
  · cases q
    exact ⟨ob, ho1, hx1.2.1⟩
  · rw [m.trees]
    refine Calls.callWith_builtin rfl (Calls.evalArgs_plain (Calls.spliced_cons (thn (he.run pins s1 σ H1 _ I1 q1) fun iv s2 ⟨y, H2, I2, ry, q2⟩ =>
      Calls.spliced_cons (thn (hf.run pins s2 σ H2 _ I2 q2) fun fv s3 ⟨z, H3, I3, rz, b, Hs, kvs, kds, k, d, ey, e3, w, t, hk, rk, rd, q3⟩ => Calls.spliced_nil ?_))))
    subst ey
    obtain rfl : iv = Value.ref b := ry
    obtain ⟨_, hsm, xs, tx, dd⟩ := tab_at I3 w (.inl e3) t
    refine getOr_keyed (room_in1 hu) (kt_is I3 (rk.view w) hk) hsm ⟨xs, dd, rfl⟩ ?_
    rw [valueAt_pairsH]
    rcases tx.look hk with ⟨h1, h2⟩ | ⟨d', p, v, h1, h2, h3, h4⟩
    · rw [h2]
      rw [h1] at q3
      exact ⟨z, H3, I3.tok _, rz, q3 z rd⟩
    · rw [h2]
      rw [h1] at q3
      exact ⟨v, H3, I3.tok _, h3, q3 v h4⟩
theorem pe_tgt {i : Nat} {x : Str} {e f : Expr} {ki di : E} {p apos cpos : Pos} (hw : HasW X) (hu : X.A.units + 66 < cLine) (he : PE X e (tE X.K Ph false ki)) (hf : PE X f (tE X.K Ph false di)) (hi : X.N[i]? = some x) (hv : Vis X.env.scope x) (hd : (x == ("__debug__" : Str)) = false) (hcd : (x == ("__classdict__" : Str)) = false)
    (m : M2 X (.Name x p) "get" apos e f cpos) : PE X (.Call (.Attribute (.Name x p) "get" apos) [e, f] [] cpos) (tE X.K Ph false (.tgt i ki di)) := by
  refine PE.mono (pe_tget hu (pe_var hi hv hd hcd) he hf m) fun σ H Q h => ?_
  obtain ⟨env, Hs, d, ok, ev, q⟩ := h
  rw [evE] at ev
  split at ev
  · rename_i kds e0
    split at ev
    · rename_i k e1
      split at ev
      · rename_i z e2
        split at ev
        · rename_i hk
          cases ev
          obtain ⟨a, h1, o⟩ := ok.dt i kds e0
          obtain ⟨_, kvs1, ea1, _⟩ := ownT_of hw o
          refine ⟨.ref a, h1, a, kvs1, rfl, ea1, env, Hs, k, ok, e1, fun y H1 Hs1 f1 r1 => ⟨env, Hs1, z, ok.fr f1, e2, fun v H2 Hs2 f2 r2 => ?_⟩⟩
          obtain ⟨n, kvs, ea, t⟩ := ownT_of hw ((f1.trans f2).ownT o)
          obtain ⟨b, rfl⟩ := ref_of_kt r1 hk
          exact ⟨b, Hs2, kvs, kds, k, z, rfl, ea, f2.view, t, hk, f2.rp r1, r2, fun v' r' => q _ _ _ (f1.trans f2) r'⟩
        · cases ev
      · cases ev
    · cases ev
  · cases ev
/-! ### d.items() walked -/
def Itin (P : Program) (w : World) (d : Addr) (o : Obj) (kvs : List (PyData × Addr × V)) : It :=
  ⟨fun i H => H d = some (.frz o (tabO P w d kvs)) ∧ i < kvs.length, fun i H x H' => ∃ T p, kvs[i]? = some p ∧ x = .ref T ∧ H T = none ∧ H' = upd H T (.tup [.ref p.2.1, p.2.2]), fun i H => H d = some (.frz o (tabO P w d kvs)) ∧ kvs.length ≤ i⟩
theorem turn_itemsN {P : Program} {w : World} {K : PySem.W.Frag} {elts : List Expr} {kk : Nat} {tpos : Pos} {d : Addr} {o : Obj} {es : Array DictEntry} {ep : Nat} {kvs : List (PyData × Addr × V)} (it : Addr) (hod : o.data = .dict es ep) :
    Turn P w K (.Tuple elts kk tpos) (Itin P w d o kvs) [it] it (fun i h => ∃ ok ov, IsItemIter h it d i kvs.length ep ok ov) where
  mem := by simp
  obj := fun i h st b hb => by
    obtain rfl : b = it := by simpa using hb
    obtain ⟨ok, ov, e⟩ := st
    exact ⟨_, e, fun v z => nomatch z⟩
  keep := fun i h h' st k => let ⟨ok, ov, e⟩ := st; ⟨ok, ov, k it (by simp) _ e⟩
  item := by
    intro X hP hw hK hc i pins s σ H E I hf st hg
    subst hP hw hK
    obtain ⟨hd, hi⟩ := hg
    obtain ⟨hs, hgd, hx, _, es', ep', hdt, hsz, ent⟩ := frzN I hd
    obtain ⟨rfl, rfl⟩ := dict_ep hod hdt
    have hkv : kvs[i]? = some kvs[i] := List.getElem?_eq_getElem hi
    obtain ⟨en, hen, hkey, hval⟩ := ent i _ hkv
    obtain ⟨ok, ov, he⟩ := st
    rw [← hsz] at he
    have hlt : it < s.heap.objs.size := Heap.lt_size he
    have hi2 : i < es'.size := by rw [hsz]; exact hi
    have hen2 : es'[i] = en := by rw [Array.getElem?_eq_getElem hi2] at hen; exact Option.some.inj hen
    refine wpAny_pyNext_items_item_raw he ⟨o, hgd, hx, hdt⟩ hi2 fun h' ho hT hz hk => ?_
    refine ⟨_, rfl, wpAny_letOwnedTupleGo_items (s := { s with heap := h' }) ho fun h'' he' sb => ?_⟩
    rw [hen2] at hT
    have hT2 : h''.get? s.heap.objs.size = some { cls := .type "tuple", data := .seq #[en.key, en.val] } := (sb.2 _ (Nat.ne_of_gt hlt)).trans hT
    have new : ObjOk X.prog X.w (upd H s.heap.objs.size (.tup [.ref kvs[i].2.1, kvs[i].2.2])) h'' s.heap.objs.size (.tup [.ref kvs[i].2.1, kvs[i].2.2]) :=
      ⟨by show 2 ≤ sizeLine; decide, [en.key, en.val], .cons hkey (.cons hval .nil), ⟨_, hT2, rfl, _, rfl⟩⟩
    have I1 : Inv X pins σ (upd H s.heap.objs.size (.tup [.ref kvs[i].2.1, kvs[i].2.2])) { s with heap := h'' } :=
      I.turnedNew (t' := s.toks) (ch := [it]) (fun b ob hb e => (sb.2 b (by simpa using hb)).trans (hk b ob (by simpa using hb) e)) hf (Nat.le_refl _) new
    refine ⟨.ref s.heap.objs.size, _, I1, rfl, ⟨_, kvs[i], hkv, rfl, I.hok.fresh (Nat.le_refl _), rfl⟩, ⟨es'[i].key, es'[i].val, ?_⟩, fun b hb => ?_⟩
    · rw [← hsz]; exact he'
    · obtain rfl : b = it := by simpa using hb
      rw [upd_ne (Nat.ne_of_lt hlt)]
      exact (hf b (by simp)).1
  done := by
    intro X hP hw hK hc i pins s σ H E I hf st hg
    subst hP hw hK
    obtain ⟨hd, hi⟩ := hg
    obtain ⟨f0, f1, f2, f3, f4, f5⟩ := hf it (by simp)
    obtain ⟨hs, hgd, hx, _, es', ep', hdt, hsz, ent⟩ := frzN I hd
    obtain ⟨rfl, rfl⟩ := dict_ep hod hdt
    obtain ⟨ok, ov, he⟩ := st
    rw [← hsz] at he
    refine wpAny_pyNext_items_end_raw (I.ok.hd hc) he ⟨o, hgd, hx, hdt⟩ (by rw [hsz]; exact hi) fun h' eb => ⟨rfl, ?_⟩
    exact I.turned (t' := s.toks) (fun b ob hb e => eb b ob hb e) f0 f1 f3 f4 f5
  self := fun A i s Q E st h => let ⟨_, _, e⟩ := st; PySem.W.kcp_self e h
def iItemsN (X : Cx) (td : TE) : TI := fun σ H R => td σ H fun x H1 => ∃ d o kvs, x = .ref d ∧ H1 d = some (.frz o (tabO X.prog X.w d kvs)) ∧ R (Itin X.prog X.w d o kvs) H1
theorem pi_itemsN {e : Expr} {td : TE} {elts : List Expr} {kk : Nat} {tpos apos cpos : Pos} (he : PE X e td) (hbase : attributeBase e "items" X.env (eval e X.env) = eval e X.env) (hline : (apos.endLine == cpos.line) = true) :
    PI X (.Tuple elts kk tpos) (.Call (.Attribute e "items" apos) [] [] cpos) (iItemsN X td) := by
  refine ⟨fun pins s σ H R I h => ?_⟩
  refine wpAny_Call_method (T := "dict") (id := "dict.items") hbase rfl hline F.plainAttrs_dict F.slot_dict_items F.type_dict_items (thn (he.run pins s σ H _ I h) fun u s1 ⟨x, H1, I1, rx, d, o, kvs, ex, hd, q⟩ => ?_)
  subst ex
  obtain rfl : u = Value.ref d := rx
  obtain ⟨hs, hgd, hx, _, es, ep, hdt, hsz, ent⟩ := frzN I1 hd
  have raw : s1.heap.DictRaw d es ep := ⟨o, hgd, hx, hdt⟩
  refine ⟨raw.typeIs, fun c z => ?_, ?_⟩
  · cases z
    exact ⟨o, hgd, hx.2.1⟩
  have I2 : Inv X pins σ H1 { s1 with heap := s1.heap.push { cls := .type "dict_items", data := .fields #[.ref d] } } :=
    I1.kept (t' := s1.toks) fun b ob q => Heap.get?_push_of_some _ q
  have fin : wpAny (model X.prog X.w) X.A (pyIter (.ref s1.heap.objs.size)) (PIE X pins σ (.Tuple elts kk tpos) R) X.xe { s1 with heap := s1.heap.push { cls := .type "dict_items", data := .fields #[.ref d] } } := by
    refine wpAny_pyIter_items_raw (d := d) ⟨_, Heap.get?_push_size _ rfl, rfl, rfl⟩ (raw.at fun _ z => Heap.get?_push_of_some _ z) (pi_one (tk := s1.toks) I2 _ (turn_itemsN _ hdt) ⟨.none, .none, ?_⟩ q)
    rw [← hsz]
    exact Heap.get?_push_size _ rfl
  show wpAny _ _ (callWith cpos (.builtin "dict.items") [.ref d] [] []) _ X.xe s1
  exact method_meetsIn F.slot_dict_items F.entry_dict_items rfl (PySem.evalArgs_none ⟨rfl, raw.typeIs, F.args_dict_items_1 _, _, meets_dict_items_raw d hs, ⟨es, ep, raw⟩, fin⟩)
theorem WkT.items {K : PySem.W.Frag} {Hs : Hp} {P : Program} {w : World} {d : Addr} {o : Obj} {kvs : List (PyData × Addr × V)} {kds : List (PyData × PyData)} (t : TabIs K Hs kvs kds) (hpr : kds.all (fun p => !isPr p.1) = true) : WkT K (Itin P w d o kvs) (itemsD kds) Hs d (.frz o (tabO P w d kvs)) where
  go := fun H2 i e h => ⟨e, by unfold itemsD at h; rw [List.length_map, ← (Paired.length t : kvs.length = kds.length)] at h; exact h⟩
  yl := fun H2 Hs2 i d x H3 s1 w1 e hd hy => by
    obtain ⟨T, p, hp, rfl, hT, rfl⟩ := hy
    obtain ⟨q, hq, h1, h2, h3, h4⟩ := paired_get t hp
    unfold itemsD at hd
    rw [List.getElem?_map, hq] at hd
    cases hd
    have hm := List.all_eq_true.mp hpr q (List.mem_of_getElem? hq)
    refine ⟨_, FrE.put w1 hT, rp_tup (w1.none hT) (.cons (h3.view (View.of_same s1)) (.cons (h4.view (View.of_same s1)) .nil)) ?_⟩
    simp only [Bool.not_eq_true'] at hm
    obtain ⟨q1, q2⟩ := q
    show plD (q1 :: [q2]) = false
    cases q1 <;> simp only [ktD, Bool.false_eq_true] at h2
    exact hm
  st := fun H2 i e h => ⟨e, by unfold itemsD at h; rw [List.length_map, ← (Paired.length t : kvs.length = kds.length)] at h; exact h⟩
theorem ps_tfi {elts : List Expr} {kk : Nat} {tpos : Pos} {j : Nat} {y : Str} {body : List Stmt} {t : Tg} {bi : Ss} {q pos apos cpos : Pos} (hw : HasW X) (hp : PassesOwn (model X.prog X.w) X.A X.env X.xe) (hc : X.calm = true) (hj : X.N[j]? = some y) (hv : Vis X.env.scope y) (hd : (y == ("__debug__" : Str)) = false) (hcd : (y == ("__classdict__" : Str)) = false)
    (hbase : attributeBase (.Name y q) "items" X.env (eval (.Name y q) X.env) = eval (.Name y q) X.env) (hline : (apos.endLine == cpos.line) = true) (hg : PG X (.Tuple elts kk tpos) (gT X.K t)) (hb : PSs X body (tSs X.K Ph fr bi)) : PS X (.For (.Tuple elts kk tpos) (.Call (.Attribute (.Name y q) "items" apos) [] [] cpos) body [] pos) (tS X.K Ph fr (.tfi t j bi)) := by
  refine PS.mono (ps_lock (ps_for hp hc (pi_itemsN (pe_var (pos := q) hj hv hd hcd) hbase hline) hg hb (fun _ => rfl))) fun D σ H h => ?_
  obtain ⟨env, Hs, out, ok, ev, h⟩ := h
  rw [exS] at ev
  split at ev
  · rename_i kds e1
    split at ev
    · rename_i hpr
      obtain ⟨a, h1, o⟩ := ok.dt j kds e1
      obtain ⟨n, kvs, ea, tb⟩ := ownT_of hw o
      refine ⟨a, tabO X.prog X.w a kvs, ea, trivial, fun od => ?_⟩
      obtain ⟨no, ok1⟩ := unheld (u := .frz od (tabO X.prog X.w a kvs)) ok e1 h1
      exact ⟨.ref a, h1, a, od, kvs, rfl, upd_same, tfor_run (WkT.items tb hpr) upd_same no ok1 ev (relock ok e1 h1 h)⟩
    · cases ev
  · cases ev
/-! ### min(d.values()) -/
def valO (a d : Addr) : HO := .ext fun h => h.IsValuesView a d
def tVals (X : Cx) (td : TE) : TE := fun σ H Q => td σ H fun x H1 => ∃ d kvs, x = .ref d ∧ H1 d = some (tabO X.prog X.w d kvs) ∧ ∀ p, H1 p = none → Q (.ref p) (upd H1 p (valO p d))
theorem pe_valsN {e : Expr} {td : TE} {apos cpos : Pos} (he : PE X e td) (hbase : attributeBase e "values" X.env (eval e X.env) = eval e X.env) (hline : (apos.endLine == cpos.line) = true) :
    PE X (.Call (.Attribute e "values" apos) [] [] cpos) (tVals X td) := by
  refine ⟨fun pins s σ H Q I h => ?_⟩
  refine wpAny_Call_method (T := "dict") (id := "dict.values") hbase rfl hline F.plainAttrs_dict F.slot_dict_values F.type_dict_values (thn (he.run pins s σ H _ I h) fun u s1 ⟨x, H1, I1, rx, d, kvs, ex, hd, q⟩ => ?_)
  subst ex
  obtain rfl : u = Value.ref d := rx
  obtain ⟨z, hs, xs, pr, o, es, ep, ho, hx, hdt, _⟩ := tab_rd I1 (.inl hd)
  have raw : s1.heap.DictRaw d es ep := ⟨o, ho, hx, hdt⟩
  refine ⟨raw.typeIs, fun c z => ?_, ?_⟩
  · cases z
    exact ⟨o, ho, hx.2.1⟩
  show wpAny _ _ (callWith cpos (.builtin "dict.values") [.ref d] [] []) _ X.xe s1
  refine method_meetsIn F.slot_dict_values F.entry_dict_values rfl (PySem.evalArgs_none ⟨rfl, raw.typeIs, F.args_dict_values_1 _, _, meets_dict_values_raw d hs, ⟨es, ep, raw⟩, ?_⟩)
  refine ⟨.ref s1.heap.objs.size, _, I1.laid (a := s1.heap.objs.size) (t' := s1.toks) (fun _ _ q => Heap.get?_push_of_some _ q) (Nat.le_refl _) ?_, rfl, q _ (I1.hok.fresh (Nat.le_refl _))⟩
  refine ⟨⟨_, Heap.get?_push_size _ rfl, rfl, rfl⟩, ⟨_, Heap.get?_push_size _ rfl⟩, fun h1 h2 p k => ?_⟩
  obtain ⟨o, ho, r⟩ := p
  exact ⟨o, k o ho, r⟩
theorem vals_reads {pins : List (Addr × Obj)} {σ : L2.St} {H Hs : Hp} {s : Shared} (I : Inv X pins σ H s) (w : View Hs H) : ∀ {kvs : List (PyData × Addr × V)} {kds : List (PyData × PyData)} {xs : List (NestedKey × Addr × Value)}, TabIs X.K Hs kvs kds →
    Paired (fun (p : PyData × Addr × V) (q : NestedKey × Addr × Value) => q.1 = kOf p.1 ∧ q.2.1 = p.2.1 ∧ RelV p.2.2 q.2.2) kvs xs → noDAll (kds.map (·.2)) = true → ∃ as, ReadsAll s.heap (xs.map (·.2.2)) (kds.map (·.2)) as
  | _, _, _, .nil, .nil, _ => ⟨_, .nil⟩
  | _, _, _, .cons h t, .cons g r, n => by
    rw [List.map_cons, noDAll, Bool.and_eq_true] at n
    obtain ⟨as, ih⟩ := vals_reads I w t r n.2
    obtain ⟨bs, rd⟩ := Inv.reads I (h.2.2.2.view w) n.1 g.2.2
    exact ⟨_, .cons rd ih⟩
theorem depthAll_le {ds : List PyData} {n : Nat} (h : ∀ d ∈ ds, d.depth ≤ n) : PyData.depthAll ds ≤ n := by
  induction ds with
  | nil => exact Nat.zero_le _
  | cons x xs ih => exact Nat.max_le.mpr ⟨h x List.mem_cons_self, ih fun d hd => h d (List.mem_cons_of_mem _ hd)⟩
theorem alikeAll_of {ds : List PyData} (h1 : allAlike ds = true) (h2 : sortableD ds = true) : PySem.W.AlikeAll ds := by
  refine ⟨allAlike_iff h1, fun x hx z => ?_⟩
  subst z
  unfold sortableD at h2
  rw [Bool.or_eq_true, List.all_eq_true, List.all_eq_true] at h2
  rcases h2 with h2 | h2
  · have := h2 _ hx; cases this
  · have := h2 _ hx; cases this
theorem cr_minV (hun : X.A.units + 66 < cLine) (hc : X.calm = true) : CallR X (.builtin "min") (fun xs H Q => ∃ (p d : Addr) (Hs : Hp) (kvs : List (PyData × Addr × V)) (kds : List (PyData × PyData)) (r : PyData), xs = [V.ref p] ∧ H p = some (valO p d) ∧ H d = some (tabO X.prog X.w d kvs) ∧ View Hs H ∧ TabIs X.K Hs kvs kds ∧ minT (kds.map (·.2)) = some r ∧ ∀ v, Rp X.K Hs v r → Q v H) := by
  intro pins s σ H xs us Q I rr h
  obtain ⟨p, d, Hs, kvs, kds, r, rfl, hp, hd, w, t, hm, q⟩ := h
  obtain ⟨u, rfl, ru⟩ := vals1 rr
  obtain rfl : u = Value.ref p := ru
  have vw : s.heap.IsValuesView p d := (I.hok p _ hp).1
  obtain ⟨z, hs, xs, pr, o, es, ep, ho, hx, hdt, he, hn⟩ := tab_rd I (.inl hd)
  have raw : s.heap.DictRaw d es ep := ⟨o, ho, hx, hdt⟩
  cases hk : kds.map (·.2) with
  | nil => rw [hk] at hm; cases hm
  | cons y ys =>
    rw [hk, minT] at hm
    split at hm
    case isFalse => cases hm
    rename_i hg
    cases hm
    simp only [Bool.and_eq_true] at hg
    obtain ⟨⟨⟨g1, g2⟩, g3⟩, g4⟩ := hg
    obtain ⟨as, ra⟩ := vals_reads I w t pr (by rw [hk]; exact g3)
    rw [hk] at ra
    have ev : (es.map (·.val)).toList = xs.map (·.2.2) := by
      rw [Array.toList_map, he, List.map_map]
      exact List.map_congr_left fun _ _ => rfl
    have hvs : ∀ {i : Nat} {v : Value}, (∃ hi : i < es.size, v = es[i].val) → (es.map (·.val))[i]? = some v := by
      intro i v ⟨hi, e⟩
      rw [Array.getElem?_map, Array.getElem?_eq_getElem hi, e]; rfl
    have l1 : es.size = xs.length := size_of_entries he
    have l2 : kvs.length = xs.length := Paired.length pr
    have l3 : kvs.length = kds.length := Paired.length t
    have l4 : kds.length = ys.length + 1 := by
      have := congrArg List.length hk
      rw [List.length_map] at this
      exact this
    have hdep : PyData.depthAll (y :: ys) ≤ 40 := depthAll_le fun d hd => of_decide_eq_true (List.all_eq_true.mp g4 d hd)
    have hcm := PySem.W.cmpIn_lt (prog := X.prog) (w := X.w) (A := X.A.in1) (s := s) (vs := es.map (·.val)) (by rw [ev]; exact ra) (alikeAll_of g1 g2) (by show X.A.units + 1 + _ < _; omega)
    refine call_min_walkH (wpAny_pyIter_values_raw vw raw ?_)
    refine ⟨s.heap.objs.size, _, _, _, _, _, _, s.heap, _, rfl, (Walks.rawValues (A := X.A.in1) (I.ok.hd hc) s.heap.objs.size d (Nat.ne_of_lt (Heap.lt_size ho)) es ep).toS, ⟨⟨_, Heap.get?_push_size _ rfl, rfl, rfl⟩, raw.push _⟩, fun b hb => ?_, by omega, fun b o e hb => ?_, fun b o e => Heap.get?_push_of_some _ e, fun i j vi vj s' Q' E' hk' hi hj hq => hcm i j vi vj s' Q' E' hk' (hvs hi) (hvs hj) hq, fun v s' hP m => ?_⟩
    · have := Heap.lt_size ho
      have e2 : (s.heap.push { cls := .type "dict_valueiterator", data := .fields #[.ref d, .int 0 0, .int es.size 0, .int ep 0] }).objs.size = s.heap.objs.size + 1 := size_push' ..
      show b < (s.heap.push _).objs.size
      rw [e2]
      rcases List.mem_cons.mp hb with rfl | hb
      · exact Nat.lt_succ_self _
      · rw [List.mem_singleton.mp hb]; exact Nat.lt_succ_of_lt this
    · rw [List.mem_singleton.mp hb] at e
      exact absurd (Heap.lt_size e) (Nat.lt_irrefl _)
    · obtain ⟨h', tk, rfl, hk'⟩ := PySem.W.moved_old rfl rfl m
      have e1 : es.size - 1 = ys.length := by omega
      have e2 := (PySem.W.argBest_fold PySem.W.dataLt PyData.none y ys ys.length (Nat.le_refl _)).2
      rw [e1] at hP
      obtain ⟨hi, hv⟩ := hP
      have hx := entry_at he (argBest (fun i j => PySem.W.dataLt ((y :: ys).getD i .none) ((y :: ys).getD j .none)) ys.length)
      rw [Array.getElem?_eq_getElem hi] at hx
      cases hkv : kvs[argBest (fun i j => PySem.W.dataLt ((y :: ys).getD i .none) ((y :: ys).getD j .none)) ys.length]? with
      | none => rw [List.getElem?_eq_none_iff] at hkv; omega
      | some kv =>
        obtain ⟨b, hb, _, _, rv⟩ := paired_get pr hkv
        obtain ⟨c, hc2, _, _, _, rc⟩ := paired_get t hkv
        rw [hb] at hx
        have hx2 := Option.some.inj hx
        have : v = b.2.2 := by rw [hv, hx2]; rfl
        subst this
        have e3 : (y :: ys).getD (argBest (fun i j => PySem.W.dataLt ((y :: ys).getD i .none) ((y :: ys).getD j .none)) ys.length) .none = c.2 := by
          rw [← hk, List.getD_eq_getElem?_getD, List.getElem?_map, hk, hc2]; rfl
        rw [List.take_length, e3] at e2
        rw [e2] at rc
        exact ⟨kv.2.2, H, I.kept (t' := tk) hk', rv, q _ rc⟩
theorem pe_tmn {i : Nat} {x : Str} {p p2 pos apos cpos : Pos} (hw : HasW X) (hun : X.A.units + 66 < cLine) (hc : X.calm = true) (hg : Gl X "min") (hm : X.mg "min" = none) (hi : X.N[i]? = some x) (hv : Vis X.env.scope x) (hd : (x == ("__debug__" : Str)) = false) (hcd : (x == ("__classdict__" : Str)) = false)
    (hbase : attributeBase (.Name x p2) "values" X.env (eval (.Name x p2) X.env) = eval (.Name x p2) X.env) (hline : (apos.endLine == cpos.line) = true) :
    PE X (.Call (.Name "min" p) [.Call (.Attribute (.Name x p2) "values" apos) [] [] cpos] [] pos) (tE X.K Ph false (.tmn i)) := by
  refine PE.mono (pe_callB (cr_minV hun hc) hg hm (by decide +kernel) (pa_cons (pe_valsN (pe_var hi hv hd hcd) hbase hline) pa_nil)) fun σ H Q h => ?_
  obtain ⟨env, Hs, d, ok, ev, q⟩ := h
  rw [evE] at ev
  split at ev
  · rename_i kds e1
    obtain ⟨a, h1, o⟩ := ok.dt i kds e1
    obtain ⟨n, kvs, ea, t⟩ := ownT_of hw o
    refine ⟨.ref a, h1, a, kvs, rfl, ea, fun b hb => ?_⟩
    have f1 := FrE.alloc (o := valO b a) ok.view hb
    obtain ⟨n, kvs, ea, t⟩ := ownT_of hw (f1.ownT o)
    exact ⟨b, a, Hs, kvs, kds, d, rfl, upd_same, ea, f1.view, t, ev, fun v r => q _ _ _ f1 r⟩
  · cases ev
end
end Wr
end

section
set_option Elab.async false
set_option linter.all false
set_option maxRecDepth 100000
set_option maxHeartbeats 4000000
/-! WrPg: two keys whose hashes differ in every world (printed by mkhash.py). -/
namespace Wr.Hs
open PySem
def rot (a : Nat) : Nat := (a * 2147483648) % 18446744073709551616 + a / 8589934592
def tor (r : Nat) : Nat := (r % 2147483648) * 8589934592 + r / 2147483648
def g (c y h : Nat) : Nat := ((rot ((y + h * 14029467366897019727) % 18446744073709551616) * 11400714785074694791) % 18446744073709551616 + c) % 18446744073709551616
def fx (a : Nat) : Nat := if a = 18446744073709551615 then 1546275796 else a
def bk (c v : Nat) : Nat := tor ((v + 18446744073709551616 - c) % 18446744073709551616 * 614540362697595703 % 18446744073709551616)
theorem inv_of {P Q m : Nat} (hPQ : P * Q % m = 1) {a b : Nat} (h : (a * P) % m = b % m) : a % m = (b * Q) % m := by
  have e1 : (b * Q) % m = ((a * P) * Q) % m := by
    rw [Nat.mul_mod b Q, ← h, ← Nat.mul_mod]
  rw [e1, Nat.mul_assoc, Nat.mul_mod, hPQ, Nat.mul_one, Nat.mod_mod]
theorem shift {P Q m : Nat} (hPQ : P * Q % m = 1) {h k d : Nat} (e : (h * P) % m = (k * P + d) % m) : h % m = (k + d * Q) % m := by
  have e1 := inv_of hPQ (b := k * P + d) e
  have e2 : k * P * Q % m = k % m := by
    rw [Nat.mul_assoc, Nat.mul_mod, hPQ, Nat.mul_one, Nat.mod_mod]
  rw [e1, Nat.add_mul, Nat.add_mod, e2, ← Nat.add_mod]
theorem rot_split {hi lo : Nat} (h1 : hi < 2147483648) (h2 : lo < 8589934592) : rot (hi * 8589934592 + lo) = lo * 2147483648 + hi := by
  unfold rot
  have e1 : ((hi * 8589934592 + lo) * 2147483648) % 18446744073709551616 = lo * 2147483648 := by
    have : (hi * 8589934592 + lo) * 2147483648 = lo * 2147483648 + 18446744073709551616 * hi := by omega
    rw [this, Nat.add_mul_mod_self_left, Nat.mod_eq_of_lt (by omega)]
  have e2 : (hi * 8589934592 + lo) / 8589934592 = hi := by omega
  rw [e1, e2]
theorem halves {a : Nat} (h : a < 18446744073709551616) : ∃ hi lo, hi < 2147483648 ∧ lo < 8589934592 ∧ a = hi * 8589934592 + lo := ⟨a / 8589934592, a % 8589934592, by omega, by omega, by omega⟩
theorem rot_lt {a : Nat} (h : a < 18446744073709551616) : rot a < 18446744073709551616 := by
  obtain ⟨hi, lo, h1, h2, e⟩ := halves h
  rw [e, rot_split h1 h2]
  clear h e
  omega
theorem tor_rot {a : Nat} (h : a < 18446744073709551616) : tor (rot a) = a := by
  obtain ⟨hi, lo, h1, h2, e⟩ := halves h
  have e1 : (lo * 2147483648 + hi) % 2147483648 = hi := by
    clear h e
    omega
  have e2 : (lo * 2147483648 + hi) / 2147483648 = lo := by
    clear h e e1
    omega
  rw [e, rot_split h1 h2]
  unfold tor
  rw [e1, e2]
theorem g_lt (c y h : Nat) : g c y h < 18446744073709551616 := Nat.mod_lt _ (by decide)
theorem pqA : 11400714785074694791 * 614540362697595703 % 18446744073709551616 = 1 := by decide +kernel
theorem pqB : 14029467366897019727 * 839798700976720815 % 18446744073709551616 = 1 := by decide +kernel
theorem g_eq {c y h v : Nat} (hc : c < 18446744073709551616) (e : g c y h = v) : (y + h * 14029467366897019727) % 18446744073709551616 = bk c v := by
  have ha : (y + h * 14029467366897019727) % 18446744073709551616 < 18446744073709551616 := Nat.mod_lt _ (by decide)
  unfold g at e
  obtain ⟨a, ea⟩ : ∃ a, a = (y + h * 14029467366897019727) % 18446744073709551616 := ⟨_, rfl⟩
  rw [← ea] at e ha ⊢
  have hr := rot_lt ha
  have e2 : (rot a * 11400714785074694791) % 18446744073709551616 = ((v + 18446744073709551616 - c) % 18446744073709551616) % 18446744073709551616 := by omega
  have e3 := inv_of pqA e2
  rw [Nat.mod_eq_of_lt hr] at e3
  unfold bk
  rw [← e3, tor_rot ha]
theorem diff {y h k A B : Nat} (e1 : (y + h * 14029467366897019727) % 18446744073709551616 = A) (e2 : (y + k * 14029467366897019727) % 18446744073709551616 = B) : h % 18446744073709551616 = (k + (A + 18446744073709551616 - B) * 839798700976720815) % 18446744073709551616 := by
  refine shift pqB ?_
  omega
theorem fx_eq {a b : Nat} (h : fx a = fx b) : a = b ∨ (a = 18446744073709551615 ∧ b = 1546275796) ∨ (a = 1546275796 ∧ b = 18446744073709551615) := by
  unfold fx at h
  split at h <;> split at h <;> omega
theorem fx_lt {a : Nat} (h : a < 18446744073709551616) : fx a < 18446744073709551616 := by unfold fx; split <;> omega
theorem fx_is {a v : Nat} (h : fx a = v) (hv : v ≠ 1546275796) : a = v := by
  unfold fx at h
  split at h <;> omega
def Bad (d : Nat) : Prop := d = 0 ∨ d = 8812181885647557125 ∨ d = 9634562188061994491 ∨ d = 3620668906940150703 ∨ d = 14826075166769400913
/-- the pairs ('b', 5) and ('b', 0) -/
theorem level1 {x : Nat} (hx : x < 18446744073709551616) {d : Nat} (hd : Bad d) : fx (g 2870177450013471924 x 5) % 18446744073709551616 ≠ (fx (g 2870177450013471924 x 0) + d) % 18446744073709551616 := by
  by_cases h5 : g 2870177450013471924 x 5 = 18446744073709551615
  · have e := g_eq (by decide) h5
    have hX : x = (bk 2870177450013471924 18446744073709551615 + 18446744073709551616 - (5 * 14029467366897019727) % 18446744073709551616) % 18446744073709551616 := by omega
    subst hX
    rcases hd with rfl | rfl | rfl | rfl | rfl <;> decide +kernel
  · by_cases h0 : g 2870177450013471924 x 0 = 18446744073709551615
    · have e := g_eq (by decide) h0
      have hX : x = bk 2870177450013471924 18446744073709551615 := by omega
      subst hX
      rcases hd with rfl | rfl | rfl | rfl | rfl <;> decide +kernel
    · have f5 : fx (g 2870177450013471924 x 5) = g 2870177450013471924 x 5 := by unfold fx; rw [if_neg h5]
      have f0 : fx (g 2870177450013471924 x 0) = g 2870177450013471924 x 0 := by unfold fx; rw [if_neg h0]
      rw [f5, f0]
      intro e
      unfold g at e
      obtain ⟨a5, ea5⟩ : ∃ a, a = (x + 5 * 14029467366897019727) % 18446744073709551616 := ⟨_, rfl⟩
      obtain ⟨a0, ea0⟩ : ∃ a, a = (x + 0 * 14029467366897019727) % 18446744073709551616 := ⟨_, rfl⟩
      rw [← ea5, ← ea0] at e
      have e2 : (rot a5 * 11400714785074694791) % 18446744073709551616 = (rot a0 * 11400714785074694791 + d) % 18446744073709551616 := by omega
      have e3 := shift pqA e2
      have hx0 : a0 = x := by omega
      rw [hx0] at e3
      obtain ⟨hi, lo, h1, h2, ex⟩ := halves hx
      rw [ex, rot_split h1 h2] at e3
      rw [ex] at ea5
      clear ea0 e2 e f5 f0 h5 h0 hx0
      by_cases c1 : lo + 7636293771 < 8589934592
      · by_cases c2 : hi + 1723773848 < 2147483648
        · have e5 : a5 = (hi + 1723773848) * 8589934592 + (lo + 7636293771) := by omega
          rw [e5, rot_split c2 c1] at e3
          clear e5 ea5 ex
          rcases hd with rfl | rfl | rfl | rfl | rfl <;> omega
        · have e5 : a5 = (hi + 1723773848 - 2147483648) * 8589934592 + (lo + 7636293771) := by omega
          rw [e5, rot_split (by omega) c1] at e3
          clear e5 ea5 ex
          rcases hd with rfl | rfl | rfl | rfl | rfl <;> omega
      · by_cases c2 : hi + 1723773848 + 1 < 2147483648
        · have e5 : a5 = (hi + 1723773848 + 1) * 8589934592 + (lo + 7636293771 - 8589934592) := by omega
          rw [e5, rot_split c2 (by omega)] at e3
          clear e5 ea5 ex
          rcases hd with rfl | rfl | rfl | rfl | rfl <;> omega
        · have e5 : a5 = (hi + 1723773848 + 1 - 2147483648) * 8589934592 + (lo + 7636293771 - 8589934592) := by omega
          rw [e5, rot_split (by omega) (by omega)] at e3
          clear e5 ea5 ex
          rcases hd with rfl | rfl | rfl | rfl | rfl <;> omega
/-- (('a', 9), ('b', 5)) and (('a', 9), ('b', 0)) -/
theorem level2 {x y : Nat} (hx : x < 18446744073709551616) {A B : Nat} (hd : Bad ((bk 2870177450013471924 A + 18446744073709551616 - bk 2870177450013471924 B) * 839798700976720815 % 18446744073709551616)) (e1 : g 2870177450013471924 y (fx (g 2870177450013471924 x 5)) = A) (e2 : g 2870177450013471924 y (fx (g 2870177450013471924 x 0)) = B) : False := by
  have h := diff (g_eq (by decide) e1) (g_eq (by decide) e2)
  rw [Nat.add_mod, ← Nat.mod_mod ((bk 2870177450013471924 A + 18446744073709551616 - bk 2870177450013471924 B) * 839798700976720815), ← Nat.add_mod] at h
  exact level1 hx hd h
theorem bad (d : Nat) (h : d = 0 ∨ d = 8812181885647557125 ∨ d = 9634562188061994491 ∨ d = 3620668906940150703 ∨ d = 14826075166769400913) : Bad d := h
theorem apart {x y : Nat} (hx : x < 18446744073709551616) : fx (g 2870177450013471927 2870177450012600261 (fx (g 2870177450013471924 y (fx (g 2870177450013471924 x 5))))) ≠ fx (g 2870177450013471927 2870177450012600261 (fx (g 2870177450013471924 y (fx (g 2870177450013471924 x 0))))) := by
  intro h
  have l5 := fx_lt (g_lt 2870177450013471924 y (fx (g 2870177450013471924 x 5)))
  have l0 := fx_lt (g_lt 2870177450013471924 y (fx (g 2870177450013471924 x 0)))
  have same : fx (g 2870177450013471924 y (fx (g 2870177450013471924 x 5))) = fx (g 2870177450013471924 y (fx (g 2870177450013471924 x 0))) → False := fun h => by
    rcases fx_eq h with e | ⟨e1, e2⟩ | ⟨e1, e2⟩
    · refine level2 hx (A := g 2870177450013471924 y (fx (g 2870177450013471924 x 5))) (B := g 2870177450013471924 y (fx (g 2870177450013471924 x 0))) ?_ rfl rfl
      rw [e, Nat.add_comm, Nat.add_sub_cancel]
      exact .inl (by decide +kernel)
    · exact level2 hx (.inr (.inl (by decide +kernel))) e1 e2
    · exact level2 hx (.inr (.inr (.inl (by decide +kernel)))) e1 e2
  have at3 : ∀ {u v : Nat}, u < 18446744073709551616 → g 2870177450013471927 2870177450012600261 u = v → u = ((bk 2870177450013471927 v + 18446744073709551616 - 2870177450012600261) * 839798700976720815) % 18446744073709551616 := fun {u v} hu e => by
    have e1 := g_eq (by decide) e
    have e2 : (u * 14029467366897019727) % 18446744073709551616 = (0 * 14029467366897019727 + (bk 2870177450013471927 v + 18446744073709551616 - 2870177450012600261)) % 18446744073709551616 := by omega
    have e3 := shift pqB e2
    rw [Nat.mod_eq_of_lt hu, Nat.zero_add] at e3
    exact e3
  rcases fx_eq h with e | ⟨e1, e2⟩ | ⟨e1, e2⟩
  · refine same ?_
    rw [at3 l5 e, ← at3 l0 rfl]
  · have a1 := at3 l5 e1
    have a2 := at3 l0 e2
    have a1' : fx (g 2870177450013471924 y (fx (g 2870177450013471924 x 5))) = 9950010603462315946 := a1.trans (by decide +kernel)
    have a2' : fx (g 2870177450013471924 y (fx (g 2870177450013471924 x 0))) = 1137828717814758821 := a2.trans (by decide +kernel)
    exact level2 hx (.inr (.inr (.inr (.inl (by decide +kernel))))) (fx_is a1' (by decide)) (fx_is a2' (by decide))
  · have a1 := at3 l5 e1
    have a2 := at3 l0 e2
    have a1' : fx (g 2870177450013471924 y (fx (g 2870177450013471924 x 5))) = 1137828717814758821 := a1.trans (by decide +kernel)
    have a2' : fx (g 2870177450013471924 y (fx (g 2870177450013471924 x 0))) = 9950010603462315946 := a2.trans (by decide +kernel)
    exact level2 hx (.inr (.inr (.inr (.inr (by decide +kernel))))) (fx_is a1' (by decide)) (fx_is a2' (by decide))
end Wr.Hs
end

section
set_option Elab.async false
set_option linter.all false
set_option maxRecDepth 100000
set_option maxHeartbeats 4000000
/-! WrPh: dict(d) of dicts with tuples as keys, max(d.values()), list(d.items()). -/
namespace Wr.Hs
open PySem
def out (a : Nat) : Int := if (a == 18446744073709551616 - 1) = true then 1546275796 else if a < 9223372036854775808 then (a : Int) else (a : Int) - 18446744073709551616
def st1 (acc : Nat) (h : Int) : Nat := (rot ((acc + (h % 18446744073709551616).toNat * 14029467366897019727) % 18446744073709551616) * 11400714785074694791) % 18446744073709551616
theorem thx (hs : List Int) : Builtin.Tuple.tupleHashOf hs = out ((hs.foldl st1 2870177450012600261 + (hs.length ^^^ (2870177450012600261 ^^^ 3527539))) % 18446744073709551616) := by
  have hst : (fun (acc : Nat) (h : Int) => ((acc + (h % ((18446744073709551616 : Nat) : Int)).toNat * 14029467366897019727) % 18446744073709551616 * 2147483648 % 18446744073709551616 + (acc + (h % ((18446744073709551616 : Nat) : Int)).toNat * 14029467366897019727) % 18446744073709551616 / 8589934592) * 11400714785074694791 % 18446744073709551616) = st1 := by
    funext acc h
    unfold st1 rot
    simp only [Int.cast_ofNat_Int]
  unfold Builtin.Tuple.tupleHashOf out
  simp only [Nat.reducePow, Nat.reduceXor]
  rw [hst]
  simp only [Int.cast_ofNat_Int]
theorem st_g (c y : Nat) (h : Int) : (st1 y h + c) % 18446744073709551616 = g c y (h % 18446744073709551616).toNat := by
  unfold g st1
  exact Eq.refl _
theorem th2 (h1 h2 : Int) : Builtin.Tuple.tupleHashOf [h1, h2] = out (g 2870177450013471924 (st1 2870177450012600261 h1) (h2 % 18446744073709551616).toNat) := by
  have hx : ([h1, h2] : List Int).length ^^^ (2870177450012600261 ^^^ 3527539) = 2870177450013471924 := by
    rw [List.length_cons, List.length_cons, List.length_nil]
    decide +kernel
  rw [thx, hx, List.foldl_cons, List.foldl_cons, List.foldl_nil, st_g]
theorem th1 (h1 : Int) : Builtin.Tuple.tupleHashOf [h1] = out (g 2870177450013471927 2870177450012600261 (h1 % 18446744073709551616).toNat) := by
  have hx : ([h1] : List Int).length ^^^ (2870177450012600261 ^^^ 3527539) = 2870177450013471927 := by
    rw [List.length_cons, List.length_nil]
    decide +kernel
  rw [thx, hx, List.foldl_cons, List.foldl_nil, st_g]
theorem out_fx {a : Nat} (ha : a < 18446744073709551616) : (reduceHash (out a) % 18446744073709551616).toNat = fx a := by
  unfold out fx
  by_cases h : a = 18446744073709551615
  · subst h
    decide +kernel
  · have hb : (a == 18446744073709551616 - 1) = false := by
      rw [beq_eq_false_iff_ne]
      omega
    rw [hb, if_neg (by decide), if_neg h]
    unfold reduceHash
    by_cases h2 : a < 9223372036854775808
    · rw [if_pos h2, if_pos (by simp only [Bool.and_eq_true, decide_eq_true_eq]; constructor <;> omega), if_neg (by rw [beq_iff_eq]; omega)]
      omega
    · rw [if_neg h2, if_pos (by simp only [Bool.and_eq_true, decide_eq_true_eq]; constructor <;> omega), if_neg (by rw [beq_iff_eq]; omega)]
      omega
theorem red2 (h1 h2 : Int) : (reduceHash (Builtin.Tuple.tupleHashOf [h1, h2]) % 18446744073709551616).toNat = fx (g 2870177450013471924 (st1 2870177450012600261 h1) (h2 % 18446744073709551616).toNat) := by
  rw [th2, out_fx (g_lt _ _ _)]
theorem red1 (h1 : Int) : (reduceHash (Builtin.Tuple.tupleHashOf [h1]) % 18446744073709551616).toNat = fx (g 2870177450013471927 2870177450012600261 (h1 % 18446744073709551616).toNat) := by
  rw [th1, out_fx (g_lt _ _ _)]
theorem st1_lt (a : Nat) (h : Int) : st1 a h < 18446744073709551616 := Nat.mod_lt _ (by decide)
theorem hint5 : (hashInt 5 % 18446744073709551616).toNat = 5 := by
  decide +kernel
theorem hint0 : (hashInt 0 % 18446744073709551616).toNat = 0 := by
  decide +kernel
theorem hash_apart (w : World) (x y : Str) : NestedKey.hash w (.tup [.tup [.tup [.text x, .num 9], .tup [.text y, .num 5]]]) ≠ NestedKey.hash w (.tup [.tup [.tup [.text x, .num 9], .tup [.text y, .num 0]]]) := by
  intro e
  have e2 := congrArg (fun z : Int => (z % 18446744073709551616).toNat) e
  simp only [NestedKey.hash, NestedKey.hashes] at e2
  rw [red1, red1, red2, red2, red2, red2, hint5, hint0] at e2
  exact apart (st1_lt _ _) e2
end Wr.Hs
end

section
set_option Elab.async false
set_option linter.all false
set_option maxRecDepth 100000
set_option maxHeartbeats 4000000
/-! WrPi: dict(d) of dicts with tuples as keys, max(d.values()), list(d.items()). -/
namespace Wr
open PySem PySem.Spec PyProof.Rows L2
variable [Wld]
section
variable {X : Cx} {Ph : Nat → List PyData → Option PyData} {fr : Nat → Bool}
/-! ### dict(d) -/
theorem cpK_hash {w : World} {a b : PyData} (h : cpK a b = true) : (kOf a).hash w ≠ (kOf b).hash w := by
  unfold cpK at h
  split at h
  · simp only [Bool.and_eq_true, decide_eq_true_eq] at h
    obtain ⟨⟨⟨⟨⟨rfl, rfl⟩, rfl⟩, rfl⟩, rfl⟩, rfl⟩ := h
    simp only [kOf, kOfs]
    exact Hs.hash_apart w _ _
  · cases h
theorem tab_apart {K : PySem.W.Frag} {Hs : Hp} {P : Program} {w : World} {kds : List (PyData × PyData)} {xs : List (NestedKey × Addr × Value)} (t : TabX K Hs kds xs) (h : cpOk kds = true) : (xs.map fun x => (nestedKind P w).hash x.1).Nodup := by
  unfold cpOk at h
  split at h
  · cases t
    exact List.nodup_nil
  · cases t with
    | cons h1 t =>
      cases t
      simp
  · cases t with
    | cons h1 t =>
      cases t with
      | cons h2 t =>
        cases t
        have e := cpK_hash (w := w) h
        rw [← h1.2.1, ← h2.2.1] at e
        refine List.nodup_cons.mpr ⟨fun z => e (List.mem_singleton.mp z), List.nodup_cons.mpr ⟨fun z => by simp at z, List.nodup_nil⟩⟩
  · cases h
theorem tab_tup {pins : List (Addr × Obj)} {σ : L2.St} {H Hs : Hp} {s : Shared} (I : Inv X pins σ H s) (w : View Hs H) : ∀ {kds : List (PyData × PyData)} {xs : List (NestedKey × Addr × Value)}, TabX X.K Hs kds xs → ∀ x ∈ xs, s.TypeIs (.ref x.2.1) "tuple"
  | _, _, .nil, x, hx => by simp at hx
  | q :: _, y :: _, .cons h t, x, hx => by
    rcases List.mem_cons.mp hx with rfl | hx
    · obtain ⟨h1, _, h3, _⟩ := h
      obtain ⟨q1, q2⟩ := q
      cases q1 <;> simp only [ktD, Bool.false_eq_true] at h1
      have r := h3.view w
      cases r with
      | tup hT ra _ =>
        obtain ⟨its, rv, ⟨o, ho, hc, n, hd⟩, _⟩ := I.tuple hT
        exact ⟨o, ho, hc⟩
    · exact tab_tup I w t x hx
theorem call_dictT (hu : X.A.units + 66 < cLine) : CallR X (.type "dict") (fun xs H Q => ∃ (a : Addr) (Hs : Hp) (kvs : List (PyData × Addr × V)) (kds : List (PyData × PyData)), xs = [V.ref a] ∧ H a = some (tabO X.prog X.w a kvs) ∧ View Hs H ∧ TabIs X.K Hs kvs kds ∧ cpOk kds = true ∧
    ∀ p kvs', H p = none → TabIs X.K Hs kvs' kds → Q (.ref p) (upd H p (tabO X.prog X.w p kvs'))) := by
  intro pins s σ H xs us Q I r h
  obtain ⟨a, Hs, kvs, kds, rfl, ea, w, t, hc, q⟩ := h
  obtain ⟨u, rfl, ru⟩ := vals1 r
  obtain rfl : u = Value.ref a := ru
  have hn := I.hok.fresh (Nat.le_refl s.heap.objs.size)
  have hsm : (s.heap.objs.size == sysModules) = false := beq_eq_false_iff_ne.mpr (Ne.symm (Nat.ne_of_lt I.big))
  obtain ⟨kvs0, t0, new0⟩ := tab_new (X := X) (Hs := H) (kds := []) (h' := s.heap.push { cls := .type "dict", data := .dict #[] }) (a := s.heap.objs.size) .nil (Nat.zero_le _) hsm (Heap.DictOfH.new s.heap)
  cases t0
  have I1 := I.laid (a := s.heap.objs.size) (h' := s.heap.push { cls := .type "dict", data := .dict #[] }) (t' := s.toks) (fun _ _ q => Heap.get?_push_of_some _ q) (Nat.le_refl _) new0
  have hne : s.heap.objs.size ≠ a := by
    rintro e
    rw [← e, hn] at ea
    cases ea
  have w1 : View Hs (upd H s.heap.objs.size (tabO X.prog X.w s.heap.objs.size [])) := (FrE.alloc (o := tabO X.prog X.w s.heap.objs.size []) w hn).view
  have ea1 : upd H s.heap.objs.size (tabO X.prog X.w s.heap.objs.size []) a = some (tabO X.prog X.w a kvs) := by
    rw [upd_ne (Ne.symm hne)]
    exact ea
  obtain ⟨z, hsa, ys, tx, dd⟩ := tab_at I1 w1 (.inl ea1) t
  have hnew : (s.heap.push { cls := .type "dict", data := .dict #[] }).DictOfH (nestedKind X.prog X.w) s.heap.objs.size [] := Heap.DictOfH.new s.heap
  refine callType_codes (Q₁ := fun obj s₁ => obj = .ref s.heap.objs.size ∧ s₁ = { s with heap := s.heap.push { cls := .type "dict", data := .dict #[] } }) F.kt_called_dict (F.kt_typeCall_dict_1 _) F.entry_dict_init (kt_code_dict_new _ ⟨rfl, rfl⟩) ?_
  rintro obj s₁ ⟨rfl, rfl⟩
  refine ⟨hnew.typeIs, F.args_dict_init_2 _ _, ?_⟩
  unfold Builtin.«dict.__init__»
  refine wpAny_bind ?_
  unfold Builtin.Dict.selfAndRest
  refine wpAny_bind (wpAny_notOrdered_dict hnew.typeIs ?_)
  show wpAny _ _ (pure (s.heap.objs.size, [Value.ref a])) _ _ _
  refine wpAny_pure ?_
  refine updateFrom_dictH (A := X.A.in1) (knd := nestedKind X.prog X.w) .none (by show X.A.units + 1 + 1 + 8 < cLine; omega) hne hsa hnew dd (.inr ⟨tab_tup I1 w1 tx, tab_apart tx hc⟩) ?_ fun h' hd' ho' hs' => ?_
  · rw [List.length_nil, Nat.zero_add, ← tx.length]; exact z
  · rw [storedAllH_nil_of_nodup ys dd.nodup] at hd'
    obtain ⟨kvs', t', new'⟩ := tab_new (X := X) tx z hsm hd'
    refine ⟨rfl, .ref s.heap.objs.size, _, ?_, rfl, q _ kvs' hn t'⟩
    have I2 := d_write (t' := s.toks) (ob := tabO X.prog X.w s.heap.objs.size kvs') I1 (by rw [upd_same]; exact True.intro) hs' (let ⟨q, _, _, hq, _⟩ := hd'; ⟨q, hq⟩) new'
    rwa [upd_upd] at I2
theorem ps_tcp {i j : Nat} {x y : Str} {p q r cpos pos : Pos} (hw : HasW X) (hu : X.A.units + 66 < cLine) (hN : X.N.Nodup) (hi : X.N[i]? = some x) (hx : Loc X.env.scope x) (hf : X.fn x = true ∨ X.env.scope.names.lookup x = some .local)
    (hg : Gl X "dict") (hm : X.mg "dict" = none) (hj : X.N[j]? = some y) (hv : Vis X.env.scope y) (hd : (y == ("__debug__" : Str)) = false) (hcd : (y == ("__classdict__" : Str)) = false) : PS X (.Assign [.Name x p] (.Call (.Name "dict" q) [.Name y r] [] cpos) pos) (tS X.K Ph fr (.tcp i j)) := by
  refine PS.mono (ps_set hN hi hx (pe_callTy (call_dictT hu) hg hm (by decide +kernel) (pa_cons (pe_var hj hv hd hcd) pa_nil)) rfl hf) fun D σ H h => ?_
  obtain ⟨env, Hs, out, ok, ev, h⟩ := h
  rw [exS] at ev
  split at ev
  · rename_i kds e1
    split at ev
    · rename_i hc
      cases ev
      obtain ⟨a, h1, o⟩ := ok.dt j kds e1
      obtain ⟨n, kvs, ea, t⟩ := ownT_of hw o
      refine ⟨.ref a, h1, a, Hs, kvs, kds, rfl, ea, ok.view, t, hc, fun b kvs' hb t' => ?_⟩
      have f := FrE.alloc (o := tabO X.prog X.w b kvs') ok.view hb
      refine h _ _ Hs ((ok.fr f).set_dt i (ownT_mk hw (ok.view.none hb) upd_same t') fun z => (ok.owned z).1 hb) ((FrS.ofE f).own_or fun c hc => ?_)
      rcases owned_set_one hc with z | z
      · exact .inl z
      · exact .inr (by rw [z]; exact hb)
    · cases ev
  · cases ev
end
end Wr
end

section
set_option Elab.async false
set_option linter.all false
set_option maxRecDepth 100000
set_option maxHeartbeats 4000000
/-! WrPj: max(d.values()) of dicts with tuples as keys; list(d.items()). -/
namespace Wr
open PySem PySem.Spec PyProof.Rows L2
variable [Wld]
section
variable {X : Cx} {Ph : Nat → List PyData → Option PyData} {fr : Nat → Bool}
theorem cr_maxV (hun : X.A.units + 66 < cLine) (hc : X.calm = true) : CallR X (.builtin "max") (fun xs H Q => ∃ (p d : Addr) (Hs : Hp) (kvs : List (PyData × Addr × V)) (kds : List (PyData × PyData)) (r : PyData), xs = [V.ref p] ∧ H p = some (valO p d) ∧ H d = some (tabO X.prog X.w d kvs) ∧ View Hs H ∧ TabIs X.K Hs kvs kds ∧ maxT (kds.map (·.2)) = some r ∧ ∀ v, Rp X.K Hs v r → Q v H) := by
  intro pins s σ H xs us Q I rr h
  obtain ⟨p, d, Hs, kvs, kds, r, rfl, hp, hd, w, t, hm, q⟩ := h
  obtain ⟨u, rfl, ru⟩ := vals1 rr
  obtain rfl : u = Value.ref p := ru
  have vw : s.heap.IsValuesView p d := (I.hok p _ hp).1
  obtain ⟨z, hs, xs, pr, o, es, ep, ho, hx, hdt, he, hn⟩ := tab_rd I (.inl hd)
  have raw : s.heap.DictRaw d es ep := ⟨o, ho, hx, hdt⟩
  cases hk : kds.map (·.2) with
  | nil => rw [hk] at hm; cases hm
  | cons y ys =>
    rw [hk, maxT] at hm
    split at hm
    case isFalse => cases hm
    rename_i hg
    cases hm
    simp only [Bool.and_eq_true] at hg
    obtain ⟨⟨⟨g1, g2⟩, g3⟩, g4⟩ := hg
    obtain ⟨as, ra⟩ := vals_reads I w t pr (by rw [hk]; exact g3)
    rw [hk] at ra
    have ev : (es.map (·.val)).toList = xs.map (·.2.2) := by
      rw [Array.toList_map, he, List.map_map]
      exact List.map_congr_left fun _ _ => rfl
    have hvs : ∀ {i : Nat} {v : Value}, (∃ hi : i < es.size, v = es[i].val) → (es.map (·.val))[i]? = some v := by
      intro i v ⟨hi, e⟩
      rw [Array.getElem?_map, Array.getElem?_eq_getElem hi, e]; rfl
    have l1 : es.size = xs.length := size_of_entries he
    have l2 : kvs.length = xs.length := Paired.length pr
    have l3 : kvs.length = kds.length := Paired.length t
    have l4 : kds.length = ys.length + 1 := by
      have := congrArg List.length hk
      rw [List.length_map] at this
      exact this
    have hdep : PyData.depthAll (y :: ys) ≤ 40 := depthAll_le fun d hd => of_decide_eq_true (List.all_eq_true.mp g4 d hd)
    have hcm := PySem.W.cmpIn_gt (prog := X.prog) (w := X.w) (A := X.A.in1) (s := s) (vs := es.map (·.val)) (by rw [ev]; exact ra) (alikeAll_of g1 g2) (by show X.A.units + 1 + _ < _; omega)
    refine call_max_walkH (wpAny_pyIter_values_raw vw raw ?_)
    refine ⟨s.heap.objs.size, _, _, _, _, _, _, s.heap, _, rfl, (Walks.rawValues (A := X.A.in1) (I.ok.hd hc) s.heap.objs.size d (Nat.ne_of_lt (Heap.lt_size ho)) es ep).toS, ⟨⟨_, Heap.get?_push_size _ rfl, rfl, rfl⟩, raw.push _⟩, fun b hb => ?_, by omega, fun b o e hb => ?_, fun b o e => Heap.get?_push_of_some _ e, fun i j vi vj s' Q' E' hk' hi hj hq => hcm i j vi vj s' Q' E' hk' (hvs hi) (hvs hj) hq, fun v s' hP m => ?_⟩
    · have := Heap.lt_size ho
      have e2 : (s.heap.push { cls := .type "dict_valueiterator", data := .fields #[.ref d, .int 0 0, .int es.size 0, .int ep 0] }).objs.size = s.heap.objs.size + 1 := size_push' ..
      show b < (s.heap.push _).objs.size
      rw [e2]
      rcases List.mem_cons.mp hb with rfl | hb
      · exact Nat.lt_succ_self _
      · rw [List.mem_singleton.mp hb]; exact Nat.lt_succ_of_lt this
    · rw [List.mem_singleton.mp hb] at e
      exact absurd (Heap.lt_size e) (Nat.lt_irrefl _)
    · obtain ⟨h', tk, rfl, hk'⟩ := PySem.W.moved_old rfl rfl m
      have e1 : es.size - 1 = ys.length := by omega
      have e2 := (PySem.W.argBest_fold (fun a b => PySem.W.dataLt b a) PyData.none y ys ys.length (Nat.le_refl _)).2
      rw [e1] at hP
      obtain ⟨hi, hv⟩ := hP
      have hx := entry_at he (argBest (fun i j => PySem.W.dataLt ((y :: ys).getD j .none) ((y :: ys).getD i .none)) ys.length)
      rw [Array.getElem?_eq_getElem hi] at hx
      cases hkv : kvs[argBest (fun i j => PySem.W.dataLt ((y :: ys).getD j .none) ((y :: ys).getD i .none)) ys.length]? with
      | none => rw [List.getElem?_eq_none_iff] at hkv; omega
      | some kv =>
        obtain ⟨b, hb, _, _, rv⟩ := paired_get pr hkv
        obtain ⟨c, hc2, _, _, _, rc⟩ := paired_get t hkv
        rw [hb] at hx
        have hx2 := Option.some.inj hx
        have : v = b.2.2 := by rw [hv, hx2]; rfl
        subst this
        have e3 : (y :: ys).getD (argBest (fun i j => PySem.W.dataLt ((y :: ys).getD j .none) ((y :: ys).getD i .none)) ys.length) .none = c.2 := by
          rw [← hk, List.getD_eq_getElem?_getD, List.getElem?_map, hk, hc2]; rfl
        rw [List.take_length, e3] at e2
        rw [e2] at rc
        exact ⟨kv.2.2, H, I.kept (t' := tk) hk', rv, q _ rc⟩
theorem pe_tmx {i : Nat} {x : Str} {p p2 pos apos cpos : Pos} (hw : HasW X) (hun : X.A.units + 66 < cLine) (hc : X.calm = true) (hg : Gl X "max") (hm : X.mg "max" = none) (hi : X.N[i]? = some x) (hv : Vis X.env.scope x) (hd : (x == ("__debug__" : Str)) = false) (hcd : (x == ("__classdict__" : Str)) = false)
    (hbase : attributeBase (.Name x p2) "values" X.env (eval (.Name x p2) X.env) = eval (.Name x p2) X.env) (hline : (apos.endLine == cpos.line) = true) :
    PE X (.Call (.Name "max" p) [.Call (.Attribute (.Name x p2) "values" apos) [] [] cpos] [] pos) (tE X.K Ph false (.tmx i)) := by
  refine PE.mono (pe_callB (cr_maxV hun hc) hg hm (by decide +kernel) (pa_cons (pe_valsN (pe_var hi hv hd hcd) hbase hline) pa_nil)) fun σ H Q h => ?_
  obtain ⟨env, Hs, d, ok, ev, q⟩ := h
  rw [evE] at ev
  split at ev
  · rename_i kds e1
    obtain ⟨a, h1, o⟩ := ok.dt i kds e1
    obtain ⟨n, kvs, ea, t⟩ := ownT_of hw o
    refine ⟨.ref a, h1, a, kvs, rfl, ea, fun b hb => ?_⟩
    have f1 := FrE.alloc (o := valO b a) ok.view hb
    obtain ⟨n, kvs, ea, t⟩ := ownT_of hw (f1.ownT o)
    exact ⟨b, a, Hs, kvs, kds, d, rfl, upd_same, ea, f1.view, t, ev, fun v r => q _ _ _ f1 r⟩
  · cases ev
/-! ### list(d.items()) -/
theorem tups_laidL {pins : List (Addr × Obj)} {σ : L2.St} {H : Hp} {s : Shared} {h2 : Heap} {tk : Nat} {kvs : List (Key × V)} {vs : List (Key × Value)} {as : List Addr} {acc : Array Value} {c : Nat} (I : Inv X pins σ H s) (kv : KV kvs vs)
    (hk : ∀ b o, s.heap.get? b = some o → h2.get? b = some o) (hl : as.length = vs.length) (hz : kvs.length ≤ sizeLine) (hG : PySem.W.KdxG (mixKind X.prog X.w) vs s.heap.objs.size h2 as)
    (hS : h2.get? s.heap.objs.size = some { cls := .type "list", dict := none, data := .seq acc c, slots := #[] }) (hacc : acc.toList = as.map Value.ref) :
    ∃ H2 : Hp, (∀ b o, H b = some o → H2 b = some o) ∧ (∀ t ∈ as, H t = none) ∧ (∀ b, b ∉ as → H2 b = H b) ∧ Paired (fun (t : Addr) (q : Key × V) => H2 t = some (.tup [kV q.1, q.2])) as kvs ∧ H2 s.heap.objs.size = none ∧ Inv X pins σ (upd H2 s.heap.objs.size (.lst (as.map V.ref))) { s with heap := h2, toks := tk } := by
  have lk : kvs.length = vs.length := Paired.length kv
  have nd : as.Nodup := List.Pairwise.imp (fun {a b} (z : a < b) => Nat.ne_of_lt z) hG.rise
  have fresh : ∀ t ∈ as, H t = none := fun t ht => I.hok.fresh (Nat.le_of_lt (hG.above t ht))
  have n0 : H s.heap.objs.size = none := I.hok.fresh (Nat.le_refl _)
  have m0 : s.heap.objs.size ∉ as := fun z => Nat.lt_irrefl _ (hG.above _ z)
  have laid := LiI.putT_at as kvs H (by omega) nd
  have off : ∀ b, b ∉ as → LiI.putT H as kvs b = H b := fun b hb => LiI.putT_off as kvs _ hb
  have kp : ∀ b u, H b = some u → LiI.putT H as kvs b = some u := fun b u e => by
    rw [off b (fun z => by rw [fresh b z] at e; cases e)]
    exact e
  have kp2 : ∀ b u, H b = some u → upd (LiI.putT H as kvs) s.heap.objs.size (.lst (as.map V.ref)) b = some u := fun b u e => by
    rw [upd_ne (ne_of_none e n0)]
    exact kp b u e
  refine ⟨LiI.putT H as kvs, kp, fresh, off, laid, (off _ m0).trans n0, ?_⟩
  refine I.call' (ch := []) rfl ⟨fun b o q _ _ _ => hk b o q, fun b o q _ _ _ => ⟨o.slots, hk b o q⟩, fun b o q n _ => ?_, fun b o q _ => ⟨o, hk b o q⟩, fun b xs q => kp2 b _ q, fun b o u q => kp2 b _ q, fun b ps q => ⟨#[], by rw [kp2 b _ q]; simp⟩⟩ (fun b u q => ?_) I.bare fun b z => by simp at z
  · rw [upd_ne (Nat.ne_of_lt (Heap.lt_size q)), off b fun z => absurd (Heap.lt_size q) (Nat.not_lt.mpr (Nat.le_of_lt (hG.above b z)))]
    exact n
  · by_cases h0 : b = s.heap.objs.size
    · subst h0
      rw [upd_same] at q
      cases q
      refine ⟨by rw [List.length_map]; omega, acc.toList, c, ?_, ?_⟩
      · rw [hacc]; exact LiI.vals_refs as
      · rw [Array.toArray_toList]; exact hS
    · rw [upd_ne h0] at q
      by_cases hb : b ∈ as
      · obtain ⟨j, pk, e1, e2, e3⟩ := LiI.paired_ix laid hb
        rw [e3] at q
        cases q
        obtain ⟨key, k, x, g1, g2, g3⟩ := hG.pairs j b e1
        obtain ⟨qv, g4, g5, g6⟩ := LiI.paired_get kv e2
        rw [g1] at g4
        cases g4
        have rk : RelV (kV pk.1) key := by
          rw [g5]
          exact keyIs_rel (show keyIs k key = true from g2)
        exact ⟨by show 2 ≤ sizeLine; decide, [key, x], .cons rk (.cons g6 .nil), ⟨_, g3, rfl, _, rfl⟩⟩
      · rw [off b hb] at q
        exact (I.hok b u q).stay (fun d v _ y => hk d v y) (fun d y => kp2 d _ y) fun d xs y => kp2 d _ y
/-- the new tuples are shared -/
theorem items_shared {H H2 Hs : Hp} {as : List Addr} {kvs : List (Key × V)} {kds : List (PyData × PyData)} (w : View Hs H) (k1 : ∀ b o, H b = some o → H2 b = some o) (k2 : ∀ t ∈ as, H t = none) (k4 : Paired (fun (t : Addr) (q : Key × V) => H2 t = some (.tup [kV q.1, q.2])) as kvs) (rx : RpKV X.K Hs kvs kds) :
    ∃ Hs2, FrE H Hs H2 Hs2 ∧ RpAll X.K Hs2 (as.map V.ref) (itemsD kds) := by
  have wv : View Hs H2 := ⟨fun b u e => by
    rcases w.1 b u e with z | ⟨o, z⟩
    · exact .inl (k1 _ _ z)
    · exact .inr ⟨o, k1 _ _ z⟩, fun b o xs e => k1 _ _ (w.2 b o xs e)⟩
  obtain ⟨Hs2, e1, e2⟩ : ∃ Hs2 : Hp, (∀ b, b ∈ as → Hs2 b = H2 b) ∧ ∀ b, b ∉ as → Hs2 b = Hs b := ⟨fun b => if b ∈ as then H2 b else Hs b, fun b hb => if_pos hb, fun b hb => if_neg hb⟩
  have sh : Same Hs Hs2 := fun b u e => by
    rw [e2 b fun z => by have := w.none (k2 b z); rw [e] at this; cases this]
    exact e
  have v2 : View Hs2 H2 := ⟨fun b u e => by
    by_cases hb : b ∈ as
    · unfold Rd at e ⊢
      rw [e1 b hb] at e
      exact e
    · have e' : Rd Hs b u := by unfold Rd at e ⊢; rw [e2 b hb] at e; exact e
      exact wv.1 b u e', fun b o xs e => by
    by_cases hb : b ∈ as
    · rw [e1 b hb] at e
      exact e
    · rw [e2 b hb] at e
      exact wv.2 b o xs e⟩
  have f : FrE H Hs H2 Hs2 := ⟨k1, sh, v2, fun b h1 h2 => by
    by_cases hb : b ∈ as
    · exact k2 b hb
    · rw [e2 b hb] at h2; exact absurd h1 h2⟩
  have k4' : Paired (fun (t : Addr) (q : Key × V) => Hs2 t = some (.tup [kV q.1, q.2])) as kvs := by
    have : ∀ {ts : List Addr} {ks : List (Key × V)}, Paired (fun (t : Addr) (q : Key × V) => H2 t = some (.tup [kV q.1, q.2])) ts ks → (∀ t ∈ ts, t ∈ as) → Paired (fun (t : Addr) (q : Key × V) => Hs2 t = some (.tup [kV q.1, q.2])) ts ks := by
      intro ts ks p
      induction p with
      | nil => exact fun _ => .nil
      | cons h t ih => exact fun hm => .cons (by rw [e1 _ (hm _ List.mem_cons_self)]; exact h) (ih fun t ht => hm t (List.mem_cons_of_mem _ ht))
    exact this k4 fun _ h => h
  exact ⟨Hs2, f, rp_items k4' rx (View.of_same sh)⟩
def itmO (a d : Addr) : HO := .ext fun h => h.IsItemsView a d
def tItms (td : TE) : TE := fun σ H Q => td σ H fun x H1 => ∃ d kvs, x = .ref d ∧ Rd H1 d (.dK kvs) ∧ ∀ p, H1 p = none → Q (.ref p) (upd H1 p (itmO p d))
theorem pe_itm {e : Expr} {td : TE} {apos cpos : Pos} (he : PE X e td) (hbase : attributeBase e "items" X.env (eval e X.env) = eval e X.env) (hline : (apos.endLine == cpos.line) = true) :
    PE X (.Call (.Attribute e "items" apos) [] [] cpos) (tItms td) := by
  refine ⟨fun pins s σ H Q I h => ?_⟩
  refine wpAny_Call_method (T := "dict") (id := "dict.items") hbase rfl hline F.plainAttrs_dict F.slot_dict_items F.type_dict_items (thn (he.run pins s σ H _ I h) fun u s1 ⟨x, H1, I1, rx, d, kvs, ex, hrd, q⟩ => ?_)
  subst ex
  obtain rfl : u = Value.ref d := rx
  obtain ⟨z, lo, vs, rel, dof⟩ := dk_rd I1.hok hrd
  obtain ⟨ep, dat⟩ := dof.dictAt
  obtain ⟨ob, es, ho, ex, hdat, hko, hpr, hnd⟩ := id dat
  refine ⟨⟨ob, ho, ex.1⟩, fun b e => ?_, ?_⟩
  · cases e
    exact ⟨ob, ho, ex.2.1⟩
  show wpAny _ _ (callWith cpos (.builtin "dict.items") [.ref d] [] []) _ X.xe s1
  refine method_meetsIn F.slot_dict_items F.entry_dict_items rfl (PySem.evalArgs_none ⟨rfl, ⟨ob, ho, ex.1⟩, F.args_dict_items_1 _, _, meets_dict_items (mixKind X.prog X.w) d lo, ⟨vs, dof⟩, ?_⟩)
  refine ⟨.ref s1.heap.objs.size, _, I1.laid (a := s1.heap.objs.size) (t' := s1.toks) (fun _ _ q => Heap.get?_push_of_some _ q) (Nat.le_refl _) ?_, rfl, q _ (I1.hok.fresh (Nat.le_refl _))⟩
  refine ⟨⟨_, Heap.get?_push_size _ rfl, rfl, rfl⟩, ⟨_, Heap.get?_push_size _ rfl⟩, fun h1 h2 p k => ?_⟩
  obtain ⟨o, ho, r⟩ := p
  exact ⟨o, k o ho, r⟩
theorem cr_listI (hc : X.calm = true) : CallR X (.type "list") (fun xs H Q => ∃ (p d : Addr) (Hs : Hp) (kvs : List (Key × V)) (kds : List (PyData × PyData)), xs = [V.ref p] ∧ H p = some (itmO p d) ∧ Rd H d (.dK kvs) ∧ View Hs H ∧ RpKV X.K Hs kvs kds ∧
    ∀ a H1 Hs1, FrE H Hs H1 Hs1 → Rp X.K Hs1 (.ref a) (.list (itemsD kds)) → Q (.ref a) H1) := by
  intro pins s σ H xs us Q I r h
  obtain ⟨p, d, Hs, kvs, kds, rfl, hp, hrd, w, rx, q⟩ := h
  obtain ⟨u, rfl, ru⟩ := vals1 r
  obtain rfl : u = Value.ref p := ru
  have vw : s.heap.IsItemsView p d := (I.hok p _ hp).1
  obtain ⟨z, lo, vs, rk, hd⟩ := dk_rd I.hok hrd
  obtain ⟨ep, hat⟩ := hd.dictAt
  have hl : kvs.length = vs.length := Paired.length rk
  refine PySem.W.kdx_call (knd := mixKind X.prog X.w) (kvs := vs) (ep := ep) (I.ok.hd hc) vw hat (by omega) fun h2 tk acc c as hk hS hl2 hG hacc => ?_
  obtain ⟨H2, k1, k2, k3, k4, n2, J⟩ := tups_laidL (tk := tk) I rk hk hl2 z hG hS hacc
  obtain ⟨Hs2, f2, ra⟩ := items_shared w k1 k2 k4 rx
  exact ⟨.ref s.heap.objs.size, _, J, rfl, q _ _ _ (f2.trans (FrE.put f2.view n2)) (rp_lst (f2.view.none n2) ra)⟩
theorem pe_listitems {o : Expr} {x : E} {p apos mpos pos : Pos} (hc : X.calm = true) (hg : Gl X "list") (hm : X.mg "list" = none) (hd : PE X o (tE X.K Ph false x)) (hbase : attributeBase o "items" X.env (eval o X.env) = eval o X.env) (hline : (apos.endLine == mpos.line) = true) :
    PE X (.Call (.Name "list" p) [.Call (.Attribute o "items" apos) [] [] mpos] [] pos) (tE X.K Ph false (.blt .listitems (.cons x .nil))) := by
  refine PE.mono (pe_callTy (cr_listI hc) hg hm (by decide +kernel) (pa_cons (pe_itm hd hbase hline) pa_nil)) fun σ H Q q => ?_
  obtain ⟨env, Hs, d, ok, ev, q⟩ := q
  rw [evE] at ev
  split at ev
  · rename_i ds e0
    rw [evEs] at e0
    split at e0
    · rename_i d0 e1
      rw [evEs] at e0
      cases e0
      replace ev : listitemsD [d0] = some d := ev
      cases d0 <;> simp only [listitemsD] at ev <;> try cases ev
      rename_i kds
      refine ⟨env, Hs, _, ok, e1, fun v H1 Hs1 f1 r1 => ?_⟩
      have r1' : Rp X.K Hs1 v (.dict kds) := r1
      cases r1' with
      | dic sq rk =>
        rename_i a kvs
        refine ⟨a, kvs, rfl, f1.view.1 _ _ sq, fun b hb => ?_⟩
        have f2 := FrE.alloc (o := itmO b a) f1.view hb
        exact ⟨b, a, Hs1, kvs, kds, rfl, upd_same, f2.view.1 _ _ sq, f2.view, rk, fun c H2 Hs2 f3 r3 => q _ _ _ ((f1.trans f2).trans f3) r3⟩
    · cases e0
  · cases ev
end
end Wr
end

section
set_option Elab.async false
set_option linter.all false
set_option maxRecDepth 100000
set_option maxHeartbeats 4000000
/-! WrPk: dict(zip(a, b)). -/
namespace Wr
open PySem PySem.Spec PyProof.Rows L2
variable [Wld]
section
variable {X : Cx} {Ph : Nat → List PyData → Option PyData} {fr : Nat → Bool}
/-- keys and values, side by side -/
inductive KZ : List V → List V → List (Key × V) → Prop where
  | none1 (ys : List V) : KZ [] ys []
  | none2 (xs : List V) : KZ xs [] []
  | more {k : Key} {y : V} {xs ys : List V} {kvs : List (Key × V)} (h : KZ xs ys kvs) : KZ (kV k :: xs) (y :: ys) ((k, y) :: kvs)
theorem kz_prs {P : Program} {w : World} : ∀ {xs ys : List V} {kvs : List (Key × V)} {us vs : List Value}, KZ xs ys kvs → Vals xs us → Vals ys vs →
    ∃ prs : List (Key × Value), KV kvs prs ∧ prs.length = min us.length vs.length ∧ ∀ (i : Nat) (k v : Value), us[i]? = some k → vs[i]? = some v → ∃ q, prs[i]? = some (q, v) ∧ (mixKind P w).is q k = true
  | _, _, _, _, _, .none1 ys, .nil, _ => ⟨[], .nil, by simp, fun i k v h => by simp at h⟩
  | _, _, _, _, _, .none2 xs, _, .nil => ⟨[], .nil, by simp, fun i k v _ h => by simp at h⟩
  | _, _, _, _, _, .more (k := kk) h, .cons (b := u) ru tu, .cons (b := v0) rv tv => by
    obtain ⟨prs, h1, h2, h3⟩ := kz_prs (P := P) (w := w) h tu tv
    refine ⟨(kk, v0) :: prs, .cons ⟨rfl, rv⟩ h1, ?_, fun i k v e1 e2 => ?_⟩
    · rw [List.length_cons, List.length_cons, List.length_cons, h2]
      omega
    · cases i with
      | zero =>
        cases (Option.some.inj e1 : u = k)
        cases (Option.some.inj e2 : v0 = v)
        exact ⟨kk, rfl, kV_is (P := P) (w := w) ru⟩
      | succ i =>
        obtain ⟨q, h4, h5⟩ := h3 i k v (by simpa using e1) (by simpa using e2)
        exact ⟨q, by simpa using h4, h5⟩
def tDZ (X : Cx) (ta : TA) : TE := fun σ H Q => ta σ H fun vs H1 => ∃ a b xs ys kvs, vs = [V.ref a, V.ref b] ∧ SqL X.K H1 a xs ∧ SqL X.K H1 b ys ∧ KZ xs ys kvs ∧ ∀ p, H1 p = none → Q (.ref p) (upd H1 p (.dK (mergeK [] kvs)))
theorem pe_dzA {e e2 : Expr} {ta : TA} {p p2 pos pos2 : Pos} (hc : X.calm = true) (hg : Gl X "dict") (hm : X.mg "dict" = none) (hg2 : Gl X "zip") (hm2 : X.mg "zip" = none) (ha : PA X [e, e2] ta)
    (hs : starEach [e, e2] X.env = (false, eval e X.env) :: starEach [e2] X.env) (hpl : (backTo pos2 (starEach [e2] X.env)).any (·.1) = false)
    (hse : starEach [Expr.Call (.Name "zip" p2) [e, e2] [] pos2] X.env = [(false, eval (Expr.Call (.Name "zip" p2) [e, e2] [] pos2) X.env)]) :
    PE X (.Call (.Name "dict" p) [.Call (.Name "zip" p2) [e, e2] [] pos2] [] pos) (tDZ X ta) := by
  refine ⟨fun pins s σ H Q I h => ?_⟩
  refine wpAny_Call_Name_kw (ld_blt I hg hm (u := .type "dict") (by decide +kernel) ?_ (by decide) (by decide))
  rw [hse]
  refine PySem.callWith_type1 (wpAny_Call_Name_kw (ld_blt I hg2 hm2 PyProof.Rows.boot_zip (PyProof.Rows.callWith_type1 (thn (ha.run pos2 pins s σ H _ I h) fun us s1 ⟨vs, H1, I1, r1, q1⟩ => ?_) hs hpl)))
  obtain ⟨a, b, xs, ys, kvs, ex, hqx, hqy, kz, q⟩ := q1
  subst ex
  cases r1 with
  | cons r rr =>
    cases rr with
    | cons r' rr =>
      cases rr
      cases r
      cases r'
      obtain ⟨its, rv, p1, z1⟩ := I1.list hqx
      obtain ⟨its2, rv2, p2, z2⟩ := I1.list hqy
      obtain ⟨prs, kv, l1, hpr⟩ := kz_prs (P := X.prog) (w := X.w) kz rv rv2
      refine call_zip_2 p1.isList p2.isList fun h' hz hTI hTO h1 h2 hsz hk => ?_
      have lv1 := rv.length
      have ok1 : h'.IsList a its.toArray := p1.isList.at fun o e => hk _ o e
      have ok2 : h'.IsList b its2.toArray := p2.isList.at fun o e => hk _ o e
      refine PySem.call_dict_pairs (knd := mixKind X.prog X.w) (kvs := prs) (PairArg.zip _ _ _ _ _ _ _ (PySem.W.ktu_apart s1.heap.objs.size a b p1.lt p2.lt) its.toArray its2.toArray) (I1.ok.hd hc) ⟨hz, hTI, ⟨_, _, hTO⟩, h1, h2, ok1, ok2⟩ ⟨?_, fun i key v hr => ?_⟩ ?_ fun h2 tk hd' k => ?_
      · simpa using l1
      · obtain ⟨q', e3, e4⟩ := hpr i key v (by simpa using hr.1) (by simpa using hr.2)
        exact ⟨q', e3, e4⟩
      · simp only [List.size_toArray]
        omega
      · have hm : (h'.objs.size == sysModules) = false := beq_eq_false_iff_ne.mpr (Nat.ne_of_gt (Nat.lt_of_lt_of_le I1.big (by rw [hsz]; exact Nat.le_add_right _ _)))
        have lk : kvs.length = prs.length := Paired.length kv
        have hlen : (mergeK [] kvs).length ≤ sizeLine := by
          refine Nat.le_trans (length_mergeK kvs []) ?_
          rw [List.length_nil, Nat.zero_add]
          omega
        have keep : ∀ c o, s1.heap.get? c = some o → h2.get? c = some o := fun c o e => by
          have lt := Heap.lt_size e
          refine k c o (fun hmem => ?_) (hk c o e)
          have hle : s1.heap.objs.size ≤ c := by
            simp only [List.mem_cons, List.not_mem_nil, or_false] at hmem
            rcases hmem with z | z | z | z <;> rw [z]
            · exact Nat.le_add_right _ _
            · exact Nat.le_add_right _ _
            · exact Nat.le_refl _
            · exact Nat.le_add_right _ _
          exact absurd lt (Nat.not_lt.mpr hle)
        exact ⟨.ref h'.objs.size, upd H1 h'.objs.size (.dK (mergeK [] kvs)), I1.laid (t' := tk) keep (by rw [hsz]; exact Nat.le_add_right _ _) (show ObjOk X.prog X.w _ _ _ (.dK (mergeK [] kvs)) from ⟨hlen, hm, merged [] prs, KV.merge kv .nil, hd'⟩), rfl, q _ (I1.hok.fresh (by rw [hsz]; exact Nat.le_add_right _ _))⟩
theorem zip_of {K : PySem.W.Frag} {Hs : Hp} : ∀ {xs ys : List V} {as bs : List PyData} {kds : List (PyData × PyData)}, RpAll K Hs xs as → RpAll K Hs ys bs → pairsD (zipD as bs) = some kds → ∃ kvs, KZ xs ys kvs ∧ RpKV K Hs kvs kds
  | _, ys, _, _, _, .nil, _, h => by
    rw [zipD] at h
    · cases h
      exact ⟨[], .none1 ys, .nil⟩
    · intro _ _ _ _ z; cases z
  | _, _, _, _, _, .cons r t, .nil, h => by
    rw [zipD] at h
    · cases h
      exact ⟨[], .none2 _, .nil⟩
    · intro _ _ _ _ _ z; cases z
  | _, _, _, _, kds, .cons (d := k) r t, .cons (d := v) r' t', h => by
    rw [zipD, pairsD] at h
    split at h
    · rename_i hk
      obtain ⟨kds', h1, rfl⟩ := Option.map_eq_some_iff.mp h
      obtain ⟨kvs, h2, h3⟩ := zip_of t t' h1
      cases k <;> simp [keyD] at hk
      rename_i kk
      have hok : strOk kk = true := by cases r; assumption
      cases r
      exact ⟨(.inr kk, _) :: kvs, KZ.more (k := .inr kk) h2, .cons hok r' h3⟩
    · cases h
theorem rp_dict {K : PySem.W.Frag} {Hs : Hp} {p : Addr} {xs : List (Key × V)} {ds : List (PyData × PyData)} (hs : Hs p = none) (r : RpKV K Hs xs ds) : Rp K (upd Hs p (.dK xs)) (.ref p) (.dict ds) :=
  .dic (.inl upd_same) (r.view (View.of_same (same_upd hs)))
theorem pe_dictzip {a b : Expr} {x y : E} {p p2 pos pos2 : Pos} (hc : X.calm = true) (hg : Gl X "dict") (hm : X.mg "dict" = none) (hg2 : Gl X "zip") (hm2 : X.mg "zip" = none) (ha : PE X a (tE X.K Ph false x)) (hb : PE X b (tE X.K Ph false y))
    (hs : starEach [a, b] X.env = (false, eval a X.env) :: starEach [b] X.env) (hs2 : starEach [b] X.env = (false, eval b X.env) :: starEach [] X.env) (hpl : (backTo pos2 (starEach [b] X.env)).any (·.1) = false)
    (hse : starEach [Expr.Call (.Name "zip" p2) [a, b] [] pos2] X.env = [(false, eval (Expr.Call (.Name "zip" p2) [a, b] [] pos2) X.env)]) :
    PE X (.Call (.Name "dict" p) [.Call (.Name "zip" p2) [a, b] [] pos2] [] pos) (tE X.K Ph false (.blt .dictzip (.cons x (.cons y .nil)))) := by
  refine PE.mono (pe_dzA hc hg hm hg2 hm2 (pa_cons ha (pa_cons hb pa_nil hs2) hs) hs hpl hse) fun σ H Q q => ?_
  obtain ⟨env, Hs, d, ok, ev, q⟩ := q
  rw [evE] at ev
  split at ev
  · rename_i ds e0
    rw [evEs] at e0
    split at e0
    · rename_i d0 e1
      rw [evEs] at e0
      split at e0
      · rename_i ds1 e2
        split at e2
        · rename_i d1 e3
          rw [evEs] at e2
          cases e2
          cases e0
          replace ev : dictzipD [d0, d1] = some d := ev
          unfold dictzipD at ev
          split at ev
          · rename_i la lb heq
            cases heq
            obtain ⟨kds, e4, rfl⟩ := Option.map_eq_some_iff.mp ev
            refine ⟨env, Hs, _, ok, e1, fun v H1 Hs1 f1 r1 => ⟨env, Hs1, _, ok.fr f1, e3, fun v2 H2 Hs2 f2 r2 => ?_⟩⟩
            have r1' : Rp X.K Hs2 v (.list la) := f2.rp r1
            have r2' : Rp X.K Hs2 v2 (.list lb) := r2
            cases r1' with
            | lst s1 ra =>
              cases r2' with
              | lst s2 rb =>
                obtain ⟨kvs, kz, rk⟩ := zip_of ra rb e4
                refine ⟨_, _, _, _, kvs, rfl, f2.view.seqL s1, f2.view.seqL s2, kz, fun b hb => ?_⟩
                exact q _ _ _ ((f1.trans f2).trans (FrE.put f2.view hb)) (rp_dict (f2.view.none hb) (RpKV.merge rk .nil))
          · cases ev
        · cases e2
      · cases e0
    · cases e0
  · cases ev
end
end Wr
end

section
set_option Elab.async false
set_option linter.all false
set_option maxRecDepth 100000
set_option maxHeartbeats 4000000
/-! WrQ: the checker: does this text of the language mean that syntax? -/
namespace Wr
open PySem PySem.Spec PyProof.Rows L2

/-! a test whose truth the model reads part by part -/
mutual
def tstOk : E → Bool
  | .ife .. => false
  | .and es => tstOks es
  | .or es => tstOks es
  | .not a => tstOk a
  | _ => true
def tstOks : Es → Bool
  | .nil => true
  | .cons e es => tstOk e && tstOks es
end
structure Cc where
  N : List Str
  sc : Scope
  cells : Option (List (Str × NameKind))
def Cc.fn (c : Cc) (x : Str) : Bool := match c.cells with
  | none => true
  | some l => decide (l.lookup x = some .cell)
def Cc.vis (c : Cc) (x : Str) : Bool := match c.sc.names.lookup x with
  | some .local => true
  | some .cell => true
  | some .free => true
  | _ => false
def Cc.lcl (c : Cc) (x : Str) : Bool := match c.sc.names.lookup x with
  | some .local => true
  | _ => false
def Cc.loc (c : Cc) (x : Str) : Bool := match c.sc.names.lookup x with
  | some .local => true
  | some .cell => c.fn x
  | _ => false
def Cc.glb (c : Cc) (x : Str) : Bool := match c.sc.names.lookup x with
  | some .globalImplicit => true
  | _ => false
def okNm (x : Str) : Bool := !(x == ("__debug__" : Str)) && !(x == ("__classdict__" : Str))
def Cc.nm (c : Cc) (i : Nat) (x : Str) : Bool := decide (c.N[i]? = some x) && c.vis x && okNm x
def Cc.tgn (c : Cc) (i : Nat) (x : Str) : Bool := decide (c.N[i]? = some x) && c.loc x
def isStar : Expr → Bool
  | .Starred .. => true
  | _ => false
def isSet : Expr → Bool
  | .Set .. => true
  | _ => false
def isSlc : Expr → Bool
  | .Slice .. => true
  | _ => false
def isTup : Expr → Bool
  | .Tuple .. => true
  | _ => false
/-- a call without arguments, as super() is -/
def isCall : Expr → Bool
  | .Call _ args _ _ => args.isEmpty
  | _ => false
def isComp : Expr → Bool
  | .ListComp .. => true
  | .SetComp .. => true
  | .DictComp .. => true
  | _ => false
def constOk : PyData → Const → Bool
  | .none, .none => true
  | .bool a, .bool b => a == b
  | .int a, .int b => decide (a = b)
  | .str a, .str b => decide (a = b) && PyData.strOk a
  | _, _ => false
def cstOk (d : PyData) : Expr → Bool
  | .Constant k _ _ => constOk d k
  | .UnaryOp .USub (.Constant (.int i) _ _) _ => match d with
    | .int j => decide (j = -i)
    | _ => false
  | _ => false
def opOk : Operator → Bool
  | .Add | .Sub | .Mult | .FloorDiv | .Mod | .Pow => true
  | _ => false
/-- the block of a comprehension -/
def blkOk (c : Cc) (scope : Scope) (own : List Nat) : Bool :=
  decide (scope.kind = .function) && scope.names.all (fun y => decide (scope.names.lookup y.1 = some y.2)) && own.all (fun i => decide (i < c.N.length))
  && scope.names.all (fun y => !decide (y.2 = .free) || decide (c.sc.names.lookup y.1 = some .cell) || decide (c.sc.names.lookup y.1 = some .free))
  && scope.names.all (fun y => !(decide (y.2 = .local) || decide (y.2 = .cell)) || own.any (fun i => decide (c.N[i]? = some y.1)) || !decide (y.1 ∈ c.N))
def Cc.blk (c : Cc) (scope : Scope) : Cc := ⟨c.N, relS scope c.sc, some scope.names⟩

mutual
def chkT (c : Cc) : Tg → Expr → Bool
  | .nm i, e => match e with
    | .Name x _ => c.tgn i x
    | _ => false
  | .tp ts, e => match e with
    | .Tuple es _ _ => chkTs c ts es
    | _ => false
def chkTs (c : Cc) : Tgs → List Expr → Bool
  | .nil, es => match es with
    | [] => true
    | _ => false
  | .cons t ts, es => match es with
    | e :: r => chkT c t e && chkTs c ts r
    | _ => false
end
section
variable (B : List Str) (G : List (Str × Nat × Nat))
def Cc.bn (c : Cc) (x y : Str) : Bool := decide (x = y) && c.glb x && decide (x ∈ B)
/-- built-ins called by name, with shared arguments -/
def bltNm : Blt → Option String
  | .sorted1 => some "sorted"
  | .tuple1 => some "tuple"
  | .list1 => some "list"
  | .dict1 => some "dict"
  | .sum1 => some "sum"
  | .min1 => some "min"
  | .max1 => some "max"
  | .min2 => some "min"
  | .max2 => some "max"
  | .any1 => some "any"
  | .all1 => some "all"
  | .bool1 => some "bool"
  | .int1 => some "int"
  | _ => none
mutual
def chkE (c : Cc) : E → Expr → Bool
  | .var i, e => match e with
    | .Name x _ => c.nm i x
    | _ => false
  | .cst d, e => cstOk d e
  | .bin op a b, e => match e with
    | .BinOp x op' y _ => decide (op' = op) && opOk op && chkO c a x && chkO c b y
    | _ => false
  | .cat a b, e => match e with
    | .BinOp x op' y _ => decide (op' = .Add) && chkO c a x && chkO c b y
    | _ => false
  | .cmp op a b, e => match e with
    | .Compare x [op'] [y] _ => decide (op' = op) && chkO c a x && chkO c b y && !isSet y
    | _ => false
  | .chn op1 op2 a b d, e => match e with
    | .Compare x [op1', op2'] [y, z] _ => decide (op1' = op1) && decide (op2' = op2) && chkE c a x && chkE c b y && chkE c d z && !isSet z
    | _ => false
  | .and es, e => match e with
    | .BoolOp .And vs _ => chkEs c es vs && !vs.isEmpty
    | _ => false
  | .or es, e => match e with
    | .BoolOp .Or vs _ => chkEs c es vs && !vs.isEmpty
    | _ => false
  | .not a, e => match e with
    | .UnaryOp .Not x _ => chkE c a x
    | _ => false
  | .ife t a b, e => match e with
    | .IfExp z x y _ => chkE c t z && tstOk t && chkE c a x && chkE c b y
    | _ => false
  | .idx a b, e => match e with
    | .Subscript x y _ => chkO c a x && chkE c b y && !isSlc y
    | _ => false
  | .slc a lo hi, e => match e with
    | .Subscript x (.Slice l h none _) _ => chkO c a x && (match l with
        | none => isNone lo
        | some l => chkE c lo l && !isNone lo) && (match h with
        | none => isNone hi
        | some h => chkE c hi h && !isNone hi)
    | _ => false
  | .rev a, e => match e with
    | .Subscript x (.Slice none none (some (.UnaryOp .USub (.Constant (.int i) _ _) _)) _) _ => decide (i = 1) && chkO c a x
    | _ => false
  | .tup es, e => match e with
    | .Tuple xs _ _ => chkEs c es xs && decide (es.len ≤ 1000)
    | _ => false
  | .lst es, e => match e with
    | .List xs _ => chkEs c es xs && decide (es.len ≤ 1000)
    | _ => false
  | .dc0, e => match e with
    | .Dict [] [] _ => true
    | _ => false
  | .dc1 k v, e => match e with
    | .Dict [some x] [y] _ => chkE c k x && chkE c v y
    | _ => false
  | .call f es, e => match e with
    | .Call (.Name x _) xs [] _ => chkEs c es xs && !xs.isEmpty && c.glb x && okNm x && decide ((x, f, es.len) ∈ G)
    | _ => false
  | .len a, e => match e with
    | .Call (.Name x _) [y] [] _ => c.bn B x "len" && chkO c a y && !isStar y
    | _ => false
  | .blt b es, e => match b with
    | .sortitems => match e with
      | .Call (.Name x _) [.Call (.Attribute o at' ap) [] [] mp] [] _ => match es with
        | .cons i .nil => c.bn B x "sorted" && decide (at' = "items") && chkE c i o && !isCall o && ap.endLine == mp.line
        | _ => false
      | _ => false
    | .listrng => match e with
      | .Call (.Name x _) [.Call (.Name y _) [z] [] _] [] _ => match es with
        | .cons i .nil => c.bn B x "list" && c.bn B y "range" && chkE c i z && !isStar z
        | _ => false
      | _ => false
    | .lenset => match e with
      | .Call (.Name x _) [.Call (.Name y _) [z] [] _] [] _ => match es with
        | .cons i .nil => c.bn B x "len" && c.bn B y "set" && chkE c i z && !isStar z
        | _ => false
      | _ => false
    | .sortset => match e with
      | .Call (.Name x _) [.Call (.Name y _) [z] [] _] [] _ => match es with
        | .cons i .nil => c.bn B x "sorted" && c.bn B y "set" && chkE c i z && !isStar z
        | _ => false
      | _ => false
    | .listitems => match e with
      | .Call (.Name x _) [.Call (.Attribute o at' ap) [] [] mp] [] _ => match es with
        | .cons i .nil => c.bn B x "list" && decide (at' = "items") && chkE c i o && !isCall o && ap.endLine == mp.line
        | _ => false
      | _ => false
    | .dictzip => match e with
      | .Call (.Name x _) [.Call (.Name y _) [z, t] [] _] [] _ => match es with
        | .cons i (.cons j .nil) => c.bn B x "dict" && c.bn B y "zip" && chkE c i z && chkE c j t && !isStar z && !isStar t
        | _ => false
      | _ => false
    | b => match bltNm b with
      | some n => match e with
        | .Call (.Name x _) xs [] _ => c.bn B x (Str.ofString n) && chkEs c es xs && !xs.isEmpty
        | _ => false
      | none => false
  | .isi a ts, e => match e with
    | .Call (.Name x _) [y, z] [] _ => c.bn B x "isinstance" && chkO c a y && !isStar y && (match ts, z with
        | [t], .Name n _ => c.bn B n (Str.ofString (tyS t))
        | [t, u], .Tuple [.Name n _, .Name m _] _ _ => c.bn B n (Str.ofString (tyS t)) && c.bn B m (Str.ofString (tyS u))
        | _, _ => false)
    | _ => false
  | .get a k x, e => match e with
    | .Call (.Attribute o at' ap) [y, z] [] mp => decide (at' = "get") && chkO c a o && chkE c k y && chkE c x z && !isCall o && !isStar y && !isStar z && ap.endLine == mp.line
    | _ => false
  | .cnt a x, e => match e with
    | .Call (.Attribute o at' ap) [y] [] mp => decide (at' = "count") && chkO c a o && chkE c x y && !isCall o && !isStar y && ap.endLine == mp.line
    | _ => false
  | .cpr el tg it cs, e => match e with
    | .ListComp x [⟨t, i, ifs, 0⟩] scope _ => chkI c it t i && !isSet i && blkOk c scope (slotsT tg) && chkT (c.blk scope) tg t && chkE (c.blk scope) el x && chkEs (c.blk scope) cs ifs && decide (ifs.length ≤ 1) && tstOks cs
    | _ => false
  | .cp2 el tg it tg2 it2, e => match e with
    | .ListComp x [⟨t, i, [], 0⟩, ⟨t2, i2, [], 0⟩] scope _ => chkI c it t i && !isSet i && !isSet i2 && noFz it2 && blkOk c scope (slotsT tg ++ slotsT tg2) && chkT (c.blk scope) tg t && chkT (c.blk scope) tg2 t2 && chkI (c.blk scope) it2 t2 i2 && chkE (c.blk scope) el x
    | _ => false
  | .dcp k v tg it, e => match e with
    | .DictComp x y [⟨t, i, [], 0⟩] scope _ => chkI c it t i && !isSet i && blkOk c scope (slotsT tg) && chkT (c.blk scope) tg t && chkE (c.blk scope) k x && chkE (c.blk scope) v y
    | _ => false
  | .tin neg i k, e => match e with
    | .Compare y [op] [.Name x _] _ => decide (op = inOp neg) && c.nm i x && chkE c k y
    | _ => false
  | .tgt i k x, e => match e with
    | .Call (.Attribute (.Name o _) at' ap) [y, z] [] mp => decide (at' = "get") && c.nm i o && chkE c k y && chkE c x z && !isStar y && !isStar z && ap.endLine == mp.line
    | _ => false
  | .tsr i, e => match e with
    | .Call (.Name x _) [.Name y _] [] _ => c.bn B x "sorted" && c.nm i y
    | _ => false
  | .tmn i, e => match e with
    | .Call (.Name x _) [.Call (.Attribute (.Name y _) at' ap) [] [] mp] [] _ => c.bn B x "min" && decide (at' = "values") && c.nm i y && ap.endLine == mp.line
    | _ => false
  | .tmx i, e => match e with
    | .Call (.Name x _) [.Call (.Attribute (.Name y _) at' ap) [] [] mp] [] _ => c.bn B x "max" && decide (at' = "values") && c.nm i y && ap.endLine == mp.line
    | _ => false
  | .tne i, e => match e with
    | .Compare (.Name x _) [.NotEq] [.Dict [] [] _] _ => c.nm i x
    | _ => false
def chkEs (c : Cc) : Es → List Expr → Bool
  | .nil, xs => match xs with
    | [] => true
    | _ => false
  | .cons e es, xs => match xs with
    | x :: r => chkE c e x && !isStar x && chkEs c es r
    | _ => false
def chkO (c : Cc) : O → Expr → Bool
  | .ex e, x => chkE c e x
  | .bo i, e => match e with
    | .Name x _ => c.nm i x
    | _ => false
def chkI (c : Cc) : I → Expr → Expr → Bool
  | .vr i, _, e => match e with
    | .Name x _ => c.nm i x
    | _ => false
  | .val e, _, x => chkE c e x
  | .rg1 b, _, e => match e with
    | .Call (.Name x _) [y] [] _ => c.bn B x "range" && chkE c b y && !isStar y
    | _ => false
  | .rg2 a b, _, e => match e with
    | .Call (.Name x _) [y, z] [] _ => c.bn B x "range" && chkE c a y && chkE c b z && !isStar y && !isStar z
    | _ => false
  | .enu a, t, e => match e with
    | .Call (.Name x _) [y] [] _ => c.bn B x "enumerate" && chkE c a y && !isStar y && isTup t
    | _ => false
  | .zip a b, t, e => match e with
    | .Call (.Name x _) [y, z] [] _ => c.bn B x "zip" && chkE c a y && chkE c b z && !isStar y && !isStar z && isTup t
    | _ => false
  | .di i, t, e => match e with
    | .Call (.Attribute (.Name x _) at' ap) [] [] mp => decide (at' = "items") && c.nm i x && isTup t && ap.endLine == mp.line
    | _ => false
end
/-! statements -/
def isShr : S → Bool
  | .shr _ => true
  | _ => false
def isCompI : E → Bool
  | .cpr .. => true
  | .cp2 .. => true
  | .dcp .. => true
  | _ => false
mutual
def chkS (c : Cc) : S → Stmt → Bool
  | .asg i e, st => match st with
    | .Assign [.Name x _] v _ => c.tgn i x && chkE B G c e v && (isCompI e || !isComp v)
    | _ => false
  | .unp tg e, st => match st with
    | .Assign [t] v _ => isTup t && chkT c tg t && chkE B G c e v && !isComp v && !isTup v
    | _ => false
  | .par is es, st => match st with
    | .Assign [.Tuple [.Name x px, .Name y py] _ _] (.Tuple [a, b] _ _) _ => match is with
      | [i, j] => match es with
        | .cons e1 (.cons e2 .nil) => c.tgn i x && c.tgn j y && decide (i ≠ j) && chkE B G c e1 a && chkE B G c e2 b && !isStar a && !isStar b
            && (!(c.lcl x && c.lcl y && py.line == px.line) || (foldedForSure 8 a && foldedForSure 8 b) || !(constantsAlone 8 a && constantsAlone 8 b))
        | _ => false
      | _ => false
    | _ => false
  | .six i k v, st => match st with
    | .Assign [.Subscript (.Name x _) ke _] ve _ => c.nm i x && chkE B G c k ke && chkE B G c v ve && !isSlc ke && !isComp ve
    | _ => false
  | .app i e, st => match st with
    | .Expr (.Call (.Attribute (.Name x _) m ap) [y] [] cp) _ => decide (m = "append") && c.nm i x && chkE B G c e y && !isStar y && ap.endLine == cp.line
    | _ => false
  | .upd i e, st => match st with
    | .Expr (.Call (.Attribute (.Name x _) m ap) [y] [] cp) _ => decide (m = "update") && c.nm i x && chkE B G c e y && !isStar y && ap.endLine == cp.line
    | _ => false
  | .rmv i e, st => match st with
    | .Expr (.Call (.Attribute (.Name x _) m ap) [y] [] cp) _ => decide (m = "remove") && c.nm i x && chkE B G c e y && !isStar y && ap.endLine == cp.line
    | _ => false
  | .apop i j k es, st => match st with
    | .Expr (.Call (.Attribute (.Name x _) m ap) [.Tuple (.Call (.Attribute (.Name y _) m2 ap2) [ke] [] cp2 :: xs) _ _] [] cp) _ =>
      decide (m = "append") && decide (m2 = "pop") && c.nm i x && c.nm j y && chkE B G c k ke && !isStar ke && chkEs B G c es xs && decide (es.len ≤ 999) && ap.endLine == cp.line && ap2.endLine == cp2.line
    | _ => false
  | .ret e, st => match st with
    | .Return (some v) _ => chkE B G c e v
    | _ => false
  | .rto i, st => match st with
    | .Return (some (.Name x _)) _ => c.nm i x
    | _ => false
  | .ife t a b, st => match st with
    | .If z xs ys _ => chkE B G c t z && tstOk t && chkSs c a xs && chkSs c b ys
    | _ => false
  | .whl t b, st => match st with
    | .While z xs [] _ => chkE B G c t z && tstOk t && chkSs c b xs
    | _ => false
  | .for tg it b, st => match st with
    | .For t i xs [] _ => chkI B G c it t i && !isSet i && chkT c tg t && chkSs c b xs
    | _ => false
  | .shr _, _ => false
  | .tnw i, st => match st with
    | .Assign [.Name x _] (.Dict [] [] _) _ => c.tgn i x
    | _ => false
  | .tn1 i k v, st => match st with
    | .Assign [.Name x _] (.Dict [some ke] [ve] _) _ => c.tgn i x && chkE B G c k ke && chkE B G c v ve
    | _ => false
  | .tmv i j, st => match st with
    | .Assign [.Name x _] (.Name y _) _ => c.tgn i x && c.nm j y
    | _ => false
  | .tcp i j, st => match st with
    | .Assign [.Name x _] (.Call (.Name z _) [.Name y _] [] _) _ => c.tgn i x && c.nm j y && c.bn B z "dict"
    | _ => false
  | .tpt i k v, st => match st with
    | .Assign [.Subscript (.Name x _) ke _] ve _ => c.nm i x && chkE B G c k ke && chkE B G c v ve && !isComp ve
    | _ => false
  | .tfk tg j b, st => match st with
    | .For t (.Name y _) xs [] _ => c.nm j y && chkT c tg t && chkSs c b xs
    | _ => false
  | .tfi tg j b, st => match st with
    | .For t (.Call (.Attribute (.Name y _) at' ap) [] [] mp) xs [] _ => decide (at' = "items") && c.nm j y && isTup t && ap.endLine == mp.line && chkT c tg t && chkSs c b xs
    | _ => false
def chkSs (c : Cc) : Ss → List Stmt → Bool
  | .nil, xs => match xs with
    | [] => true
    | _ => false
  | .cons s ss, xs => if isShr s then chkSs c ss xs else match xs with
    | x :: r => chkS c s x && chkSs c ss r
    | _ => false
end
end
end Wr
end

section
set_option Elab.async false
set_option linter.all false
set_option maxRecDepth 100000
set_option maxHeartbeats 4000000
/-! WrR: the checker is sound: side conditions, expressions. -/
namespace Wr
open PySem PySem.Spec PyProof.Rows L2
variable [Wld]
/-! ### what is seen of the text -/
theorem star_cons {e : Expr} {es : List Expr} {env : Env} (h : isStar e = false) : starEach (e :: es) env = (false, eval e env) :: starEach es env := by
  cases e <;> first | rfl | cases h
theorem fsi {e : Expr} {env : Env} (h : isSet e = false) (x : Value) : foldedSetIterable e env x = pure x := by
  cases e <;> first | rfl | cases h
theorem abase {o : Expr} {m : Str} {env : Env} (h : isCall o = false) : attributeBase o m env (eval o env) = eval o env := by
  cases o
  case Call f args kw p =>
    cases args with
    | nil => cases h
    | cons a as => cases f <;> rfl
  all_goals rfl
theorem plainIx {b : Expr} (h : isSlc b = false) : PlainIx b := by
  cases b <;> first | exact fun _ _ => rfl | cases h
theorem bim {op : CmpOp} {b : Expr} (h : isSet b = false) : behindInMarks op b = false := by
  cases b <;> first | rfl | cases h
theorem sw_no {v : Expr} {t : Option Expr} {l : Nat} {env : Env} (h : isComp v = false) : swapsWith v t l env = pure false := by
  cases v <;> first | rfl | cases h
theorem back_any {pos : Pos} {env : Env} : ∀ {es : List Expr}, (es.all fun e => !isStar e) = true → (backTo pos (starEach es env)).any (·.1) = false
  | [], _ => rfl
  | e :: es, h => by
    rw [List.all_cons, Bool.and_eq_true] at h
    rw [star_cons (by simpa using h.1)]
    have := back_any (pos := pos) (env := env) h.2
    unfold backTo at this ⊢
    rw [List.map_cons, List.any_cons, this]
    rfl
structure FnAt (Ph : Nat → List PyData → Option PyData) (fr : Nat → Bool) (X : Cx) (x : Str) (f np : Nat) : Prop where
  ex : ∃ (k : Nat) (a : Addr) (fd : FuncData) (ps : List Str), FnOk X.prog X.w X.K X.mg X.base CX0 k a fd ps (spF X.K Ph (fr f) np f) ∧ Room k X.A ∧ X.mg x = some (.ref a) ∧ PySem.W.keepIn X.K (.ref a) = true ∧ Binds X.K fd ps []
structure OkX (Ph : Nat → List PyData → Option PyData) (fr : Nat → Bool) (B : List Str) (G : List (Str × Nat × Nat)) (X : Cx) (c : Cc) : Prop where
  N : X.N = c.N
  sc : X.env.scope = c.sc
  kd : c.sc.kind = .function
  nd : c.N.Nodup
  calm : X.calm = true
  fn : ∀ x, c.fn x = true → X.fn x = true
  un : X.A.units + 66 < cLine
  gl : ∀ x f np, (x, f, np) ∈ G → FnAt Ph fr X x f np
  bl : ∀ x ∈ B, X.mg x = none
  pP : Wld.P = X.prog
  pw : Wld.w = X.w
section
variable {Ph : Nat → List PyData → Option PyData} {fr : Nat → Bool} {B : List Str} {G : List (Str × Nat × Nat)} {X : Cx} {c : Cc}
theorem OkX.vis (ok : OkX Ph fr B G X c) {x : Str} (h : c.vis x = true) : Vis X.env.scope x := by
  unfold Cc.vis at h
  unfold Vis
  rw [ok.sc]
  split at h
  · exact .inl (by assumption)
  · exact .inr (.inl (by assumption))
  · exact .inr (.inr (by assumption))
  · cases h
theorem OkX.lcl (ok : OkX Ph fr B G X c) {x : Str} (h : c.lcl x = true) : X.env.scope.names.lookup x = some .local := by
  unfold Cc.lcl at h
  rw [ok.sc]
  split at h
  · assumption
  · cases h
theorem OkX.loc (ok : OkX Ph fr B G X c) {x : Str} (h : c.loc x = true) : Loc X.env.scope x ∧ (X.fn x = true ∨ X.env.scope.names.lookup x = some .local) := by
  unfold Cc.loc at h
  unfold L2.Loc
  rw [ok.sc]
  split at h
  · rename_i e
    exact ⟨.inl e, .inr e⟩
  · rename_i e
    exact ⟨.inr e, .inl (ok.fn x h)⟩
  · cases h
theorem OkX.glb (ok : OkX Ph fr B G X c) {x : Str} (h : c.glb x = true) : Gl X x := by
  unfold Cc.glb at h
  show X.env.scope.names.lookup x = some .globalImplicit
  rw [ok.sc]
  split at h
  · assumption
  · cases h
theorem OkX.hw (ok : OkX Ph fr B G X c) : HasW X := ⟨ok.pP, ok.pw⟩
structure NmOk (X : Cx) (i : Nat) (x : Str) : Prop where
  ix : X.N[i]? = some x
  vis : Vis X.env.scope x
  db : (x == ("__debug__" : Str)) = false
  cd : (x == ("__classdict__" : Str)) = false
theorem OkX.nm (ok : OkX Ph fr B G X c) {i : Nat} {x : Str} (h : c.nm i x = true) : NmOk X i x := by
  unfold Cc.nm okNm at h
  simp only [Bool.and_eq_true, decide_eq_true_eq, Bool.not_eq_true'] at h
  exact ⟨by rw [ok.N]; exact h.1.1, ok.vis h.1.2, h.2.1, h.2.2⟩
theorem OkX.bn (ok : OkX Ph fr B G X c) {x y : Str} (h : c.bn B x y = true) : x = y ∧ Gl X x ∧ X.mg x = none := by
  unfold Cc.bn at h
  simp only [Bool.and_eq_true, decide_eq_true_eq] at h
  exact ⟨h.1.1, ok.glb h.1.2, ok.bl x h.2⟩
theorem OkX.nd' (ok : OkX Ph fr B G X c) : X.N.Nodup := by rw [ok.N]; exact ok.nd
/-! ### blocks -/
theorem own_map (N : List Str) (l : List Nat) : (l.map fun i => (N.getD i (default : Str), i)).map (·.2) = l := by
  rw [List.map_map]
  exact List.map_id l
theorem OkX.blkOk (ok : OkX Ph fr B G X c) {scope : Scope} {own : List Nat} (h : blkOk c scope own = true) : BlkOk X.N X.env.scope scope (own.map fun i => (c.N.getD i (default : Str), i)) := by
  unfold Wr.blkOk at h
  simp only [Bool.and_eq_true, List.all_eq_true, decide_eq_true_eq, Bool.or_eq_true, Bool.not_eq_true', decide_eq_false_iff_not, List.any_eq_true, Bool.or_eq_false_iff] at h
  obtain ⟨⟨⟨⟨h1, h2⟩, h3⟩, h4⟩, h5⟩ := h
  rw [ok.N, ok.sc]
  refine ⟨h1, h2, fun p hp => ?_, fun y hy e => ?_, fun y hy e => ?_⟩
  · obtain ⟨i, hi, rfl⟩ := List.mem_map.mp hp
    have := h3 i hi
    rw [List.getElem?_eq_getElem this, List.getD_eq_getElem?_getD, List.getElem?_eq_getElem this]
    rfl
  · rcases h4 y hy with (h | h) | h
    · exact absurd e h
    · exact .inl h
    · exact .inr h
  · rcases h5 y hy with (h | h) | h
    · rcases e with e | e
      · exact absurd e h.1
      · exact absurd e h.2
    · obtain ⟨i, hi, e'⟩ := h
      refine .inl (List.mem_map.mpr ⟨(c.N.getD i (default : Str), i), List.mem_map.mpr ⟨i, hi, rfl⟩, ?_⟩)
      show c.N.getD i (default : Str) = y.1
      rw [List.getD_eq_getElem?_getD, e']
      rfl
    · exact .inr h
theorem OkX.blk (ok : OkX Ph fr B G X c) {scope : Scope} {own : List Nat} (h : Wr.blkOk c scope own = true) (s : Shared) (H : Hp) (C : Addr) (cl : List (Str × Addr)) (fp : List Addr) : OkX Ph fr B G (X.blk s H scope (compEnvC scope cl C X.env) fp) (c.blk scope) := by
  have hk : scope.kind = .function := by
    unfold Wr.blkOk at h
    simp only [Bool.and_eq_true, decide_eq_true_eq] at h
    exact h.1.1.1.1
  refine ⟨ok.N, ?_, hk, ok.nd, ok.calm, fun x hx => ?_, ok.un, fun x f np hm => ⟨(ok.gl x f np hm).ex⟩, ok.bl, ok.pP, ok.pw⟩
  · show relS scope X.env.scope = relS scope c.sc
    rw [ok.sc]
  · show (scope.names.lookup x == some .cell) = true
    unfold Cc.fn Cc.blk at hx
    simpa using hx
/-! ### targets -/
def lenTs : Tgs → Nat
  | .nil => 0
  | .cons _ ts => lenTs ts + 1
theorem bindTs_len : ∀ {ts : Tgs} {env env' : Ev} {ds : List PyData}, bindTs env ts ds = some env' → ds.length = lenTs ts
  | .nil, _, _, [], _ => rfl
  | .nil, _, _, _ :: _, h => by rw [bindTs] at h; cases h
  | .cons t ts, _, _, [], h => by rw [bindTs] at h; cases h
  | .cons t ts, _, _, d :: ds, h => by
    rw [bindTs] at h
    split at h
    · rw [List.length_cons, bindTs_len h]
      rfl
    · cases h
mutual
theorem sndT (ok : OkX Ph fr B G X c) : ∀ (t : Tg) (e : Expr), chkT c t e = true → PG X e (gT X.K t)
  | .nm i, e, h => by
    unfold chkT at h
    split at h
    · unfold Cc.tgn at h
      simp only [Bool.and_eq_true, decide_eq_true_eq] at h
      exact pg_nm ok.nd' (by rw [ok.N]; exact h.1) (ok.loc h.2).1 (ok.loc h.2).2
    · cases h
  | .tp ts, e, h => by
    unfold chkT at h
    split at h
    · rename_i es k p
      obtain ⟨h1, h2, h3⟩ := sndTs ok ts es h
      exact pg_tp ok.calm h1 h2 (fun env ds env' e => by rw [h3]; exact bindTs_len e)
    · cases h
theorem sndTs (ok : OkX Ph fr B G X c) : ∀ (t : Tgs) (es : List Expr), chkTs c t es = true → PGs X es (gTs X.K t) ∧ (assignEach es X.env).findIdx? (·.1) = none ∧ (assignEach es X.env).length = lenTs t
  | .nil, es, h => by
    unfold chkTs at h
    split at h
    · exact ⟨pgs_nil', rfl, rfl⟩
    · cases h
  | .cons t ts, es, h => by
    unfold chkTs at h
    split at h
    · rename_i e r
      simp only [Bool.and_eq_true] at h
      have h1 := sndT ok t e h.1
      obtain ⟨g1, g2, g3⟩ := sndTs ok ts r h.2
      have key : assignEach (e :: r) X.env = (false, assign e X.env) :: assignEach r X.env := by
        have : isStar e = false := by
          cases t <;> (have h1 := h.1; unfold chkT at h1; split at h1) <;> first | rfl | cases h1
        cases e <;> first | rfl | cases this
      refine ⟨pgs_cons' h1 g1 (by rw [key]; rfl), ?_, ?_⟩
      · rw [key, List.findIdx?_cons]
        simp only [Bool.false_eq_true, if_false]
        rw [g2]
        rfl
      · rw [key, List.length_cons, g3]
        rfl
    · cases h
end
end
end Wr
end

section
set_option Elab.async false
set_option linter.all false
set_option maxRecDepth 100000
set_option maxHeartbeats 4000000
/-! WrS: the checker is sound: expressions. -/
namespace Wr
open PySem PySem.Spec PyProof.Rows L2
variable [Wld]
theorem mulT_one (l : Addr) (items : Array Value) (n : Nat) (dd : Option Addr) (sl : Array (Option Value)) (x : Int) (u : Tok) (k0 : (decide (x < -(2 ^ 63)) || decide (x ≥ 2 ^ 63)) = false) (k1 : (items.isEmpty || x == 1) = true) :
    Meets (Builtin.«tuple.__mul__» ⟨[.ref l, .int x u], []⟩) (fun _ R s => s.heap.get? l = some { cls := .type "tuple", dict := dd, data := .seq items n, slots := sl } ∧ R (.ok (.ret (Value.ref l))) s) :=
  .of_wp fun prog w A R s h => by
    obtain ⟨hp, g, d, tk, os⟩ := s
    obtain ⟨hl, h⟩ := h
    have f1 := AutoSeq1.idx_int
    wp_walk using wpAny_loadPart' hl
    repeat (first
      | (refine wpAny_ite_false (decide_eq_false (by rw [k0]; exact Bool.false_ne_true)) ?_; wp_walk using wpAny_loadPart' hl)
      | (refine wpAny_ite_true (decide_eq_true k1) ?_; wp_walk using wpAny_loadPart' hl))
    exact ⟨_, rfl, h⟩
theorem mulT_zero (l : Addr) (items : Array Value) (n : Nat) (dd : Option Addr) (sl : Array (Option Value)) (x : Int) (u : Tok) (k0 : (decide (x < -(2 ^ 63)) || decide (x ≥ 2 ^ 63)) = false) (k1 : (items.isEmpty || x == 1) = false) (k2 : (decide (x ≤ 0) || items.isEmpty) = true) :
    Meets (Builtin.«tuple.__mul__» ⟨[.ref l, .int x u], []⟩) (fun _ R s => s.heap.get? l = some { cls := .type "tuple", dict := dd, data := .seq items n, slots := sl } ∧
      R (.ok (.ret (Value.ref s.heap.objs.size))) { s with heap := s.heap.push { cls := Value.type "tuple", data := Data.seq #[] }, toks := s.toks }) :=
  .of_wp fun prog w A R s h => by
    obtain ⟨hp, g, d, tk, os⟩ := s
    obtain ⟨hl, h⟩ := h
    have f1 := AutoSeq1.idx_int
    wp_walk using wpAny_loadPart' hl
    repeat (first
      | (refine wpAny_ite_false (decide_eq_false (by rw [k0]; exact Bool.false_ne_true)) ?_; wp_walk using wpAny_loadPart' hl)
      | (refine wpAny_ite_false (decide_eq_false (by rw [k1]; exact Bool.false_ne_true)) ?_; wp_walk using wpAny_loadPart' hl)
      | (refine wpAny_ite_true (decide_eq_true k2) ?_; wp_walk using wpAny_loadPart' hl))
    exact ⟨_, rfl, h⟩
/-- tuple * int, 0 to 1000 -/
theorem op_tupR {X : Cx} : OpR X (binaryOp .Mult) (fun x y H Q => ∃ l k xs, x = .ref l ∧ y = .int k ∧ SqT X.K H l xs ∧ 0 ≤ k ∧ k ≤ 1000 ∧ xs.length ≤ 1000 ∧ (xs = [] ∨ k = 1 → Q (.ref l) H) ∧ (xs ≠ [] → k ≠ 1 → ∀ p, H p = none → Q (.ref p) (upd H p (.tup (List.replicate k.toNat xs).flatten)))) := by
  intro pins s σ H x y v u Q I rx ry h
  obtain ⟨l, k, xs, rfl, rfl, hT, h0, h1, hz, q1, q2⟩ := h
  by_cases big : xs ≠ [] ∧ 2 ≤ k
  · exact op_repT pins s σ H _ _ v u Q I rx ry ⟨l, k, xs, rfl, rfl, hT, big.1, big.2, h1, hz, q2 big.1 (by omega)⟩
  cases rx
  obtain ⟨t, rfl⟩ := ry
  obtain ⟨its, r, ⟨⟨cls, dd, data, sl⟩, ho, hc, n, hd⟩, hs⟩ := I.tuple hT
  simp only at hc hd
  subst hc hd
  have ln : its.length = xs.length := r.length.symm
  have k0 : (decide (k < -(2 ^ 63)) || decide (k ≥ 2 ^ 63)) = false := by
    rw [decide_eq_false (show ¬ k < -(2 ^ 63) by omega), decide_eq_false (show ¬ k ≥ 2 ^ 63 by omega)]
    rfl
  have ha : its.toArray.isEmpty = xs.isEmpty := by
    cases its <;> cases xs <;> first | rfl | (simp at ln)
  by_cases one : xs = [] ∨ k = 1
  · have k1 : (its.toArray.isEmpty || k == 1) = true := by
      rw [ha]
      rcases one with e | e
      · subst e; rfl
      · subst e; simp
    refine wpAny_binaryOp_repeat_ref (T := "tuple") (U := "int") (by decide) ⟨_, ho, rfl⟩ (fun s' => typeIs_int s' k t) noFill_tuple_mul F.fills_int_mul F.slot_int_rmul repeat_tuple F.slot_int_index.lookup ?_
    refine call_meets F.slot_int_rmul (typeIs_int s k t) F.entry_int_rmul (F.args_int_rmul_2 _ _) (int_rmul_tuple k t l its.toArray n dd sl) ⟨ho, rfl, ⟨_, ho, rfl⟩, ?_⟩
    refine call_meets F.slot_tuple_mul ⟨_, ho, rfl⟩ F.entry_tuple_mul (F.args_tuple_mul_2 _ _) (mulT_one l its.toArray n dd sl k t k0 k1) ⟨ho, ?_⟩
    exact ⟨.ref l, H, I, rfl, q1 one⟩
  · have ne : xs ≠ [] := fun e => one (.inl e)
    have n1 : k ≠ 1 := fun e => one (.inr e)
    have kz : k = 0 := by
      have : ¬ 2 ≤ k := fun e => big ⟨ne, e⟩
      omega
    subst kz
    have ie : xs.isEmpty = false := by cases xs <;> first | rfl | exact absurd rfl ne
    have k1 : (its.toArray.isEmpty || (0 : Int) == 1) = false := by rw [ha, ie]; rfl
    have k2 : (decide ((0 : Int) ≤ 0) || its.toArray.isEmpty) = true := by rw [ha, ie]; rfl
    refine wpAny_binaryOp_repeat_ref (T := "tuple") (U := "int") (by decide) ⟨_, ho, rfl⟩ (fun s' => typeIs_int s' 0 t) noFill_tuple_mul F.fills_int_mul F.slot_int_rmul repeat_tuple F.slot_int_index.lookup ?_
    refine call_meets F.slot_int_rmul (typeIs_int s 0 t) F.entry_int_rmul (F.args_int_rmul_2 _ _) (int_rmul_tuple 0 t l its.toArray n dd sl) ⟨ho, rfl, ⟨_, ho, rfl⟩, ?_⟩
    refine call_meets F.slot_tuple_mul ⟨_, ho, rfl⟩ F.entry_tuple_mul (F.args_tuple_mul_2 _ _) (mulT_zero l its.toArray n dd sl 0 t k0 k1 k2) ⟨ho, ?_⟩
    have hn := q2 ne n1 s.heap.objs.size (I.hok.fresh (Nat.le_refl _))
    refine ⟨.ref s.heap.objs.size, _, I.laid (t' := s.toks) (o := .tup []) (fun b ob e => Heap.get?_push_of_some _ e) (Nat.le_refl _) ?_, rfl, hn⟩
    exact ⟨Nat.zero_le _, [], .nil, IsTup.new _ _⟩
section
variable {Ph : Nat → List PyData → Option PyData} {fr : Nat → Bool} {B : List Str} {G : List (Str × Nat × Nat)}
theorem op_bin {X : Cx} : ∀ {op : Operator}, opOk op = true → OpR X (binaryOp op) (rBin X.K op)
  | .Add, _ => op_add'
  | .Sub, _ => op_sub'
  | .Mult, _ => op_mulW op_tupR
  | .FloorDiv, _ => op_fdiv'
  | .Mod, _ => op_mod'
  | .Pow, _ => op_pow'
theorem pe_const {X : Cx} {d : PyData} {e : Expr} (h : cstOk d e = true) : PE X e (tE X.K Ph false (.cst d)) := by
  unfold cstOk at h
  split at h
  · rename_i k j p
    unfold constOk at h
    split at h
    · exact pe_cst pe_non (fun _ => .non)
    · rw [beq_iff_eq] at h
      subst h
      exact pe_cst pe_bl (fun _ => .bl _)
    · rw [decide_eq_true_eq] at h
      subst h
      exact pe_cst pe_int (fun _ => .int _)
    · simp only [Bool.and_eq_true, decide_eq_true_eq] at h
      obtain ⟨rfl, h⟩ := h
      exact pe_cst pe_str (fun _ => .str _ h)
    · cases h
  · split at h
    · rw [decide_eq_true_eq] at h
      subst h
      exact pe_negc (k := 0)
    · cases h
  · cases h
theorem blt_plain {X : Cx} {c : Cc} (ok : OkX Ph fr B G X c) {b : Blt} {n : String} (hb : bltNm b = some n) {x : Str} {e : Expr} {es : List Expr} {xs : Es} {p pos : Pos} (hx : x = Str.ofString n) (hg : Gl X x) (hm : X.mg x = none) (ha : PA X (e :: es) (tEs X.K Ph xs))
    (he : starEach (e :: es) X.env = (false, eval e X.env) :: starEach es X.env) (hpl : (backTo pos (starEach es X.env)).any (·.1) = false) : PE X (.Call (.Name x p) (e :: es) [] pos) (tE X.K Ph (bfr b) (.blt b xs)) := by
  subst hx
  cases b <;> simp only [bltNm, Option.some.injEq, reduceCtorEq] at hb
  all_goals subst hb
  · exact pe_bltB (id := "sorted") (cb_sorted ok.un ok.calm) hg hm (by decide +kernel) ha (by decide +kernel) (by decide +kernel) he hpl
  · exact pe_bltT (id := "tuple") cb_tuple hg hm (by decide +kernel) ha (by decide +kernel) (by decide +kernel) he hpl
  · exact pe_bltT (id := "list") (cb_list ok.calm) hg hm (by decide +kernel) ha (by decide +kernel) (by decide +kernel) he hpl
  · exact pe_bltT (id := "dict") (cb_dict ok.calm) hg hm (by decide +kernel) ha (by decide +kernel) (by decide +kernel) he hpl
  · exact pe_bltB (id := "sum") (cb_sum ok.calm) hg hm (by decide +kernel) ha (by decide +kernel) (by decide +kernel) he hpl
  · exact pe_bltB (id := "min") (cb_min1 ok.calm) hg hm (by decide +kernel) ha (by decide +kernel) (by decide +kernel) he hpl
  · exact pe_bltB (id := "max") (cb_max1 ok.calm) hg hm (by decide +kernel) ha (by decide +kernel) (by decide +kernel) he hpl
  · exact pe_bltB (id := "min") (cb_min2 ok.calm) hg hm (by decide +kernel) ha (by decide +kernel) (by decide +kernel) he hpl
  · exact pe_bltB (id := "max") (cb_max2 ok.calm) hg hm (by decide +kernel) ha (by decide +kernel) (by decide +kernel) he hpl
  · exact pe_bltB (id := "any") (cb_any ok.calm) hg hm (by decide +kernel) ha (by decide +kernel) (by decide +kernel) he hpl
  · exact pe_bltB (id := "all") (cb_all ok.calm) hg hm (by decide +kernel) ha (by decide +kernel) (by decide +kernel) he hpl
  · exact pe_bltT (id := "bool") cb_bool hg hm (by decide +kernel) ha (by decide +kernel) (by decide +kernel) he hpl
  · exact pe_bltT (id := "int") cb_int hg hm (by decide +kernel) ha (by decide +kernel) (by decide +kernel) he hpl
/-- an expression, as a value and as a test -/
structure SE (Ph : Nat → List PyData → Option PyData) (fr : Nat → Bool) (X : Cx) (ir : E) (e : Expr) : Prop where
  v : PE X e (tE X.K Ph (frs fr ir) ir)
  t : tstOk ir = true → PT X e (tT X.K Ph ir)
theorem SE.s {X : Cx} {ir : E} {e : Expr} (h : SE Ph fr X ir e) : PE X e (tE X.K Ph false ir) := pe_shared h.v
/-- .. whose truth is its value's -/
theorem SE.mk' {X : Cx} {ir : E} {e : Expr} (h : PE X e (tE X.K Ph (frs fr ir) ir)) (he : ∀ whole, isTrue e X.env whole = (do let v ← whole; standAt e.pos; holding [v] (truthy v))) : SE Ph fr X ir e := ⟨h, fun _ => pt_plain (pe_shared h) he⟩
structure SEs (Ph : Nat → List PyData → Option PyData) (fr : Nat → Bool) (X : Cx) (es : Es) (xs : List Expr) : Prop where
  a : PA X xs (tEs X.K Ph es)
  ns : (xs.all fun e => !isStar e) = true
  av : xs ≠ [] → ∀ pos, PE X (.BoolOp .And xs pos) (tAnV X.K Ph es)
  ov : xs ≠ [] → ∀ pos, PE X (.BoolOp .Or xs pos) (tOrV' X.K Ph es)
  at' : xs ≠ [] → tstOks es = true → ∀ pos, PW X (.BoolOp .And xs pos) (tAn X.K Ph es)
  ot : xs ≠ [] → tstOks es = true → ∀ pos, PW X (.BoolOp .Or xs pos) (tOr' X.K Ph es)
  ts : xs.length ≤ 1 → tstOks es = true → PTs X xs (tAn X.K Ph es)
mutual
theorem sndE {X : Cx} {c : Cc} (ok : OkX Ph fr B G X c) : ∀ (ir : E) (e : Expr), chkE B G c ir e = true → SE Ph fr X ir e
  | .var i, e, h => by
    unfold chkE at h
    split at h
    · have n := ok.nm h
      exact .mk' (pe_v n.ix n.vis n.db n.cd) (fun _ => rfl)
    · cases h
  | .cst d, e, h => by
    unfold chkE at h
    refine .mk' (pe_const h) ?_
    unfold cstOk at h
    split at h
    · exact fun _ => rfl
    · exact fun _ => rfl
    · cases h
  | .bin op a b, e, h => by
    unfold chkE at h
    split at h
    · simp only [Bool.and_eq_true, decide_eq_true_eq] at h
      obtain ⟨⟨⟨rfl, h1⟩, h2⟩, h3⟩ := h
      exact .mk' (pe_bin (op_bin h1) (sndO ok a _ h2) (sndO ok b _ h3)) (fun _ => rfl)
    · cases h
  | .cat a b, e, h => by
    unfold chkE at h
    split at h
    · simp only [Bool.and_eq_true, decide_eq_true_eq] at h
      obtain ⟨⟨rfl, h2⟩, h3⟩ := h
      exact .mk' (pe_cat (sndO ok a _ h2) (sndO ok b _ h3)) (fun _ => rfl)
    · cases h
  | .cmp op a b, e, h => by
    unfold chkE at h
    split at h
    · simp only [Bool.and_eq_true, decide_eq_true_eq, Bool.not_eq_true'] at h
      obtain ⟨⟨⟨rfl, h1⟩, h2⟩, h3⟩ := h
      exact ⟨pe_cmp' (op_cmp ok.un _) (sndO ok a _ h1) (sndO ok b _ h2) (bim h3), fun _ => pt_cmp' (op_cmp ok.un _) (sndO ok a _ h1) (sndO ok b _ h2) (bim h3)⟩
    · cases h
  | .chn op1 op2 a b d, e, h => by
    unfold chkE at h
    split at h
    · simp only [Bool.and_eq_true, decide_eq_true_eq, Bool.not_eq_true'] at h
      obtain ⟨⟨⟨⟨⟨rfl, rfl⟩, h1⟩, h2⟩, h3⟩, h4⟩ := h
      exact ⟨pe_chn (op_cmp ok.un _) (op_cmp ok.un _) (sndE ok a _ h1).s (sndE ok b _ h2).s (sndE ok d _ h3).s (bim h4), fun _ => pt_chn (op_cmp ok.un _) (op_cmp ok.un _) (sndE ok a _ h1).s (sndE ok b _ h2).s (sndE ok d _ h3).s (bim h4)⟩
    · cases h
  | .and es, e, h => by
    unfold chkE at h
    split at h
    · rename_i vs p
      simp only [Bool.and_eq_true, Bool.not_eq_true', List.isEmpty_eq_false_iff] at h
      have s := sndEs ok es _ h.1
      exact ⟨pe_and' (s.av h.2 _), fun t => pt_and' (s.at' h.2 (by rw [tstOk] at t; exact t) _)⟩
    · cases h
  | .or es, e, h => by
    unfold chkE at h
    split at h
    · simp only [Bool.and_eq_true, Bool.not_eq_true', List.isEmpty_eq_false_iff] at h
      have s := sndEs ok es _ h.1
      exact ⟨pe_or'' (s.ov h.2 _), fun t => pt_or'' (s.ot h.2 (by rw [tstOk] at t; exact t) _)⟩
    · cases h
  | .not a, e, h => by
    unfold chkE at h
    split at h
    · have s := sndE ok a _ h
      exact ⟨pe_not' s.s, fun t => pt_not' (s.t (by rw [tstOk] at t; exact t))⟩
    · cases h
  | .ife z a b, e, h => by
    unfold chkE at h
    split at h
    · simp only [Bool.and_eq_true] at h
      obtain ⟨⟨⟨h1, h2⟩, h3⟩, h4⟩ := h
      exact ⟨pe_ife ((sndE ok z _ h1).t h2) (sndE ok a _ h3).s (sndE ok b _ h4).s, fun t => by rw [tstOk] at t; cases t⟩
    · cases h
  | .idx a b, e, h => by
    unfold chkE at h
    split at h
    · simp only [Bool.and_eq_true, Bool.not_eq_true'] at h
      exact .mk' (pe_idx (by have := ok.un; omega) (sndO ok a _ h.1.1) (sndE ok b _ h.1.2).s (plainIx h.2)) (fun _ => rfl)
    · cases h
  | .slc a lo hi, e, h => by
    unfold chkE at h
    split at h
    · rename_i x l u p q
      simp only [Bool.and_eq_true] at h
      obtain ⟨⟨h1, h2⟩, h3⟩ := h
      refine .mk' (pe_slc (sndO ok a _ h1) ?_ ?_) (fun _ => rfl)
      · cases l with
        | none =>
          dsimp only at h2
          unfold isNone at h2
          split at h2
          · exact po_n
          · cases h2
        | some l =>
          simp only [Bool.and_eq_true, Bool.not_eq_true'] at h2
          exact po_s (sndE ok lo _ h2.1).s h2.2
      · cases u with
        | none =>
          dsimp only at h3
          unfold isNone at h3
          split at h3
          · exact po_n
          · cases h3
        | some l =>
          simp only [Bool.and_eq_true, Bool.not_eq_true'] at h3
          exact po_s (sndE ok hi _ h3.1).s h3.2
    · cases h
  | .rev a, e, h => by
    unfold chkE at h
    split at h
    · simp only [Bool.and_eq_true, decide_eq_true_eq] at h
      obtain ⟨rfl, h⟩ := h
      exact .mk' (pe_rev (sndO ok a _ h)) (fun _ => rfl)
    · cases h
  | .tup es, e, h => by
    unfold chkE at h
    split at h
    · simp only [Bool.and_eq_true, decide_eq_true_eq] at h
      exact .mk' (pe_tup' (sndEs ok es _ h.1).a h.2) (fun _ => rfl)
    · cases h
  | .lst es, e, h => by
    unfold chkE at h
    split at h
    · simp only [Bool.and_eq_true, decide_eq_true_eq] at h
      exact .mk' (pe_lst' (sndEs ok es _ h.1).a h.2) (fun _ => rfl)
    · cases h
  | .dc0, e, h => by
    unfold chkE at h
    split at h
    · exact .mk' pe_dc0 (fun _ => rfl)
    · cases h
  | .dc1 k v, e, h => by
    unfold chkE at h
    split at h
    · simp only [Bool.and_eq_true] at h
      exact .mk' (pe_dc1 (sndE ok k _ h.1).s (sndE ok v _ h.2).s) (fun _ => rfl)
    · cases h
  | .call f es, e, h => by
    unfold chkE at h
    split at h
    · rename_i x p xs q
      simp only [Bool.and_eq_true, decide_eq_true_eq, Bool.not_eq_true', List.isEmpty_eq_false_iff] at h
      obtain ⟨⟨⟨⟨h1, h2⟩, h3⟩, h4⟩, h5⟩ := h
      have s := sndEs ok es _ h1
      cases xs with
      | nil => exact absurd rfl h2
      | cons y r =>
        obtain ⟨k, a, fd, ps, F, hr, hm, hk, hb⟩ := (ok.gl _ _ _ h5).ex
        have ns := s.ns
        rw [List.all_cons, Bool.and_eq_true] at ns
        unfold okNm at h4
        simp only [Bool.and_eq_true, Bool.not_eq_true'] at h4
        exact .mk' (pe_fn F hr (ok.glb h3) hm hk hb s.a rfl h4.1 (star_cons (by simpa using ns.1)) (back_any ns.2)) (fun _ => rfl)
    · cases h
  | .len a, e, h => by
    unfold chkE at h
    split at h
    · simp only [Bool.and_eq_true, Bool.not_eq_true'] at h
      obtain ⟨⟨h1, h2⟩, h3⟩ := h
      obtain ⟨rfl, hg, hm⟩ := ok.bn h1
      exact .mk' (pe_len hg hm (sndO ok a _ h2) (star_cons h3)) (fun _ => rfl)
    · cases h
  | .blt b es, e, h => by
    unfold chkE at h
    split at h
    · split at h
      · split at h
        · rename_i i
          simp only [Bool.and_eq_true, decide_eq_true_eq, Bool.not_eq_true'] at h
          obtain ⟨⟨⟨⟨h1, rfl⟩, h2⟩, h3⟩, h4⟩ := h
          obtain ⟨rfl, hg, hm⟩ := ok.bn h1
          exact .mk' (pe_sortitems ok.un ok.calm hg hm (sndE ok i _ h2).s (abase h3) h4 rfl) (fun _ => rfl)
        · cases h
      · cases h
    · split at h
      · split at h
        · rename_i i
          simp only [Bool.and_eq_true, Bool.not_eq_true'] at h
          obtain ⟨⟨⟨h1, h2⟩, h3⟩, h4⟩ := h
          obtain ⟨rfl, hg, hm⟩ := ok.bn h1
          obtain ⟨rfl, hg2, hm2⟩ := ok.bn h2
          exact .mk' (pe_listrng ok.calm hg hm hg2 hm2 (sndE ok i _ h3).s (star_cons h4)) (fun _ => rfl)
        · cases h
      · cases h
    · split at h
      · split at h
        · rename_i i
          simp only [Bool.and_eq_true, Bool.not_eq_true'] at h
          obtain ⟨⟨⟨h1, h2⟩, h3⟩, h4⟩ := h
          obtain ⟨rfl, hg, hm⟩ := ok.bn h1
          obtain ⟨rfl, hg2, hm2⟩ := ok.bn h2
          exact .mk' (pe_lenset ok.calm hg hm hg2 hm2 (sndE ok i _ h3).s (star_cons h4)) (fun _ => rfl)
        · cases h
      · cases h
    · split at h
      · split at h
        · rename_i i
          simp only [Bool.and_eq_true, Bool.not_eq_true'] at h
          obtain ⟨⟨⟨h1, h2⟩, h3⟩, h4⟩ := h
          obtain ⟨rfl, hg, hm⟩ := ok.bn h1
          obtain ⟨rfl, hg2, hm2⟩ := ok.bn h2
          exact .mk' (pe_sortset ok.un ok.calm hg hm hg2 hm2 (sndE ok i _ h3).s (star_cons h4)) (fun _ => rfl)
        · cases h
      · cases h
    · split at h
      · split at h
        · rename_i i
          simp only [Bool.and_eq_true, decide_eq_true_eq, Bool.not_eq_true'] at h
          obtain ⟨⟨⟨⟨h1, rfl⟩, h2⟩, h3⟩, h4⟩ := h
          obtain ⟨rfl, hg, hm⟩ := ok.bn h1
          exact .mk' (pe_listitems ok.calm hg hm (sndE ok i _ h2).s (abase h3) h4) (fun _ => rfl)
        · cases h
      · cases h
    · split at h
      · split at h
        · rename_i i j
          simp only [Bool.and_eq_true, Bool.not_eq_true'] at h
          obtain ⟨⟨⟨⟨⟨h1, h2⟩, h3⟩, h4⟩, h5⟩, h6⟩ := h
          obtain ⟨rfl, hg, hm⟩ := ok.bn h1
          obtain ⟨rfl, hg2, hm2⟩ := ok.bn h2
          exact .mk' (pe_dictzip ok.calm hg hm hg2 hm2 (sndE ok i _ h3).s (sndE ok j _ h4).s (star_cons h5) (star_cons h6) (by rw [star_cons h6]; rfl) rfl) (fun _ => rfl)
        · cases h
      · cases h
    · rename_i b' hb
      split at h
      · rename_i n hn
        split at h
        · rename_i x p xs q
          simp only [Bool.and_eq_true, Bool.not_eq_true', List.isEmpty_eq_false_iff] at h
          obtain ⟨⟨h1, h2⟩, h3⟩ := h
          obtain ⟨hx, hg, hm⟩ := ok.bn h1
          have s := sndEs ok es _ h2
          cases xs with
          | nil => exact absurd rfl h3
          | cons y r =>
            have ns := s.ns
            rw [List.all_cons, Bool.and_eq_true] at ns
            have hv := blt_plain ok hn (p := p) (pos := q) hx hg hm s.a (star_cons (by simpa using ns.1)) (back_any ns.2)
            have hf : bfr b = Wr.frs fr (.blt b es) := by cases b <;> rfl
            rw [hf] at hv
            exact .mk' hv (fun _ => rfl)
        · cases h
      · cases h
  | .isi a ts, e, h => by
    unfold chkE at h
    split at h
    · simp only [Bool.and_eq_true, Bool.not_eq_true'] at h
      obtain ⟨⟨⟨h1, h2⟩, h3⟩, h4⟩ := h
      obtain ⟨rfl, hg, hm⟩ := ok.bn h1
      split at h4
      · obtain ⟨rfl, hg2, hm2⟩ := ok.bn h4
        exact .mk' (pe_isi1 hg hm hg2 hm2 (sndO ok a _ h2) (star_cons h3)) (fun _ => rfl)
      · simp only [Bool.and_eq_true] at h4
        obtain ⟨rfl, hg2, hm2⟩ := ok.bn h4.1
        obtain ⟨rfl, hg3, hm3⟩ := ok.bn h4.2
        exact .mk' (pe_isi2 hg hm hg2 hm2 hg3 hm3 (sndO ok a _ h2) (star_cons h3)) (fun _ => rfl)
      · cases h4
    · cases h
  | .get a k x, e, h => by
    unfold chkE at h
    split at h
    · simp only [Bool.and_eq_true, decide_eq_true_eq, Bool.not_eq_true'] at h
      obtain ⟨⟨⟨⟨⟨⟨⟨rfl, h1⟩, h2⟩, h3⟩, h4⟩, h5⟩, h6⟩, h7⟩ := h
      refine .mk' (pe_get (by have := ok.un; omega) (sndO ok a _ h1) (sndE ok k _ h2).s (sndE ok x _ h3).s ⟨abase h4, ?_, h7, ?_⟩) (fun _ => rfl)
      · rw [star_cons h5, star_cons h6]; rfl
      · rw [star_cons h5, star_cons h6]; rfl
    · cases h
  | .cnt a x, e, h => by
    unfold chkE at h
    split at h
    · simp only [Bool.and_eq_true, decide_eq_true_eq, Bool.not_eq_true'] at h
      obtain ⟨⟨⟨⟨⟨rfl, h1⟩, h2⟩, h3⟩, h4⟩, h5⟩ := h
      refine .mk' (pe_cnt ok.un (sndO ok a _ h1) (sndE ok x _ h2).s ⟨abase h3, ?_, h5, ?_⟩) (fun _ => rfl)
      · rw [star_cons h4]; rfl
      · rw [star_cons h4]; rfl
    · cases h
  | .tin neg i k, e, h => by
    unfold chkE at h
    split at h
    · simp only [Bool.and_eq_true, decide_eq_true_eq] at h
      obtain ⟨⟨rfl, h1⟩, h2⟩ := h
      have n := ok.nm h1
      exact ⟨(pe_tin (Ph := Ph) ok.hw ok.un (sndE ok k _ h2).s n.ix n.vis n.db n.cd).1, fun _ => (pe_tin (Ph := Ph) ok.hw ok.un (sndE ok k _ h2).s n.ix n.vis n.db n.cd).2⟩
    · cases h
  | .tgt i k x, e, h => by
    unfold chkE at h
    split at h
    · simp only [Bool.and_eq_true, decide_eq_true_eq, Bool.not_eq_true'] at h
      obtain ⟨⟨⟨⟨⟨⟨rfl, h1⟩, h2⟩, h3⟩, h5⟩, h6⟩, h7⟩ := h
      have n := ok.nm h1
      refine .mk' (pe_tgt ok.hw ok.un (sndE ok k _ h2).s (sndE ok x _ h3).s n.ix n.vis n.db n.cd ⟨abase rfl, ?_, h7, ?_⟩) (fun _ => rfl)
      · rw [star_cons h5, star_cons h6]; rfl
      · rw [star_cons h5, star_cons h6]; rfl
    · cases h
  | .tsr i, e, h => by
    unfold chkE at h
    split at h
    · simp only [Bool.and_eq_true] at h
      obtain ⟨rfl, hg, hm⟩ := ok.bn h.1
      have n := ok.nm h.2
      exact .mk' (pe_tsr ok.hw ok.un ok.calm hg hm n.ix n.vis n.db n.cd) (fun _ => rfl)
    · cases h
  | .tmn i, e, h => by
    unfold chkE at h
    split at h
    · simp only [Bool.and_eq_true, decide_eq_true_eq] at h
      obtain ⟨⟨⟨h0, rfl⟩, h1⟩, h2⟩ := h
      obtain ⟨rfl, hg, hm⟩ := ok.bn h0
      have n := ok.nm h1
      exact .mk' (pe_tmn ok.hw ok.un ok.calm hg hm n.ix n.vis n.db n.cd (abase rfl) h2) (fun _ => rfl)
    · cases h
  | .tmx i, e, h => by
    unfold chkE at h
    split at h
    · simp only [Bool.and_eq_true, decide_eq_true_eq] at h
      obtain ⟨⟨⟨h0, rfl⟩, h1⟩, h2⟩ := h
      obtain ⟨rfl, hg, hm⟩ := ok.bn h0
      have n := ok.nm h1
      exact .mk' (pe_tmx ok.hw ok.un ok.calm hg hm n.ix n.vis n.db n.cd (abase rfl) h2) (fun _ => rfl)
    · cases h
  | .tne i, e, h => by
    unfold chkE at h
    split at h
    · have n := ok.nm h
      exact ⟨(pe_tne (Ph := Ph) ok.hw ok.un n.ix n.vis n.db n.cd).1, fun _ => (pe_tne (Ph := Ph) ok.hw ok.un n.ix n.vis n.db n.cd).2⟩
    · cases h
  | .cpr el tg it cs, e, h => by
    unfold chkE at h
    split at h
    · simp only [Bool.and_eq_true, decide_eq_true_eq, Bool.not_eq_true'] at h
      obtain ⟨⟨⟨⟨⟨⟨⟨h1, h2⟩, h3⟩, h4⟩, h5⟩, h6⟩, h7⟩, h8⟩ := h
      exact .mk' (pe_cpr ok.calm ok.nd' (sndI ok it _ _ h1) (ok.blkOk h3) (own_map _ _) (fun s H C cl fp => sndT (ok.blk h3 s H C cl fp) tg _ h4) (fun s H C cl fp => (sndEs (ok.blk h3 s H C cl fp) cs _ h6).ts h7 h8) (fun s H C cl fp => (sndE (ok.blk h3 s H C cl fp) el _ h5).s) (fsi h2)) (fun _ => rfl)
    · cases h
  | .cp2 el tg it tg2 it2, e, h => by
    unfold chkE at h
    split at h
    · simp only [Bool.and_eq_true, Bool.not_eq_true'] at h
      obtain ⟨⟨⟨⟨⟨⟨⟨⟨h1, h2⟩, h3⟩, h4⟩, h5⟩, h6⟩, h7⟩, h8⟩, h9⟩ := h
      exact .mk' (pe_cp2 ok.calm ok.nd' (sndI ok it _ _ h1) (ok.blkOk h5) (own_map _ _) h4 (fun s H C cl fp => sndT (ok.blk h5 s H C cl fp) tg _ h6) (fun s H C cl fp => sndI (ok.blk h5 s H C cl fp) it2 _ _ h8) (fun s H C cl fp => sndT (ok.blk h5 s H C cl fp) tg2 _ h7) (fun s H C cl fp => (sndE (ok.blk h5 s H C cl fp) el _ h9).s) (fsi h2) (fun _ => fsi h3)) (fun _ => rfl)
    · cases h
  | .dcp k v tg it, e, h => by
    unfold chkE at h
    split at h
    · simp only [Bool.and_eq_true, Bool.not_eq_true'] at h
      obtain ⟨⟨⟨⟨⟨h1, h2⟩, h3⟩, h4⟩, h5⟩, h6⟩ := h
      exact .mk' (pe_dcp ok.calm ok.nd' (sndI ok it _ _ h1) (ok.blkOk h3) (own_map _ _) (fun s H C cl fp => sndT (ok.blk h3 s H C cl fp) tg _ h4) (fun s H C cl fp => (sndE (ok.blk h3 s H C cl fp) k _ h5).s) (fun s H C cl fp => (sndE (ok.blk h3 s H C cl fp) v _ h6).s) (fsi h2)) (fun _ => rfl)
    · cases h
theorem sndEs {X : Cx} {c : Cc} (ok : OkX Ph fr B G X c) : ∀ (ir : Es) (xs : List Expr), chkEs B G c ir xs = true → SEs Ph fr X ir xs
  | .nil, xs, h => by
    unfold chkEs at h
    split at h
    · exact ⟨pa_nil', rfl, fun z => absurd rfl z, fun z => absurd rfl z, fun z => absurd rfl z, fun z => absurd rfl z, fun _ _ => pts_an0⟩
    · cases h
  | .cons e es, xs, h => by
    unfold chkEs at h
    split at h
    · rename_i x r
      simp only [Bool.and_eq_true, Bool.not_eq_true'] at h
      obtain ⟨⟨h1, h2⟩, h3⟩ := h
      have a := sndE ok e _ h1
      have s := sndEs ok es _ h3
      have hts : tstOks (.cons e es) = true → tstOk e = true ∧ tstOks es = true := fun t => by
        rw [tstOks, Bool.and_eq_true] at t
        exact t
      refine ⟨pa_cons' a.s s.a (star_cons h2), by rw [List.all_cons, h2, s.ns]; rfl, fun _ pos => ?_, fun _ pos => ?_, fun _ t pos => ?_, fun _ t pos => ?_, fun hl t => ?_⟩
      · cases r with
        | nil =>
          cases es with
          | nil => exact pv_an1 a.s
          | cons _ _ => unfold chkEs at h3; cases h3
        | cons y r => exact pv_an a.s (s.av (by simp) pos)
      · cases r with
        | nil =>
          cases es with
          | nil => exact pv_or1 a.s
          | cons _ _ => unfold chkEs at h3; cases h3
        | cons y r => exact pv_or a.s (s.ov (by simp) pos)
      · cases r with
        | nil =>
          cases es with
          | nil => exact pw_an1 (a.t (hts t).1)
          | cons _ _ => unfold chkEs at h3; cases h3
        | cons y r => exact pw_an (a.t (hts t).1) (s.at' (by simp) (hts t).2 pos)
      · cases r with
        | nil =>
          cases es with
          | nil => exact pw_or1' (a.t (hts t).1)
          | cons _ _ => unfold chkEs at h3; cases h3
        | cons y r => exact pw_or' (a.t (hts t).1) (s.ot (by simp) (hts t).2 pos)
      · cases r with
        | nil =>
          cases es with
          | nil => exact pts_an1 (a.t (hts t).1)
          | cons _ _ => unfold chkEs at h3; cases h3
        | cons y r => simp at hl
    · cases h
theorem sndO {X : Cx} {c : Cc} (ok : OkX Ph fr B G X c) : ∀ (ir : O) (e : Expr), chkO B G c ir e = true → PE X e (tO X.K Ph ir)
  | .ex ir, e, h => by
    unfold chkO at h
    exact pe_o (sndE ok ir _ h).v
  | .bo i, e, h => by
    unfold chkO at h
    split at h
    · have n := ok.nm h
      exact pe_b n.ix n.vis n.db n.cd
    · cases h
theorem sndI {X : Cx} {c : Cc} (ok : OkX Ph fr B G X c) : ∀ (ir : I) (t e : Expr), chkI B G c ir t e = true → PI X t e (tI X.K Ph ir)
  | .vr i, t, e, h => by
    unfold chkI at h
    split at h
    · have n := ok.nm h
      exact pi_vr n.ix n.vis n.db n.cd
    · cases h
  | .val ir, t, e, h => by
    unfold chkI at h
    exact pi_val (sndE ok ir _ h).s
  | .rg1 b, t, e, h => by
    unfold chkI at h
    split at h
    · simp only [Bool.and_eq_true, Bool.not_eq_true'] at h
      obtain ⟨rfl, hg, hm⟩ := ok.bn h.1.1
      exact pi_rg1 hg hm (sndE ok b _ h.1.2).s (star_cons h.2)
    · cases h
  | .rg2 a b, t, e, h => by
    unfold chkI at h
    split at h
    · simp only [Bool.and_eq_true, Bool.not_eq_true'] at h
      obtain ⟨⟨⟨⟨h1, h2⟩, h3⟩, h4⟩, h5⟩ := h
      obtain ⟨rfl, hg, hm⟩ := ok.bn h1
      exact pi_rg2 hg hm (sndE ok a _ h2).s (sndE ok b _ h3).s (by rw [star_cons h4, star_cons h5]; rfl) (star_cons h5)
    · cases h
  | .enu a, t, e, h => by
    unfold chkI at h
    split at h
    · simp only [Bool.and_eq_true, Bool.not_eq_true'] at h
      obtain ⟨⟨⟨h1, h2⟩, h3⟩, h4⟩ := h
      obtain ⟨rfl, hg, hm⟩ := ok.bn h1
      cases t <;> simp only [isTup, reduceCtorEq] at h4
      exact pi_enu hg hm (sndE ok a _ h2).s (star_cons h3) (star_cons h3)
    · cases h
  | .zip a b, t, e, h => by
    unfold chkI at h
    split at h
    · simp only [Bool.and_eq_true, Bool.not_eq_true'] at h
      obtain ⟨⟨⟨⟨⟨h1, h2⟩, h3⟩, h4⟩, h5⟩, h6⟩ := h
      obtain ⟨rfl, hg, hm⟩ := ok.bn h1
      cases t <;> simp only [isTup, reduceCtorEq] at h6
      exact pi_zp hg hm (sndE ok a _ h2).s (sndE ok b _ h3).s (star_cons h4) (star_cons h5) (back_any (by simp [h5]))
    · cases h
  | .di i, t, e, h => by
    unfold chkI at h
    split at h
    · simp only [Bool.and_eq_true, decide_eq_true_eq] at h
      obtain ⟨⟨⟨rfl, h1⟩, h2⟩, h3⟩ := h
      have n := ok.nm h1
      cases t <;> simp only [isTup, reduceCtorEq] at h2
      exact pi_di n.ix n.vis n.db n.cd h3
    · cases h
end
end
end Wr
end

section
set_option Elab.async false
set_option linter.all false
set_option maxRecDepth 100000
set_option maxHeartbeats 4000000
/-! WrT: the checker is sound: statements. -/
namespace Wr
open PySem PySem.Spec PyProof.Rows L2
variable [Wld]
section
variable {X : Cx}
/-- name = {..} on one line, the name a local -/
theorem ps_setDc {i : Nat} {y : Str} {py : Pos} {kx vx tg iter : Expr} {ifs : List Expr} {scope : Scope} {own : List (Str × Nat)} {pos spos : Pos} {wi : TI} {g : TG} {tt : TT} {tk tv : TE} (hc : X.calm = true) (hN : X.N.Nodup) (hy : X.N[i]? = some y) (hyl : X.env.scope.names.lookup y = some .local)
    (hsw : swapsWith (.DictComp kx vx [⟨tg, iter, ifs, 0⟩] scope pos) (some (.Name y py)) spos.line X.env = pure true) (hi : PI X tg iter wi) (ok : BlkOk X.N X.env.scope scope own)
    (hg : ∀ (s : Shared) (H : Hp) (C : Addr) (cl : List (Str × Addr)) (fp : List Addr), PG (X.blk s H scope (compEnvC scope cl C X.env) fp) tg g)
    (ht : ∀ (s : Shared) (H : Hp) (C : Addr) (cl : List (Str × Addr)) (fp : List Addr), PTs (X.blk s H scope (compEnvC scope cl C X.env) fp) ifs tt)
    (hk : ∀ (s : Shared) (H : Hp) (C : Addr) (cl : List (Str × Addr)) (fp : List Addr), PE (X.blk s H scope (compEnvC scope cl C X.env) fp) kx tk)
    (he : ∀ (s : Shared) (H : Hp) (C : Addr) (cl : List (Str × Addr)) (fp : List Addr), PE (X.blk s H scope (compEnvC scope cl C X.env) fp) vx tv) (hs : ∀ x, foldedSetIterable iter X.env x = pure x) :
    PS X (.Assign [.Name y py] (.DictComp kx vx [⟨tg, iter, ifs, 0⟩] scope pos) spos) (tAsg (tDc wi g tt tk tv (own.map (·.2))) (gName i)) := by
  refine ⟨fun pins s σ H D I h => ?_⟩
  rw [exec_Assign_Name_used _ _ _ _ hsw]
  refine wpAny_bind (wpAny_standAt (wpAny_bind ?_))
  have h : tDc wi g tt tk tv (own.map (·.2)) σ H (fun x H1 => gName i x σ H1 D.nx) := h
  show wpAny _ X.A (do let _ ← comprehension (.DictComp kx vx [⟨tg, iter, ifs, 0⟩] scope pos) scope X.env (firstIterPos [⟨tg, iter, ifs, 0⟩] pos) newDict false (eval iter X.env) (some (assign (.Name y py) X.env))) _ _ s
  refine wpAny_bind (thn (dc_core (Qf := fun _ s' => SP X pins D .next s') hc hN I hi ok hg ht hk he hs h fun L C s' m H' I' q hn f => ?_) fun _ s' hq => wpAny_pure (wpAny_pure hq))
  show wpAny _ _ (assign (.Name y py) X.env (.ref L)) _ _ _
  obtain ⟨f0, f1, f2, f3, f4, f5⟩ := f
  refine wpAny_assign_Name (store_ok2 (v := V.ref L) I' hN hy (.inl hyl) rfl (fun s2 I2 ⟨a, sb, ha⟩ => ?_) (.inr hyl))
  have hne : C ≠ a := by
    rcases ha with z | z
    · rw [z]
      exact f1
    · exact fun e => f4 y a z e.symm
  exact ⟨m, hn.sameBut sb hne, fun h3 sb3 => ⟨_, H', I2.turned (t' := s2.toks) (fun b o hb e => (sb3.2 b hb).trans e) f0 f1 f3 f4 f5, q⟩⟩
theorem ps_setDcp {Ph : Nat → List PyData → Option PyData} {fr : Nat → Bool} {i : Nat} {y : Str} {py : Pos} {kx vx tg iter : Expr} {scope : Scope} {own : List (Str × Nat)} {pos spos : Pos} {ke ve : E} {t : Tg} {it : I} (hc : X.calm = true) (hN : X.N.Nodup) (hy : X.N[i]? = some y) (hyl : X.env.scope.names.lookup y = some .local)
    (hsw : swapsWith (.DictComp kx vx [⟨tg, iter, [], 0⟩] scope pos) (some (.Name y py)) spos.line X.env = pure true) (hi : PI X tg iter (tI X.K Ph it)) (ok : BlkOk X.N X.env.scope scope own) (ho : own.map (·.2) = slotsT t)
    (hg : ∀ (s : Shared) (H : Hp) (C : Addr) (cl : List (Str × Addr)) (fp : List Addr), PG (X.blk s H scope (compEnvC scope cl C X.env) fp) tg (gT X.K t))
    (hk : ∀ (s : Shared) (H : Hp) (C : Addr) (cl : List (Str × Addr)) (fp : List Addr), PE (X.blk s H scope (compEnvC scope cl C X.env) fp) kx (tE X.K Ph false ke))
    (he : ∀ (s : Shared) (H : Hp) (C : Addr) (cl : List (Str × Addr)) (fp : List Addr), PE (X.blk s H scope (compEnvC scope cl C X.env) fp) vx (tE X.K Ph false ve)) (hs : ∀ x, foldedSetIterable iter X.env x = pure x) :
    PS X (.Assign [.Name y py] (.DictComp kx vx [⟨tg, iter, [], 0⟩] scope pos) spos) (tS X.K Ph fr (.asg i (.dcp ke ve t it))) := by
  refine ps_unz (it := it) (PS.mono (ps_setDc hc hN hy hyl hsw hi ok hg (fun _ _ _ _ _ => pts_nil) hk he hs) fun D σ H q => ?_)
  rw [ho]
  exact dc_run (asgz_run q)
end
section
variable {Ph : Nat → List PyData → Option PyData} {fr : Nat → Bool} {B : List Str} {G : List (Str × Nat × Nat)} {X : Cx} {c : Cc}
theorem OkX.bk (ok : OkX Ph fr B G X c) : X.env.blockKind = .function := by
  unfold Env.blockKind
  rw [ok.sc, ok.kd]
  rfl
/-- what an assignment of a comprehension to a name does -/
theorem sw_comp {v : Expr} {y : Str} {py : Pos} {l : Nat} {env : Env} (h : isComp v = true) : swapsWith v (some (.Name y py)) l env = pure false ∨ (swapsWith v (some (.Name y py)) l env = pure true ∧ env.scope.names.lookup y = some .local) := by
  have key : ∀ (b b2 b3 b4 : Bool), b2 = true ∨ True → (pure (b && b2 && b3 && b4) : Sem Bool) = pure false ∨ ((pure (b && b2 && b3 && b4) : Sem Bool) = pure true ∧ b2 = true) := fun b b2 b3 b4 _ => by
    cases b <;> cases b2 <;> cases b3 <;> cases b4 <;> first | exact .inl rfl | exact .inr ⟨rfl, rfl⟩
  have kl : (env.kindOf y == some NameKind.local) = true → env.scope.names.lookup y = some .local := fun e => by
    have : env.kindOf y = some NameKind.local := by simpa using e
    exact this
  cases v <;> first | cases h | skip
  all_goals
    rename_i scope pos
    rcases key (env.blockKind == .function) (env.kindOf y == some .local) (py.line == pos.line) (!(scope.names.any fun (n, k) => n == y && (k == .local || k == .cell))) (.inr trivial) with e | ⟨e, e2⟩
    · exact .inl e
    · exact .inr ⟨e, kl e2⟩
theorem swap2 (ok : OkX Ph fr B G X c) {x y : Str} {px py pt pt2 : Pos} {kt k2 : Nat} {a b : Expr} (hxy : x ≠ y) (ha : isStar a = false) (hb : isStar b = false) :
    ((c.lcl x && c.lcl y && py.line == px.line) = false ∨ (foldedForSure 8 a && foldedForSure 8 b) = true → swappedStores [.Tuple [.Name x px, .Name y py] kt pt] (.Tuple [a, b] k2 pt2) X.env = pure none) ∧
    ((c.lcl x && c.lcl y && py.line == px.line) = true → (foldedForSure 8 a && foldedForSure 8 b) = false → (constantsAlone 8 a && constantsAlone 8 b) = false → swappedStores [.Tuple [.Name x px, .Name y py] kt pt] (.Tuple [a, b] k2 pt2) X.env = pure (some [x, y])) := by
  have hstar : ∀ p : Expr → Bool, (∀ e, isStar e = false → p e = false) → [a, b].any p = false := fun p hp => by
    simp only [List.any_cons, List.any_nil, hp a ha, hp b hb, Bool.or_self]
  have lx : ∀ z : Str, (X.env.kindOf z == some NameKind.local) = c.lcl z := fun z => by
    show (X.env.scope.names.lookup z == some NameKind.local) = c.lcl z
    rw [ok.sc]
    unfold Cc.lcl
    cases e : c.sc.names.lookup z with
    | none => rfl
    | some k => cases k <;> rfl
  have hd : ([x, y].eraseDups.length != 2) = false := by
    have : (y == x) = false := by simpa using fun e => hxy e.symm
    simp [List.eraseDups_cons, this]
  unfold swappedStores
  simp only [ok.bk, List.length_cons, List.length_nil, List.head?_cons, Option.map_some, Option.getD_some, Expr.pos, List.all_cons, List.all_nil, Bool.and_true, lx]
  rw [if_neg (by decide), if_neg (by
    rw [hstar _ (fun e h => by cases e <;> first | rfl | cases h)]
    exact Bool.false_ne_true)]
  have hf : ∀ {g : Expr → Option Str}, (∀ id pos, g (.Name id pos) = if (c.lcl id && pos.line == px.line) = true then some id else none) → List.filterMap g [Expr.Name x px, Expr.Name y py] = (if (c.lcl x && px.line == px.line) = true then [x] else []) ++ (if (c.lcl y && py.line == px.line) = true then [y] else []) := fun {g} hg => by
    by_cases h1 : (c.lcl x && px.line == px.line) = true <;> by_cases h2 : (c.lcl y && py.line == px.line) = true <;> simp only [List.filterMap_cons, List.filterMap_nil, hg, h1, h2, if_true, Bool.false_eq_true, if_false] <;> rfl
  rw [hf (fun _ _ => rfl)]
  have e0 : (px.line == px.line) = true := by simp
  rw [e0]
  cases c.lcl x <;> cases c.lcl y <;> cases (py.line == px.line) <;> cases hF : (foldedForSure 8 a && foldedForSure 8 b) <;> cases hC : (constantsAlone 8 a && constantsAlone 8 b) <;> simp [hd] <;> simpa using hd
theorem sw_sole {v t : Expr} {l : Nat} {env : Env} (h : isComp v = false) : swapsWithSole [t] v l env = pure false := by
  rw [swapsWithSole]
  exact sw_no h
theorem nodup_ix {α : Type} {l : List α} (nd : l.Nodup) {i j : Nat} {x : α} (h1 : l[i]? = some x) (h2 : l[j]? = some x) : i = j := by
  obtain ⟨m1, m2⟩ := List.getElem?_eq_some_iff.mp h1
  obtain ⟨m3, m4⟩ := List.getElem?_eq_some_iff.mp h2
  have hp := List.pairwise_iff_getElem.mp nd
  rcases Nat.lt_trichotomy i j with h | h | h
  · exact absurd (m2.trans m4.symm) (hp i j m1 m3 h)
  · exact h
  · exact absurd (m4.trans m2.symm) (hp j i m3 m1 h)
theorem OkX.tgn (ok : OkX Ph fr B G X c) {i : Nat} {x : Str} (h : c.tgn i x = true) : X.N[i]? = some x ∧ L2.Loc X.env.scope x ∧ (X.fn x = true ∨ X.env.scope.names.lookup x = some .local) := by
  unfold Cc.tgn at h
  simp only [Bool.and_eq_true, decide_eq_true_eq] at h
  exact ⟨by rw [ok.N]; exact h.1, (ok.loc h.2).1, (ok.loc h.2).2⟩
theorem few1 {e : Expr} {cp : Pos} {env : Env} (h : isStar e = false) : ((backTo cp (starEach [e] env)).all (fun x => !x.1) && (backToKw cp (keywordEach [] env)).all (fun x => x.1.isSome) && decide (([e] : List Expr).length + ([] : List Keyword).length + (if ([] : List Keyword).isEmpty then 0 else 1) < 30)) = true := by
  rw [star_cons h]
  rfl
theorem snd_asg (ok : OkX Ph fr B G X c) {i : Nat} {ir : E} {x : Str} {v : Expr} {p pos : Pos} (h1 : c.tgn i x = true) (h2 : chkE B G c ir v = true) (h3 : (isCompI ir || !isComp v) = true) : PS X (.Assign [.Name x p] v pos) (tS X.K Ph fr (.asg i ir)) := by
  obtain ⟨t1, t2, t3⟩ := ok.tgn h1
  have hv := (sndE ok ir v h2).v
  have plain : swapsWith v (some (.Name x p)) pos.line X.env = pure false → PS X (.Assign [.Name x p] v pos) (tS X.K Ph fr (.asg i ir)) := fun hs => ps_asg' ok.nd' t1 t2 t3 hv hs
  cases hc : isComp v with
  | false => exact plain (sw_no hc)
  | true =>
    rcases sw_comp (y := x) (py := p) (l := pos.line) (env := X.env) hc with e | ⟨e, hl⟩
    · exact plain e
    · rw [hc] at h3
      cases ir <;> simp only [isCompI, Bool.not_true, Bool.or_false, Bool.false_eq_true] at h3
      · rename_i el tg it cs
        unfold chkE at h2
        split at h2
        · simp only [Bool.and_eq_true, decide_eq_true_eq, Bool.not_eq_true'] at h2
          obtain ⟨⟨⟨⟨⟨⟨⟨h1, h2⟩, h3⟩, h4⟩, h5⟩, h6⟩, h7⟩, h8⟩ := h2
          exact ps_setCpr ok.calm ok.nd' t1 hl e (sndI ok it _ _ h1) (ok.blkOk h3) (own_map _ _) (fun s H C cl fp => sndT (ok.blk h3 s H C cl fp) tg _ h4) (fun s H C cl fp => (sndEs (ok.blk h3 s H C cl fp) cs _ h6).ts h7 h8) (fun s H C cl fp => (sndE (ok.blk h3 s H C cl fp) el _ h5).s) (fsi h2)
        · cases h2
      · rename_i el tg it tg2 it2
        unfold chkE at h2
        split at h2
        · simp only [Bool.and_eq_true, Bool.not_eq_true'] at h2
          obtain ⟨⟨⟨⟨⟨⟨⟨⟨h1, h2⟩, h3⟩, h4⟩, h5⟩, h6⟩, h7⟩, h8⟩, h9⟩ := h2
          exact ps_setCp2 ok.calm ok.nd' t1 hl e (sndI ok it _ _ h1) (ok.blkOk h5) (own_map _ _) h4 (fun s H C cl fp => sndT (ok.blk h5 s H C cl fp) tg _ h6) (fun s H C cl fp => sndI (ok.blk h5 s H C cl fp) it2 _ _ h8) (fun s H C cl fp => sndT (ok.blk h5 s H C cl fp) tg2 _ h7) (fun s H C cl fp => (sndE (ok.blk h5 s H C cl fp) el _ h9).s) (fsi h2) (fun _ => fsi h3)
        · cases h2
      · rename_i k v' tg it
        unfold chkE at h2
        split at h2
        · simp only [Bool.and_eq_true, Bool.not_eq_true'] at h2
          obtain ⟨⟨⟨⟨⟨h1, h2⟩, h3⟩, h4⟩, h5⟩, h6⟩ := h2
          exact ps_setDcp ok.calm ok.nd' t1 hl e (sndI ok it _ _ h1) (ok.blkOk h3) (own_map _ _) (fun s H C cl fp => sndT (ok.blk h3 s H C cl fp) tg _ h4) (fun s H C cl fp => (sndE (ok.blk h3 s H C cl fp) k _ h5).s) (fun s H C cl fp => (sndE (ok.blk h3 s H C cl fp) v' _ h6).s) (fsi h2)
        · cases h2
mutual
theorem sndS (ok : OkX Ph fr B G X c) (hp : PassesOwn (model X.prog X.w) X.A X.env X.xe) : ∀ (s : S) (st : Stmt), chkS B G c s st = true → PS X st (tS X.K Ph fr s)
  | .asg i e, st, h => by
    unfold chkS at h
    split at h
    · simp only [Bool.and_eq_true] at h
      exact snd_asg ok h.1.1 h.1.2 h.2
    · cases h
  | .unp tg e, st, h => by
    unfold chkS at h
    split at h
    · rename_i t v pos
      simp only [Bool.and_eq_true, Bool.not_eq_true'] at h
      obtain ⟨⟨⟨⟨h1, h2⟩, h3⟩, h4⟩, h5⟩ := h
      cases t <;> simp only [isTup, Bool.false_eq_true] at h1
      refine ps_unp (sndE ok e _ h3).s (sndT ok tg _ h2) (sw_sole h4) ?_ rfl
      cases v <;> first | rfl | cases h5
    · cases h
  | .par is es, st, h => by
    unfold chkS at h
    split at h
    · rename_i x px y py kt pt a b k2 pt2 pos
      split at h
      · rename_i i j
        split at h
        · rename_i e1 e2
          simp only [Bool.and_eq_true, Bool.not_eq_true', decide_eq_true_eq] at h
          obtain ⟨⟨⟨⟨⟨⟨⟨h1, h2⟩, h3⟩, h4⟩, h5⟩, h6⟩, h7⟩, h8⟩ := h
          obtain ⟨a1, a2, a3⟩ := ok.tgn h1
          obtain ⟨b1, b2, b3⟩ := ok.tgn h2
          have hxy : x ≠ y := fun e => by
            subst e
            exact h3 (nodup_ix ok.nd' a1 b1)
          have va := (sndE ok e1 _ h4).v
          have vb := (sndE ok e2 _ h5).v
          obtain ⟨s1, s2⟩ := swap2 (px := px) (py := py) (pt := pt) (pt2 := pt2) (kt := kt) (k2 := k2) ok hxy h6 h7
          have viaT : swappedStores [.Tuple [.Name x px, .Name y py] kt pt] (.Tuple [a, b] k2 pt2) X.env = pure none → PS X (.Assign [.Tuple [.Name x px, .Name y py] kt pt] (.Tuple [a, b] k2 pt2) pos) (tS X.K Ph fr (.par [i, j] (.cons e1 (.cons e2 .nil)))) := fun hw =>
            ps_parT ok.calm ok.nd' a1 b1 a2 a3 b2 b3 va vb (star_cons h6) (star_cons h7) hw rfl rfl rfl rfl rfl rfl
          cases hL : (c.lcl x && c.lcl y && py.line == px.line) with
          | false => exact viaT (s1 (.inl hL))
          | true =>
            cases hF : (foldedForSure 8 a && foldedForSure 8 b) with
            | true => exact viaT (s1 (.inr hF))
            | false =>
              rw [hL, hF] at h8
              have hC : (constantsAlone 8 a && constantsAlone 8 b) = false := by
                cases z1 : constantsAlone 8 a <;> cases z2 : constantsAlone 8 b <;> first | rfl | (rw [z1, z2] at h8; cases h8)
              have hl : c.lcl x = true ∧ c.lcl y = true := by
                simp only [Bool.and_eq_true] at hL
                exact hL.1
              exact ps_par' ok.calm ok.nd' a1 b1 h3 (ok.lcl hl.1) (ok.lcl hl.2) va vb (star_cons h6) (star_cons h7) (s2 hL hF hC) rfl
        · cases h
      · cases h
    · cases h
  | .six i k v, st, h => by
    unfold chkS at h
    split at h
    · simp only [Bool.and_eq_true, Bool.not_eq_true'] at h
      obtain ⟨⟨⟨⟨h1, h2⟩, h3⟩, h4⟩, h5⟩ := h
      have n := ok.nm h1
      refine ps_sixL n.ix n.vis n.db n.cd (by have := ok.un; omega) (sndE ok k _ h2).s (sndE ok v _ h3).s ?_ (sw_sole h5) rfl rfl (sw_no h5)
      rename_i ke _ _ _
      cases ke <;> first | exact fun _ => rfl | cases h4
    · cases h
  | .app i e, st, h => by
    unfold chkS at h
    split at h
    · simp only [Bool.and_eq_true, Bool.not_eq_true', decide_eq_true_eq] at h
      obtain ⟨⟨⟨⟨rfl, h1⟩, h2⟩, h3⟩, h4⟩ := h
      have n := ok.nm h1
      exact ps_app n.ix n.vis n.db n.cd (sndE ok e _ h2).s rfl (few1 h3) h4 (star_cons h3) rfl rfl
    · cases h
  | .upd i e, st, h => by
    unfold chkS at h
    split at h
    · simp only [Bool.and_eq_true, Bool.not_eq_true', decide_eq_true_eq] at h
      obtain ⟨⟨⟨⟨rfl, h1⟩, h2⟩, h3⟩, h4⟩ := h
      have n := ok.nm h1
      exact ps_upd n.ix n.vis n.db n.cd (sndE ok e _ h2).s rfl (few1 h3) h4 (star_cons h3) rfl rfl
    · cases h
  | .rmv i e, st, h => by
    unfold chkS at h
    split at h
    · simp only [Bool.and_eq_true, Bool.not_eq_true', decide_eq_true_eq] at h
      obtain ⟨⟨⟨⟨rfl, h1⟩, h2⟩, h3⟩, h4⟩ := h
      have n := ok.nm h1
      exact ps_rmv n.ix n.vis n.db n.cd (sndE ok e _ h2).s rfl (few1 h3) h4 (star_cons h3) rfl rfl
    · cases h
  | .apop i j k es, st, h => by
    unfold chkS at h
    split at h
    · simp only [Bool.and_eq_true, Bool.not_eq_true', decide_eq_true_eq] at h
      obtain ⟨⟨⟨⟨⟨⟨⟨⟨⟨rfl, rfl⟩, h1⟩, h2⟩, h3⟩, h4⟩, h5⟩, h6⟩, h7⟩, h8⟩ := h
      have n := ok.nm h1
      have m := ok.nm h2
      exact ps_apop n.ix n.vis n.db n.cd m.ix m.vis m.db m.cd (sndE ok k _ h3).s (sndEs ok es _ h5).a h6 rfl rfl rfl h7 rfl rfl (few1 h4) h8 (star_cons h4) rfl rfl rfl
    · cases h
  | .ret e, st, h => by
    unfold chkS at h
    split at h
    · exact ps_ret' (sndE ok e _ h).v
    · cases h
  | .rto i, st, h => by
    unfold chkS at h
    split at h
    · have n := ok.nm h
      exact ps_rto n.ix n.vis n.db n.cd
    · cases h
  | .ife t a b, st, h => by
    unfold chkS at h
    split at h
    · simp only [Bool.and_eq_true] at h
      obtain ⟨⟨⟨h1, h2⟩, h3⟩, h4⟩ := h
      exact ps_ife ((sndE ok t _ h1).t h2) (sndSs ok hp a _ h3) (sndSs ok hp b _ h4)
    · cases h
  | .whl t b, st, h => by
    unfold chkS at h
    split at h
    · simp only [Bool.and_eq_true] at h
      obtain ⟨⟨h1, h2⟩, h3⟩ := h
      exact ps_whl hp ((sndE ok t _ h1).t h2) (sndSs ok hp b _ h3)
    · cases h
  | .for tg it b, st, h => by
    unfold chkS at h
    split at h
    · simp only [Bool.and_eq_true, Bool.not_eq_true'] at h
      obtain ⟨⟨⟨h1, h2⟩, h3⟩, h4⟩ := h
      exact ps_for' hp ok.calm (sndI ok it _ _ h1) (sndT ok tg _ h3) (sndSs ok hp b _ h4) (fsi h2)
    · cases h
  | .shr _, st, h => by
    unfold chkS at h
    cases h
  | .tnw i, st, h => by
    unfold chkS at h
    split at h
    · obtain ⟨t1, t2, t3⟩ := ok.tgn h
      exact ps_tnw ok.hw ok.nd' t1 t2 t3
    · cases h
  | .tn1 i k v, st, h => by
    unfold chkS at h
    split at h
    · simp only [Bool.and_eq_true] at h
      obtain ⟨t1, t2, t3⟩ := ok.tgn h.1.1
      exact ps_tn1 ok.hw ok.un ok.nd' t1 t2 t3 (sndE ok k _ h.1.2).s (sndE ok v _ h.2).s
    · cases h
  | .tmv i j, st, h => by
    unfold chkS at h
    split at h
    · simp only [Bool.and_eq_true] at h
      obtain ⟨t1, t2, t3⟩ := ok.tgn h.1
      have n := ok.nm h.2
      exact ps_tmv ok.nd' t1 t2 t3 n.ix n.vis n.db n.cd
    · cases h
  | .tcp i j, st, h => by
    unfold chkS at h
    split at h
    · simp only [Bool.and_eq_true] at h
      obtain ⟨t1, t2, t3⟩ := ok.tgn h.1.1
      have n := ok.nm h.1.2
      obtain ⟨rfl, hg, hm⟩ := ok.bn h.2
      exact ps_tcp ok.hw ok.un ok.nd' t1 t2 t3 hg hm n.ix n.vis n.db n.cd
    · cases h
  | .tpt i k v, st, h => by
    unfold chkS at h
    split at h
    · simp only [Bool.and_eq_true, Bool.not_eq_true'] at h
      have n := ok.nm h.1.1.1
      exact ps_tpt ok.hw ok.un n.ix n.vis n.db n.cd (sndE ok k _ h.1.1.2).s (sndE ok v _ h.1.2).s (sw_no h.2)
    · cases h
  | .tfk tg j b, st, h => by
    unfold chkS at h
    split at h
    · simp only [Bool.and_eq_true] at h
      have n := ok.nm h.1.1
      exact ps_tfk ok.hw hp ok.calm n.ix n.vis n.db n.cd (sndT ok tg _ h.1.2) (sndSs ok hp b _ h.2)
    · cases h
  | .tfi tg j b, st, h => by
    unfold chkS at h
    split at h
    · rename_i t _ _ _ _ _ _ _
      simp only [Bool.and_eq_true, decide_eq_true_eq] at h
      obtain ⟨⟨⟨⟨⟨rfl, h1⟩, h2⟩, h3⟩, h4⟩, h5⟩ := h
      have n := ok.nm h1
      cases t <;> simp only [isTup, Bool.false_eq_true] at h2
      exact ps_tfi ok.hw hp ok.calm n.ix n.vis n.db n.cd (abase rfl) h3 (sndT ok tg _ h4) (sndSs ok hp b _ h5)
    · cases h
theorem sndSs (ok : OkX Ph fr B G X c) (hp : PassesOwn (model X.prog X.w) X.A X.env X.xe) : ∀ (ss : Ss) (sts : List Stmt), chkSs B G c ss sts = true → PSs X sts (tSs X.K Ph fr ss)
  | .nil, sts, h => by
    unfold chkSs at h
    split at h
    · exact pss_nil'
    · cases h
  | .cons s ss, sts, h => by
    unfold chkSs at h
    split at h
    · rename_i hs
      cases s <;> simp only [isShr, Bool.false_eq_true] at hs
      exact pss_shr (sndSs ok hp ss _ h)
    · split at h
      · simp only [Bool.and_eq_true] at h
        exact pss_cons' (sndS ok hp s _ h.1) (sndSs ok hp ss _ h.2)
      · cases h
end
end
end Wr
end

section
set_option Elab.async false
set_option linter.all false
set_option maxRecDepth 100000
set_option maxHeartbeats 4000000
/-! WrU: every def keeps its promise, to every depth. -/
namespace Wr
open PySem PySem.Spec PyProof.Rows L2
variable [Wld]
theorem look_some {us : List Value} : ∀ {ps : List Str}, us.length = ps.length → ∀ n ∈ ps, ((ps.zip us).lookup n).isSome = true := by
  intro ps
  induction ps generalizing us with
  | nil => intro _ n h; cases h
  | cons p ps ih =>
    intro hl n hn
    cases us with
    | nil => cases hl
    | cons u us =>
      rw [List.zip_cons_cons, List.lookup_cons]
      cases e : n == p with
      | true => rfl
      | false =>
        refine ih (by simpa using hl) n ?_
        rcases List.mem_cons.mp hn with z | z
        · subst z; simp at e
        · exact z
theorem look_at {us : List Value} {p : Str} {u : Value} : ∀ {ps : List Str}, p ∉ ps → us.length = ps.length → ps.filterMap (fun n => (((p, u) :: ps.zip us).lookup n).map (n, ·)) = ps.filterMap (fun n => ((ps.zip us).lookup n).map (n, ·)) := by
  intro ps hp hl
  refine fm_congr fun n hn => ?_
  rw [List.lookup_cons]
  have : (n == p) = false := by
    rw [beq_eq_false_iff_ne]
    rintro rfl
    exact hp hn
  rw [this]
theorem look_zip {us : List Value} : ∀ {ps : List Str}, ps.Nodup → us.length = ps.length → ps.filterMap (fun n => ((ps.zip us).lookup n).map (n, ·)) = ps.zip us := by
  intro ps
  induction ps generalizing us with
  | nil => intro _ _; rfl
  | cons p ps ih =>
    intro nd hl
    cases us with
    | nil => cases hl
    | cons u us =>
      have nd' := List.nodup_cons.mp nd
      have hl' : us.length = ps.length := by simpa using hl
      have key : ps.filterMap (fun n => (((p, u) :: ps.zip us).lookup n).map (n, ·)) = ps.zip us := by
        rw [look_at nd'.1 hl', ih nd'.2 hl']
      rw [List.zip_cons_cons, List.filterMap_cons, List.lookup_cons, beq_self_eq_true]
      simp only [Option.map_some, key]
/-- parameters that are all positional, without defaults -/
def plainArgs (a : Arguments) (ps : List Str) : Bool :=
  a.posonlyargs.isEmpty && decide (a.args.map (·.arg) = ps) && a.vararg.isNone && a.kwonlyargs.isEmpty && a.kwarg.isNone
theorem bind_plain {x qual : Str} {params : Arguments} {body : List Stmt} {scope : Scope} {kV doc pm : Value} {an : Option Addr} {cdv ct : Value} {us : List Value} {ps : List Str} (hp : plainArgs params ps = true) (nd : ps.Nodup) (hl : us.length = ps.length) :
    bindArgs (PySem.W.fnOf x qual params body scope .none kV doc pm an cdv ct) ⟨us, []⟩ = pure (ps.zip us) := by
  obtain ⟨po, ar, va, ko, kd, kw, df⟩ := params
  unfold plainArgs at hp
  simp only [Bool.and_eq_true, decide_eq_true_eq, List.isEmpty_iff, Option.isNone_iff_eq_none] at hp
  obtain ⟨⟨⟨⟨rfl, rfl⟩, rfl⟩, rfl⟩, rfl⟩ := hp
  have h1 : ((ar.map (·.arg)).take (ar.map (·.arg)).length).filter (fun n => (((ar.map (·.arg)).zip us).lookup n).isNone) = [] := by
    rw [List.take_length, List.filter_eq_nil_iff]
    intro n hn
    have := look_some hl n hn
    cases e : ((ar.map (·.arg)).zip us).lookup n with
    | none => rw [e] at this; cases this
    | some _ => simp
  have h2 := look_zip nd hl
  unfold bindArgs
  simp only [PySem.W.fnOf, List.map_nil, List.nil_append, List.forIn_nil, pure_bind, List.append_nil]
  have hs : seqItems? Value.none = pure none := rfl
  rw [hs, pure_bind]
  have hg : (decide (us.length > (ar.map (·.arg)).length) && (none : Option Arg).isNone) = false := by
    rw [hl]; simp
  rw [if_neg (by rw [hg]; exact Bool.false_ne_true)]
  simp only [Option.getD_none, List.drop_nil, List.length_nil, Nat.sub_zero, h1, List.isEmpty_nil, Bool.not_true, Bool.false_eq_true, if_false, List.take_length, List.drop_length, List.zip_nil_left, List.zip_nil_right, List.forIn_nil, pure_bind, h2]
  rw [List.take_length] at h1
  rw [if_neg (by rw [h1]; exact Bool.false_ne_true)]
/-! ### the state at a def's entry -/
theorem env_start {K : PySem.W.Frag} {H Hs : Hp} {vs : List V} {ds : List PyData} {N : List Str} {m : Nat} (w : View Hs H) (r : RpAll K Hs vs ds) (hm : N.length - vs.length = m) (hle : vs.length ≤ N.length) :
    EnvOk K (ds.map .sh ++ List.replicate m .un) (start N vs) H Hs ∧ ∀ b, ¬ OwnedAt (ds.map .sh ++ List.replicate m .un) (start N vs) b := by
  have hl := r.length
  have no : ∀ (i : Nat) (x : Sl), (ds.map Sl.sh ++ List.replicate m .un)[i]? = some x → ¬ OwS x := fun i d h o => by
    rcases Nat.lt_or_ge i (ds.map Sl.sh).length with q | q
    · rw [List.getElem?_append_left q, List.getElem?_map] at h
      cases e : ds[i]? <;> rw [e] at h <;> cases h
      exact o
    · rw [List.getElem?_append_right q, List.getElem?_replicate] at h
      split at h <;> cases h
      exact o
  have hlen : (start N vs).length = vs.length + m := by
    unfold L2.start
    simp only [List.length_append, List.length_map, List.length_replicate]
    omega
  refine ⟨⟨w, ?_, fun i x h => ?_, fun i j a x y _ h1 _ o1 => absurd o1 (no i x h1)⟩, fun b ⟨i, d, h, o, _⟩ => no i d h o⟩
  · unfold L2.start
    simp only [List.length_append, List.length_map, List.length_replicate]
    omega
  · rcases Nat.lt_or_ge i (ds.map Sl.sh).length with q | q
    · rw [List.getElem?_append_left q, List.getElem?_map] at h
      rw [List.length_map] at q
      cases e : ds[i]? with
      | none => rw [e] at h; cases h
      | some d' =>
        rw [e] at h
        cases h
        obtain ⟨v, h1, h2⟩ := r.get e
        refine ⟨some v, ?_, v, rfl, h2⟩
        unfold L2.start
        rw [List.getElem?_append_left (by rw [List.length_map, hl]; exact q), List.getElem?_map, h1]
        rfl
    · rw [List.getElem?_append_right q, List.getElem?_replicate] at h
      split at h
      · rename_i hlt
        cases h
        rw [List.length_map] at q hlt
        exact ⟨_, List.getElem?_eq_getElem (by rw [hlen]; omega), trivial⟩
      · cases h
/-- a def of the program: its name, its number, its names by slot, its parameters, its text -/
structure DefE where
  x : Str
  f : Nat
  N : List Str
  ps : List Str
  st : Stmt
/-- what is checked of a def against the table -/
def defOk (T : Tab) (B : List Str) (G : List (Str × Nat × Nat)) (d : DefE) : Bool :=
  match T.lookup d.f with
  | none => false
  | some fn => decide (fn.np = d.ps.length) && decide (fn.ns = d.N.length) && decide (d.N.take d.ps.length = d.ps) && decide (d.N.Nodup) && plainArgs (defArgs d.st) d.ps
      && decide ((defScope d.st).kind = .function) && !(defScope d.st).isCoroutine && !(defScope d.st).isGenerator
      && d.ps.all (fun x => decide ((defScope d.st).names.lookup x = some .local) || decide ((defScope d.st).names.lookup x = some .cell))
      && (defScope d.st).names.all (fun y => !decide (y.2 = .free))
      && chkSs B G ⟨d.N, defScope d.st, none⟩ fn.body (defBody d.st)
      && decide ((d.x, d.f, fn.np) ∈ G)
structure DefIs (T : Tab) (B : List Str) (G : List (Str × Nat × Nat)) (d : DefE) (fn : Fn) : Prop where
  lk : T.lookup d.f = some fn
  np : fn.np = d.ps.length
  ns : fn.ns = d.N.length
  pa : plainArgs (defArgs d.st) d.ps = true
  sc : FnScope d.N d.ps (defScope d.st)
  ck : chkSs B G ⟨d.N, defScope d.st, none⟩ fn.body (defBody d.st) = true
theorem defIs {T : Tab} {B : List Str} {G : List (Str × Nat × Nat)} {d : DefE} (h : defOk T B G d = true) : ∃ fn, DefIs T B G d fn := by
  unfold defOk at h
  split at h
  · cases h
  · rename_i fn e
    simp only [Bool.and_eq_true, decide_eq_true_eq, Bool.not_eq_true', List.all_eq_true, Bool.or_eq_true, decide_eq_false_iff_not] at h
    obtain ⟨⟨⟨⟨⟨⟨⟨⟨⟨⟨⟨h1, h2⟩, h3⟩, h4⟩, h5⟩, h6⟩, h7⟩, h8⟩, h9⟩, h10⟩, h11⟩, h12⟩ := h
    exact ⟨fn, e, h1, h2, h5, ⟨h6, h7, h8, h4, h3, h9, h10⟩, h11⟩
section
variable {P : Program} {w : World} {K : PySem.W.Frag} {mg : Str → Option Value} {base : Heap} {T : Tab} {B : List Str} {G : List (Str × Nat × Nat)}
/-- where a def stands -/
structure DefAt (K : PySem.W.Frag) (mg : Str → Option Value) (d : DefE) (a : Addr) (fd : FuncData) : Prop where
  fd : FunD K d.x d.x (defArgs d.st) (defBody d.st) (defScope d.st) [] [] a fd
  mg : mg d.x = some (.ref a)
theorem DefAt.binds {d : DefE} {a : Addr} {fd : FuncData} (F : DefAt K mg d a fd) (hp : plainArgs (defArgs d.st) d.ps = true) (nd : d.ps.Nodup) : Binds K fd d.ps [] :=
  F.fd.bindsN fun _ _ _ _ _ _ us hl => bind_plain hp nd hl
theorem FnScope.psNd {N ps : List Str} {sc : Scope} (S : FnScope N ps sc) : ps.Nodup := by
  rw [← S.pre]
  exact S.nd.sublist (List.take_sublist _ _)
/-- the body keeps the promise -/
theorem body_run {d : DefE} {fn : Fn} {n : Nat} {vs : List V} {H : Hp} {Q : VK} {E : XK} (D : DefIs T B G d fn) (h : spF K (Phi T (n + 1)) (frOf T d.f) fn.np d.f vs H Q E) : tSs K (Phi T n) (frOf T) fn.body { nx := fun _ H' => Q .non H', rt := Q } (start d.N vs) H := by
  obtain ⟨Hs, ds, r, v, hr, hp, hl, q⟩ := h
  rw [Phi, D.lk] at hp
  dsimp only at hp
  unfold runFn at hp
  split at hp
  · rename_i hd
    have hle : vs.length ≤ d.N.length := by
      have := congrArg List.length D.sc.pre
      rw [List.length_take] at this
      rw [hl, D.np]; omega
    obtain ⟨ok, now⟩ := env_start (N := d.N) (m := fn.ns - fn.np) v hr (by rw [hl, D.ns]) hle
    split at hp
    · rename_i d' b e
      refine ⟨_, Hs, .rt d' b, ok, e, fun v2 H' Hs' f rr => ?_⟩
      have fe : FrE H Hs H' Hs' := ⟨fun a u hu => f.keep a u hu (now a), f.shar, f.view, fun a h1 h2 => (f.new a h1 h2).resolve_right (now a)⟩
      have hf : frOf T d.f = fn.fresh := by unfold frOf; rw [D.lk]
      rw [hf] at q
      cases hfr : fn.fresh with
      | true =>
        rw [hfr] at hp q
        cases b with
        | false => cases hp
        | true =>
          cases hp
          obtain ⟨a, e1, e2, e3⟩ := rr
          exact q v2 H' Hs' fe ⟨a, e1, e2.resolve_right (now a), e3⟩
      | false =>
        rw [hfr] at hp q
        cases hp
        cases b with
        | false => exact q v2 H' Hs' fe rr
        | true =>
          obtain ⟨a, e1, e2, e3⟩ := rr
          obtain ⟨Hs2, f2, r2⟩ := Rs.shared (fr := true) fe ⟨a, e1, e2.resolve_right (now a), e3⟩
          exact q v2 H' Hs2 f2 r2
    · cases hp
  · cases hp
/-- every def, to every depth -/
theorem all_ok {Ds : List DefE} (hP : Wld.P = P) (hw : Wld.w = w) (hD : ∀ d ∈ Ds, defOk T B G d = true) (hA : ∀ d ∈ Ds, ∃ a fd, DefAt K mg d a fd) (hB : ∀ x ∈ B, mg x = none) (hG : ∀ x f np, (x, f, np) ∈ G → ∃ d ∈ Ds, d.x = x ∧ d.f = f ∧ d.ps.length = np) :
    ∀ (n : Nat) (d : DefE), d ∈ Ds → ∀ (a : Addr) (fd : FuncData), DefAt K mg d a fd → FnOk P w K mg base CX0 n a fd d.ps (spF K (Phi T n) (frOf T d.f) d.ps.length d.f) := by
  intro n
  induction n with
  | zero =>
    intro d hd a fd F
    refine ⟨fun vs H Q E h => ?_, fun A outer s H args us vs Q E _ _ _ _ h => ?_⟩
    · obtain ⟨Hs, ds, r, v, hr, hp, hl, q⟩ := h
      exact hl
    · obtain ⟨Hs, ds, r, v, hr, hp, hl, q⟩ := h
      rw [Phi] at hp
      cases hp
  | succ n ih =>
    intro d hd a fd F
    obtain ⟨fn, D⟩ := defIs (hD d hd)
    have hsp : ∀ vs H Q E, spF K (Phi T (n + 1)) (frOf T d.f) d.ps.length d.f vs H Q E → vs.length = d.ps.length := fun vs H Q E h => by
      obtain ⟨Hs, ds, r, v, hr, hp, hl, q⟩ := h
      exact hl
    refine F.fd.ok D.sc hsp fun cdv A outer s H vs Q E hr h => ⟨tSs K (Phi T n) (frOf T) fn.body, PSs.nox ?_, ?_⟩
    · refine sndSs (B := B) (G := G) (c := ⟨d.N, defScope d.st, none⟩) ⟨rfl, rfl, D.sc.kind, D.sc.nd, rfl, fun _ _ => rfl, ?_, fun x f np hm => ?_, hB, hP, hw⟩ PassesOwn.never fn.body (defBody d.st) D.ck
      · have := hr.un
        show (A.deeper _).units + 66 < cLine
        omega
      · obtain ⟨e, he, rfl, rfl, rfl⟩ := hG x f np hm
        obtain ⟨a', fd', F'⟩ := hA e he
        obtain ⟨fn', D'⟩ := defIs (hD e he)
        exact ⟨n, a', fd', e.ps, ih e he a' fd' F', hr, F'.mg, F'.fd.kp, F'.binds D'.pa (FnScope.psNd D'.sc)⟩
    · exact body_run D (by rw [D.np]; exact h)
end
end Wr
end

section
set_option Elab.async false
set_option linter.all false
set_option maxRecDepth 100000
set_option maxHeartbeats 4000000
/-! WrV: from the head's facts to the law. -/
namespace Wr
open PySem PySem.Spec PyProof.Rows L2
def isDef : Stmt → Bool
  | .FunctionDef .. => true
  | _ => false
def nameOf : Stmt → Str
  | .FunctionDef n .. => n
  | _ => ""
def mkD (st : Stmt) : He.DefD := ⟨(nameOf st, none), nameOf st, nameOf st, defArgs st, defBody st, defScope st, [], []⟩
def defsOf (P : Program) : List Stmt := P.main.body.filter isDef
/-- the defs with their numbers and slots -/
def mkE : List Stmt → List (Nat × List Str × Nat) → List DefE
  | s :: ss, (f, N, np) :: r => ⟨nameOf s, f, N, N.take np, s⟩ :: mkE ss r
  | _, _ => []
theorem mkE_mem : ∀ {ss : List Stmt} {r : List (Nat × List Str × Nat)} {d : DefE}, d ∈ mkE ss r → d.st ∈ ss ∧ d.x = nameOf d.st
  | [], _, d, h => by cases h
  | _ :: _, [], d, h => by cases h
  | s :: ss, (f, N, np) :: r, d, h => by
    rw [mkE] at h
    rcases List.mem_cons.mp h with e | h
    · subst e; exact ⟨List.mem_cons_self, rfl⟩
    · exact ⟨List.mem_cons_of_mem _ (mkE_mem h).1, (mkE_mem h).2⟩
def faOf (ss : List Stmt) (B : List Str) : List He.Fa := ss.map (fun s => .glo (nameOf s)) ++ B.map .free
def gOf (Ds : List DefE) : List (Str × Nat × Nat) := Ds.map fun d => (d.x, d.f, d.ps.length)
/-- the walk of a law, by the evaluator -/
theorem law_fn {P : Program} {w : World} {K : PySem.W.Frag} {mg : Str → Option Value} {h : Heap} {f : Addr} {ss : List Stmt} {B : List Str} {T : Tab} {is : List (Nat × List Str × Nat)} {lawId n : Nat} {dl : DefE} {x : Str}
    (hc : (mkE ss is).all (defOk T B (gOf (mkE ss is))) = true) (hl : dl ∈ mkE ss is) (hid : dl.f = lawId) (hps : dl.ps = [x]) (hfr : frOf T lawId = false) (hx : dl.x = ("law" : Str))
    (KX : K.In h) (G : h.Ns mainGlobals mg) (hmg : mg ("law" : Str) = some (.ref f)) (c : He.SaysD (faOf ss B) (ss.map mkD) K) :
    ∃ fd : FuncData, (∀ (s : Shared) (v : Value), BindsTo s fd ⟨[v], []⟩ [(x, v)]) ∧ ∀ base : Heap, K.In base → base.Ns mainGlobals mg → FnOk P w K mg base CX0 n f fd [x] (spF K (Phi T n) false 1 lawId) := by
  letI W0 : Wld := ⟨P, w⟩
  have facts : ∀ {fa' : He.Fa}, fa' ∈ faOf ss B → fa'.ok K = true := fun {fa'} hm => by
    obtain ⟨i, hi, e⟩ := List.mem_iff_getElem.mp hm
    exact c.fact i (f := fa') (by rw [List.getElem?_eq_getElem hi, e])
  have at' : ∀ d ∈ mkE ss is, ∃ a fd, DefAt K mg d a fd := fun d hd => by
    obtain ⟨h1, h2⟩ := mkE_mem hd
    obtain ⟨i, hi, e⟩ := List.mem_iff_getElem.mp (List.mem_map.mpr ⟨d.st, h1, rfl⟩ : mkD d.st ∈ ss.map mkD)
    obtain ⟨fd, F⟩ := c.def_ i (d := mkD d.st) (by rw [List.getElem?_eq_getElem hi, e])
    refine ⟨He.fAd K (mkD d.st).at_, fd, ⟨?_, ?_⟩⟩
    · rw [h2]
      exact F
    · rw [h2]
      exact He.glo_ok KX G (facts (List.mem_append_left _ (List.mem_map.mpr ⟨d.st, h1, rfl⟩)))
  have hB : ∀ y ∈ B, mg y = none := fun y hy => He.free_ok KX G (facts (List.mem_append_right _ (List.mem_map.mpr ⟨y, hy, rfl⟩)))
  have hD : ∀ d ∈ mkE ss is, defOk T B (gOf (mkE ss is)) d = true := fun d hd => List.all_eq_true.mp hc d hd
  have hG : ∀ y g np, (y, g, np) ∈ gOf (mkE ss is) → ∃ d ∈ mkE ss is, d.x = y ∧ d.f = g ∧ d.ps.length = np := fun y g np hm => by
    obtain ⟨d, hd, e⟩ := List.mem_map.mp hm
    cases e
    exact ⟨d, hd, rfl, rfl, rfl⟩
  obtain ⟨a, fd, F⟩ := at' dl hl
  have ea := F.mg
  rw [hx, hmg] at ea
  cases ea
  obtain ⟨fn, D⟩ := defIs (hD dl hl)
  have nd := FnScope.psNd D.sc
  have b := FunD.bindsA (ps := dl.ps) F.fd fun _ _ _ _ _ _ us hl => bind_plain D.pa nd hl
  rw [hps] at b
  refine ⟨fd, fun s v => b s [v] rfl, fun base _ _ => ?_⟩
  have := all_ok (P := P) (w := w) (base := base) rfl rfl hD at' hB hG n dl hl f fd F
  rw [hps, hid, hfr] at this
  exact this
/-- what the law's promise asks -/
theorem law_sp {K : PySem.W.Frag} {H : Hp} {a : Addr} {ns : List Int} {T : Tab} {lawId n : Nat} {E : XK} (hp : Phi T n lawId [.list (ns.map .int)] = some (.bool true)) (hS : SqL K H a (ns.map V.int)) : spF K (Phi T n) false 1 lawId [.ref a] H (fun v _ => v = .bl true) E := by
  have key : ∀ ms : List Int, RpAll K H (ms.map V.int) (ms.map .int) := fun ms => by
    induction ms with
    | nil => exact .nil
    | cons m ms ih => exact .cons (.int m) ih
  refine ⟨H, [.list (ns.map .int)], .bool true, View.refl H, .cons (.lst hS (key ns)) .nil, hp, rfl, fun v H' Hs' f r => ?_⟩
  cases r
  rfl
end Wr
end

section
namespace Wr
open PySem
/-- is_leaf: 0 tree -/
def b4 : Ss := (.cons (.ret (.isi (.ex (.idx (.ex (.var 0)) (.cst (.int 0)))) [.str])) .nil)
def F4 : Fn := ⟨1, 1, b4, false⟩
/-- strands_of: 0 tree, 1 child, 2 strand -/
def b5 : Ss := (.cons (.ife (.call 4 (.cons (.var 0) .nil)) (.cons (.ret (.lst (.cons (.var 0) .nil))) .nil) .nil) (.cons (.ret (.cp2 (.var 2) (.nm 1) (.vr 0) (.nm 2) (.val (.call 5 (.cons (.var 1) .nil))))) .nil))
def F5 : Fn := ⟨1, 3, b5, false⟩
/-- _law_cell: 0 script, 1 index -/
def b8 : Ss := (.cons (.ife (.cmp .Lt (.ex (.var 1)) (.ex (.len (.ex (.var 0))))) (.cons (.ret (.idx (.ex (.var 0)) (.var 1))) .nil) .nil) (.cons (.ife (.cmp .Eq (.ex (.len (.ex (.var 0)))) (.ex (.cst (.int 0)))) (.cons (.ret (.bin .Add (.ex (.bin .Mult (.ex (.cst (.int 7919))) (.ex (.var 1)))) (.ex (.cst (.int 101))))) .nil) .nil) (.cons (.ret (.bin .Add (.ex (.bin .Mod (.ex (.idx (.ex (.var 0)) (.bin .Mod (.ex (.var 1)) (.ex (.len (.ex (.var 0))))))) (.ex (.cst (.int 1000003))))) (.ex (.bin .Mult (.ex (.cst (.int 7919))) (.ex (.var 1)))))) .nil)))
def F8 : Fn := ⟨2, 2, b8, false⟩
/-- _law_digits: 0 script, 1 index, 2 count, 3 base, 4 primes, 5 cell, 6 rest, 7 digits, 8 k, 9 mixed -/
def b9 : Ss := (.cons (.asg 4 (.tup (.cons (.cst (.int 2147483647)) (.cons (.cst (.int 2147483629)) (.cons (.cst (.int 2147483587)) (.cons (.cst (.int 2147483579)) (.cons (.cst (.int 2147483563)) (.cons (.cst (.int 2147483549)) (.cons (.cst (.int 2147483543)) (.cons (.cst (.int 2147483497)) .nil)))))))))) (.cons (.asg 5 (.call 8 (.cons (.var 0) (.cons (.var 1) .nil)))) (.cons (.asg 6 (.ife (.cmp .GtE (.ex (.var 5)) (.ex (.bin .Pow (.ex (.cst (.int 10))) (.ex (.cst (.int 18)))))) (.var 5) (.cst (.int 0)))) (.cons (.asg 7 (.lst .nil)) (.cons (.for (.nm 8) (.rg1 (.var 2)) (.cons (.asg 9 (.bin .Mult (.ex (.bin .Mod (.ex (.var 5)) (.ex (.idx (.ex (.var 4)) (.bin .Mod (.ex (.var 8)) (.ex (.cst (.int 8)))))))) (.ex (.bin .Add (.ex (.cst (.int 48271))) (.ex (.bin .Mult (.ex (.bin .Mult (.ex (.cst (.int 2))) (.ex (.var 8)))) (.ex (.var 8)))))))) (.cons (.asg 9 (.bin .Add (.ex (.bin .Add (.ex (.var 9)) (.ex (.bin .Mult (.ex (.bin .Mult (.ex (.cst (.int 7919))) (.ex (.bin .Add (.ex (.var 8)) (.ex (.cst (.int 1))))))) (.ex (.bin .Add (.ex (.var 8)) (.ex (.cst (.int 1))))))))) (.ex (.bin .Mult (.ex (.cst (.int 104729))) (.ex (.var 1)))))) (.cons (.asg 9 (.bin .Mod (.ex (.var 9)) (.ex (.idx (.ex (.var 4)) (.bin .Mod (.ex (.bin .Add (.ex (.bin .Mult (.ex (.cst (.int 3))) (.ex (.var 8)))) (.ex (.var 1)))) (.ex (.cst (.int 8)))))))) (.cons (.asg 9 (.bin .Mod (.ex (.bin .Mult (.ex (.bin .Mult (.ex (.var 9)) (.ex (.var 9)))) (.ex (.var 9)))) (.ex (.idx (.ex (.var 4)) (.bin .Mod (.ex (.bin .Add (.ex (.var 8)) (.ex (.cst (.int 5))))) (.ex (.cst (.int 8)))))))) (.cons (.ife (.cmp .Gt (.ex (.var 6)) (.ex (.cst (.int 0)))) (.cons (.asg 9 (.var 6)) .nil) .nil) (.cons (.app 7 (.bin .Mod (.ex (.var 9)) (.ex (.var 3)))) (.cons (.asg 6 (.bin .FloorDiv (.ex (.var 6)) (.ex (.var 3)))) .nil)))))))) (.cons (.shr 7) (.cons (.ret (.var 7)) .nil)))))))
def F9 : Fn := ⟨4, 10, b9, false⟩
/-- _law_tree: 0 parts, 1 digits, 2 trees, 3 step, 4 count, 5 first, 6 last -/
def b18 : Ss := (.cons (.par [2, 3] (.cons (.blt .list1 (.cons (.var 0) .nil)) (.cons (.cst (.int 0)) .nil))) (.cons (.shr 2) (.cons (.whl (.cmp .Gt (.ex (.len (.ex (.var 2)))) (.ex (.cst (.int 1)))) (.cons (.asg 4 (.blt .min2 (.cons (.len (.ex (.var 2))) (.cons (.bin .Add (.ex (.cst (.int 2))) (.ex (.bin .Mod (.ex (.idx (.ex (.var 1)) (.bin .Mod (.ex (.var 3)) (.ex (.len (.ex (.var 1))))))) (.ex (.idx (.ex (.lst (.cons (.cst (.int 1)) (.cons (.cst (.int 2)) (.cons (.cst (.int 7)) .nil))))) (.bin .Mod (.ex (.idx (.ex (.var 1)) (.cst (.int 0)))) (.ex (.cst (.int 3))))))))) .nil)))) (.cons (.asg 5 (.bin .Mod (.ex (.idx (.ex (.var 1)) (.bin .Mod (.ex (.bin .Add (.ex (.var 3)) (.ex (.cst (.int 1))))) (.ex (.len (.ex (.var 1))))))) (.ex (.bin .Add (.ex (.bin .Sub (.ex (.len (.ex (.var 2)))) (.ex (.var 4)))) (.ex (.cst (.int 1))))))) (.cons (.asg 6 (.bin .Add (.ex (.var 5)) (.ex (.var 4)))) (.cons (.asg 2 (.bin .Add (.ex (.bin .Add (.ex (.slc (.ex (.var 2)) (.cst .none) (.var 5))) (.ex (.lst (.cons (.blt .tuple1 (.cons (.slc (.ex (.var 2)) (.var 5) (.var 6)) .nil)) .nil))))) (.ex (.slc (.ex (.var 2)) (.var 6) (.cst .none))))) (.cons (.asg 3 (.bin .Add (.ex (.var 3)) (.ex (.cst (.int 2))))) .nil)))))) (.cons (.ret (.idx (.ex (.var 2)) (.cst (.int 0)))) .nil))))
def F18 : Fn := ⟨2, 7, b18, false⟩
/-- _law_rig: 0 digits, 1 limit, 2 count, 3 names, 4 leaves, 5 digit, 6 power, 7 wear -/
def b19 : Ss := (.cons (.asg 2 (.idx (.ex (.lst (.cons (.var 1) (.cons (.bin .Add (.ex (.cst (.int 1))) (.ex (.bin .Mod (.ex (.bin .FloorDiv (.ex (.idx (.ex (.var 0)) (.cst (.int 0)))) (.ex (.cst (.int 4))))) (.ex (.var 1))))) (.cons (.blt .min2 (.cons (.cst (.int 3)) (.cons (.var 1) .nil))) (.cons (.blt .min2 (.cons (.cst (.int 4)) (.cons (.var 1) .nil))) .nil)))))) (.bin .Mod (.ex (.idx (.ex (.var 0)) (.cst (.int 0)))) (.ex (.cst (.int 4)))))) (.cons (.asg 3 (.lst (.cons (.cst (.str (st [97, 120]))) (.cons (.cst (.str (st [98, 111]))) (.cons (.cst (.str (st [99, 121]))) (.cons (.cst (.str (st [100, 111, 116]))) (.cons (.cst (.str (st [101, 108, 107]))) (.cons (.cst (.str (st [102, 105, 103]))) .nil)))))))) (.cons (.asg 4 (.lst .nil)) (.cons (.for (.nm 5) (.val (.slc (.ex (.var 0)) (.cst (.int 2)) (.bin .Add (.ex (.cst (.int 2))) (.ex (.var 2))))) (.cons (.asg 6 (.idx (.ex (.lst (.cons (.bin .Add (.ex (.cst (.int 1))) (.ex (.bin .Mod (.ex (.var 5)) (.ex (.cst (.int 99)))))) (.cons (.bin .Add (.ex (.cst (.int 1))) (.ex (.bin .Mod (.ex (.var 5)) (.ex (.cst (.int 12)))))) (.cons (.idx (.ex (.tup (.cons (.cst (.int 3)) (.cons (.cst (.int 6)) (.cons (.cst (.int 12)) (.cons (.cst (.int 24)) (.cons (.cst (.int 48)) (.cons (.cst (.int 96)) .nil)))))))) (.bin .Mod (.ex (.var 5)) (.ex (.cst (.int 6))))) (.cons (.bin .Add (.ex (.cst (.int 20))) (.ex (.bin .Mod (.ex (.var 5)) (.ex (.cst (.int 9)))))) .nil)))))) (.bin .Mod (.ex (.idx (.ex (.var 0)) (.cst (.int 1)))) (.ex (.cst (.int 4)))))) (.cons (.asg 7 (.idx (.ex (.lst (.cons (.bin .Mod (.ex (.bin .FloorDiv (.ex (.var 5)) (.ex (.cst (.int 100))))) (.ex (.cst (.int 4)))) (.cons (.bin .Mod (.ex (.bin .FloorDiv (.ex (.var 5)) (.ex (.cst (.int 100))))) (.ex (.cst (.int 21)))) (.cons (.bin .Mult (.ex (.bin .Mod (.ex (.bin .FloorDiv (.ex (.var 5)) (.ex (.cst (.int 100))))) (.ex (.cst (.int 2))))) (.ex (.cst (.int 3)))) (.cons (.cst (.int 1)) .nil)))))) (.bin .Mod (.ex (.bin .FloorDiv (.ex (.idx (.ex (.var 0)) (.cst (.int 1)))) (.ex (.cst (.int 4))))) (.ex (.cst (.int 4)))))) (.cons (.apop 4 3 (.bin .Mod (.ex (.bin .FloorDiv (.ex (.var 5)) (.ex (.cst (.int 13))))) (.ex (.len (.bo 3)))) (.cons (.var 6) (.cons (.var 7) .nil))) .nil)))) (.cons (.shr 4) (.cons (.ret (.call 18 (.cons (.var 4) (.cons (.slc (.ex (.var 0)) (.cst (.int 8)) (.cst (.int 22))) .nil)))) .nil))))))
def F19 : Fn := ⟨2, 8, b19, false⟩
/-- _law_strands: 0 tree, 1 strands, 2 child -/
def b20 : Ss := (.cons (.ife (.isi (.ex (.idx (.ex (.var 0)) (.cst (.int 0)))) [.str]) (.cons (.ret (.lst (.cons (.var 0) .nil))) .nil) .nil) (.cons (.asg 1 (.lst .nil)) (.cons (.shr 1) (.cons (.for (.nm 2) (.vr 0) (.cons (.asg 1 (.bin .Add (.ex (.var 1)) (.ex (.call 20 (.cons (.var 2) .nil))))) .nil)) (.cons (.ret (.var 1)) .nil)))))
def F20 : Fn := ⟨1, 3, b20, false⟩
/-- divide: 0 load, 1 count, 2 one, 3 other, 4 top, 5 bottom -/
def b24 : Ss := (.cons (.par [2, 3] (.cons (.idx (.ex (.var 0)) (.cst (.int 0))) (.cons (.bin .Mult (.ex (.idx (.ex (.var 0)) (.cst (.int 1)))) (.ex (.var 1))) .nil))) (.cons (.par [4, 5] (.cons (.var 2) (.cons (.var 3) .nil))) (.cons (.whl (.cmp .Gt (.ex (.var 3)) (.ex (.cst (.int 0)))) (.cons (.par [2, 3] (.cons (.var 3) (.cons (.bin .Mod (.ex (.var 2)) (.ex (.var 3))) .nil))) .nil)) (.cons (.ret (.tup (.cons (.bin .FloorDiv (.ex (.var 4)) (.ex (.var 2))) (.cons (.bin .FloorDiv (.ex (.var 5)) (.ex (.var 2))) .nil)))) .nil))))
def F24 : Fn := ⟨2, 6, b24, false⟩
/-- carried_by: 0 tree, 1 load, 2 names, 3 holding, 4 child, 5 strand, 6 result -/
def b25 : Ss := (.cons (.ife (.call 4 (.cons (.var 0) .nil)) (.cons (.ret (.ife (.cmp .In (.ex (.idx (.ex (.var 0)) (.cst (.int 0)))) (.ex (.var 2))) (.dc1 (.idx (.ex (.var 0)) (.cst (.int 0))) (.var 1)) .dc0)) .nil) .nil) (.cons (.asg 3 (.cpr (.var 4) (.nm 4) (.vr 0) (.cons (.blt .any1 (.cons (.cpr (.cmp .In (.ex (.idx (.ex (.var 5)) (.cst (.int 0)))) (.ex (.var 2))) (.nm 5) (.val (.call 5 (.cons (.var 4) .nil))) .nil) .nil)) .nil))) (.cons (.shr 3) (.cons (.asg 6 .dc0) (.cons (.for (.nm 4) (.vr 3) (.cons (.upd 6 (.call 25 (.cons (.var 4) (.cons (.call 24 (.cons (.var 1) (.cons (.len (.ex (.var 3))) .nil))) (.cons (.var 2) .nil))))) .nil)) (.cons (.shr 6) (.cons (.ret (.var 6)) .nil)))))))
def F25 : Fn := ⟨3, 7, b25, false⟩
/-- settle: 0 rig, 1 load, 2 strengths, 3 names, 4 carried, 5 kept, 6 name -/
def b26 : Ss := (.cons (.asg 3 (.blt .list1 (.cons (.var 2) .nil))) (.cons (.shr 3) (.cons (.whl (.cst (.bool true)) (.cons (.asg 4 (.call 25 (.cons (.var 0) (.cons (.tup (.cons (.var 1) (.cons (.cst (.int 1)) .nil))) (.cons (.var 3) .nil))))) (.cons (.asg 5 (.cpr (.var 6) (.nm 6) (.vr 3) (.cons (.cmp .LtE (.ex (.idx (.ex (.idx (.ex (.var 4)) (.var 6))) (.cst (.int 0)))) (.ex (.bin .Mult (.ex (.idx (.ex (.var 2)) (.var 6))) (.ex (.idx (.ex (.idx (.ex (.var 4)) (.var 6))) (.cst (.int 1))))))) .nil))) (.cons (.shr 5) (.cons (.ife (.cmp .Eq (.ex (.len (.ex (.var 5)))) (.ex (.len (.ex (.var 3))))) (.cons (.ret (.var 4)) .nil) .nil) (.cons (.asg 3 (.var 5)) .nil)))))) .nil)))
def F26 : Fn := ⟨3, 7, b26, false⟩
/-- initial_strengths: 0 rig, 1 strand -/
def b27 : Ss := (.cons (.ret (.dcp (.idx (.ex (.var 1)) (.cst (.int 0))) (.idx (.ex (.var 1)) (.cst (.int 1))) (.nm 1) (.val (.call 5 (.cons (.var 0) .nil))))) .nil)
def F27 : Fn := ⟨1, 2, b27, false⟩
/-- lift: 0 rig, 1 strengths, 2 load, 3 carried, 4 wears, 5 strand, 6 name -/
def b28 : Ss := (.cons (.asg 3 (.call 26 (.cons (.var 0) (.cons (.var 2) (.cons (.var 1) .nil))))) (.cons (.asg 4 (.dcp (.idx (.ex (.var 5)) (.cst (.int 0))) (.idx (.ex (.var 5)) (.cst (.int 2))) (.nm 5) (.val (.call 5 (.cons (.var 0) .nil))))) (.cons (.ret (.tup (.cons (.dcp (.var 6) (.bin .Sub (.ex (.idx (.ex (.var 1)) (.var 6))) (.ex (.idx (.ex (.var 4)) (.var 6)))) (.nm 6) (.vr 3)) (.cons (.var 3) .nil)))) .nil)))
def F28 : Fn := ⟨3, 7, b28, false⟩
/-- simulate: 0 rig, 1 sequence, 2 steps, 3 strengths, 4 load, 5 after, 6 carried -/
def b29 : Ss := (.cons (.par [2, 3] (.cons (.lst .nil) (.cons (.call 27 (.cons (.var 0) .nil)) .nil))) (.cons (.for (.nm 4) (.vr 1) (.cons (.ife (.cmp .NotEq (.ex (.var 3)) (.ex .dc0)) (.cons (.unp (.tp (.cons (.nm 5) (.cons (.nm 6) .nil))) (.call 28 (.cons (.var 0) (.cons (.var 3) (.cons (.var 4) .nil))))) (.cons (.app 2 (.tup (.cons (.var 3) (.cons (.var 5) (.cons (.var 6) .nil))))) (.cons (.asg 3 (.var 5)) .nil))) .nil) .nil)) (.cons (.shr 2) (.cons (.ret (.var 2)) .nil))))
def F29 : Fn := ⟨2, 7, b29, false⟩
/-- lift_count: 0 rig, 1 sequence, 2 before, 3 after, 4 carried -/
def b30 : Ss := (.cons (.ret (.len (.ex (.cpr (.cst (.int 1)) (.tp (.cons (.nm 2) (.cons (.nm 3) (.cons (.nm 4) .nil)))) (.val (.call 29 (.cons (.var 0) (.cons (.var 1) .nil)))) (.cons (.cmp .NotEq (.ex (.var 3)) (.ex .dc0)) .nil))))) .nil)
def F30 : Fn := ⟨2, 5, b30, false⟩
/-- _law_divisors: 0 tree, 1 names, 2 parts, 3 child, 4 part, 5 result, 6 name -/
def b33 : Ss := (.cons (.ife (.isi (.ex (.idx (.ex (.var 0)) (.cst (.int 0)))) [.str]) (.cons (.ret (.ife (.cmp .In (.ex (.idx (.ex (.var 0)) (.cst (.int 0)))) (.ex (.var 1))) (.dc1 (.idx (.ex (.var 0)) (.cst (.int 0))) (.cst (.int 1))) .dc0)) .nil) .nil) (.cons (.asg 2 (.cpr (.call 33 (.cons (.var 3) (.cons (.var 1) .nil))) (.nm 3) (.vr 0) .nil)) (.cons (.shr 2) (.cons (.asg 2 (.cpr (.var 4) (.nm 4) (.vr 2) (.cons (.cmp .NotEq (.ex (.var 4)) (.ex .dc0)) .nil))) (.cons (.shr 2) (.cons (.asg 5 .dc0) (.cons (.for (.nm 4) (.vr 2) (.cons (.for (.nm 6) (.vr 4) (.cons (.six 5 (.var 6) (.bin .Mult (.ex (.len (.ex (.var 2)))) (.ex (.idx (.ex (.var 4)) (.var 6))))) .nil)) .nil)) (.cons (.shr 5) (.cons (.ret (.var 5)) .nil)))))))))
def F33 : Fn := ⟨2, 7, b33, false⟩
/-- _law_holding: 0 rig, 1 powers, 2 load, 3 names, 4 previous, 5 divisors, 6 name -/
def b34 : Ss := (.cons (.par [3, 4] (.cons (.blt .list1 (.cons (.var 1) .nil)) (.cons (.lst (.cons (.cst .none) .nil)) .nil))) (.cons (.shr 3) (.cons (.shr 4) (.cons (.whl (.cmp .NotEq (.ex (.var 3)) (.ex (.var 4))) (.cons (.asg 4 (.var 3)) (.cons (.asg 5 (.call 33 (.cons (.var 0) (.cons (.var 3) .nil)))) (.cons (.asg 3 (.cpr (.var 6) (.nm 6) (.vr 3) (.cons (.cmp .LtE (.ex (.var 2)) (.ex (.bin .Mult (.ex (.idx (.ex (.var 1)) (.var 6))) (.ex (.idx (.ex (.var 5)) (.var 6)))))) .nil))) (.cons (.shr 3) .nil))))) (.cons (.ret (.call 33 (.cons (.var 0) (.cons (.var 3) .nil)))) .nil)))))
def F34 : Fn := ⟨3, 7, b34, false⟩
/-- _law_steps: 0 rig, 1 sequence, 2 powers, 3 strand, 4 wears, 5 steps, 6 load, 7 divisors, 8 after, 9 name -/
def b35 : Ss := (.cons (.asg 2 (.blt .dict1 (.cons (.cpr (.slc (.ex (.var 3)) (.cst .none) (.cst (.int 2))) (.nm 3) (.val (.call 20 (.cons (.var 0) .nil))) .nil) .nil))) (.cons (.shr 2) (.cons (.par [4, 5] (.cons (.blt .dict1 (.cons (.cpr (.tup (.cons (.idx (.ex (.var 3)) (.cst (.int 0))) (.cons (.idx (.ex (.var 3)) (.cst (.int 2))) .nil))) (.nm 3) (.val (.call 20 (.cons (.var 0) .nil))) .nil) .nil)) (.cons (.lst .nil) .nil))) (.cons (.shr 4) (.cons (.for (.nm 6) (.vr 1) (.cons (.ife (.cmp .NotEq (.ex (.var 2)) (.ex .dc0)) (.cons (.asg 7 (.call 34 (.cons (.var 0) (.cons (.var 2) (.cons (.var 6) .nil))))) (.cons (.asg 8 (.blt .dict1 (.cons (.cpr (.tup (.cons (.var 9) (.cons (.bin .Sub (.ex (.idx (.ex (.var 2)) (.var 9))) (.ex (.idx (.ex (.var 4)) (.var 9)))) .nil))) (.nm 9) (.vr 7) .nil) .nil))) (.cons (.shr 8) (.cons (.app 5 (.tup (.cons (.var 2) (.cons (.var 7) (.cons (.var 8) .nil))))) (.cons (.asg 2 (.var 8)) .nil))))) .nil) .nil)) (.cons (.shr 5) (.cons (.ret (.var 5)) .nil)))))))
def F35 : Fn := ⟨2, 10, b35, false⟩
/-- _law_left: 0 rig, 1 sequence, 2 steps, 3 strand -/
def b36 : Ss := (.cons (.asg 2 (.call 35 (.cons (.var 0) (.cons (.var 1) .nil)))) (.cons (.ret (.ife (.cmp .NotEq (.ex (.var 2)) (.ex (.lst .nil))) (.idx (.ex (.idx (.ex (.var 2)) (.cst (.int (-1))))) (.cst (.int 2))) (.blt .dict1 (.cons (.cpr (.slc (.ex (.var 3)) (.cst .none) (.cst (.int 2))) (.nm 3) (.val (.call 20 (.cons (.var 0) .nil))) .nil) .nil)))) .nil))
def F36 : Fn := ⟨2, 4, b36, false⟩
/-- _law_capacity: 0 rig, 1 subsets, 2 powers, 3 strand, 4 name, 5 subset, 6 best, 7 divisors -/
def b37 : Ss := (.cons (.asg 1 (.lst (.cons (.tup .nil) .nil))) (.cons (.shr 1) (.cons (.asg 2 (.blt .dict1 (.cons (.cpr (.slc (.ex (.var 3)) (.cst .none) (.cst (.int 2))) (.nm 3) (.val (.call 20 (.cons (.var 0) .nil))) .nil) .nil))) (.cons (.shr 2) (.cons (.for (.nm 4) (.vr 2) (.cons (.asg 1 (.bin .Add (.ex (.var 1)) (.ex (.cpr (.bin .Add (.ex (.var 5)) (.ex (.tup (.cons (.var 4) .nil)))) (.nm 5) (.vr 1) .nil)))) .nil)) (.cons (.asg 6 (.cst (.int 0))) (.cons (.for (.nm 5) (.val (.slc (.ex (.var 1)) (.cst (.int 1)) (.cst .none))) (.cons (.asg 7 (.call 33 (.cons (.var 0) (.cons (.var 5) .nil)))) (.cons (.asg 6 (.blt .max2 (.cons (.var 6) (.cons (.blt .min1 (.cons (.cpr (.bin .Mult (.ex (.idx (.ex (.var 7)) (.var 4))) (.ex (.idx (.ex (.var 2)) (.var 4)))) (.nm 4) (.vr 5) .nil) .nil)) .nil)))) .nil))) (.cons (.ret (.var 6)) .nil))))))))
def F37 : Fn := ⟨1, 8, b37, false⟩
/-- _law_loads: 0 digits, 1 limit, 2 top, 3 wide, 4 loads, 5 digit -/
def b38 : Ss := (.cons (.asg 3 (.idx (.ex (.lst (.cons (.var 2) (.cons (.bin .Add (.ex (.cst (.int 1))) (.ex (.bin .FloorDiv (.ex (.var 2)) (.ex (.cst (.int 2)))))) (.cons (.bin .Add (.ex (.cst (.int 1))) (.ex (.bin .FloorDiv (.ex (.bin .Mult (.ex (.cst (.int 3))) (.ex (.var 2)))) (.ex (.cst (.int 4)))))) (.cons (.bin .Add (.ex (.cst (.int 1))) (.ex (.bin .FloorDiv (.ex (.var 2)) (.ex (.cst (.int 3)))))) .nil)))))) (.bin .Mod (.ex (.idx (.ex (.var 0)) (.cst (.int 0)))) (.ex (.cst (.int 4)))))) (.cons (.asg 4 (.lst .nil)) (.cons (.for (.nm 5) (.val (.slc (.ex (.var 0)) (.cst (.int 2)) (.bin .Add (.ex (.cst (.int 2))) (.ex (.bin .Mod (.ex (.idx (.ex (.var 0)) (.cst (.int 1)))) (.ex (.bin .Add (.ex (.var 1)) (.ex (.cst (.int 1)))))))))) (.cons (.app 4 (.ife (.or (.cons (.cmp .Eq (.bo 4) (.ex (.lst .nil))) (.cons (.cmp .Gt (.ex (.bin .Mod (.ex (.bin .FloorDiv (.ex (.var 5)) (.ex (.cst (.int 7))))) (.ex (.cst (.int 4))))) (.ex (.cst (.int 0)))) .nil))) (.blt .min2 (.cons (.cst (.int 600)) (.cons (.bin .Add (.ex (.cst (.int 1))) (.ex (.bin .Mod (.ex (.var 5)) (.ex (.var 3))))) .nil))) (.idx (.bo 4) (.cst (.int (-1)))))) .nil)) (.cons (.shr 4) (.cons (.ret (.blt .tuple1 (.cons (.blt .sorted1 (.cons (.var 4) .nil)) .nil))) .nil)))))
def F38 : Fn := ⟨3, 6, b38, false⟩
/-- _law_works: 0 rig, 1 sequence -/
def b47 : Ss := (.cons (.ret (.cmp .NotEq (.ex (.call 36 (.cons (.var 0) (.cons (.var 1) .nil)))) (.ex .dc0))) .nil)
def F47 : Fn := ⟨2, 2, b47, false⟩
/-- succeeds: 0 rig, 1 sequence -/
def b58 : Ss := (.cons (.ret (.cmp .Eq (.ex (.call 30 (.cons (.var 0) (.cons (.var 1) .nil)))) (.ex (.len (.ex (.var 1)))))) .nil)
def F58 : Fn := ⟨2, 2, b58, false⟩
/-- _law_orders: 0 loads, 1 orders, 2 turn, 3 longer, 4 order, 5 load -/
def b62 : Ss := (.cons (.tn1 1 (.tup .nil) (.cst (.bool true))) (.cons (.for (.nm 2) (.rg1 (.len (.ex (.var 0)))) (.cons (.tnw 3) (.cons (.tfk (.nm 4) 1 (.cons (.for (.nm 5) (.vr 0) (.cons (.ife (.cmp .Lt (.ex (.cnt (.ex (.var 4)) (.var 5))) (.ex (.cnt (.ex (.var 0)) (.var 5)))) (.cons (.tpt 3 (.bin .Add (.ex (.var 4)) (.ex (.tup (.cons (.var 5) .nil)))) (.cst (.bool true))) .nil) .nil) .nil)) .nil)) (.cons (.tmv 1 3) .nil)))) (.cons (.ret (.tsr 1)) .nil)))
def F62 : Fn := ⟨1, 6, b62, false⟩
/-- all_orders: 0 loads, 1 orders, 2 turn, 3 longer, 4 order, 5 unused, 6 load -/
def b65 : Ss := (.cons (.asg 1 (.lst (.cons (.tup .nil) .nil))) (.cons (.shr 1) (.cons (.for (.nm 2) (.rg1 (.len (.ex (.var 0)))) (.cons (.asg 3 (.lst .nil)) (.cons (.shr 3) (.cons (.for (.nm 4) (.vr 1) (.cons (.asg 5 (.blt .list1 (.cons (.var 0) .nil))) (.cons (.for (.nm 6) (.vr 4) (.cons (.rmv 5 (.var 6)) .nil)) (.cons (.shr 5) (.cons (.asg 3 (.bin .Add (.ex (.var 3)) (.ex (.cpr (.bin .Add (.ex (.var 4)) (.ex (.tup (.cons (.var 6) .nil)))) (.nm 6) (.val (.blt .sortset (.cons (.var 5) .nil))) .nil)))) .nil))))) (.cons (.asg 1 (.var 3)) .nil))))) (.cons (.ret (.var 1)) .nil))))
def F65 : Fn := ⟨1, 7, b65, false⟩
/-- successful_orders: 0 rig, 1 loads, 2 order -/
def b66 : Ss := (.cons (.ret (.cpr (.var 2) (.nm 2) (.val (.call 65 (.cons (.var 1) .nil))) (.cons (.call 58 (.cons (.var 0) (.cons (.var 2) .nil))) .nil))) .nil)
def F66 : Fn := ⟨2, 3, b66, false⟩
/-- count_orders: 0 rig, 1 loads -/
def b69 : Ss := (.cons (.ret (.len (.ex (.call 66 (.cons (.var 0) (.cons (.var 1) .nil)))))) .nil)
def F69 : Fn := ⟨2, 2, b69, false⟩
/-- first_order: 0 rig, 1 loads, 2 orders -/
def b70 : Ss := (.cons (.asg 2 (.call 66 (.cons (.var 0) (.cons (.var 1) .nil)))) (.cons (.ret (.ife (.cmp .NotEq (.ex (.var 2)) (.ex (.lst .nil))) (.idx (.ex (.var 2)) (.cst (.int 0))) (.cst .none))) .nil))
def F70 : Fn := ⟨2, 3, b70, false⟩
/-- law: 0 script, 1 index, 2 rig, 3 digits, 4 top, 5 turn, 6 loads, 7 valid, 8 order, 9 count -/
def b71 : Ss := (.cons (.for (.nm 1) (.val (.tup (.cons (.cst (.int 0)) (.cons (.cst (.int 2)) (.cons (.cst (.int 4)) (.cons (.cst (.int 6)) .nil)))))) (.cons (.asg 2 (.call 19 (.cons (.call 9 (.cons (.var 0) (.cons (.var 1) (.cons (.cst (.int 60)) (.cons (.cst (.int 27720)) .nil))))) (.cons (.cst (.int 6)) .nil)))) (.cons (.asg 3 (.call 9 (.cons (.var 0) (.cons (.bin .Add (.ex (.var 1)) (.ex (.cst (.int 1)))) (.cons (.cst (.int 60)) (.cons (.cst (.int 27720)) .nil)))))) (.cons (.asg 4 (.call 37 (.cons (.var 2) .nil))) (.cons (.for (.nm 5) (.rg1 (.cst (.int 4))) (.cons (.asg 6 (.call 38 (.cons (.slc (.ex (.var 3)) (.bin .Mult (.ex (.cst (.int 10))) (.ex (.var 5))) (.cst .none)) (.cons (.cst (.int 5)) (.cons (.var 4) .nil))))) (.cons (.asg 7 (.cpr (.var 8) (.nm 8) (.val (.call 62 (.cons (.var 6) .nil))) (.cons (.call 47 (.cons (.var 2) (.cons (.var 8) .nil))) .nil))) (.cons (.shr 7) (.cons (.asg 9 (.call 69 (.cons (.var 2) (.cons (.var 6) .nil)))) (.cons (.ife (.or (.cons (.cmp .NotEq (.ex (.var 9)) (.ex (.len (.ex (.var 7))))) (.cons (.isi (.ex (.var 9)) [.bool]) .nil))) (.cons (.ret (.cst (.bool false))) .nil) .nil) (.cons (.ife (.cmp .NotEq (.ex (.call 70 (.cons (.var 2) (.cons (.var 6) .nil)))) (.ex (.idx (.ex (.bin .Add (.ex (.var 7)) (.ex (.lst (.cons (.cst .none) .nil))))) (.cst (.int 0))))) (.cons (.ret (.cst (.bool false))) .nil) .nil) .nil))))))) (.cons (.ife (.or (.cons (.cmp .NotEq (.ex (.call 69 (.cons (.var 2) (.cons (.tup .nil) .nil)))) (.ex (.cst (.int 1)))) (.cons (.cmp .NotEq (.ex (.call 70 (.cons (.var 2) (.cons (.tup .nil) .nil)))) (.ex (.tup .nil))) .nil))) (.cons (.ret (.cst (.bool false))) .nil) .nil) .nil)))))) (.cons (.asg 2 (.tup (.cons (.tup (.cons (.cst (.str (st [97]))) (.cons (.cst (.int 9)) (.cons (.cst (.int 0)) .nil)))) (.cons (.tup (.cons (.cst (.str (st [98]))) (.cons (.cst (.int 5)) (.cons (.cst (.int 5)) .nil)))) .nil)))) (.cons (.ife (.or (.cons (.cmp .NotEq (.ex (.call 69 (.cons (.var 2) (.cons (.tup (.cons (.cst (.int 9)) (.cons (.cst (.int 10)) .nil))) .nil)))) (.ex (.cst (.int 1)))) (.cons (.cmp .NotEq (.ex (.call 70 (.cons (.var 2) (.cons (.tup (.cons (.cst (.int 9)) (.cons (.cst (.int 10)) .nil))) .nil)))) (.ex (.tup (.cons (.cst (.int 10)) (.cons (.cst (.int 9)) .nil))))) .nil))) (.cons (.ret (.cst (.bool false))) .nil) .nil) (.cons (.ret (.and (.cons (.cmp .Eq (.ex (.call 69 (.cons (.var 2) (.cons (.tup (.cons (.cst (.int 9)) (.cons (.cst (.int 9)) .nil))) .nil)))) (.ex (.cst (.int 1)))) (.cons (.cmp .Is (.ex (.call 70 (.cons (.var 2) (.cons (.tup (.cons (.cst (.int 10)) (.cons (.cst (.int 10)) .nil))) .nil)))) (.ex (.cst .none))) .nil)))) .nil))))
def F71 : Fn := ⟨1, 10, b71, false⟩
def b0 : Ss := (.cons (.ret (.and (.cons (.isi (.ex (.var 0)) [.int]) (.cons (.not (.isi (.ex (.var 0)) [.bool])) (.cons (.chn .LtE .LtE (.var 1) (.var 0) (.var 2)) .nil))))) .nil)
def F0 : Fn := ⟨3, 3, b0, false⟩
def b1 : Ss := (.cons (.asg 1 (.cst (.str (st [97, 98, 99, 100, 101, 102, 103, 104, 105, 106, 107, 108, 109, 110, 111, 112, 113, 114, 115, 116, 117, 118, 119, 120, 121, 122])))) (.cons (.ret (.and (.cons (.isi (.ex (.var 0)) [.str]) (.cons (.chn .LtE .LtE (.cst (.int 1)) (.len (.ex (.var 0))) (.cst (.int 8))) (.cons (.blt .all1 (.cons (.cpr (.cmp .In (.ex (.var 2)) (.ex (.var 1))) (.nm 2) (.vr 0) .nil) .nil)) .nil))))) .nil))
def F1 : Fn := ⟨1, 3, b1, false⟩
def b2 : Ss := (.cons (.ife (.or (.cons (.not (.isi (.ex (.var 0)) [.tuple])) (.cons (.cmp .NotEq (.ex (.len (.ex (.var 0)))) (.ex (.cst (.int 3)))) (.cons (.not (.call 1 (.cons (.idx (.ex (.var 0)) (.cst (.int 0))) .nil))) .nil)))) (.cons (.ret (.cst (.bool false))) .nil) .nil) (.cons (.ret (.and (.cons (.call 0 (.cons (.idx (.ex (.var 0)) (.cst (.int 1))) (.cons (.cst (.int 1)) (.cons (.cst (.int 99)) .nil)))) (.cons (.call 0 (.cons (.idx (.ex (.var 0)) (.cst (.int 2))) (.cons (.cst (.int 0)) (.cons (.cst (.int 20)) .nil)))) .nil)))) .nil))
def F2 : Fn := ⟨1, 1, b2, false⟩
def b3 : Ss := (.cons (.ife (.call 2 (.cons (.var 0) .nil)) (.cons (.ret (.cst (.bool true))) .nil) .nil) (.cons (.ret (.and (.cons (.isi (.ex (.var 0)) [.tuple]) (.cons (.cmp .Gt (.ex (.len (.ex (.var 0)))) (.ex (.cst (.int 1)))) (.cons (.blt .all1 (.cons (.cpr (.call 3 (.cons (.var 1) .nil)) (.nm 1) (.vr 0) .nil) .nil)) .nil))))) .nil))
def F3 : Fn := ⟨1, 2, b3, false⟩
def b10 : Ss := (.cons (.ret (.and (.cons (.isi (.ex (.var 0)) [.int]) (.cons (.not (.isi (.ex (.var 0)) [.bool])) (.cons (.chn .LtE .LtE (.var 1) (.var 0) (.var 2)) .nil))))) .nil)
def F10 : Fn := ⟨3, 3, b10, false⟩
def b11 : Ss := (.cons (.ret (.and (.cons (.isi (.ex (.var 0)) [.bool]) (.cons (.cmp .Eq (.ex (.var 0)) (.ex (.var 1))) .nil)))) .nil)
def F11 : Fn := ⟨2, 2, b11, false⟩
def b31 : Ss := (.cons (.asg 2 (.call 29 (.cons (.var 0) (.cons (.var 1) .nil)))) (.cons (.asg 3 (.ife (.cmp .NotEq (.ex (.var 2)) (.ex (.lst .nil))) (.idx (.ex (.idx (.ex (.var 2)) (.cst (.int (-1))))) (.cst (.int 1))) (.call 27 (.cons (.var 0) .nil)))) (.cons (.ret (.blt .tuple1 (.cons (.blt .sortitems (.cons (.var 3) .nil)) .nil))) .nil)))
def F31 : Fn := ⟨2, 4, b31, false⟩
def b59 : Ss := (.cons (.ret (.call 58 (.cons (.var 0) (.cons (.rev (.ex (.var 1))) .nil)))) .nil)
def F59 : Fn := ⟨2, 2, b59, false⟩
def b60 : Ss := (.cons (.ret (.blt .tuple1 (.cons (.cpr (.var 2) (.tp (.cons (.nm 2) (.cons (.nm 3) .nil))) (.val (.call 31 (.cons (.var 0) (.cons (.var 1) .nil)))) .nil) .nil))) .nil)
def F60 : Fn := ⟨2, 4, b60, false⟩
def b61 : Ss := (.cons (.ret (.ife (.call 59 (.cons (.var 0) (.cons (.var 1) .nil))) (.call 60 (.cons (.var 0) (.cons (.rev (.ex (.var 1))) .nil))) (.cst .none))) .nil)
def F61 : Fn := ⟨2, 2, b61, false⟩
def b63 : Ss := (.cons (.for (.nm 1) (.val (.tup (.cons (.cst (.int 0)) (.cons (.cst (.int 2)) (.cons (.cst (.int 4)) (.cons (.cst (.int 6)) .nil)))))) (.cons (.asg 2 (.call 19 (.cons (.call 9 (.cons (.var 0) (.cons (.var 1) (.cons (.cst (.int 60)) (.cons (.cst (.int 27720)) .nil))))) (.cons (.cst (.int 6)) .nil)))) (.cons (.asg 3 (.call 9 (.cons (.var 0) (.cons (.bin .Add (.ex (.var 1)) (.ex (.cst (.int 1)))) (.cons (.cst (.int 60)) (.cons (.cst (.int 27720)) .nil)))))) (.cons (.asg 4 (.call 37 (.cons (.var 2) .nil))) (.cons (.for (.nm 5) (.rg1 (.cst (.int 3))) (.cons (.asg 6 (.call 38 (.cons (.slc (.ex (.var 3)) (.bin .Mult (.ex (.cst (.int 12))) (.ex (.var 5))) (.cst .none)) (.cons (.cst (.int 5)) (.cons (.var 4) .nil))))) (.cons (.asg 7 (.cpr (.blt .sorted1 (.cons (.call 36 (.cons (.var 2) (.cons (.var 8) .nil))) .nil)) (.nm 8) (.val (.call 62 (.cons (.var 6) .nil))) .nil)) (.cons (.shr 7) (.cons (.asg 9 (.cpr (.var 10) (.nm 10) (.vr 7) (.cons (.cmp .NotEq (.ex (.var 10)) (.ex (.lst .nil))) .nil))) (.cons (.shr 9) (.cons (.asg 11 (.call 61 (.cons (.var 2) (.cons (.var 6) .nil)))) (.cons (.ife (.not (.call 11 (.cons (.call 59 (.cons (.var 2) (.cons (.var 6) .nil))) (.cons (.cmp .NotEq (.ex (.var 9)) (.ex (.lst .nil))) .nil)))) (.cons (.ret (.cst (.bool false))) .nil) .nil) (.cons (.ife (.or (.cons (.cmp .NotEq (.ex (.call 47 (.cons (.var 2) (.cons (.rev (.ex (.var 6))) .nil)))) (.ex (.cmp .NotEq (.ex (.var 9)) (.ex (.lst .nil))))) (.cons (.cmp .NotEq (.ex (.cmp .Is (.ex (.var 11)) (.ex (.cst .none)))) (.ex (.cmp .Eq (.ex (.var 9)) (.ex (.lst .nil))))) .nil))) (.cons (.ret (.cst (.bool false))) .nil) .nil) (.cons (.ife (.cmp .IsNot (.ex (.var 11)) (.ex (.cst .none))) (.cons (.ife (.cmp .NotEq (.ex (.var 11)) (.ex (.blt .tuple1 (.cons (.blt .sorted1 (.cons (.call 36 (.cons (.var 2) (.cons (.rev (.ex (.var 6))) .nil))) .nil)) .nil)))) (.cons (.ret (.cst (.bool false))) .nil) .nil) (.cons (.for (.nm 10) (.vr 9) (.cons (.ife (.cmp .NotEq (.ex (.cpr (.var 12) (.nm 12) (.vr 10) (.cons (.cmp .NotIn (.ex (.var 12)) (.ex (.var 11))) .nil))) (.ex (.lst .nil))) (.cons (.ret (.cst (.bool false))) .nil) .nil) .nil)) .nil)) .nil) .nil)))))))))) .nil))))) (.cons (.ret (.cst (.bool true))) .nil))
def F63 : Fn := ⟨1, 13, b63, false⟩
def b67 : Ss := (.cons (.asg 2 (.call 66 (.cons (.var 0) (.cons (.var 1) .nil)))) (.cons (.ife (.cmp .Eq (.ex (.var 2)) (.ex (.lst .nil))) (.cons (.ret (.cst .none)) .nil) .nil) (.cons (.asg 3 (.cpr (.call 60 (.cons (.var 0) (.cons (.var 4) .nil))) (.nm 4) (.vr 2) .nil)) (.cons (.shr 3) (.cons (.ret (.blt .tuple1 (.cons (.cpr (.var 5) (.nm 5) (.val (.idx (.ex (.var 3)) (.cst (.int 0)))) (.cons (.blt .all1 (.cons (.cpr (.cmp .In (.ex (.var 5)) (.ex (.var 6))) (.nm 6) (.vr 3) .nil) .nil)) .nil)) .nil))) .nil)))))
def F67 : Fn := ⟨2, 7, b67, false⟩
def b82 : Ss := (.cons (.ife (.isi (.ex (.idx (.ex (.var 0)) (.cst (.int 0)))) [.str]) (.cons (.ret (.ife (.cmp .Eq (.ex (.idx (.ex (.var 0)) (.cst (.int 0)))) (.ex (.var 1))) (.var 2) (.var 0))) .nil) .nil) (.cons (.ret (.blt .tuple1 (.cons (.cpr (.call 82 (.cons (.var 3) (.cons (.var 1) (.cons (.var 2) .nil)))) (.nm 3) (.vr 0) .nil) .nil))) .nil))
def F82 : Fn := ⟨3, 4, b82, false⟩
def b83 : Ss := (.cons (.ret (.call 47 (.cons (.var 0) (.cons (.rev (.ex (.blt .tuple1 (.cons (.blt .sorted1 (.cons (.var 1) .nil)) .nil)))) .nil)))) .nil)
def F83 : Fn := ⟨2, 2, b83, false⟩
def b89 : Ss := (.cons (.ife (.call 4 (.cons (.var 0) .nil)) (.cons (.ret (.ife (.cmp .Eq (.ex (.idx (.ex (.var 0)) (.cst (.int 0)))) (.ex (.var 1))) (.var 2) (.var 0))) .nil) .nil) (.cons (.ret (.blt .tuple1 (.cons (.cpr (.call 89 (.cons (.var 3) (.cons (.var 1) (.cons (.var 2) .nil)))) (.nm 3) (.vr 0) .nil) .nil))) .nil))
def F89 : Fn := ⟨3, 4, b89, false⟩
def b90 : Ss := (.cons (.ret (.idx (.ex (.cpr (.var 2) (.nm 2) (.val (.call 5 (.cons (.var 0) .nil))) (.cons (.cmp .Eq (.ex (.idx (.ex (.var 2)) (.cst (.int 0)))) (.ex (.var 1))) .nil))) (.cst (.int 0)))) .nil)
def F90 : Fn := ⟨2, 3, b90, false⟩
def b91 : Ss := (.cons (.asg 3 (.idx (.ex (.call 90 (.cons (.var 0) (.cons (.var 1) .nil)))) (.cst (.int 2)))) (.cons (.par [4, 5] (.cons (.cst (.int 1)) (.cons (.bin .Add (.ex (.cst (.int 600))) (.ex (.bin .Mult (.ex (.cst (.int 20))) (.ex (.len (.ex (.var 2))))))) .nil))) (.cons (.whl (.cmp .Lt (.ex (.var 4)) (.ex (.var 5))) (.cons (.asg 6 (.bin .FloorDiv (.ex (.bin .Add (.ex (.var 4)) (.ex (.var 5)))) (.ex (.cst (.int 2))))) (.cons (.ife (.call 59 (.cons (.call 89 (.cons (.var 0) (.cons (.var 1) (.cons (.tup (.cons (.var 1) (.cons (.var 6) (.cons (.var 3) .nil)))) .nil)))) (.cons (.var 2) .nil))) (.cons (.asg 5 (.var 6)) .nil) (.cons (.asg 4 (.bin .Add (.ex (.var 6)) (.ex (.cst (.int 1))))) .nil)) .nil))) (.cons (.ret (.var 4)) .nil))))
def F91 : Fn := ⟨3, 7, b91, false⟩
def b92 : Ss := (.cons (.for (.nm 1) (.val (.tup (.cons (.cst (.int 0)) (.cons (.cst (.int 2)) (.cons (.cst (.int 4)) (.cons (.cst (.int 6)) .nil)))))) (.cons (.asg 2 (.call 19 (.cons (.call 9 (.cons (.var 0) (.cons (.var 1) (.cons (.cst (.int 60)) (.cons (.cst (.int 27720)) .nil))))) (.cons (.cst (.int 6)) .nil)))) (.cons (.asg 3 (.call 9 (.cons (.var 0) (.cons (.bin .Add (.ex (.var 1)) (.ex (.cst (.int 1)))) (.cons (.cst (.int 60)) (.cons (.cst (.int 27720)) .nil)))))) (.cons (.asg 4 (.call 37 (.cons (.var 2) .nil))) (.cons (.for (.nm 5) (.rg1 (.cst (.int 3))) (.cons (.asg 6 (.call 38 (.cons (.slc (.ex (.var 3)) (.bin .Mult (.ex (.cst (.int 12))) (.ex (.var 5))) (.cst .none)) (.cons (.cst (.int 6)) (.cons (.idx (.ex (.lst (.cons (.blt .min2 (.cons (.cst (.int 590)) (.cons (.bin .Mult (.ex (.cst (.int 2))) (.ex (.var 4))) .nil))) (.cons (.var 4) (.cons (.bin .Add (.ex (.cst (.int 1))) (.ex (.bin .FloorDiv (.ex (.var 4)) (.ex (.cst (.int 2)))))) .nil))))) (.var 5)) .nil))))) (.cons (.asg 7 (.call 20 (.cons (.var 2) .nil))) (.cons (.unp (.tp (.cons (.nm 8) (.cons (.nm 9) (.cons (.nm 10) .nil)))) (.idx (.ex (.var 7)) (.bin .Mod (.ex (.idx (.ex (.var 3)) (.bin .Add (.ex (.cst (.int 40))) (.ex (.var 5))))) (.ex (.len (.ex (.var 7))))))) (.cons (.asg 11 (.call 91 (.cons (.var 2) (.cons (.var 8) (.cons (.var 6) .nil))))) (.cons (.ife (.not (.call 10 (.cons (.var 11) (.cons (.cst (.int 1)) (.cons (.cst (.int 2000)) .nil))))) (.cons (.ret (.cst (.bool false))) .nil) .nil) (.cons (.for (.tp (.cons (.nm 12) (.cons (.nm 13) .nil))) (.val (.tup (.cons (.tup (.cons (.var 11) (.cons (.cst (.bool true)) .nil))) (.cons (.tup (.cons (.bin .Sub (.ex (.var 11)) (.ex (.cst (.int 1)))) (.cons (.cst (.bool false)) .nil))) (.cons (.tup (.cons (.bin .Add (.ex (.bin .Add (.ex (.var 11)) (.ex (.cst (.int 1))))) (.ex (.bin .Mod (.ex (.idx (.ex (.var 3)) (.cst (.int 50)))) (.ex (.cst (.int 300)))))) (.cons (.cst (.bool true)) .nil))) .nil))))) (.cons (.asg 14 (.call 82 (.cons (.var 2) (.cons (.var 8) (.cons (.tup (.cons (.var 8) (.cons (.var 12) (.cons (.var 10) .nil)))) .nil))))) (.cons (.ife (.and (.cons (.cmp .GtE (.ex (.var 12)) (.ex (.cst (.int 1)))) (.cons (.cmp .NotEq (.ex (.call 83 (.cons (.var 14) (.cons (.var 6) .nil)))) (.ex (.var 13))) .nil))) (.cons (.ret (.cst (.bool false))) .nil) .nil) .nil))) (.cons (.ife (.cmp .NotEq (.ex (.call 91 (.cons (.call 82 (.cons (.var 2) (.cons (.var 8) (.cons (.tup (.cons (.var 8) (.cons (.bin .Add (.ex (.cst (.int 1))) (.ex (.bin .Mod (.ex (.var 9)) (.ex (.cst (.int 99)))))) (.cons (.var 10) .nil)))) .nil)))) (.cons (.var 8) (.cons (.var 6) .nil))))) (.ex (.var 11))) (.cons (.ret (.cst (.bool false))) .nil) .nil) .nil)))))))) .nil))))) (.cons (.ret (.cmp .Eq (.ex (.call 91 (.cons (.tup (.cons (.tup (.cons (.cst (.str (st [97]))) (.cons (.cst (.int 1)) (.cons (.cst (.int 0)) .nil)))) (.cons (.tup (.cons (.cst (.str (st [98]))) (.cons (.cst (.int 5)) (.cons (.cst (.int 5)) .nil)))) .nil))) (.cons (.cst (.str (st [97]))) (.cons (.tup (.cons (.cst (.int 9)) (.cons (.cst (.int 10)) .nil))) .nil))))) (.ex (.cst (.int 9))))) .nil))
def F92 : Fn := ⟨1, 15, b92, false⟩
end Wr
end

section
set_option Elab.async false
set_option linter.all false
set_option maxRecDepth 100000
set_option maxHeartbeats 4000000
/-! WsA: rules for the evaluator: loops, comprehensions; the script's cells and digits. -/
namespace Wr.P
open PySem
section
variable {T : Tab}
theorem Phi_succ {n f : Nat} {fn : Fn} {ds : List PyData} (h : T.lookup f = some fn) : Phi T (n + 1) f ds = runFn (Phi T n) (frOf T) fn ds := by
  rw [Phi, h]
/-- a call that ends by a return of a def that hands back nothing new -/
theorem run_ret {Ph : Nat → List PyData → Option PyData} {fr : Nat → Bool} {fn : Fn} {ds : List PyData} {d : PyData} {b : Bool} (hl : ds.length = fn.np) (hf : fn.fresh = false) (h : exSs Ph fr (ds.map .sh ++ List.replicate (fn.ns - fn.np) .un) fn.body = some (.rt d b)) : runFn Ph fr fn ds = some d := by
  unfold runFn
  rw [if_pos hl, h]
  simp only [hf, Bool.false_and, Bool.false_eq_true, if_false]
end
/-! loops -/
theorem loopF_inv {tg : Tg} {body : Ev → Option Out} (ds : List PyData) (I : List PyData → Ev → Prop) : ∀ (done rest : List PyData) (env : Ev), done ++ rest = ds → I done env →
    (∀ done d rest env, done ++ d :: rest = ds → I done env → ∃ env1 env2, bindT env tg d = some env1 ∧ body env1 = some (.nx env2) ∧ I (done ++ [d]) env2) → ∃ env', loopF tg body rest env = some (.nx env') ∧ I ds env'
  | done, [], env, e, h, _ => ⟨env, rfl, by rw [List.append_nil] at e; rw [← e]; exact h⟩
  | done, d :: rest, env, e, h, step => by
    obtain ⟨env1, env2, h1, h2, h3⟩ := step done d rest env e h
    obtain ⟨env', h4, h5⟩ := loopF_inv ds I (done ++ [d]) rest env2 (by simp [e]) h3 step
    refine ⟨env', ?_, h5⟩
    rw [loopF, h1]
    simp only [h2, h4]
theorem loopF_all {tg : Tg} {body : Ev → Option Out} {ds : List PyData} {env : Ev} (I : List PyData → Ev → Prop) (h : I [] env)
    (step : ∀ done d rest env, done ++ d :: rest = ds → I done env → ∃ env1 env2, bindT env tg d = some env1 ∧ body env1 = some (.nx env2) ∧ I (done ++ [d]) env2) : ∃ env', loopF tg body ds env = some (.nx env') ∧ I ds env' :=
  loopF_inv ds I [] ds env rfl h step
theorem loopW_inv {c : Ev → Option PyData} {body : Ev → Option Out} (I : Nat → Ev → Prop) : ∀ (n m : Nat) (env : Ev), m < n → I m env →
    (∀ m env, I m env → (c env = some (.bool false)) ∨ (c env = some (.bool true) ∧ ∃ env' m', body env = some (.nx env') ∧ m' < m ∧ I m' env')) → ∃ env' m', loopW c body n env = some (.nx env') ∧ I m' env' ∧ c env' = some (.bool false)
  | 0, m, env, hm, _, _ => by omega
  | n + 1, m, env, hm, h, step => by
    rcases step m env h with e | ⟨e, env1, m1, h1, h2, h3⟩
    · exact ⟨env, m, by rw [loopW, e], h, e⟩
    · obtain ⟨env', m', h4, h5, h6⟩ := loopW_inv I n m1 env1 (by omega) h3 step
      exact ⟨env', m', by rw [loopW, e]; simp only [h1, h4], h5, h6⟩
/-! comprehensions -/
theorem collect_map {f : PyData → Option (Option PyData)} (g : PyData → PyData) : ∀ (ds : List PyData), (∀ d ∈ ds, f d = some (some (g d))) → collect f ds = some (ds.map g)
  | [], _ => rfl
  | d :: ds, h => by
    rw [collect, h d List.mem_cons_self]
    simp only [collect_map g ds (fun x hx => h x (List.mem_cons_of_mem _ hx)), Option.map_some, List.map_cons]
theorem collect_fm {f : PyData → Option (Option PyData)} (g : PyData → Option PyData) : ∀ (ds : List PyData), (∀ d ∈ ds, f d = some (g d)) → collect f ds = some (ds.filterMap g)
  | [], _ => rfl
  | d :: ds, h => by
    rw [collect, h d List.mem_cons_self]
    have ih := collect_fm g ds (fun x hx => h x (List.mem_cons_of_mem _ hx))
    cases e : g d with
    | none => simp only [ih, List.filterMap_cons, e]
    | some y => simp only [ih, List.filterMap_cons, e, Option.map_some]
theorem collect2_fm {f : PyData → Option (List PyData)} (g : PyData → List PyData) : ∀ (ds : List PyData), (∀ d ∈ ds, f d = some (g d)) → collect2 f ds = some (ds.flatMap g)
  | [], _ => rfl
  | d :: ds, h => by
    rw [collect2, h d List.mem_cons_self]
    simp only [collect2_fm g ds (fun x hx => h x (List.mem_cons_of_mem _ hx)), Option.map_some, List.flatMap_cons]
/-! items of lists -/
theorem atD_nat {xs : List PyData} {i : Int} (h0 : 0 ≤ i) : atD xs i = xs[i.toNat]? := by
  unfold atD
  rw [if_pos h0]
theorem atD_ints {is : List Int} {i : Int} (h0 : 0 ≤ i) (h1 : i < is.length) : ∃ x ∈ is, atD (is.map .int) i = some (.int x) := by
  have h : i.toNat < is.length := by omega
  exact ⟨is[i.toNat], List.getElem_mem h, by rw [atD_nat h0, List.getElem?_map, List.getElem?_eq_getElem h]; rfl⟩
abbrev L (is : List Int) : PyData := .list (is.map .int)
theorem small_of {i : Int} (h : -(2 ^ 63) < i) (h' : i < 2 ^ 63) : small i = true := by
  unfold small
  simp only [Bool.and_eq_true, decide_eq_true_eq]
  omega
/-! ### comparisons -/
theorem eqD_int (a b : Int) : eqD (.int a) (.int b) = some (decide (a = b)) := by
  simp only [eqD, noD, PyData.depth, PyData.eqv, Bool.and_self, Nat.min_self, Nat.zero_le, decide_true, if_true]
  congr 1
theorem eqD_str (a b : Str) : eqD (.str a) (.str b) = some (decide (a = b)) := by
  simp only [eqD, noD, PyData.depth, PyData.eqv, Bool.and_self, Nat.min_self, Nat.zero_le, decide_true, if_true]
  congr 1
theorem eqD_nil (a : List PyData) : eqD (.list a) (.list []) = some a.isEmpty := by
  simp only [eqD]
theorem eqD_dnil (a : List (PyData × PyData)) : eqD (.dict a) (.dict []) = some a.isEmpty := by
  simp only [eqD, List.isEmpty_nil, Bool.or_true, if_true, Bool.and_true]
/-! ### the walk through a body -/
section
variable {Ph : Nat → List PyData → Option PyData} {fr : Nat → Bool} {env env' : Ev} {ss a b : Ss} {s : S} {e c : E} {o : Option Out} {d : PyData} {i : Nat}
theorem ss_cons (h : exS Ph fr env s = some (.nx env')) (h2 : exSs Ph fr env' ss = o) : exSs Ph fr env (.cons s ss) = o := by
  rw [exSs, h]
  exact h2
theorem ss_rt {fb : Bool} (h : exS Ph fr env s = some (.rt d fb)) : exSs Ph fr env (.cons s ss) = some (.rt d fb) := by
  rw [exSs, h]
theorem ss_nil : exSs Ph fr env .nil = some (.nx env) := by rw [exSs]
theorem s_asg (h : evE Ph env e = some d) (hf : Wr.frs fr e = false := by rfl) : exS Ph fr env (.asg i e) = some (.nx (env.set i (.sh d))) := by
  rw [exS, h]
  simp only [hf, Bool.false_eq_true, if_false]
theorem s_own (h : evE Ph env e = some d) (hf : Wr.frs fr e = true := by rfl) : exS Ph fr env (.asg i e) = some (.nx (env.set i (.ow d))) := by
  rw [exS, h]
  simp only [hf, if_true]
theorem s_ift (h : evE Ph env c = some (.bool true)) (h2 : exSs Ph fr env a = o) : exS Ph fr env (.ife c a b) = o := by
  rw [exS, h]
  exact h2
theorem s_iff (h : evE Ph env c = some (.bool false)) (h2 : exSs Ph fr env b = o) : exS Ph fr env (.ife c a b) = o := by
  rw [exS, h]
  exact h2
theorem s_ret (h : evE Ph env e = some d) : exS Ph fr env (.ret e) = some (.rt d (Wr.frs fr e)) := by
  rw [exS, h]
theorem s_app {xs : List PyData} (h : evE Ph env e = some d) (he : env[i]? = some (.ow (.list xs))) (hl : xs.length ≤ lim) : exS Ph fr env (.app i e) = some (.nx (env.set i (.ow (.list (xs ++ [d]))))) := by
  rw [exS, h, he]
  simp only [appD, hl, if_true, Option.map_some]
theorem s_shr (he : env[i]? = some (.ow d)) : exS Ph fr env (.shr i) = some (.nx (env.set i (.sh d))) := by
  rw [exS, he]
theorem s_shs (he : env[i]? = some (.sh d)) : exS Ph fr env (.shr i) = some (.nx env) := by
  rw [exS, he]
theorem s_for {tg : Tg} {it : I} {ds : List PyData} (h : evI Ph env it = some ds) (h2 : loopF tg (fun env => exSs Ph fr env a) ds env = o) : exS Ph fr env (.for tg it a) = o := by
  rw [exS, h]
  exact h2
theorem s_whl (h : loopW (fun env => evE Ph env c) (fun env => exSs Ph fr env a) wfuel env = o) : exS Ph fr env (.whl c a) = o := by
  rw [exS]
  exact h
end
/-! ### expressions, node by node -/
section
variable {Ph : Nat → List PyData → Option PyData} {env : Ev} {e a b : E} {oa ob : O} {es : Es} {x y d : PyData} {ds : List PyData} {op : Operator} {co : CmpOp} {f : Nat}
theorem ev_o (h : evE Ph env e = some d) : evO Ph env (.ex e) = some d := by rw [evO]; exact h
theorem ev_bin (h1 : evO Ph env oa = some x) (h2 : evO Ph env ob = some y) (h3 : binD op x y = some d) : evE Ph env (.bin op oa ob) = some d := by rw [evE, h1, h2]; exact h3
theorem ev_cmp {v : Bool} (h1 : evO Ph env oa = some x) (h2 : evO Ph env ob = some y) (h3 : cmpD co x y = some v) : evE Ph env (.cmp co oa ob) = some (.bool v) := by rw [evE, h1, h2]; simp only [h3, Option.map_some]
theorem ev_idx (h1 : evO Ph env oa = some x) (h2 : evE Ph env b = some y) (h3 : idxD x y = some d) : evE Ph env (.idx oa b) = some d := by rw [evE, h1, h2]; exact h3
theorem ev_call (h1 : evEs Ph env es = some ds) (h2 : Ph f ds = some d) : evE Ph env (.call f es) = some d := by rw [evE, h1]; exact h2
theorem ev_blt {bl : Blt} (h1 : evEs Ph env es = some ds) (h2 : bltD bl ds = some d) : evE Ph env (.blt bl es) = some d := by rw [evE, h1]; exact h2
theorem ev_tup (h1 : evEs Ph env es = some ds) : evE Ph env (.tup es) = some (.tuple ds) := by rw [evE, h1]; rfl
theorem ev_lst (h1 : evEs Ph env es = some ds) : evE Ph env (.lst es) = some (.list ds) := by rw [evE, h1]; rfl
theorem ev_len (h1 : evO Ph env oa = some x) (h2 : lenD x = some d) : evE Ph env (.len oa) = some d := by rw [evE, h1]; exact h2
theorem ev_slc {z : PyData} (h1 : evO Ph env oa = some x) (h2 : evE Ph env a = some y) (h3 : evE Ph env b = some z) (h4 : (if okB a y && okB b z then slcD x y z else none) = some d) : evE Ph env (.slc oa a b) = some d := by rw [evE, h1, h2, h3]; exact h4
theorem ev_rev (h1 : evO Ph env oa = some x) (h2 : revD x = some d) : evE Ph env (.rev oa) = some d := by rw [evE, h1]; exact h2
theorem ev_cat {xs ys : List PyData} (h1 : evO Ph env oa = some (.list xs)) (h2 : evO Ph env ob = some (.list ys)) (h3 : xs.length + ys.length ≤ lim) : evE Ph env (.cat oa ob) = some (.list (xs ++ ys)) := by rw [evE, h1, h2]; simp only [h3, if_true]
theorem ev_dc1 {k : Str} (h1 : evE Ph env a = some (.str k)) (h2 : evE Ph env b = some y) : evE Ph env (.dc1 a b) = some (.dict [(.str k, y)]) := by rw [evE, h1, h2]; rfl
theorem ev_not {v : Bool} (h1 : evE Ph env a = some (.bool v)) : evE Ph env (.not a) = some (.bool (!v)) := by rw [evE, h1]
theorem es_cons (h1 : evE Ph env e = some d) (h2 : evEs Ph env es = some ds) : evEs Ph env (.cons e es) = some (d :: ds) := by rw [evEs, h1, h2]
theorem ev_ift (h1 : evE Ph env e = some (.bool true)) (h2 : evE Ph env a = some d) : evE Ph env (.ife e a b) = some d := by rw [evE, h1]; exact h2
theorem ev_iff (h1 : evE Ph env e = some (.bool false)) (h2 : evE Ph env b = some d) : evE Ph env (.ife e a b) = some d := by rw [evE, h1]; exact h2
theorem ev_eq {d' : PyData} (h : evE Ph env e = some d') (h2 : d' = d) : evE Ph env e = some d := by rw [h, h2]
/-- a test that holds, that fails -/
theorem ev_t {P : Prop} [Decidable P] (h : evE Ph env e = some (.bool (decide P))) (hp : P) : evE Ph env e = some (.bool true) := by rw [h, decide_eq_true hp]
theorem ev_f {P : Prop} [Decidable P] (h : evE Ph env e = some (.bool (decide P))) (hp : ¬ P) : evE Ph env e = some (.bool false) := by rw [h, decide_eq_false hp]
end
section
variable {i j : Int}
theorem bd_add : binD .Add (.int i) (.int j) = some (.int (i + j)) := rfl
theorem bd_sub : binD .Sub (.int i) (.int j) = some (.int (i - j)) := rfl
theorem bd_mull (h : small i = true) : binD .Mult (.int i) (.int j) = some (.int (i * j)) := by show (if (small i || small j) = true then _ else _) = _; rw [h]; rfl
theorem bd_mulr (h : small j = true) : binD .Mult (.int i) (.int j) = some (.int (i * j)) := by show (if (small i || small j) = true then _ else _) = _; rw [h, Bool.or_true]; rfl
theorem bd_mod (h : 0 < j) : binD .Mod (.int i) (.int j) = some (.int (i % j)) := by show (if 0 < j then _ else _) = _; rw [if_pos h]
theorem bd_div (h : 0 < j) (h2 : j < 1073741824) : binD .FloorDiv (.int i) (.int j) = some (.int (i / j)) := by show (if 0 < j ∧ j < 1073741824 then _ else _) = _; rw [if_pos ⟨h, h2⟩]
end
/-! ### _law_cell, _law_digits -/
section
variable {T : Tab} {n : Nat}
theorem cell_ok (h : T.lookup 8 = some F8) (ns : List Int) {i : Int} (h0 : 0 ≤ i) : ∃ c : Int, Phi T (n + 1) 8 [L ns, .int i] = some (.int c) := by
  have s1 : small 7919 = true := by decide
  rw [Phi_succ h]
  by_cases c1 : i < ns.length
  · obtain ⟨x, _, hx⟩ := atD_ints h0 c1
    refine ⟨x, run_ret rfl rfl (b := false) (ss_rt (s_ift ?_ (ss_rt (s_ret ?_))))⟩
    · simp only [exSs, exS, evE, evEs, evO, evI, evAnd, evOr, bindT, bindTs, Wr.frs, setAll, binD, addD, mulD, cmpD, idxD, lenD, bltD, revD, sixD, appD, updD, slcD, okB, getD2, List.getElem?_cons_zero, List.getElem?_cons_succ, List.set_cons_zero, List.set_cons_succ, Option.map_some, Option.map_none, if_true, Bool.false_eq_true, if_false, Bool.not_true, Bool.not_false, reduceIte, List.map_cons, List.map_nil, List.cons_append, List.nil_append, List.length_map, decide_true, decide_false, Bool.true_or, Bool.or_true, Bool.true_and, Bool.and_true, Bool.and_self, true_and, and_true, and_self, List.map_cons, List.map_nil, List.length_map, c1, decide_true, List.cons_append, List.nil_append]
    · simp only [exSs, exS, evE, evEs, evO, evI, evAnd, evOr, bindT, bindTs, Wr.frs, setAll, binD, addD, mulD, cmpD, idxD, lenD, bltD, revD, sixD, appD, updD, slcD, okB, getD2, List.getElem?_cons_zero, List.getElem?_cons_succ, List.set_cons_zero, List.set_cons_succ, Option.map_some, Option.map_none, if_true, Bool.false_eq_true, if_false, Bool.not_true, Bool.not_false, reduceIte, List.map_cons, List.map_nil, List.cons_append, List.nil_append, List.length_map, decide_true, decide_false, Bool.true_or, Bool.or_true, Bool.true_and, Bool.and_true, Bool.and_self, true_and, and_true, and_self, List.map_cons, List.map_nil, hx, List.cons_append, List.nil_append]
  · by_cases c2 : (ns.length : Int) = 0
    · refine ⟨7919 * i + 101, run_ret rfl rfl (b := false) (ss_cons (s_iff ?_ ss_nil) (ss_rt (s_ift ?_ (ss_rt (s_ret ?_)))))⟩
      · simp only [exSs, exS, evE, evEs, evO, evI, evAnd, evOr, bindT, bindTs, Wr.frs, setAll, binD, addD, mulD, cmpD, idxD, lenD, bltD, revD, sixD, appD, updD, slcD, okB, getD2, List.getElem?_cons_zero, List.getElem?_cons_succ, List.set_cons_zero, List.set_cons_succ, Option.map_some, Option.map_none, if_true, Bool.false_eq_true, if_false, Bool.not_true, Bool.not_false, reduceIte, List.map_cons, List.map_nil, List.cons_append, List.nil_append, List.length_map, decide_true, decide_false, Bool.true_or, Bool.or_true, Bool.true_and, Bool.and_true, Bool.and_self, true_and, and_true, and_self, List.map_cons, List.map_nil, List.length_map, c1, decide_false, List.cons_append, List.nil_append]
      · simp only [exSs, exS, evE, evEs, evO, evI, evAnd, evOr, bindT, bindTs, Wr.frs, setAll, binD, addD, mulD, cmpD, idxD, lenD, bltD, revD, sixD, appD, updD, slcD, okB, getD2, List.getElem?_cons_zero, List.getElem?_cons_succ, List.set_cons_zero, List.set_cons_succ, Option.map_some, Option.map_none, if_true, Bool.false_eq_true, if_false, Bool.not_true, Bool.not_false, reduceIte, List.map_cons, List.map_nil, List.cons_append, List.nil_append, List.length_map, decide_true, decide_false, Bool.true_or, Bool.or_true, Bool.true_and, Bool.and_true, Bool.and_self, true_and, and_true, and_self, List.map_cons, List.map_nil, List.length_map, c2, eqD_int, decide_true, List.cons_append, List.nil_append]
      · simp only [exSs, exS, evE, evEs, evO, evI, evAnd, evOr, bindT, bindTs, Wr.frs, setAll, binD, addD, mulD, cmpD, idxD, lenD, bltD, revD, sixD, appD, updD, slcD, okB, getD2, List.getElem?_cons_zero, List.getElem?_cons_succ, List.set_cons_zero, List.set_cons_succ, Option.map_some, Option.map_none, if_true, Bool.false_eq_true, if_false, Bool.not_true, Bool.not_false, reduceIte, List.map_cons, List.map_nil, List.cons_append, List.nil_append, List.length_map, decide_true, decide_false, Bool.true_or, Bool.or_true, Bool.true_and, Bool.and_true, Bool.and_self, true_and, and_true, and_self, List.map_cons, List.map_nil, s1, Bool.true_or, List.cons_append, List.nil_append]
    · have hp : 0 < (ns.length : Int) := by omega
      obtain ⟨x, _, hx⟩ := atD_ints (is := ns) (i := i % ns.length) (Int.emod_nonneg _ (by omega)) (Int.emod_lt_of_pos _ hp)
      refine ⟨x % 1000003 + 7919 * i, run_ret rfl rfl (b := false) (ss_cons (s_iff ?_ ss_nil) (ss_cons (s_iff ?_ ss_nil) (ss_rt (s_ret ?_))))⟩
      · simp only [exSs, exS, evE, evEs, evO, evI, evAnd, evOr, bindT, bindTs, Wr.frs, setAll, binD, addD, mulD, cmpD, idxD, lenD, bltD, revD, sixD, appD, updD, slcD, okB, getD2, List.getElem?_cons_zero, List.getElem?_cons_succ, List.set_cons_zero, List.set_cons_succ, Option.map_some, Option.map_none, if_true, Bool.false_eq_true, if_false, Bool.not_true, Bool.not_false, reduceIte, List.map_cons, List.map_nil, List.cons_append, List.nil_append, List.length_map, decide_true, decide_false, Bool.true_or, Bool.or_true, Bool.true_and, Bool.and_true, Bool.and_self, true_and, and_true, and_self, List.map_cons, List.map_nil, List.length_map, c1, decide_false, List.cons_append, List.nil_append]
      · simp only [exSs, exS, evE, evEs, evO, evI, evAnd, evOr, bindT, bindTs, Wr.frs, setAll, binD, addD, mulD, cmpD, idxD, lenD, bltD, revD, sixD, appD, updD, slcD, okB, getD2, List.getElem?_cons_zero, List.getElem?_cons_succ, List.set_cons_zero, List.set_cons_succ, Option.map_some, Option.map_none, if_true, Bool.false_eq_true, if_false, Bool.not_true, Bool.not_false, reduceIte, List.map_cons, List.map_nil, List.cons_append, List.nil_append, List.length_map, decide_true, decide_false, Bool.true_or, Bool.or_true, Bool.true_and, Bool.and_true, Bool.and_self, true_and, and_true, and_self, List.map_cons, List.map_nil, List.length_map, c2, eqD_int, decide_false, List.cons_append, List.nil_append]
      · simp only [exSs, exS, evE, evEs, evO, evI, evAnd, evOr, bindT, bindTs, Wr.frs, setAll, binD, addD, mulD, cmpD, idxD, lenD, bltD, revD, sixD, appD, updD, slcD, okB, getD2, List.getElem?_cons_zero, List.getElem?_cons_succ, List.set_cons_zero, List.set_cons_succ, Option.map_some, Option.map_none, if_true, Bool.false_eq_true, if_false, Bool.not_true, Bool.not_false, reduceIte, List.map_cons, List.map_nil, List.cons_append, List.nil_append, List.length_map, decide_true, decide_false, Bool.true_or, Bool.or_true, Bool.true_and, Bool.and_true, Bool.and_self, true_and, and_true, and_self, List.map_cons, List.map_nil, List.length_map, hp, hx, s1, Bool.true_or, show (0 : Int) < 1000003 by decide, List.cons_append, List.nil_append]
def primes : List Int := [2147483647, 2147483629, 2147483587, 2147483579, 2147483563, 2147483549, 2147483543, 2147483497]
theorem prime_ok {i : Int} (h0 : 0 ≤ i) (h1 : i < 8) : ∃ p : Int, atD (primes.map .int) i = some (.int p) ∧ 0 < p ∧ p < 2 ^ 31 := by
  obtain ⟨p, hp, e⟩ := atD_ints (is := primes) h0 (by simpa [primes] using h1)
  refine ⟨p, e, ?_⟩
  have : ∀ q ∈ primes, 0 < q ∧ q < 2 ^ 31 := by decide
  exact this p hp
theorem rng_at {a b : Int} {done rest : List PyData} {d : PyData} (e : done ++ d :: rest = rngD a b) : d = .int (a + (done.length : Nat)) ∧ (done.length : Int) < b - a := by
  have h : (rngD a b)[done.length]? = some d := by rw [← e]; simp
  unfold rngD at h
  rw [List.getElem?_map] at h
  cases q : (List.range (b - a).toNat)[done.length]? with
  | none => rw [q] at h; cases h
  | some k =>
    rw [q] at h
    obtain ⟨l, q2⟩ := List.getElem?_eq_some_iff.mp q
    rw [List.getElem_range] at q2
    rw [List.length_range] at l
    cases h
    subst q2
    exact ⟨rfl, by omega⟩
theorem rngD_len (a b : Int) : (rngD a b).length = (b - a).toNat := by
  unfold rngD
  rw [List.length_map, List.length_range]
theorem small_mod {a p : Int} (h0 : 0 < p) (h1 : p < 2 ^ 31) : small (a % p) = true :=
  small_of (by have := Int.emod_nonneg a (show p ≠ 0 by omega); omega) (by have := Int.emod_lt_of_pos a h0; omega)
/-- digits: one turn -/
def bDig : Ss := (.cons (.asg 9 (.bin .Mult (.ex (.bin .Mod (.ex (.var 5)) (.ex (.idx (.ex (.var 4)) (.bin .Mod (.ex (.var 8)) (.ex (.cst (.int 8)))))))) (.ex (.bin .Add (.ex (.cst (.int 48271))) (.ex (.bin .Mult (.ex (.bin .Mult (.ex (.cst (.int 2))) (.ex (.var 8)))) (.ex (.var 8)))))))) (.cons (.asg 9 (.bin .Add (.ex (.bin .Add (.ex (.var 9)) (.ex (.bin .Mult (.ex (.bin .Mult (.ex (.cst (.int 7919))) (.ex (.bin .Add (.ex (.var 8)) (.ex (.cst (.int 1))))))) (.ex (.bin .Add (.ex (.var 8)) (.ex (.cst (.int 1))))))))) (.ex (.bin .Mult (.ex (.cst (.int 104729))) (.ex (.var 1)))))) (.cons (.asg 9 (.bin .Mod (.ex (.var 9)) (.ex (.idx (.ex (.var 4)) (.bin .Mod (.ex (.bin .Add (.ex (.bin .Mult (.ex (.cst (.int 3))) (.ex (.var 8)))) (.ex (.var 1)))) (.ex (.cst (.int 8)))))))) (.cons (.asg 9 (.bin .Mod (.ex (.bin .Mult (.ex (.bin .Mult (.ex (.var 9)) (.ex (.var 9)))) (.ex (.var 9)))) (.ex (.idx (.ex (.var 4)) (.bin .Mod (.ex (.bin .Add (.ex (.var 8)) (.ex (.cst (.int 5))))) (.ex (.cst (.int 8)))))))) (.cons (.ife (.cmp .Gt (.ex (.var 6)) (.ex (.cst (.int 0)))) (.cons (.asg 9 (.var 6)) .nil) .nil) (.cons (.app 7 (.bin .Mod (.ex (.var 9)) (.ex (.var 3)))) (.cons (.asg 6 (.bin .FloorDiv (.ex (.var 6)) (.ex (.var 3)))) .nil)))))))
theorem dig_turn {Ph : Nat → List PyData → Option PyData} {fr : Nat → Bool} {sc cc : PyData} {pr : List PyData} {ds : List PyData} {i b cell rest k p1 p2 p3 : Int} {m9 : Sl} (hb : 0 < b) (hb2 : b < 1073741824) (e1 : atD pr (k % 8) = some (.int p1)) (e2 : atD pr ((3 * k + i) % 8) = some (.int p2)) (e3 : atD pr ((k + 5) % 8) = some (.int p3)) (p1a : 0 < p1) (p2a : 0 < p2) (p3a : 0 < p3)
    (sk : small k = true) (sk1 : small (k + 1) = true) (s5 : small (cell % p1) = true) (s6 : ∀ m, small (m % p2) = true) (hl : ds.length ≤ lim) :
    ∃ m5 : Int, exSs Ph fr [.sh sc, .sh (.int i), .sh cc, .sh (.int b), .sh (.tuple pr), .sh (.int cell), .sh (.int rest), .ow (.list ds), .sh (.int k), m9] bDig = some (.nx [.sh sc, .sh (.int i), .sh cc, .sh (.int b), .sh (.tuple pr), .sh (.int cell), .sh (.int (rest / b)), .ow (.list (ds ++ [.int (m5 % b)])), .sh (.int k), .sh (.int m5)]) := by
  have s1 : small 7919 = true := by decide
  have s2 : small 2 = true := by decide
  have s3 : small 104729 = true := by decide
  have s4 : small 3 = true := by decide
  have fin : ∀ m5 : Int, exSs Ph fr [.sh sc, .sh (.int i), .sh cc, .sh (.int b), .sh (.tuple pr), .sh (.int cell), .sh (.int rest), .ow (.list ds), .sh (.int k), .sh (.int m5)] (.cons (.app 7 (.bin .Mod (.ex (.var 9)) (.ex (.var 3)))) (.cons (.asg 6 (.bin .FloorDiv (.ex (.var 6)) (.ex (.var 3)))) .nil)) = some (.nx [.sh sc, .sh (.int i), .sh cc, .sh (.int b), .sh (.tuple pr), .sh (.int cell), .sh (.int (rest / b)), .ow (.list (ds ++ [.int (m5 % b)])), .sh (.int k), .sh (.int m5)]) := by
    intro m5
    refine ss_cons (s_app ?_ rfl hl) (ss_cons (s_asg ?_) ss_nil)
    · repeat' (first | apply ev_bin | apply ev_cmp | apply ev_idx | apply ev_call | apply ev_blt | apply ev_tup | apply ev_lst | apply ev_len | apply ev_slc | apply ev_rev | apply ev_cat | apply ev_dc1 | apply ev_not | apply es_cons | apply ev_o | exact bd_add | exact bd_sub | exact bd_mod (by first | assumption | decide) | exact bd_div (by first | assumption | decide) (by first | assumption | decide) | exact bd_mull (by first | assumption | decide) | exact bd_mulr (by first | assumption | decide) | exact rfl | assumption | decide)
    · repeat' (first | apply ev_bin | apply ev_cmp | apply ev_idx | apply ev_call | apply ev_blt | apply ev_tup | apply ev_lst | apply ev_len | apply ev_slc | apply ev_rev | apply ev_cat | apply ev_dc1 | apply ev_not | apply es_cons | apply ev_o | exact bd_add | exact bd_sub | exact bd_mod (by first | assumption | decide) | exact bd_div (by first | assumption | decide) (by first | assumption | decide) | exact bd_mull (by first | assumption | decide) | exact bd_mulr (by first | assumption | decide) | exact rfl | assumption | decide)
  generalize hm : cell % p1 * (48271 + 2 * k * k) + 7919 * (k + 1) * (k + 1) + 104729 * i = m2
  have s6' := s6 m2
  have start : ∀ {ss : Ss} {o : Option Out}, exSs Ph fr [.sh sc, .sh (.int i), .sh cc, .sh (.int b), .sh (.tuple pr), .sh (.int cell), .sh (.int rest), .ow (.list ds), .sh (.int k), .sh (.int (m2 % p2 * (m2 % p2) * (m2 % p2) % p3))] ss = o → exSs Ph fr [.sh sc, .sh (.int i), .sh cc, .sh (.int b), .sh (.tuple pr), .sh (.int cell), .sh (.int rest), .ow (.list ds), .sh (.int k), m9] (.cons (.asg 9 (.bin .Mult (.ex (.bin .Mod (.ex (.var 5)) (.ex (.idx (.ex (.var 4)) (.bin .Mod (.ex (.var 8)) (.ex (.cst (.int 8)))))))) (.ex (.bin .Add (.ex (.cst (.int 48271))) (.ex (.bin .Mult (.ex (.bin .Mult (.ex (.cst (.int 2))) (.ex (.var 8)))) (.ex (.var 8)))))))) (.cons (.asg 9 (.bin .Add (.ex (.bin .Add (.ex (.var 9)) (.ex (.bin .Mult (.ex (.bin .Mult (.ex (.cst (.int 7919))) (.ex (.bin .Add (.ex (.var 8)) (.ex (.cst (.int 1))))))) (.ex (.bin .Add (.ex (.var 8)) (.ex (.cst (.int 1))))))))) (.ex (.bin .Mult (.ex (.cst (.int 104729))) (.ex (.var 1)))))) (.cons (.asg 9 (.bin .Mod (.ex (.var 9)) (.ex (.idx (.ex (.var 4)) (.bin .Mod (.ex (.bin .Add (.ex (.bin .Mult (.ex (.cst (.int 3))) (.ex (.var 8)))) (.ex (.var 1)))) (.ex (.cst (.int 8)))))))) (.cons (.asg 9 (.bin .Mod (.ex (.bin .Mult (.ex (.bin .Mult (.ex (.var 9)) (.ex (.var 9)))) (.ex (.var 9)))) (.ex (.idx (.ex (.var 4)) (.bin .Mod (.ex (.bin .Add (.ex (.var 8)) (.ex (.cst (.int 5))))) (.ex (.cst (.int 8)))))))) ss)))) = o := by
    intro ss o h
    refine ss_cons (s_asg (d := .int (cell % p1 * (48271 + 2 * k * k))) ?_) (ss_cons (s_asg (d := .int m2) (ev_eq ?_ (congrArg PyData.int hm))) (ss_cons (s_asg (d := .int (m2 % p2)) ?_) (ss_cons (s_asg (d := .int (m2 % p2 * (m2 % p2) * (m2 % p2) % p3)) ?_) h)))
    · repeat' (first | apply ev_bin | apply ev_cmp | apply ev_idx | apply ev_call | apply ev_blt | apply ev_tup | apply ev_lst | apply ev_len | apply ev_slc | apply ev_rev | apply ev_cat | apply ev_dc1 | apply ev_not | apply es_cons | apply ev_o | exact bd_add | exact bd_sub | exact bd_mod (by first | assumption | decide) | exact bd_div (by first | assumption | decide) (by first | assumption | decide) | exact bd_mull (by first | assumption | decide) | exact bd_mulr (by first | assumption | decide) | exact rfl | assumption | decide)
    · repeat' (first | apply ev_bin | apply ev_cmp | apply ev_idx | apply ev_call | apply ev_blt | apply ev_tup | apply ev_lst | apply ev_len | apply ev_slc | apply ev_rev | apply ev_cat | apply ev_dc1 | apply ev_not | apply es_cons | apply ev_o | exact bd_add | exact bd_sub | exact bd_mod (by first | assumption | decide) | exact bd_div (by first | assumption | decide) (by first | assumption | decide) | exact bd_mull (by first | assumption | decide) | exact bd_mulr (by first | assumption | decide) | exact rfl | assumption | decide)
    · repeat' (first | apply ev_bin | apply ev_cmp | apply ev_idx | apply ev_call | apply ev_blt | apply ev_tup | apply ev_lst | apply ev_len | apply ev_slc | apply ev_rev | apply ev_cat | apply ev_dc1 | apply ev_not | apply es_cons | apply ev_o | exact bd_add | exact bd_sub | exact bd_mod (by first | assumption | decide) | exact bd_div (by first | assumption | decide) (by first | assumption | decide) | exact bd_mull (by first | assumption | decide) | exact bd_mulr (by first | assumption | decide) | exact rfl | assumption | decide)
    · repeat' (first | apply ev_bin | apply ev_cmp | apply ev_idx | apply ev_call | apply ev_blt | apply ev_tup | apply ev_lst | apply ev_len | apply ev_slc | apply ev_rev | apply ev_cat | apply ev_dc1 | apply ev_not | apply es_cons | apply ev_o | exact bd_add | exact bd_sub | exact bd_mod (by first | assumption | decide) | exact bd_div (by first | assumption | decide) (by first | assumption | decide) | exact bd_mull (by first | assumption | decide) | exact bd_mulr (by first | assumption | decide) | exact rfl | assumption | decide)
  by_cases hr : 0 < rest
  · refine ⟨rest, start (ss_cons (s_ift (ev_t (P := 0 < rest) ?_ hr) (ss_cons (s_asg (d := .int rest) rfl) ss_nil)) (fin rest))⟩
    repeat' (first | apply ev_bin | apply ev_cmp | apply ev_idx | apply ev_call | apply ev_blt | apply ev_tup | apply ev_lst | apply ev_len | apply ev_slc | apply ev_rev | apply ev_cat | apply ev_dc1 | apply ev_not | apply es_cons | apply ev_o | exact bd_add | exact bd_sub | exact bd_mod (by first | assumption | decide) | exact bd_div (by first | assumption | decide) (by first | assumption | decide) | exact bd_mull (by first | assumption | decide) | exact bd_mulr (by first | assumption | decide) | exact rfl | assumption | decide)
  · refine ⟨_, start (ss_cons (s_iff (ev_f (P := 0 < rest) ?_ hr) ss_nil) (fin _))⟩
    repeat' (first | apply ev_bin | apply ev_cmp | apply ev_idx | apply ev_call | apply ev_blt | apply ev_tup | apply ev_lst | apply ev_len | apply ev_slc | apply ev_rev | apply ev_cat | apply ev_dc1 | apply ev_not | apply es_cons | apply ev_o | exact bd_add | exact bd_sub | exact bd_mod (by first | assumption | decide) | exact bd_div (by first | assumption | decide) (by first | assumption | decide) | exact bd_mull (by first | assumption | decide) | exact bd_mulr (by first | assumption | decide) | exact rfl | assumption | decide)
/-- digits: as many as are asked, each below the base -/
theorem digits_ok (h8 : T.lookup 8 = some F8) (h9 : T.lookup 9 = some F9) (ns : List Int) {i c : Nat} {b : Int} (hi : i < 1000) (hc : c ≤ 1000) (hb : 0 < b) (hb2 : b < 1073741824) :
    ∃ ds : List Int, ds.length = c ∧ (∀ d ∈ ds, 0 ≤ d ∧ d < b) ∧ Phi T (n + 2) 9 [L ns, .int i, .int c, .int b] = some (L ds) := by
  obtain ⟨cell, hcell⟩ := cell_ok (n := n) h8 ns (i := (i : Int)) (by omega)
  rw [Phi_succ h9]
  have hr : rngOk 0 (c : Int) = true := by
    unfold rngOk
    simp only [Bool.and_eq_true, decide_eq_true_eq]
    omega
  have loop : ∀ rest0 : Int, ∃ env', loopF (.nm 8) (fun env => exSs (Phi T (n + 1)) (frOf T) env bDig) (rngD 0 c)
      [.sh (L ns), .sh (.int i), .sh (.int c), .sh (.int b), .sh (.tuple (primes.map .int)), .sh (.int cell), .sh (.int rest0), .ow (L []), .un, .un] = some (.nx env') ∧ ∃ (rest : Int) (ds : List Int) (k8 m9 : Sl), env' = [.sh (L ns), .sh (.int i), .sh (.int c), .sh (.int b), .sh (.tuple (primes.map .int)), .sh (.int cell), .sh (.int rest), .ow (L ds), k8, m9] ∧ ds.length = (rngD 0 c).length ∧ ∀ d ∈ ds, 0 ≤ d ∧ d < b := by
    intro rest0
    refine loopF_all (fun done env => ∃ (rest : Int) (ds : List Int) (k8 m9 : Sl), env = [.sh (L ns), .sh (.int i), .sh (.int c), .sh (.int b), .sh (.tuple (primes.map .int)), .sh (.int cell), .sh (.int rest), .ow (L ds), k8, m9] ∧ ds.length = done.length ∧ ∀ d ∈ ds, 0 ≤ d ∧ d < b) ⟨rest0, [], .un, .un, rfl, rfl, fun d hd => by cases hd⟩ ?_
    rintro done d rst env e ⟨rest, ds, k8, m9, rfl, hl, hd⟩
    obtain ⟨rfl, hk⟩ := rng_at e
    generalize hkk : (0 + (done.length : Int)) = k
    obtain ⟨p1, e1, p1a, p1b⟩ := prime_ok (i := k % 8) (by omega) (by omega)
    obtain ⟨p2, e2, p2a, p2b⟩ := prime_ok (i := (3 * k + (i : Int)) % 8) (by omega) (by omega)
    obtain ⟨p3, e3, p3a, p3b⟩ := prime_ok (i := (k + 5) % 8) (by omega) (by omega)
    obtain ⟨m5, h5⟩ := dig_turn (Ph := Phi T (n + 1)) (fr := frOf T) (sc := L ns) (cc := .int c) (ds := ds.map .int) (rest := rest) (m9 := m9) hb hb2 e1 e2 e3 p1a p2a p3a (small_of (by omega) (by omega)) (small_of (by omega) (by omega)) (small_mod (a := cell) p1a p1b) (fun m => small_mod p2a p2b) (by rw [List.length_map, hl]; unfold lim; omega)
    refine ⟨_, _, by rw [bindT]; rfl, h5, rest / b, ds ++ [m5 % b], _, _, by rw [show L (ds ++ [m5 % b]) = .list (ds.map .int ++ [.int (m5 % b)]) by simp [L]], by simp [hl], fun d hd' => ?_⟩
    rcases List.mem_append.mp hd' with h | h
    · exact hd d h
    · rw [List.mem_singleton] at h
      subst h
      exact ⟨Int.emod_nonneg _ (by omega), Int.emod_lt_of_pos _ hb⟩
  obtain ⟨env', he, rest, ds, k8, m9, rfl, hl, hd⟩ := loop (if (10 : Int) ^ 18 ≤ cell then cell else 0)
  rw [rngD_len] at hl
  have hfr : Wr.frs (frOf T) (.call 8 (.cons (.var 0) (.cons (.var 1) .nil))) = false := by
    show frOf T 8 = false
    unfold frOf
    rw [h8]
    rfl
  have hten : evE (Phi T (n + 1)) [.sh (L ns), .sh (.int i), .sh (.int c), .sh (.int b), .sh (.tuple (primes.map .int)), .sh (.int cell), .un, .un, .un, .un] (.bin .Pow (.ex (.cst (.int 10))) (.ex (.cst (.int 18)))) = some (.int ((10 : Int) ^ 18)) := rfl
  refine ⟨ds, by omega, hd, run_ret rfl rfl (b := false) ?_⟩
  refine ss_cons (s_asg (d := .tuple (primes.map .int)) rfl) (ss_cons (s_asg (d := .int cell) ?_ hfr) (ss_cons (s_asg (d := .int (if (10 : Int) ^ 18 ≤ cell then cell else 0)) ?_) (ss_cons (s_own (d := L []) rfl) (ss_cons (s_for (ds := rngD 0 c) ?_ he) (ss_cons (s_shr (d := L ds) rfl) (ss_rt (s_ret rfl)))))))
  · repeat' (first | apply ev_bin | apply ev_cmp | apply ev_idx | apply ev_call | apply ev_blt | apply ev_tup | apply ev_lst | apply ev_len | apply ev_slc | apply ev_rev | apply ev_cat | apply ev_dc1 | apply ev_not | apply es_cons | apply ev_o | exact bd_add | exact bd_sub | exact bd_mod (by first | assumption | decide) | exact bd_div (by first | assumption | decide) (by first | assumption | decide) | exact bd_mull (by first | assumption | decide) | exact bd_mulr (by first | assumption | decide) | exact rfl | assumption | decide)
  · by_cases hz : (10 : Int) ^ 18 ≤ cell
    · rw [if_pos hz]
      exact ev_ift (ev_t (P := (10 : Int) ^ 18 ≤ cell) (ev_cmp rfl (ev_o hten) rfl) hz) rfl
    · rw [if_neg hz]
      exact ev_iff (ev_f (P := (10 : Int) ^ 18 ≤ cell) (ev_cmp rfl (ev_o hten) rfl) hz) rfl
  · show (if rngOk 0 (c : Int) = true then _ else _) = _
    rw [hr]
    rfl
end
end Wr.P
end

section
set_option Elab.async false
set_option linter.all false
set_option maxRecDepth 100000
set_option maxHeartbeats 4000000
/-! WsB: trees; the law's random rig. -/
namespace Wr.P
open PySem
inductive Tr where
  | leaf (x : Str) (p w : Int)
  | node (cs : List Tr)
abbrev sd (x : Str) (p w : Int) : PyData := .tuple [.str x, .int p, .int w]
mutual
def enc : Tr → PyData
  | .leaf x p w => sd x p w
  | .node cs => .tuple (encs cs)
def encs : List Tr → List PyData
  | [] => []
  | c :: cs => enc c :: encs cs
end
abbrev Lf := Str × Int × Int
mutual
def lvs : Tr → List Lf
  | .leaf x p w => [(x, p, w)]
  | .node cs => lvsL cs
def lvsL : List Tr → List Lf
  | [] => []
  | c :: cs => lvs c ++ lvsL cs
end
mutual
/-- each node has two children or more -/
def wf : Tr → Bool
  | .leaf _ _ _ => true
  | .node cs => decide (2 ≤ cs.length) && wfL cs
def wfL : List Tr → Bool
  | [] => true
  | c :: cs => wf c && wfL cs
end
mutual
def dep : Tr → Nat
  | .leaf _ _ _ => 0
  | .node cs => depL cs + 1
def depL : List Tr → Nat
  | [] => 0
  | c :: cs => max (dep c) (depL cs)
end
theorem encs_map : ∀ cs : List Tr, encs cs = cs.map enc
  | [] => rfl
  | c :: cs => by rw [encs, encs_map cs, List.map_cons]
theorem lvsL_app : ∀ (a b : List Tr), lvsL (a ++ b) = lvsL a ++ lvsL b
  | [], b => rfl
  | c :: a, b => by rw [List.cons_append, lvsL, lvsL, lvsL_app a b, List.append_assoc]
theorem wfL_app : ∀ (a b : List Tr), wfL (a ++ b) = (wfL a && wfL b)
  | [], b => by simp [wfL]
  | c :: a, b => by rw [List.cons_append, wfL, wfL, wfL_app a b, Bool.and_assoc]
mutual
theorem lvs_pos : ∀ t : Tr, wf t = true → 0 < (lvs t).length ∧ dep t + 1 ≤ (lvs t).length
  | .leaf _ _ _, _ => by simp [lvs, dep]
  | .node cs, h => by
    rw [wf, Bool.and_eq_true, decide_eq_true_eq] at h
    obtain ⟨h1, h2⟩ := lvsL_pos cs h.2
    rw [lvs, dep]
    have := h2 (by omega)
    omega
theorem lvsL_pos : ∀ cs : List Tr, wfL cs = true → cs.length ≤ (lvsL cs).length ∧ (2 ≤ cs.length → depL cs + 2 ≤ (lvsL cs).length)
  | [], _ => by simp [lvsL]
  | c :: cs, h => by
    rw [wfL, Bool.and_eq_true] at h
    obtain ⟨h1, h2⟩ := lvs_pos c h.1
    obtain ⟨h3, h4⟩ := lvsL_pos cs h.2
    rw [lvsL, depL, List.length_append, List.length_cons]
    refine ⟨by omega, fun hl => ?_⟩
    cases cs with
    | nil => simp at hl
    | cons d ds =>
      by_cases h5 : 2 ≤ (d :: ds).length
      · have := h4 h5
        omega
      · have e : ds = [] := by
          cases ds with
          | nil => rfl
          | cons _ _ => simp at h5
        subst e
        have := (lvs_pos d (by rw [wfL, wfL, Bool.and_true] at h; exact h.2)).2
        rw [lvsL, lvsL, List.append_nil]
        rw [depL, depL]
        omega
end
section
variable {Ph : Nat → List PyData → Option PyData} {fr : Nat → Bool} {env env' : Ev}
theorem s_par {i j : Nat} {e1 e2 : E} {d1 d2 : PyData} {b1 b2 : Bool} (h1 : evE Ph env e1 = some d1) (h2 : evE Ph env e2 = some d2) (f1 : Wr.frs fr e1 = b1) (f2 : Wr.frs fr e2 = b2) :
    exS Ph fr env (.par [i, j] (.cons e1 (.cons e2 .nil))) = some (.nx ((env.set i (if b1 = true then .ow d1 else .sh d1)).set j (if b2 = true then .ow d2 else .sh d2))) := by
  have h : evEs Ph env (.cons e1 (.cons e2 .nil)) = some [d1, d2] := es_cons h1 (es_cons h2 rfl)
  rw [exS, h]
  subst f1 f2
  simp only [setAll, Option.map_some]
theorem s_unp {tg : Tg} {e : E} {d : PyData} (h : evE Ph env e = some d) (hb : bindT env tg d = some env') : exS Ph fr env (.unp tg e) = some (.nx env') := by
  rw [exS, h]
  simp only [hb, Option.map_some]
end
/-! slices -/
theorem cut_to {xs : List PyData} {i : Int} (h0 : 0 ≤ i) (h1 : i ≤ xs.length) : cutD xs .none (.int i) = some (xs.take i.toNat) := by
  unfold cutD loD hiD bndD
  simp only [h0, if_true]
  rw [List.drop_zero, Nat.sub_zero, Nat.min_eq_left (by omega)]
theorem cut_from {xs : List PyData} {i : Int} (h0 : 0 ≤ i) (h1 : i ≤ xs.length) : cutD xs (.int i) .none = some (xs.drop i.toNat) := by
  unfold cutD loD hiD bndD
  simp only [h0, if_true]
  rw [Nat.min_eq_left (by omega), List.take_of_length_le (by rw [List.length_drop]; omega)]
theorem cut_mid {xs : List PyData} {i j : Int} (h0 : 0 ≤ i) (h1 : i ≤ xs.length) (h2 : 0 ≤ j) (h3 : j ≤ xs.length) : cutD xs (.int i) (.int j) = some ((xs.drop i.toNat).take (j.toNat - i.toNat)) := by
  unfold cutD loD hiD bndD
  simp only [h0, h2, if_true]
  rw [Nat.min_eq_left (by omega), Nat.min_eq_left (by omega)]
theorem slc_l {xs : List PyData} {lo hi : PyData} : slcD (.list xs) lo hi = (cutD xs lo hi).map .list := by rw [slcD]
theorem slc_t {xs : List PyData} {lo hi : PyData} : slcD (.tuple xs) lo hi = (cutD xs lo hi).map .tuple := by rw [slcD]
section
variable {T : Tab} {n : Nat}
/-- one turn: some neighbours are joined -/
theorem tree_turn {Ph : Nat → List PyData → Option PyData} {fr : Nat → Bool} {pa : PyData} {ds : List Int} {xs : List PyData} {step : Int} {s4 s5 s6 : Sl} (hds : ds ≠ []) (hd : ∀ d ∈ ds, 0 ≤ d) (hs : 0 ≤ step) (hx : 2 ≤ xs.length) (hx2 : xs.length ≤ 1000) :
    ∃ first count : Nat, 2 ≤ count ∧ first + count ≤ xs.length ∧ ∃ t4 t5 t6, exSs Ph fr [.sh pa, .sh (L ds), .sh (.list xs), .sh (.int step), s4, s5, s6]
      (.cons (.asg 4 (.blt .min2 (.cons (.len (.ex (.var 2))) (.cons (.bin .Add (.ex (.cst (.int 2))) (.ex (.bin .Mod (.ex (.idx (.ex (.var 1)) (.bin .Mod (.ex (.var 3)) (.ex (.len (.ex (.var 1))))))) (.ex (.idx (.ex (.lst (.cons (.cst (.int 1)) (.cons (.cst (.int 2)) (.cons (.cst (.int 7)) .nil))))) (.bin .Mod (.ex (.idx (.ex (.var 1)) (.cst (.int 0)))) (.ex (.cst (.int 3))))))))) .nil)))) (.cons (.asg 5 (.bin .Mod (.ex (.idx (.ex (.var 1)) (.bin .Mod (.ex (.bin .Add (.ex (.var 3)) (.ex (.cst (.int 1))))) (.ex (.len (.ex (.var 1))))))) (.ex (.bin .Add (.ex (.bin .Sub (.ex (.len (.ex (.var 2)))) (.ex (.var 4)))) (.ex (.cst (.int 1))))))) (.cons (.asg 6 (.bin .Add (.ex (.var 5)) (.ex (.var 4)))) (.cons (.asg 2 (.bin .Add (.ex (.bin .Add (.ex (.slc (.ex (.var 2)) (.cst .none) (.var 5))) (.ex (.lst (.cons (.blt .tuple1 (.cons (.slc (.ex (.var 2)) (.var 5) (.var 6)) .nil)) .nil))))) (.ex (.slc (.ex (.var 2)) (.var 6) (.cst .none))))) (.cons (.asg 3 (.bin .Add (.ex (.var 3)) (.ex (.cst (.int 2))))) .nil))))) =
      some (.nx [.sh pa, .sh (L ds), .sh (.list (xs.take first ++ [.tuple ((xs.drop first).take count)] ++ xs.drop (first + count))), .sh (.int (step + 2)), t4, t5, t6]) := by
  have hl : 0 < (ds.length : Int) := by
    cases ds with
    | nil => exact absurd rfl hds
    | cons a r => simp
  obtain ⟨a, ha, e1⟩ := atD_ints (is := ds) (i := step % ds.length) (Int.emod_nonneg _ (by omega)) (Int.emod_lt_of_pos _ hl)
  obtain ⟨b, hb, e2⟩ := atD_ints (is := ds) (i := (step + 1) % ds.length) (Int.emod_nonneg _ (by omega)) (Int.emod_lt_of_pos _ hl)
  obtain ⟨c, hc, e3⟩ := atD_ints (is := ds) (i := 0) (by omega) hl
  obtain ⟨q, hq, e4⟩ := atD_ints (is := [1, 2, 7]) (i := c % 3) (by omega) (by simp only [List.length_cons, List.length_nil]; omega)
  have hq0 : 0 < q := by
    simp only [List.mem_cons, List.not_mem_nil, or_false] at hq
    omega
  have a0 := hd a ha
  have am := Int.emod_nonneg a (show q ≠ 0 by omega)
  generalize hcnt : (if 2 + a % q < (xs.length : Int) then 2 + a % q else (xs.length : Int)) = cnt
  have hc2 : 2 ≤ cnt := by rw [← hcnt]; split <;> omega
  have hc3 : cnt ≤ xs.length := by rw [← hcnt]; split <;> omega
  have hw : 0 < (xs.length : Int) - cnt + 1 := by omega
  generalize hf : b % ((xs.length : Int) - cnt + 1) = first
  have hf0 : 0 ≤ first := by rw [← hf]; exact Int.emod_nonneg _ (by omega)
  have hf1 : first ≤ xs.length - cnt := by have := Int.emod_lt_of_pos b hw; omega
  refine ⟨first.toNat, cnt.toNat, by omega, by omega, .sh (.int cnt), .sh (.int first), .sh (.int (first + cnt)), ?_⟩
  have g1 : slcD (.list xs) .none (.int first) = some (.list (xs.take first.toNat)) := by rw [slc_l, cut_to hf0 (by omega)]; rfl
  have g2 : slcD (.list xs) (.int first) (.int (first + cnt)) = some (.list ((xs.drop first.toNat).take cnt.toNat)) := by
    rw [slc_l, cut_mid hf0 (by omega) (by omega) (by omega), show (first + cnt).toNat - first.toNat = cnt.toNat by omega]
    rfl
  have g3 : slcD (.list xs) (.int (first + cnt)) .none = some (.list (xs.drop (first.toNat + cnt.toNat))) := by
    rw [slc_l, cut_from (by omega) (by omega), show (first + cnt).toNat = first.toNat + cnt.toNat by omega]
    rfl
  have l1 : (xs.take first.toNat).length + [PyData.tuple ((xs.drop first.toNat).take cnt.toNat)].length ≤ lim := by rw [List.length_take, List.length_singleton]; unfold lim; omega
  have l2 : (xs.take first.toNat ++ [PyData.tuple ((xs.drop first.toNat).take cnt.toNat)]).length + (xs.drop (first.toNat + cnt.toNat)).length ≤ lim := by
    rw [List.length_append, List.length_take, List.length_drop, List.length_singleton]; unfold lim; omega
  refine ss_cons (s_asg (d := .int cnt) (ev_eq ?_ (congrArg PyData.int hcnt))) (ss_cons (s_asg (d := .int first) (ev_eq ?_ (congrArg PyData.int hf))) (ss_cons (s_asg (d := .int (first + cnt)) ?_) (ss_cons (s_asg (d := .list (xs.take first.toNat ++ [.tuple ((xs.drop first.toNat).take cnt.toNat)] ++ xs.drop (first.toNat + cnt.toNat))) ?_) (ss_cons (s_asg (d := .int (step + 2)) ?_) ss_nil))))
  · have hlen : evE Ph [.sh pa, .sh (L ds), .sh (.list xs), .sh (.int step), s4, s5, s6] (.len (.ex (.var 1))) = some (.int ds.length) := ev_len rfl (by show some _ = _; rw [List.length_map])
    have p1 : evE Ph [.sh pa, .sh (L ds), .sh (.list xs), .sh (.int step), s4, s5, s6] (.idx (.ex (.var 1)) (.bin .Mod (.ex (.var 3)) (.ex (.len (.ex (.var 1)))))) = some (.int a) := ev_idx rfl (ev_bin rfl (ev_o hlen) (bd_mod hl)) e1
    have p2 : evE Ph [.sh pa, .sh (L ds), .sh (.list xs), .sh (.int step), s4, s5, s6] (.idx (.ex (.lst (.cons (.cst (.int 1)) (.cons (.cst (.int 2)) (.cons (.cst (.int 7)) .nil))))) (.bin .Mod (.ex (.idx (.ex (.var 1)) (.cst (.int 0)))) (.ex (.cst (.int 3))))) = some (.int q) :=
      ev_idx (ev_o (ev_lst (ds := [.int 1, .int 2, .int 7]) rfl)) (ev_bin (ev_o (ev_idx rfl rfl e3)) rfl (bd_mod (by decide))) e4
    exact ev_blt (es_cons (ev_len rfl rfl) (es_cons (ev_bin rfl (ev_o (ev_bin (ev_o p1) (ev_o p2) (bd_mod hq0))) bd_add) rfl)) rfl
  · have hlen : evE Ph [.sh pa, .sh (L ds), .sh (.list xs), .sh (.int step), .sh (.int cnt), s5, s6] (.len (.ex (.var 1))) = some (.int ds.length) := ev_len rfl (by show some _ = _; rw [List.length_map])
    exact ev_bin (ev_o (ev_idx rfl (ev_bin (ev_o (ev_bin rfl rfl bd_add)) (ev_o hlen) (bd_mod hl)) e2)) (ev_o (ev_bin (ev_o (ev_bin (ev_o (ev_len rfl rfl)) rfl bd_sub)) rfl bd_add)) (bd_mod hw)
  · exact ev_bin rfl rfl bd_add
  · refine ev_bin (ev_o (ev_bin (ev_o (ev_slc rfl rfl rfl g1)) (ev_o (ev_lst (es_cons (ev_blt (es_cons (ev_slc rfl rfl rfl g2) rfl) rfl) rfl))) (d := .list (xs.take first.toNat ++ [.tuple ((xs.drop first.toNat).take cnt.toNat)])) ?_)) (ev_o (ev_slc rfl rfl rfl g3)) ?_
    · show (if _ then _ else _) = _
      rw [if_pos l1]
    · show (if _ then _ else _) = _
      rw [if_pos l2]
  · exact ev_bin rfl rfl bd_add
theorem tree_ok (h18 : T.lookup 18 = some F18) {ts : List Tr} {ds : List Int} (hds : ds ≠ []) (hd : ∀ d ∈ ds, 0 ≤ d) (h1 : 1 ≤ ts.length) (h2 : ts.length ≤ 1000) (hw : wfL ts = true) :
    ∃ t : Tr, wf t = true ∧ lvs t = lvsL ts ∧ Phi T (n + 1) 18 [.list (ts.map enc), L ds] = some (enc t) := by
  rw [Phi_succ h18]
  have loop : ∃ env' m', loopW (fun env => evE (Phi T n) env (.cmp .Gt (.ex (.len (.ex (.var 2)))) (.ex (.cst (.int 1))))) (fun env => exSs (Phi T n) (frOf T) env (.cons (.asg 4 (.blt .min2 (.cons (.len (.ex (.var 2))) (.cons (.bin .Add (.ex (.cst (.int 2))) (.ex (.bin .Mod (.ex (.idx (.ex (.var 1)) (.bin .Mod (.ex (.var 3)) (.ex (.len (.ex (.var 1))))))) (.ex (.idx (.ex (.lst (.cons (.cst (.int 1)) (.cons (.cst (.int 2)) (.cons (.cst (.int 7)) .nil))))) (.bin .Mod (.ex (.idx (.ex (.var 1)) (.cst (.int 0)))) (.ex (.cst (.int 3))))))))) .nil)))) (.cons (.asg 5 (.bin .Mod (.ex (.idx (.ex (.var 1)) (.bin .Mod (.ex (.bin .Add (.ex (.var 3)) (.ex (.cst (.int 1))))) (.ex (.len (.ex (.var 1))))))) (.ex (.bin .Add (.ex (.bin .Sub (.ex (.len (.ex (.var 2)))) (.ex (.var 4)))) (.ex (.cst (.int 1))))))) (.cons (.asg 6 (.bin .Add (.ex (.var 5)) (.ex (.var 4)))) (.cons (.asg 2 (.bin .Add (.ex (.bin .Add (.ex (.slc (.ex (.var 2)) (.cst .none) (.var 5))) (.ex (.lst (.cons (.blt .tuple1 (.cons (.slc (.ex (.var 2)) (.var 5) (.var 6)) .nil)) .nil))))) (.ex (.slc (.ex (.var 2)) (.var 6) (.cst .none))))) (.cons (.asg 3 (.bin .Add (.ex (.var 3)) (.ex (.cst (.int 2))))) .nil))))))
      wfuel [.sh (.list (ts.map enc)), .sh (L ds), .sh (.list (ts.map enc)), .sh (.int 0), .un, .un, .un] = some (.nx env') ∧ (∃ (us : List Tr) (step : Int) (s4 s5 s6 : Sl), env' = [.sh (.list (ts.map enc)), .sh (L ds), .sh (.list (us.map enc)), .sh (.int step), s4, s5, s6] ∧ us.length = m' ∧ 1 ≤ us.length ∧ us.length ≤ 1000 ∧ 0 ≤ step ∧ wfL us = true ∧ lvsL us = lvsL ts) ∧ evE (Phi T n) env' (.cmp .Gt (.ex (.len (.ex (.var 2)))) (.ex (.cst (.int 1)))) = some (.bool false) := by
    refine loopW_inv (fun m env => ∃ (us : List Tr) (step : Int) (s4 s5 s6 : Sl), env = [.sh (.list (ts.map enc)), .sh (L ds), .sh (.list (us.map enc)), .sh (.int step), s4, s5, s6] ∧ us.length = m ∧ 1 ≤ us.length ∧ us.length ≤ 1000 ∧ 0 ≤ step ∧ wfL us = true ∧ lvsL us = lvsL ts) wfuel ts.length _ (by unfold wfuel; omega) ⟨ts, 0, .un, .un, .un, rfl, rfl, h1, h2, by omega, hw, rfl⟩ ?_
    rintro m env ⟨us, step, s4, s5, s6, rfl, rfl, u1, u2, us0, uw, ul⟩
    have hlen : evE (Phi T n) [.sh (.list (ts.map enc)), .sh (L ds), .sh (.list (us.map enc)), .sh (.int step), s4, s5, s6] (.cmp .Gt (.ex (.len (.ex (.var 2)))) (.ex (.cst (.int 1)))) = some (.bool (decide ((1 : Int) < us.length))) := by
      refine ev_cmp (ev_o (ev_len rfl (d := .int us.length) ?_)) rfl rfl
      show some _ = _
      rw [List.length_map]
    by_cases hc : (1 : Int) < us.length
    · refine .inr ⟨by rw [hlen, decide_eq_true hc], ?_⟩
      obtain ⟨first, count, c1, c2, t4, t5, t6, he⟩ := tree_turn (Ph := Phi T n) (fr := frOf T) (pa := .list (ts.map enc)) (xs := us.map enc) (s4 := s4) (s5 := s5) (s6 := s6) hds hd us0 (by rw [List.length_map]; omega) (by rw [List.length_map]; omega)
      rw [List.length_map] at c2
      refine ⟨_, (us.take first ++ [Tr.node ((us.drop first).take count)] ++ us.drop (first + count)).length, he, ?_, us.take first ++ [Tr.node ((us.drop first).take count)] ++ us.drop (first + count), step + 2, t4, t5, t6, ?_, rfl, ?_, ?_, by omega, ?_, ?_⟩
      · simp only [List.length_append, List.length_take, List.length_drop, List.length_singleton]; omega
      · simp only [List.map_append, List.map_take, List.map_drop, List.map_cons, List.map_nil, enc, encs_map]
      · simp only [List.length_append, List.length_take, List.length_drop, List.length_singleton]; omega
      · simp only [List.length_append, List.length_take, List.length_drop, List.length_singleton]; omega
      · have sp : us = us.take first ++ ((us.drop first).take count ++ us.drop (first + count)) := by
          rw [← List.drop_drop, List.take_append_drop, List.take_append_drop]
        rw [sp, wfL_app, wfL_app] at uw
        simp only [Bool.and_eq_true] at uw
        rw [wfL_app, wfL_app, wfL, wfL, wf, uw.1, uw.2.1, uw.2.2, decide_eq_true (by rw [List.length_take, List.length_drop]; omega)]
        rfl
      · have sp : us = us.take first ++ ((us.drop first).take count ++ us.drop (first + count)) := by
          rw [← List.drop_drop, List.take_append_drop, List.take_append_drop]
        rw [← ul]
        conv => rhs; rw [sp]
        rw [lvsL_app, lvsL_app, lvsL, lvsL, lvs, lvsL_app, lvsL_app, List.append_nil, List.append_assoc]
    · exact .inl (by rw [hlen, decide_eq_false hc])
  obtain ⟨env', m', he, ⟨us, step, s4, s5, s6, rfl, rfl, u1, u2, us0, uw, ul⟩, hfin⟩ := loop
  have hlen : evE (Phi T n) [.sh (.list (ts.map enc)), .sh (L ds), .sh (.list (us.map enc)), .sh (.int step), s4, s5, s6] (.cmp .Gt (.ex (.len (.ex (.var 2)))) (.ex (.cst (.int 1)))) = some (.bool (decide ((1 : Int) < us.length))) := by
    refine ev_cmp (ev_o (ev_len rfl (d := .int us.length) ?_)) rfl rfl
    show some _ = _
    rw [List.length_map]
  rw [hlen] at hfin
  have hlast : ¬ (1 : Int) < us.length := by
    intro h
    rw [decide_eq_true h] at hfin
    cases hfin
  match us, u1, u2, uw, ul, hlast, he with
  | [], u1, _, _, _, _, _ => simp at u1
  | [t], u1, u2, uw, ul, hlast, he =>
    refine ⟨t, by rw [wfL, wfL, Bool.and_true] at uw; exact uw, by rw [← ul, lvsL, lvsL, List.append_nil], run_ret rfl rfl (b := false) ?_⟩
    refine ss_cons (s_par (b1 := true) (b2 := false) (d1 := .list (ts.map enc)) (d2 := .int 0) rfl rfl rfl rfl) (ss_cons (s_shr (d := .list (ts.map enc)) rfl) (ss_cons (s_whl he) (ss_rt (s_ret ?_))))
    exact ev_idx rfl rfl rfl
  | _ :: _ :: _, _, _, _, _, hlast, _ => exact absurd (by simp only [List.length_cons]; omega) hlast
end
end Wr.P
end

section
set_option Elab.async false
set_option linter.all false
set_option maxRecDepth 100000
set_option maxHeartbeats 4000000
/-! WsC: the law's random rig. -/
namespace Wr.P
open PySem
section
variable {Ph : Nat → List PyData → Option PyData} {fr : Nat → Bool} {env : Ev}
theorem s_apop {i j : Nat} {k : E} {es : Es} {m : Int} {xs ys ds : List PyData} {x : PyData} (h1 : evE Ph env k = some (.int m)) (h2 : env[j]? = some (.ow (.list xs))) (h3 : 0 ≤ m ∧ m < 1000) (h4 : xs[m.toNat]? = some x) (h5 : evEs Ph (env.set j .un) es = some ds) (h6 : env[i]? = some (.ow (.list ys))) (h7 : i ≠ j) (h8 : ys.length ≤ lim) (h9 : isPr x = false) :
    exS Ph fr env (.apop i j k es) = some (.nx ((env.set j (.ow (.list (xs.eraseIdx m.toNat)))).set i (.ow (.list (ys ++ [.tuple (x :: ds)]))))) := by
  rw [exS, h1]
  simp only [h2, if_pos h3, h4, h5, h6, if_neg (by rw [h9]; simp [h7] : ¬(i = j ∨ isPr x = true)), appD, if_pos h8, Option.map_some]
end
def six6 : List Str := [st [97, 120], st [98, 111], st [99, 121], st [100, 111, 116], st [101, 108, 107], st [102, 105, 103]]
/-- a strand as the document has it, its name one of six -/
def LfOk (l : Lf) : Prop := l.1 ∈ six6 ∧ 1 ≤ l.2.1 ∧ l.2.1 ≤ 99 ∧ 0 ≤ l.2.2 ∧ l.2.2 ≤ 20
/-- a rig of the laws -/
structure Rig (t : Tr) (m : Nat) : Prop where
  wf : wf t = true
  nd : ((lvs t).map (·.1)).Nodup
  ok : ∀ l ∈ lvs t, LfOk l
  len : (lvs t).length ≤ m
theorem pick4 {a b c d i : Int} {P : Int → Prop} (ha : P a) (hb : P b) (hc : P c) (hd : P d) (h0 : 0 ≤ i) (h1 : i < 4) : ∃ x, P x ∧ idxD (.list [.int a, .int b, .int c, .int d]) (.int i) = some (.int x) := by
  obtain ⟨x, hx, e⟩ := atD_ints (is := [a, b, c, d]) h0 (by simp only [List.length_cons, List.length_nil]; omega)
  refine ⟨x, ?_, e⟩
  simp only [List.mem_cons, List.not_mem_nil, or_false] at hx
  rcases hx with rfl | rfl | rfl | rfl <;> assumption
theorem eraseIdx_str : ∀ (l : List Str) (j : Nat), (l.eraseIdx j).map PyData.str = (l.map PyData.str).eraseIdx j
  | [], _ => rfl
  | _ :: _, 0 => rfl
  | _ :: l, j + 1 => congrArg (_ :: ·) (eraseIdx_str l j)
section
variable {T : Tab} {n : Nat}
theorem rig_turn {Ph : Nat → List PyData → Option PyData} {fr : Nat → Bool} {ds : List Int} {li co : PyData} {nms : List Str} {ls : List PyData} {d d1 : Int} {s6 s7 : Sl} (hd : 0 ≤ d) (e1 : atD (ds.map .int) 1 = some (.int d1)) (hd1 : 0 ≤ d1) (hn : nms ≠ []) (hn2 : nms.length ≤ 6) (hl : ls.length ≤ 1000) :
    ∃ (p w : Int) (x : Str) (i : Nat) (t6 t7 : Sl), 1 ≤ p ∧ p ≤ 99 ∧ 0 ≤ w ∧ w ≤ 20 ∧ nms[i]? = some x ∧ exSs Ph fr [.sh (L ds), .sh li, .sh co, .ow (.list (nms.map .str)), .ow (.list ls), .sh (.int d), s6, s7]
      (.cons (.asg 6 (.idx (.ex (.lst (.cons (.bin .Add (.ex (.cst (.int 1))) (.ex (.bin .Mod (.ex (.var 5)) (.ex (.cst (.int 99)))))) (.cons (.bin .Add (.ex (.cst (.int 1))) (.ex (.bin .Mod (.ex (.var 5)) (.ex (.cst (.int 12)))))) (.cons (.idx (.ex (.tup (.cons (.cst (.int 3)) (.cons (.cst (.int 6)) (.cons (.cst (.int 12)) (.cons (.cst (.int 24)) (.cons (.cst (.int 48)) (.cons (.cst (.int 96)) .nil)))))))) (.bin .Mod (.ex (.var 5)) (.ex (.cst (.int 6))))) (.cons (.bin .Add (.ex (.cst (.int 20))) (.ex (.bin .Mod (.ex (.var 5)) (.ex (.cst (.int 9)))))) .nil)))))) (.bin .Mod (.ex (.idx (.ex (.var 0)) (.cst (.int 1)))) (.ex (.cst (.int 4)))))) (.cons (.asg 7 (.idx (.ex (.lst (.cons (.bin .Mod (.ex (.bin .FloorDiv (.ex (.var 5)) (.ex (.cst (.int 100))))) (.ex (.cst (.int 4)))) (.cons (.bin .Mod (.ex (.bin .FloorDiv (.ex (.var 5)) (.ex (.cst (.int 100))))) (.ex (.cst (.int 21)))) (.cons (.bin .Mult (.ex (.bin .Mod (.ex (.bin .FloorDiv (.ex (.var 5)) (.ex (.cst (.int 100))))) (.ex (.cst (.int 2))))) (.ex (.cst (.int 3)))) (.cons (.cst (.int 1)) .nil)))))) (.bin .Mod (.ex (.bin .FloorDiv (.ex (.idx (.ex (.var 0)) (.cst (.int 1)))) (.ex (.cst (.int 4))))) (.ex (.cst (.int 4)))))) (.cons (.apop 4 3 (.bin .Mod (.ex (.bin .FloorDiv (.ex (.var 5)) (.ex (.cst (.int 13))))) (.ex (.len (.bo 3)))) (.cons (.var 6) (.cons (.var 7) .nil))) .nil))) =
      some (.nx [.sh (L ds), .sh li, .sh co, .ow (.list ((nms.eraseIdx i).map .str)), .ow (.list (ls ++ [sd x p w])), .sh (.int d), t6, t7]) := by
  obtain ⟨q, hq, eq⟩ := atD_ints (is := [3, 6, 12, 24, 48, 96]) (i := d % 6) (by omega) (by simp only [List.length_cons, List.length_nil]; omega)
  have hq1 : 1 ≤ q ∧ q ≤ 99 := by
    simp only [List.mem_cons, List.not_mem_nil, or_false] at hq
    omega
  obtain ⟨p, hp, ep⟩ := pick4 (P := fun p => 1 ≤ p ∧ p ≤ 99) (a := 1 + d % 99) (b := 1 + d % 12) (c := q) (d := 20 + d % 9) (i := d1 % 4) (by omega) (by omega) hq1 (by omega) (by omega) (by omega)
  obtain ⟨w, hw, ew⟩ := pick4 (P := fun p => 0 ≤ p ∧ p ≤ 20) (a := d / 100 % 4) (b := d / 100 % 21) (c := d / 100 % 2 * 3) (d := 1) (i := d1 / 4 % 4) (by omega) (by omega) (by omega) (by omega) (by omega) (by omega)
  have hl0 : 0 < (nms.length : Int) := by
    cases nms with
    | nil => exact absurd rfl hn
    | cons _ _ => simp
  generalize hm : d / 13 % (nms.length : Int) = m
  have hm0 : 0 ≤ m := by rw [← hm]; exact Int.emod_nonneg _ (by omega)
  have hm1 : m < nms.length := by rw [← hm]; exact Int.emod_lt_of_pos _ hl0
  have hmn : m.toNat < nms.length := by omega
  have hlen : evE Ph [.sh (L ds), .sh li, .sh co, .ow (.list (nms.map .str)), .ow (.list ls), .sh (.int d), .sh (.int p), .sh (.int w)] (.len (.bo 3)) = some (.int nms.length) := ev_len rfl (by show some _ = _; rw [List.length_map])
  have s3 : small 3 = true := by decide
  refine ⟨p, w, nms[m.toNat], m.toNat, .sh (.int p), .sh (.int w), hp.1, hp.2, hw.1, hw.2, List.getElem?_eq_getElem hmn, ?_⟩
  refine ss_cons (s_asg (d := .int p) ?_) (ss_cons (s_asg (d := .int w) ?_) (ss_cons (s_apop (m := m) (xs := nms.map .str) (ys := ls) (x := .str nms[m.toNat]) (ds := [.int p, .int w]) ?_ rfl ⟨hm0, by omega⟩ ?_ rfl rfl (by decide) (by unfold lim; omega) rfl) ?_))
  · refine ev_idx (ev_o (ev_lst (es_cons (d := .int (1 + d % 99)) ?_ (es_cons (d := .int (1 + d % 12)) ?_ (es_cons (d := .int q) ?_ (es_cons (d := .int (20 + d % 9)) ?_ rfl)))))) (ev_bin (ev_o (ev_idx rfl rfl e1)) rfl (bd_mod (by decide))) ep
    · exact ev_bin rfl (ev_o (ev_bin rfl rfl (bd_mod (by decide)))) bd_add
    · exact ev_bin rfl (ev_o (ev_bin rfl rfl (bd_mod (by decide)))) bd_add
    · exact ev_idx rfl (ev_bin rfl rfl (bd_mod (by decide))) eq
    · exact ev_bin rfl (ev_o (ev_bin rfl rfl (bd_mod (by decide)))) bd_add
  · refine ev_idx (ev_o (ev_lst (es_cons (d := .int (d / 100 % 4)) ?_ (es_cons (d := .int (d / 100 % 21)) ?_ (es_cons (d := .int (d / 100 % 2 * 3)) ?_ (es_cons (d := .int 1) rfl rfl)))))) (ev_bin (ev_o (ev_bin (ev_o (ev_idx rfl rfl e1)) rfl (bd_div (by decide) (by decide)))) rfl (bd_mod (by decide))) ew
    · exact ev_bin (ev_o (ev_bin rfl rfl (bd_div (by decide) (by decide)))) rfl (bd_mod (by decide))
    · exact ev_bin (ev_o (ev_bin rfl rfl (bd_div (by decide) (by decide)))) rfl (bd_mod (by decide))
    · exact ev_bin (ev_o (ev_bin (ev_o (ev_bin rfl rfl (bd_div (by decide) (by decide)))) rfl (bd_mod (by decide)))) rfl (bd_mulr s3)
  · exact ev_eq (ev_bin (ev_o (ev_bin rfl rfl (bd_div (by decide) (by decide)))) (ev_o hlen) (bd_mod hl0)) (congrArg PyData.int hm)
  · rw [List.getElem?_map, List.getElem?_eq_getElem hmn]
    rfl
  · rw [ss_nil, eraseIdx_str]
    rfl
def lfT (l : Lf) : Tr := .leaf l.1 l.2.1 l.2.2
theorem lvsL_lfT : ∀ ls : List Lf, lvsL (ls.map lfT) = ls
  | [] => rfl
  | (x, p, w) :: ls => by rw [List.map_cons, lvsL, lvsL_lfT ls]; rfl
theorem wfL_lfT : ∀ ls : List Lf, wfL (ls.map lfT) = true
  | [] => rfl
  | l :: ls => by rw [List.map_cons, wfL, wfL_lfT ls]; rfl
theorem erase_perm : ∀ {l : List Str} {i : Nat} {x : Str}, l[i]? = some x → l.Perm (x :: l.eraseIdx i)
  | [], _, _, h => by simp at h
  | y :: l, 0, x, h => by
    simp at h
    subst h
    exact .refl _
  | y :: l, i + 1, x, h => by
    have := erase_perm (l := l) (i := i) (x := x) (by simpa using h)
    exact (List.Perm.cons y this).trans (List.Perm.swap x y _)
theorem rig_ok (h18 : T.lookup 18 = some F18) (h19 : T.lookup 19 = some F19) {ds : List Int} (hl : 22 ≤ ds.length) (hd : ∀ d ∈ ds, 0 ≤ d) {m : Nat} (hm1 : 1 ≤ m) (hm6 : m ≤ 6) :
    ∃ t : Tr, Rig t m ∧ Phi T (n + 2) 19 [L ds, .int m] = some (enc t) := by
  rw [Phi_succ h19]
  obtain ⟨d0, hd0, e0⟩ := atD_ints (is := ds) (i := 0) (by omega) (by omega)
  obtain ⟨d1, hd1, e1⟩ := atD_ints (is := ds) (i := 1) (by omega) (by omega)
  have d0p := hd d0 hd0
  have d1p := hd d1 hd1
  have mp : (0 : Int) < m := by omega
  have mp2 : (m : Int) < 1073741824 := by omega
  have k1 := Int.emod_nonneg (d0 / 4) (show (m : Int) ≠ 0 by omega)
  have k2 := Int.emod_lt_of_pos (d0 / 4) mp
  obtain ⟨c, hc, ec⟩ := pick4 (P := fun c => 1 ≤ c ∧ c ≤ m) (a := m) (b := 1 + d0 / 4 % m) (c := if (m : Int) < 3 then (m : Int) else 3) (d := if (m : Int) < 4 then (m : Int) else 4) (i := d0 % 4) (by omega) (by omega) (by split <;> omega) (by split <;> omega) (by omega) (by omega)
  have hcut : slcD (.list (ds.map .int)) (.int 2) (.int (2 + c)) = some (.list (((ds.map .int).drop 2).take c.toNat)) := by
    rw [slc_l, cut_mid (by omega) (by rw [List.length_map]; omega) (by omega) (by rw [List.length_map]; omega), show (2 + c).toNat - (2 : Int).toNat = c.toNat by omega]
    rfl
  have hcut2 : slcD (.list (ds.map .int)) (.int 8) (.int 22) = some (L ((ds.drop 8).take 14)) := by
    rw [slc_l, cut_mid (by omega) (by rw [List.length_map]; omega) (by omega) (by rw [List.length_map]; omega)]
    simp [L]
  generalize hits : ((ds.map PyData.int).drop 2).take c.toNat = its at hcut
  have hil : its.length = c.toNat := by
    rw [← hits, List.length_take, List.length_drop, List.length_map]; omega
  have hitem : ∀ x ∈ its, ∃ d : Int, x = .int d ∧ 0 ≤ d := fun x hx => by
    rw [← hits] at hx
    obtain ⟨d, h1, h2⟩ := List.mem_map.mp (List.mem_of_mem_drop (List.mem_of_mem_take hx))
    exact ⟨d, h2.symm, hd d h1⟩
  have loop := loopF_all (tg := .nm 5) (ds := its) (env := [.sh (L ds), .sh (.int m), .sh (.int c), .ow (.list (six6.map .str)), .ow (.list []), .un, .un, .un])
    (body := fun env => exSs (Phi T (n + 1)) (frOf T) env (.cons (.asg 6 (.idx (.ex (.lst (.cons (.bin .Add (.ex (.cst (.int 1))) (.ex (.bin .Mod (.ex (.var 5)) (.ex (.cst (.int 99)))))) (.cons (.bin .Add (.ex (.cst (.int 1))) (.ex (.bin .Mod (.ex (.var 5)) (.ex (.cst (.int 12)))))) (.cons (.idx (.ex (.tup (.cons (.cst (.int 3)) (.cons (.cst (.int 6)) (.cons (.cst (.int 12)) (.cons (.cst (.int 24)) (.cons (.cst (.int 48)) (.cons (.cst (.int 96)) .nil)))))))) (.bin .Mod (.ex (.var 5)) (.ex (.cst (.int 6))))) (.cons (.bin .Add (.ex (.cst (.int 20))) (.ex (.bin .Mod (.ex (.var 5)) (.ex (.cst (.int 9)))))) .nil)))))) (.bin .Mod (.ex (.idx (.ex (.var 0)) (.cst (.int 1)))) (.ex (.cst (.int 4)))))) (.cons (.asg 7 (.idx (.ex (.lst (.cons (.bin .Mod (.ex (.bin .FloorDiv (.ex (.var 5)) (.ex (.cst (.int 100))))) (.ex (.cst (.int 4)))) (.cons (.bin .Mod (.ex (.bin .FloorDiv (.ex (.var 5)) (.ex (.cst (.int 100))))) (.ex (.cst (.int 21)))) (.cons (.bin .Mult (.ex (.bin .Mod (.ex (.bin .FloorDiv (.ex (.var 5)) (.ex (.cst (.int 100))))) (.ex (.cst (.int 2))))) (.ex (.cst (.int 3)))) (.cons (.cst (.int 1)) .nil)))))) (.bin .Mod (.ex (.bin .FloorDiv (.ex (.idx (.ex (.var 0)) (.cst (.int 1)))) (.ex (.cst (.int 4))))) (.ex (.cst (.int 4)))))) (.cons (.apop 4 3 (.bin .Mod (.ex (.bin .FloorDiv (.ex (.var 5)) (.ex (.cst (.int 13))))) (.ex (.len (.bo 3)))) (.cons (.var 6) (.cons (.var 7) .nil))) .nil))))
    (fun done env => ∃ (nms : List Str) (ls : List Lf) (s5 s6 s7 : Sl), env = [.sh (L ds), .sh (.int m), .sh (.int c), .ow (.list (nms.map .str)), .ow (.list (ls.map fun l => enc (lfT l))), s5, s6, s7] ∧ nms.length + done.length = 6 ∧ ls.length = done.length ∧ (ls.map (·.1) ++ nms).Nodup ∧ (∀ x ∈ nms, x ∈ six6) ∧ ∀ l ∈ ls, LfOk l)
    ⟨six6, [], .un, .un, .un, rfl, rfl, rfl, by decide, fun _ h => h, fun l h => by cases h⟩ (by
      rintro done d rest env e ⟨nms, ls, s5, s6, s7, rfl, hn, hls, hnd, hin, hok⟩
      obtain ⟨di, rfl, hdi⟩ := hitem d (by rw [← e]; simp)
      have hle : done.length < c.toNat := by
        rw [← hil, ← e]
        simp only [List.length_append, List.length_cons]
        omega
      have hne : nms ≠ [] := fun z => by
        rw [z] at hn
        simp only [List.length_nil] at hn
        omega
      obtain ⟨p, w, x, i, t6, t7, p1, p2, w1, w2, hx, he⟩ := rig_turn (Ph := Phi T (n + 1)) (fr := frOf T) (ds := ds) (li := .int m) (co := .int c) (nms := nms) (ls := ls.map fun l => enc (lfT l)) (d := di) (s6 := s6) (s7 := s7) hdi e1 d1p hne (by omega) (by rw [List.length_map]; omega)
      have hp := erase_perm hx
      refine ⟨_, _, by rw [bindT]; rfl, he, nms.eraseIdx i, ls ++ [(x, p, w)], .sh (.int di), t6, t7, ?_, ?_, ?_, ?_, fun y hy => ?_, fun l hl' => ?_⟩
      · rw [List.map_append]
        rfl
      · have := hp.length_eq
        simp only [List.length_cons, List.length_append, List.length_nil] at this ⊢
        omega
      · simp only [List.length_append, hls, List.length_singleton]
      · rw [List.map_append, List.append_assoc]
        refine (List.Perm.nodup_iff ?_).mp hnd
        exact List.Perm.append_left _ hp
      · exact hin y (hp.mem_iff.mpr (List.mem_cons_of_mem _ hy))
      · rcases List.mem_append.mp hl' with h | h
        · exact hok l h
        · rw [List.mem_singleton] at h
          subst h
          exact ⟨hin x (hp.mem_iff.mpr List.mem_cons_self), p1, p2, w1, w2⟩)
  obtain ⟨env', he, nms, ls, s5, s6, s7, rfl, hn, hls, hnd, hin, hok⟩ := loop
  have hls1 : 1 ≤ ls.length := by omega
  have hlsm : ls.length ≤ m := by omega
  obtain ⟨t, tw, tl, te⟩ := tree_ok (T := T) (n := n) h18 (ts := ls.map lfT) (ds := (ds.drop 8).take 14) (fun z => by
      have := congrArg List.length z
      rw [List.length_take, List.length_drop, List.length_nil] at this
      omega) (fun d h => hd d (List.mem_of_mem_drop (List.mem_of_mem_take h))) (by rw [List.length_map]; exact hls1) (by rw [List.length_map]; omega) (wfL_lfT ls)
  rw [lvsL_lfT] at tl
  refine ⟨t, ⟨tw, by rw [tl]; exact (List.nodup_append.mp hnd).1, fun l hl' => hok l (by rw [← tl]; exact hl'), by rw [tl]; exact hlsm⟩, run_ret rfl rfl (b := Wr.frs (frOf T) (.call 18 (.cons (.var 4) (.cons (.slc (.ex (.var 0)) (.cst (.int 8)) (.cst (.int 22))) .nil)))) ?_⟩
  refine ss_cons (s_asg (d := .int c) ?_) (ss_cons (s_own (d := .list (six6.map .str)) rfl) (ss_cons (s_own (d := .list []) rfl) (ss_cons (s_for (ds := its) ?_ he) (ss_cons (s_shr (d := .list (ls.map fun l => enc (lfT l))) rfl) (ss_rt (s_ret ?_))))))
  · refine ev_idx (ev_o (ev_lst (es_cons (d := .int m) rfl (es_cons (d := .int (1 + d0 / 4 % m)) ?_ (es_cons (d := .int (if (m : Int) < 3 then (m : Int) else 3)) rfl (es_cons (d := .int (if (m : Int) < 4 then (m : Int) else 4)) rfl rfl)))))) (ev_bin (ev_o (ev_idx rfl rfl e0)) rfl (bd_mod (by decide))) ec
    exact ev_bin rfl (ev_o (ev_bin (ev_o (ev_bin (ev_o (ev_idx rfl rfl e0)) rfl (bd_div (by decide) (by decide)))) rfl (bd_mod mp))) bd_add
  · have h : evE (Phi T (n + 1)) [.sh (L ds), .sh (.int m), .sh (.int c), .ow (.list (six6.map .str)), .ow (.list []), .un, .un, .un] (.slc (.ex (.var 0)) (.cst (.int 2)) (.bin .Add (.ex (.cst (.int 2))) (.ex (.var 2)))) = some (.list its) := ev_slc rfl rfl (ev_bin rfl rfl bd_add) hcut
    show evI (Phi T (n + 1)) [.sh (L ds), .sh (.int m), .sh (.int c), .ow (.list (six6.map .str)), .ow (.list []), .un, .un, .un] (.val _) = _
    rw [evI, h]
    rfl
  · rw [List.map_map] at te
    exact ev_call (es_cons rfl (es_cons (ev_slc rfl rfl rfl hcut2) rfl)) te
end
end Wr.P
end

section
set_option Elab.async false
set_option linter.all false
set_option maxRecDepth 100000
set_option maxHeartbeats 4000000
/-! WsD: comprehensions, dicts with text keys; a tree's strands. -/
namespace Wr.P
open PySem
mutual
theorem Tr.ind {P : Tr → Prop} (h1 : ∀ x p w, P (.leaf x p w)) (h2 : ∀ cs, (∀ c ∈ cs, P c) → P (.node cs)) : ∀ t, P t
  | .leaf x p w => h1 x p w
  | .node cs => h2 cs (Tr.indL h1 h2 cs)
theorem Tr.indL {P : Tr → Prop} (h1 : ∀ x p w, P (.leaf x p w)) (h2 : ∀ cs, (∀ c ∈ cs, P c) → P (.node cs)) : ∀ cs : List Tr, ∀ c ∈ cs, P c
  | [] => fun c h => by cases h
  | d :: ds => by
    rw [List.forall_mem_cons]
    exact ⟨Tr.ind h1 h2 d, Tr.indL h1 h2 ds⟩
end
theorem dep_mem : ∀ {cs : List Tr} {c : Tr}, c ∈ cs → dep c ≤ depL cs
  | d :: ds, c, h => by
    rw [depL]
    rcases List.mem_cons.mp h with e | h
    · subst e; omega
    · have := dep_mem h; omega
theorem lvs_le : ∀ {cs : List Tr} {c : Tr}, c ∈ cs → (lvs c).length ≤ (lvsL cs).length
  | d :: ds, c, h => by
    rw [lvsL, List.length_append]
    rcases List.mem_cons.mp h with e | h
    · subst e; omega
    · have := lvs_le h; omega
theorem lvsL_flat : ∀ cs : List Tr, lvsL cs = cs.flatMap lvs
  | [] => rfl
  | c :: cs => by rw [lvsL, lvsL_flat cs, List.flatMap_cons]
/-! comprehensions -/
theorem collect_of {α : Type} {f : PyData → Option (Option PyData)} (e : α → PyData) (g : α → Option PyData) : ∀ (as : List α), (∀ a ∈ as, f (e a) = some (g a)) → collect f (as.map e) = some (as.filterMap g)
  | [], _ => rfl
  | a :: as, h => by
    have ih := collect_of e g as (fun x hx => h x (List.mem_cons_of_mem _ hx))
    rw [List.map_cons, collect, h a List.mem_cons_self]
    cases q : g a with
    | none => simp only [ih, List.filterMap_cons, q]
    | some y => simp only [ih, List.filterMap_cons, q, Option.map_some]
theorem collect2_of {α : Type} {f : PyData → Option (List PyData)} (e : α → PyData) (g : α → List PyData) : ∀ (as : List α), (∀ a ∈ as, f (e a) = some (g a)) → collect2 f (as.map e) = some (as.flatMap g)
  | [], _ => rfl
  | a :: as, h => by
    rw [List.map_cons, collect2, h a List.mem_cons_self]
    simp only [collect2_of e g as (fun x hx => h x (List.mem_cons_of_mem _ hx)), Option.map_some, List.flatMap_cons]
section
variable {Ph : Nat → List PyData → Option PyData} {fr : Nat → Bool} {env : Ev} {el : E} {tg tg2 : Tg} {it it2 : I} {cs : Es} {α β : Type}
/-- [elt for tg in it if cs] -/
theorem ev_cpr (e : α → PyData) (g : α → Option PyData) (as : List α) (hi : evI Ph env it = some (as.map e))
    (h : ∀ a ∈ as, ∃ env', bindT (wipeE env (slotsT tg)) tg (e a) = some env' ∧ ((evAnd Ph env' cs = some (.bool true) ∧ ∃ y, g a = some y ∧ evE Ph env' el = some y) ∨ (evAnd Ph env' cs = some (.bool false) ∧ g a = none))) :
    evE Ph env (.cpr el tg it cs) = some (.list (as.filterMap g)) := by
  rw [evE, hi]
  dsimp only
  rw [collect_of e g as fun a ha => ?_]
  · rfl
  · obtain ⟨env', hb, ⟨h1, y, h2, h3⟩ | ⟨h1, h2⟩⟩ := h a ha
    · simp only [hb, h1, h2, h3, Option.map_some]
    · simp only [hb, h1, h2]
theorem ev_cpm (e : α → PyData) (g : α → PyData) (as : List α) (hi : evI Ph env it = some (as.map e)) (h : ∀ a ∈ as, ∃ env', bindT (wipeE env (slotsT tg)) tg (e a) = some env' ∧ evE Ph env' el = some (g a)) :
    evE Ph env (.cpr el tg it .nil) = some (.list (as.map g)) := by
  rw [← List.filterMap_eq_map]
  refine ev_cpr e (some ∘ g) as hi fun a ha => ?_
  obtain ⟨env', h1, h2⟩ := h a ha
  exact ⟨env', h1, .inl ⟨rfl, g a, rfl, h2⟩⟩
theorem ev_cp2 (e : α → PyData) (e2 : β → PyData) (q : α → List β) (g : α → β → PyData) (as : List α) (hi : evI Ph env it = some (as.map e))
    (h : ∀ a ∈ as, ∃ env', bindT (wipeE env (slotsT tg ++ slotsT tg2)) tg (e a) = some env' ∧ evI Ph env' it2 = some ((q a).map e2) ∧ ∀ b ∈ q a, ∃ env2, bindT (wipeE env' (slotsT tg2)) tg2 (e2 b) = some env2 ∧ evE Ph env2 el = some (g a b))
    (hl : (as.flatMap fun a => (q a).map (g a)).length ≤ lim) : evE Ph env (.cp2 el tg it tg2 it2) = some (.list (as.flatMap fun a => (q a).map (g a))) := by
  rw [evE, hi]
  dsimp only
  rw [collect2_of e (fun a => (q a).map (g a)) as fun a ha => ?_]
  · simp only [hl, if_true]
  · obtain ⟨env', hb, h2, h3⟩ := h a ha
    simp only [hb, h2]
    rw [collect_of e2 (fun b => some (g a b)) (q a) fun b hb' => ?_]
    · rw [show (fun b => some (g a b)) = some ∘ g a from rfl, List.filterMap_eq_map]
    · obtain ⟨env2, h4, h5⟩ := h3 b hb'
      simp only [h4, h5, Option.map_some]
end
/-! dicts with text keys -/
def dct (l : List (Str × PyData)) : List (PyData × PyData) := l.map fun p => (.str p.1, p.2)
abbrev D (l : List (Str × PyData)) : PyData := .dict (dct l)
theorem eqv_s (x y : Str) : PyData.eqv (.str x) (.str y) = (x == y) := by simp [PyData.eqv]
theorem look_dct (x : Str) : ∀ l : List (Str × PyData), lookD (dct l) (.str x) = l.lookup x
  | [] => rfl
  | (y, v) :: l => by
    rw [dct, List.map_cons, lookD, eqv_s, List.lookup_cons]
    have ih : lookD (l.map fun p => (PyData.str p.1, p.2)) (.str x) = l.lookup x := look_dct x l
    cases h : y == x with
    | true =>
      have : (x == y) = true := by rw [beq_iff_eq] at h ⊢; exact h.symm
      simp only [this, if_true]
    | false =>
      have : (x == y) = false := by rw [beq_eq_false_iff_ne] at h ⊢; exact fun z => h z.symm
      simp only [this, Bool.false_eq_true, if_false, ih]
theorem any_dct (x : Str) (l : List (Str × PyData)) : ((dct l).any fun kv => PyData.eqv kv.1 (.str x)) = decide (x ∈ l.map (·.1)) := by
  induction l with
  | nil => rfl
  | cons p l ih =>
    have e : dct (p :: l) = (.str p.1, p.2) :: dct l := rfl
    rw [e, List.any_cons, ih, eqv_s, List.map_cons]
    by_cases h : p.1 = x
    · subst h; simp
    · have : (p.1 == x) = false := by simpa using h
      rw [this, Bool.false_or]
      rw [decide_eq_decide, List.mem_cons]
      exact ⟨.inr, fun z => z.resolve_left fun e => h e.symm⟩
theorem put_new {l : List (Str × PyData)} {x : Str} {v : PyData} (h : x ∉ l.map (·.1)) : putD (dct l) (.str x) v = dct (l ++ [(x, v)]) := by
  unfold putD
  rw [any_dct, decide_eq_false h, if_neg (by simp)]
  simp [dct]
theorem merge_new : ∀ {m l : List (Str × PyData)}, ((l ++ m).map (·.1)).Nodup → mergeD (dct l) (dct m) = dct (l ++ m)
  | [], l, _ => by simp [dct, mergeD]
  | (x, v) :: m, l, h => by
    have e : dct ((x, v) :: m) = (.str x, v) :: dct m := rfl
    rw [e, mergeD]
    have hx : x ∉ l.map (·.1) := by
      intro hx
      rw [List.map_append] at h
      exact (List.nodup_append.mp h).2.2 x hx x (by simp) rfl
    rw [put_new hx, merge_new (by rw [List.append_assoc]; exact h), List.append_assoc]
    rfl
theorem collectD_of {α : Type} {f : PyData → Option (PyData × PyData)} (e : α → PyData) (k : α → Str) (v : α → PyData) : ∀ (as : List α) (l : List (Str × PyData)), (∀ a ∈ as, f (e a) = some (.str (k a), v a)) → ((l ++ as.map fun a => (k a, v a)).map (·.1)).Nodup → collectD f (as.map e) (dct l) = some (dct (l ++ as.map fun a => (k a, v a)))
  | [], l, _, _ => by simp [collectD]
  | a :: as, l, h, nd => by
    rw [List.map_cons, collectD, h a List.mem_cons_self]
    have hx : k a ∉ l.map (·.1) := by
      intro hx
      rw [List.map_append] at nd
      exact (List.nodup_append.mp nd).2.2 _ hx _ (by simp) rfl
    dsimp only
    rw [put_new hx, collectD_of e k v as _ (fun b hb => h b (List.mem_cons_of_mem _ hb)) (by rw [List.append_assoc]; exact nd), List.append_assoc]
    rfl
section
variable {Ph : Nat → List PyData → Option PyData} {env : Ev} {ke ve : E} {tg : Tg} {it : I} {α : Type}
theorem ev_dcp (e : α → PyData) (k : α → Str) (v : α → PyData) (as : List α) (hi : evI Ph env it = some (as.map e)) (nd : (as.map k).Nodup)
    (h : ∀ a ∈ as, ∃ env', bindT (wipeE env (slotsT tg)) tg (e a) = some env' ∧ evE Ph env' ke = some (.str (k a)) ∧ evE Ph env' ve = some (v a)) : evE Ph env (.dcp ke ve tg it) = some (D (as.map fun a => (k a, v a))) := by
  rw [evE, hi]
  dsimp only
  rw [show ([] : List (PyData × PyData)) = dct [] from rfl, collectD_of e k v as [] (fun a ha => ?_) (by simpa [List.map_map, Function.comp_def] using nd)]
  · rfl
  · obtain ⟨env', h1, h2, h3⟩ := h a ha
    simp only [h1, h2, h3, keyD, if_true]
end
/-! names -/
inductive NmD : PyData → List Str → Prop
  | l (ns : List Str) : NmD (.list (ns.map .str)) ns
  | t (ns : List Str) : NmD (.tuple (ns.map .str)) ns
theorem noDAll_str : ∀ ns : List Str, noDAll (ns.map .str) = true
  | [] => rfl
  | x :: ns => by rw [List.map_cons, noDAll, noDAll_str ns]; rfl
theorem any_str (x : Str) (ns : List Str) : ((ns.map PyData.str).any fun z => PyData.eqv z (.str x)) = decide (x ∈ ns) := by
  induction ns with
  | nil => rfl
  | cons y ns ih =>
    rw [List.map_cons, List.any_cons, ih, eqv_s]
    by_cases h : y = x
    · subst h; simp
    · have : (y == x) = false := by simpa using h
      rw [this, Bool.false_or]
      rw [decide_eq_decide, List.mem_cons]
      exact ⟨.inr, fun z => z.resolve_left fun e => h e.symm⟩
theorem in_names {d : PyData} {ns : List Str} (h : NmD d ns) (x : Str) : inD (.str x) d = some (decide (x ∈ ns)) := by
  cases h <;> simp only [inD, noD, noDAll_str, PyData.depth, Bool.true_and, Nat.zero_le, decide_true, if_true, any_str]
/-! ### is_leaf, strands -/
def isLf : Tr → Bool
  | .leaf _ _ _ => true
  | .node _ => false
abbrev ld (l : Lf) : PyData := sd l.1 l.2.1 l.2.2
section
variable {T : Tab}
theorem wf_node {cs : List Tr} (h : wf (.node cs) = true) : 2 ≤ cs.length ∧ ∀ c ∈ cs, wf c = true := by
  rw [wf, Bool.and_eq_true, decide_eq_true_eq] at h
  refine ⟨h.1, ?_⟩
  have key : ∀ {l : List Tr}, wfL l = true → ∀ c ∈ l, wf c = true := by
    intro l
    induction l with
    | nil => intro _ c hc; cases hc
    | cons d l ih =>
      intro hw c hc
      rw [wfL, Bool.and_eq_true] at hw
      rcases List.mem_cons.mp hc with e | hc
      · subst e; exact hw.1
      · exact ih hw.2 c hc
  exact key h.2
/-- tree[0] is a text -/
theorem isi_leaf {Ph : Nat → List PyData → Option PyData} {env : Ev} {i : Nat} {t : Tr} (hw : wf t = true) (h : env[i]? = some (.sh (enc t))) : evE Ph env (.isi (.ex (.idx (.ex (.var i)) (.cst (.int 0)))) [.str]) = some (.bool (isLf t)) := by
  have hv : evE Ph env (.var i) = some (enc t) := by rw [evE, h]
  cases t with
  | leaf x p w =>
    have hi : evE Ph env (.idx (.ex (.var i)) (.cst (.int 0))) = some (.str x) := ev_idx (ev_o hv) rfl rfl
    rw [evE, evO, hi]
    rfl
  | node cs =>
    obtain ⟨h1, _⟩ := wf_node hw
    cases cs with
    | nil => simp at h1
    | cons c cs =>
      have hi : evE Ph env (.idx (.ex (.var i)) (.cst (.int 0))) = some (enc c) := ev_idx (ev_o hv) rfl rfl
      rw [evE, evO, hi]
      cases c <;> rfl
theorem leaf_ok (h4 : T.lookup 4 = some F4) {n : Nat} (hn : 1 ≤ n) {t : Tr} (hw : wf t = true) : Phi T n 4 [enc t] = some (.bool (isLf t)) := by
  obtain ⟨m, rfl⟩ : ∃ m, n = m + 1 := ⟨n - 1, by omega⟩
  rw [Phi_succ h4]
  exact run_ret rfl rfl (ss_rt (s_ret (isi_leaf (env := [.sh (enc t)]) hw rfl)))
theorem len_flat {cs : List Tr} : (cs.flatMap fun a => (lvs a).map ld) = (lvsL cs).map ld := by
  rw [lvsL_flat, List.map_flatMap]
theorem strands_ok (h4 : T.lookup 4 = some F4) (h5 : T.lookup 5 = some F5) : ∀ (t : Tr) (n : Nat), dep t + 2 ≤ n → wf t = true → (lvs t).length ≤ 1000 → Phi T n 5 [enc t] = some (.list ((lvs t).map ld)) := by
  intro t
  induction t using Tr.ind with
  | h1 x p w =>
    intro n hn hw hl
    obtain ⟨m, rfl⟩ : ∃ m, n = m + 1 := ⟨n - 1, by omega⟩
    rw [Phi_succ h5]
    refine run_ret rfl rfl (ss_rt (s_ift (ev_call rfl ?_) (ss_rt (s_ret (ev_lst rfl)))))
    exact leaf_ok h4 (t := .leaf x p w) (by omega) hw
  | h2 cs ih =>
    intro n hn hw hl
    obtain ⟨m, rfl⟩ : ∃ m, n = m + 1 := ⟨n - 1, by omega⟩
    rw [dep] at hn
    rw [lvs] at hl
    obtain ⟨h1, h2⟩ := wf_node hw
    rw [Phi_succ h5]
    refine run_ret rfl rfl (ss_cons (s_iff (ev_call rfl ?_) ss_nil) (ss_rt (s_ret ?_)))
    · exact leaf_ok h4 (t := .node cs) (by omega) hw
    · have hlen : ∀ c ∈ cs, (lvs c).length ≤ (lvsL cs).length := fun c hc => by
        exact lvs_le hc
      have hres : PyData.list ((lvs (.node cs)).map ld) = .list (cs.flatMap fun a => (lvs a).map ld) := by rw [lvs, len_flat]
      rw [hres]
      refine ev_cp2 enc ld lvs (fun _ b => ld b) cs ?_ (fun c hc => ⟨_, rfl, ?_, fun b hb => ⟨_, rfl, rfl⟩⟩) ?_
      · show evI (Phi T m) [.sh (enc (.node cs)), .un, .un] (.vr 0) = _
        rw [← encs_map]
        rfl
      · have hc' : Phi T m 5 [enc c] = some (.list ((lvs c).map ld)) := ih c hc m (by have := dep_mem hc; omega) (h2 c hc) (by have := hlen c hc; omega)
        show evI (Phi T m) [.sh (enc (.node cs)), .sh (enc c), .un] (.val (.call 5 (.cons (.var 1) .nil))) = _
        rw [evI, ev_call (ds := [enc c]) rfl hc']
        rfl
      · rw [len_flat, List.length_map]
        unfold lim
        omega
end
end Wr.P
end

section
set_option Elab.async false
set_option linter.all false
set_option maxRecDepth 100000
set_option maxHeartbeats 4000000
/-! WsE: how a load is divided: divisors, fractions, what is carried. -/
namespace Wr.P
open PySem
theorem loopF_go {α : Type} {tg : Tg} {body : Ev → Option Out} (e : α → PyData) (as : List α) (I : List α → Ev → Prop) : ∀ (done rest : List α) (env : Ev), as = done ++ rest → I done env →
    (∀ done a rest env, as = done ++ a :: rest → I done env → ∃ env1 env2, bindT env tg (e a) = some env1 ∧ body env1 = some (.nx env2) ∧ I (done ++ [a]) env2) → ∃ env', loopF tg body (rest.map e) env = some (.nx env') ∧ I as env'
  | done, [], env, e', h, _ => ⟨env, rfl, by rw [List.append_nil] at e'; rw [e']; exact h⟩
  | done, a :: rest, env, e', h, step => by
    obtain ⟨env1, env2, h1, h2, h3⟩ := step done a rest env e' h
    obtain ⟨env', h4, h5⟩ := loopF_go e as I (done ++ [a]) rest env2 (by simp [e']) h3 step
    exact ⟨env', by rw [List.map_cons, loopF, h1]; simp only [h2, h4], h5⟩
theorem loopF_of {α : Type} {tg : Tg} {body : Ev → Option Out} {env : Ev} (e : α → PyData) (as : List α) (I : List α → Ev → Prop) (h : I [] env)
    (step : ∀ done a rest env, as = done ++ a :: rest → I done env → ∃ env1 env2, bindT env tg (e a) = some env1 ∧ body env1 = some (.nx env2) ∧ I (done ++ [a]) env2) : ∃ env', loopF tg body (as.map e) env = some (.nx env') ∧ I as env' :=
  loopF_go e as I [] as env rfl h step
/-! ### divisors -/
mutual
def dvs (ns : List Str) : Tr → List (Str × Nat)
  | .leaf x _ _ => if x ∈ ns then [(x, 1)] else []
  | .node cs => (dvsL ns cs).map fun p => (p.1, cnt ns cs * p.2)
def dvsL (ns : List Str) : List Tr → List (Str × Nat)
  | [] => []
  | c :: cs => dvs ns c ++ dvsL ns cs
def cnt (ns : List Str) : List Tr → Nat
  | [] => 0
  | c :: cs => (if (dvs ns c).isEmpty then 0 else 1) + cnt ns cs
end
/-- the children that hold -/
def hld (ns : List Str) (cs : List Tr) : List Tr := cs.filter fun c => !(dvs ns c).isEmpty
theorem dvsL_hld (ns : List Str) : ∀ cs : List Tr, dvsL ns cs = (hld ns cs).flatMap (dvs ns)
  | [] => rfl
  | c :: cs => by
    have ih : dvsL ns cs = (cs.filter fun c => !(dvs ns c).isEmpty).flatMap (dvs ns) := dvsL_hld ns cs
    rw [dvsL, hld, List.filter_cons]
    cases h : (dvs ns c).isEmpty with
    | true =>
      rw [List.isEmpty_iff] at h
      rw [h, List.nil_append, ih]
      simp
    | false => simp only [Bool.not_false, if_true, List.flatMap_cons, ih]
theorem cnt_hld (ns : List Str) : ∀ cs : List Tr, cnt ns cs = (hld ns cs).length
  | [] => rfl
  | c :: cs => by
    have ih : cnt ns cs = (cs.filter fun c => !(dvs ns c).isEmpty).length := cnt_hld ns cs
    rw [cnt, hld, List.filter_cons]
    cases h : (dvs ns c).isEmpty with
    | true => simp only [Bool.not_true, Bool.false_eq_true, if_false, if_true, Nat.zero_add, ih]
    | false => simp only [Bool.not_false, if_true, Bool.false_eq_true, if_false, List.length_cons, ih]; omega
abbrev nmL (t : Tr) : List Str := (lvs t).map (·.1)
mutual
theorem dvs_keys (ns : List Str) : ∀ t : Tr, (dvs ns t).map (·.1) = ((lvs t).map (·.1)).filter (· ∈ ns)
  | .leaf x p w => by
    rw [dvs, lvs]
    by_cases h : x ∈ ns <;> simp [h]
  | .node cs => by
    rw [dvs, lvs, List.map_map]
    exact dvsL_keys ns cs
theorem dvsL_keys (ns : List Str) : ∀ cs : List Tr, (dvsL ns cs).map (·.1) = ((lvsL cs).map (·.1)).filter (· ∈ ns)
  | [] => rfl
  | c :: cs => by
    rw [dvsL, lvsL, List.map_append, List.map_append, List.filter_append, dvs_keys ns c, dvsL_keys ns cs]
end
theorem dvs_empty (ns : List Str) (t : Tr) : (dvs ns t).isEmpty = !((lvs t).any fun l => decide (l.1 ∈ ns)) := by
  have h := congrArg List.isEmpty (dvs_keys ns t)
  have e1 : ((dvs ns t).map (·.1)).isEmpty = (dvs ns t).isEmpty := by cases dvs ns t <;> rfl
  rw [e1] at h
  rw [h]
  induction lvs t with
  | nil => rfl
  | cons l ls ih =>
    rw [List.map_cons, List.filter_cons, List.any_cons]
    by_cases hl : l.1 ∈ ns
    · simp [hl]
    · simp only [hl, decide_false, Bool.false_eq_true, if_false, Bool.false_or, ih]
mutual
theorem dvs_pos (ns : List Str) : ∀ (t : Tr), ∀ p ∈ dvs ns t, 1 ≤ p.2
  | .leaf x p w => by
    rw [dvs]
    intro q hq
    by_cases h : x ∈ ns
    · rw [if_pos h, List.mem_singleton] at hq
      subst hq
      exact Nat.le_refl _
    · rw [if_neg h] at hq
      cases hq
  | .node cs => by
    rw [dvs]
    intro q hq
    obtain ⟨r, hr, rfl⟩ := List.mem_map.mp hq
    have h1 := dvsL_pos ns cs r hr
    have h2 : 1 ≤ cnt ns cs := by
      rw [dvsL_hld] at hr
      obtain ⟨c, hc, _⟩ := List.mem_flatMap.mp hr
      rw [cnt_hld]
      exact List.length_pos_of_mem hc
    exact Nat.mul_pos h2 h1
theorem dvsL_pos (ns : List Str) : ∀ (cs : List Tr), ∀ p ∈ dvsL ns cs, 1 ≤ p.2
  | [] => fun p hp => by cases hp
  | c :: cs => by
    rw [dvsL]
    intro p hp
    rcases List.mem_append.mp hp with h | h
    · exact dvs_pos ns c p h
    · exact dvsL_pos ns cs p h
end
/-- a number of six -/
theorem cnt_le (ns : List Str) (cs : List Tr) : cnt ns cs ≤ cs.length := by
  rw [cnt_hld]
  exact List.length_filter_le _ _
/-! ### fractions -/
def frac (a b : Nat) : PyData := .tuple [.int ((a / Nat.gcd a b : Nat) : Int), .int ((b / Nat.gcd a b : Nat) : Int)]
theorem frac_one {a b : Nat} (h : Nat.gcd a b = 1) : frac a b = .tuple [.int (a : Int), .int (b : Int)] := by
  unfold frac
  rw [h, Nat.div_one, Nat.div_one]
theorem frac_mul {g a b : Nat} (hg : 0 < g) : frac (g * a) (g * b) = frac a b := by
  unfold frac
  rw [Nat.gcd_mul_left, Nat.mul_div_mul_left _ _ hg, Nat.mul_div_mul_left _ _ hg]
theorem frac_frac {a b d : Nat} (ha : 0 < a) : frac (a / Nat.gcd a b) (b / Nat.gcd a b * d) = frac a (b * d) := by
  have hg : 0 < Nat.gcd a b := Nat.gcd_pos_of_pos_left b ha
  rw [← frac_mul hg, Nat.mul_div_cancel' (Nat.gcd_dvd_left a b), ← Nat.mul_assoc, Nat.mul_div_cancel' (Nat.gcd_dvd_right a b)]
section
variable {T : Tab}
theorem divide_ok (h24 : T.lookup 24 = some F24) {n : Nat} (hn : 1 ≤ n) {a b k : Nat} (ha : 0 < a) (ha2 : a < 1073741824) (hk2 : k ≤ 1000) (hbk : b * k < 1000000) :
    Phi T n 24 [.tuple [.int (a : Int), .int (b : Int)], .int (k : Int)] = some (frac a (b * k)) := by
  obtain ⟨m, rfl⟩ : ∃ m, n = m + 1 := ⟨n - 1, by omega⟩
  rw [Phi_succ h24]
  have sk : small (k : Int) = true := small_of (by omega) (by omega)
  have tst : ∀ {p q : Nat}, evE (Phi T m) [.sh (.tuple [.int (a : Int), .int (b : Int)]), .sh (.int (k : Int)), .sh (.int (p : Int)), .sh (.int (q : Int)), .sh (.int (a : Int)), .sh (.int ((b * k : Nat) : Int))] (.cmp .Gt (.ex (.var 3)) (.ex (.cst (.int 0)))) = some (.bool (decide ((0 : Int) < q))) := ev_cmp rfl rfl rfl
  have loop := loopW_inv (c := fun env => evE (Phi T m) env (.cmp .Gt (.ex (.var 3)) (.ex (.cst (.int 0))))) (body := fun env => exSs (Phi T m) (frOf T) env (.cons (.par [2, 3] (.cons (.var 3) (.cons (.bin .Mod (.ex (.var 2)) (.ex (.var 3))) .nil))) .nil))
    (fun r env => ∃ p q : Nat, env = [.sh (.tuple [.int (a : Int), .int (b : Int)]), .sh (.int (k : Int)), .sh (.int (p : Int)), .sh (.int (q : Int)), .sh (.int (a : Int)), .sh (.int ((b * k : Nat) : Int))] ∧ 0 < p ∧ p.gcd q = a.gcd (b * k) ∧ q = r)
    wfuel (b * k) _ (by unfold wfuel; exact hbk) ⟨a, b * k, rfl, ha, rfl, rfl⟩ (by
      rintro r env ⟨p, q, rfl, hp, hg, rfl⟩
      by_cases hq : (0 : Int) < q
      · refine .inr ⟨by rw [tst, decide_eq_true hq], _, p % q, ss_cons (s_par (b1 := false) (b2 := false) (d1 := .int (q : Int)) (d2 := .int (((p % q : Nat)) : Int)) rfl ?_ rfl rfl) ss_nil, Nat.mod_lt _ (by omega), q, p % q, rfl, by omega, ?_, rfl⟩
        · exact ev_bin rfl rfl (bd_mod hq)
        · rw [← hg, Nat.gcd_comm q, ← Nat.gcd_rec, Nat.gcd_comm]
      · exact .inl (by rw [tst, decide_eq_false hq]))
  obtain ⟨env', r, he, ⟨p, q, rfl, hp, hg, rfl⟩, hfin⟩ := loop
  rw [tst] at hfin
  have hq : q = 0 := by
    by_cases hq : (0 : Int) < q
    · rw [decide_eq_true hq] at hfin
      cases hfin
    · omega
  subst hq
  rw [Nat.gcd_zero_right] at hg
  have hp2 : p < 1073741824 := by
    have := Nat.gcd_le_left (b * k) ha
    omega
  refine run_ret rfl rfl (ss_cons (s_par (b1 := false) (b2 := false) (d1 := .int (a : Int)) (d2 := .int ((b * k : Nat) : Int)) rfl ?_ rfl rfl) (ss_cons (s_par (b1 := false) (b2 := false) (d1 := .int (a : Int)) (d2 := .int ((b * k : Nat) : Int)) rfl rfl rfl rfl) (ss_cons (s_whl he) (ss_rt (s_ret ?_)))))
  · rw [Int.natCast_mul]
    exact ev_bin (ev_o (ev_idx rfl rfl rfl)) rfl (bd_mulr sk)
  · unfold frac
    rw [← hg, Int.natCast_ediv, Int.natCast_ediv]
    exact ev_tup (es_cons (ev_bin rfl rfl (bd_div (by omega) (by omega))) (es_cons (ev_bin rfl rfl (bd_div (by omega) (by omega))) rfl))
/-! ### _law_strands, _law_divisors -/
theorem lawStrands_ok (h20 : T.lookup 20 = some F20) : ∀ (t : Tr) (n : Nat), dep t + 1 ≤ n → wf t = true → (lvs t).length ≤ 1000 → Phi T n 20 [enc t] = some (.list ((lvs t).map ld)) := by
  intro t
  induction t using Tr.ind with
  | h1 x p w =>
    intro n hn hw hl
    obtain ⟨m, rfl⟩ : ∃ m, n = m + 1 := ⟨n - 1, by omega⟩
    rw [Phi_succ h20]
    exact run_ret rfl rfl (ss_rt (s_ift (isi_leaf (t := .leaf x p w) hw rfl) (ss_rt (s_ret (ev_lst rfl)))))
  | h2 cs ih =>
    intro n hn hw hl
    obtain ⟨m, rfl⟩ : ∃ m, n = m + 1 := ⟨n - 1, by omega⟩
    rw [dep] at hn
    rw [lvs] at hl
    obtain ⟨h1, h2⟩ := wf_node hw
    rw [Phi_succ h20]
    obtain ⟨env', he, c2, rfl⟩ := loopF_of (tg := .nm 2) (body := fun env => exSs (Phi T m) (frOf T) env (.cons (.asg 1 (.bin .Add (.ex (.var 1)) (.ex (.call 20 (.cons (.var 2) .nil))))) .nil)) (env := [.sh (enc (.node cs)), .sh (.list []), .un]) enc cs
      (fun done env => ∃ c2 : Sl, env = [.sh (enc (.node cs)), .sh (.list ((lvsL done).map ld)), c2]) ⟨.un, rfl⟩ (by
        rintro done c rest env e ⟨c2, rfl⟩
        have hc : c ∈ cs := by rw [e]; simp
        have hc' : Phi T m 20 [enc c] = some (.list ((lvs c).map ld)) := ih c hc m (by have := dep_mem hc; omega) (h2 c hc) (by have := lvs_le hc; omega)
        have hlen : (lvsL done).length + (lvs c).length ≤ (lvsL cs).length := by
          rw [e, lvsL_app, lvsL, List.length_append, List.length_append]; omega
        refine ⟨_, _, rfl, ss_cons (s_asg (d := .list ((lvsL done).map ld ++ (lvs c).map ld)) (ev_bin rfl (ev_o (ev_call rfl hc')) ?_)) ss_nil, .sh (enc c), ?_⟩
        · show (if _ then _ else _) = _
          rw [if_pos (by rw [List.length_map, List.length_map]; unfold lim; omega)]
        · rw [lvsL_app, lvsL, lvsL, List.append_nil, List.map_append]
          rfl)
    refine run_ret rfl rfl (ss_cons (s_iff (isi_leaf (t := .node cs) hw rfl) ss_nil) (ss_cons (s_own (d := .list []) rfl) (ss_cons (s_shr (d := .list []) rfl) (ss_cons (s_for (ds := cs.map enc) ?_ he) (ss_rt (s_ret rfl))))))
    show evI (Phi T m) [.sh (enc (.node cs)), .sh (.list []), .un] (.vr 0) = _
    rw [← encs_map]
    rfl
end
end Wr.P
end

section
set_option Elab.async false
set_option linter.all false
set_option maxRecDepth 100000
set_option maxHeartbeats 4000000
/-! WsF: _law_divisors, carried_by. -/
namespace Wr.P
open PySem
section
variable {Ph : Nat → List PyData → Option PyData} {fr : Nat → Bool} {env : Ev}
theorem s_six {i : Nat} {k v : E} {l : List (Str × PyData)} {x : Str} {y : PyData} (h1 : evE Ph env v = some y) (h2 : evE Ph env k = some (.str x)) (h3 : env[i]? = some (.ow (D l))) (h4 : l.length ≤ lim) : exS Ph fr env (.six i k v) = some (.nx (env.set i (.ow (.dict (putD (dct l) (.str x) y))))) := by
  rw [exS, h1, h2, h3]
  have : (dct l).length = l.length := by simp [dct]
  simp only [sixD, keyD, this, h4, decide_true, Bool.and_self, if_true, Option.map_some]
theorem s_upd {i : Nat} {e : E} {l m : List (Str × PyData)} (h1 : evE Ph env e = some (D m)) (h3 : env[i]? = some (.ow (D l))) (h4 : l.length + m.length ≤ lim) : exS Ph fr env (.upd i e) = some (.nx (env.set i (.ow (.dict (mergeD (dct l) (dct m)))))) := by
  rw [exS, h1, h3]
  have e1 : (dct l).length = l.length := by simp [dct]
  have e2 : (dct m).length = m.length := by simp [dct]
  simp only [updD, e1, e2, h4, if_true, Option.map_some]
end
theorem lookup_mem {α : Type} {x : Str} {v : α} : ∀ {l : List (Str × α)}, (l.map (·.1)).Nodup → (x, v) ∈ l → l.lookup x = some v
  | (y, w) :: l, nd, h => by
    rw [List.map_cons, List.nodup_cons] at nd
    rw [List.lookup_cons]
    rcases List.mem_cons.mp h with e | h'
    · cases e
      rw [beq_self_eq_true]
    · have : (x == y) = false := by
        rw [beq_eq_false_iff_ne]
        intro e
        exact nd.1 (List.mem_map.mpr ⟨(x, v), h', e⟩)
      rw [this]
      exact lookup_mem nd.2 h'
theorem filter_fm {α β : Type} (p : α → Bool) (f : α → β) : ∀ l : List α, (l.filter fun c => !p c).map f = l.filterMap fun c => if p c then none else some (f c)
  | [] => rfl
  | c :: l => by
    rw [List.filter_cons, List.filterMap_cons, ← filter_fm p f l]
    cases p c <;> rfl
def dvD (l : List (Str × Nat)) : List (Str × PyData) := l.map fun p => (p.1, .int (p.2 : Int))
theorem dvD_keys (l : List (Str × Nat)) : (dvD l).map (·.1) = l.map (·.1) := by simp [dvD]
theorem dvs_nd {ns : List Str} {t : Tr} (h : (nmL t).Nodup) : ((dvs ns t).map (·.1)).Nodup := by
  rw [dvs_keys]
  exact h.sublist List.filter_sublist
theorem nd_node {cs : List Tr} (h : (nmL (.node cs)).Nodup) : ∀ c ∈ cs, (nmL c).Nodup := by
  intro c hc
  have : nmL (.node cs) = (lvsL cs).map (·.1) := by rw [nmL, lvs]
  rw [this, lvsL_flat, List.map_flatMap] at h
  exact h.sublist (List.sublist_flatten_of_mem (List.mem_map.mpr ⟨c, hc, rfl⟩))
theorem flat_nd {ns : List Str} {cs : List Tr} (h : (nmL (.node cs)).Nodup) : (((hld ns cs).flatMap (dvs ns)).map (·.1)).Nodup := by
  rw [← dvsL_hld, dvsL_keys]
  have : nmL (.node cs) = (lvsL cs).map (·.1) := by rw [nmL, lvs]
  rw [this] at h
  exact h.sublist List.filter_sublist
section
variable {T : Tab}
theorem lawDiv_ok (h33 : T.lookup 33 = some F33) {nd : PyData} {ns : List Str} (hns : NmD nd ns) : ∀ (t : Tr) (n : Nat), dep t + 1 ≤ n → wf t = true → (nmL t).Nodup → (lvs t).length ≤ 1000 → Phi T n 33 [enc t, nd] = some (D (dvD (dvs ns t))) := by
  intro t
  induction t using Tr.ind with
  | h1 x p w =>
    intro n hn hw hd hl
    obtain ⟨m, rfl⟩ : ∃ m, n = m + 1 := ⟨n - 1, by omega⟩
    rw [Phi_succ h33, dvs]
    have hin : evE (Phi T m) [.sh (enc (.leaf x p w)), .sh nd, .un, .un, .un, .un, .un] (.cmp .In (.ex (.idx (.ex (.var 0)) (.cst (.int 0)))) (.ex (.var 1))) = some (.bool (decide (x ∈ ns))) := ev_cmp (ev_o (ev_idx rfl rfl rfl)) rfl (in_names hns x)
    refine run_ret rfl rfl (ss_rt (s_ift (isi_leaf (t := .leaf x p w) hw rfl) (ss_rt (s_ret ?_))))
    by_cases h : x ∈ ns
    · rw [if_pos h]
      exact ev_ift (ev_t hin h) (ev_dc1 (ev_idx rfl rfl rfl) rfl)
    · rw [if_neg h]
      exact ev_iff (ev_f hin h) rfl
  | h2 cs ih =>
    intro n hn hw hd hl
    obtain ⟨m, rfl⟩ : ∃ m, n = m + 1 := ⟨n - 1, by omega⟩
    rw [dep] at hn
    rw [lvs] at hl
    obtain ⟨h1, h2⟩ := wf_node hw
    rw [Phi_succ h33]
    have nd1 := nd_node hd
    have csl : cs.length ≤ 1000 := by
      have := (lvsL_pos cs (by rw [wf, Bool.and_eq_true] at hw; exact hw.2)).1
      omega
    have hfl := flat_nd (ns := ns) hd
    generalize hk : (hld ns cs).length = k
    have hk1 : k ≤ 1000 := by rw [← hk, ← cnt_hld]; have := cnt_le ns cs; omega
    have sk : small (k : Int) = true := small_of (by omega) (by omega)
    have hfll : ((hld ns cs).flatMap (dvs ns)).length ≤ 1000 := by
      have e1 := congrArg List.length (dvsL_keys ns cs)
      rw [List.length_map, dvsL_hld] at e1
      rw [e1]
      refine Nat.le_trans (List.length_filter_le _ _) ?_
      rw [List.length_map]
      exact hl
    obtain ⟨env', he, c3, p4, n6, rfl⟩ := loopF_of (tg := .nm 4) (body := fun env => exSs (Phi T m) (frOf T) env (.cons (.for (.nm 6) (.vr 4) (.cons (.six 5 (.var 6) (.bin .Mult (.ex (.len (.ex (.var 2)))) (.ex (.idx (.ex (.var 4)) (.var 6))))) .nil)) .nil)) (env := [.sh (enc (.node cs)), .sh nd, .sh (.list ((hld ns cs).map fun c => D (dvD (dvs ns c)))), .un, .un, .ow (D []), .un]) (fun c => D (dvD (dvs ns c))) (hld ns cs)
      (fun done env => ∃ c3 p4 n6 : Sl, env = [.sh (enc (.node cs)), .sh nd, .sh (.list ((hld ns cs).map fun c => D (dvD (dvs ns c)))), c3, p4, .ow (D (dvD ((done.flatMap (dvs ns)).map fun p => (p.1, k * p.2)))), n6]) ⟨.un, .un, .un, rfl⟩ (by
        rintro done c rest env e ⟨c3, p4, n6, rfl⟩
        have hc : c ∈ cs := (List.mem_filter.mp (show c ∈ hld ns cs by rw [e]; simp)).1
        have ndc := dvs_nd (ns := ns) (nd1 c hc)
        have hsub : (((done.flatMap (dvs ns)) ++ dvs ns c).map (·.1)).Nodup := by
          rw [e, List.flatMap_append, List.flatMap_cons, ← List.append_assoc] at hfl
          rw [List.map_append] at hfl
          exact (List.nodup_append.mp hfl).1
        have hll : (done.flatMap (dvs ns)).length + (dvs ns c).length ≤ 1000 := by
          rw [e, List.flatMap_append, List.flatMap_cons, List.length_append, List.length_append] at hfll
          omega
        obtain ⟨env2, he2, n6', rfl⟩ := loopF_of (tg := .nm 6) (body := fun env => exSs (Phi T m) (frOf T) env (.cons (.six 5 (.var 6) (.bin .Mult (.ex (.len (.ex (.var 2)))) (.ex (.idx (.ex (.var 4)) (.var 6))))) .nil)) (env := [.sh (enc (.node cs)), .sh nd, .sh (.list ((hld ns cs).map fun c => D (dvD (dvs ns c)))), c3, .sh (D (dvD (dvs ns c))), .ow (D (dvD ((done.flatMap (dvs ns)).map fun p => (p.1, k * p.2)))), n6]) (fun p : Str × Nat => .str p.1) (dvs ns c)
          (fun dn env => ∃ n6 : Sl, env = [.sh (enc (.node cs)), .sh nd, .sh (.list ((hld ns cs).map fun c => D (dvD (dvs ns c)))), c3, .sh (D (dvD (dvs ns c))), .ow (D (dvD ((done.flatMap (dvs ns) ++ dn).map fun p => (p.1, k * p.2)))), n6]) ⟨n6, by rw [List.append_nil]⟩ (by
            rintro dn p rst env e2 ⟨n6, rfl⟩
            have hlook : lookD (dct (dvD (dvs ns c))) (.str p.1) = some (.int (p.2 : Int)) := by
              rw [look_dct]
              exact lookup_mem (by rw [dvD_keys]; exact ndc) (List.mem_map.mpr ⟨p, by rw [e2]; simp, rfl⟩)
            have hnew : p.1 ∉ (dvD ((done.flatMap (dvs ns) ++ dn).map fun p => (p.1, k * p.2))).map (·.1) := by
              rw [dvD_keys, List.map_map]
              intro hx
              rw [e2, ← List.append_assoc, List.map_append] at hsub
              refine (List.nodup_append.mp hsub).2.2 p.1 ?_ p.1 (by simp) rfl
              exact hx
            refine ⟨_, _, rfl, ss_cons (s_six (l := dvD ((done.flatMap (dvs ns) ++ dn).map fun p => (p.1, k * p.2))) (x := p.1) (y := .int ((k * p.2 : Nat) : Int)) ?_ rfl rfl ?_) ss_nil, .sh (.str p.1), ?_⟩
            · rw [Int.natCast_mul]
              refine ev_bin (ev_o (ev_len rfl (d := .int (k : Int)) ?_)) (ev_o (ev_idx rfl rfl hlook)) (bd_mull sk)
              show some _ = _
              rw [List.length_map, hk]
            · rw [dvD, List.length_map, List.length_map, List.length_append]
              have : dn.length ≤ (dvs ns c).length := by rw [e2]; simp
              unfold lim
              omega
            · rw [put_new hnew, ← List.append_assoc, List.map_append (l₁ := done.flatMap (dvs ns) ++ dn)]
              simp only [dvD, List.map_append, List.map_cons, List.map_nil]
              rfl)
        refine ⟨_, _, rfl, ss_cons (s_for (ds := (dvs ns c).map fun p => .str p.1) ?_ he2) ss_nil, c3, .sh (D (dvD (dvs ns c))), n6', ?_⟩
        · show evI (Phi T m) [.sh (enc (.node cs)), .sh nd, .sh (.list ((hld ns cs).map fun c => D (dvD (dvs ns c)))), c3, .sh (D (dvD (dvs ns c))), .ow (D (dvD ((done.flatMap (dvs ns)).map fun p => (p.1, k * p.2)))), n6] (.vr 4) = _
          show some ((dct (dvD (dvs ns c))).map (·.1)) = _
          simp only [dct, dvD, List.map_map, Function.comp_def]
        · rw [List.flatMap_append, List.flatMap_cons, List.flatMap_nil, List.append_nil])
    refine run_ret rfl rfl (ss_cons (s_iff (isi_leaf (t := .node cs) hw rfl) ss_nil) (ss_cons (s_own (d := .list (cs.map fun c => D (dvD (dvs ns c)))) ?_) (ss_cons (s_shr (d := .list (cs.map fun c => D (dvD (dvs ns c)))) rfl) (ss_cons (s_own (d := .list ((hld ns cs).map fun c => D (dvD (dvs ns c)))) ?_) (ss_cons (s_shr (d := .list ((hld ns cs).map fun c => D (dvD (dvs ns c)))) rfl) (ss_cons (s_own (d := D []) rfl) (ss_cons (s_for (ds := (hld ns cs).map fun c => D (dvD (dvs ns c))) rfl he) (ss_cons (s_shr (d := D (dvD (((hld ns cs).flatMap (dvs ns)).map fun p => (p.1, k * p.2)))) rfl) (ss_rt (s_ret ?_))))))))))
    · refine ev_cpm enc (fun c => D (dvD (dvs ns c))) cs ?_ fun c hc => ⟨_, rfl, ev_call rfl (ih c hc m (by have := dep_mem hc; omega) (h2 c hc) (nd1 c hc) (by have := lvs_le hc; omega))⟩
      show evI (Phi T m) [.sh (enc (.node cs)), .sh nd, .un, .un, .un, .un, .un] (.vr 0) = _
      rw [← encs_map]
      rfl
    · have hr : (hld ns cs).map (fun c => D (dvD (dvs ns c))) = cs.filterMap fun c => if (dvs ns c).isEmpty then none else some (D (dvD (dvs ns c))) := filter_fm _ _ cs
      rw [hr]
      refine ev_cpr (fun c => D (dvD (dvs ns c))) _ cs rfl fun c hc => ⟨_, rfl, ?_⟩
      have hne : evE (Phi T m) [.sh (enc (.node cs)), .sh nd, .sh (.list (cs.map fun c => D (dvD (dvs ns c)))), .un, .sh (D (dvD (dvs ns c))), .un, .un] (.cmp .NotEq (.ex (.var 4)) (.ex .dc0)) = some (.bool (!(dvs ns c).isEmpty)) := by
        refine ev_cmp rfl rfl ?_
        show (eqD (D (dvD (dvs ns c))) (.dict [])).map (!·) = _
        rw [eqD_dnil]
        cases dvs ns c <;> rfl
      show (evAnd (Phi T m) [.sh (enc (.node cs)), .sh nd, .sh (.list (cs.map fun c => D (dvD (dvs ns c)))), .un, .sh (D (dvD (dvs ns c))), .un, .un] _ = _ ∧ _) ∨ (evAnd (Phi T m) [.sh (enc (.node cs)), .sh nd, .sh (.list (cs.map fun c => D (dvD (dvs ns c)))), .un, .sh (D (dvD (dvs ns c))), .un, .un] _ = _ ∧ _)
      rw [evAnd, hne]
      cases (dvs ns c).isEmpty with
      | true => exact .inr ⟨rfl, rfl⟩
      | false => exact .inl ⟨rfl, _, rfl, rfl⟩
    · rw [dvs, dvsL_hld, cnt_hld, hk]
      rfl
end
end Wr.P
end

section
set_option Elab.async false
set_option linter.all false
set_option maxRecDepth 100000
set_option maxHeartbeats 4000000
/-! WsG: carried_by. -/
namespace Wr.P
open PySem
theorem lvs_le2 : ∀ {cs : List Tr} {c : Tr}, wfL cs = true → c ∈ cs → (lvs c).length + cs.length ≤ (lvsL cs).length + 1
  | d :: ds, c, hw, h => by
    rw [wfL, Bool.and_eq_true] at hw
    rw [lvsL, List.length_append, List.length_cons]
    rcases List.mem_cons.mp h with e | h
    · subst e
      have := (lvsL_pos ds hw.2).1
      omega
    · have h1 := lvs_le2 hw.2 h
      have h2 := (lvs_pos d hw.1).1
      omega
theorem le_two_pow (n : Nat) (h : 1 ≤ n) : n ≤ 2 ^ (n - 1) := by
  have : n - 1 < 2 ^ (n - 1) := Nat.lt_two_pow_self
  omega
def caD (a b : Nat) (l : List (Str × Nat)) : List (Str × PyData) := l.map fun p => (p.1, frac a (b * p.2))
theorem caD_keys (a b : Nat) (l : List (Str × Nat)) : (caD a b l).map (·.1) = l.map (·.1) := by simp [caD]
section
variable {T : Tab}
theorem hold_ok {m : Nat} {ns : List Str} {nd load tr : PyData} (h4 : T.lookup 4 = some F4) (h5 : T.lookup 5 = some F5) (hns : NmD nd ns) {c : Tr} (hm : dep c + 2 ≤ m) (hw : wf c = true) (hl : (lvs c).length ≤ 1000) {s3 s6 : Sl} :
    evE (Phi T m) [.sh tr, .sh load, .sh nd, s3, .sh (enc c), .un, s6] (.blt .any1 (.cons (.cpr (.cmp .In (.ex (.idx (.ex (.var 5)) (.cst (.int 0)))) (.ex (.var 2))) (.nm 5) (.val (.call 5 (.cons (.var 4) .nil))) .nil) .nil)) = some (.bool (!(dvs ns c).isEmpty)) := by
  have hcp : evE (Phi T m) [.sh tr, .sh load, .sh nd, s3, .sh (enc c), .un, s6] (.cpr (.cmp .In (.ex (.idx (.ex (.var 5)) (.cst (.int 0)))) (.ex (.var 2))) (.nm 5) (.val (.call 5 (.cons (.var 4) .nil))) .nil) = some (.list ((lvs c).map fun l => .bool (decide (l.1 ∈ ns)))) := by
    refine ev_cpm ld _ (lvs c) ?_ fun l hl' => ⟨_, rfl, ev_cmp (ev_o (ev_idx rfl rfl rfl)) rfl (in_names hns l.1)⟩
    rw [evI, ev_call (ds := [enc c]) rfl (strands_ok h4 h5 c m hm hw hl)]
    rfl
  refine ev_blt (es_cons hcp rfl) ?_
  have hb : ∀ ls : List Lf, boolsD (ls.map fun l => .bool (decide (l.1 ∈ ns))) = some (ls.map fun l => decide (l.1 ∈ ns)) := by
    intro ls
    induction ls with
    | nil => rfl
    | cons l ls ih => rw [List.map_cons, boolsD, ih]; rfl
  show (boolsD _).map _ = _
  rw [hb, dvs_empty, Bool.not_not]
  simp [List.any_map, Function.comp_def]
theorem carried_ok (h4 : T.lookup 4 = some F4) (h5 : T.lookup 5 = some F5) (h24 : T.lookup 24 = some F24) (h25 : T.lookup 25 = some F25) {nd : PyData} {ns : List Str} (hns : NmD nd ns) : ∀ (t : Tr) (n a b : Nat), dep t + 3 ≤ n → wf t = true → (nmL t).Nodup → (lvs t).length ≤ 1000 → 0 < a → a < 1073741824 → Nat.gcd a b = 1 → b * 2 ^ ((lvs t).length - 1) ≤ 100000 →
    Phi T n 25 [enc t, .tuple [.int (a : Int), .int (b : Int)], nd] = some (D (caD a b (dvs ns t))) := by
  intro t
  induction t using Tr.ind with
  | h1 x p w =>
    intro n a b hn hw hd hl ha ha2 hg hb
    obtain ⟨m, rfl⟩ : ∃ m, n = m + 1 := ⟨n - 1, by omega⟩
    rw [Phi_succ h25, dvs]
    have hin : evE (Phi T m) [.sh (enc (.leaf x p w)), .sh (.tuple [.int (a : Int), .int (b : Int)]), .sh nd, .un, .un, .un, .un] (.cmp .In (.ex (.idx (.ex (.var 0)) (.cst (.int 0)))) (.ex (.var 2))) = some (.bool (decide (x ∈ ns))) := ev_cmp (ev_o (ev_idx rfl rfl rfl)) rfl (in_names hns x)
    refine run_ret rfl rfl (ss_rt (s_ift (ev_call rfl (leaf_ok h4 (t := .leaf x p w) (by omega) hw)) (ss_rt (s_ret ?_))))
    by_cases h : x ∈ ns
    · rw [if_pos h]
      refine ev_ift (ev_t hin h) (ev_eq (ev_dc1 (ev_idx rfl rfl rfl) rfl) ?_)
      show _ = PyData.dict [(.str x, frac a (b * 1))]
      rw [Nat.mul_one, frac_one hg]
    · rw [if_neg h]
      exact ev_iff (ev_f hin h) rfl
  | h2 cs ih =>
    intro n a b hn hw hd hl ha ha2 hg hb
    obtain ⟨m, rfl⟩ : ∃ m, n = m + 1 := ⟨n - 1, by omega⟩
    rw [dep] at hn
    rw [lvs] at hl hb
    obtain ⟨h1, h2⟩ := wf_node hw
    have hwL : wfL cs = true := by rw [wf, Bool.and_eq_true] at hw; exact hw.2
    rw [Phi_succ h25]
    have nd1 := nd_node hd
    have csl : cs.length ≤ (lvsL cs).length := (lvsL_pos cs hwL).1
    have hfl := flat_nd (ns := ns) hd
    generalize hk : (hld ns cs).length = k
    have hk1 : k ≤ cs.length := by rw [← hk, ← cnt_hld]; exact cnt_le ns cs
    have hfll : ((hld ns cs).flatMap (dvs ns)).length ≤ 1000 := by
      have e1 := congrArg List.length (dvsL_keys ns cs)
      rw [List.length_map, dvsL_hld] at e1
      rw [e1]
      refine Nat.le_trans (List.length_filter_le _ _) ?_
      rw [List.length_map]
      exact hl
    have hbound : ∀ {j : Nat}, j + cs.length ≤ (lvsL cs).length → b * k * 2 ^ j ≤ 100000 := fun {j} hj => by
      refine Nat.le_trans ?_ hb
      have k2 : k ≤ 2 ^ (cs.length - 1) := Nat.le_trans hk1 (le_two_pow _ (by omega))
      have : k * 2 ^ j ≤ 2 ^ ((lvsL cs).length - 1) := by
        refine Nat.le_trans (Nat.mul_le_mul_right _ k2) ?_
        rw [← Nat.pow_add]
        exact Nat.pow_le_pow_right (by decide) (by omega)
      rw [Nat.mul_assoc]
      exact Nat.mul_le_mul_left b this
    have hbk : b * k < 1000000 := by
      have := hbound (j := 0) (by omega)
      rw [Nat.pow_zero, Nat.mul_one] at this
      omega
    have hdiv : Phi T m 24 [.tuple [.int (a : Int), .int (b : Int)], .int (k : Int)] = some (frac a (b * k)) := divide_ok h24 (by omega) ha ha2 (by omega) hbk
    have hgp : 0 < Nat.gcd a (b * k) := Nat.gcd_pos_of_pos_left _ ha
    obtain ⟨env', he, c4, rfl⟩ := loopF_of (tg := .nm 4) (body := fun env => exSs (Phi T m) (frOf T) env (.cons (.upd 6 (.call 25 (.cons (.var 4) (.cons (.call 24 (.cons (.var 1) (.cons (.len (.ex (.var 3))) .nil))) (.cons (.var 2) .nil))))) .nil)) (env := [.sh (enc (.node cs)), .sh (.tuple [.int (a : Int), .int (b : Int)]), .sh nd, .sh (.list ((hld ns cs).map enc)), .un, .un, .ow (D [])]) enc (hld ns cs)
      (fun done env => ∃ c4 : Sl, env = [.sh (enc (.node cs)), .sh (.tuple [.int (a : Int), .int (b : Int)]), .sh nd, .sh (.list ((hld ns cs).map enc)), c4, .un, .ow (D (caD a b ((done.flatMap (dvs ns)).map fun p => (p.1, k * p.2))))]) ⟨.un, rfl⟩ (by
        rintro done c rest env e ⟨c4, rfl⟩
        have hc : c ∈ cs := (List.mem_filter.mp (show c ∈ hld ns cs by rw [e]; simp)).1
        have hcl := lvs_le2 hwL hc
        have hcp := (lvs_pos c (h2 c hc)).1
        have hsub : (((done.flatMap (dvs ns)) ++ dvs ns c).map (·.1)).Nodup := by
          rw [e, List.flatMap_append, List.flatMap_cons, ← List.append_assoc, List.map_append] at hfl
          exact (List.nodup_append.mp hfl).1
        have hll : (done.flatMap (dvs ns)).length + (dvs ns c).length ≤ 1000 := by
          rw [e, List.flatMap_append, List.flatMap_cons, List.length_append, List.length_append] at hfll
          omega
        have hres : Phi T m 25 [enc c, frac a (b * k), nd] = some (D (caD a b ((dvs ns c).map fun p => (p.1, k * p.2)))) := by
          have := ih c hc m (a / Nat.gcd a (b * k)) (b * k / Nat.gcd a (b * k)) (by have := dep_mem hc; omega) (h2 c hc) (nd1 c hc) (by have := lvs_le hc; omega) (Nat.div_pos (Nat.gcd_le_left _ ha) hgp) (by have := Nat.div_le_self a (Nat.gcd a (b * k)); omega) (Nat.coprime_div_gcd_div_gcd hgp) (by
            refine Nat.le_trans (Nat.mul_le_mul_right _ (Nat.div_le_self _ _)) (hbound (by omega)))
          rw [show frac a (b * k) = .tuple [.int ((a / Nat.gcd a (b * k) : Nat) : Int), .int ((b * k / Nat.gcd a (b * k) : Nat) : Int)] from rfl, this]
          unfold caD
          rw [List.map_map]
          simp only [Function.comp_def, frac_frac ha, Nat.mul_assoc]
        refine ⟨_, _, rfl, ss_cons (s_upd (l := caD a b ((done.flatMap (dvs ns)).map fun p => (p.1, k * p.2))) (m := caD a b ((dvs ns c).map fun p => (p.1, k * p.2))) (ev_call (es_cons rfl (es_cons (ev_call (es_cons rfl (es_cons (ev_len rfl (d := .int (k : Int)) ?_) rfl)) hdiv) (es_cons rfl rfl))) hres) rfl ?_) ss_nil, .sh (enc c), ?_⟩
        · show some _ = _
          rw [List.length_map, hk]
        · simp only [caD, List.length_map]
          unfold lim
          omega
        · rw [merge_new (by
            rw [List.map_append, caD_keys, caD_keys, List.map_map, List.map_map]
            rw [List.map_append] at hsub
            exact hsub)]
          rw [List.flatMap_append, List.flatMap_cons, List.flatMap_nil, List.append_nil]
          simp only [caD, List.map_append]
          rfl)
    refine run_ret rfl rfl (ss_cons (s_iff (ev_call rfl (leaf_ok h4 (t := .node cs) (by omega) hw)) ss_nil) (ss_cons (s_own (d := .list ((hld ns cs).map enc)) ?_) (ss_cons (s_shr (d := .list ((hld ns cs).map enc)) rfl) (ss_cons (s_own (d := D []) rfl) (ss_cons (s_for (ds := (hld ns cs).map enc) rfl he) (ss_cons (s_shr (d := D (caD a b (((hld ns cs).flatMap (dvs ns)).map fun p => (p.1, k * p.2)))) rfl) (ss_rt (s_ret ?_))))))))
    · have hr : (hld ns cs).map enc = cs.filterMap fun c => if (dvs ns c).isEmpty then none else some (enc c) := filter_fm _ _ cs
      rw [hr]
      refine ev_cpr enc _ cs ?_ fun c hc => ⟨_, rfl, ?_⟩
      · show evI (Phi T m) [.sh (enc (.node cs)), .sh (.tuple [.int (a : Int), .int (b : Int)]), .sh nd, .un, .un, .un, .un] (.vr 0) = _
        rw [← encs_map]
        rfl
      · have hh := hold_ok (T := T) (m := m) (tr := enc (.node cs)) (load := .tuple [.int (a : Int), .int (b : Int)]) (s3 := .un) (s6 := .un) h4 h5 hns (c := c) (by have := dep_mem hc; omega) (h2 c hc) (by have := lvs_le hc; omega)
        show (evAnd (Phi T m) [.sh (enc (.node cs)), .sh (.tuple [.int (a : Int), .int (b : Int)]), .sh nd, .un, .sh (enc c), .un, .un] _ = _ ∧ _) ∨ (evAnd (Phi T m) [.sh (enc (.node cs)), .sh (.tuple [.int (a : Int), .int (b : Int)]), .sh nd, .un, .sh (enc c), .un, .un] _ = _ ∧ _)
        rw [evAnd, hh]
        cases (dvs ns c).isEmpty with
        | true => exact .inr ⟨rfl, rfl⟩
        | false => exact .inl ⟨rfl, _, rfl, rfl⟩
    · rw [dvs, dvsL_hld, cnt_hld, hk]
      rfl
end
end Wr.P
end

section
set_option Elab.async false
set_option linter.all false
set_option maxRecDepth 100000
set_option maxHeartbeats 4000000
/-! WsH: settle, lift. -/
namespace Wr.P
open PySem
/-- strengths by name -/
abbrev SL := List (Str × Int)
abbrev ks (L : SL) : List Str := L.map (·.1)
def sD (L : SL) : List (Str × PyData) := L.map fun p => (p.1, .int p.2)
theorem sD_keys (L : SL) : (sD L).map (·.1) = ks L := by simp [sD]
/-- the divisor of a strand, if these hold -/
def dv (ns : List Str) (t : Tr) (x : Str) : Nat := ((dvs ns t).lookup x).getD 0
def okS (t : Tr) (load : Nat) (ns : List Str) (p : Str × Int) : Bool := decide ((load : Int) ≤ p.2 * (dv ns t p.1 : Int))
def stp (t : Tr) (load : Nat) (L : SL) : SL := L.filter (okS t load (ks L))
def stl (t : Tr) (load : Nat) : Nat → SL → SL
  | 0, L => L
  | n + 1, L => if (stp t load L).length = L.length then L else stl t load n (stp t load L)
/-- those that remain -/
def rem (t : Tr) (load : Nat) (L : SL) : SL := stl t load (L.length + 1) L
theorem stp_sub (t : Tr) (load : Nat) (L : SL) : (stp t load L).Sublist L := List.filter_sublist
theorem stl_sub (t : Tr) (load : Nat) : ∀ (n : Nat) (L : SL), (stl t load n L).Sublist L
  | 0, L => List.Sublist.refl L
  | n + 1, L => by
    rw [stl]
    split
    · exact List.Sublist.refl L
    · exact (stl_sub t load n _).trans (stp_sub t load L)
theorem stl_fix (t : Tr) (load : Nat) : ∀ (n : Nat) (L : SL), L.length < n → stp t load (stl t load n L) = stl t load n L
  | 0, L, h => by omega
  | n + 1, L, h => by
    rw [stl]
    split
    · rename_i e
      exact (stp_sub t load L).eq_of_length e
    · rename_i e
      exact stl_fix t load n _ (by have := (stp_sub t load L).length_le; omega)
theorem filter_mem {α : Type} [DecidableEq α] : ∀ {S M : List α}, S.Sublist M → M.Nodup → M.filter (· ∈ S) = S := by
  intro S M h
  induction h with
  | slnil => intro _; rfl
  | cons a h ih =>
    intro nd
    rename_i S M
    rw [List.nodup_cons] at nd
    have : a ∉ S := fun z => nd.1 (h.subset z)
    rw [List.filter_cons]
    simp only [this, decide_false, Bool.false_eq_true, if_false]
    exact ih nd.2
  | cons_cons a h ih =>
    intro nd
    rename_i S M
    rw [List.nodup_cons] at nd
    rw [List.filter_cons]
    simp only [List.mem_cons, true_or, decide_true, if_true]
    congr 1
    rw [← ih nd.2]
    refine List.filter_congr fun x hx => ?_
    have hxa : x ≠ a := fun e => nd.1 (e ▸ hx)
    rw [decide_eq_decide]
    rw [ih nd.2]
    exact ⟨fun z => z.resolve_left hxa, .inr⟩
theorem dvs_ks {t : Tr} {S : List Str} (hs : S.Sublist (nmL t)) (nd : (nmL t).Nodup) : (dvs S t).map (·.1) = S := by
  rw [dvs_keys]
  exact filter_mem hs nd
/-- a strand that holds has its divisor -/
theorem dv_mem {t : Tr} {S : List Str} {x : Str} (hs : S.Sublist (nmL t)) (nd : (nmL t).Nodup) (hx : x ∈ S) : (x, dv S t x) ∈ dvs S t ∧ 1 ≤ dv S t x := by
  have h : x ∈ (dvs S t).map (·.1) := by rw [dvs_ks hs nd]; exact hx
  obtain ⟨p, hp, e⟩ := List.mem_map.mp h
  have hl := lookup_mem (l := dvs S t) (x := p.1) (v := p.2) (dvs_nd nd) hp
  subst e
  have hd : dv S t p.1 = p.2 := by unfold dv; rw [hl]; rfl
  rw [hd]
  exact ⟨hp, dvs_pos S t p hp⟩
theorem frac_le {a d : Nat} {s : Int} (ha : 0 < a) : (((a / Nat.gcd a d : Nat) : Int) ≤ s * ((d / Nat.gcd a d : Nat) : Int)) ↔ (a : Int) ≤ s * (d : Int) := by
  have hg : 0 < Nat.gcd a d := Nat.gcd_pos_of_pos_left d ha
  have e1 : (a : Int) = (Nat.gcd a d : Int) * ((a / Nat.gcd a d : Nat) : Int) := by
    rw [← Int.natCast_mul, Nat.mul_div_cancel' (Nat.gcd_dvd_left a d)]
  have e2 : (d : Int) = (Nat.gcd a d : Int) * ((d / Nat.gcd a d : Nat) : Int) := by
    rw [← Int.natCast_mul, Nat.mul_div_cancel' (Nat.gcd_dvd_right a d)]
  generalize ha' : ((a / Nat.gcd a d : Nat) : Int) = A at *
  generalize hd' : ((d / Nat.gcd a d : Nat) : Int) = B at *
  generalize hg' : ((Nat.gcd a d : Nat) : Int) = g at *
  have g0 : 0 < g := by omega
  rw [e1, e2, Int.mul_left_comm]
  constructor
  · intro h
    exact Int.mul_le_mul_of_nonneg_left h (by omega)
  · intro h
    exact Int.le_of_mul_le_mul_left h g0
theorem filter_fm2 {α β : Type} (p : α → Bool) (f : α → β) : ∀ l : List α, (l.filter p).map f = l.filterMap fun c => if p c then some (f c) else none
  | [] => rfl
  | c :: l => by
    rw [List.filter_cons, List.filterMap_cons, ← filter_fm2 p f l]
    cases p c <;> rfl
theorem idx_d {l : List (Str × PyData)} {x : Str} {d : PyData} (h : lookD (dct l) (.str x) = some d) : idxD (D l) (.str x) = some d := h
section
variable {T : Tab}
structure Tabs (T : Tab) : Prop where
  f4 : T.lookup 4 = some F4
  f5 : T.lookup 5 = some F5
  f24 : T.lookup 24 = some F24
  f25 : T.lookup 25 = some F25
  f26 : T.lookup 26 = some F26
  f27 : T.lookup 27 = some F27
  f28 : T.lookup 28 = some F28
  f29 : T.lookup 29 = some F29
/-- a tree of a rig, its size bounded -/
structure TrOk (t : Tr) : Prop where
  wf : wf t = true
  nd : (nmL t).Nodup
  len : (lvs t).length ≤ 12
theorem TrOk.dep {t : Tr} (h : TrOk t) : dep t ≤ 11 := by
  have := (lvs_pos t h.wf).2
  have := h.len
  omega
theorem TrOk.two {t : Tr} (h : TrOk t) : 2 ^ ((lvs t).length - 1) ≤ 100000 := by
  have : 2 ^ ((lvs t).length - 1) ≤ 2 ^ 11 := Nat.pow_le_pow_right (by decide) (by have := h.len; omega)
  omega
theorem gcd_one (a : Nat) : Nat.gcd a 1 = 1 := Nat.gcd_one_right a
theorem carried1 (F : Tabs T) {t : Tr} (ht : TrOk t) {n load : Nat} (hn : 14 ≤ n) (hl : 0 < load) (hl2 : load < 1000000) {nd : PyData} {ns : List Str} (hns : NmD nd ns) :
    Phi T n 25 [enc t, .tuple [.int (load : Int), .int 1], nd] = some (D (caD load 1 (dvs ns t))) :=
  carried_ok F.f4 F.f5 F.f24 F.f25 hns t n load 1 (by have := ht.dep; omega) ht.wf ht.nd (by have := ht.len; omega) hl (by omega) (gcd_one load) (by rw [Nat.one_mul]; exact ht.two)
theorem loopW_go {c : Ev → Option PyData} {body : Ev → Option Out} {env env' : Ev} {n : Nat} {o : Option Out} (h1 : c env = some (.bool true)) (h2 : body env = some (.nx env')) (h3 : loopW c body n env' = o) : loopW c body (n + 1) env = o := by
  rw [loopW, h1]
  simp only [h2]
  exact h3
theorem loopW_rt {c : Ev → Option PyData} {body : Ev → Option Out} {env : Ev} {n : Nat} {d : PyData} {b : Bool} (h1 : c env = some (.bool true)) (h2 : body env = some (.rt d b)) : loopW c body (n + 1) env = some (.rt d b) := by
  rw [loopW, h1]
  simp only [h2]
theorem small_int {i : Int} (h : -1000000000 < i) (h2 : i < 1000000000) : small i = true := small_of (by omega) (by omega)
/-- the strands kept in one round -/
theorem kept_ok {m : Nat} {t : Tr} (ht : TrOk t) {L K : SL} {load : Nat} (hl : 0 < load) (hK : K.Sublist L) (hL : (ks L).Sublist (nmL t)) (hs : ∀ p ∈ L, -1000000 < p.2 ∧ p.2 < 1000000) {rg ld' : PyData} {s5 : Sl} :
    evE (Phi T m) [.sh rg, .sh ld', .sh (D (sD L)), .sh (.list ((ks K).map .str)), .sh (D (caD load 1 (dvs (ks K) t))), s5, .un] (.cpr (.var 6) (.nm 6) (.vr 3) (.cons (.cmp .LtE (.ex (.idx (.ex (.idx (.ex (.var 4)) (.var 6))) (.cst (.int 0)))) (.ex (.bin .Mult (.ex (.idx (.ex (.var 2)) (.var 6))) (.ex (.idx (.ex (.idx (.ex (.var 4)) (.var 6))) (.cst (.int 1))))))) .nil)) = some (.list ((ks (stp t load K)).map .str)) := by
  have hKs : (ks K).Sublist (nmL t) := (hK.map _).trans hL
  have ndL : (ks L).Nodup := ht.nd.sublist hL
  have hr : (ks (stp t load K)).map PyData.str = K.filterMap fun p => if okS t load (ks K) p then some (.str p.1) else none := by
    unfold stp ks
    rw [List.map_map]
    exact filter_fm2 _ _ K
  rw [hr]
  refine ev_cpr (fun p : Str × Int => .str p.1) _ K (by show some ((ks K).map PyData.str) = _; rw [List.map_map]; rfl) fun p hp => ⟨_, rfl, ?_⟩
  have hpL : p ∈ L := hK.subset hp
  obtain ⟨hm, h1⟩ := dv_mem hKs ht.nd (List.mem_map.mpr ⟨p, hp, rfl⟩ : p.1 ∈ ks K)
  have lc : lookD (dct (caD load 1 (dvs (ks K) t))) (.str p.1) = some (frac load (1 * dv (ks K) t p.1)) := by
    rw [look_dct]
    exact lookup_mem (by rw [caD_keys]; exact dvs_nd ht.nd) (List.mem_map.mpr ⟨_, hm, rfl⟩)
  have ls : lookD (dct (sD L)) (.str p.1) = some (.int p.2) := by
    rw [look_dct]
    exact lookup_mem (by rw [sD_keys]; exact ndL) (List.mem_map.mpr ⟨p, hpL, rfl⟩)
  rw [Nat.one_mul] at lc
  have sp : small p.2 = true := small_int (by have := hs p hpL; omega) (by have := hs p hpL; omega)
  have tst : evE (Phi T m) [.sh rg, .sh ld', .sh (D (sD L)), .sh (.list ((ks K).map .str)), .sh (D (caD load 1 (dvs (ks K) t))), s5, .sh (.str p.1)] (.cmp .LtE (.ex (.idx (.ex (.idx (.ex (.var 4)) (.var 6))) (.cst (.int 0)))) (.ex (.bin .Mult (.ex (.idx (.ex (.var 2)) (.var 6))) (.ex (.idx (.ex (.idx (.ex (.var 4)) (.var 6))) (.cst (.int 1))))))) = some (.bool (okS t load (ks K) p)) := by
    refine (ev_cmp (v := decide (((load / Nat.gcd load (dv (ks K) t p.1) : Nat) : Int) ≤ p.2 * ((dv (ks K) t p.1 / Nat.gcd load (dv (ks K) t p.1) : Nat) : Int))) (ev_o (ev_idx (ev_o (ev_idx rfl rfl (idx_d lc))) rfl rfl)) (ev_o (ev_bin (ev_o (ev_idx rfl rfl (idx_d ls))) (ev_o (ev_idx (ev_o (ev_idx rfl rfl (idx_d lc))) rfl rfl)) (bd_mull sp))) rfl).trans ?_
    unfold okS
    congr 2
    rw [decide_eq_decide]
    exact frac_le hl
  show (evAnd (Phi T m) [.sh rg, .sh ld', .sh (D (sD L)), .sh (.list ((ks K).map .str)), .sh (D (caD load 1 (dvs (ks K) t))), s5, .sh (.str p.1)] _ = _ ∧ _) ∨ (evAnd (Phi T m) [.sh rg, .sh ld', .sh (D (sD L)), .sh (.list ((ks K).map .str)), .sh (D (caD load 1 (dvs (ks K) t))), s5, .sh (.str p.1)] _ = _ ∧ _)
  rw [evAnd, tst]
  cases okS t load (ks K) p with
  | false => exact .inr ⟨rfl, rfl⟩
  | true => exact .inl ⟨rfl, _, rfl, rfl⟩
/-- the loop of settle -/
def bSet : Ss := (.cons (.asg 4 (.call 25 (.cons (.var 0) (.cons (.tup (.cons (.var 1) (.cons (.cst (.int 1)) .nil))) (.cons (.var 3) .nil))))) (.cons (.asg 5 (.cpr (.var 6) (.nm 6) (.vr 3) (.cons (.cmp .LtE (.ex (.idx (.ex (.idx (.ex (.var 4)) (.var 6))) (.cst (.int 0)))) (.ex (.bin .Mult (.ex (.idx (.ex (.var 2)) (.var 6))) (.ex (.idx (.ex (.idx (.ex (.var 4)) (.var 6))) (.cst (.int 1))))))) .nil))) (.cons (.shr 5) (.cons (.ife (.cmp .Eq (.ex (.len (.ex (.var 5)))) (.ex (.len (.ex (.var 3))))) (.cons (.ret (.var 4)) .nil) .nil) (.cons (.asg 3 (.var 5)) .nil)))))
theorem fr_call {f : Nat} {es : Es} {fn : Fn} (h : T.lookup f = some fn) (h2 : fn.fresh = false) : Wr.frs (frOf T) (.call f es) = false := by
  show frOf T f = false
  unfold frOf
  rw [h]
  exact h2
theorem setl_loop (F : Tabs T) {t : Tr} (ht : TrOk t) {L : SL} {load m : Nat} (hm : 14 ≤ m) (hl : 0 < load) (hl2 : load < 1000000) (hL : (ks L).Sublist (nmL t)) (hs : ∀ p ∈ L, -1000000 < p.2 ∧ p.2 < 1000000) : ∀ (n N : Nat) (K : SL), K.length < n → n ≤ N → K.Sublist L → ∀ s4 s5 : Sl,
    loopW (fun env => evE (Phi T m) env (.cst (.bool true))) (fun env => exSs (Phi T m) (frOf T) env bSet) N [.sh (enc t), .sh (.int (load : Int)), .sh (D (sD L)), .sh (.list ((ks K).map .str)), s4, s5, .un] = some (.rt (D (caD load 1 (dvs (ks (stl t load n K)) t))) false)
  | 0, N, K, h, _, _, _, _ => by omega
  | n + 1, N, K, h, hN, hK, s4, s5 => by
    obtain ⟨N, rfl⟩ : ∃ M, N = M + 1 := ⟨N - 1, by omega⟩
    have hc := carried1 F ht hm hl hl2 (NmD.l (ks K))
    have hfr := fr_call (es := (.cons (.var 0) (.cons (.tup (.cons (.var 1) (.cons (.cst (.int 1)) .nil))) (.cons (.var 3) .nil)))) F.f25 rfl
    have hkept := kept_ok (T := T) (m := m) ht hl hK hL hs (rg := enc t) (ld' := .int (load : Int)) (s5 := s5)
    have tst : evE (Phi T m) [.sh (enc t), .sh (.int (load : Int)), .sh (D (sD L)), .sh (.list ((ks K).map .str)), .sh (D (caD load 1 (dvs (ks K) t))), .sh (.list ((ks (stp t load K)).map .str)), .un] (.cmp .Eq (.ex (.len (.ex (.var 5)))) (.ex (.len (.ex (.var 3))))) = some (.bool (decide (((stp t load K).length : Int) = (K.length : Int)))) := by
      refine ev_cmp (ev_o (ev_len rfl (d := .int ((stp t load K).length : Int)) ?_)) (ev_o (ev_len rfl (d := .int (K.length : Int)) ?_)) (eqD_int _ _)
      · show some _ = _
        rw [List.length_map, List.length_map]
      · show some _ = _
        rw [List.length_map, List.length_map]
    rw [stl]
    by_cases he : (stp t load K).length = K.length
    · rw [if_pos he]
      refine loopW_rt rfl (ss_cons (s_asg (d := D (caD load 1 (dvs (ks K) t))) (ev_call rfl hc) hfr) (ss_cons (s_own (d := .list ((ks (stp t load K)).map .str)) hkept) (ss_cons (s_shr (d := .list ((ks (stp t load K)).map .str)) rfl) (ss_rt (s_ift (ev_t tst (by rw [he])) (ss_rt (s_ret rfl)))))))
    · rw [if_neg he]
      refine loopW_go rfl (ss_cons (s_asg (d := D (caD load 1 (dvs (ks K) t))) (ev_call rfl hc) hfr) (ss_cons (s_own (d := .list ((ks (stp t load K)).map .str)) hkept) (ss_cons (s_shr (d := .list ((ks (stp t load K)).map .str)) rfl) (ss_cons (s_iff (ev_f tst (by omega)) ss_nil) (ss_cons (s_asg (d := .list ((ks (stp t load K)).map .str)) rfl) ss_nil))))) ?_
      exact setl_loop F ht hm hl hl2 hL hs n N (stp t load K) (by have := (stp_sub t load K).length_le; omega) (by omega) ((stp_sub t load K).trans hK) _ _
theorem settle_ok (F : Tabs T) {t : Tr} (ht : TrOk t) {L : SL} {load n : Nat} (hn : 15 ≤ n) (hl : 0 < load) (hl2 : load < 1000000) (hL : (ks L).Sublist (nmL t)) (hs : ∀ p ∈ L, -1000000 < p.2 ∧ p.2 < 1000000) :
    Phi T n 26 [enc t, .int (load : Int), D (sD L)] = some (D (caD load 1 (dvs (ks (rem t load L)) t))) := by
  obtain ⟨m, rfl⟩ : ∃ m, n = m + 1 := ⟨n - 1, by omega⟩
  rw [Phi_succ F.f26]
  have hlen : L.length ≤ 12 := by
    have := hL.length_le
    rw [List.length_map, List.length_map] at this
    have := ht.len
    omega
  refine run_ret rfl rfl (ss_cons (s_own (d := .list ((ks L).map .str)) ?_) (ss_cons (s_shr (d := .list ((ks L).map .str)) rfl) (ss_rt (s_whl (setl_loop F ht (by omega) hl hl2 hL hs (L.length + 1) wfuel L (by omega) (by unfold wfuel; omega) (List.Sublist.refl L) .un .un)))))
  show some (PyData.list ((dct (sD L)).map (·.1))) = _
  simp only [dct, sD, ks, List.map_map, Function.comp_def]
end
end Wr.P
end

section
set_option Elab.async false
set_option linter.all false
set_option maxRecDepth 100000
set_option maxHeartbeats 4000000
/-! WsI: lift, simulate, lift_count, remaining. -/
namespace Wr.P
open PySem
def wrL (t : Tr) : List (Str × Int) := (lvs t).map fun l => (l.1, l.2.2)
def wr (t : Tr) (x : Str) : Int := ((wrL t).lookup x).getD 0
def L0 (t : Tr) : SL := (lvs t).map fun l => (l.1, l.2.1)
def wn (t : Tr) (R : SL) : SL := R.map fun p => (p.1, p.2 - wr t p.1)
theorem wn_ks (t : Tr) (R : SL) : ks (wn t R) = ks R := by simp [ks, wn]
theorem L0_ks (t : Tr) : ks (L0 t) = nmL t := by simp [ks, L0, nmL]
theorem wrL_ks (t : Tr) : (wrL t).map (·.1) = nmL t := by simp [wrL, nmL]
/-- strengths and wears that are not too large -/
def TrV (t : Tr) : Prop := ∀ l ∈ lvs t, (-100000 ≤ l.2.1 ∧ l.2.1 ≤ 100000) ∧ 0 ≤ l.2.2 ∧ l.2.2 ≤ 100
theorem wr_mem {t : Tr} (nd : (nmL t).Nodup) {x : Str} (hx : x ∈ nmL t) : (x, wr t x) ∈ wrL t := by
  rw [← wrL_ks] at hx
  obtain ⟨p, hp, e⟩ := List.mem_map.mp hx
  subst e
  have : wr t p.1 = p.2 := by
    unfold wr
    rw [lookup_mem (by rw [wrL_ks]; exact nd) hp]
    rfl
  rw [this]
  exact hp
theorem wr_bd {t : Tr} (nd : (nmL t).Nodup) (hv : TrV t) {x : Str} (hx : x ∈ nmL t) : 0 ≤ wr t x ∧ wr t x ≤ 100 := by
  obtain ⟨l, hl, e⟩ := List.mem_map.mp (wr_mem nd hx)
  have h2 : l.2.2 = wr t x := congrArg Prod.snd e
  rw [← h2]
  exact (hv l hl).2
section
variable {T : Tab}
theorem strands1 (F : Tabs T) {t : Tr} (ht : TrOk t) {n : Nat} (hn : 13 ≤ n) : Phi T n 5 [enc t] = some (.list ((lvs t).map ld)) :=
  strands_ok F.f4 F.f5 t n (by have := ht.dep; omega) ht.wf (by have := ht.len; omega)
theorem init_ok (F : Tabs T) {t : Tr} (ht : TrOk t) {n : Nat} (hn : 14 ≤ n) : Phi T n 27 [enc t] = some (D (sD (L0 t))) := by
  obtain ⟨m, rfl⟩ : ∃ m, n = m + 1 := ⟨n - 1, by omega⟩
  rw [Phi_succ F.f27]
  refine run_ret rfl rfl (ss_rt (s_ret (ev_eq (ev_dcp ld (fun l => l.1) (fun l => .int l.2.1) (lvs t) ?_ ht.nd fun l hl => ⟨_, rfl, ev_idx rfl rfl rfl, ev_idx rfl rfl rfl⟩) ?_)))
  · rw [evI, ev_call (ds := [enc t]) rfl (strands1 F ht (by omega))]
    rfl
  · simp only [sD, L0, List.map_map, Function.comp_def]
theorem lift_ok (F : Tabs T) {t : Tr} (ht : TrOk t) {L : SL} {load n : Nat} (hn : 16 ≤ n) (hl : 0 < load) (hl2 : load < 1000000) (hL : (ks L).Sublist (nmL t)) (hs : ∀ p ∈ L, -1000000 < p.2 ∧ p.2 < 1000000) :
    Phi T n 28 [enc t, D (sD L), .int (load : Int)] = some (.tuple [D (sD (wn t (rem t load L))), D (caD load 1 (dvs (ks (rem t load L)) t))]) := by
  obtain ⟨m, rfl⟩ : ∃ m, n = m + 1 := ⟨n - 1, by omega⟩
  rw [Phi_succ F.f28]
  have hset := settle_ok F ht (n := m) (by omega) hl hl2 hL hs
  have hsub : (rem t load L).Sublist L := stl_sub t load _ L
  have hks : (ks (rem t load L)).Sublist (nmL t) := (hsub.map _).trans hL
  have ndL : (ks L).Nodup := ht.nd.sublist hL
  generalize rem t load L = R at *
  refine run_ret rfl rfl (ss_cons (s_asg (d := D (caD load 1 (dvs (ks R) t))) (ev_call rfl hset) (fr_call F.f26 rfl)) (ss_cons (s_asg (d := D (sD (wrL t))) ?_) (ss_rt (s_ret (ev_tup (es_cons ?_ rfl))))))
  · refine ev_eq (ev_dcp ld (fun l => l.1) (fun l => .int l.2.2) (lvs t) ?_ ht.nd fun l hl => ⟨_, rfl, ev_idx rfl rfl rfl, ev_idx rfl rfl rfl⟩) ?_
    · rw [evI, ev_call (ds := [enc t]) rfl (strands1 F ht (by omega))]
      rfl
    · simp only [sD, wrL, List.map_map, Function.comp_def]
  · refine ev_eq (ev_dcp (fun p : Str × Int => .str p.1) (fun p => p.1) (fun p => .int (p.2 - wr t p.1)) R ?_ ?_ fun p hp => ⟨_, rfl, rfl, ?_⟩) ?_
    · show some ((dct (caD load 1 (dvs (ks R) t))).map (·.1)) = _
      have e1 : (dct (caD load 1 (dvs (ks R) t))).map (·.1) = ((dvs (ks R) t).map (·.1)).map PyData.str := by simp only [dct, caD, List.map_map, Function.comp_def]
      rw [e1, dvs_ks hks ht.nd, ks, List.map_map]
      rfl
    · exact ht.nd.sublist hks
    · have ls : lookD (dct (sD L)) (.str p.1) = some (.int p.2) := by
        rw [look_dct]
        exact lookup_mem (by rw [sD_keys]; exact ndL) (List.mem_map.mpr ⟨p, hsub.subset hp, rfl⟩)
      have lw : lookD (dct (sD (wrL t))) (.str p.1) = some (.int (wr t p.1)) := by
        rw [look_dct]
        exact lookup_mem (by rw [sD_keys]; show ((wrL t).map (·.1)).Nodup; rw [wrL_ks]; exact ht.nd) (List.mem_map.mpr ⟨_, wr_mem ht.nd (hks.subset (List.mem_map.mpr ⟨p, hp, rfl⟩)), rfl⟩)
      exact ev_bin (ev_o (ev_idx rfl rfl (idx_d ls))) (ev_o (ev_idx rfl rfl (idx_d lw))) bd_sub
    · simp only [sD, wn, List.map_map, Function.comp_def]
end
/-! ### sequences -/
theorem snoc_ind {α : Type} {P : List α → Prop} (nil : P []) (snoc : ∀ l a, P l → P (l ++ [a])) (l : List α) : P l := by
  rw [← List.reverse_reverse l]
  induction l.reverse with
  | nil => exact nil
  | cons a r ih => rw [List.reverse_cons]; exact snoc _ _ ih
abbrev Stp := SL × Nat × SL
def stD (t : Tr) (s : Stp) : PyData := .tuple [D (sD s.1), D (sD (wn t s.2.2)), D (caD s.2.1 1 (dvs (ks s.2.2) t))]
def adv (t : Tr) (a : List Stp × SL) (l : Nat) : List Stp × SL := if a.2 = [] then a else (a.1 ++ [(a.2, l, rem t l a.2)], wn t (rem t l a.2))
def runS (t : Tr) (ls : List Nat) : List Stp × SL := ls.foldl (adv t) ([], L0 t)
theorem runS_snoc (t : Tr) (ls : List Nat) (l : Nat) : runS t (ls ++ [l]) = adv t (runS t ls) l := by
  unfold runS
  rw [List.foldl_append]
  rfl
theorem rem_sub (t : Tr) (l : Nat) (L : SL) : (rem t l L).Sublist L := stl_sub t l _ L
theorem run_sub (t : Tr) (ls : List Nat) : (ks (runS t ls).2).Sublist (nmL t) := by
  induction ls using snoc_ind with
  | nil => show (ks (L0 t)).Sublist _; rw [L0_ks]; exact List.Sublist.refl _
  | snoc ls l ih =>
    rw [runS_snoc]
    unfold adv
    split
    · exact ih
    · show (ks (wn t _)).Sublist _
      rw [wn_ks]
      exact ((rem_sub t l _).map _).trans ih
theorem run_bd {t : Tr} (nd : (nmL t).Nodup) (hv : TrV t) (ls : List Nat) : ∀ p ∈ (runS t ls).2, -100000 - 100 * (ls.length : Int) ≤ p.2 ∧ p.2 ≤ 100000 := by
  induction ls using snoc_ind with
  | nil =>
    intro p hp
    obtain ⟨l, hl, rfl⟩ := List.mem_map.mp (show p ∈ (lvs t).map fun l => (l.1, l.2.1) from hp)
    have := (hv l hl).1
    simp only [List.length_nil]
    omega
  | snoc ls l ih =>
    rw [runS_snoc, List.length_append, List.length_singleton]
    unfold adv
    split
    · intro p hp
      have := ih p hp
      omega
    · intro p hp
      obtain ⟨q, hq, rfl⟩ := List.mem_map.mp (show p ∈ (rem t l (runS t ls).2).map fun p => (p.1, p.2 - wr t p.1) from hp)
      have hq' := (rem_sub t l _).subset hq
      have h1 := ih q hq'
      have h2 := wr_bd nd hv ((run_sub t ls).subset (List.mem_map.mpr ⟨q, hq', rfl⟩))
      simp only
      omega
theorem run_len (t : Tr) (ls : List Nat) : (runS t ls).1.length ≤ ls.length := by
  induction ls using snoc_ind with
  | nil => exact Nat.le_refl _
  | snoc ls l ih =>
    rw [runS_snoc, List.length_append, List.length_singleton]
    unfold adv
    split
    · omega
    · simp only [List.length_append, List.length_singleton]; omega
/-- a tuple or a list of loads -/
inductive SqD : PyData → List Nat → Prop
  | t (ls : List Nat) : SqD (.tuple (ls.map fun l : Nat => .int (l : Int))) ls
section
variable {T : Tab}
theorem ne_dict {Ph : Nat → List PyData → Option PyData} {env : Ev} {i : Nat} {L : List (Str × PyData)} (h : env[i]? = some (.sh (D L))) : evE Ph env (.cmp .NotEq (.ex (.var i)) (.ex .dc0)) = some (.bool (decide (L ≠ []))) := by
  have hv : evE Ph env (.var i) = some (D L) := by rw [evE, h]
  refine ev_cmp (ev_o hv) rfl ?_
  show (eqD (D L) (.dict [])).map (!·) = _
  rw [eqD_dnil]
  cases L <;> rfl
theorem sD_nil {L : SL} : sD L ≠ [] ↔ L ≠ [] := by cases L <;> simp [sD]
theorem simulate_ok (F : Tabs T) {t : Tr} (ht : TrOk t) (hv : TrV t) {ls : List Nat} (hl : ∀ l ∈ ls, 0 < l ∧ l < 1000000) (hlen : ls.length ≤ 1000) {sq : PyData} (hsq : SqD sq ls) {n : Nat} (hn : 17 ≤ n) :
    Phi T n 29 [enc t, sq] = some (.list ((runS t ls).1.map (stD t))) := by
  obtain ⟨m, rfl⟩ : ∃ m, n = m + 1 := ⟨n - 1, by omega⟩
  rw [Phi_succ F.f29]
  obtain ⟨env', he, s4, s5, s6, rfl⟩ := loopF_of (tg := .nm 4) (body := fun env => exSs (Phi T m) (frOf T) env (.cons (.ife (.cmp .NotEq (.ex (.var 3)) (.ex .dc0)) (.cons (.unp (.tp (.cons (.nm 5) (.cons (.nm 6) .nil))) (.call 28 (.cons (.var 0) (.cons (.var 3) (.cons (.var 4) .nil))))) (.cons (.app 2 (.tup (.cons (.var 3) (.cons (.var 5) (.cons (.var 6) .nil))))) (.cons (.asg 3 (.var 5)) .nil))) .nil) .nil)) (env := [.sh (enc t), .sh sq, .ow (.list []), .sh (D (sD (L0 t))), .un, .un, .un]) (fun l : Nat => .int (l : Int)) ls
    (fun done env => ∃ s4 s5 s6 : Sl, env = [.sh (enc t), .sh sq, .ow (.list ((runS t done).1.map (stD t))), .sh (D (sD (runS t done).2)), s4, s5, s6]) ⟨.un, .un, .un, rfl⟩ (by
      rintro done l rest env e ⟨s4, s5, s6, rfl⟩
      have hl' := hl l (by rw [e]; simp)
      have hd : done.length ≤ 1000 := by rw [e, List.length_append] at hlen; omega
      have hb := run_bd ht.nd hv done
      have hsb := run_sub t done
      have hln := run_len t done
      rw [runS_snoc]
      unfold adv
      generalize runS t done = r at *
      have tst := ne_dict (Ph := Phi T m) (env := [.sh (enc t), .sh sq, .ow (.list (r.1.map (stD t))), .sh (D (sD r.2)), .sh (.int (l : Int)), s5, s6]) (i := 3) (L := sD r.2) rfl
      by_cases h0 : r.2 = []
      · rw [if_pos h0]
        exact ⟨_, _, rfl, ss_cons (s_iff (ev_f tst (fun z => sD_nil.mp z h0)) ss_nil) ss_nil, _, _, _, rfl⟩
      · rw [if_neg h0]
        have hlift := lift_ok F ht (n := m) (by omega) hl'.1 hl'.2 hsb (fun p hp => by have := hb p hp; omega)
        refine ⟨_, _, rfl, ss_cons (s_ift (ev_t tst (sD_nil.mpr h0)) (ss_cons (s_unp (ev_call rfl hlift) rfl) (ss_cons (s_app (d := stD t (r.2, l, rem t l r.2)) (ev_tup rfl) rfl (by rw [List.length_map]; unfold lim; omega)) (ss_cons (s_asg (d := D (sD (wn t (rem t l r.2)))) rfl) ss_nil)))) ss_nil, .sh (.int (l : Int)), .sh (D (sD (wn t (rem t l r.2)))), .sh (D (caD l 1 (dvs (ks (rem t l r.2)) t))), ?_⟩
        rw [List.map_append]
        rfl)
  refine run_ret rfl rfl (ss_cons (s_par (b1 := true) (b2 := false) (d1 := .list []) (d2 := D (sD (L0 t))) rfl (ev_call rfl (init_ok F ht (by omega))) rfl (fr_call F.f27 rfl)) (ss_cons (s_for (ds := ls.map fun l : Nat => .int (l : Int)) ?_ he) (ss_cons (s_shr (d := .list ((runS t ls).1.map (stD t))) rfl) (ss_rt (s_ret rfl)))))
  cases hsq
  rfl
end
end Wr.P
end

section
set_option Elab.async false
set_option linter.all false
set_option maxRecDepth 100000
set_option maxHeartbeats 4000000
/-! WsJ: sorting; lift_count, remaining. -/
namespace Wr.P
open PySem
/-! ### sorting -/
def ins1 {α : Type} (lt : α → α → Bool) (x : α) : List α → List α
  | [] => [x]
  | y :: r => if lt y x then y :: ins1 lt x r else x :: y :: r
def srt {α : Type} (lt : α → α → Bool) : List α → List α
  | [] => []
  | x :: r => ins1 lt x (srt lt r)
theorem ins1_perm {α : Type} (lt : α → α → Bool) (x : α) : ∀ l : List α, (ins1 lt x l).Perm (x :: l)
  | [] => .refl _
  | y :: r => by
    rw [ins1]
    split
    · exact (List.Perm.cons y (ins1_perm lt x r)).trans (List.Perm.swap x y r)
    · exact .refl _
theorem srt_perm {α : Type} (lt : α → α → Bool) : ∀ l : List α, (srt lt l).Perm l
  | [] => .refl _
  | x :: r => (ins1_perm lt x _).trans (List.Perm.cons x (srt_perm lt r))
theorem insD_map {α : Type} (lt : α → α → Bool) (f : α → PyData) (x : α) : ∀ l : List α, (∀ y ∈ l, PySem.W.dataLt (f y) (f x) = lt y x) → insD (f x) (l.map f) = (ins1 lt x l).map f
  | [], _ => rfl
  | y :: r, h => by
    rw [List.map_cons, insD, ins1, h y List.mem_cons_self]
    cases lt y x with
    | true =>
      simp only [if_true, List.map_cons]
      rw [insD_map lt f x r fun z hz => h z (List.mem_cons_of_mem _ hz)]
    | false => rfl
theorem sortD_map {α : Type} (lt : α → α → Bool) (f : α → PyData) : ∀ l : List α, l.Nodup → (∀ a ∈ l, ∀ b ∈ l, a ≠ b → PySem.W.dataLt (f a) (f b) = lt a b) → sortD (l.map f) = (srt lt l).map f
  | [], _, _ => rfl
  | x :: r, nd, h => by
    rw [List.nodup_cons] at nd
    rw [List.map_cons, sortD, srt, sortD_map lt f r nd.2 fun a ha b hb => h a (List.mem_cons_of_mem _ ha) b (List.mem_cons_of_mem _ hb)]
    refine insD_map lt f x _ fun y hy => ?_
    have hy' : y ∈ r := (srt_perm lt r).mem_iff.mp hy
    exact h y (List.mem_cons_of_mem _ hy') x List.mem_cons_self (fun e => nd.1 (e ▸ hy'))
theorem srt_map {α β : Type} (lt : α → α → Bool) (lt2 : β → β → Bool) (f : α → β) (h : ∀ a b, lt2 (f a) (f b) = lt a b) : ∀ l : List α, srt lt2 (l.map f) = (srt lt l).map f
  | [] => rfl
  | x :: r => by
    have key : ∀ l : List α, ins1 lt2 (f x) (l.map f) = (ins1 lt x l).map f := by
      intro l
      induction l with
      | nil => rfl
      | cons y l ih =>
        rw [List.map_cons, ins1, ins1, h]
        cases lt y x with
        | true => simp only [if_true, List.map_cons, ih]
        | false => rfl
    rw [List.map_cons, srt, srt, srt_map lt lt2 f h r, key]
def ltS (a b : Str) : Bool := PySem.W.dataLt (.str a) (.str b)
theorem allAlike_of : ∀ {ds : List PyData}, (∀ x ∈ ds, ∀ y ∈ ds, PySem.W.alike x y = true) → allAlike ds = true
  | [], _ => rfl
  | x :: r, h => by
    rw [allAlike, allAlike_of fun a ha b hb => h a (List.mem_cons_of_mem _ ha) b (List.mem_cons_of_mem _ hb), Bool.and_true, List.all_eq_true]
    intro y hy
    rw [Bool.and_eq_true]
    exact ⟨h x List.mem_cons_self y hy, h y hy x List.mem_cons_self⟩
theorem noDAll_of : ∀ {ds : List PyData}, (∀ x ∈ ds, noD x = true) → noDAll ds = true
  | [], _ => rfl
  | x :: r, h => by rw [noDAll, h x List.mem_cons_self, noDAll_of fun y hy => h y (List.mem_cons_of_mem _ hy)]; rfl
theorem sorted_of {ds : List PyData} (h1 : ∀ x ∈ ds, ∀ y ∈ ds, PySem.W.alike x y = true) (h2 : sortableD ds = true) (h3 : ∀ x ∈ ds, noD x = true ∧ x.depth ≤ 40) : sortedD ds = some (.list (sortD ds)) := by
  unfold sortedD
  rw [allAlike_of h1, h2, noDAll_of fun x hx => (h3 x hx).1, if_pos]
  simp only [Bool.true_and, List.all_eq_true, decide_eq_true_eq]
  exact fun x hx => (h3 x hx).2
theorem sorted_strs {ns : List Str} (nd : ns.Nodup) : sortedD (ns.map .str) = some (.list ((srt ltS ns).map .str)) := by
  have h1 : ∀ x ∈ ns.map PyData.str, ∀ y ∈ ns.map PyData.str, PySem.W.alike x y = true := fun x hx y hy => by
    obtain ⟨a, _, rfl⟩ := List.mem_map.mp hx
    obtain ⟨b, _, rfl⟩ := List.mem_map.mp hy
    rfl
  have h2 : sortableD (ns.map PyData.str) = true := by
    unfold sortableD
    rw [Bool.or_eq_true]
    refine .inr (List.all_eq_true.mpr fun x hx => ?_)
    obtain ⟨a, _, rfl⟩ := List.mem_map.mp hx
    rfl
  have h3 : ∀ x ∈ ns.map PyData.str, noD x = true ∧ x.depth ≤ 40 := fun x hx => by
    obtain ⟨a, _, rfl⟩ := List.mem_map.mp hx
    exact ⟨rfl, Nat.zero_le _⟩
  rw [sorted_of h1 h2 h3, sortD_map ltS PyData.str ns nd fun a _ b _ _ => rfl]
/-- pairs (name, value), sorted by the names -/
def lt1 {α : Type} (p q : Str × α) : Bool := ltS p.1 q.1
abbrev itm (p : Str × PyData) : PyData := .tuple [.str p.1, p.2]
theorem itm_lt {p q : Str × PyData} (h : p.1 ≠ q.1) : PySem.W.dataLt (itm p) (itm q) = lt1 p q := by
  rw [PySem.W.dataLt_tuple, PySem.W.dataLt_all_no (by rfl) (by rw [eqv_s]; simpa using h)]
  rfl
theorem sorted_items {l : List (Str × PyData)} (nd : (l.map (·.1)).Nodup) (h : ∀ p ∈ l, ∀ q ∈ l, PySem.W.alike p.2 q.2 = true) (h2 : ∀ p ∈ l, noD p.2 = true ∧ p.2.depth ≤ 38) : sortedD (itemsD (dct l)) = some (.list ((srt lt1 l).map itm)) := by
  have e : itemsD (dct l) = l.map itm := by simp only [itemsD, dct, List.map_map, Function.comp_def]
  have ndl : l.Nodup := by
    refine List.Pairwise.of_map (·.1) (fun a b h e => h (congrArg _ e)) nd
  have inj : ∀ p ∈ l, ∀ q ∈ l, p ≠ q → p.1 ≠ q.1 := by
    intro p hp q hq hne e1
    have a1 := lookup_mem nd (x := p.1) (v := p.2) hp
    have a2 := lookup_mem nd (x := q.1) (v := q.2) hq
    rw [e1, a2] at a1
    exact hne (Prod.ext e1 (Option.some.inj a1).symm)
  have h1 : ∀ x ∈ l.map itm, ∀ y ∈ l.map itm, PySem.W.alike x y = true := fun x hx y hy => by
    obtain ⟨a, ha, rfl⟩ := List.mem_map.mp hx
    obtain ⟨b, hb, rfl⟩ := List.mem_map.mp hy
    show (true && (PySem.W.alike a.2 b.2 && true)) = true
    rw [h a ha b hb]
    rfl
  have h3 : sortableD (l.map itm) = true := by
    unfold sortableD
    rw [Bool.or_eq_true]
    refine .inl (List.all_eq_true.mpr fun x hx => ?_)
    obtain ⟨a, _, rfl⟩ := List.mem_map.mp hx
    rfl
  have h4 : ∀ x ∈ l.map itm, noD x = true ∧ x.depth ≤ 40 := fun x hx => by
    obtain ⟨a, ha, rfl⟩ := List.mem_map.mp hx
    obtain ⟨g1, g2⟩ := h2 a ha
    refine ⟨?_, ?_⟩
    · show (true && (noD a.2 && true)) = true
      rw [g1]
      rfl
    · show max 0 (max a.2.depth 0) + 1 ≤ 40
      omega
  rw [e, sorted_of h1 h3 h4, sortD_map lt1 itm l ndl fun a ha b hb hne => itm_lt (inj a ha b hb hne)]
/-! ### equal data -/
mutual
theorem eqv_refl : ∀ d : PyData, noD d = true → PyData.eqv d d = true
  | .none, _ => by rw [PyData.eqv]
  | .bool b, _ => by rw [PyData.eqv]; exact beq_self_eq_true b
  | .int i, _ => by rw [PyData.eqv]; exact beq_self_eq_true i
  | .str x, _ => by rw [PyData.eqv]; exact beq_self_eq_true x
  | .list xs, h => by rw [PyData.eqv]; exact eqvAll_refl xs (by rw [noD] at h; exact h)
  | .tuple xs, h => by rw [PyData.eqv]; exact eqvAll_refl xs (by rw [noD] at h; exact h)
  | .dict _, h => by rw [noD] at h; cases h
theorem eqvAll_refl : ∀ ds : List PyData, noDAll ds = true → PyData.eqvAll ds ds = true
  | [], _ => by rw [PyData.eqvAll]
  | d :: ds, h => by
    rw [noDAll, Bool.and_eq_true] at h
    rw [PyData.eqvAll, eqv_refl d h.1, eqvAll_refl ds h.2]
    rfl
end
theorem eqD_refl {d : PyData} (h : noD d = true) (h2 : d.depth ≤ 64) : eqD d d = some true := by
  unfold eqD
  split
  · rw [noD] at h; cases h
  · rfl
  · rw [h, Nat.min_self, decide_eq_true h2, eqv_refl d h]
    rfl
/-! ### lift_count, remaining -/
def cntS (ss : List Stp) : Nat := (ss.filter fun s => decide (s.2.2 ≠ [])).length
section
variable {T : Tab}
theorem wn_nil {t : Tr} {R : SL} : sD (wn t R) ≠ [] ↔ R ≠ [] := by cases R <;> simp [sD, wn]
theorem count_ok (F : Tabs T) (h30 : T.lookup 30 = some F30) {t : Tr} (ht : TrOk t) (hv : TrV t) {ls : List Nat} (hl : ∀ l ∈ ls, 0 < l ∧ l < 1000000) (hlen : ls.length ≤ 1000) {sq : PyData} (hsq : SqD sq ls) {n : Nat} (hn : 18 ≤ n) :
    Phi T n 30 [enc t, sq] = some (.int (cntS (runS t ls).1 : Int)) := by
  obtain ⟨m, rfl⟩ : ∃ m, n = m + 1 := ⟨n - 1, by omega⟩
  rw [Phi_succ h30]
  have hcp : evE (Phi T m) [.sh (enc t), .sh sq, .un, .un, .un] (.cpr (.cst (.int 1)) (.tp (.cons (.nm 2) (.cons (.nm 3) (.cons (.nm 4) .nil)))) (.val (.call 29 (.cons (.var 0) (.cons (.var 1) .nil)))) (.cons (.cmp .NotEq (.ex (.var 3)) (.ex .dc0)) .nil)) = some (.list ((runS t ls).1.filterMap fun s => if decide (s.2.2 ≠ []) then some (.int 1) else none)) := by
    refine ev_cpr (stD t) _ (runS t ls).1 ?_ fun s hs => ⟨_, rfl, ?_⟩
    · rw [evI, ev_call (ds := [enc t, sq]) rfl (simulate_ok F ht hv hl hlen hsq (by omega))]
      rfl
    · have tst := ne_dict (Ph := Phi T m) (env := [.sh (enc t), .sh sq, .sh (D (sD s.1)), .sh (D (sD (wn t s.2.2))), .sh (D (caD s.2.1 1 (dvs (ks s.2.2) t)))]) (i := 3) (L := sD (wn t s.2.2)) rfl
      rw [decide_eq_decide.mpr wn_nil] at tst
      show (evAnd (Phi T m) [.sh (enc t), .sh sq, .sh (D (sD s.1)), .sh (D (sD (wn t s.2.2))), .sh (D (caD s.2.1 1 (dvs (ks s.2.2) t)))] _ = _ ∧ _) ∨ (evAnd (Phi T m) [.sh (enc t), .sh sq, .sh (D (sD s.1)), .sh (D (sD (wn t s.2.2))), .sh (D (caD s.2.1 1 (dvs (ks s.2.2) t)))] _ = _ ∧ _)
      rw [evAnd, tst]
      cases decide (s.2.2 ≠ []) with
      | true => exact .inl ⟨rfl, _, rfl, rfl⟩
      | false => exact .inr ⟨rfl, rfl⟩
  refine run_ret rfl rfl (ss_rt (s_ret (ev_len (ev_o hcp) ?_)))
  show some _ = _
  rw [← filter_fm2, List.length_map]
  rfl
/-- what remains, sorted -/
def remD (L : SL) : PyData := .tuple ((srt lt1 (sD L)).map itm)
theorem sD_sorted {L : SL} (nd : (ks L).Nodup) : sortedD (itemsD (dct (sD L))) = some (.list ((srt lt1 (sD L)).map itm)) := by
  refine sorted_items (by rw [sD_keys]; exact nd) (fun p hp q hq => ?_) (fun p hp => ?_)
  · obtain ⟨a, _, rfl⟩ := List.mem_map.mp hp
    obtain ⟨b, _, rfl⟩ := List.mem_map.mp hq
    rfl
  · obtain ⟨a, _, rfl⟩ := List.mem_map.mp hp
    exact ⟨rfl, Nat.zero_le _⟩
theorem run_last (t : Tr) (ls : List Nat) : (runS t ls).1 ≠ [] → ∃ s, (runS t ls).1.getLast? = some s ∧ wn t s.2.2 = (runS t ls).2 := by
  induction ls using snoc_ind with
  | nil => intro h; exact absurd rfl h
  | snoc ls l ih =>
    rw [runS_snoc]
    unfold adv
    split
    · exact ih
    · intro _
      exact ⟨_, List.getLast?_concat .., rfl⟩
theorem run_first (t : Tr) (ls : List Nat) : (runS t ls).1 = [] → (runS t ls).2 = L0 t := by
  induction ls using snoc_ind with
  | nil => intro _; rfl
  | snoc ls l ih =>
    rw [runS_snoc]
    unfold adv
    split
    · exact ih
    · intro h
      simp at h
theorem at_last {xs : List PyData} {d : PyData} (h : xs.getLast? = some d) : atD xs (-1) = some d := by
  have hne : xs ≠ [] := fun e => by rw [e] at h; cases h
  have hl : 0 < xs.length := List.length_pos_iff.mpr hne
  unfold atD
  rw [if_neg (by decide), if_pos (by omega), show (-1 + (xs.length : Int)).toNat = xs.length - 1 by omega, ← List.getLast?_eq_getElem?]
  exact h
theorem remaining_ok (F : Tabs T) (h31 : T.lookup 31 = some F31) {t : Tr} (ht : TrOk t) (hv : TrV t) {ls : List Nat} (hl : ∀ l ∈ ls, 0 < l ∧ l < 1000000) (hlen : ls.length ≤ 1000) {sq : PyData} (hsq : SqD sq ls) {n : Nat} (hn : 18 ≤ n) :
    Phi T n 31 [enc t, sq] = some (remD (runS t ls).2) := by
  obtain ⟨m, rfl⟩ : ∃ m, n = m + 1 := ⟨n - 1, by omega⟩
  rw [Phi_succ h31]
  have hsim := simulate_ok F ht hv hl hlen hsq (n := m) (by omega)
  have nd : (ks (runS t ls).2).Nodup := ht.nd.sublist (run_sub t ls)
  have tst : evE (Phi T m) [.sh (enc t), .sh sq, .sh (.list ((runS t ls).1.map (stD t))), .un] (.cmp .NotEq (.ex (.var 2)) (.ex (.lst .nil))) = some (.bool (decide ((runS t ls).1 ≠ []))) := by
    refine ev_cmp rfl rfl ?_
    show (eqD (.list _) (.list [])).map (!·) = _
    rw [eqD_nil]
    cases (runS t ls).1 <;> rfl
  refine run_ret rfl rfl (ss_cons (s_asg (d := .list ((runS t ls).1.map (stD t))) (ev_call rfl hsim) (fr_call F.f29 rfl)) (ss_cons (s_asg (d := D (sD (runS t ls).2)) ?_) (ss_rt (s_ret (ev_blt (es_cons (ev_blt (es_cons rfl rfl) (sD_sorted nd)) rfl) rfl)))))
  by_cases h : (runS t ls).1 = []
  · refine ev_iff (ev_f tst (fun z => z h)) ?_
    rw [run_first t ls h]
    exact ev_call rfl (init_ok F ht (by omega))
  · obtain ⟨s, hs, e⟩ := run_last t ls h
    refine ev_ift (ev_t tst h) ?_
    rw [← e]
    refine ev_idx (ev_o (ev_idx rfl rfl (d := stD t s) ?_)) rfl rfl
    refine at_last ?_
    rw [List.getLast?_map, hs]
    rfl
end
end Wr.P
end

section
set_option Elab.async false
set_option linter.all false
set_option maxRecDepth 100000
set_option maxHeartbeats 4000000
/-! WsK: the law's capacity of a rig. -/
namespace Wr.P
open PySem
mutual
theorem dvs_le (ns : List Str) : ∀ t : Tr, wf t = true → ∀ p ∈ dvs ns t, p.2 ≤ 2 ^ ((lvs t).length - 1)
  | .leaf x p w, _ => by
    rw [dvs]
    intro q hq
    by_cases h : x ∈ ns
    · rw [if_pos h, List.mem_singleton] at hq
      subst hq
      exact Nat.one_le_two_pow
    · rw [if_neg h] at hq
      cases hq
  | .node cs, hw => by
    rw [wf, Bool.and_eq_true, decide_eq_true_eq] at hw
    rw [dvs, lvs]
    intro q hq
    obtain ⟨r, hr, rfl⟩ := List.mem_map.mp hq
    have h1 := dvsL_le ns cs hw.2 r hr
    have h2 : cnt ns cs ≤ 2 ^ (cs.length - 1) := Nat.le_trans (cnt_le ns cs) (le_two_pow _ (by omega))
    have h3 := (lvsL_pos cs hw.2).1
    refine Nat.le_trans (Nat.mul_le_mul h2 h1) ?_
    rw [← Nat.pow_add]
    exact Nat.pow_le_pow_right (by decide) (by omega)
theorem dvsL_le (ns : List Str) : ∀ cs : List Tr, wfL cs = true → ∀ p ∈ dvsL ns cs, p.2 ≤ 2 ^ ((lvsL cs).length - cs.length)
  | [], _ => fun p hp => by cases hp
  | c :: cs, hw => by
    rw [wfL, Bool.and_eq_true] at hw
    rw [dvsL, lvsL, List.length_append, List.length_cons]
    have h3 := (lvsL_pos cs hw.2).1
    have h4 := (lvs_pos c hw.1).1
    intro p hp
    rcases List.mem_append.mp hp with h | h
    · exact Nat.le_trans (dvs_le ns c hw.1 p h) (Nat.pow_le_pow_right (by decide) (by omega))
    · exact Nat.le_trans (dvsL_le ns cs hw.2 p h) (Nat.pow_le_pow_right (by decide) (by omega))
end
theorem dv_le {t : Tr} (ht : TrOk t) {S : List Str} {x : Str} (hs : S.Sublist (nmL t)) (hx : x ∈ S) : dv S t x ≤ 2048 := by
  have h := dvs_le S t ht.wf _ (dv_mem hs ht.nd hx).1
  refine Nat.le_trans h ?_
  have : 2 ^ ((lvs t).length - 1) ≤ 2 ^ 11 := Nat.pow_le_pow_right (by decide) (by have := ht.len; omega)
  exact this
theorem pairs_dct : ∀ l : List (Str × PyData), pairsD (l.map itm) = some (dct l)
  | [] => rfl
  | p :: l => by
    rw [List.map_cons, pairsD]
    simp only [keyD, if_true, pairs_dct l, Option.map_some]
    rfl
theorem dict_of {l : List (Str × PyData)} (nd : (l.map (·.1)).Nodup) : bltD .dict1 [.list (l.map itm)] = some (D l) := by
  show (pairsD _).map _ = _
  rw [pairs_dct]
  show some (PyData.dict (mergeD [] (dct l))) = _
  rw [show ([] : List (PyData × PyData)) = dct [] from rfl, merge_new (by simpa using nd)]
  rfl
/-- a subset as a tuple -/
abbrev tS (s : List Str) : PyData := .tuple (s.map .str)
def subs : List Str → List (List Str) → List (List Str)
  | [], acc => acc
  | x :: xs, acc => subs xs (acc ++ acc.map (· ++ [x]))
theorem intsD_map : ∀ is : List Int, intsD (is.map .int) = some is
  | [] => rfl
  | i :: is => by rw [List.map_cons, intsD, intsD_map is]; rfl
theorem minI_bd : ∀ (l : List Int) (x : Int), (∀ y ∈ x :: l, 1 ≤ y ∧ y ≤ 300000) → 1 ≤ minI x l ∧ minI x l ≤ 300000
  | [], x, h => h x List.mem_cons_self
  | y :: l, x, h => by
    rw [minI]
    refine minI_bd l _ fun z hz => ?_
    rcases List.mem_cons.mp hz with e | hz
    · subst e
      split
      · exact h y (by simp)
      · exact h x (by simp)
    · exact h z (by simp [hz])
theorem minI_le : ∀ (l : List Int) (x : Int), ∀ y ∈ x :: l, minI x l ≤ y
  | [], x, y, h => by
    rw [List.mem_singleton] at h
    subst h
    exact Int.le_refl _
  | z :: l, x, y, h => by
    rw [minI]
    have h0 := minI_le l (if z < x then z else x) _ List.mem_cons_self
    have h1 : (if z < x then z else x) ≤ z ∧ (if z < x then z else x) ≤ x := by split <;> omega
    rcases List.mem_cons.mp h with e | h
    · subst e
      exact Int.le_trans h0 h1.2
    · rcases List.mem_cons.mp h with e | h
      · subst e
        exact Int.le_trans h0 h1.1
      · exact minI_le l _ y (List.mem_cons_of_mem _ h)
theorem minI_mem : ∀ (l : List Int) (x : Int), minI x l ∈ x :: l
  | [], x => List.mem_singleton.mpr rfl
  | z :: l, x => by
    rw [minI]
    have h := minI_mem l (if z < x then z else x)
    rcases List.mem_cons.mp h with e | h
    · rw [e]
      split <;> simp
    · simp [h]
/-- a strand's strength -/
def pw (t : Tr) (x : Str) : Int := ((L0 t).lookup x).getD 0
/-- top is what some subset can carry, and none can carry more -/
def Capx (t : Tr) (top : Int) : Prop := (∃ s, s ≠ [] ∧ s.Sublist (nmL t) ∧ ∀ x ∈ s, top ≤ (dv s t x : Int) * pw t x) ∧ ∀ s, s ≠ [] → s.Sublist (nmL t) → ∀ v : Int, (∀ x ∈ s, v ≤ (dv s t x : Int) * pw t x) → v ≤ top
theorem sub_snoc {α : Type} {s l : List α} {x : α} (h : s.Sublist (l ++ [x])) : s.Sublist l ∨ ∃ r, s = r ++ [x] ∧ r.Sublist l := by
  have h' := h.reverse
  rw [List.reverse_append] at h'
  rcases List.sublist_cons_iff.mp (show s.reverse.Sublist (x :: l.reverse) from h') with h1 | ⟨r, e, h1⟩
  · exact .inl (by simpa using h1.reverse)
  · refine .inr ⟨r.reverse, ?_, by simpa using h1.reverse⟩
    have := congrArg List.reverse e
    simpa using this
section
variable {T : Tab}
theorem lawStr1 (h20 : T.lookup 20 = some F20) {t : Tr} (ht : TrOk t) {n : Nat} (hn : 12 ≤ n) : Phi T n 20 [enc t] = some (.list ((lvs t).map ld)) :=
  lawStrands_ok h20 t n (by have := ht.dep; omega) ht.wf (by have := ht.len; omega)
theorem lawDiv1 (h33 : T.lookup 33 = some F33) {t : Tr} (ht : TrOk t) {n : Nat} (hn : 12 ≤ n) {nd : PyData} {ns : List Str} (hns : NmD nd ns) : Phi T n 33 [enc t, nd] = some (D (dvD (dvs ns t))) :=
  lawDiv_ok h33 hns t n (by have := ht.dep; omega) ht.wf ht.nd (by have := ht.len; omega)
/-- dict([strand[:2] for strand in _law_strands(rig)]) -/
theorem powers_ok (h20 : T.lookup 20 = some F20) {t : Tr} (ht : TrOk t) {m : Nat} (hm : 12 ≤ m) {env : Ev} {i j : Nat} (he : env[i]? = some (.sh (enc t))) (hj : j < env.length) (hij : j ≠ i) :
    evE (Phi T m) env (.blt .dict1 (.cons (.cpr (.slc (.ex (.var j)) (.cst .none) (.cst (.int 2))) (.nm j) (.val (.call 20 (.cons (.var i) .nil))) .nil) .nil)) = some (D (sD (L0 t))) := by
  have hv : evE (Phi T m) env (.var i) = some (enc t) := by rw [evE, he]
  have hcp : evE (Phi T m) env (.cpr (.slc (.ex (.var j)) (.cst .none) (.cst (.int 2))) (.nm j) (.val (.call 20 (.cons (.var i) .nil))) .nil) = some (.list ((lvs t).map fun l => itm (l.1, .int l.2.1))) := by
    refine ev_cpm ld _ (lvs t) ?_ fun l hl => ⟨_, rfl, ?_⟩
    · rw [evI, ev_call (ds := [enc t]) (es_cons hv rfl) (lawStr1 h20 ht hm)]
      rfl
    · have hvj : evE (Phi T m) ((wipeE env (slotsT (.nm j))).set j (.sh (ld l))) (.var j) = some (ld l) := by
        rw [evE, List.getElem?_set_self (by simp only [slotsT, wipeE, List.length_set]; exact hj)]
      exact ev_slc (ev_o hvj) rfl rfl rfl
  refine ev_blt (es_cons hcp rfl) ?_
  have e : (lvs t).map (fun l => itm (l.1, .int l.2.1)) = (sD (L0 t)).map itm := by simp only [sD, L0, List.map_map, Function.comp_def]
  rw [e]
  exact dict_of (by rw [sD_keys, L0_ks]; exact ht.nd)
theorem cap_ok2 (h20 : T.lookup 20 = some F20) (h33 : T.lookup 33 = some F33) (h37 : T.lookup 37 = some F37) {t : Tr} (ht : TrOk t) (hp : ∀ l ∈ lvs t, 1 ≤ l.2.1 ∧ l.2.1 ≤ 99) {n : Nat} (hn : 13 ≤ n) :
    ∃ top : Nat, 1 ≤ top ∧ top ≤ 300000 ∧ Phi T n 37 [enc t] = some (.int (top : Int)) ∧ Capx t (top : Int) := by
  obtain ⟨m, rfl⟩ : ∃ m, n = m + 1 := ⟨n - 1, by omega⟩
  rw [Phi_succ h37]
  have nml : (nmL t).length ≤ 12 := by rw [List.length_map]; exact ht.len
  obtain ⟨env', he, s4, ss, rfl, hfirst, hsub, hlen, hone⟩ := loopF_of (tg := .nm 4) (body := fun env => exSs (Phi T m) (frOf T) env (.cons (.asg 1 (.bin .Add (.ex (.var 1)) (.ex (.cpr (.bin .Add (.ex (.var 5)) (.ex (.tup (.cons (.var 4) .nil)))) (.nm 5) (.vr 1) .nil)))) .nil)) (env := [.sh (enc t), .sh (.list [tS []]), .sh (D (sD (L0 t))), .un, .un, .un, .un, .un]) PyData.str (nmL t)
    (fun done env => ∃ (s4 : Sl) (ss : List (List Str)), env = [.sh (enc t), .sh (.list ((([] : List Str) :: ss).map tS)), .sh (D (sD (L0 t))), .un, s4, .un, .un, .un] ∧ (∀ s ∈ ss, s ≠ []) ∧ (∀ s ∈ ss, s.Sublist done) ∧ ss.length + 1 = 2 ^ done.length ∧ ∀ s : List Str, s ≠ [] → s.Sublist done → s ∈ ss) ⟨.un, [], rfl, fun s hs => (by cases hs), fun s hs => (by cases hs), rfl, fun s h1 h2 => absurd (List.sublist_nil.mp h2) h1⟩ (by
      rintro done x rest env e ⟨s4, ss, rfl, h1, h2, h3, hall⟩
      have hdl : done.length ≤ 11 := by
        rw [e, List.length_append, List.length_cons] at nml
        omega
      have h2p : 2 ^ done.length ≤ 2 ^ 11 := Nat.pow_le_pow_right (by decide) hdl
      refine ⟨_, _, rfl, ss_cons (s_asg (d := .list ((([] : List Str) :: (ss ++ [x] :: ss.map (· ++ [x]))).map tS)) ?_) ss_nil, .sh (.str x), ss ++ [x] :: ss.map (· ++ [x]), rfl, ?_, ?_, ?_, fun s g1 g2 => ?_⟩
      · have hcp : evE (Phi T m) [.sh (enc t), .sh (.list ((([] : List Str) :: ss).map tS)), .sh (D (sD (L0 t))), .un, .sh (.str x), .un, .un, .un] (.cpr (.bin .Add (.ex (.var 5)) (.ex (.tup (.cons (.var 4) .nil)))) (.nm 5) (.vr 1) .nil) = some (.list ((([] : List Str) :: ss).map fun s => tS (s ++ [x]))) := by
          refine ev_cpm tS _ (([] : List Str) :: ss) rfl fun s hs => ⟨_, rfl, ?_⟩
          have hsl : s.length ≤ 12 := by
            rcases List.mem_cons.mp hs with e' | hs
            · subst e'; exact Nat.zero_le _
            · have := (h2 s hs).length_le; omega
          refine ev_bin rfl (ev_o (ev_tup rfl)) (d := tS (s ++ [x])) ?_
          show (if _ then _ else _) = _
          rw [if_pos (by rw [List.length_map]; simp only [List.length_singleton]; unfold lim; omega), tS, List.map_append]
          rfl
        refine ev_bin rfl (ev_o hcp) ?_
        show (if _ then _ else _) = _
        rw [if_pos (by simp only [List.length_map, List.length_cons]; unfold lim; omega)]
        simp only [List.map_cons, List.map_append, List.map_map, List.nil_append, List.cons_append, Function.comp_def]
      · intro s hs
        rcases List.mem_append.mp hs with h | h
        · exact h1 s h
        · rcases List.mem_cons.mp h with h | h
          · subst h; simp
          · obtain ⟨r, _, rfl⟩ := List.mem_map.mp h
            simp
      · intro s hs
        rcases List.mem_append.mp hs with h | h
        · exact (h2 s h).trans (List.sublist_append_left _ _)
        · rcases List.mem_cons.mp h with h | h
          · subst h; exact List.sublist_append_right _ _
          · obtain ⟨r, hr, rfl⟩ := List.mem_map.mp h
            exact (h2 r hr).append (List.Sublist.refl _)
      · simp only [List.length_append, List.length_cons, List.length_map, List.length_nil, Nat.pow_succ]
        omega
      · rcases sub_snoc g2 with h | ⟨r, rfl, h⟩
        · exact List.mem_append_left _ (hall s g1 h)
        · refine List.mem_append_right _ ?_
          by_cases hr : r = []
          · subst hr; exact List.mem_cons_self
          · exact List.mem_cons_of_mem _ (List.mem_map.mpr ⟨r, hall r hr h, rfl⟩))
  have hpos : 1 ≤ (nmL t).length := by rw [List.length_map]; exact (lvs_pos t ht.wf).1
  have hssl : 1 ≤ ss.length := by
    have : 2 ^ 1 ≤ 2 ^ (nmL t).length := Nat.pow_le_pow_right (by decide) hpos
    omega
  obtain ⟨env2, he2, s4', s5, s7, best, rfl, hb0, hb1, hb2, hb3, hb4⟩ := loopF_of (tg := .nm 5) (body := fun env => exSs (Phi T m) (frOf T) env (.cons (.asg 7 (.call 33 (.cons (.var 0) (.cons (.var 5) .nil)))) (.cons (.asg 6 (.blt .max2 (.cons (.var 6) (.cons (.blt .min1 (.cons (.cpr (.bin .Mult (.ex (.idx (.ex (.var 7)) (.var 4))) (.ex (.idx (.ex (.var 2)) (.var 4)))) (.nm 4) (.vr 5) .nil) .nil)) .nil)))) .nil))) (env := [.sh (enc t), .sh (.list ((([] : List Str) :: ss).map tS)), .sh (D (sD (L0 t))), .un, s4, .un, .sh (.int 0), .un]) tS ss
    (fun done env => ∃ (s4 s5 s7 : Sl) (best : Int), env = [.sh (enc t), .sh (.list ((([] : List Str) :: ss).map tS)), .sh (D (sD (L0 t))), .un, s4, s5, .sh (.int best), s7] ∧ 0 ≤ best ∧ best ≤ 300000 ∧ (done ≠ [] → 1 ≤ best) ∧ (best = 0 ∨ ∃ s ∈ done, ∀ x ∈ s, best ≤ (dv s t x : Int) * pw t x) ∧ ∀ s ∈ done, ∀ v : Int, (∀ x ∈ s, v ≤ (dv s t x : Int) * pw t x) → v ≤ best) ⟨s4, .un, .un, 0, rfl, by omega, by omega, fun h => absurd rfl h, .inl rfl, fun s hs => by cases hs⟩ (by
      rintro done s rest env e ⟨s4, s5, s7, best, rfl, b0, b1, b2, b3, b4⟩
      have hs : s ∈ ss := by rw [e]; simp
      have hsne := hfirst s hs
      have hss := hsub s hs
      have hdiv := lawDiv1 h33 ht (n := m) (by omega) (NmD.t s)
      -- the products
      have key : ∀ x ∈ s, ∃ p : Int, (x, p) ∈ L0 t ∧ 1 ≤ p ∧ p ≤ 99 := fun x hx => by
        have hx' := hss.subset hx
        rw [← L0_ks] at hx'
        obtain ⟨q, hq, rfl⟩ := List.mem_map.mp hx'
        obtain ⟨l, hl, rfl⟩ := List.mem_map.mp (show q ∈ (lvs t).map fun l => (l.1, l.2.1) from hq)
        exact ⟨l.2.1, hq, hp l hl⟩
      have hpw : ∀ x ∈ s, (L0 t).lookup x = some (pw t x) ∧ 1 ≤ pw t x ∧ pw t x ≤ 99 := fun x hx => by
        obtain ⟨p, h1, h2, h3⟩ := key x hx
        have hl := lookup_mem (l := L0 t) (by show (ks (L0 t)).Nodup; rw [L0_ks]; exact ht.nd) h1
        have : pw t x = p := by show ((L0 t).lookup x).getD 0 = p; rw [hl]; rfl
        rw [this]
        exact ⟨hl, h2, h3⟩
      have hcp : evE (Phi T m) [.sh (enc t), .sh (.list ((([] : List Str) :: ss).map tS)), .sh (D (sD (L0 t))), .un, s4, .sh (tS s), .sh (.int best), .sh (D (dvD (dvs s t)))] (.cpr (.bin .Mult (.ex (.idx (.ex (.var 7)) (.var 4))) (.ex (.idx (.ex (.var 2)) (.var 4)))) (.nm 4) (.vr 5) .nil) = some (.list ((s.map fun x => (dv s t x : Int) * pw t x).map .int)) := by
        rw [List.map_map]
        refine ev_cpm PyData.str _ s rfl fun x hx => ⟨_, rfl, ?_⟩
        obtain ⟨hm1, hm2⟩ := dv_mem hss ht.nd hx
        have hle := dv_le ht hss hx
        have l1 : lookD (dct (dvD (dvs s t))) (.str x) = some (.int (dv s t x : Int)) := by
          rw [look_dct]
          exact lookup_mem (by rw [dvD_keys]; exact dvs_nd ht.nd) (List.mem_map.mpr ⟨_, hm1, rfl⟩)
        have l2 : lookD (dct (sD (L0 t))) (.str x) = some (.int (pw t x)) := by
          rw [look_dct]
          obtain ⟨p, h1, _⟩ := key x hx
          have hl := (hpw x hx).1
          have hl2 := lookup_mem (l := L0 t) (by show (ks (L0 t)).Nodup; rw [L0_ks]; exact ht.nd) h1
          rw [hl] at hl2
          rw [Option.some.inj hl2]
          exact lookup_mem (by rw [sD_keys, L0_ks]; exact ht.nd) (List.mem_map.mpr ⟨_, h1, rfl⟩)
        exact ev_bin (ev_o (ev_idx rfl rfl (idx_d l1))) (ev_o (ev_idx rfl rfl (idx_d l2))) (bd_mull (small_int (by omega) (by omega)))
      have hbd : ∀ y ∈ s.map (fun x => (dv s t x : Int) * pw t x), 1 ≤ y ∧ y ≤ 300000 := fun y hy => by
        obtain ⟨x, hx, rfl⟩ := List.mem_map.mp hy
        have h1 := (dv_mem hss ht.nd hx).2
        have h2 := dv_le ht hss hx
        obtain ⟨_, h3, h4⟩ := hpw x hx
        constructor
        · exact Int.mul_pos (by omega) (by omega)
        · calc (dv s t x : Int) * pw t x ≤ 2048 * 99 := Int.mul_le_mul (by omega) h4 (by omega) (by omega)
            _ ≤ 300000 := by decide
      obtain ⟨a, as, has⟩ : ∃ a as, s.map (fun x => (dv s t x : Int) * pw t x) = a :: as := by
        cases s with
        | nil => exact absurd rfl hsne
        | cons x xs => exact ⟨_, _, rfl⟩
      rw [has] at hcp hbd
      obtain ⟨m1, m2⟩ := minI_bd as a hbd
      have mle : ∀ x ∈ s, minI a as ≤ (dv s t x : Int) * pw t x := fun x hx => minI_le as a _ (by rw [← has]; exact List.mem_map.mpr ⟨x, hx, rfl⟩)
      have mge : ∀ v : Int, (∀ x ∈ s, v ≤ (dv s t x : Int) * pw t x) → v ≤ minI a as := fun v h => by
        have hm := minI_mem as a
        rw [← has] at hm
        obtain ⟨x, hx, e'⟩ := List.mem_map.mp hm
        rw [← e']
        exact h x hx
      have hmin : bltD .min1 [.list ((a :: as).map .int)] = some (.int (minI a as)) := by
        show minD ((a :: as).map PyData.int) = _
        simp only [minD, intsD_map]
      refine ⟨_, _, rfl, ss_cons (s_asg (d := D (dvD (dvs s t))) (ev_call rfl hdiv) (fr_call h33 rfl)) (ss_cons (s_asg (d := .int (if best < minI a as then minI a as else best)) (ev_blt (es_cons rfl (es_cons (ev_blt (es_cons hcp rfl) hmin) rfl)) rfl)) ss_nil), s4, .sh (tS s), .sh (D (dvD (dvs s t))), _, rfl, ?_, ?_, fun _ => ?_, ?_, fun s' hs' v hv => ?_⟩
      · split <;> omega
      · split <;> omega
      · split <;> omega
      · split
        · exact .inr ⟨s, by simp, mle⟩
        · rcases b3 with b3 | ⟨s', h1, h2⟩
          · exact .inl b3
          · exact .inr ⟨s', by simp [h1], h2⟩
      · rcases List.mem_append.mp hs' with h | h
        · have := b4 s' h v hv
          split <;> omega
        · rw [List.mem_singleton] at h
          subst h
          have := mge v hv
          split <;> omega)
  have hbest : 1 ≤ best := hb2 (fun e => by rw [e] at hssl; simp at hssl)
  refine ⟨best.toNat, by omega, by omega, run_ret rfl rfl (b := false) ?_, ?_⟩
  rotate_left
  · rw [show ((best.toNat : Nat) : Int) = best by omega]
    refine ⟨?_, fun s h1 h2 v hv => hb4 s (hone s h1 h2) v hv⟩
    rcases hb3 with h | ⟨s, h1, h2⟩
    · omega
    · exact ⟨s, hfirst s h1, hsub s h1, h2⟩
  rw [show ((best.toNat : Nat) : Int) = best by omega]
  refine ss_cons (s_own (d := .list [tS []]) rfl) (ss_cons (s_shr (d := .list [tS []]) rfl) (ss_cons (s_own (d := D (sD (L0 t))) (powers_ok (i := 0) (j := 3) h20 ht (by omega) rfl (Nat.lt_of_lt_of_eq (by decide : 3 < 8) rfl) (by decide))) (ss_cons (s_shr (d := D (sD (L0 t))) rfl) (ss_cons (s_for (ds := (nmL t).map .str) ?_ he) (ss_cons (s_asg (d := .int 0) rfl) (ss_cons (s_for (ds := ss.map tS) ?_ he2) (ss_rt (s_ret rfl))))))))
  · show some ((dct (sD (L0 t))).map (·.1)) = _
    simp only [dct, sD, L0, nmL, List.map_map, Function.comp_def]
  · have hcut : slcD (.list ((([] : List Str) :: ss).map tS)) (.int 1) .none = some (.list (ss.map tS)) := by
      rw [slc_l, cut_from (by decide) (by simp only [List.length_map, List.length_cons]; omega)]
      rfl
    show evI (Phi T m) [.sh (enc t), .sh (.list ((([] : List Str) :: ss).map tS)), .sh (D (sD (L0 t))), .un, s4, .un, .sh (.int 0), .un] (.val _) = _
    have hsl : evE (Phi T m) [.sh (enc t), .sh (.list ((([] : List Str) :: ss).map tS)), .sh (D (sD (L0 t))), .un, s4, .un, .sh (.int 0), .un] (.slc (.ex (.var 1)) (.cst (.int 1)) (.cst .none)) = some (.list (ss.map tS)) := ev_slc rfl rfl rfl hcut
    rw [evI, hsl]
    rfl
theorem cap_ok (h20 : T.lookup 20 = some F20) (h33 : T.lookup 33 = some F33) (h37 : T.lookup 37 = some F37) {t : Tr} (ht : TrOk t) (hp : ∀ l ∈ lvs t, 1 ≤ l.2.1 ∧ l.2.1 ≤ 99) {n : Nat} (hn : 13 ≤ n) :
    ∃ top : Nat, 1 ≤ top ∧ top ≤ 300000 ∧ Phi T n 37 [enc t] = some (.int (top : Int)) := by
  obtain ⟨top, h1, h2, h3, _⟩ := cap_ok2 h20 h33 h37 ht hp hn
  exact ⟨top, h1, h2, h3⟩
end
end Wr.P
end

section
set_option Elab.async false
set_option linter.all false
set_option maxRecDepth 100000
set_option maxHeartbeats 4000000
/-! WsL: the law's own simulation. -/
namespace Wr.P
open PySem
theorem eqvAll_str : ∀ a b : List Str, PyData.eqvAll (a.map .str) (b.map .str) = decide (a = b)
  | [], [] => by simp [PyData.eqvAll]
  | [], y :: b => by simp [PyData.eqvAll]
  | x :: a, [] => by simp [PyData.eqvAll]
  | x :: a, y :: b => by
    rw [List.map_cons, List.map_cons, PyData.eqvAll, eqvAll_str a b, eqv_s]
    by_cases h : x = y <;> by_cases h2 : a = b <;> simp [h, h2]
theorem depthAll_str : ∀ a : List Str, PyData.depthAll (a.map .str) = 0
  | [] => rfl
  | x :: a => by rw [List.map_cons, PyData.depthAll, depthAll_str a]; rfl
theorem eq_strs (a b : List Str) : eqD (.list (a.map .str)) (.list (b.map .str)) = some (decide (a = b)) := by
  cases b with
  | nil =>
    rw [List.map_nil, eqD_nil]
    cases a <;> rfl
  | cons y b =>
    have h : noD (.list ((y :: b).map .str)) = true := by rw [noD]; exact noDAll_str _
    have h2 : noD (.list (a.map .str)) = true := by rw [noD]; exact noDAll_str _
    have hd : ∀ c : List Str, (PyData.list (c.map .str)).depth = 1 := fun c => by rw [PyData.depth, depthAll_str]
    unfold eqD
    simp only [List.map_cons]
    rw [show PyData.list (PyData.str y :: b.map .str) = .list ((y :: b).map .str) from rfl, h, h2, hd, hd, PyData.eqv, eqvAll_str]
    rfl
theorem stp_ks {t : Tr} {load : Nat} {K : SL} : ks (stp t load K) = ks K ↔ (stp t load K).length = K.length := by
  constructor
  · intro h
    have := congrArg List.length h
    rwa [List.length_map, List.length_map] at this
  · intro h
    rw [(stp_sub t load K).eq_of_length h]
section
variable {T : Tab}
theorem keptL_ok {m : Nat} {t : Tr} (ht : TrOk t) {L K : SL} {load : Nat} (hK : K.Sublist L) (hL : (ks L).Sublist (nmL t)) (hs : ∀ p ∈ L, -1000000 < p.2 ∧ p.2 < 1000000) {rg : PyData} {s4 : Sl} :
    evE (Phi T m) [.sh rg, .sh (D (sD L)), .sh (.int (load : Int)), .sh (.list ((ks K).map .str)), s4, .sh (D (dvD (dvs (ks K) t))), .un] (.cpr (.var 6) (.nm 6) (.vr 3) (.cons (.cmp .LtE (.ex (.var 2)) (.ex (.bin .Mult (.ex (.idx (.ex (.var 1)) (.var 6))) (.ex (.idx (.ex (.var 5)) (.var 6)))))) .nil)) = some (.list ((ks (stp t load K)).map .str)) := by
  have hKs : (ks K).Sublist (nmL t) := (hK.map _).trans hL
  have ndL : (ks L).Nodup := ht.nd.sublist hL
  have hr : (ks (stp t load K)).map PyData.str = K.filterMap fun p => if okS t load (ks K) p then some (.str p.1) else none := by
    unfold stp ks
    rw [List.map_map]
    exact filter_fm2 _ _ K
  rw [hr]
  refine ev_cpr (fun p : Str × Int => .str p.1) _ K (by show some ((ks K).map PyData.str) = _; rw [List.map_map]; rfl) fun p hp => ⟨_, rfl, ?_⟩
  have hpL : p ∈ L := hK.subset hp
  obtain ⟨hm, h1⟩ := dv_mem hKs ht.nd (List.mem_map.mpr ⟨p, hp, rfl⟩ : p.1 ∈ ks K)
  have lc : lookD (dct (dvD (dvs (ks K) t))) (.str p.1) = some (.int (dv (ks K) t p.1 : Int)) := by
    rw [look_dct]
    exact lookup_mem (by rw [dvD_keys]; exact dvs_nd ht.nd) (List.mem_map.mpr ⟨_, hm, rfl⟩)
  have ls : lookD (dct (sD L)) (.str p.1) = some (.int p.2) := by
    rw [look_dct]
    exact lookup_mem (by rw [sD_keys]; exact ndL) (List.mem_map.mpr ⟨p, hpL, rfl⟩)
  have sp : small p.2 = true := small_int (by have := hs p hpL; omega) (by have := hs p hpL; omega)
  have tst : evE (Phi T m) [.sh rg, .sh (D (sD L)), .sh (.int (load : Int)), .sh (.list ((ks K).map .str)), s4, .sh (D (dvD (dvs (ks K) t))), .sh (.str p.1)] (.cmp .LtE (.ex (.var 2)) (.ex (.bin .Mult (.ex (.idx (.ex (.var 1)) (.var 6))) (.ex (.idx (.ex (.var 5)) (.var 6)))))) = some (.bool (okS t load (ks K) p)) :=
    ev_cmp rfl (ev_o (ev_bin (ev_o (ev_idx rfl rfl (idx_d ls))) (ev_o (ev_idx rfl rfl (idx_d lc))) (bd_mull sp))) rfl
  show (evAnd (Phi T m) [.sh rg, .sh (D (sD L)), .sh (.int (load : Int)), .sh (.list ((ks K).map .str)), s4, .sh (D (dvD (dvs (ks K) t))), .sh (.str p.1)] _ = _ ∧ _) ∨ (evAnd (Phi T m) [.sh rg, .sh (D (sD L)), .sh (.int (load : Int)), .sh (.list ((ks K).map .str)), s4, .sh (D (dvD (dvs (ks K) t))), .sh (.str p.1)] _ = _ ∧ _)
  rw [evAnd, tst]
  cases okS t load (ks K) p with
  | false => exact .inr ⟨rfl, rfl⟩
  | true => exact .inl ⟨rfl, _, rfl, rfl⟩
def bHol : Ss := (.cons (.asg 4 (.var 3)) (.cons (.asg 5 (.call 33 (.cons (.var 0) (.cons (.var 3) .nil)))) (.cons (.asg 3 (.cpr (.var 6) (.nm 6) (.vr 3) (.cons (.cmp .LtE (.ex (.var 2)) (.ex (.bin .Mult (.ex (.idx (.ex (.var 1)) (.var 6))) (.ex (.idx (.ex (.var 5)) (.var 6)))))) .nil))) (.cons (.shr 3) .nil))))
theorem hol_turn (h33 : T.lookup 33 = some F33) {t : Tr} (ht : TrOk t) {L K : SL} {load m : Nat} (hm : 12 ≤ m) (hK : K.Sublist L) (hL : (ks L).Sublist (nmL t)) (hs : ∀ p ∈ L, -1000000 < p.2 ∧ p.2 < 1000000) {s4 s5 : Sl} :
    exSs (Phi T m) (frOf T) [.sh (enc t), .sh (D (sD L)), .sh (.int (load : Int)), .sh (.list ((ks K).map .str)), s4, s5, .un] bHol = some (.nx [.sh (enc t), .sh (D (sD L)), .sh (.int (load : Int)), .sh (.list ((ks (stp t load K)).map .str)), .sh (.list ((ks K).map .str)), .sh (D (dvD (dvs (ks K) t))), .un]) :=
  ss_cons (s_asg (d := .list ((ks K).map .str)) rfl) (ss_cons (s_asg (d := D (dvD (dvs (ks K) t))) (ev_call rfl (lawDiv1 h33 ht hm (NmD.l (ks K)))) (fr_call h33 rfl)) (ss_cons (s_own (d := .list ((ks (stp t load K)).map .str)) (keptL_ok ht hK hL hs)) (ss_cons (s_shr (d := .list ((ks (stp t load K)).map .str)) rfl) ss_nil)))
theorem hol_test {m : Nat} {rg pw ld' : PyData} {a b : List Str} {s5 s6 : Sl} : evE (Phi T m) [.sh rg, .sh pw, .sh ld', .sh (.list (a.map .str)), .sh (.list (b.map .str)), s5, s6] (.cmp .NotEq (.ex (.var 3)) (.ex (.var 4))) = some (.bool (decide (a ≠ b))) := by
  refine ev_cmp rfl rfl ?_
  show (eqD _ _).map (!·) = _
  rw [eq_strs]
  by_cases h : a = b <;> simp [h]
theorem hol_loop (h33 : T.lookup 33 = some F33) {t : Tr} (ht : TrOk t) {L : SL} {load m : Nat} (hm : 12 ≤ m) (hL : (ks L).Sublist (nmL t)) (hs : ∀ p ∈ L, -1000000 < p.2 ∧ p.2 < 1000000) : ∀ (n N : Nat) (K : SL), K.length < n → n ≤ N → K.Sublist L → ∀ s5 : Sl,
    ∃ s4 s5', loopW (fun env => evE (Phi T m) env (.cmp .NotEq (.ex (.var 3)) (.ex (.var 4)))) (fun env => exSs (Phi T m) (frOf T) env bHol) N [.sh (enc t), .sh (D (sD L)), .sh (.int (load : Int)), .sh (.list ((ks (stp t load K)).map .str)), .sh (.list ((ks K).map .str)), s5, .un] = some (.nx [.sh (enc t), .sh (D (sD L)), .sh (.int (load : Int)), .sh (.list ((ks (stl t load n K)).map .str)), s4, s5', .un])
  | 0, N, K, h, _, _, _ => by omega
  | n + 1, N, K, h, hN, hK, s5 => by
    obtain ⟨N, rfl⟩ : ∃ M, N = M + 1 := ⟨N - 1, by omega⟩
    rw [stl]
    by_cases he : (stp t load K).length = K.length
    · rw [if_pos he]
      refine ⟨.sh (.list ((ks K).map .str)), s5, ?_⟩
      rw [loopW]
      simp only [hol_test]
      rw [decide_eq_false (show ¬ ks (stp t load K) ≠ ks K from fun z => z (stp_ks.mpr he))]
      simp only [stp_ks.mpr he]
    · rw [if_neg he]
      obtain ⟨s4', s5', hrec⟩ := hol_loop h33 ht hm hL hs n N (stp t load K) (by have := (stp_sub t load K).length_le; omega) (by omega) ((stp_sub t load K).trans hK) (.sh (D (dvD (dvs (ks (stp t load K)) t))))
      refine ⟨s4', s5', loopW_go ?_ (hol_turn h33 ht hm ((stp_sub t load K).trans hK) hL hs) hrec⟩
      show evE _ _ _ = _
      rw [hol_test, decide_eq_true (show ks (stp t load K) ≠ ks K from fun z => he (stp_ks.mp z))]
theorem holding_ok (h33 : T.lookup 33 = some F33) (h34 : T.lookup 34 = some F34) {t : Tr} (ht : TrOk t) {L : SL} {load n : Nat} (hn : 13 ≤ n) (hL : (ks L).Sublist (nmL t)) (hs : ∀ p ∈ L, -1000000 < p.2 ∧ p.2 < 1000000) :
    Phi T n 34 [enc t, D (sD L), .int (load : Int)] = some (D (dvD (dvs (ks (rem t load L)) t))) := by
  obtain ⟨m, rfl⟩ : ∃ m, n = m + 1 := ⟨n - 1, by omega⟩
  rw [Phi_succ h34]
  have hlen : L.length ≤ 12 := by
    have := hL.length_le
    rw [List.length_map, List.length_map] at this
    have := ht.len
    omega
  obtain ⟨s4, s5, hloop⟩ := hol_loop h33 ht (load := load) (m := m) (by omega) hL hs (L.length + 1) 999999 L (by omega) (by omega) (List.Sublist.refl L) (.sh (D (dvD (dvs (ks L) t))))
  have h1 : evE (Phi T m) [.sh (enc t), .sh (D (sD L)), .sh (.int (load : Int)), .sh (.list ((ks L).map .str)), .sh (.list [.none]), .un, .un] (.cmp .NotEq (.ex (.var 3)) (.ex (.var 4))) = some (.bool true) := by
    refine ev_cmp rfl rfl ?_
    show (eqD (.list ((ks L).map .str)) (.list [.none])).map (!·) = _
    have h2 : noD (.list ((ks L).map .str)) = true := by rw [noD]; exact noDAll_str _
    have e : eqD (.list ((ks L).map .str)) (.list [.none]) = some false := by
      have hq : PyData.eqv (.list ((ks L).map .str)) (.list [.none]) = false := by
        rw [PyData.eqv]
        cases ks L with
        | nil => rfl
        | cons x r => simp [PyData.eqvAll, PyData.eqv]
      simp only [eqD, hq, PyData.depth, depthAll_str, PyData.depthAll, noD, noDAll, noDAll_str]
      rfl
    rw [e]
    rfl
  refine run_ret rfl rfl (b := Wr.frs (frOf T) (.call 33 (.cons (.var 0) (.cons (.var 3) .nil)))) (ss_cons (s_par (b1 := true) (b2 := true) (d1 := .list ((ks L).map .str)) (d2 := .list [.none]) ?_ rfl rfl rfl) (ss_cons (s_shr (d := .list ((ks L).map .str)) rfl) (ss_cons (s_shr (d := .list [.none]) rfl) (ss_cons (s_whl (loopW_go h1 (hol_turn h33 ht (by omega) (List.Sublist.refl L) hL hs) hloop)) (ss_rt (s_ret (ev_call rfl (lawDiv1 h33 ht (by omega) (NmD.l _)))))))))
  show some (PyData.list ((dct (sD L)).map (·.1))) = _
  simp only [dct, sD, ks, List.map_map, Function.comp_def]
def lwD (t : Tr) (s : Stp) : PyData := .tuple [D (sD s.1), D (dvD (dvs (ks s.2.2) t)), D (sD (wn t s.2.2))]
structure LawTabs (T : Tab) : Prop where
  f20 : T.lookup 20 = some F20
  f33 : T.lookup 33 = some F33
  f34 : T.lookup 34 = some F34
  f35 : T.lookup 35 = some F35
  f36 : T.lookup 36 = some F36
theorem steps_ok (F : LawTabs T) {t : Tr} (ht : TrOk t) (hv : TrV t) {ls : List Nat} (hlen : ls.length ≤ 1000) {sq : PyData} (hsq : SqD sq ls) {n : Nat} (hn : 15 ≤ n) :
    Phi T n 35 [enc t, sq] = some (.list ((runS t ls).1.map (lwD t))) := by
  obtain ⟨m, rfl⟩ : ∃ m, n = m + 1 := ⟨n - 1, by omega⟩
  rw [Phi_succ F.f35]
  obtain ⟨env', he, s3, s6, s7, s8, rfl⟩ := loopF_of (tg := .nm 6) (body := fun env => exSs (Phi T m) (frOf T) env (.cons (.ife (.cmp .NotEq (.ex (.var 2)) (.ex .dc0)) (.cons (.asg 7 (.call 34 (.cons (.var 0) (.cons (.var 2) (.cons (.var 6) .nil))))) (.cons (.asg 8 (.blt .dict1 (.cons (.cpr (.tup (.cons (.var 9) (.cons (.bin .Sub (.ex (.idx (.ex (.var 2)) (.var 9))) (.ex (.idx (.ex (.var 4)) (.var 9)))) .nil))) (.nm 9) (.vr 7) .nil) .nil))) (.cons (.shr 8) (.cons (.app 5 (.tup (.cons (.var 2) (.cons (.var 7) (.cons (.var 8) .nil))))) (.cons (.asg 2 (.var 8)) .nil))))) .nil) .nil)) (env := [.sh (enc t), .sh sq, .sh (D (sD (L0 t))), .un, .sh (D (sD (wrL t))), .ow (.list []), .un, .un, .un, .un]) (fun l : Nat => .int (l : Int)) ls
    (fun done env => ∃ s3 s6 s7 s8 : Sl, env = [.sh (enc t), .sh sq, .sh (D (sD (runS t done).2)), s3, .sh (D (sD (wrL t))), .ow (.list ((runS t done).1.map (lwD t))), s6, s7, s8, .un]) ⟨.un, .un, .un, .un, rfl⟩ (by
      rintro done l rest env e ⟨s3, s6, s7, s8, rfl⟩
      have hd : done.length ≤ 1000 := by rw [e, List.length_append] at hlen; omega
      have hb := run_bd ht.nd hv done
      have hsb := run_sub t done
      have hln := run_len t done
      rw [runS_snoc]
      unfold adv
      generalize runS t done = r at *
      have tst := ne_dict (Ph := Phi T m) (env := [.sh (enc t), .sh sq, .sh (D (sD r.2)), s3, .sh (D (sD (wrL t))), .ow (.list (r.1.map (lwD t))), .sh (.int (l : Int)), s7, s8, .un]) (i := 2) (L := sD r.2) rfl
      by_cases h0 : r.2 = []
      · rw [if_pos h0]
        exact ⟨_, _, rfl, ss_cons (s_iff (ev_f tst (fun z => sD_nil.mp z h0)) ss_nil) ss_nil, _, _, _, _, rfl⟩
      · rw [if_neg h0]
        have hhold := holding_ok F.f33 F.f34 ht (load := l) (n := m) (by omega) hsb (fun p hp => by have := hb p hp; omega)
        have hsub : (rem t l r.2).Sublist r.2 := rem_sub t l r.2
        have hks : (ks (rem t l r.2)).Sublist (nmL t) := (hsub.map _).trans hsb
        have ndL : (ks r.2).Nodup := ht.nd.sublist hsb
        generalize rem t l r.2 = R at *
        have hafter : evE (Phi T m) [.sh (enc t), .sh sq, .sh (D (sD r.2)), s3, .sh (D (sD (wrL t))), .ow (.list (r.1.map (lwD t))), .sh (.int (l : Int)), .sh (D (dvD (dvs (ks R) t))), s8, .un] (.blt .dict1 (.cons (.cpr (.tup (.cons (.var 9) (.cons (.bin .Sub (.ex (.idx (.ex (.var 2)) (.var 9))) (.ex (.idx (.ex (.var 4)) (.var 9)))) .nil))) (.nm 9) (.vr 7) .nil) .nil)) = some (D (sD (wn t R))) := by
          have hcp : evE (Phi T m) [.sh (enc t), .sh sq, .sh (D (sD r.2)), s3, .sh (D (sD (wrL t))), .ow (.list (r.1.map (lwD t))), .sh (.int (l : Int)), .sh (D (dvD (dvs (ks R) t))), s8, .un] (.cpr (.tup (.cons (.var 9) (.cons (.bin .Sub (.ex (.idx (.ex (.var 2)) (.var 9))) (.ex (.idx (.ex (.var 4)) (.var 9)))) .nil))) (.nm 9) (.vr 7) .nil) = some (.list (R.map fun p => itm (p.1, .int (p.2 - wr t p.1)))) := by
            refine ev_cpm (fun p : Str × Int => .str p.1) _ R ?_ fun p hp => ⟨_, rfl, ?_⟩
            · show some ((dct (dvD (dvs (ks R) t))).map (·.1)) = _
              have e1 : (dct (dvD (dvs (ks R) t))).map (·.1) = ((dvs (ks R) t).map (·.1)).map PyData.str := by simp only [dct, dvD, List.map_map, Function.comp_def]
              rw [e1, dvs_ks hks ht.nd, ks, List.map_map]
              rfl
            · have lp : lookD (dct (sD r.2)) (.str p.1) = some (.int p.2) := by
                rw [look_dct]
                exact lookup_mem (by rw [sD_keys]; exact ndL) (List.mem_map.mpr ⟨p, hsub.subset hp, rfl⟩)
              have lw : lookD (dct (sD (wrL t))) (.str p.1) = some (.int (wr t p.1)) := by
                rw [look_dct]
                exact lookup_mem (by rw [sD_keys]; show ((wrL t).map (·.1)).Nodup; rw [wrL_ks]; exact ht.nd) (List.mem_map.mpr ⟨_, wr_mem ht.nd (hks.subset (List.mem_map.mpr ⟨p, hp, rfl⟩)), rfl⟩)
              exact ev_tup (es_cons rfl (es_cons (ev_bin (ev_o (ev_idx rfl rfl (idx_d lp))) (ev_o (ev_idx rfl rfl (idx_d lw))) bd_sub) rfl))
          refine ev_blt (es_cons hcp rfl) ?_
          have e : R.map (fun p => itm (p.1, .int (p.2 - wr t p.1))) = (sD (wn t R)).map itm := by simp only [sD, wn, List.map_map, Function.comp_def]
          rw [e]
          exact dict_of (by rw [sD_keys, wn_ks]; exact ht.nd.sublist hks)
        refine ⟨_, _, rfl, ss_cons (s_ift (ev_t tst (sD_nil.mpr h0)) (ss_cons (s_asg (d := D (dvD (dvs (ks R) t))) (ev_call rfl hhold) (fr_call F.f34 rfl)) (ss_cons (s_own (d := D (sD (wn t R))) hafter) (ss_cons (s_shr (d := D (sD (wn t R))) rfl) (ss_cons (s_app (d := lwD t (r.2, l, R)) (ev_tup rfl) rfl (by rw [List.length_map]; unfold lim; omega)) (ss_cons (s_asg (d := D (sD (wn t R))) rfl) ss_nil)))))) ss_nil, s3, .sh (.int (l : Int)), .sh (D (dvD (dvs (ks R) t))), .sh (D (sD (wn t R))), ?_⟩
        rw [List.map_append]
        rfl)
  have hw : evE (Phi T m) [.sh (enc t), .sh sq, .sh (D (sD (L0 t))), .un, .un, .un, .un, .un, .un, .un] (.blt .dict1 (.cons (.cpr (.tup (.cons (.idx (.ex (.var 3)) (.cst (.int 0))) (.cons (.idx (.ex (.var 3)) (.cst (.int 2))) .nil))) (.nm 3) (.val (.call 20 (.cons (.var 0) .nil))) .nil) .nil)) = some (D (sD (wrL t))) := by
    have hcp : evE (Phi T m) [.sh (enc t), .sh sq, .sh (D (sD (L0 t))), .un, .un, .un, .un, .un, .un, .un] (.cpr (.tup (.cons (.idx (.ex (.var 3)) (.cst (.int 0))) (.cons (.idx (.ex (.var 3)) (.cst (.int 2))) .nil))) (.nm 3) (.val (.call 20 (.cons (.var 0) .nil))) .nil) = some (.list ((lvs t).map fun l => itm (l.1, .int l.2.2))) := by
      refine ev_cpm ld _ (lvs t) ?_ fun l hl => ⟨_, rfl, ev_tup (es_cons (ev_idx rfl rfl rfl) (es_cons (ev_idx rfl rfl rfl) rfl))⟩
      rw [evI, ev_call (ds := [enc t]) rfl (lawStr1 F.f20 ht (by omega))]
      rfl
    refine ev_blt (es_cons hcp rfl) ?_
    have e : (lvs t).map (fun l => itm (l.1, .int l.2.2)) = (sD (wrL t)).map itm := by simp only [sD, wrL, List.map_map, Function.comp_def]
    rw [e]
    exact dict_of (by rw [sD_keys]; show ((wrL t).map (·.1)).Nodup; rw [wrL_ks]; exact ht.nd)
  refine run_ret rfl rfl (ss_cons (s_own (d := D (sD (L0 t))) (powers_ok (i := 0) (j := 3) F.f20 ht (by omega) rfl (Nat.lt_of_lt_of_eq (by decide : 3 < 10) rfl) (by decide))) (ss_cons (s_shr (d := D (sD (L0 t))) rfl) (ss_cons (s_par (b1 := true) (b2 := true) (d1 := D (sD (wrL t))) (d2 := .list []) hw rfl rfl rfl) (ss_cons (s_shr (d := D (sD (wrL t))) rfl) (ss_cons (s_for (ds := ls.map fun l : Nat => .int (l : Int)) ?_ he) (ss_cons (s_shr (d := .list ((runS t ls).1.map (lwD t))) rfl) (ss_rt (s_ret rfl))))))))
  cases hsq
  rfl
theorem left_ok (F : LawTabs T) {t : Tr} (ht : TrOk t) (hv : TrV t) {ls : List Nat} (hlen : ls.length ≤ 1000) {sq : PyData} (hsq : SqD sq ls) {n : Nat} (hn : 16 ≤ n) :
    Phi T n 36 [enc t, sq] = some (D (sD (runS t ls).2)) := by
  obtain ⟨m, rfl⟩ : ∃ m, n = m + 1 := ⟨n - 1, by omega⟩
  rw [Phi_succ F.f36]
  have hsim := steps_ok F ht hv hlen hsq (n := m) (by omega)
  have tst : evE (Phi T m) [.sh (enc t), .sh sq, .sh (.list ((runS t ls).1.map (lwD t))), .un] (.cmp .NotEq (.ex (.var 2)) (.ex (.lst .nil))) = some (.bool (decide ((runS t ls).1 ≠ []))) := by
    refine ev_cmp rfl rfl ?_
    show (eqD (.list _) (.list [])).map (!·) = _
    rw [eqD_nil]
    cases (runS t ls).1 <;> rfl
  refine run_ret rfl rfl (b := false) (ss_cons (s_asg (d := .list ((runS t ls).1.map (lwD t))) (ev_call rfl hsim) (fr_call F.f35 rfl)) (ss_rt (s_ret ?_)))
  by_cases h : (runS t ls).1 = []
  · refine ev_iff (ev_f tst (fun z => z h)) ?_
    rw [run_first t ls h]
    exact powers_ok (i := 0) (j := 3) F.f20 ht (by omega) rfl (Nat.lt_of_lt_of_eq (by decide : 3 < 4) rfl) (by decide)
  · obtain ⟨s, hs, e⟩ := run_last t ls h
    refine ev_ift (ev_t tst h) ?_
    rw [← e]
    refine ev_idx (ev_o (ev_idx rfl rfl (d := lwD t s) ?_)) rfl rfl
    refine at_last ?_
    rw [List.getLast?_map, hs]
    rfl
end
end Wr.P
end

section
set_option Elab.async false
set_option linter.all false
set_option maxRecDepth 100000
set_option maxHeartbeats 4000000
/-! WsM: the law's loads; logs. -/
namespace Wr.P
open PySem
theorem sortD_all {α : Type} (lt : α → α → Bool) (f : α → PyData) (h : ∀ a b, PySem.W.dataLt (f a) (f b) = lt a b) : ∀ l : List α, sortD (l.map f) = (srt lt l).map f
  | [] => rfl
  | x :: r => by
    rw [List.map_cons, sortD, srt, sortD_all lt f h r]
    exact insD_map lt f x _ fun y _ => h y x
def ltN (a b : Nat) : Bool := decide (a < b)
theorem ltN_int (a b : Nat) : PySem.W.dataLt (.int (a : Int)) (.int (b : Int)) = ltN a b := by
  rw [PySem.W.dataLt_int]
  unfold ltN
  rw [decide_eq_decide]
  omega
abbrev iD (l : Nat) : PyData := .int (l : Int)
theorem sorted_nats (ls : List Nat) : sortedD (ls.map iD) = some (.list ((srt ltN ls).map iD)) := by
  have h1 : ∀ x ∈ ls.map iD, ∀ y ∈ ls.map iD, PySem.W.alike x y = true := fun x hx y hy => by
    obtain ⟨a, _, rfl⟩ := List.mem_map.mp hx
    obtain ⟨b, _, rfl⟩ := List.mem_map.mp hy
    rfl
  have h2 : sortableD (ls.map iD) = true := by
    unfold sortableD
    rw [Bool.or_eq_true]
    refine .inr (List.all_eq_true.mpr fun x hx => ?_)
    obtain ⟨a, _, rfl⟩ := List.mem_map.mp hx
    rfl
  have h3 : ∀ x ∈ ls.map iD, noD x = true ∧ x.depth ≤ 40 := fun x hx => by
    obtain ⟨a, _, rfl⟩ := List.mem_map.mp hx
    exact ⟨rfl, Nat.zero_le _⟩
  rw [sorted_of h1 h2 h3, sortD_all ltN iD ltN_int]
theorem srtN_sorted : ∀ ls : List Nat, (srt ltN ls).Pairwise (· ≤ ·)
  | [] => .nil
  | x :: r => by
    rw [srt]
    have ih := srtN_sorted r
    generalize srt ltN r = s at ih
    induction s with
    | nil => exact List.pairwise_singleton ..
    | cons y s ihs =>
      rw [List.pairwise_cons] at ih
      rw [ins1]
      by_cases h : y < x
      · rw [if_pos (by unfold ltN; simpa using h), List.pairwise_cons]
        refine ⟨fun z hz => ?_, ihs ih.2⟩
        rcases List.mem_cons.mp ((ins1_perm ltN x s).mem_iff.mp hz) with e | hz
        · omega
        · exact ih.1 z hz
      · rw [if_neg (by unfold ltN; simpa using h), List.pairwise_cons, List.pairwise_cons]
        refine ⟨fun z hz => ?_, ih⟩
        rcases List.mem_cons.mp hz with e | hz
        · omega
        · have := ih.1 z hz
          omega
section
variable {T : Tab} {n : Nat}
/-- ascending loads -/
theorem loads_ok (h38 : T.lookup 38 = some F38) {ds : List Int} (hl : 22 ≤ ds.length) (hd : ∀ d ∈ ds, 0 ≤ d) {m top : Nat} (hm : m ≤ 12) (ht : 1 ≤ top) (ht2 : top ≤ 400000) :
    ∃ ls : List Nat, ls.Pairwise (· ≤ ·) ∧ ls.length ≤ m ∧ (∀ l ∈ ls, 1 ≤ l ∧ l ≤ 600) ∧ Phi T (n + 1) 38 [L ds, .int (m : Int), .int (top : Int)] = some (.tuple (ls.map iD)) := by
  rw [Phi_succ h38]
  obtain ⟨d0, hd0, e0⟩ := atD_ints (is := ds) (i := 0) (by omega) (by omega)
  obtain ⟨d1, hd1, e1⟩ := atD_ints (is := ds) (i := 1) (by omega) (by omega)
  have d0p := hd d0 hd0
  have d1p := hd d1 hd1
  obtain ⟨w, hw, ew⟩ := pick4 (P := fun c => 1 ≤ c) (a := (top : Int)) (b := 1 + (top : Int) / 2) (c := 1 + 3 * (top : Int) / 4) (d := 1 + (top : Int) / 3) (i := d0 % 4) (by omega) (by omega) (by omega) (by omega) (by omega) (by omega)
  have mp : (0 : Int) < (m : Int) + 1 := by omega
  generalize hc : d1 % ((m : Int) + 1) = c
  have hc0 : 0 ≤ c := by rw [← hc]; exact Int.emod_nonneg _ (by omega)
  have hc1 : c ≤ m := by have := Int.emod_lt_of_pos d1 mp; omega
  have hcut : slcD (.list (ds.map .int)) (.int 2) (.int (2 + c)) = some (.list (((ds.map .int).drop 2).take c.toNat)) := by
    rw [slc_l, cut_mid (by omega) (by rw [List.length_map]; omega) (by omega) (by rw [List.length_map]; omega), show (2 + c).toNat - (2 : Int).toNat = c.toNat by omega]
    rfl
  generalize hits : ((ds.map PyData.int).drop 2).take c.toNat = its at hcut
  have hil : its.length = c.toNat := by
    rw [← hits, List.length_take, List.length_drop, List.length_map]; omega
  have hitem : ∀ x ∈ its, ∃ d : Int, x = .int d ∧ 0 ≤ d := fun x hx => by
    rw [← hits] at hx
    obtain ⟨d, h1, h2⟩ := List.mem_map.mp (List.mem_of_mem_drop (List.mem_of_mem_take hx))
    exact ⟨d, h2.symm, hd d h1⟩
  obtain ⟨env', he, ls, s5, rfl, hls, hok⟩ := loopF_all (tg := .nm 5) (ds := its) (env := [.sh (L ds), .sh (.int (m : Int)), .sh (.int (top : Int)), .sh (.int w), .ow (.list []), .un])
    (body := fun env => exSs (Phi T n) (frOf T) env (.cons (.app 4 (.ife (.or (.cons (.cmp .Eq (.bo 4) (.ex (.lst .nil))) (.cons (.cmp .Gt (.ex (.bin .Mod (.ex (.bin .FloorDiv (.ex (.var 5)) (.ex (.cst (.int 7))))) (.ex (.cst (.int 4))))) (.ex (.cst (.int 0)))) .nil))) (.blt .min2 (.cons (.cst (.int 600)) (.cons (.bin .Add (.ex (.cst (.int 1))) (.ex (.bin .Mod (.ex (.var 5)) (.ex (.var 3))))) .nil))) (.idx (.bo 4) (.cst (.int (-1)))))) .nil))
    (fun done env => ∃ (ls : List Nat) (s5 : Sl), env = [.sh (L ds), .sh (.int (m : Int)), .sh (.int (top : Int)), .sh (.int w), .ow (.list (ls.map iD)), s5] ∧ ls.length = done.length ∧ ∀ l ∈ ls, 1 ≤ l ∧ l ≤ 600)
    ⟨[], .un, rfl, rfl, fun l h => by cases h⟩ (by
      rintro done d rest env e ⟨ls, s5, rfl, hls, hok⟩
      obtain ⟨di, rfl, hdi⟩ := hitem d (by rw [← e]; simp)
      have hle : done.length < c.toNat := by
        rw [← hil, ← e]
        simp only [List.length_append, List.length_cons]
        omega
      have ht1 : evE (Phi T n) [.sh (L ds), .sh (.int (m : Int)), .sh (.int (top : Int)), .sh (.int w), .ow (.list (ls.map iD)), .sh (.int di)] (.cmp .Eq (.bo 4) (.ex (.lst .nil))) = some (.bool ls.isEmpty) := by
        refine ev_cmp rfl rfl ?_
        show eqD (.list _) (.list []) = _
        rw [eqD_nil]
        cases ls <;> rfl
      have ht2 : evE (Phi T n) [.sh (L ds), .sh (.int (m : Int)), .sh (.int (top : Int)), .sh (.int w), .ow (.list (ls.map iD)), .sh (.int di)] (.cmp .Gt (.ex (.bin .Mod (.ex (.bin .FloorDiv (.ex (.var 5)) (.ex (.cst (.int 7))))) (.ex (.cst (.int 4))))) (.ex (.cst (.int 0)))) = some (.bool (decide (0 < di / 7 % 4))) :=
        ev_cmp (ev_o (ev_bin (ev_o (ev_bin rfl rfl (bd_div (by decide) (by decide)))) rfl (bd_mod (by decide)))) rfl rfl
      have hm2 : evE (Phi T n) [.sh (L ds), .sh (.int (m : Int)), .sh (.int (top : Int)), .sh (.int w), .ow (.list (ls.map iD)), .sh (.int di)] (.blt .min2 (.cons (.cst (.int 600)) (.cons (.bin .Add (.ex (.cst (.int 1))) (.ex (.bin .Mod (.ex (.var 5)) (.ex (.var 3))))) .nil))) = some (.int (if 1 + di % w < 600 then 1 + di % w else 600)) :=
        ev_blt (es_cons rfl (es_cons (ev_bin rfl (ev_o (ev_bin rfl rfl (bd_mod (by omega)))) bd_add) rfl)) rfl
      have hor : ∃ v : Bool, evE (Phi T n) [.sh (L ds), .sh (.int (m : Int)), .sh (.int (top : Int)), .sh (.int w), .ow (.list (ls.map iD)), .sh (.int di)] (.or (.cons (.cmp .Eq (.bo 4) (.ex (.lst .nil))) (.cons (.cmp .Gt (.ex (.bin .Mod (.ex (.bin .FloorDiv (.ex (.var 5)) (.ex (.cst (.int 7))))) (.ex (.cst (.int 4))))) (.ex (.cst (.int 0)))) .nil))) = some (.bool v) ∧ (v = false → ls ≠ []) := by
        rw [evE, evOr, ht1]
        cases h : ls.isEmpty with
        | true => exact ⟨true, rfl, fun z => by cases z⟩
        | false =>
          have hne : ls ≠ [] := fun z => by rw [z] at h; cases h
          refine ⟨decide (0 < di / 7 % 4), ?_, fun _ => hne⟩
          show evOr _ _ _ = _
          rw [evOr, ht2]
          cases decide (0 < di / 7 % 4) <;> rfl
      obtain ⟨v, hv, hv2⟩ := hor
      have hw0 := Int.emod_nonneg di (show w ≠ 0 by omega)
      have step : ∃ l : Nat, (1 ≤ l ∧ l ≤ 600) ∧ evE (Phi T n) [.sh (L ds), .sh (.int (m : Int)), .sh (.int (top : Int)), .sh (.int w), .ow (.list (ls.map iD)), .sh (.int di)] (.ife (.or (.cons (.cmp .Eq (.bo 4) (.ex (.lst .nil))) (.cons (.cmp .Gt (.ex (.bin .Mod (.ex (.bin .FloorDiv (.ex (.var 5)) (.ex (.cst (.int 7))))) (.ex (.cst (.int 4))))) (.ex (.cst (.int 0)))) .nil))) (.blt .min2 (.cons (.cst (.int 600)) (.cons (.bin .Add (.ex (.cst (.int 1))) (.ex (.bin .Mod (.ex (.var 5)) (.ex (.var 3))))) .nil))) (.idx (.bo 4) (.cst (.int (-1))))) = some (iD l) := by
        cases v with
        | true =>
          refine ⟨(if 1 + di % w < 600 then 1 + di % w else 600).toNat, by split <;> omega, ev_ift hv ?_⟩
          rw [hm2, iD]
          congr 2
          split <;> omega
        | false =>
          have hne := hv2 rfl
          obtain ⟨l, hl'⟩ : ∃ l, ls.getLast? = some l := ⟨_, List.getLast?_eq_some_getLast hne⟩
          refine ⟨l, hok l (List.mem_of_getLast? hl'), ev_iff hv (ev_idx rfl rfl (d := iD l) ?_)⟩
          show atD (ls.map iD) (-1) = _
          refine at_last ?_
          rw [List.getLast?_map, hl']
          rfl
      obtain ⟨l, hl1, hl2⟩ := step
      refine ⟨_, _, rfl, ss_cons (s_app hl2 rfl (by rw [List.length_map]; unfold lim; omega)) ss_nil, ls ++ [l], .sh (.int di), ?_, by simp [hls], fun k hk => ?_⟩
      · rw [List.map_append]
        rfl
      · rcases List.mem_append.mp hk with h | h
        · exact hok k h
        · rw [List.mem_singleton] at h
          subst h
          exact hl1)
  refine ⟨srt ltN ls, srtN_sorted ls, by rw [(srt_perm ltN ls).length_eq]; omega, fun l h => hok l ((srt_perm ltN ls).mem_iff.mp h), run_ret rfl rfl (b := false) ?_⟩
  have hwd : evE (Phi T n) [.sh (L ds), .sh (.int (m : Int)), .sh (.int (top : Int)), .un, .un, .un] (.idx (.ex (.lst (.cons (.var 2) (.cons (.bin .Add (.ex (.cst (.int 1))) (.ex (.bin .FloorDiv (.ex (.var 2)) (.ex (.cst (.int 2)))))) (.cons (.bin .Add (.ex (.cst (.int 1))) (.ex (.bin .FloorDiv (.ex (.bin .Mult (.ex (.cst (.int 3))) (.ex (.var 2)))) (.ex (.cst (.int 4)))))) (.cons (.bin .Add (.ex (.cst (.int 1))) (.ex (.bin .FloorDiv (.ex (.var 2)) (.ex (.cst (.int 3)))))) .nil)))))) (.bin .Mod (.ex (.idx (.ex (.var 0)) (.cst (.int 0)))) (.ex (.cst (.int 4))))) = some (.int w) := by
    refine ev_idx (ev_o (ev_lst (es_cons rfl (es_cons (d := .int (1 + (top : Int) / 2)) ?_ (es_cons (d := .int (1 + 3 * (top : Int) / 4)) ?_ (es_cons (d := .int (1 + (top : Int) / 3)) ?_ rfl)))))) (ev_bin (ev_o (ev_idx rfl rfl e0)) rfl (bd_mod (by decide))) ew
    · exact ev_bin rfl (ev_o (ev_bin rfl rfl (bd_div (by decide) (by decide)))) bd_add
    · exact ev_bin rfl (ev_o (ev_bin (ev_o (ev_bin rfl rfl (bd_mull (by decide)))) rfl (bd_div (by decide) (by decide)))) bd_add
    · exact ev_bin rfl (ev_o (ev_bin rfl rfl (bd_div (by decide) (by decide)))) bd_add
  refine ss_cons (s_asg (d := .int w) hwd) (ss_cons (s_own (d := .list []) rfl) (ss_cons (s_for (ds := its) ?_ he) (ss_cons (s_shr (d := .list (ls.map iD)) rfl) (ss_rt (s_ret (ev_blt (es_cons (ev_blt (es_cons rfl rfl) (sorted_nats ls)) rfl) rfl))))))
  have hsl : evE (Phi T n) [.sh (L ds), .sh (.int (m : Int)), .sh (.int (top : Int)), .sh (.int w), .ow (.list []), .un] (.slc (.ex (.var 0)) (.cst (.int 2)) (.bin .Add (.ex (.cst (.int 2))) (.ex (.bin .Mod (.ex (.idx (.ex (.var 0)) (.cst (.int 1)))) (.ex (.bin .Add (.ex (.var 1)) (.ex (.cst (.int 1))))))))) = some (.list its) := by
    refine ev_slc rfl rfl (ev_bin rfl (ev_o (ev_eq (ev_bin (ev_o (ev_idx rfl rfl e1)) (ev_o (ev_bin rfl rfl bd_add)) (bd_mod mp)) (congrArg PyData.int hc))) bd_add) hcut
  show evI (Phi T n) [.sh (L ds), .sh (.int (m : Int)), .sh (.int (top : Int)), .sh (.int w), .ow (.list []), .un] (.val _) = _
  rw [evI, hsl]
  rfl
end
end Wr.P
end

section
set_option Elab.async false
set_option linter.all false
set_option maxRecDepth 100000
set_option maxHeartbeats 4000000
/-! WsQ: what is stronger holds more. -/
namespace Wr.P
open PySem
mutual
theorem dvs_mono {S S' : List Str} (h : ∀ x ∈ S, x ∈ S') : ∀ t : Tr, ∀ p ∈ dvs S t, ∃ q ∈ dvs S' t, q.1 = p.1 ∧ p.2 ≤ q.2
  | .leaf x p w => by
    rw [dvs, dvs]
    intro q hq
    by_cases hx : x ∈ S
    · rw [if_pos hx, List.mem_singleton] at hq
      subst hq
      exact ⟨(x, 1), by rw [if_pos (h x hx)]; simp, rfl, Nat.le_refl _⟩
    · rw [if_neg hx] at hq
      cases hq
  | .node cs => by
    rw [dvs, dvs]
    intro q hq
    obtain ⟨r, hr, rfl⟩ := List.mem_map.mp hq
    obtain ⟨r', hr', e1, e2⟩ := dvsL_mono h cs r hr
    exact ⟨(r'.1, cnt S' cs * r'.2), List.mem_map.mpr ⟨r', hr', rfl⟩, e1, Nat.mul_le_mul (cnt_mono h cs) e2⟩
theorem dvsL_mono {S S' : List Str} (h : ∀ x ∈ S, x ∈ S') : ∀ cs : List Tr, ∀ p ∈ dvsL S cs, ∃ q ∈ dvsL S' cs, q.1 = p.1 ∧ p.2 ≤ q.2
  | [] => fun p hp => by cases hp
  | c :: cs => by
    rw [dvsL, dvsL]
    intro p hp
    rcases List.mem_append.mp hp with hp | hp
    · obtain ⟨q, hq, r⟩ := dvs_mono h c p hp
      exact ⟨q, List.mem_append_left _ hq, r⟩
    · obtain ⟨q, hq, r⟩ := dvsL_mono h cs p hp
      exact ⟨q, List.mem_append_right _ hq, r⟩
theorem cnt_mono {S S' : List Str} (h : ∀ x ∈ S, x ∈ S') : ∀ cs : List Tr, cnt S cs ≤ cnt S' cs
  | [] => Nat.le_refl _
  | c :: cs => by
    rw [cnt, cnt]
    have ih := cnt_mono h cs
    have hd := dvs_mono h c
    cases h1 : dvs S c with
    | nil => simp only [List.isEmpty_nil, if_true]; omega
    | cons p r =>
      obtain ⟨q, hq, _⟩ := hd p (by rw [h1]; simp)
      cases h2 : dvs S' c with
      | nil => rw [h2] at hq; cases hq
      | cons _ _ => simp only [List.isEmpty_cons, Bool.false_eq_true, if_false]; omega
end
theorem dv_mono {t : Tr} (nd : (nmL t).Nodup) {S S' : List Str} (h : ∀ x ∈ S, x ∈ S') (hs : ∀ x ∈ S, x ∈ nmL t) {x : Str} (hx : x ∈ S) : dv S t x ≤ dv S' t x := by
  have hk : x ∈ (dvs S t).map (·.1) := by rw [dvs_keys]; exact List.mem_filter.mpr ⟨hs x hx, by simpa using hx⟩
  obtain ⟨p, hp, rfl⟩ := List.mem_map.mp hk
  obtain ⟨q, hq, e1, e2⟩ := dvs_mono h t p hp
  have l1 := lookup_mem (l := dvs S t) (x := p.1) (v := p.2) (dvs_nd nd) hp
  have l2 := lookup_mem (l := dvs S' t) (x := q.1) (v := q.2) (dvs_nd nd) hq
  unfold dv
  rw [l1, ← e1, l2]
  exact e2
/-- K holds the load -/
def sup (t : Tr) (l : Nat) (K : SL) : Prop := ∀ p ∈ K, (l : Int) ≤ p.2 * (dv (ks K) t p.1 : Int)
theorem sup_stp {t : Tr} (nd : (nmL t).Nodup) {l : Nat} (hl : 0 < l) {K L : SL} (hK : ∀ p ∈ K, p ∈ L) (hL : ∀ x ∈ ks L, x ∈ nmL t) (h : sup t l K) : ∀ p ∈ K, p ∈ stp t l L := by
  intro p hp
  refine List.mem_filter.mpr ⟨hK p hp, ?_⟩
  unfold okS
  rw [decide_eq_true_eq]
  have h1 := h p hp
  have hsub : ∀ x ∈ ks K, x ∈ ks L := fun x hx => by
    obtain ⟨q, hq, rfl⟩ := List.mem_map.mp hx
    exact List.mem_map.mpr ⟨q, hK q hq, rfl⟩
  have hm := dv_mono nd hsub (fun x hx => hL x (hsub x hx)) (List.mem_map.mpr ⟨p, hp, rfl⟩ : p.1 ∈ ks K)
  have hp0 : 0 ≤ p.2 := by
    refine Classical.byContradiction fun hn => ?_
    have : p.2 * (dv (ks K) t p.1 : Int) ≤ 0 := Int.mul_nonpos_of_nonpos_of_nonneg (by omega) (by omega)
    omega
  exact Int.le_trans h1 (Int.mul_le_mul_of_nonneg_left (by omega) hp0)
theorem sup_stl {t : Tr} (nd : (nmL t).Nodup) {l : Nat} (hl : 0 < l) {K : SL} (h : sup t l K) : ∀ (n : Nat) (L : SL), (∀ p ∈ K, p ∈ L) → (∀ x ∈ ks L, x ∈ nmL t) → ∀ p ∈ K, p ∈ stl t l n L
  | 0, L, hK, _ => hK
  | n + 1, L, hK, hL => by
    rw [stl]
    split
    · exact hK
    · exact sup_stl nd hl h n _ (sup_stp nd hl hK hL h) (fun x hx => hL x (((stp_sub t l L).map _).subset hx))
theorem rem_sup (t : Tr) (l : Nat) (L : SL) : sup t l (rem t l L) := by
  intro p hp
  have h := stl_fix t l (L.length + 1) L (by omega)
  have hp' : p ∈ stp t l (rem t l L) := by
    show p ∈ stp t l (stl t l (L.length + 1) L)
    rw [h]
    exact hp
  have := (List.mem_filter.mp hp').2
  unfold okS at this
  rw [decide_eq_true_eq] at this
  exact this
theorem rem_max {t : Tr} (nd : (nmL t).Nodup) {l : Nat} (hl : 0 < l) {K L : SL} (hK : ∀ p ∈ K, p ∈ L) (hL : ∀ x ∈ ks L, x ∈ nmL t) (h : sup t l K) : ∀ p ∈ K, p ∈ rem t l L := sup_stl nd hl h _ L hK hL
/-- each strand of L stands in M, not weaker -/
def Dom (L M : SL) : Prop := ∀ p ∈ L, ∃ q ∈ M, q.1 = p.1 ∧ p.2 ≤ q.2
theorem Dom.ne {L M : SL} (h : Dom L M) (hL : L ≠ []) : M ≠ [] := by
  cases L with
  | nil => exact absurd rfl hL
  | cons p r =>
    obtain ⟨q, hq, _⟩ := h p (by simp)
    exact fun z => by rw [z] at hq; cases hq
theorem dom_rem {t t' : Tr} (nd : (nmL t).Nodup) (hd : ∀ S, dvs S t' = dvs S t) (hn : nmL t' = nmL t) {l l' : Nat} (hl' : 0 < l') (hll : l' ≤ l) {L M : SL} (hL : (ks L).Sublist (nmL t)) (hM : (ks M).Sublist (nmL t)) (h : Dom L M) : Dom (rem t l L) (rem t' l' M) := by
  have hR := rem_sup t l L
  have hsub := rem_sub t l L
  generalize rem t l L = R at *
  have ndM : (ks M).Nodup := nd.sublist hM
  have hRk : ∀ x ∈ ks R, x ∈ nmL t := fun x hx => hL.subset ((hsub.map _).subset hx)
  have uniq : ∀ q ∈ M, ∀ q' ∈ M, q.1 = q'.1 → q = q' := fun q hq q' hq' e => by
    have a1 := lookup_mem ndM (x := q.1) (v := q.2) hq
    have a2 := lookup_mem ndM (x := q'.1) (v := q'.2) hq'
    rw [e, a2] at a1
    exact Prod.ext e (Option.some.inj a1).symm
  have hK : ∀ p ∈ R, ∃ q ∈ M.filter (fun q => decide (q.1 ∈ ks R)), q.1 = p.1 ∧ p.2 ≤ q.2 := fun p hp => by
    obtain ⟨q, hq, e1, e2⟩ := h p (hsub.subset hp)
    exact ⟨q, List.mem_filter.mpr ⟨hq, by rw [decide_eq_true_eq, e1]; exact List.mem_map.mpr ⟨p, hp, rfl⟩⟩, e1, e2⟩
  have hRK : ∀ x ∈ ks R, x ∈ ks (M.filter fun q => decide (q.1 ∈ ks R)) := fun x hx => by
    obtain ⟨p, hp, rfl⟩ := List.mem_map.mp hx
    obtain ⟨q, hq, e1, _⟩ := hK p hp
    exact List.mem_map.mpr ⟨q, hq, e1⟩
  have hsup : sup t' l' (M.filter fun q => decide (q.1 ∈ ks R)) := by
    intro q hq
    obtain ⟨hqM, hqR⟩ := List.mem_filter.mp hq
    rw [decide_eq_true_eq] at hqR
    obtain ⟨p, hp, e⟩ := List.mem_map.mp hqR
    obtain ⟨q', hq', e1, e2⟩ := hK p hp
    have : q' = q := uniq q' (List.mem_filter.mp hq').1 q hqM (e1.trans e)
    subst this
    have h1 := hR p hp
    have h2 := dv_mono nd hRK hRk (List.mem_map.mpr ⟨p, hp, rfl⟩ : p.1 ∈ ks R)
    have h3 : dv (ks (M.filter fun q => decide (q.1 ∈ ks R))) t' q'.1 = dv (ks (M.filter fun q => decide (q.1 ∈ ks R))) t p.1 := by unfold dv; rw [hd, e1]
    rw [h3]
    have hp0 : 0 ≤ p.2 := by
      refine Classical.byContradiction fun hn => ?_
      have : p.2 * (dv (ks R) t p.1 : Int) ≤ 0 := Int.mul_nonpos_of_nonpos_of_nonneg (by omega) (by omega)
      omega
    have h4 : p.2 * (dv (ks R) t p.1 : Int) ≤ q'.2 * (dv (ks (M.filter fun q => decide (q.1 ∈ ks R))) t p.1 : Int) := Int.mul_le_mul e2 (by omega) (by omega) (by omega)
    omega
  intro p hp
  obtain ⟨q, hq, e1, e2⟩ := hK p hp
  refine ⟨q, rem_max (by rw [hn]; exact nd) hl' (fun p hp => (List.mem_filter.mp hp).1) (fun x hx => by rw [hn]; exact hM.subset hx) hsup q hq, e1, e2⟩
theorem dom_wn {t t' : Tr} {R R' : SL} (hw : ∀ x ∈ ks R, wr t' x ≤ wr t x) (h : Dom R R') : Dom (wn t R) (wn t' R') := by
  intro p hp
  obtain ⟨r, hr, rfl⟩ := List.mem_map.mp (show p ∈ R.map fun p => (p.1, p.2 - wr t p.1) from hp)
  obtain ⟨q, hq, e1, e2⟩ := h r hr
  refine ⟨(q.1, q.2 - wr t' q.1), List.mem_map.mpr ⟨q, hq, rfl⟩, e1, ?_⟩
  have := hw r.1 (List.mem_map.mpr ⟨r, hr, rfl⟩)
  rw [e1]
  simp only
  omega
/-- the state after a sequence -/
abbrev stt (t : Tr) (ls : List Nat) : SL := (runS t ls).2
theorem rem_nil (t : Tr) (l : Nat) : rem t l [] = [] := rfl
theorem stt_snoc (t : Tr) (ls : List Nat) (l : Nat) : stt t (ls ++ [l]) = wn t (rem t l (stt t ls)) := by
  unfold stt
  rw [runS_snoc]
  unfold adv
  split
  · rename_i h
    rw [h, rem_nil]
    rfl
  · rfl
theorem stt_nil (t : Tr) : stt t [] = L0 t := rfl
/-- a stronger rig, lighter loads -/
theorem dom_run {t t' : Tr} (nd : (nmL t).Nodup) (hd : ∀ S, dvs S t' = dvs S t) (hn : nmL t' = nmL t) (h0 : Dom (L0 t) (L0 t')) (hw : ∀ x ∈ nmL t, wr t' x ≤ wr t x) (ps : List (Nat × Nat)) : (∀ p ∈ ps, 0 < p.2 ∧ p.2 ≤ p.1) → Dom (stt t (ps.map (·.1))) (stt t' (ps.map (·.2))) := by
  induction ps using snoc_ind with
  | nil => exact fun _ => h0
  | snoc ps p ih =>
    intro h
    have hp := h p (by simp)
    have ih' := ih fun q hq => h q (by simp [hq])
    rw [List.map_append, List.map_append]
    show Dom (stt t (ps.map (·.1) ++ [p.1])) (stt t' (ps.map (·.2) ++ [p.2]))
    rw [stt_snoc, stt_snoc]
    have s1 := run_sub t (ps.map (·.1))
    have s2 := run_sub t' (ps.map (·.2))
    rw [hn] at s2
    refine dom_wn (fun x hx => hw x (s1.subset (((rem_sub t p.1 _).map _).subset hx))) ?_
    exact dom_rem nd hd hn hp.1 hp.2 s1 s2 ih'
theorem dom_same {t t' : Tr} (nd : (nmL t).Nodup) (hd : ∀ S, dvs S t' = dvs S t) (hn : nmL t' = nmL t) (h0 : Dom (L0 t) (L0 t')) (hw : ∀ x ∈ nmL t, wr t' x ≤ wr t x) {ls : List Nat} (hl : ∀ l ∈ ls, 0 < l) : Dom (stt t ls) (stt t' ls) := by
  have := dom_run nd hd hn h0 hw (ls.map fun l => (l, l)) (fun p hp => by
    obtain ⟨l, h, rfl⟩ := List.mem_map.mp hp
    exact ⟨hl l h, Nat.le_refl _⟩)
  rw [List.map_map, List.map_map] at this
  simpa [Function.comp_def] using this
/-- all lifts succeed -/
theorem cnt_full {t : Tr} (h0 : L0 t ≠ []) (ls : List Nat) : (stt t ls ≠ [] → cntS (runS t ls).1 = ls.length) ∧ (stt t ls = [] → cntS (runS t ls).1 < ls.length) := by
  induction ls using snoc_ind with
  | nil => exact ⟨fun _ => rfl, fun z => absurd z h0⟩
  | snoc ls l ih =>
    unfold stt at ih ⊢
    rw [runS_snoc, List.length_append, List.length_singleton]
    unfold adv
    by_cases h : (runS t ls).2 = []
    · rw [if_pos h]
      have := ih.2 h
      exact ⟨fun z => absurd h z, fun _ => by omega⟩
    · rw [if_neg h]
      have h1 := ih.1 h
      simp only
      have hc : cntS ((runS t ls).1 ++ [((runS t ls).2, l, rem t l (runS t ls).2)]) = cntS (runS t ls).1 + (if rem t l (runS t ls).2 ≠ [] then 1 else 0) := by
        unfold cntS
        rw [List.filter_append, List.length_append, List.filter_cons, List.filter_nil]
        simp only
        by_cases hr : rem t l (runS t ls).2 = [] <;> simp [hr]
      rw [hc, h1]
      refine ⟨fun z => ?_, fun z => ?_⟩
      · rw [if_pos (fun e => z (by rw [e]; rfl))]
      · have : rem t l (runS t ls).2 = [] := by
          unfold wn at z
          exact List.map_eq_nil_iff.mp z
        rw [if_neg (fun e => e this)]
        omega
end Wr.P
end

section
set_option Elab.async false
set_option linter.all false
set_option maxRecDepth 100000
set_option maxHeartbeats 4000000
/-! WsR: feasible loads; another strand in a tree. -/
namespace Wr.P
open PySem
abbrev qD (ls : List Nat) : PyData := .tuple (ls.map iD)
mutual
def rpl (x : Str) (p w : Int) : Tr → Tr
  | .leaf y p' w' => if y = x then .leaf x p w else .leaf y p' w'
  | .node cs => .node (rplL x p w cs)
def rplL (x : Str) (p w : Int) : List Tr → List Tr
  | [] => []
  | c :: cs => rpl x p w c :: rplL x p w cs
end
def rpf (x : Str) (p w : Int) (l : Lf) : Lf := if l.1 = x then (x, p, w) else l
theorem rplL_map (x : Str) (p w : Int) : ∀ cs : List Tr, rplL x p w cs = cs.map (rpl x p w)
  | [] => rfl
  | c :: cs => by rw [rplL, rplL_map x p w cs, List.map_cons]
section
variable (x : Str) (p w : Int)
mutual
theorem rpl_lvs : ∀ t : Tr, lvs (rpl x p w t) = (lvs t).map (rpf x p w)
  | .leaf y p' w' => by
    rw [rpl]
    by_cases h : y = x <;> simp [h, lvs, rpf]
  | .node cs => by rw [rpl, lvs, lvs, rplL_lvs cs]
theorem rplL_lvs : ∀ cs : List Tr, lvsL (rplL x p w cs) = (lvsL cs).map (rpf x p w)
  | [] => rfl
  | c :: cs => by rw [rplL, lvsL, lvsL, rpl_lvs c, rplL_lvs cs, List.map_append]
end
mutual
theorem rpl_wf : ∀ t : Tr, wf (rpl x p w t) = wf t
  | .leaf y p' w' => by
    rw [rpl]
    by_cases h : y = x <;> simp [h, wf]
  | .node cs => by rw [rpl, wf, wf, rplL_wf cs, rplL_map, List.length_map]
theorem rplL_wf : ∀ cs : List Tr, wfL (rplL x p w cs) = wfL cs
  | [] => rfl
  | c :: cs => by rw [rplL, wfL, wfL, rpl_wf c, rplL_wf cs]
end
mutual
theorem rpl_dvs (S : List Str) : ∀ t : Tr, dvs S (rpl x p w t) = dvs S t
  | .leaf y p' w' => by
    rw [rpl]
    by_cases h : y = x <;> simp [h, dvs]
  | .node cs => by rw [rpl, dvs, dvs, rplL_dvs S cs, rplL_cnt S cs]
theorem rplL_dvs (S : List Str) : ∀ cs : List Tr, dvsL S (rplL x p w cs) = dvsL S cs
  | [] => rfl
  | c :: cs => by rw [rplL, dvsL, dvsL, rpl_dvs S c, rplL_dvs S cs]
theorem rplL_cnt (S : List Str) : ∀ cs : List Tr, cnt S (rplL x p w cs) = cnt S cs
  | [] => rfl
  | c :: cs => by rw [rplL, cnt, cnt, rpl_dvs S c, rplL_cnt S cs]
end
mutual
theorem rpl_rpl (p' w' : Int) : ∀ t : Tr, rpl x p w (rpl x p' w' t) = rpl x p w t
  | .leaf y q v => by
    rw [rpl]
    by_cases h : y = x <;> simp [h, rpl]
  | .node cs => by rw [rpl, rpl, rpl, rplL_rpl p' w' cs]
theorem rplL_rpl (p' w' : Int) : ∀ cs : List Tr, rplL x p w (rplL x p' w' cs) = rplL x p w cs
  | [] => rfl
  | c :: cs => by rw [rplL, rplL, rplL, rpl_rpl p' w' c, rplL_rpl p' w' cs]
end
end
theorem rpf_fst (x : Str) (p w : Int) (l : Lf) : (rpf x p w l).1 = l.1 := by
  unfold rpf
  split
  · rename_i h
    exact h.symm
  · rfl
theorem rpl_nm (x : Str) (p w : Int) (t : Tr) : nmL (rpl x p w t) = nmL t := by
  unfold nmL
  rw [rpl_lvs, List.map_map]
  exact List.map_congr_left fun l _ => rpf_fst x p w l
theorem rpl_ok {t : Tr} (h : TrOk t) (x : Str) (p w : Int) : TrOk (rpl x p w t) := ⟨by rw [rpl_wf]; exact h.wf, by rw [rpl_nm]; exact h.nd, by rw [rpl_lvs, List.length_map]; exact h.len⟩
theorem rpl_v {t : Tr} (h : TrV t) {x : Str} {p w : Int} (hp : -100000 ≤ p ∧ p ≤ 100000) (hw : 0 ≤ w ∧ w ≤ 100) : TrV (rpl x p w t) := by
  intro l hl
  rw [rpl_lvs] at hl
  obtain ⟨m, hm, rfl⟩ := List.mem_map.mp hl
  unfold rpf
  split
  · exact ⟨hp, hw⟩
  · exact h m hm
theorem dep_le {t : Tr} (h : TrOk t) : dep t ≤ 11 := h.dep
section
variable {T : Tab}
theorem rep_ok (h4 : T.lookup 4 = some F4) (h89 : T.lookup 89 = some F89) (x : Str) (p w : Int) : ∀ (t : Tr) (n : Nat), dep t + 2 ≤ n → wf t = true → Phi T n 89 [enc t, .str x, sd x p w] = some (enc (rpl x p w t)) := by
  intro t
  induction t using Tr.ind with
  | h1 y p' w' =>
    intro n hn hw
    obtain ⟨m, rfl⟩ : ∃ m, n = m + 1 := ⟨n - 1, by omega⟩
    rw [Phi_succ h89, rpl]
    have tst : evE (Phi T m) [.sh (enc (.leaf y p' w')), .sh (.str x), .sh (sd x p w), .un] (.cmp .Eq (.ex (.idx (.ex (.var 0)) (.cst (.int 0)))) (.ex (.var 1))) = some (.bool (decide (y = x))) := ev_cmp (ev_o (ev_idx rfl rfl rfl)) rfl (eqD_str y x)
    refine run_ret rfl rfl (b := false) (ss_rt (s_ift (ev_call rfl (leaf_ok h4 (t := .leaf y p' w') (by omega) hw)) (ss_rt (s_ret ?_))))
    by_cases h : y = x
    · rw [if_pos h]
      exact ev_ift (ev_t tst h) rfl
    · rw [if_neg h]
      exact ev_iff (ev_f tst h) rfl
  | h2 cs ih =>
    intro n hn hw
    obtain ⟨m, rfl⟩ : ∃ m, n = m + 1 := ⟨n - 1, by omega⟩
    rw [dep] at hn
    obtain ⟨h1, h2⟩ := wf_node hw
    rw [Phi_succ h89, rpl]
    refine run_ret rfl rfl (b := false) (ss_cons (s_iff (ev_call rfl (leaf_ok h4 (t := .node cs) (by omega) hw)) ss_nil) (ss_rt (s_ret (ev_blt (es_cons (d := .list (cs.map fun c => enc (rpl x p w c))) ?_ rfl) ?_))))
    · refine ev_cpm enc _ cs ?_ fun c hc => ⟨_, rfl, ev_call rfl (ih c hc m (by have := dep_mem hc; omega) (h2 c hc))⟩
      show evI (Phi T m) [.sh (enc (.node cs)), .sh (.str x), .sh (sd x p w), .un] (.vr 0) = _
      rw [← encs_map]
      rfl
    · show some (PyData.tuple _) = some (enc (.node _))
      rw [enc, encs_map, rplL_map, List.map_map]
      rfl
theorem lawRep_ok (h82 : T.lookup 82 = some F82) (x : Str) (p w : Int) : ∀ (t : Tr) (n : Nat), dep t + 1 ≤ n → wf t = true → Phi T n 82 [enc t, .str x, sd x p w] = some (enc (rpl x p w t)) := by
  intro t
  induction t using Tr.ind with
  | h1 y p' w' =>
    intro n hn hw
    obtain ⟨m, rfl⟩ : ∃ m, n = m + 1 := ⟨n - 1, by omega⟩
    rw [Phi_succ h82, rpl]
    have tst : evE (Phi T m) [.sh (enc (.leaf y p' w')), .sh (.str x), .sh (sd x p w), .un] (.cmp .Eq (.ex (.idx (.ex (.var 0)) (.cst (.int 0)))) (.ex (.var 1))) = some (.bool (decide (y = x))) := ev_cmp (ev_o (ev_idx rfl rfl rfl)) rfl (eqD_str y x)
    refine run_ret rfl rfl (b := false) (ss_rt (s_ift (isi_leaf (t := .leaf y p' w') hw rfl) (ss_rt (s_ret ?_))))
    by_cases h : y = x
    · rw [if_pos h]
      exact ev_ift (ev_t tst h) rfl
    · rw [if_neg h]
      exact ev_iff (ev_f tst h) rfl
  | h2 cs ih =>
    intro n hn hw
    obtain ⟨m, rfl⟩ : ∃ m, n = m + 1 := ⟨n - 1, by omega⟩
    rw [dep] at hn
    obtain ⟨h1, h2⟩ := wf_node hw
    rw [Phi_succ h82, rpl]
    refine run_ret rfl rfl (b := false) (ss_cons (s_iff (isi_leaf (t := .node cs) hw rfl) ss_nil) (ss_rt (s_ret (ev_blt (es_cons (d := .list (cs.map fun c => enc (rpl x p w c))) ?_ rfl) ?_))))
    · refine ev_cpm enc _ cs ?_ fun c hc => ⟨_, rfl, ev_call rfl (ih c hc m (by have := dep_mem hc; omega) (h2 c hc))⟩
      show evI (Phi T m) [.sh (enc (.node cs)), .sh (.str x), .sh (sd x p w), .un] (.vr 0) = _
      rw [← encs_map]
      rfl
    · show some (PyData.tuple _) = some (enc (.node _))
      rw [enc, encs_map, rplL_map, List.map_map]
      rfl
/-! feasible -/
theorem L0_ne {t : Tr} (h : TrOk t) : L0 t ≠ [] := by
  have := (lvs_pos t h.wf).1
  intro e
  have h2 := congrArg List.length e
  rw [L0, List.length_map, List.length_nil] at h2
  omega
theorem succ_ok (F : Tabs T) (h30 : T.lookup 30 = some F30) (h58 : T.lookup 58 = some F58) {t : Tr} (ht : TrOk t) (hv : TrV t) {ls : List Nat} (hl : ∀ l ∈ ls, 0 < l ∧ l < 1000000) (hlen : ls.length ≤ 1000) {n : Nat} (hn : 19 ≤ n) :
    Phi T n 58 [enc t, qD ls] = some (.bool (decide (stt t ls ≠ []))) := by
  obtain ⟨m, rfl⟩ : ∃ m, n = m + 1 := ⟨n - 1, by omega⟩
  rw [Phi_succ h58]
  refine run_ret rfl rfl (b := false) (ss_rt (s_ret ?_))
  have hc : evE (Phi T m) [.sh (enc t), .sh (qD ls)] (.cmp .Eq (.ex (.call 30 (.cons (.var 0) (.cons (.var 1) .nil)))) (.ex (.len (.ex (.var 1))))) = some (.bool (decide ((cntS (runS t ls).1 : Int) = (ls.length : Int)))) :=
    ev_cmp (ev_o (ev_call rfl (count_ok F h30 ht hv hl hlen (SqD.t ls) (n := m) (by omega)))) (ev_o (ev_len rfl (d := .int (ls.length : Int)) (by show some _ = _; rw [List.length_map]))) (eqD_int _ _)
  refine hc.trans ?_
  obtain ⟨h1, h2⟩ := cnt_full (L0_ne ht) ls
  congr 2
  rw [decide_eq_decide]
  constructor
  · intro e z
    have := h2 z
    omega
  · intro z
    rw [h1 z]
theorem feas_ok (F : Tabs T) (h30 : T.lookup 30 = some F30) (h58 : T.lookup 58 = some F58) (h59 : T.lookup 59 = some F59) {t : Tr} (ht : TrOk t) (hv : TrV t) {ls : List Nat} (hl : ∀ l ∈ ls, 0 < l ∧ l < 1000000) (hlen : ls.length ≤ 1000) {n : Nat} (hn : 20 ≤ n) :
    Phi T n 59 [enc t, qD ls] = some (.bool (decide (stt t ls.reverse ≠ []))) := by
  obtain ⟨m, rfl⟩ : ∃ m, n = m + 1 := ⟨n - 1, by omega⟩
  rw [Phi_succ h59]
  have hrev : evE (Phi T m) [.sh (enc t), .sh (qD ls)] (.rev (.ex (.var 1))) = some (qD ls.reverse) := by
    refine ev_rev rfl ?_
    show some (PyData.tuple (ls.map iD).reverse) = _
    rw [← List.map_reverse]
  exact run_ret rfl rfl (ss_rt (s_ret (ev_call (es_cons rfl (es_cons hrev rfl)) (succ_ok F h30 h58 ht hv (fun l h => hl l (List.mem_reverse.mp h)) (by rw [List.length_reverse]; exact hlen) (by omega)))))
theorem works_ok (G : LawTabs T) (h47 : T.lookup 47 = some F47) {t : Tr} (ht : TrOk t) (hv : TrV t) {ls : List Nat} (hlen : ls.length ≤ 1000) {n : Nat} (hn : 17 ≤ n) :
    Phi T n 47 [enc t, qD ls] = some (.bool (decide (stt t ls ≠ []))) := by
  obtain ⟨m, rfl⟩ : ∃ m, n = m + 1 := ⟨n - 1, by omega⟩
  rw [Phi_succ h47]
  refine run_ret rfl rfl (b := false) (ss_rt (s_ret (ev_cmp (ev_o (ev_call rfl (left_ok G ht hv hlen (SqD.t ls) (n := m) (by omega)))) rfl ?_)))
  show (eqD (D (sD (stt t ls))) (.dict [])).map (!·) = _
  rw [eqD_dnil]
  cases stt t ls <;> rfl
theorem srt_id : ∀ {ls : List Nat}, ls.Pairwise (· ≤ ·) → srt ltN ls = ls
  | [], _ => rfl
  | x :: r, h => by
    rw [List.pairwise_cons] at h
    rw [srt, srt_id h.2]
    cases r with
    | nil => rfl
    | cons y r =>
      have := h.1 y (by simp)
      rw [ins1, if_neg]
      unfold ltN
      simp only [decide_eq_true_eq]
      omega
theorem lawFeas_ok (G : LawTabs T) (h47 : T.lookup 47 = some F47) (h83 : T.lookup 83 = some F83) {t : Tr} (ht : TrOk t) (hv : TrV t) {ls : List Nat} (hs : ls.Pairwise (· ≤ ·)) (hlen : ls.length ≤ 1000) {n : Nat} (hn : 18 ≤ n) :
    Phi T n 83 [enc t, qD ls] = some (.bool (decide (stt t ls.reverse ≠ []))) := by
  obtain ⟨m, rfl⟩ : ∃ m, n = m + 1 := ⟨n - 1, by omega⟩
  rw [Phi_succ h83]
  have hrev : evE (Phi T m) [.sh (enc t), .sh (qD ls)] (.rev (.ex (.blt .tuple1 (.cons (.blt .sorted1 (.cons (.var 1) .nil)) .nil)))) = some (qD ls.reverse) := by
    refine ev_rev (ev_o (ev_blt (es_cons (ev_blt (es_cons rfl rfl) (sorted_nats ls)) rfl) rfl)) ?_
    show some (PyData.tuple ((srt ltN ls).map iD).reverse) = _
    rw [srt_id hs, ← List.map_reverse]
  exact run_ret rfl rfl (ss_rt (s_ret (ev_call (es_cons rfl (es_cons hrev rfl)) (works_ok G h47 ht hv (by rw [List.length_reverse]; exact hlen) (by omega)))))
/-- find_strand -/
theorem find_ok (F : Tabs T) (h90 : T.lookup 90 = some F90) {t : Tr} (ht : TrOk t) {l : Lf} (hl : l ∈ lvs t) {n : Nat} (hn : 14 ≤ n) : Phi T n 90 [enc t, .str l.1] = some (ld l) := by
  obtain ⟨m, rfl⟩ : ∃ m, n = m + 1 := ⟨n - 1, by omega⟩
  rw [Phi_succ h90]
  have hcp : evE (Phi T m) [.sh (enc t), .sh (.str l.1), .un] (.cpr (.var 2) (.nm 2) (.val (.call 5 (.cons (.var 0) .nil))) (.cons (.cmp .Eq (.ex (.idx (.ex (.var 2)) (.cst (.int 0)))) (.ex (.var 1))) .nil)) = some (.list ((lvs t).filterMap fun k => if decide (k.1 = l.1) then some (ld k) else none)) := by
    refine ev_cpr ld _ (lvs t) ?_ fun k hk => ⟨_, rfl, ?_⟩
    · rw [evI, ev_call (ds := [enc t]) rfl (strands1 F ht (by omega))]
      rfl
    · have tst : evE (Phi T m) [.sh (enc t), .sh (.str l.1), .sh (ld k)] (.cmp .Eq (.ex (.idx (.ex (.var 2)) (.cst (.int 0)))) (.ex (.var 1))) = some (.bool (decide (k.1 = l.1))) := ev_cmp (ev_o (ev_idx rfl rfl rfl)) rfl (eqD_str _ _)
      show (evAnd (Phi T m) [.sh (enc t), .sh (.str l.1), .sh (ld k)] _ = _ ∧ _) ∨ (evAnd (Phi T m) [.sh (enc t), .sh (.str l.1), .sh (ld k)] _ = _ ∧ _)
      rw [evAnd, tst]
      cases decide (k.1 = l.1) with
      | true => exact .inl ⟨rfl, _, rfl, rfl⟩
      | false => exact .inr ⟨rfl, rfl⟩
  have hf : (lvs t).filter (fun k => decide (k.1 = l.1)) = [l] := by
    have nd := ht.nd
    unfold nmL at nd
    clear hcp
    generalize lvs t = ls at nd hl
    induction ls with
    | nil => cases hl
    | cons k r ih =>
      rw [List.map_cons, List.nodup_cons] at nd
      rw [List.filter_cons]
      rcases List.mem_cons.mp hl with e | h
      · subst e
        simp only [decide_true, if_true]
        congr 1
        rw [List.filter_eq_nil_iff]
        intro j hj
        rw [decide_eq_true_eq]
        exact fun e => nd.1 (List.mem_map.mpr ⟨j, hj, e⟩)
      · have : k.1 ≠ l.1 := fun e => nd.1 (List.mem_map.mpr ⟨l, h, e.symm⟩)
        simp only [this, decide_false, Bool.false_eq_true, if_false]
        exact ih nd.2 h
  rw [← filter_fm2, hf] at hcp
  exact run_ret rfl rfl (ss_rt (s_ret (ev_idx (ev_o hcp) rfl rfl)))
end
end Wr.P
end

section
set_option Elab.async false
set_option linter.all false
set_option maxRecDepth 100000
set_option maxHeartbeats 4000000
/-! WsS: the smallest strength (law k12). -/
namespace Wr.P
open PySem
def hdS : Ss → S
  | .cons s _ => s
  | .nil => .shr 0
def tlS : Ss → Ss
  | .cons _ ss => ss
  | .nil => .nil
def forB : S → Ss
  | .for _ _ b => b
  | _ => .nil
theorem Rig.ok' {t : Tr} {m : Nat} (h : Rig t m) (hm : m ≤ 6) : TrOk t ∧ TrV t ∧ ∀ l ∈ lvs t, 1 ≤ l.2.1 ∧ l.2.1 ≤ 99 := by
  refine ⟨⟨h.wf, h.nd, by have := h.len; omega⟩, fun l hl => ?_, fun l hl => ?_⟩
  · obtain ⟨_, h1, h2, h3, h4⟩ := h.ok l hl
    omega
  · obtain ⟨_, h1, h2, h3, h4⟩ := h.ok l hl
    exact ⟨h1, h2⟩
theorem eqD_bool (a b : Bool) : eqD (.bool a) (.bool b) = some (a == b) := by
  simp only [eqD, noD, PyData.depth, PyData.eqv, Bool.and_self, Nat.min_self, Nat.zero_le, decide_true, if_true]
/-- feasible with this strand -/
def fsb (t : Tr) (x : Str) (w : Int) (ls : List Nat) (s : Int) : Bool := decide (stt (rpl x s w t) ls.reverse ≠ [])
theorem wrL_rpl (t : Tr) (x : Str) (w s s' : Int) : wrL (rpl x s w t) = wrL (rpl x s' w t) := by
  unfold wrL
  rw [rpl_lvs, rpl_lvs, List.map_map, List.map_map]
  refine List.map_congr_left fun l _ => ?_
  simp only [Function.comp_def, rpf]
  split <;> rfl
theorem fsb_mono {t : Tr} (ht : TrOk t) {x : Str} {w : Int} {ls : List Nat} (hl : ∀ l ∈ ls, 0 < l) {s s' : Int} (hs : s ≤ s') (h : fsb t x w ls s = true) : fsb t x w ls s' = true := by
  unfold fsb at h ⊢
  rw [decide_eq_true_eq] at h ⊢
  refine Dom.ne (dom_same (t := rpl x s w t) (t' := rpl x s' w t) (by rw [rpl_nm]; exact ht.nd) (fun S => by rw [rpl_dvs, rpl_dvs]) (by rw [rpl_nm, rpl_nm]) ?_ (fun y _ => by unfold wr; rw [wrL_rpl t x w s' s]; exact Int.le_refl _) (fun l h => hl l (List.mem_reverse.mp h))) h
  intro p hp
  obtain ⟨k, hk, rfl⟩ := List.mem_map.mp (show p ∈ (lvs (rpl x s w t)).map fun l => (l.1, l.2.1) from hp)
  rw [rpl_lvs] at hk
  obtain ⟨l, hl', rfl⟩ := List.mem_map.mp hk
  refine ⟨((rpf x s' w l).1, (rpf x s' w l).2.1), List.mem_map.mpr ⟨rpf x s' w l, by rw [rpl_lvs]; exact List.mem_map.mpr ⟨l, hl', rfl⟩, rfl⟩, by rw [rpf_fst, rpf_fst], ?_⟩
  unfold rpf
  split
  · exact hs
  · exact Int.le_refl _
/-- one strand that bears all -/
theorem strong_mem {t : Tr} (ht : TrOk t) {x : Str} {p w : Int} (hx : (x, p, w) ∈ lvs t) (hw : 0 ≤ w ∧ w ≤ 20) (ls : List Nat) : (∀ l ∈ ls, 0 < l ∧ l ≤ 600) → 600 + 20 * (ls.length : Int) ≤ p → (x, p - (ls.length : Int) * w) ∈ stt t ls := by
  have hxn : x ∈ nmL t := List.mem_map.mpr ⟨_, hx, rfl⟩
  have hwr : wr t x = w := by
    unfold wr
    rw [lookup_mem (l := wrL t) (x := x) (v := w) (by rw [wrL_ks]; exact ht.nd) (List.mem_map.mpr ⟨_, hx, rfl⟩)]
    rfl
  induction ls using snoc_ind with
  | nil =>
    intro _ _
    simp only [List.length_nil]
    rw [show p - ((0 : Nat) : Int) * w = p by simp]
    exact List.mem_map.mpr ⟨_, hx, rfl⟩
  | snoc ls l ih =>
    intro hl hp
    rw [List.length_append, List.length_singleton] at hp ⊢
    have hq := ih (fun k hk => hl k (by simp [hk])) (by omega)
    have hl' := hl l (by simp)
    rw [stt_snoc]
    have hmul : (ls.length : Int) * w ≤ (ls.length : Int) * 20 := Int.mul_le_mul_of_nonneg_left hw.2 (by omega)
    have hin : (x, p - (ls.length : Int) * w) ∈ rem t l (stt t ls) := by
      refine rem_max ht.nd hl'.1 (K := [(x, p - (ls.length : Int) * w)]) (fun q hq' => by rw [List.mem_singleton] at hq'; subst hq'; exact hq) (fun y hy => (run_sub t ls).subset hy) ?_ _ (by simp)
      intro q hq'
      rw [List.mem_singleton] at hq'
      subst hq'
      have h1 : 1 ≤ dv [x] t x := (dv_mem (t := t) (S := [x]) (List.singleton_sublist.mpr hxn) ht.nd (by simp)).2
      show (l : Int) ≤ (p - (ls.length : Int) * w) * (dv [x] t x : Int)
      have h2 : (600 : Int) ≤ p - (ls.length : Int) * w := by omega
      have h3 : (600 : Int) * 1 ≤ (p - (ls.length : Int) * w) * (dv [x] t x : Int) := Int.mul_le_mul h2 (by omega) (by omega) (by omega)
      omega
    refine List.mem_map.mpr ⟨_, hin, ?_⟩
    simp only [hwr]
    congr 1
    rw [Int.natCast_add, Int.add_mul]
    omega
/-- what the search finds -/
def IsSm (f : Int → Bool) (r : Nat) : Prop := 1 ≤ r ∧ f r = true ∧ (r = 1 ∨ f ((r : Int) - 1) = false)
theorem IsSm.uniq {f : Int → Bool} (hm : ∀ s s' : Int, s ≤ s' → f s = true → f s' = true) {r r' : Nat} (h : IsSm f r) (h' : IsSm f r') : r = r' := by
  have key : ∀ {a b : Nat}, IsSm f a → IsSm f b → ¬ a < b := fun {a b} ha hb hlt => by
    rcases hb.2.2 with e | e
    · have := ha.1
      omega
    · have := hm a ((b : Int) - 1) (by omega) ha.2.1
      rw [e] at this
      cases this
  have h1 := key h h'
  have h2 := key h' h
  omega
section
variable {T : Tab}
structure K12 (T : Tab) : Prop where
  F : Tabs T
  G : LawTabs T
  f8 : T.lookup 8 = some F8
  f9 : T.lookup 9 = some F9
  f10 : T.lookup 10 = some F10
  f18 : T.lookup 18 = some F18
  f19 : T.lookup 19 = some F19
  f30 : T.lookup 30 = some F30
  f37 : T.lookup 37 = some F37
  f38 : T.lookup 38 = some F38
  f47 : T.lookup 47 = some F47
  f58 : T.lookup 58 = some F58
  f59 : T.lookup 59 = some F59
  f82 : T.lookup 82 = some F82
  f83 : T.lookup 83 = some F83
  f89 : T.lookup 89 = some F89
  f90 : T.lookup 90 = some F90
  f91 : T.lookup 91 = some F91
  f92 : T.lookup 92 = some F92
theorem small_ok' (K : K12 T) {t : Tr} (ht : TrOk t) (hv : TrV t) {l : Lf} (hl : l ∈ lvs t) (hw : 0 ≤ l.2.2 ∧ l.2.2 ≤ 20) {ls : List Nat} (hls : ∀ k ∈ ls, 1 ≤ k ∧ k ≤ 600) (hlen : ls.length ≤ 12) {n : Nat} (hn : 22 ≤ n) :
    ∃ r : Nat, r ≤ 600 + 20 * ls.length ∧ IsSm (fsb t l.1 l.2.2 ls) r ∧ Phi T n 91 [enc t, .str l.1, qD ls] = some (iD r) := by
  obtain ⟨m, rfl⟩ : ∃ m, n = m + 1 := ⟨n - 1, by omega⟩
  rw [Phi_succ K.f91]
  have hls' : ∀ k ∈ ls, 0 < k ∧ k < 1000000 := fun k hk => by have := hls k hk; omega
  have htop : fsb t l.1 l.2.2 ls ((600 + 20 * ls.length : Nat) : Int) = true := by
    unfold fsb
    rw [decide_eq_true_eq]
    have hm : (l.1, ((600 + 20 * ls.length : Nat) : Int), l.2.2) ∈ lvs (rpl l.1 ((600 + 20 * ls.length : Nat) : Int) l.2.2 t) := by
      rw [rpl_lvs]
      refine List.mem_map.mpr ⟨l, hl, ?_⟩
      unfold rpf
      rw [if_pos rfl]
    have := strong_mem (rpl_ok ht l.1 ((600 + 20 * ls.length : Nat) : Int) l.2.2) hm hw ls.reverse (fun k hk => by have := hls k (List.mem_reverse.mp hk); omega) (by rw [List.length_reverse]; omega)
    exact fun z => by rw [z] at this; cases this
  have tst : ∀ {lo hi : Nat} {s6 : Sl}, evE (Phi T m) [.sh (enc t), .sh (.str l.1), .sh (qD ls), .sh (.int l.2.2), .sh (iD lo), .sh (iD hi), s6] (.cmp .Lt (.ex (.var 4)) (.ex (.var 5))) = some (.bool (decide ((lo : Int) < (hi : Int)))) := fun {lo hi s6} => ev_cmp rfl rfl rfl
  obtain ⟨env', r, he, ⟨lo, hi, s6, rfl, h1, h2, h3, h4, h5, rfl⟩, hfin⟩ := loopW_inv (c := fun env => evE (Phi T m) env (.cmp .Lt (.ex (.var 4)) (.ex (.var 5)))) (body := fun env => exSs (Phi T m) (frOf T) env (.cons (.asg 6 (.bin .FloorDiv (.ex (.bin .Add (.ex (.var 4)) (.ex (.var 5)))) (.ex (.cst (.int 2))))) (.cons (.ife (.call 59 (.cons (.call 89 (.cons (.var 0) (.cons (.var 1) (.cons (.tup (.cons (.var 1) (.cons (.var 6) (.cons (.var 3) .nil)))) .nil)))) (.cons (.var 2) .nil))) (.cons (.asg 5 (.var 6)) .nil) (.cons (.asg 4 (.bin .Add (.ex (.var 6)) (.ex (.cst (.int 1))))) .nil)) .nil)))
    (fun r env => ∃ (lo hi : Nat) (s6 : Sl), env = [.sh (enc t), .sh (.str l.1), .sh (qD ls), .sh (.int l.2.2), .sh (iD lo), .sh (iD hi), s6] ∧ 1 ≤ lo ∧ lo ≤ hi ∧ hi ≤ 600 + 20 * ls.length ∧ fsb t l.1 l.2.2 ls hi = true ∧ (lo = 1 ∨ fsb t l.1 l.2.2 ls ((lo : Int) - 1) = false) ∧ hi - lo = r)
    wfuel (600 + 20 * ls.length - 1) [.sh (enc t), .sh (.str l.1), .sh (qD ls), .sh (.int l.2.2), .sh (iD 1), .sh (iD (600 + 20 * ls.length)), .un] (by unfold wfuel; omega) ⟨1, 600 + 20 * ls.length, .un, rfl, by omega, by omega, by omega, htop, .inl rfl, rfl⟩ (by
      rintro r env ⟨lo, hi, s6, rfl, h1, h2, h3, h4, h5, rfl⟩
      by_cases hlt : (lo : Int) < hi
      · refine .inr ⟨by rw [tst, decide_eq_true hlt], ?_⟩
        generalize hmid : (lo + hi) / 2 = mid
        have m1 : lo ≤ mid := by omega
        have m2 : mid < hi := by omega
        have hmv : evE (Phi T m) [.sh (enc t), .sh (.str l.1), .sh (qD ls), .sh (.int l.2.2), .sh (iD lo), .sh (iD hi), s6] (.bin .FloorDiv (.ex (.bin .Add (.ex (.var 4)) (.ex (.var 5)))) (.ex (.cst (.int 2)))) = some (iD mid) := by
          refine ev_eq (ev_bin (ev_o (ev_bin rfl rfl bd_add)) rfl (bd_div (by decide) (by decide))) ?_
          show PyData.int _ = PyData.int _
          congr 1
          omega
        have hrep := rep_ok K.F.f4 K.f89 l.1 (mid : Int) l.2.2 t m (by have := ht.dep; omega) ht.wf
        have hfe := feas_ok K.F K.f30 K.f58 K.f59 (rpl_ok ht l.1 (mid : Int) l.2.2) (rpl_v hv (by omega) (by omega)) hls' (by omega) (n := m) (by omega)
        have hcall : evE (Phi T m) [.sh (enc t), .sh (.str l.1), .sh (qD ls), .sh (.int l.2.2), .sh (iD lo), .sh (iD hi), .sh (iD mid)] (.call 59 (.cons (.call 89 (.cons (.var 0) (.cons (.var 1) (.cons (.tup (.cons (.var 1) (.cons (.var 6) (.cons (.var 3) .nil)))) .nil)))) (.cons (.var 2) .nil))) = some (.bool (fsb t l.1 l.2.2 ls mid)) :=
          ev_call (es_cons (ev_call (es_cons rfl (es_cons rfl (es_cons (ev_tup rfl) rfl))) hrep) rfl) hfe
        cases hf : fsb t l.1 l.2.2 ls mid with
        | true =>
          rw [hf] at hcall
          exact ⟨_, mid - lo, ss_cons (s_asg hmv) (ss_cons (s_ift hcall (ss_cons (s_asg (d := iD mid) rfl) ss_nil)) ss_nil), by omega, lo, mid, .sh (iD mid), rfl, h1, m1, by omega, hf, h5, rfl⟩
        | false =>
          rw [hf] at hcall
          refine ⟨_, hi - (mid + 1), ss_cons (s_asg hmv) (ss_cons (s_iff hcall (ss_cons (s_asg (d := iD (mid + 1)) ?_) ss_nil)) ss_nil), by omega, mid + 1, hi, .sh (iD mid), rfl, by omega, by omega, h3, h4, .inr ?_, rfl⟩
          · rw [show iD (mid + 1) = .int ((mid : Int) + 1) by rw [iD, Int.natCast_add]; rfl]
            exact ev_bin rfl rfl bd_add
          · rw [show ((mid + 1 : Nat) : Int) - 1 = mid by omega]
            exact hf
      · exact .inl (by rw [tst, decide_eq_false hlt]))
  rw [tst] at hfin
  have hle : lo = hi := by
    by_cases hlt : (lo : Int) < hi
    · rw [decide_eq_true hlt] at hfin
      cases hfin
    · omega
  subst hle
  refine ⟨lo, h3, ⟨h1, h4, h5⟩, run_ret rfl rfl (b := false) (ss_cons (s_asg (d := .int l.2.2) (ev_idx (ev_o (ev_call rfl (find_ok K.F K.f90 ht hl (by omega)))) rfl rfl)) (ss_cons (s_par (b1 := false) (b2 := false) (d1 := iD 1) (d2 := iD (600 + 20 * ls.length)) rfl ?_ rfl rfl) (ss_cons (s_whl he) (ss_rt (s_ret rfl)))))⟩
  rw [show iD (600 + 20 * ls.length) = .int (600 + 20 * (ls.length : Int)) by rw [iD, Int.natCast_add, Int.natCast_mul]; rfl]
  exact ev_bin rfl (ev_o (ev_bin rfl (ev_o (ev_len rfl (d := .int (ls.length : Int)) (by show some _ = _; rw [List.length_map]))) (bd_mull (by decide)))) bd_add
theorem isint_ok (h10 : T.lookup 10 = some F10) {n : Nat} (hn : 1 ≤ n) {r : Nat} (h1 : 1 ≤ r) (h2 : r ≤ 2000) : Phi T n 10 [iD r, .int 1, .int 2000] = some (.bool true) := by
  obtain ⟨m, rfl⟩ : ∃ m, n = m + 1 := ⟨n - 1, by omega⟩
  rw [Phi_succ h10]
  refine run_ret rfl rfl (b := false) (ss_rt (s_ret ?_))
  have hch : evE (Phi T m) [.sh (iD r), .sh (.int 1), .sh (.int 2000)] (.chn .LtE .LtE (.var 1) (.var 0) (.var 2)) = some (.bool true) := by
    have v0 : evE (Phi T m) [.sh (iD r), .sh (.int 1), .sh (.int 2000)] (.var 0) = some (iD r) := rfl
    have v1 : evE (Phi T m) [.sh (iD r), .sh (.int 1), .sh (.int 2000)] (.var 1) = some (.int 1) := rfl
    have v2 : evE (Phi T m) [.sh (iD r), .sh (.int 1), .sh (.int 2000)] (.var 2) = some (.int 2000) := rfl
    have c1 : cmpD .LtE (.int 1) (iD r) = some true := by
      show some (decide ((1 : Int) ≤ (r : Int))) = _
      rw [decide_eq_true (by omega)]
    have c2 : cmpD .LtE (iD r) (.int 2000) = some true := by
      show some (decide ((r : Int) ≤ 2000)) = _
      rw [decide_eq_true (by omega)]
    rw [evE, v1, v0]
    simp only [c1, v2, c2, Option.map_some]
  show evE (Phi T m) [.sh (iD r), .sh (.int 1), .sh (.int 2000)] (.and _) = _
  rw [evE, evAnd]
  have i1 : evE (Phi T m) [.sh (iD r), .sh (.int 1), .sh (.int 2000)] (.isi (.ex (.var 0)) [.int]) = some (.bool true) := rfl
  have i2 : evE (Phi T m) [.sh (iD r), .sh (.int 1), .sh (.int 2000)] (.not (.isi (.ex (.var 0)) [.bool])) = some (.bool true) := rfl
  rw [i1]
  show evAnd _ _ (.cons _ _) = _
  rw [evAnd, i2]
  show evAnd _ _ (.cons _ _) = _
  rw [evAnd, hch]
  rfl
end
end Wr.P
end

section
set_option Elab.async false
set_option linter.all false
set_option maxRecDepth 100000
set_option maxHeartbeats 4000000
/-! WxA: swapped neighbours, and the comparison of two results. -/
namespace Wr.P
open PySem
theorem rem_in {t : Tr} (nd : (nmL t).Nodup) {l : Nat} (hl : 0 < l) {L M : SL} (h : ∀ p ∈ L, p ∈ M) (hM : ∀ x ∈ ks M, x ∈ nmL t) : ∀ p ∈ rem t l L, p ∈ rem t l M :=
  rem_max nd hl (fun p hp => h p ((rem_sub t l L).subset hp)) hM (rem_sup t l L)
theorem wn_in {t : Tr} {R R' : SL} (h : ∀ p ∈ R, p ∈ R') : ∀ p ∈ wn t R, p ∈ wn t R' := fun p hp => by
  obtain ⟨r, hr, rfl⟩ := List.mem_map.mp (show p ∈ R.map fun p => (p.1, p.2 - wr t p.1) from hp)
  exact List.mem_map.mpr ⟨r, h r hr, rfl⟩
theorem stt_in {t : Tr} (nd : (nmL t).Nodup) {l1 l2 : List Nat} (h : ∀ p ∈ stt t l1, p ∈ stt t l2) (ls : List Nat) : (∀ l ∈ ls, 0 < l) → ∀ p ∈ stt t (l1 ++ ls), p ∈ stt t (l2 ++ ls) := by
  induction ls using snoc_ind with
  | nil => intro _; rw [List.append_nil, List.append_nil]; exact h
  | snoc ls l ih =>
    intro hp
    rw [← List.append_assoc, ← List.append_assoc, stt_snoc, stt_snoc]
    exact wn_in (rem_in nd (hp l (by simp)) (ih fun x hx => hp x (by simp [hx])) fun x hx => (run_sub t (l2 ++ ls)).subset hx)
/-- the heavier load first is never worse -/
theorem swap_in {t : Tr} (nd : (nmL t).Nodup) (hv : TrV t) (ls : List Nat) {a b : Nat} (ha : 0 < a) (hab : a ≤ b) : ∀ p ∈ stt t ((ls ++ [a]) ++ [b]), p ∈ stt t ((ls ++ [b]) ++ [a]) := by
  rw [stt_snoc, stt_snoc, stt_snoc, stt_snoc]
  have hLs : (ks (stt t ls)).Sublist (nmL t) := run_sub t ls
  generalize stt t ls = L at *
  have hR := rem_sup t b (wn t (rem t a L))
  have hRs := rem_sub t b (wn t (rem t a L))
  generalize rem t b (wn t (rem t a L)) = R at *
  have hA := rem_sub t a L
  have ndA : (ks (rem t a L)).Nodup := nd.sublist ((hA.map _).trans hLs)
  have hAk : ∀ x ∈ ks (rem t a L), x ∈ nmL t := fun x hx => ((hA.map _).trans hLs).subset hx
  have hRk : ∀ x ∈ ks R, x ∈ nmL t := fun x hx => by
    have := (hRs.map (·.1)).subset hx
    rw [show (wn t (rem t a L)).map (·.1) = ks (rem t a L) from wn_ks t _] at this
    exact hAk x this
  generalize rem t a L = A at *
  have hRU : ∀ r ∈ R, ∃ s : Int, (r.1, s) ∈ A ∧ r.2 = s - wr t r.1 := fun r hr => by
    obtain ⟨q, hq, rfl⟩ := List.mem_map.mp (show r ∈ A.map fun p => (p.1, p.2 - wr t p.1) from hRs.subset hr)
    exact ⟨q.2, hq, rfl⟩
  have hsub : ∀ x ∈ ks R, x ∈ ks (A.filter fun q => decide (q.1 ∈ ks R)) := fun x hx => by
    obtain ⟨r, hr, rfl⟩ := List.mem_map.mp hx
    obtain ⟨s, hs, _⟩ := hRU r hr
    exact List.mem_map.mpr ⟨(r.1, s), List.mem_filter.mpr ⟨hs, by rw [decide_eq_true_eq]; exact hx⟩, rfl⟩
  have hsup : sup t b (A.filter fun q => decide (q.1 ∈ ks R)) := by
    intro q hq
    obtain ⟨hqA, hqR⟩ := List.mem_filter.mp hq
    rw [decide_eq_true_eq] at hqR
    obtain ⟨r, hr, e⟩ := List.mem_map.mp hqR
    obtain ⟨s, hs, es⟩ := hRU r hr
    have a1 := lookup_mem ndA (x := q.1) (v := q.2) hqA
    have a2 := lookup_mem ndA (x := r.1) (v := s) hs
    rw [e, a1] at a2
    have e2 : q.2 = s := Option.some.inj a2
    have h1 := hR r hr
    have h2 := dv_mono nd hsub hRk (List.mem_map.mpr ⟨r, hr, rfl⟩ : r.1 ∈ ks R)
    have hw := (wr_bd nd hv (hRk r.1 (List.mem_map.mpr ⟨r, hr, rfl⟩))).1
    have hp0 : 0 ≤ r.2 := by
      refine Classical.byContradiction fun hn => ?_
      have : r.2 * (dv (ks R) t r.1 : Int) ≤ 0 := Int.mul_nonpos_of_nonpos_of_nonneg (by omega) (by omega)
      omega
    rw [← e]
    have h4 : r.2 * (dv (ks R) t r.1 : Int) ≤ q.2 * (dv (ks (A.filter fun q => decide (q.1 ∈ ks R))) t r.1 : Int) := Int.mul_le_mul (by omega) (by omega) (by omega) (by omega)
    omega
  have hU := rem_max nd (by omega) (fun p hp => hA.subset (List.mem_filter.mp hp).1) (fun x hx => hLs.subset hx) hsup
  have hRB : ∀ r ∈ R, r ∈ wn t (rem t b L) := fun r hr => by
    obtain ⟨s, hs, es⟩ := hRU r hr
    have hm := hU (r.1, s) (List.mem_filter.mpr ⟨hs, by rw [decide_eq_true_eq]; exact List.mem_map.mpr ⟨r, hr, rfl⟩⟩)
    exact List.mem_map.mpr ⟨_, hm, by rw [← es]⟩
  refine wn_in (rem_max nd ha hRB (fun x hx => ?_) fun p hp => ?_)
  · rw [wn_ks] at hx
    exact hLs.subset (((rem_sub t b L).map _).subset hx)
  · have := hR p hp
    omega
/-- two sequences that differ by one swap -/
theorem swap_stt {t : Tr} (nd : (nmL t).Nodup) (hv : TrV t) {pre suf : List Nat} {a b : Nat} (ha : 0 < a) (hab : a ≤ b) (hs : ∀ l ∈ suf, 0 < l) : ∀ p ∈ stt t (pre ++ a :: b :: suf), p ∈ stt t (pre ++ b :: a :: suf) := by
  have := stt_in nd (swap_in nd hv pre ha hab) suf hs
  simpa [List.append_assoc] using this
theorem stt_take (t : Tr) (ls : List Nat) (k : Nat) (h : stt t ls ≠ []) : stt t (ls.take k) ≠ [] := by
  induction ls using snoc_ind with
  | nil => rw [List.take_nil]; exact h
  | snoc ls l ih =>
    by_cases hk : k ≤ ls.length
    · rw [List.take_append_of_le_length hk]
      refine ih fun z => h ?_
      rw [stt_snoc, z, rem_nil]
      rfl
    · rw [List.take_of_length_le (by rw [List.length_append, List.length_singleton]; omega)]
      exact h
/-- the count says how long all goes well -/
theorem cnt_take {t : Tr} (h0 : L0 t ≠ []) (ls : List Nat) : ∀ k, k ≤ cntS (runS t ls).1 → stt t (ls.take k) ≠ [] := by
  induction ls using snoc_ind with
  | nil => intro k _; rw [List.take_nil]; exact h0
  | snoc ls l ih =>
    intro k hk
    by_cases h : stt t (ls ++ [l]) = []
    · have hc := (cnt_full h0 (ls ++ [l])).2 h
      have hc' : cntS (runS t (ls ++ [l])).1 ≤ ls.length := by rw [List.length_append, List.length_singleton] at hc; omega
      rw [List.take_append_of_le_length (by omega)]
      refine ih k ?_
      refine Nat.le_trans hk ?_
      rw [runS_snoc]
      unfold adv
      by_cases h2 : (runS t ls).2 = []
      · rw [if_pos h2]; exact Nat.le_refl _
      · rw [if_neg h2]
        have hr : rem t l (runS t ls).2 = [] := by
          have := h
          rw [stt_snoc] at this
          unfold wn at this
          exact List.map_eq_nil_iff.mp this
        unfold cntS
        rw [List.filter_append, List.length_append, List.filter_cons, List.filter_nil]
        simp only
        rw [hr]
        simp
    · exact stt_take t _ k h
end Wr.P
end

section
set_option Elab.async false
set_option linter.all false
set_option maxRecDepth 100000
set_option maxHeartbeats 4000000
/-! WyA: the law's own orders (for the variant in which tuples of ints are known). -/
namespace Wr.P
open PySem
section
variable {Ph : Nat → List PyData → Option PyData} {fr : Nat → Bool} {env : Ev} {i j : Nat} {k v a : E} {x y : PyData} {kds : List (PyData × PyData)} {o : Option Out} {b : Ss} {tg : Tg}
theorem s_tnw : exS Ph fr env (.tnw i) = some (.nx (env.set i (.dt []))) := by rw [exS]
theorem s_tn1 (h1 : evE Ph env k = some x) (h2 : evE Ph env v = some y) (hk : ktD x = true) : exS Ph fr env (.tn1 i k v) = some (.nx (env.set i (.dt [(x, y)]))) := by
  rw [exS, h1, h2]
  simp only [hk, if_true]
theorem s_tmv (h : env[j]? = some (.dt kds)) : exS Ph fr env (.tmv i j) = some (.nx ((env.set j .un).set i (.dt kds))) := by rw [exS, h]
theorem s_tpt (h1 : evE Ph env v = some y) (h2 : evE Ph env k = some x) (h3 : env[i]? = some (.dt kds)) (hk : ktD x = true) (hl : kds.length ≤ lim) : exS Ph fr env (.tpt i k v) = some (.nx (env.set i (.dt (putD kds x y)))) := by
  rw [exS, h1, h2, h3]
  simp only [hk, hl, decide_true, Bool.and_self, if_true]
theorem s_tfk (h : env[j]? = some (.dt kds)) (h2 : loopF tg (fun env => exSs Ph fr env b) (kds.map (·.1)) (env.set j .un) = o) : exS Ph fr env (.tfk tg j b) = o := by
  rw [exS, h]
  exact h2
theorem ev_tsr {d : PyData} (h : env[i]? = some (.dt kds)) (hs : sortedD (kds.map (·.1)) = some d) : evE Ph env (.tsr i) = some d := by
  rw [evE, h]
  exact hs
end
theorem plD_nats (ls : List Nat) : plD (ls.map iD) = true := by cases ls <;> rfl
theorem count_nats (l : Nat) : ∀ ls : List Nat, (ls.map fun l : Nat => (l : Int)).count (l : Int) = ls.count l
  | [] => rfl
  | a :: ls => by
    rw [List.map_cons, List.count_cons, List.count_cons, count_nats l ls]
    congr 1
    by_cases h : a = l
    · simp [h]
    · have : ¬ (a : Int) = (l : Int) := by omega
      simp [h, this]
theorem ints_nats (ls : List Nat) : intsD (ls.map iD) = some (ls.map fun l : Nat => (l : Int)) := by
  have := intsD_map (ls.map fun l : Nat => (l : Int))
  rw [List.map_map] at this
  exact this
theorem ev_cnt {Ph : Nat → List PyData → Option PyData} {env : Ev} {a : O} {x : E} {ls : List Nat} {l : Nat} (h1 : evO Ph env a = some (qD ls)) (h2 : evE Ph env x = some (iD l)) : evE Ph env (.cnt a x) = some (iD (ls.count l)) := by
  rw [evE, h1]
  simp only [h2, plD_nats, if_true, ints_nats, Option.map_some, count_nats]
/-! ### lists of orders -/
def insK (ks : List (List Nat)) (o : List Nat) : List (List Nat) := if o ∈ ks then ks else ks ++ [o]
def tbK (ks : List (List Nat)) : List (PyData × PyData) := ks.map fun o => (qD o, .bool true)
theorem eqv_nats : ∀ a b : List Nat, PyData.eqvAll (a.map iD) (b.map iD) = decide (a = b)
  | [], [] => by simp [PyData.eqvAll]
  | [], _ :: _ => by simp [PyData.eqvAll]
  | _ :: _, [] => by simp [PyData.eqvAll]
  | x :: a, y :: b => by
    rw [List.map_cons, List.map_cons, PyData.eqvAll, eqv_nats a b, PyData.eqv]
    by_cases h : x = y <;> by_cases h2 : a = b <;> simp [h, h2]
    intro z
    omega
theorem eqv_q (a b : List Nat) : PyData.eqv (qD a) (qD b) = decide (a = b) := by
  rw [PyData.eqv]
  exact eqv_nats a b
theorem any_tb (o : List Nat) : ∀ ks : List (List Nat), ((tbK ks).any fun kv => PyData.eqv kv.1 (qD o)) = decide (o ∈ ks)
  | [] => by simp [tbK]
  | k :: ks => by
    have ih := any_tb o ks
    unfold tbK at ih ⊢
    rw [List.map_cons, List.any_cons, ih, eqv_q]
    by_cases h : k = o
    · simp [h]
    · have : o ≠ k := fun z => h z.symm
      simp [h, this]
theorem put_tb (ks : List (List Nat)) (o : List Nat) : putD (tbK ks) (qD o) (.bool true) = tbK (insK ks o) := by
  unfold putD insK
  rw [any_tb]
  by_cases h : o ∈ ks
  · rw [if_pos (decide_eq_true h), if_pos h]
    unfold tbK
    rw [List.map_map]
    refine List.map_congr_left fun a _ => ?_
    simp
  · rw [if_neg (by simpa using h), if_neg h]
    simp [tbK]
theorem tb_keys (ks : List (List Nat)) : (tbK ks).map (·.1) = ks.map qD := by simp [tbK]
theorem tb_len (ks : List (List Nat)) : (tbK ks).length = ks.length := by simp [tbK]
theorem mem_insK {x o : List Nat} {ks : List (List Nat)} : x ∈ insK ks o ↔ x ∈ ks ∨ x = o := by
  unfold insK
  split
  · rename_i h
    exact ⟨.inl, fun z => z.elim id fun e => e ▸ h⟩
  · simp
theorem insK_len (ks : List (List Nat)) (o : List Nat) : (insK ks o).length ≤ ks.length + 1 := by
  unfold insK
  split
  · omega
  · simp
def stL (ls o : List Nat) (lo : List (List Nat)) (l : Nat) : List (List Nat) := if o.count l < ls.count l then insK lo (o ++ [l]) else lo
def stO (ls : List Nat) (lo : List (List Nat)) (o : List Nat) : List (List Nat) := ls.foldl (stL ls o) lo
def nxt (ls : List Nat) (os : List (List Nat)) : List (List Nat) := os.foldl (stO ls) []
def ordK (ls : List Nat) : Nat → List (List Nat)
  | 0 => [[]]
  | j + 1 => nxt ls (ordK ls j)
theorem stL_len (ls o : List Nat) (lo : List (List Nat)) (l : Nat) : (stL ls o lo l).length ≤ lo.length + 1 := by
  unfold stL
  split
  · exact insK_len _ _
  · omega
theorem foldL_len (ls o : List Nat) : ∀ (d : List Nat) (lo : List (List Nat)), (d.foldl (stL ls o) lo).length ≤ lo.length + d.length
  | [], lo => by simp
  | l :: d, lo => by
    have h1 := stL_len ls o lo l
    have h2 := foldL_len ls o d (stL ls o lo l)
    rw [List.foldl_cons, List.length_cons]
    omega
theorem foldO_len (ls : List Nat) : ∀ (os lo : List (List Nat)), (os.foldl (stO ls) lo).length ≤ lo.length + os.length * ls.length
  | [], lo => by simp
  | o :: os, lo => by
    have h1 : (stO ls lo o).length ≤ lo.length + ls.length := foldL_len ls o ls lo
    have h2 := foldO_len ls os (stO ls lo o)
    rw [List.foldl_cons, List.length_cons, Nat.succ_mul]
    omega
theorem ordK_len (ls : List Nat) : ∀ j, (ordK ls j).length ≤ ls.length ^ j
  | 0 => by simp [ordK]
  | j + 1 => by
    have h1 := ordK_len ls j
    have h2 := foldO_len ls (ordK ls j) []
    rw [ordK, nxt, Nat.pow_succ]
    have h3 := Nat.mul_le_mul_right ls.length h1
    simp only [List.length_nil] at h2
    omega
theorem pow6 {n j : Nat} (hn : n ≤ 6) (hj : j ≤ 6) : n ^ j ≤ 46656 := by
  have h1 : n ^ j ≤ 6 ^ j := Nat.pow_le_pow_left hn j
  have h2 : 6 ^ j ≤ 6 ^ 6 := Nat.pow_le_pow_right (by omega) hj
  omega
theorem mem_foldL {ls o x : List Nat} : ∀ {d : List Nat} {lo : List (List Nat)}, x ∈ d.foldl (stL ls o) lo ↔ x ∈ lo ∨ ∃ l ∈ d, o.count l < ls.count l ∧ x = o ++ [l]
  | [], lo => by simp
  | l :: d, lo => by
    rw [List.foldl_cons, mem_foldL]
    unfold stL
    split
    · rename_i h
      rw [mem_insK]
      constructor
      · rintro ((z | z) | ⟨m, hm, z⟩)
        · exact .inl z
        · exact .inr ⟨l, by simp, h, z⟩
        · exact .inr ⟨m, by simp [hm], z⟩
      · rintro (z | ⟨m, hm, z1, z2⟩)
        · exact .inl (.inl z)
        · rcases List.mem_cons.mp hm with rfl | hm
          · exact .inl (.inr z2)
          · exact .inr ⟨m, hm, z1, z2⟩
    · rename_i h
      constructor
      · rintro (z | ⟨m, hm, z⟩)
        · exact .inl z
        · exact .inr ⟨m, by simp [hm], z⟩
      · rintro (z | ⟨m, hm, z1, z2⟩)
        · exact .inl z
        · rcases List.mem_cons.mp hm with rfl | hm
          · exact absurd z1 h
          · exact .inr ⟨m, hm, z1, z2⟩
theorem mem_foldO {ls x : List Nat} : ∀ {os lo : List (List Nat)}, x ∈ os.foldl (stO ls) lo ↔ x ∈ lo ∨ ∃ o ∈ os, ∃ l ∈ ls, o.count l < ls.count l ∧ x = o ++ [l]
  | [], lo => by simp
  | o :: os, lo => by
    rw [List.foldl_cons, mem_foldO]
    unfold stO
    rw [mem_foldL]
    constructor
    · rintro ((z | z) | ⟨m, hm, z⟩)
      · exact .inl z
      · exact .inr ⟨o, by simp, z⟩
      · exact .inr ⟨m, by simp [hm], z⟩
    · rintro (z | ⟨m, hm, z⟩)
      · exact .inl (.inl z)
      · rcases List.mem_cons.mp hm with rfl | hm
        · exact .inl (.inr z)
        · exact .inr ⟨m, hm, z⟩
theorem mem_ordK {ls : List Nat} : ∀ {j : Nat} {x : List Nat}, x ∈ ordK ls j ↔ x.length = j ∧ ∀ a, x.count a ≤ ls.count a
  | 0, x => by
    rw [ordK, List.mem_singleton]
    constructor
    · rintro rfl
      exact ⟨rfl, fun a => by simp⟩
    · intro h
      exact List.length_eq_zero_iff.mp h.1
  | j + 1, x => by
    rw [ordK, nxt, mem_foldO]
    constructor
    · rintro (z | ⟨o, ho, l, hl, h1, rfl⟩)
      · cases z
      · obtain ⟨h2, h3⟩ := mem_ordK.mp ho
        refine ⟨by rw [List.length_append, h2]; rfl, fun a => ?_⟩
        rw [List.count_append, List.count_singleton]
        by_cases e : l = a
        · subst e
          simp
          omega
        · have := h3 a
          simp [e]
          omega
    · rintro ⟨h1, h2⟩
      right
      have hne : x ≠ [] := fun z => by rw [z] at h1; cases h1
      obtain ⟨o, l, rfl⟩ : ∃ o l, x = o ++ [l] := ⟨x.dropLast, x.getLast hne, (List.dropLast_concat_getLast hne).symm⟩
      have hl := h2 l
      rw [List.count_append, List.count_singleton] at hl
      simp only [beq_self_eq_true, if_true] at hl
      refine ⟨o, mem_ordK.mpr ⟨by rw [List.length_append] at h1; simpa using h1, fun a => ?_⟩, l, List.count_pos_iff.mp (by omega), by omega, rfl⟩
      have := h2 a
      rw [List.count_append] at this
      omega
theorem sub_perm : ∀ {x ls : List Nat}, x.length = ls.length → (∀ a, x.count a ≤ ls.count a) → x.Perm ls
  | [], ls, h, _ => by
    rw [List.length_eq_zero_iff.mp h.symm]
  | a :: x, ls, h, hc => by
    have ha : a ∈ ls := List.count_pos_iff.mp (by have := hc a; rw [List.count_cons_self] at this; omega)
    have hp := List.perm_cons_erase ha
    have hl := hp.length_eq
    rw [List.length_cons] at hl h
    refine (List.Perm.cons a (sub_perm (ls := ls.erase a) (by omega) fun b => ?_)).trans hp.symm
    have h1 := hc b
    have h2 := hp.count_eq b
    rw [List.count_cons] at h1 h2
    omega
theorem ordK_perm {ls x : List Nat} : x ∈ ordK ls ls.length ↔ x.Perm ls := by
  rw [mem_ordK]
  exact ⟨fun h => sub_perm h.1 h.2, fun h => ⟨h.length_eq, fun a => Nat.le_of_eq (h.count_eq a)⟩⟩
theorem noD_nats' : ∀ ls : List Nat, noDAll (ls.map iD) = true
  | [] => rfl
  | _ :: ls => by rw [List.map_cons, noDAll, noD_nats' ls]; rfl
theorem depth_nats' : ∀ ls : List Nat, PyData.depthAll (ls.map iD) = 0
  | [] => rfl
  | _ :: ls => by rw [List.map_cons, PyData.depthAll, depth_nats' ls]; rfl
theorem ky_nats : ∀ ls : List Nat, kyDs (ls.map iD) = true
  | [] => rfl
  | _ :: ls => by rw [List.map_cons, kyDs, ky_nats ls]; rfl
theorem kt_q (o : List Nat) : ktD (qD o) = true := by
  rw [ktD, ky_nats, PyData.depth, depth_nats']
  rfl
theorem alike_nats : ∀ a b : List Nat, PySem.W.alikeAll (a.map iD) (b.map iD) = true
  | [], _ => by simp [PySem.W.alikeAll]
  | _ :: _, [] => by simp [PySem.W.alikeAll]
  | x :: a, y :: b => by rw [List.map_cons, List.map_cons, PySem.W.alikeAll, alike_nats a b]; simp [PySem.W.alike]
def ltQ (a b : List Nat) : Bool := PySem.W.dataLt (qD a) (qD b)
theorem sorted_qs (os : List (List Nat)) : sortedD (os.map qD) = some (.list ((srt ltQ os).map qD)) := by
  rw [sorted_of, sortD_all ltQ qD fun a b => rfl]
  · intro x hx y hy
    obtain ⟨a, _, rfl⟩ := List.mem_map.mp hx
    obtain ⟨b, _, rfl⟩ := List.mem_map.mp hy
    rw [PySem.W.alike]
    exact alike_nats a b
  · unfold sortableD
    rw [Bool.or_eq_true]
    left
    rw [List.all_eq_true]
    intro x hx
    obtain ⟨a, _, rfl⟩ := List.mem_map.mp hx
    rfl
  · intro x hx
    obtain ⟨a, _, rfl⟩ := List.mem_map.mp hx
    exact ⟨by rw [noD]; exact noD_nats' a, by rw [PyData.depth, depth_nats']; omega⟩
def bO1 : Ss := forB (hdS (tlS b62))
def tfB : S → Ss
  | .tfk _ _ b => b
  | .tfi _ _ b => b
  | _ => .nil
def bO2 : Ss := tfB (hdS (tlS bO1))
def bO3 : Ss := forB (hdS bO2)
section
variable {T : Tab}
theorem ord_in {m : Nat} {ls o : List Nat} {lo : List (List Nat)} (ho : o.length ≤ 1000) (hlen : lo.length + ls.length ≤ lim) {s1 s2 s5 : Sl} :
    ∃ u5 : Sl, exSs (Phi T m) (frOf T) [.sh (qD ls), s1, s2, .dt (tbK lo), .sh (qD o), s5] bO2 = some (.nx [.sh (qD ls), s1, s2, .dt (tbK (stO ls lo o)), .sh (qD o), u5]) := by
  obtain ⟨env', he, u5, rfl⟩ := loopF_of (tg := .nm 5) (body := fun env => exSs (Phi T m) (frOf T) env bO3) (env := [.sh (qD ls), s1, s2, .dt (tbK lo), .sh (qD o), s5]) iD ls
    (fun done env => ∃ u5 : Sl, env = [.sh (qD ls), s1, s2, .dt (tbK (done.foldl (stL ls o) lo)), .sh (qD o), u5]) ⟨s5, rfl⟩ (by
      rintro done l rest env e ⟨u5, rfl⟩
      have hd : done.length ≤ ls.length := by rw [e, List.length_append]; omega
      have hfl := foldL_len ls o done lo
      rw [List.foldl_append]
      generalize done.foldl (stL ls o) lo = lo' at *
      have tst : evE (Phi T m) [.sh (qD ls), s1, s2, .dt (tbK lo'), .sh (qD o), .sh (iD l)] (.cmp .Lt (.ex (.cnt (.ex (.var 4)) (.var 5))) (.ex (.cnt (.ex (.var 0)) (.var 5)))) = some (.bool (decide (o.count l < ls.count l))) := by
        refine ev_cmp (ev_o (ev_cnt (ls := o) (l := l) rfl rfl)) (ev_o (ev_cnt (ls := ls) (l := l) rfl rfl)) ?_
        show some (decide _) = some (decide _)
        congr 1
        exact decide_eq_decide.mpr Int.ofNat_lt
      have hkey : evE (Phi T m) [.sh (qD ls), s1, s2, .dt (tbK lo'), .sh (qD o), .sh (iD l)] (.bin .Add (.ex (.var 4)) (.ex (.tup (.cons (.var 5) .nil)))) = some (qD (o ++ [l])) := by
        refine ev_bin (x := qD o) (y := .tuple [iD l]) rfl rfl ?_
        show (if _ then _ else none) = _
        rw [if_pos (by rw [List.length_map]; simp only [List.length_cons, List.length_nil]; unfold lim; omega)]
        show _ = some (PyData.tuple ((o ++ [l]).map iD))
        rw [List.map_append]
        rfl
      rw [List.foldl_cons, List.foldl_nil]
      unfold stL
      by_cases h : o.count l < ls.count l
      · rw [if_pos h]
        refine ⟨_, _, rfl, ss_cons (s_ift (ev_t tst h) (ss_cons (s_tpt (y := .bool true) rfl hkey rfl (kt_q _) (by rw [tb_len]; omega)) ss_nil)) ss_nil, .sh (iD l), ?_⟩
        rw [put_tb]
        rfl
      · rw [if_neg h]
        exact ⟨_, _, rfl, ss_cons (s_iff (ev_f tst h) ss_nil) ss_nil, .sh (iD l), rfl⟩)
  exact ⟨u5, ss_cons (s_for (ds := ls.map iD) rfl he) ss_nil⟩
theorem ord_turn {m : Nat} {ls : List Nat} (hls : ls.length ≤ 6) {j : Nat} (hj : j < ls.length) {s2 s3 s4 s5 : Sl} :
    ∃ u3 u4 u5 : Sl, exSs (Phi T m) (frOf T) [.sh (qD ls), .dt (tbK (ordK ls j)), s2, s3, s4, s5] bO1 = some (.nx [.sh (qD ls), .dt (tbK (ordK ls (j + 1))), s2, u3, u4, u5]) := by
  obtain ⟨env', he, u4, u5, rfl⟩ := loopF_of (tg := .nm 4) (body := fun env => exSs (Phi T m) (frOf T) env bO2) (env := [.sh (qD ls), .un, s2, .dt (tbK []), s4, s5]) qD (ordK ls j)
    (fun done env => ∃ u4 u5 : Sl, env = [.sh (qD ls), .un, s2, .dt (tbK (done.foldl (stO ls) [])), u4, u5]) ⟨s4, s5, rfl⟩ (by
      rintro done o rest env e ⟨u4, u5, rfl⟩
      have hd : done.length ≤ (ordK ls j).length := by rw [e, List.length_append]; omega
      have hol : o.length = j := (mem_ordK.mp (by rw [e]; simp : o ∈ ordK ls j)).1
      have hfl := foldO_len ls done []
      have hol2 := ordK_len ls j
      have hp := pow6 hls (j := j) (by omega)
      have hmul : done.length * ls.length ≤ 46656 * 6 := Nat.mul_le_mul (by omega) hls
      simp only [List.length_nil] at hfl
      rw [List.foldl_append]
      generalize done.foldl (stO ls) [] = lo at *
      obtain ⟨v5, h5⟩ := ord_in (T := T) (m := m) (ls := ls) (o := o) (lo := lo) (by omega) (by unfold lim; omega) (s1 := .un) (s2 := s2) (s5 := u5)
      exact ⟨_, _, rfl, h5, _, _, rfl⟩)
  rw [← tb_keys] at he
  have hk := s_tfk (Ph := Phi T m) (fr := frOf T) (tg := .nm 4) (b := bO2) (env := [.sh (qD ls), .dt (tbK (ordK ls j)), s2, .dt (tbK []), s4, s5]) (j := 1) (kds := tbK (ordK ls j)) rfl he
  exact ⟨.un, u4, u5, ss_cons s_tnw (ss_cons hk (ss_cons (s_tmv (kds := tbK (nxt ls (ordK ls j))) rfl) ss_nil))⟩
theorem orders_ok (h62 : T.lookup 62 = some F62) {ls : List Nat} (hls : ls.length ≤ 6) {n : Nat} (hn : 1 ≤ n) : ∃ os : List (List Nat), (∀ o, o ∈ os ↔ o.Perm ls) ∧ Phi T n 62 [qD ls] = some (.list (os.map qD)) := by
  obtain ⟨m, rfl⟩ : ∃ m, n = m + 1 := ⟨n - 1, by omega⟩
  rw [Phi_succ h62]
  obtain ⟨env', he, s2, s3, s4, s5, rfl⟩ := loopF_of (tg := .nm 2) (body := fun env => exSs (Phi T m) (frOf T) env bO1) (env := [.sh (qD ls), .dt (tbK (ordK ls 0)), .un, .un, .un, .un]) iD (List.range ls.length)
    (fun done env => ∃ s2 s3 s4 s5 : Sl, env = [.sh (qD ls), .dt (tbK (ordK ls done.length)), s2, s3, s4, s5]) ⟨.un, .un, .un, .un, rfl⟩ (by
      rintro done k rest env e ⟨s2, s3, s4, s5, rfl⟩
      have hd : done.length < ls.length := by
        have := congrArg List.length e
        rw [List.length_range, List.length_append, List.length_cons] at this
        omega
      obtain ⟨u3, u4, u5, h⟩ := ord_turn (T := T) (m := m) hls hd (s2 := .sh (iD k)) (s3 := s3) (s4 := s4) (s5 := s5)
      refine ⟨_, _, rfl, h, .sh (iD k), u3, u4, u5, ?_⟩
      rw [List.length_append]
      rfl)
  rw [List.length_range] at he
  refine ⟨srt ltQ (ordK ls ls.length), fun o => ?_, run_ret rfl rfl (b := false) (ss_cons (s_tn1 (x := .tuple []) (y := .bool true) rfl rfl rfl) (ss_cons (s_for (ds := (List.range ls.length).map iD) ?_ he) (ss_rt (s_ret (ev_tsr rfl ?_)))))⟩
  · rw [(srt_perm ltQ _).mem_iff]
    exact ordK_perm
  · show (if rngOk 0 ((ls.map iD).length : Int) = true then some (rngD 0 ((ls.map iD).length : Int)) else none) = _
    rw [List.length_map, if_pos (by unfold rngOk; simp; omega)]
    unfold rngD
    rw [show ((ls.length : Int) - 0).toNat = ls.length by omega]
    congr 1
    refine List.map_congr_left fun k _ => ?_
    show PyData.int _ = PyData.int _
    congr 1
    omega
  · rw [tb_keys]
    exact sorted_qs _
end
end Wr.P
end

section
set_option Elab.async false
set_option linter.all false
set_option maxRecDepth 100000
set_option maxHeartbeats 4000000
/-! WyB: the descending order is the best one, the ascending order the worst; names that remain. -/
namespace Wr.P
open PySem
def gtN (a b : Nat) : Bool := decide (b < a)
section
variable {t : Tr}
/-- a light load moves behind heavier ones -/
theorem ins_best (nd : (nmL t).Nodup) (hv : TrV t) {a : Nat} (ha : 0 < a) : ∀ (d pre : List Nat), (∀ l ∈ d, 0 < l) → ∀ p ∈ stt t (pre ++ a :: d), p ∈ stt t (pre ++ ins1 gtN a d)
  | [], pre, _, p, hp => hp
  | b :: d, pre, h, p, hp => by
    rw [ins1]
    unfold gtN
    by_cases hab : a < b
    · rw [if_pos (decide_eq_true hab)]
      have h1 := swap_stt nd hv (pre := pre) (suf := d) ha (Nat.le_of_lt hab) (fun l hl => h l (by simp [hl])) p hp
      have e1 : pre ++ b :: a :: d = (pre ++ [b]) ++ a :: d := by simp
      rw [e1] at h1
      have h2 := ins_best nd hv ha d (pre ++ [b]) (fun l hl => h l (by simp [hl])) p h1
      rw [List.append_assoc] at h2
      exact h2
    · rw [if_neg (by simpa using hab)]
      exact hp
theorem srt_best (nd : (nmL t).Nodup) (hv : TrV t) : ∀ (o pre : List Nat), (∀ l ∈ o, 0 < l) → ∀ p ∈ stt t (pre ++ o), p ∈ stt t (pre ++ srt gtN o)
  | [], pre, _, p, hp => hp
  | a :: o, pre, h, p, hp => by
    rw [srt]
    have e1 : pre ++ a :: o = (pre ++ [a]) ++ o := by simp
    rw [e1] at hp
    have h1 := srt_best nd hv o (pre ++ [a]) (fun l hl => h l (by simp [hl])) p hp
    rw [List.append_assoc] at h1
    exact ins_best nd hv (h a (by simp)) (srt gtN o) pre (fun l hl => h l (by rw [List.mem_cons, ← (srt_perm gtN o).mem_iff]; exact .inr hl)) p h1
theorem ins_worst (nd : (nmL t).Nodup) (hv : TrV t) {a : Nat} : ∀ (d pre : List Nat), (∀ l ∈ d, 0 < l) → ∀ p ∈ stt t (pre ++ ins1 ltN a d), p ∈ stt t (pre ++ a :: d)
  | [], pre, _, p, hp => hp
  | b :: d, pre, h, p, hp => by
    rw [ins1] at hp
    unfold ltN at hp
    by_cases hab : b < a
    · rw [if_pos (decide_eq_true hab)] at hp
      have e1 : pre ++ b :: ins1 (fun a b => decide (a < b)) a d = (pre ++ [b]) ++ ins1 ltN a d := by rw [List.append_assoc]; rfl
      rw [e1] at hp
      have h2 := ins_worst nd hv d (pre ++ [b]) (fun l hl => h l (by simp [hl])) p hp
      rw [List.append_assoc] at h2
      exact swap_stt nd hv (pre := pre) (suf := d) (h b (by simp)) (Nat.le_of_lt hab) (fun l hl => h l (by simp [hl])) p h2
    · rw [if_neg (by simpa using hab)] at hp
      exact hp
theorem srt_worst (nd : (nmL t).Nodup) (hv : TrV t) : ∀ (o pre : List Nat), (∀ l ∈ o, 0 < l) → ∀ p ∈ stt t (pre ++ srt ltN o), p ∈ stt t (pre ++ o)
  | [], pre, _, p, hp => hp
  | a :: o, pre, h, p, hp => by
    rw [srt] at hp
    have h1 := ins_worst nd hv (srt ltN o) pre (fun l hl => h l (by rw [List.mem_cons, ← (srt_perm ltN o).mem_iff]; exact .inr hl)) p hp
    have e1 : pre ++ a :: srt ltN o = (pre ++ [a]) ++ srt ltN o := by simp
    rw [e1] at h1
    have h2 := srt_worst nd hv o (pre ++ [a]) (fun l hl => h l (by simp [hl])) p h1
    rw [List.append_assoc] at h2
    exact h2
/-- two ordered lists of the same loads -/
theorem sorted_uniq : ∀ {a b : List Nat}, a.Pairwise (· ≤ ·) → b.Pairwise (· ≤ ·) → a.Perm b → a = b
  | [], b, _, _, h => by rw [List.nil_perm.mp h]
  | x :: a, [], _, _, h => by have := h.length_eq; simp at this
  | x :: a, y :: b, ha, hb, h => by
    rw [List.pairwise_cons] at ha hb
    have hxy : x = y := by
      have h1 : x ∈ y :: b := h.mem_iff.mp (by simp)
      have h2 : y ∈ x :: a := h.mem_iff.mpr (by simp)
      rcases List.mem_cons.mp h1 with e | e
      · exact e
      · rcases List.mem_cons.mp h2 with e2 | e2
        · exact e2.symm
        · have := ha.1 y e2
          have := hb.1 x e
          omega
    subst hxy
    rw [sorted_uniq ha.2 hb.2 (List.Perm.cons_inv h)]
theorem srtG_sorted : ∀ ls : List Nat, (srt gtN ls).Pairwise (fun a b => b ≤ a)
  | [] => .nil
  | x :: r => by
    rw [srt]
    have ih := srtG_sorted r
    generalize srt gtN r = s at ih
    induction s with
    | nil => exact List.pairwise_singleton ..
    | cons y s ihs =>
      rw [List.pairwise_cons] at ih
      rw [ins1]
      by_cases h : x < y
      · rw [if_pos (by unfold gtN; simpa using h), List.pairwise_cons]
        refine ⟨fun z hz => ?_, ihs ih.2⟩
        rcases List.mem_cons.mp ((ins1_perm gtN x s).mem_iff.mp hz) with e | hz
        · omega
        · exact ih.1 z hz
      · rw [if_neg (by unfold gtN; simpa using h), List.pairwise_cons, List.pairwise_cons]
        refine ⟨fun z hz => ?_, ih⟩
        rcases List.mem_cons.mp hz with e | hz
        · omega
        · have := ih.1 z hz
          omega
theorem srtG_eq {o ls : List Nat} (hs : ls.Pairwise (· ≤ ·)) (hp : o.Perm ls) : srt gtN o = ls.reverse := by
  have h1 : (srt gtN o).reverse.Pairwise (· ≤ ·) := List.pairwise_reverse.mpr (srtG_sorted o)
  have h2 : (srt gtN o).reverse.Perm ls := (List.reverse_perm _).trans ((srt_perm gtN o).trans hp)
  rw [← sorted_uniq h1 hs h2, List.reverse_reverse]
theorem srtN_eq {o ls : List Nat} (hs : ls.Pairwise (· ≤ ·)) (hp : o.Perm ls) : srt ltN o = ls :=
  sorted_uniq (srtN_sorted o) hs ((srt_perm ltN o).trans hp)
theorem desc_best (nd : (nmL t).Nodup) (hv : TrV t) {o ls : List Nat} (hs : ls.Pairwise (· ≤ ·)) (hp : o.Perm ls) (h : ∀ l ∈ ls, 0 < l) : ∀ p ∈ stt t o, p ∈ stt t ls.reverse := by
  have := srt_best nd hv o [] fun l hl => h l (hp.mem_iff.mp hl)
  rw [srtG_eq hs hp] at this
  exact this
theorem asc_worst (nd : (nmL t).Nodup) (hv : TrV t) {o ls : List Nat} (hs : ls.Pairwise (· ≤ ·)) (hp : o.Perm ls) (h : ∀ l ∈ ls, 0 < l) : ∀ p ∈ stt t ls, p ∈ stt t o := by
  have := srt_worst nd hv o [] fun l hl => h l (hp.mem_iff.mp hl)
  rw [srtN_eq hs hp] at this
  exact this
end
theorem ne_of_in {L M : SL} (h : ∀ p ∈ L, p ∈ M) (hL : L ≠ []) : M ≠ [] := by
  obtain ⟨p, hp⟩ := List.exists_mem_of_ne_nil _ hL
  exact List.ne_nil_of_mem (h p hp)
/-! ### names that remain -/
def nmR (t : Tr) (o : List Nat) : List Str := srt ltS (ks (stt t o))
theorem nmR_nil {t : Tr} {o : List Nat} : nmR t o = [] ↔ stt t o = [] := by
  unfold nmR
  constructor
  · intro h
    have := (srt_perm ltS (ks (stt t o))).length_eq
    rw [h] at this
    have h2 : (ks (stt t o)).length = 0 := by simpa using this.symm
    unfold ks at h2
    rw [List.length_map] at h2
    exact List.length_eq_zero_iff.mp h2
  · intro h
    rw [h]
    rfl
theorem mem_nmR {t : Tr} {o : List Nat} {x : Str} : x ∈ nmR t o ↔ x ∈ ks (stt t o) := (srt_perm ltS _).mem_iff
theorem rem_names (L : SL) : (srt lt1 (sD L)).map (·.1) = srt ltS (ks L) := by
  have h1 : srt ltS ((sD L).map (·.1)) = (srt lt1 (sD L)).map (·.1) := srt_map lt1 ltS (·.1) (fun a b => rfl) (sD L)
  rw [← h1, sD_keys]
section
variable {T : Tab}
theorem same11 (h11 : T.lookup 11 = some F11) (a b : Bool) {n : Nat} (hn : 1 ≤ n) : Phi T n 11 [.bool a, .bool b] = some (.bool (a == b)) := by
  obtain ⟨m, rfl⟩ : ∃ m, n = m + 1 := ⟨n - 1, by omega⟩
  rw [Phi_succ h11]
  refine run_ret rfl rfl (b := false) (ss_rt (s_ret ?_))
  have h2 : evE (Phi T m) [.sh (.bool a), .sh (.bool b)] (.cmp .Eq (.ex (.var 0)) (.ex (.var 1))) = some (.bool (a == b)) := ev_cmp rfl rfl (eqD_bool a b)
  show evAnd (Phi T m) [.sh (.bool a), .sh (.bool b)] _ = _
  rw [evAnd, show evE (Phi T m) [.sh (.bool a), .sh (.bool b)] (.isi (.ex (.var 0)) [.bool]) = some (.bool true) from rfl]
  show evAnd (Phi T m) [.sh (.bool a), .sh (.bool b)] (.cons _ .nil) = _
  rw [evAnd, h2]
  cases (a == b) <;> rfl
theorem left_names {m : Nat} {t : Tr} (ht : TrOk t) {env : Ev} {e : E} {o : List Nat} (h : evE (Phi T m) env e = some (D (sD (stt t o)))) : evE (Phi T m) env (.blt .sorted1 (.cons e .nil)) = some (.list ((nmR t o).map .str)) := by
  refine ev_blt (es_cons h rfl) ?_
  show sortedD ((dct (sD (stt t o))).map (·.1)) = _
  have e1 : (dct (sD (stt t o))).map (·.1) = (ks (stt t o)).map PyData.str := by simp only [dct, sD, ks, List.map_map, Function.comp_def]
  rw [e1, sorted_strs (ht.nd.sublist (run_sub t o))]
  rfl
theorem names_ok (F : Tabs T) (h31 : T.lookup 31 = some F31) (h60 : T.lookup 60 = some F60) {t : Tr} (ht : TrOk t) (hv : TrV t) {ls : List Nat} (hl : ∀ l ∈ ls, 0 < l ∧ l < 1000000) (hlen : ls.length ≤ 1000) {n : Nat} (hn : 19 ≤ n) :
    Phi T n 60 [enc t, qD ls] = some (tS (nmR t ls)) := by
  obtain ⟨m, rfl⟩ : ∃ m, n = m + 1 := ⟨n - 1, by omega⟩
  rw [Phi_succ h60]
  have hrem := remaining_ok F h31 ht hv hl hlen (.t ls) (n := m) (by omega)
  have hcp : evE (Phi T m) [.sh (enc t), .sh (qD ls), .un, .un] (.cpr (.var 2) (.tp (.cons (.nm 2) (.cons (.nm 3) .nil))) (.val (.call 31 (.cons (.var 0) (.cons (.var 1) .nil)))) .nil) = some (.list ((srt lt1 (sD (stt t ls))).map fun p => .str p.1)) := by
    refine ev_cpm itm _ (srt lt1 (sD (stt t ls))) ?_ fun p hp => ⟨_, rfl, rfl⟩
    rw [evI, ev_call (ds := [enc t, qD ls]) rfl hrem]
    rfl
  refine run_ret rfl rfl (b := false) (ss_rt (s_ret (ev_blt (es_cons hcp rfl) ?_)))
  show some (PyData.tuple _) = _
  have e1 : (srt lt1 (sD (stt t ls))).map (fun p => PyData.str p.1) = ((srt lt1 (sD (stt t ls))).map (·.1)).map .str := by rw [List.map_map]; rfl
  rw [e1, rem_names]
  rfl
theorem best_ok (F : Tabs T) (h30 : T.lookup 30 = some F30) (h31 : T.lookup 31 = some F31) (h58 : T.lookup 58 = some F58) (h59 : T.lookup 59 = some F59) (h60 : T.lookup 60 = some F60) (h61 : T.lookup 61 = some F61) {t : Tr} (ht : TrOk t) (hv : TrV t) {ls : List Nat} (hl : ∀ l ∈ ls, 0 < l ∧ l < 1000000) (hlen : ls.length ≤ 1000) {n : Nat} (hn : 21 ≤ n) :
    Phi T n 61 [enc t, qD ls] = some (if stt t ls.reverse ≠ [] then tS (nmR t ls.reverse) else .none) := by
  obtain ⟨m, rfl⟩ : ∃ m, n = m + 1 := ⟨n - 1, by omega⟩
  rw [Phi_succ h61]
  have hf := feas_ok F h30 h58 h59 ht hv hl hlen (n := m) (by omega)
  have hn2 := names_ok F h31 h60 ht hv (ls := ls.reverse) (fun l h => hl l (List.mem_reverse.mp h)) (by rw [List.length_reverse]; exact hlen) (n := m) (by omega)
  have hrev : revD (qD ls) = some (qD ls.reverse) := by
    show some (PyData.tuple _) = _
    rw [← List.map_reverse]
  refine run_ret rfl rfl (b := false) (ss_rt (s_ret ?_))
  by_cases h : stt t ls.reverse ≠ []
  · rw [if_pos h]
    rw [decide_eq_true h] at hf
    exact ev_ift (ev_call rfl hf) (ev_call (es_cons rfl (es_cons (ev_rev rfl hrev) rfl)) hn2)
  · rw [if_neg h]
    rw [decide_eq_false h] at hf
    exact ev_iff (ev_call rfl hf) rfl
end
end Wr.P
end

section
set_option Elab.async false
set_option linter.all false
set_option maxRecDepth 100000
set_option maxHeartbeats 4000000
/-! WyC: law k06. -/
namespace Wr.P
open PySem
def thB : S → Ss
  | .ife _ a _ => a
  | _ => .nil
theorem rev_q (ls : List Nat) : revD (qD ls) = some (qD ls.reverse) := by
  show some (PyData.tuple _) = _
  rw [← List.map_reverse]
/-- a comprehension that keeps some -/
theorem ev_cpf {α : Type} {Ph : Nat → List PyData → Option PyData} {env : Ev} {i : Nat} {it : I} {c : E} (e : α → PyData) (p : α → Bool) (as : List α) (hi : evI Ph env it = some (as.map e)) (hlt : i < env.length)
    (h : ∀ a ∈ as, evE Ph (env.set i (.sh (e a))) c = some (.bool (p a))) : evE Ph env (.cpr (.var i) (.nm i) it (.cons c .nil)) = some (.list ((as.filter p).map e)) := by
  rw [filter_fm2]
  refine ev_cpr e _ as hi fun a ha => ⟨env.set i (.sh (e a)), ?_, ?_⟩
  · show some (((wipeE env [i])).set i _) = _
    show some ((env.set i .un).set i _) = _
    rw [List.set_set]
  · have := h a ha
    rw [evAnd, this]
    cases p a with
    | true =>
      left
      refine ⟨rfl, e a, rfl, ?_⟩
      rw [evE, List.getElem?_set]
      simp [hlt]
    | false => exact .inr ⟨rfl, rfl⟩
theorem eqD_tS (a b : List Str) : eqD (tS a) (tS b) = some (decide (a = b)) := by
  have h : ∀ c : List Str, noD (tS c) = true := fun c => by rw [noD]; exact noDAll_str _
  have hd : ∀ c : List Str, (tS c).depth = 1 := fun c => by rw [PyData.depth, depthAll_str]
  show (if (noD (tS a) && noD (tS b) && decide (min (tS a).depth (tS b).depth ≤ 64)) = true then some (PyData.eqv (tS a) (tS b)) else none) = _
  rw [h, h, hd, hd, PyData.eqv, eqvAll_str]
  rfl
theorem strs_nil (a : List Str) : eqD (.list (a.map .str)) (.list []) = some (decide (a = [])) := by
  rw [eqD_nil]
  cases a <;> rfl
structure K06 (T : Tab) : Prop where
  F : Tabs T
  G : LawTabs T
  f8 : T.lookup 8 = some F8
  f9 : T.lookup 9 = some F9
  f11 : T.lookup 11 = some F11
  f18 : T.lookup 18 = some F18
  f19 : T.lookup 19 = some F19
  f30 : T.lookup 30 = some F30
  f31 : T.lookup 31 = some F31
  f37 : T.lookup 37 = some F37
  f38 : T.lookup 38 = some F38
  f47 : T.lookup 47 = some F47
  f58 : T.lookup 58 = some F58
  f59 : T.lookup 59 = some F59
  f60 : T.lookup 60 = some F60
  f61 : T.lookup 61 = some F61
  f62 : T.lookup 62 = some F62
  f63 : T.lookup 63 = some F63
def bT06 : Ss := forB (hdS (tlS (tlS (tlS (forB (hdS b63))))))
def bI06 : Ss := forB (hdS (tlS (thB (hdS (tlS (tlS (tlS (tlS (tlS (tlS (tlS (tlS bT06)))))))))))) 
section
variable {T : Tab}
theorem turn06 (K : K06 T) {t : Tr} (hR : Rig t 6) {d2 : List Int} (hl2 : d2.length = 60) (hd2 : ∀ d ∈ d2, 0 ≤ d) {top k : Nat} (t1 : 1 ≤ top) (t2 : top ≤ 300000) (hk : k < 3) {a0 a1 : Sl} {s6 s7 s8 s9 s10 s11 s12 : Sl} :
    ∃ u6 u7 u8 u9 u10 u11 u12 : Sl, exSs (Phi T 59) (frOf T) [a0, a1, .sh (enc t), .sh (L d2), .sh (iD top), .sh (iD k), s6, s7, s8, s9, s10, s11, s12] bT06 = some (.nx [a0, a1, .sh (enc t), .sh (L d2), .sh (iD top), .sh (iD k), u6, u7, u8, u9, u10, u11, u12]) := by
  obtain ⟨ht, hv, hp⟩ := hR.ok' (by omega)
  have hcut : slcD (L d2) (.int (12 * (k : Int))) .none = some (L (d2.drop (12 * k))) := by
    rw [slc_l, cut_from (by omega) (by rw [List.length_map]; omega), show (12 * (k : Int)).toNat = 12 * k by omega]
    simp [L]
  obtain ⟨lo, o1, o2, o3, e6⟩ := loads_ok (n := 58) K.f38 (ds := d2.drop (12 * k)) (by rw [List.length_drop]; omega) (fun d h => hd2 d (List.mem_of_mem_drop h)) (m := 5) (top := top) (by omega) (by omega) (by omega)
  have hpos : ∀ l ∈ lo, 0 < l ∧ l < 1000000 := fun l h => by have := o3 l h; omega
  obtain ⟨os, hos, e62⟩ := orders_ok K.f62 (ls := lo) (by omega) (n := 59) (by omega)
  have hol : ∀ o ∈ os, o.length ≤ 1000 := fun o ho => by rw [((hos o).mp ho).length_eq]; omega
  have hbest := best_ok K.F K.f30 K.f31 K.f58 K.f59 K.f60 K.f61 ht hv hpos (by omega) (n := 59) (by omega)
  have hfeas := feas_ok K.F K.f30 K.f58 K.f59 ht hv hpos (by omega) (n := 59) (by omega)
  have hworks := works_ok K.G K.f47 ht hv (ls := lo.reverse) (by rw [List.length_reverse]; omega) (n := 59) (by omega)
  have hleft := left_ok K.G ht hv (ls := lo.reverse) (by rw [List.length_reverse]; omega) (.t _) (n := 59) (by omega)
  -- the orders' results
  let vd : List (List Str) := (os.map (nmR t)).filter fun a => decide (a ≠ [])
  have hvd : vd ≠ [] ↔ stt t lo.reverse ≠ [] := by
    constructor
    · intro h
      obtain ⟨a, ha⟩ := List.exists_mem_of_ne_nil _ h
      obtain ⟨h1, h2⟩ := List.mem_filter.mp ha
      obtain ⟨o, ho, rfl⟩ := List.mem_map.mp h1
      rw [decide_eq_true_eq] at h2
      exact ne_of_in (desc_best ht.nd hv o1 ((hos o).mp ho) fun l hl => (hpos l hl).1) fun z => h2 (nmR_nil.mpr z)
    · intro h
      refine List.ne_nil_of_mem (a := nmR t lo.reverse) (List.mem_filter.mpr ⟨List.mem_map.mpr ⟨lo.reverse, (hos _).mpr (List.reverse_perm lo), rfl⟩, ?_⟩)
      rw [decide_eq_true_eq]
      exact fun z => h (nmR_nil.mp z)
  have hsub : ∀ a ∈ vd, ∀ x ∈ a, x ∈ nmR t lo.reverse := fun a ha x hx => by
    obtain ⟨o, ho, rfl⟩ := List.mem_map.mp (List.mem_filter.mp ha).1
    obtain ⟨p, hp, rfl⟩ := List.mem_map.mp (mem_nmR.mp hx)
    exact mem_nmR.mpr (List.mem_map.mpr ⟨p, desc_best ht.nd hv o1 ((hos o).mp ho) (fun l hl => (hpos l hl).1) p hp, rfl⟩)
  have h7 : evE (Phi T 59) [a0, a1, .sh (enc t), .sh (L d2), .sh (iD top), .sh (iD k), .sh (qD lo), s7, s8, s9, s10, s11, s12] (.cpr (.blt .sorted1 (.cons (.call 36 (.cons (.var 2) (.cons (.var 8) .nil))) .nil)) (.nm 8) (.val (.call 62 (.cons (.var 6) .nil))) .nil) = some (.list ((os.map (nmR t)).map fun a => .list (a.map .str))) := by
    rw [List.map_map]
    refine ev_cpm qD _ os ?_ fun o ho => ⟨[a0, a1, .sh (enc t), .sh (L d2), .sh (iD top), .sh (iD k), .sh (qD lo), s7, .sh (qD o), s9, s10, s11, s12], rfl, left_names ht (o := o) ?_⟩
    · rw [evI, ev_call (ds := [qD lo]) rfl e62]
      rfl
    · exact ev_call rfl (left_ok K.G ht hv (hol o ho) (.t _) (n := 59) (by omega))
  have h9 : ∀ s9 : Sl, evE (Phi T 59) [a0, a1, .sh (enc t), .sh (L d2), .sh (iD top), .sh (iD k), .sh (qD lo), .sh (.list ((os.map (nmR t)).map fun a => .list (a.map .str))), s8, s9, s10, s11, s12] (.cpr (.var 10) (.nm 10) (.vr 7) (.cons (.cmp .NotEq (.ex (.var 10)) (.ex (.lst .nil))) .nil)) = some (.list (vd.map fun a => .list (a.map .str))) := fun s9 => by
    refine ev_cpf (fun a : List Str => .list (a.map .str)) _ (os.map (nmR t)) rfl (Nat.lt_of_lt_of_eq (by decide : 10 < 13) rfl) fun a ha => ?_
    refine ev_cmp (x := .list (a.map .str)) rfl rfl ?_
    show (eqD (.list (a.map .str)) (.list [])).map (!·) = _
    rw [strs_nil]
    simp
  have tn : ∀ s10 s11 s12 : Sl, evE (Phi T 59) [a0, a1, .sh (enc t), .sh (L d2), .sh (iD top), .sh (iD k), .sh (qD lo), .sh (.list ((os.map (nmR t)).map fun a => .list (a.map .str))), s8, .sh (.list (vd.map fun a => .list (a.map .str))), s10, s11, s12] (.cmp .NotEq (.ex (.var 9)) (.ex (.lst .nil))) = some (.bool (decide (vd ≠ []))) := fun s10 s11 s12 => by
    refine ev_cmp rfl rfl ?_
    show (eqD (.list _) (.list [])).map (!·) = _
    rw [eqD_nil]
    cases vd <;> rfl
  have te : ∀ s10 s11 s12 : Sl, evE (Phi T 59) [a0, a1, .sh (enc t), .sh (L d2), .sh (iD top), .sh (iD k), .sh (qD lo), .sh (.list ((os.map (nmR t)).map fun a => .list (a.map .str))), s8, .sh (.list (vd.map fun a => .list (a.map .str))), s10, s11, s12] (.cmp .Eq (.ex (.var 9)) (.ex (.lst .nil))) = some (.bool (decide (vd = []))) := fun s10 s11 s12 => by
    refine ev_cmp rfl rfl ?_
    show eqD (.list _) (.list []) = _
    rw [eqD_nil]
    cases vd <;> rfl
  have hdv : decide (vd ≠ []) = decide (stt t lo.reverse ≠ []) := decide_eq_decide.mpr hvd
  generalize hB : (if stt t lo.reverse ≠ [] then tS (nmR t lo.reverse) else PyData.none) = best at hbest
  have c1 : evE (Phi T 59) [a0, a1, .sh (enc t), .sh (L d2), .sh (iD top), .sh (iD k), .sh (qD lo), .sh (.list ((os.map (nmR t)).map fun a => .list (a.map .str))), s8, .sh (.list (vd.map fun a => .list (a.map .str))), s10, .sh best, s12] (.not (.call 11 (.cons (.call 59 (.cons (.var 2) (.cons (.var 6) .nil))) (.cons (.cmp .NotEq (.ex (.var 9)) (.ex (.lst .nil))) .nil)))) = some (.bool false) := by
    refine ev_not (v := true) (ev_call (es_cons (ev_call rfl hfeas) (es_cons (tn _ _ _) rfl)) ?_)
    rw [hdv, same11 K.f11 _ _ (by omega)]
    simp
  have c2a : evE (Phi T 59) [a0, a1, .sh (enc t), .sh (L d2), .sh (iD top), .sh (iD k), .sh (qD lo), .sh (.list ((os.map (nmR t)).map fun a => .list (a.map .str))), s8, .sh (.list (vd.map fun a => .list (a.map .str))), s10, .sh best, s12] (.cmp .NotEq (.ex (.call 47 (.cons (.var 2) (.cons (.rev (.ex (.var 6))) .nil)))) (.ex (.cmp .NotEq (.ex (.var 9)) (.ex (.lst .nil))))) = some (.bool false) := by
    refine ev_cmp (v := false) (ev_o (ev_call (es_cons rfl (es_cons (ev_rev rfl (rev_q lo)) rfl)) hworks)) (ev_o (tn _ _ _)) ?_
    show (eqD (.bool _) (.bool _)).map (!·) = _
    rw [eqD_bool, hdv]
    simp
  have hisn : cmpD .Is best .none = some (decide (vd = [])) := by
    rw [← hB]
    by_cases h : stt t lo.reverse ≠ []
    · rw [if_pos h, decide_eq_false (hvd.mpr h)]
      rfl
    · rw [if_neg h, decide_eq_true (Classical.byContradiction fun z => h (hvd.mp z))]
      rfl
  have c2b : evE (Phi T 59) [a0, a1, .sh (enc t), .sh (L d2), .sh (iD top), .sh (iD k), .sh (qD lo), .sh (.list ((os.map (nmR t)).map fun a => .list (a.map .str))), s8, .sh (.list (vd.map fun a => .list (a.map .str))), s10, .sh best, s12] (.cmp .NotEq (.ex (.cmp .Is (.ex (.var 11)) (.ex (.cst .none)))) (.ex (.cmp .Eq (.ex (.var 9)) (.ex (.lst .nil))))) = some (.bool false) := by
    refine ev_cmp (v := false) (ev_o (ev_cmp rfl rfl hisn)) (ev_o (te _ _ _)) ?_
    show (eqD (.bool _) (.bool _)).map (!·) = _
    rw [eqD_bool]
    simp
  have c2 : evE (Phi T 59) [a0, a1, .sh (enc t), .sh (L d2), .sh (iD top), .sh (iD k), .sh (qD lo), .sh (.list ((os.map (nmR t)).map fun a => .list (a.map .str))), s8, .sh (.list (vd.map fun a => .list (a.map .str))), s10, .sh best, s12] (.or (.cons (.cmp .NotEq (.ex (.call 47 (.cons (.var 2) (.cons (.rev (.ex (.var 6))) .nil)))) (.ex (.cmp .NotEq (.ex (.var 9)) (.ex (.lst .nil))))) (.cons (.cmp .NotEq (.ex (.cmp .Is (.ex (.var 11)) (.ex (.cst .none)))) (.ex (.cmp .Eq (.ex (.var 9)) (.ex (.lst .nil))))) .nil))) = some (.bool false) := by
    rw [evE, evOr, c2a]
    show evOr _ _ (.cons _ _) = _
    rw [evOr, c2b]
    rfl
  have cut6 : evE (Phi T 59) [a0, a1, .sh (enc t), .sh (L d2), .sh (iD top), .sh (iD k), s6, s7, s8, s9, s10, s11, s12] (.call 38 (.cons (.slc (.ex (.var 3)) (.bin .Mult (.ex (.cst (.int 12))) (.ex (.var 5))) (.cst .none)) (.cons (.cst (.int 5)) (.cons (.var 4) .nil)))) = some (qD lo) :=
    ev_call (es_cons (ev_slc rfl (ev_bin rfl rfl (bd_mull (by decide))) rfl hcut) rfl) e6
  have first : ∀ {ss : Ss} {out : Option Out}, exSs (Phi T 59) (frOf T) [a0, a1, .sh (enc t), .sh (L d2), .sh (iD top), .sh (iD k), .sh (qD lo), .sh (.list ((os.map (nmR t)).map fun a => .list (a.map .str))), s8, .sh (.list (vd.map fun a => .list (a.map .str))), s10, .sh best, s12] (.cons (hdS (tlS (tlS (tlS (tlS (tlS (tlS (tlS (tlS bT06))))))))) .nil) = out →
      exSs (Phi T 59) (frOf T) [a0, a1, .sh (enc t), .sh (L d2), .sh (iD top), .sh (iD k), s6, s7, s8, s9, s10, s11, s12] bT06 = out := fun {ss out} h =>
    ss_cons (s_asg (d := qD lo) cut6 (fr_call K.f38 rfl)) (ss_cons (s_own h7) (ss_cons (s_shr rfl) (ss_cons (s_own (h9 s9)) (ss_cons (s_shr rfl) (ss_cons (s_asg (d := best) (ev_call rfl hbest) (fr_call K.f61 rfl)) (ss_cons (s_iff c1 ss_nil) (ss_cons (s_iff c2 ss_nil) h)))))))
  by_cases h : stt t lo.reverse ≠ []
  · rw [if_pos h] at hB
    subst hB
    have c3 : evE (Phi T 59) [a0, a1, .sh (enc t), .sh (L d2), .sh (iD top), .sh (iD k), .sh (qD lo), .sh (.list ((os.map (nmR t)).map fun a => .list (a.map .str))), s8, .sh (.list (vd.map fun a => .list (a.map .str))), s10, .sh (tS (nmR t lo.reverse)), s12] (.cmp .NotEq (.ex (.var 11)) (.ex (.blt .tuple1 (.cons (.blt .sorted1 (.cons (.call 36 (.cons (.var 2) (.cons (.rev (.ex (.var 6))) .nil))) .nil)) .nil)))) = some (.bool false) := by
      refine ev_cmp (v := false) (x := tS (nmR t lo.reverse)) (y := tS (nmR t lo.reverse)) rfl (ev_o (ev_blt (es_cons (left_names ht (o := lo.reverse) (ev_call (es_cons rfl (es_cons (ev_rev rfl (rev_q lo)) rfl)) hleft)) rfl) rfl)) ?_
      show (eqD _ _).map (!·) = _
      rw [eqD_tS]
      simp
    obtain ⟨env2, he2, u10, rfl⟩ := loopF_of (tg := .nm 10) (body := fun env => exSs (Phi T 59) (frOf T) env bI06) (env := [a0, a1, .sh (enc t), .sh (L d2), .sh (iD top), .sh (iD k), .sh (qD lo), .sh (.list ((os.map (nmR t)).map fun a => .list (a.map .str))), s8, .sh (.list (vd.map fun a => .list (a.map .str))), s10, .sh (tS (nmR t lo.reverse)), s12]) (fun a : List Str => .list (a.map .str)) vd
      (fun done env => ∃ u10 : Sl, env = [a0, a1, .sh (enc t), .sh (L d2), .sh (iD top), .sh (iD k), .sh (qD lo), .sh (.list ((os.map (nmR t)).map fun a => .list (a.map .str))), s8, .sh (.list (vd.map fun a => .list (a.map .str))), u10, .sh (tS (nmR t lo.reverse)), s12]) ⟨s10, rfl⟩ (by
        rintro done a rest env e ⟨u10, rfl⟩
        have ha : a ∈ vd := by rw [e]; simp
        have hcp : evE (Phi T 59) [a0, a1, .sh (enc t), .sh (L d2), .sh (iD top), .sh (iD k), .sh (qD lo), .sh (.list ((os.map (nmR t)).map fun a => .list (a.map .str))), s8, .sh (.list (vd.map fun a => .list (a.map .str))), .sh (.list (a.map .str)), .sh (tS (nmR t lo.reverse)), s12] (.cpr (.var 12) (.nm 12) (.vr 10) (.cons (.cmp .NotIn (.ex (.var 12)) (.ex (.var 11))) .nil)) = some (.list ((a.filter fun x => decide (x ∉ nmR t lo.reverse)).map .str)) := by
          refine ev_cpf PyData.str _ a rfl (Nat.lt_of_lt_of_eq (by decide : 12 < 13) rfl) fun x hx => ?_
          refine ev_cmp (x := .str x) (y := tS (nmR t lo.reverse)) rfl rfl ?_
          show (inD (.str x) (tS _)).map (!·) = _
          rw [in_names (.t _)]
          simp
        have hnil : a.filter (fun x => decide (x ∉ nmR t lo.reverse)) = [] := by
          rw [List.filter_eq_nil_iff]
          intro x hx
          have := hsub a ha x hx
          simpa using this
        rw [hnil] at hcp
        exact ⟨_, _, rfl, ss_cons (s_iff (ev_cmp (v := false) (ev_o hcp) rfl rfl) ss_nil) ss_nil, .sh (.list (a.map .str)), rfl⟩)
    exact ⟨_, _, _, _, _, _, _, first (ss := .nil) (ss_cons (s_ift (ev_cmp (v := true) rfl rfl rfl) (ss_cons (s_iff c3 ss_nil) (ss_cons (s_for (ds := vd.map fun a : List Str => PyData.list (a.map PyData.str)) rfl he2) ss_nil))) ss_nil)⟩
  · rw [if_neg h] at hB
    subst hB
    exact ⟨_, _, _, _, _, _, _, first (ss := .nil) (ss_cons (s_iff (ev_cmp (v := false) rfl rfl rfl) ss_nil) ss_nil)⟩
theorem law06 (K : K06 T) (ns : List Int) (htail : ∀ (s1 s2 s3 s4 s5 s6 s7 s8 s9 s10 s11 s12 : Sl), exSs (Phi T 59) (frOf T) [.sh (L ns), s1, s2, s3, s4, s5, s6, s7, s8, s9, s10, s11, s12] (tlS b63) = some (.rt (.bool true) false)) :
    Phi T 60 63 [L ns] = some (.bool true) := by
  rw [Phi_succ (n := 59) K.f63]
  obtain ⟨env', he, s1, s2, s3, s4, s5, s6, s7, s8, s9, s10, s11, s12, rfl⟩ := loopF_of (tg := .nm 1) (body := fun env => exSs (Phi T 59) (frOf T) env (forB (hdS b63))) (env := [.sh (L ns), .un, .un, .un, .un, .un, .un, .un, .un, .un, .un, .un, .un]) iD [0, 2, 4, 6]
    (fun done env => ∃ s1 s2 s3 s4 s5 s6 s7 s8 s9 s10 s11 s12 : Sl, env = [.sh (L ns), s1, s2, s3, s4, s5, s6, s7, s8, s9, s10, s11, s12]) ⟨.un, .un, .un, .un, .un, .un, .un, .un, .un, .un, .un, .un, rfl⟩ (by
      rintro done idx rest env e ⟨s1, s2, s3, s4, s5, s6, s7, s8, s9, s10, s11, s12, rfl⟩
      have hidx : idx ≤ 6 := by
        have : idx ∈ [0, 2, 4, 6] := by rw [e]; simp
        simp only [List.mem_cons, List.not_mem_nil, or_false] at this
        omega
      obtain ⟨d1, hl1, hd1, e1⟩ := digits_ok (n := 57) K.f8 K.f9 ns (i := idx) (c := 60) (b := 27720) (by omega) (by omega) (by omega) (by omega)
      obtain ⟨d2, hl2, hd2, e2⟩ := digits_ok (n := 57) K.f8 K.f9 ns (i := idx + 1) (c := 60) (b := 27720) (by omega) (by omega) (by omega) (by omega)
      obtain ⟨t, hR, e3⟩ := rig_ok (n := 57) K.f18 K.f19 (ds := d1) (by omega) (fun d h => (hd1 d h).1) (m := 6) (by omega) (by omega)
      obtain ⟨ht, hv, hp⟩ := hR.ok' (by omega)
      obtain ⟨top, t1, t2, e4⟩ := cap_ok K.G.f20 K.G.f33 K.f37 ht hp (n := 59) (by omega)
      obtain ⟨env2, he2, u5, u6, u7, u8, u9, u10, u11, u12, rfl⟩ := loopF_of (tg := .nm 5) (body := fun env => exSs (Phi T 59) (frOf T) env bT06) (env := [.sh (L ns), .sh (iD idx), .sh (enc t), .sh (L d2), .sh (iD top), s5, s6, s7, s8, s9, s10, s11, s12]) iD [0, 1, 2]
        (fun done env => ∃ u5 u6 u7 u8 u9 u10 u11 u12 : Sl, env = [.sh (L ns), .sh (iD idx), .sh (enc t), .sh (L d2), .sh (iD top), u5, u6, u7, u8, u9, u10, u11, u12]) ⟨s5, s6, s7, s8, s9, s10, s11, s12, rfl⟩ (by
          rintro done k rest env e ⟨u5, u6, u7, u8, u9, u10, u11, u12, rfl⟩
          have hk : k < 3 := by
            have : k ∈ [0, 1, 2] := by rw [e]; simp
            simp only [List.mem_cons, List.not_mem_nil, or_false] at this
            omega
          obtain ⟨v6, v7, v8, v9, v10, v11, v12, hb⟩ := turn06 K hR hl2 (fun d h => (hd2 d h).1) t1 (by omega) hk (a0 := .sh (L ns)) (a1 := .sh (iD idx)) (s6 := u6) (s7 := u7) (s8 := u8) (s9 := u9) (s10 := u10) (s11 := u11) (s12 := u12)
          exact ⟨_, _, rfl, hb, _, _, _, _, _, _, _, _, rfl⟩)
      refine ⟨_, _, rfl, ss_cons (s_asg (d := enc t) (ev_call (es_cons (ev_call rfl e1) (es_cons rfl rfl)) e3) (fr_call K.f19 rfl)) (ss_cons (s_asg (d := L d2) (ev_call (es_cons rfl (es_cons (ev_bin rfl rfl bd_add) rfl)) e2) (fr_call K.f9 rfl)) (ss_cons (s_asg (d := iD top) (ev_call rfl e4) (fr_call K.f37 rfl)) (ss_cons (s_for (ds := [0, 1, 2].map iD) rfl he2) ss_nil))), _, _, _, _, _, _, _, _, _, _, _, _, rfl⟩)
  exact run_ret rfl rfl (b := false) (ss_cons (s_for (ds := [0, 2, 4, 6].map iD) rfl he) (htail _ _ _ _ _ _ _ _ _ _ _ _))
end
end Wr.P
end

section
set_option Elab.async false
set_option linter.all false
set_option maxRecDepth 100000
set_option maxHeartbeats 4000000
/-! WtO: order of texts. -/
namespace Wr.P
open PySem
theorem ltS_lt (a b : Str) : ltS a b = decide (a.cps.toList < b.cps.toList) := by
  unfold ltS PySem.W.dataLt
  simp only [PySem.W.keyToks]
  rw [PySem.W.lex_one]
  rfl
theorem ltS_irr (a : Str) : ltS a a = false := PyProof.Rows.lex_irrefl (O := PyProof.Rows.itemOrd) _
theorem ltS_trans {a b c : Str} (h : ltS a b = true) (h' : ltS b c = true) : ltS a c = true := PyProof.Rows.lex_trans (O := PyProof.Rows.itemOrd) _ _ _ h h'
theorem ltS_tri {a b : Str} (h : a ≠ b) : ltS a b = true ∨ ltS b a = true := by
  cases h1 : ltS a b with
  | true => exact .inl rfl
  | false =>
    cases h2 : ltS b a with
    | true => exact .inr rfl
    | false =>
      have e := PyProof.Rows.lex_total (O := PyProof.Rows.itemOrd) _ _ h1 h2
      simp only [PySem.W.keyToks, List.cons.injEq, Sum.inr.injEq, and_true] at e
      exact absurd (PySem.W.str_of_cps e) h
abbrev Asc (l : List Str) : Prop := l.Pairwise fun a b => ltS a b = true
theorem ins_asc {x : Str} : ∀ {l : List Str}, Asc l → x ∉ l → Asc (ins1 ltS x l)
  | [], _, _ => by simp [ins1]
  | y :: r, h, hx => by
    replace h := List.pairwise_cons.mp h
    have hxy : x ≠ y := fun e => hx (by rw [e]; simp)
    rw [ins1]
    split
    · rename_i hl
      refine List.pairwise_cons.mpr ⟨fun z hz => ?_, ins_asc h.2 fun e => hx (by simp [e])⟩
      rcases List.mem_cons.mp ((ins1_perm ltS x r).mem_iff.mp hz) with rfl | hz
      · exact hl
      · exact h.1 z hz
    · rename_i hl
      have hxy' : ltS x y = true := (ltS_tri hxy).resolve_right hl
      refine List.pairwise_cons.mpr ⟨fun z hz => ?_, List.pairwise_cons.mpr h⟩
      rcases List.mem_cons.mp hz with rfl | hz
      · exact hxy'
      · exact ltS_trans hxy' (h.1 z hz)
theorem srt_asc : ∀ {l : List Str}, l.Nodup → Asc (srt ltS l)
  | [], _ => .nil
  | x :: r, h => by
    rw [List.nodup_cons] at h
    exact ins_asc (srt_asc h.2) fun e => h.1 ((srt_perm ltS r).mem_iff.mp e)
theorem Asc.nd {l : List Str} (h : Asc l) : l.Nodup := List.Pairwise.imp (fun {a b} hab e => by rw [e, ltS_irr] at hab; cases hab) h
theorem asc_eq {l m : List Str} (h : Asc l) (h' : Asc m) (p : l.Perm m) : l = m :=
  List.Perm.eq_of_pairwise (le := fun a b => ltS a b = true) (fun a b _ _ h1 h2 => by
    have := ltS_trans h1 h2
    rw [ltS_irr] at this
    cases this) h h' p
theorem asc_mem {l m : List Str} (h : Asc l) (h' : Asc m) (hm : ∀ x, x ∈ l ↔ x ∈ m) : l = m :=
  asc_eq h h' ((List.perm_ext_iff_of_nodup h.nd h'.nd).mpr hm)
end Wr.P
end

section
set_option Elab.async false
set_option linter.all false
set_option maxRecDepth 100000
set_option maxHeartbeats 4000000
/-! WyF: all_orders, successful_orders, always_remaining. -/
namespace Wr.P
open PySem
/-! ### what is left of the loads -/
theorem any_n (k : Nat) : ∀ S : List Nat, ((S.map iD).any fun z => PyData.eqv z (iD k)) = decide (k ∈ S)
  | [] => by simp
  | a :: S => by
    rw [List.map_cons, List.any_cons, any_n k S, PyData.eqv]
    by_cases h : a = k
    · simp [h]
    · have h2 : ¬ (a : Int) = (k : Int) := by omega
      have h3 : ¬ k = a := fun z => h z.symm
      simp [h2, h3]
theorem erase_n (l : Nat) : ∀ us : List Nat, l ∈ us → eraseD (iD l) (us.map iD) = some ((us.erase l).map iD)
  | [], h => by cases h
  | a :: us, h => by
    rw [List.map_cons, eraseD, PyData.eqv, List.erase_cons]
    by_cases e : a = l
    · subst e
      simp
    · have h2 : ¬ (a : Int) = (l : Int) := by omega
      rw [if_neg (by simpa using h2), if_neg (by simpa using e), erase_n l us (by
        rcases List.mem_cons.mp h with h | h
        · exact absurd h.symm e
        · exact h)]
      rfl
def remN (ls o : List Nat) : List Nat := o.foldl (fun us l => us.erase l) ls
theorem remN_count (ls : List Nat) (a : Nat) : ∀ o : List Nat, (remN ls o).count a = ls.count a - o.count a := by
  intro o
  unfold remN
  induction o generalizing ls with
  | nil => simp
  | cons l o ih =>
    rw [List.foldl_cons, ih, List.count_erase, List.count_cons]
    by_cases h : l = a
    · subst h; simp; omega
    · have : ¬ a = l := fun z => h z.symm
      simp [h]
theorem remN_len (ls o : List Nat) : (remN ls o).length ≤ ls.length := by
  unfold remN
  induction o generalizing ls with
  | nil => simp
  | cons l o ih =>
    rw [List.foldl_cons]
    exact Nat.le_trans (ih _) (List.erase_sublist.length_le)
def dedN : List Nat → List Nat
  | [] => []
  | x :: r => if x ∈ r then dedN r else x :: dedN r
theorem ded_n : ∀ us : List Nat, dedup (us.map iD) = (dedN us).map iD
  | [] => rfl
  | x :: r => by
    rw [List.map_cons, dedup, dedN, any_n, ded_n r]
    by_cases h : x ∈ r <;> simp [h]
theorem mem_dedN {x : Nat} : ∀ {us : List Nat}, x ∈ dedN us ↔ x ∈ us
  | [] => Iff.rfl
  | y :: r => by
    rw [dedN]
    split
    · rename_i h
      rw [mem_dedN, List.mem_cons]
      exact ⟨.inr, fun z => z.elim (fun e => e ▸ h) id⟩
    · rw [List.mem_cons, List.mem_cons, mem_dedN]
theorem dedN_len : ∀ us : List Nat, (dedN us).length ≤ us.length
  | [] => Nat.le_refl _
  | x :: r => by
    rw [dedN, List.length_cons]
    have := dedN_len r
    split
    · omega
    · rw [List.length_cons]; omega
/-- the loads that may come next -/
def selN (ls o : List Nat) : List Nat := srt ltN (dedN (remN ls o))
theorem mem_selN {ls o : List Nat} {l : Nat} : l ∈ selN ls o ↔ o.count l < ls.count l := by
  unfold selN
  rw [(srt_perm ltN _).mem_iff, mem_dedN, ← List.count_pos_iff, remN_count]
  omega
theorem selN_len (ls o : List Nat) : (selN ls o).length ≤ ls.length := by
  unfold selN
  rw [(srt_perm ltN _).length_eq]
  exact Nat.le_trans (dedN_len _) (remN_len ls o)
def grow (ls : List Nat) (os : List (List Nat)) : List (List Nat) := os.flatMap fun o => (selN ls o).map fun l => o ++ [l]
def ordP (ls : List Nat) : Nat → List (List Nat)
  | 0 => [[]]
  | j + 1 => grow ls (ordP ls j)
theorem mem_ordP {ls : List Nat} : ∀ {j : Nat} {x : List Nat}, x ∈ ordP ls j ↔ x ∈ ordK ls j
  | 0, x => Iff.rfl
  | j + 1, x => by
    rw [ordP, grow, List.mem_flatMap, ordK, nxt, mem_foldO]
    constructor
    · rintro ⟨o, ho, hx⟩
      obtain ⟨l, hl, rfl⟩ := List.mem_map.mp hx
      have h1 := mem_selN.mp hl
      exact .inr ⟨o, mem_ordP.mp ho, l, List.count_pos_iff.mp (by omega), h1, rfl⟩
    · rintro (z | ⟨o, ho, l, hl, h1, rfl⟩)
      · cases z
      · exact ⟨o, mem_ordP.mpr ho, List.mem_map.mpr ⟨l, mem_selN.mpr h1, rfl⟩⟩
theorem grow_len (ls : List Nat) : ∀ os : List (List Nat), (grow ls os).length ≤ os.length * ls.length
  | [] => by simp [grow]
  | o :: os => by
    have h1 := grow_len ls os
    have h2 := selN_len ls o
    unfold grow at h1 ⊢
    rw [List.flatMap_cons, List.length_append, List.length_map, List.length_cons, Nat.succ_mul]
    omega
theorem ordP_len (ls : List Nat) : ∀ j, (ordP ls j).length ≤ ls.length ^ j
  | 0 => by simp [ordP]
  | j + 1 => by
    have h1 := ordP_len ls j
    have h2 := grow_len ls (ordP ls j)
    have h3 := Nat.mul_le_mul_right ls.length h1
    rw [ordP, Nat.pow_succ]
    omega
section
variable {Ph : Nat → List PyData → Option PyData} {fr : Nat → Bool} {env : Ev}
theorem s_rmv {i l : Nat} {e : E} {us : List Nat} (h : evE Ph env e = some (iD l)) (he : env[i]? = some (.ow (.list (us.map iD)))) (hm : l ∈ us) : exS Ph fr env (.rmv i e) = some (.nx (env.set i (.ow (.list ((us.erase l).map iD))))) := by
  rw [exS, h, he]
  have h1 : rmvD (.list (us.map iD)) (iD l) = some (.list ((us.erase l).map iD)) := by
    show (match intsD (us.map iD) with
      | some _ => (eraseD (iD l) (us.map iD)).map PyData.list
      | none => none) = _
    rw [ints_nats, erase_n l us hm]
    rfl
  simp only [h1, Option.map_some]
theorem sortset_n {e : E} {us : List Nat} (h : evE Ph env e = some (.list (us.map iD))) (hl : us.length ≤ 1000) : evE Ph env (.blt .sortset (.cons e .nil)) = some (.list ((srt ltN (dedN us)).map iD)) := by
  refine ev_blt (es_cons h rfl) ?_
  have h1 : (us.map iD).all flatKey = true := by
    rw [List.all_eq_true]
    intro x hx
    obtain ⟨a, _, rfl⟩ := List.mem_map.mp hx
    rfl
  show (if ((us.map iD).all flatKey && decide ((us.map iD).length ≤ 1000)) = true then sortedD (dedup (us.map iD)) else none) = _
  rw [h1, List.length_map, decide_eq_true hl, ded_n, sorted_nats]
  rfl
end
def bP1 : Ss := forB (hdS (tlS (tlS b65)))
def bP2 : Ss := forB (hdS (tlS (tlS bP1)))
def bP3 : Ss := forB (hdS (tlS bP2))
section
variable {T : Tab}
theorem remove_ok {m : Nat} {ls o : List Nat} (hc : ∀ a, o.count a ≤ ls.count a) {s1 s2 s3 s6 : Sl} : ∃ u6 : Sl, loopF (.nm 6) (fun env => exSs (Phi T m) (frOf T) env bP3) (o.map iD) [.sh (qD ls), s1, s2, s3, .sh (qD o), .ow (.list (ls.map iD)), s6] = some (.nx [.sh (qD ls), s1, s2, s3, .sh (qD o), .ow (.list ((remN ls o).map iD)), u6]) := by
  obtain ⟨env', he, u6, rfl⟩ := loopF_of (tg := .nm 6) (body := fun env => exSs (Phi T m) (frOf T) env bP3) (env := [.sh (qD ls), s1, s2, s3, .sh (qD o), .ow (.list (ls.map iD)), s6]) iD o
    (fun done env => ∃ u6 : Sl, env = [.sh (qD ls), s1, s2, s3, .sh (qD o), .ow (.list ((remN ls done).map iD)), u6]) ⟨s6, rfl⟩ (by
      rintro done l rest env e ⟨u6, rfl⟩
      have hm : l ∈ remN ls done := by
        rw [← List.count_pos_iff, remN_count]
        have := hc l
        rw [e, List.count_append, List.count_cons_self] at this
        omega
      refine ⟨_, _, rfl, ss_cons (s_rmv (l := l) (us := remN ls done) rfl rfl hm) ss_nil, .sh (iD l), ?_⟩
      have e1 : remN ls (done ++ [l]) = (remN ls done).erase l := by unfold remN; rw [List.foldl_append]; rfl
      rw [e1]
      rfl)
  exact ⟨u6, he⟩
theorem pord_in {m : Nat} {ls o : List Nat} {lo : List (List Nat)} (hc : ∀ a, o.count a ≤ ls.count a) (ho : o.length ≤ 1000) (hls : ls.length ≤ 1000) (hlen : lo.length + ls.length ≤ lim) {s1 s2 s5 s6 : Sl} :
    ∃ u5 u6 : Sl, exSs (Phi T m) (frOf T) [.sh (qD ls), s1, s2, .sh (.list (lo.map qD)), .sh (qD o), s5, s6] bP2 = some (.nx [.sh (qD ls), s1, s2, .sh (.list ((lo ++ (selN ls o).map fun l => o ++ [l]).map qD)), .sh (qD o), u5, u6]) := by
  obtain ⟨u6, he⟩ := remove_ok (T := T) (m := m) hc (s1 := s1) (s2 := s2) (s3 := .sh (.list (lo.map qD))) (s6 := s6)
  have hrl := remN_len ls o
  have hsl := selN_len ls o
  have hcp : evE (Phi T m) [.sh (qD ls), s1, s2, .sh (.list (lo.map qD)), .sh (qD o), .sh (.list ((remN ls o).map iD)), u6] (.cpr (.bin .Add (.ex (.var 4)) (.ex (.tup (.cons (.var 6) .nil)))) (.nm 6) (.val (.blt .sortset (.cons (.var 5) .nil))) .nil) = some (.list (((selN ls o).map fun l => o ++ [l]).map qD)) := by
    rw [List.map_map]
    refine ev_cpm iD _ (selN ls o) ?_ fun l hl => ⟨[.sh (qD ls), s1, s2, .sh (.list (lo.map qD)), .sh (qD o), .sh (.list ((remN ls o).map iD)), .sh (iD l)], rfl, ?_⟩
    · rw [evI, sortset_n (us := remN ls o) rfl (by omega)]
      rfl
    · refine ev_bin (x := qD o) (y := .tuple [iD l]) rfl rfl ?_
      show (if _ then _ else none) = _
      rw [if_pos (by rw [List.length_map]; simp only [List.length_cons, List.length_nil]; unfold lim; omega)]
      show _ = some (PyData.tuple ((o ++ [l]).map iD))
      rw [List.map_append]
      rfl
  refine ⟨.sh (.list ((remN ls o).map iD)), u6, ss_cons (s_own (d := .list (ls.map iD)) rfl) (ss_cons (s_for (ds := o.map iD) rfl he) (ss_cons (s_shr rfl) (ss_cons (s_asg (d := .list ((lo ++ (selN ls o).map fun l => o ++ [l]).map qD)) ?_) ss_nil)))⟩
  refine ev_bin rfl (ev_o hcp) ?_
  show (if _ then _ else none) = _
  rw [if_pos (by rw [List.length_map, List.length_map, List.length_map]; omega), ← List.map_append]
theorem pord_turn {m : Nat} {ls : List Nat} (hls : ls.length ≤ 6) {j : Nat} (hj : j < ls.length) {s2 s3 s4 s5 s6 : Sl} :
    ∃ u3 u4 u5 u6 : Sl, exSs (Phi T m) (frOf T) [.sh (qD ls), .sh (.list ((ordP ls j).map qD)), s2, s3, s4, s5, s6] bP1 = some (.nx [.sh (qD ls), .sh (.list ((ordP ls (j + 1)).map qD)), s2, u3, u4, u5, u6]) := by
  obtain ⟨env', he, u4, u5, u6, rfl⟩ := loopF_of (tg := .nm 4) (body := fun env => exSs (Phi T m) (frOf T) env bP2) (env := [.sh (qD ls), .sh (.list ((ordP ls j).map qD)), s2, .sh (.list []), s4, s5, s6]) qD (ordP ls j)
    (fun done env => ∃ u4 u5 u6 : Sl, env = [.sh (qD ls), .sh (.list ((ordP ls j).map qD)), s2, .sh (.list ((grow ls done).map qD)), u4, u5, u6]) ⟨s4, s5, s6, rfl⟩ (by
      rintro done o rest env e ⟨u4, u5, u6, rfl⟩
      have hd : done.length ≤ (ordP ls j).length := by rw [e, List.length_append]; omega
      obtain ⟨hol, hoc⟩ := mem_ordK.mp (mem_ordP.mp (by rw [e]; simp : o ∈ ordP ls j))
      have hgl := grow_len ls done
      have hol2 := ordP_len ls j
      have hp := pow6 hls (j := j) (by omega)
      have hmul : done.length * ls.length ≤ 46656 * 6 := Nat.mul_le_mul (by omega) hls
      obtain ⟨v5, v6, h5⟩ := pord_in (T := T) (m := m) (ls := ls) (o := o) (lo := grow ls done) hoc (by omega) (by omega) (by unfold lim; omega) (s1 := .sh (.list ((ordP ls j).map qD))) (s2 := s2) (s5 := u5) (s6 := u6)
      refine ⟨_, _, rfl, h5, .sh (qD o), v5, v6, ?_⟩
      have e1 : grow ls (done ++ [o]) = grow ls done ++ (selN ls o).map fun l => o ++ [l] := by unfold grow; rw [List.flatMap_append]; simp
      rw [e1])
  exact ⟨_, u4, u5, u6, ss_cons (s_own (d := .list []) rfl) (ss_cons (s_shr rfl) (ss_cons (s_for (ds := (ordP ls j).map qD) rfl he) (ss_cons (s_asg (d := .list ((grow ls (ordP ls j)).map qD)) rfl) ss_nil)))⟩
theorem allord_ok (h65 : T.lookup 65 = some F65) {ls : List Nat} (hls : ls.length ≤ 6) {n : Nat} (hn : 1 ≤ n) : Phi T n 65 [qD ls] = some (.list ((ordP ls ls.length).map qD)) := by
  obtain ⟨m, rfl⟩ : ∃ m, n = m + 1 := ⟨n - 1, by omega⟩
  rw [Phi_succ h65]
  obtain ⟨env', he, s2, s3, s4, s5, s6, rfl⟩ := loopF_of (tg := .nm 2) (body := fun env => exSs (Phi T m) (frOf T) env bP1) (env := [.sh (qD ls), .sh (.list ((ordP ls 0).map qD)), .un, .un, .un, .un, .un]) iD (List.range ls.length)
    (fun done env => ∃ s2 s3 s4 s5 s6 : Sl, env = [.sh (qD ls), .sh (.list ((ordP ls done.length).map qD)), s2, s3, s4, s5, s6]) ⟨.un, .un, .un, .un, .un, rfl⟩ (by
      rintro done k rest env e ⟨s2, s3, s4, s5, s6, rfl⟩
      have hd : done.length < ls.length := by
        have := congrArg List.length e
        rw [List.length_range, List.length_append, List.length_cons] at this
        omega
      obtain ⟨u3, u4, u5, u6, h⟩ := pord_turn (T := T) (m := m) hls hd (s2 := .sh (iD k)) (s3 := s3) (s4 := s4) (s5 := s5) (s6 := s6)
      refine ⟨_, _, rfl, h, .sh (iD k), u3, u4, u5, u6, ?_⟩
      rw [List.length_append]
      rfl)
  rw [List.length_range] at he
  refine run_ret rfl rfl (b := false) (ss_cons (s_own (d := .list [.tuple []]) rfl) (ss_cons (s_shr rfl) (ss_cons (s_for (ds := (List.range ls.length).map iD) ?_ he) (ss_rt (s_ret rfl)))))
  show (if rngOk 0 ((ls.map iD).length : Int) = true then some (rngD 0 ((ls.map iD).length : Int)) else none) = _
  rw [List.length_map, if_pos (by unfold rngOk; simp; omega)]
  unfold rngD
  rw [show ((ls.length : Int) - 0).toNat = ls.length by omega]
  congr 1
  refine List.map_congr_left fun k _ => ?_
  show PyData.int _ = PyData.int _
  congr 1
  omega
theorem mem_allord {ls o : List Nat} : o ∈ ordP ls ls.length ↔ o.Perm ls := mem_ordP.trans ordK_perm
/-- the orders that succeed -/
def okO (t : Tr) (ls : List Nat) : List (List Nat) := (ordP ls ls.length).filter fun o => decide (stt t o ≠ [])
theorem succord_ok (F : Tabs T) (h30 : T.lookup 30 = some F30) (h58 : T.lookup 58 = some F58) (h65 : T.lookup 65 = some F65) (h66 : T.lookup 66 = some F66) {t : Tr} (ht : TrOk t) (hv : TrV t) {ls : List Nat} (hl : ∀ l ∈ ls, 0 < l ∧ l < 1000000) (hls : ls.length ≤ 6) {n : Nat} (hn : 20 ≤ n) :
    Phi T n 66 [enc t, qD ls] = some (.list ((okO t ls).map qD)) := by
  obtain ⟨m, rfl⟩ : ∃ m, n = m + 1 := ⟨n - 1, by omega⟩
  rw [Phi_succ h66]
  have hcp : evE (Phi T m) [.sh (enc t), .sh (qD ls), .un] (.cpr (.var 2) (.nm 2) (.val (.call 65 (.cons (.var 1) .nil))) (.cons (.call 58 (.cons (.var 0) (.cons (.var 2) .nil))) .nil)) = some (.list ((okO t ls).map qD)) := by
    refine ev_cpf qD _ (ordP ls ls.length) ?_ (Nat.lt_of_lt_of_eq (by decide : 2 < 3) rfl) fun o ho => ?_
    · rw [evI, ev_call (ds := [qD ls]) rfl (allord_ok h65 hls (n := m) (by omega))]
      rfl
    · have hp := mem_allord.mp ho
      exact ev_call rfl (succ_ok F h30 h58 ht hv (fun l h => hl l (hp.mem_iff.mp h)) (by rw [hp.length_eq]; omega) (by omega))
  exact run_ret rfl rfl (ss_rt (s_ret hcp))
theorem mem_okO {t : Tr} {ls o : List Nat} : o ∈ okO t ls ↔ o.Perm ls ∧ stt t o ≠ [] := by
  unfold okO
  rw [List.mem_filter, mem_allord, decide_eq_true_eq]
/-- the names that remain after every order of these -/
def comN (t : Tr) (os : List (List Nat)) (x : Str) : Bool := os.all fun o => decide (x ∈ nmR t o)
theorem all_bl (l : List Bool) : bltD .all1 [.list (l.map .bool)] = some (.bool (l.all id)) := by
  have : boolsD (l.map PyData.bool) = some l := by
    induction l with
    | nil => rfl
    | cons b l ih => rw [List.map_cons, boolsD, ih]; rfl
  show (boolsD (l.map PyData.bool)).map _ = _
  rw [this]
  rfl
def comD (t : Tr) : List (List Nat) → PyData
  | [] => .none
  | o :: os => tS ((nmR t o).filter (comN t (o :: os)))
theorem always_ok (F : Tabs T) (h30 : T.lookup 30 = some F30) (h31 : T.lookup 31 = some F31) (h58 : T.lookup 58 = some F58) (h60 : T.lookup 60 = some F60) (h65 : T.lookup 65 = some F65) (h66 : T.lookup 66 = some F66) (h67 : T.lookup 67 = some F67) {t : Tr} (ht : TrOk t) (hv : TrV t) {ls : List Nat} (hl : ∀ l ∈ ls, 0 < l ∧ l < 1000000) (hls : ls.length ≤ 6) {n : Nat} (hn : 22 ≤ n) :
    Phi T n 67 [enc t, qD ls] = some (comD t (okO t ls)) := by
  obtain ⟨m, rfl⟩ : ∃ m, n = m + 1 := ⟨n - 1, by omega⟩
  rw [Phi_succ h67]
  have h2 := succord_ok F h30 h58 h65 h66 ht hv hl hls (n := m) (by omega)
  have hmem : ∀ o ∈ okO t ls, (∀ l ∈ o, 0 < l ∧ l < 1000000) ∧ o.length ≤ 1000 := fun o ho => by
    have hp := (mem_okO.mp ho).1
    exact ⟨fun l h => hl l (hp.mem_iff.mp h), by rw [hp.length_eq]; omega⟩
  generalize okO t ls = os at *
  have tst : ∀ {s3 s4 s5 s6 : Sl}, evE (Phi T m) [.sh (enc t), .sh (qD ls), .sh (.list (os.map qD)), s3, s4, s5, s6] (.cmp .Eq (.ex (.var 2)) (.ex (.lst .nil))) = some (.bool os.isEmpty) := fun {s3 s4 s5 s6} => by
    refine ev_cmp rfl rfl ?_
    show eqD (.list _) (.list []) = _
    rw [eqD_nil]
    cases os <;> rfl
  cases os with
  | nil => exact run_ret rfl rfl (b := false) (ss_cons (s_asg (d := .list []) (ev_call rfl h2) (fr_call h66 rfl)) (ss_rt (s_ift tst (ss_rt (s_ret rfl)))))
  | cons o os =>
    have h3 : evE (Phi T m) [.sh (enc t), .sh (qD ls), .sh (.list ((o :: os).map qD)), .un, .un, .un, .un] (.cpr (.call 60 (.cons (.var 0) (.cons (.var 4) .nil))) (.nm 4) (.vr 2) .nil) = some (.list ((o :: os).map fun o => tS (nmR t o))) := by
      refine ev_cpm qD _ (o :: os) rfl fun a ha => ⟨_, rfl, ev_call rfl (names_ok F h31 h60 ht hv (hmem a ha).1 (hmem a ha).2 (n := m) (by omega))⟩
    have h5 : evE (Phi T m) [.sh (enc t), .sh (qD ls), .sh (.list ((o :: os).map qD)), .sh (.list ((o :: os).map fun o => tS (nmR t o))), .un, .un, .un] (.cpr (.var 5) (.nm 5) (.val (.idx (.ex (.var 3)) (.cst (.int 0)))) (.cons (.blt .all1 (.cons (.cpr (.cmp .In (.ex (.var 5)) (.ex (.var 6))) (.nm 6) (.vr 3) .nil) .nil)) .nil)) = some (.list (((nmR t o).filter (comN t (o :: os))).map .str)) := by
      refine ev_cpf PyData.str _ (nmR t o) rfl (Nat.lt_of_lt_of_eq (by decide : 5 < 7) rfl) fun x hx => ?_
      refine ev_blt (es_cons (d := .list (((o :: os).map fun a => decide (x ∈ nmR t a)).map .bool)) ?_ rfl) ?_
      · rw [List.map_map]
        refine ev_cpm (fun a => tS (nmR t a)) _ (o :: os) rfl fun a ha => ⟨[.sh (enc t), .sh (qD ls), .sh (.list ((o :: os).map qD)), .sh (.list ((o :: os).map fun o => tS (nmR t o))), .un, .sh (.str x), .sh (tS (nmR t a))], rfl, ev_cmp (x := .str x) (y := tS (nmR t a)) rfl rfl (in_names (.t _) x)⟩
      · rw [all_bl]
        unfold comN
        rw [List.all_map]
        rfl
    exact run_ret rfl rfl (b := false) (ss_cons (s_asg (d := .list ((o :: os).map qD)) (ev_call rfl h2) (fr_call h66 rfl)) (ss_cons (s_iff tst ss_nil) (ss_cons (s_own h3) (ss_cons (s_shr rfl) (ss_rt (s_ret (ev_blt (es_cons h5 rfl) rfl)))))))
end
end Wr.P
end

section
set_option Elab.async false
set_option linter.all false
set_option maxRecDepth 100000
set_option maxHeartbeats 4000000
/-! XcA: both lists of orders are the same, in ascending order. -/
namespace Wr.P
open PySem
theorem lt_int (a b : Int) : PyProof.Rows.lexLt PyProof.Rows.itemOrd [.inl a] [.inl b] = decide (a < b) := PySem.W.dataLt_int a b
theorem ltQ_cons (a b : Nat) (o p : List Nat) : ltQ (a :: o) (b :: p) = if a = b then ltQ o p else decide (a < b) := by
  unfold ltQ PySem.W.dataLt
  have e : ∀ (x : Nat) (l : List Nat), PySem.W.keyToks (qD (x :: l)) = [.inl 1, .inl (x : Int)] ++ PySem.W.keyToks (qD l) := fun x l => rfl
  rw [e, e]
  by_cases h : a = b
  · subst h
    rw [if_pos rfl, PySem.W.lex_pre]
  · rw [if_neg h]
    have h1 := PySem.W.lex_pre [.inl 1] (.inl (a : Int) :: PySem.W.keyToks (qD o)) (.inl (b : Int) :: PySem.W.keyToks (qD p))
    have hne : (Sum.inl (a : Int) : Int ⊕ List Nat) ≠ .inl (b : Int) := fun z => h (by injection z with z; omega)
    have h2 := PySem.W.lex_atom hne (PySem.W.keyToks (qD o)) (PySem.W.keyToks (qD p))
    refine h1.trans (h2.trans ((lt_int _ _).trans ?_))
    exact decide_eq_decide.mpr (by omega)
theorem ltQ_nc (b : Nat) (p : List Nat) : ltQ [] (b :: p) = true := by
  unfold ltQ PySem.W.dataLt
  have hne : (Sum.inl 0 : Int ⊕ List Nat) ≠ .inl 1 := fun z => by injection z with z; omega
  exact (PySem.W.lex_atom hne [] (.inl (b : Int) :: PySem.W.keyToks (qD p))).trans (lt_int 0 1)
theorem ltQ_irr (a : List Nat) : ltQ a a = false := PyProof.Rows.lex_irrefl (O := PyProof.Rows.itemOrd) _
theorem ltQ_trans {a b c : List Nat} (h : ltQ a b = true) (h' : ltQ b c = true) : ltQ a c = true := PyProof.Rows.lex_trans (O := PyProof.Rows.itemOrd) _ _ _ h h'
theorem ltQ_tri : ∀ {a b : List Nat}, a ≠ b → ltQ a b = true ∨ ltQ b a = true
  | [], [], h => absurd rfl h
  | [], b :: p, _ => .inl (ltQ_nc b p)
  | a :: o, [], _ => .inr (ltQ_nc a o)
  | a :: o, b :: p, h => by
    rw [ltQ_cons, ltQ_cons]
    by_cases e : a = b
    · subst e
      rw [if_pos rfl, if_pos rfl]
      exact ltQ_tri fun z => h (by rw [z])
    · rw [if_neg e, if_neg fun z => e z.symm, decide_eq_true_eq, decide_eq_true_eq]
      omega
theorem ltQ_snoc (o : List Nat) {x y : Nat} (h : x < y) : ltQ (o ++ [x]) (o ++ [y]) = true := by
  induction o with
  | nil =>
    rw [List.nil_append, List.nil_append, ltQ_cons, if_neg (by omega), decide_eq_true_eq]
    exact h
  | cons a o ih =>
    rw [List.cons_append, List.cons_append, ltQ_cons, if_pos rfl]
    exact ih
theorem ltQ_app : ∀ {o p : List Nat}, o.length = p.length → ltQ o p = true → ∀ q r : List Nat, ltQ (o ++ q) (p ++ r) = true
  | [], [], _, h, q, r => by rw [ltQ_irr] at h; cases h
  | [], b :: p, hl, _, _, _ => by simp at hl
  | a :: o, [], hl, _, _, _ => by simp at hl
  | a :: o, b :: p, hl, h, q, r => by
    rw [List.cons_append, List.cons_append, ltQ_cons]
    rw [ltQ_cons] at h
    by_cases e : a = b
    · rw [if_pos e] at h ⊢
      exact ltQ_app (by simpa using hl) h q r
    · rw [if_neg e] at h ⊢
      exact h
abbrev AscQ (l : List (List Nat)) : Prop := l.Pairwise fun a b => ltQ a b = true
theorem ins_ascQ {x : List Nat} : ∀ {l : List (List Nat)}, AscQ l → x ∉ l → AscQ (ins1 ltQ x l)
  | [], _, _ => by simp [ins1]
  | y :: r, h, hx => by
    replace h := List.pairwise_cons.mp h
    have hxy : x ≠ y := fun e => hx (by rw [e]; simp)
    rw [ins1]
    split
    · rename_i hl
      refine List.pairwise_cons.mpr ⟨fun z hz => ?_, ins_ascQ h.2 fun e => hx (by simp [e])⟩
      rcases List.mem_cons.mp ((ins1_perm ltQ x r).mem_iff.mp hz) with rfl | hz
      · exact hl
      · exact h.1 z hz
    · rename_i hl
      have hxy' : ltQ x y = true := (ltQ_tri hxy).resolve_right hl
      refine List.pairwise_cons.mpr ⟨fun z hz => ?_, List.pairwise_cons.mpr h⟩
      rcases List.mem_cons.mp hz with rfl | hz
      · exact hxy'
      · exact ltQ_trans hxy' (h.1 z hz)
theorem srt_ascQ : ∀ {l : List (List Nat)}, l.Nodup → AscQ (srt ltQ l)
  | [], _ => .nil
  | x :: r, h => by
    rw [List.nodup_cons] at h
    exact ins_ascQ (srt_ascQ h.2) fun e => h.1 ((srt_perm ltQ r).mem_iff.mp e)
theorem AscQ.nd {l : List (List Nat)} (h : AscQ l) : l.Nodup := List.Pairwise.imp (fun {a b} hab e => by rw [e, ltQ_irr] at hab; cases hab) h
theorem ascQ_mem {l m : List (List Nat)} (h : AscQ l) (h' : AscQ m) (hm : ∀ x, x ∈ l ↔ x ∈ m) : l = m :=
  List.Perm.eq_of_pairwise (le := fun a b => ltQ a b = true) (fun a b _ _ h1 h2 => by
    have := ltQ_trans h1 h2
    rw [ltQ_irr] at this
    cases this) h h' ((List.perm_ext_iff_of_nodup h.nd h'.nd).mpr hm)
/-! no order twice -/
theorem insK_nd {ks : List (List Nat)} {o : List Nat} (h : ks.Nodup) : (insK ks o).Nodup := by
  unfold insK
  split
  · exact h
  · rename_i hn
    refine List.nodup_append.mpr ⟨h, by simp, fun a ha b hb => ?_⟩
    rw [List.mem_singleton] at hb
    rintro rfl
    subst hb
    exact hn ha
theorem stL_nd {ls o : List Nat} : ∀ {d : List Nat} {lo : List (List Nat)}, lo.Nodup → (d.foldl (stL ls o) lo).Nodup
  | [], _, h => h
  | l :: d, lo, h => by
    rw [List.foldl_cons]
    refine stL_nd ?_
    unfold stL
    split
    · exact insK_nd h
    · exact h
theorem stO_nd {ls : List Nat} : ∀ {os lo : List (List Nat)}, lo.Nodup → (os.foldl (stO ls) lo).Nodup
  | [], _, h => h
  | o :: os, lo, h => by
    rw [List.foldl_cons]
    exact stO_nd (stL_nd h)
theorem ordK_nd (ls : List Nat) : ∀ j, (ordK ls j).Nodup
  | 0 => by simp [ordK]
  | j + 1 => stO_nd List.nodup_nil
/-! the program's list is in order -/
theorem dedN_nd : ∀ us : List Nat, (dedN us).Nodup
  | [] => .nil
  | x :: r => by
    rw [dedN]
    split
    · exact dedN_nd r
    · rename_i h
      exact List.nodup_cons.mpr ⟨fun z => h (mem_dedN.mp z), dedN_nd r⟩
theorem selN_asc (ls o : List Nat) : (selN ls o).Pairwise (· < ·) := by
  unfold selN
  have h1 := srtN_sorted (dedN (remN ls o))
  have h2 : (srt ltN (dedN (remN ls o))).Nodup := (srt_perm ltN _).nodup_iff.mpr (dedN_nd _)
  exact (h1.and h2).imp fun {a b} h => by omega
theorem ordP_len1 (ls : List Nat) {j : Nat} {o : List Nat} (h : o ∈ ordP ls j) : o.length = j := (mem_ordK.mp (mem_ordP.mp h)).1
theorem ordP_asc (ls : List Nat) : ∀ j, AscQ (ordP ls j)
  | 0 => List.pairwise_singleton ..
  | j + 1 => by
    rw [ordP, grow]
    refine List.pairwise_flatMap.mpr ⟨fun o _ => List.pairwise_map.mpr ((selN_asc ls o).imp fun h => ltQ_snoc o h), ?_⟩
    refine List.Pairwise.imp_of_mem (fun {o p} ho hp h x hx y hy => ?_) (ordP_asc ls j)
    obtain ⟨a, _, rfl⟩ := List.mem_map.mp hx
    obtain ⟨b, _, rfl⟩ := List.mem_map.mp hy
    exact ltQ_app ((ordP_len1 ls ho).trans (ordP_len1 ls hp).symm) h _ _
theorem ordl_eq (ls : List Nat) : srt ltQ (ordK ls ls.length) = ordP ls ls.length :=
  ascQ_mem (srt_ascQ (ordK_nd ls _)) (ordP_asc ls _) fun x => by rw [(srt_perm ltQ _).mem_iff]; exact mem_ordP.symm
section
variable {T : Tab}
theorem ordl_ok (h62 : T.lookup 62 = some F62) {ls : List Nat} (hls : ls.length ≤ 6) {n : Nat} (hn : 1 ≤ n) : Phi T n 62 [qD ls] = some (.list ((ordP ls ls.length).map qD)) := by
  obtain ⟨m, rfl⟩ : ∃ m, n = m + 1 := ⟨n - 1, by omega⟩
  rw [Phi_succ h62]
  obtain ⟨env', he, s2, s3, s4, s5, rfl⟩ := loopF_of (tg := .nm 2) (body := fun env => exSs (Phi T m) (frOf T) env bO1) (env := [.sh (qD ls), .dt (tbK (ordK ls 0)), .un, .un, .un, .un]) iD (List.range ls.length)
    (fun done env => ∃ s2 s3 s4 s5 : Sl, env = [.sh (qD ls), .dt (tbK (ordK ls done.length)), s2, s3, s4, s5]) ⟨.un, .un, .un, .un, rfl⟩ (by
      rintro done k rest env e ⟨s2, s3, s4, s5, rfl⟩
      have hd : done.length < ls.length := by
        have := congrArg List.length e
        rw [List.length_range, List.length_append, List.length_cons] at this
        omega
      obtain ⟨u3, u4, u5, h⟩ := ord_turn (T := T) (m := m) hls hd (s2 := .sh (iD k)) (s3 := s3) (s4 := s4) (s5 := s5)
      refine ⟨_, _, rfl, h, .sh (iD k), u3, u4, u5, ?_⟩
      rw [List.length_append]
      rfl)
  rw [List.length_range] at he
  rw [← ordl_eq]
  refine run_ret rfl rfl (b := false) (ss_cons (s_tn1 (x := .tuple []) (y := .bool true) rfl rfl rfl) (ss_cons (s_for (ds := (List.range ls.length).map iD) ?_ he) (ss_rt (s_ret (ev_tsr rfl ?_)))))
  · show (if rngOk 0 ((ls.map iD).length : Int) = true then some (rngD 0 ((ls.map iD).length : Int)) else none) = _
    rw [List.length_map, if_pos (by unfold rngOk; simp; omega)]
    unfold rngD
    rw [show ((ls.length : Int) - 0).toNat = ls.length by omega]
    congr 1
    refine List.map_congr_left fun k _ => ?_
    show PyData.int _ = PyData.int _
    congr 1
    omega
  · rw [tb_keys]
    exact sorted_qs _
end
end Wr.P
end

section
set_option Elab.async false
set_option linter.all false
set_option maxRecDepth 100000
set_option maxHeartbeats 4000000
/-! XcB: law k08. -/
namespace Wr.P
open PySem
structure K08 (T : Tab) : Prop where
  F : Tabs T
  G : LawTabs T
  f8 : T.lookup 8 = some F8
  f9 : T.lookup 9 = some F9
  f18 : T.lookup 18 = some F18
  f19 : T.lookup 19 = some F19
  f30 : T.lookup 30 = some F30
  f37 : T.lookup 37 = some F37
  f38 : T.lookup 38 = some F38
  f47 : T.lookup 47 = some F47
  f58 : T.lookup 58 = some F58
  f62 : T.lookup 62 = some F62
  f65 : T.lookup 65 = some F65
  f66 : T.lookup 66 = some F66
  f69 : T.lookup 69 = some F69
  f70 : T.lookup 70 = some F70
  f71 : T.lookup 71 = some F71
theorem ev_nes {Ph : Nat → List PyData → Option PyData} {env : Ev} {a b : O} {x : PyData} (h1 : evO Ph env a = some x) (h2 : evO Ph env b = some x) (h3 : eqD x x = some true) : evE Ph env (.cmp .NotEq a b) = some (.bool false) :=
  ev_cmp h1 h2 (by show (eqD x x).map (!·) = _; rw [h3]; rfl)
section
variable {Ph : Nat → List PyData → Option PyData} {env : Ev} {e : E} {es : Es} {o : Option PyData}
theorem or_1 (h : evE Ph env e = some (.bool true)) : evE Ph env (.or (.cons e es)) = some (.bool true) := by rw [evE, evOr, h]
theorem or_0 (h : evE Ph env e = some (.bool false)) (h2 : evE Ph env (.or es) = o) : evE Ph env (.or (.cons e es)) = o := by
  rw [evE] at h2
  rw [evE, evOr, h]
  exact h2
theorem or_n : evE Ph env (.or .nil) = some (.bool false) := by rw [evE, evOr]
end
/-- the first of some orders -/
def fstD : List (List Nat) → PyData
  | [] => .none
  | o :: _ => qD o
theorem eqD_fst (os : List (List Nat)) : eqD (fstD os) (fstD os) = some true := by
  cases os with
  | nil => rfl
  | cons o os => exact eqD_refl (by rw [fstD, noD]; exact noD_nats' o) (by rw [fstD, PyData.depth, depth_nats']; omega)
theorem okO_len {t : Tr} {ls : List Nat} (h : ls.length ≤ 6) : (okO t ls).length ≤ 46656 := by
  unfold okO
  exact Nat.le_trans (List.length_filter_le ..) (Nat.le_trans (ordP_len ls _) (pow6 h h))
section
variable {T : Tab}
theorem cnt69 (K : K08 T) {t : Tr} (ht : TrOk t) (hv : TrV t) {ls : List Nat} (hl : ∀ l ∈ ls, 0 < l ∧ l < 1000000) (hls : ls.length ≤ 6) {n : Nat} (hn : 21 ≤ n) : Phi T n 69 [enc t, qD ls] = some (iD (okO t ls).length) := by
  obtain ⟨m, rfl⟩ : ∃ m, n = m + 1 := ⟨n - 1, by omega⟩
  rw [Phi_succ K.f69]
  have h := succord_ok K.F K.f30 K.f58 K.f65 K.f66 ht hv hl hls (n := m) (by omega)
  exact run_ret rfl rfl (b := false) (ss_rt (s_ret (ev_len (ev_o (ev_call rfl h)) (by show some _ = _; rw [List.length_map]))))
theorem fst70 (K : K08 T) {t : Tr} (ht : TrOk t) (hv : TrV t) {ls : List Nat} (hl : ∀ l ∈ ls, 0 < l ∧ l < 1000000) (hls : ls.length ≤ 6) {n : Nat} (hn : 21 ≤ n) : Phi T n 70 [enc t, qD ls] = some (fstD (okO t ls)) := by
  obtain ⟨m, rfl⟩ : ∃ m, n = m + 1 := ⟨n - 1, by omega⟩
  rw [Phi_succ K.f70]
  have h := succord_ok K.F K.f30 K.f58 K.f65 K.f66 ht hv hl hls (n := m) (by omega)
  generalize okO t ls = os at h ⊢
  refine run_ret rfl rfl (b := false) (ss_cons (s_asg (d := .list (os.map qD)) (ev_call rfl h) (fr_call K.f66 rfl)) (ss_rt (s_ret ?_)))
  cases os with
  | nil => exact ev_iff (ev_cmp rfl rfl (v := false) rfl) rfl
  | cons o os => exact ev_ift (ev_cmp rfl rfl (v := true) rfl) (ev_idx rfl rfl rfl)
def bT08 : Ss := forB (hdS (tlS (tlS (tlS (forB (hdS b71))))))
theorem turn08 (K : K08 T) {t : Tr} (ht : TrOk t) (hv : TrV t) {d2 : List Int} (hl2 : d2.length = 60) (hd2 : ∀ d ∈ d2, 0 ≤ d) {top k : Nat} (t1 : 1 ≤ top) (t2 : top ≤ 300000) (hk : k < 4) {a0 a1 : Sl} {s6 s7 s9 : Sl} :
    ∃ u6 u7 u9 : Sl, exSs (Phi T 59) (frOf T) [a0, a1, .sh (enc t), .sh (L d2), .sh (iD top), .sh (iD k), s6, s7, .un, s9] bT08 = some (.nx [a0, a1, .sh (enc t), .sh (L d2), .sh (iD top), .sh (iD k), u6, u7, .un, u9]) := by
  have hcut : slcD (L d2) (.int (10 * (k : Int))) .none = some (L (d2.drop (10 * k))) := by
    rw [slc_l, cut_from (by omega) (by rw [List.length_map]; omega), show (10 * (k : Int)).toNat = 10 * k by omega]
    simp [L]
  obtain ⟨lo, o1, o2, o3, e6⟩ := loads_ok (n := 58) K.f38 (ds := d2.drop (10 * k)) (by rw [List.length_drop]; omega) (fun d h => hd2 d (List.mem_of_mem_drop h)) (m := 5) (top := top) (by omega) (by omega) (by omega)
  have hpos : ∀ l ∈ lo, 0 < l ∧ l < 1000000 := fun l h => by have := o3 l h; omega
  have e62 := ordl_ok K.f62 (ls := lo) (by omega) (n := 59) (by omega)
  have c := cnt69 K ht hv hpos (by omega) (n := 59) (by omega)
  have f := fst70 K ht hv hpos (by omega) (n := 59) (by omega)
  have hcp : evE (Phi T 59) [a0, a1, .sh (enc t), .sh (L d2), .sh (iD top), .sh (iD k), .sh (qD lo), s7, .un, s9] (.cpr (.var 8) (.nm 8) (.val (.call 62 (.cons (.var 6) .nil))) (.cons (.call 47 (.cons (.var 2) (.cons (.var 8) .nil))) .nil)) = some (.list ((okO t lo).map qD)) := by
    refine ev_cpf qD _ (ordP lo lo.length) ?_ (Nat.lt_of_lt_of_eq (by decide : 8 < 10) rfl) fun o ho => ?_
    · rw [evI, ev_call (ds := [qD lo]) rfl e62]
      rfl
    · have hp := mem_allord.mp ho
      exact ev_call rfl (works_ok K.G K.f47 ht hv (by rw [hp.length_eq]; omega) (n := 59) (by omega))
  have hlen := okO_len (t := t) (ls := lo) (by omega)
  generalize okO t lo = os at *
  refine ⟨.sh (qD lo), .sh (.list (os.map qD)), .sh (iD os.length), ss_cons (s_asg (d := qD lo) (ev_call (es_cons (ev_slc rfl (ev_bin rfl rfl (bd_mull (by decide))) rfl (d := L (d2.drop (10 * k))) hcut) (es_cons rfl (es_cons rfl rfl))) e6) (fr_call K.f38 rfl)) (ss_cons (s_own (d := .list (os.map qD)) hcp) (ss_cons (s_shr rfl) (ss_cons (s_asg (d := iD os.length) (ev_call rfl c) (fr_call K.f69 rfl)) (ss_cons (s_iff (or_0 (ev_nes (x := iD os.length) rfl (ev_o (ev_len rfl ?_)) ?_) (or_0 rfl or_n)) ss_nil) (ss_cons (s_iff (ev_nes (ev_o (ev_call rfl f)) (ev_o (ev_idx (ev_o (ev_bin rfl (ev_o (ev_lst (es_cons rfl rfl))) (d := .list (os.map qD ++ [.none])) ?_)) rfl ?_)) (eqD_fst os)) ss_nil) ss_nil)))))⟩
  · show some _ = _
    rw [List.length_map]
  · rw [eqD_int, decide_eq_true rfl]
  · show (if _ then _ else none) = _
    rw [if_pos (by rw [List.length_map]; simp only [List.length_cons, List.length_nil]; unfold lim; omega)]
  · cases os <;> rfl
theorem okO_nil {t : Tr} (ht : TrOk t) : okO t [] = [[]] := by
  have h : stt t [] ≠ [] := L0_ne ht
  unfold okO
  show ([[]] : List (List Nat)).filter _ = _
  rw [List.filter_cons, if_pos (by rw [decide_eq_true h])]
  rfl
theorem law08 (K : K08 T) (ns : List Int) (htail : ∀ (s1 s2 s3 s4 s5 s6 s7 s8 s9 : Sl), exSs (Phi T 59) (frOf T) [.sh (L ns), s1, s2, s3, s4, s5, s6, s7, s8, s9] (tlS b71) = some (.rt (.bool true) false)) :
    Phi T 60 71 [L ns] = some (.bool true) := by
  rw [Phi_succ (n := 59) K.f71]
  obtain ⟨env', he, s1, s2, s3, s4, s5, s6, s7, s9, rfl⟩ := loopF_of (tg := .nm 1) (body := fun env => exSs (Phi T 59) (frOf T) env (forB (hdS b71))) (env := [.sh (L ns), .un, .un, .un, .un, .un, .un, .un, .un, .un]) iD [0, 2, 4, 6]
    (fun done env => ∃ s1 s2 s3 s4 s5 s6 s7 s9 : Sl, env = [.sh (L ns), s1, s2, s3, s4, s5, s6, s7, .un, s9]) ⟨.un, .un, .un, .un, .un, .un, .un, .un, rfl⟩ (by
      rintro done idx rest env e ⟨s1, s2, s3, s4, s5, s6, s7, s9, rfl⟩
      have hidx : idx ≤ 6 := by
        have : idx ∈ [0, 2, 4, 6] := by rw [e]; simp
        simp only [List.mem_cons, List.not_mem_nil, or_false] at this
        omega
      obtain ⟨d1, hl1, hd1, e1⟩ := digits_ok (n := 57) K.f8 K.f9 ns (i := idx) (c := 60) (b := 27720) (by omega) (by omega) (by omega) (by omega)
      obtain ⟨d2, hl2, hd2, e2⟩ := digits_ok (n := 57) K.f8 K.f9 ns (i := idx + 1) (c := 60) (b := 27720) (by omega) (by omega) (by omega) (by omega)
      obtain ⟨t, hR, e3⟩ := rig_ok (n := 57) K.f18 K.f19 (ds := d1) (by omega) (fun d h => (hd1 d h).1) (m := 6) (by omega) (by omega)
      obtain ⟨ht, hv, hp⟩ := hR.ok' (by omega)
      obtain ⟨top, t1, t2, e4⟩ := cap_ok K.G.f20 K.G.f33 K.f37 ht hp (n := 59) (by omega)
      obtain ⟨env2, he2, u5, u6, u7, u9, rfl⟩ := loopF_of (tg := .nm 5) (body := fun env => exSs (Phi T 59) (frOf T) env bT08) (env := [.sh (L ns), .sh (iD idx), .sh (enc t), .sh (L d2), .sh (iD top), s5, s6, s7, .un, s9]) iD [0, 1, 2, 3]
        (fun done env => ∃ u5 u6 u7 u9 : Sl, env = [.sh (L ns), .sh (iD idx), .sh (enc t), .sh (L d2), .sh (iD top), u5, u6, u7, .un, u9]) ⟨s5, s6, s7, s9, rfl⟩ (by
          rintro done k rest env e ⟨u5, u6, u7, u9, rfl⟩
          have hk : k < 4 := by
            have : k ∈ [0, 1, 2, 3] := by rw [e]; simp
            simp only [List.mem_cons, List.not_mem_nil, or_false] at this
            omega
          obtain ⟨v6, v7, v9, hb⟩ := turn08 K ht hv hl2 (fun d h => (hd2 d h).1) t1 (by omega) hk (a0 := .sh (L ns)) (a1 := .sh (iD idx)) (s6 := u6) (s7 := u7) (s9 := u9)
          exact ⟨_, _, rfl, hb, _, _, _, _, rfl⟩)
      have c0 := cnt69 K ht hv (ls := []) (fun l h => by cases h) (by decide) (n := 59) (by omega)
      have f0 := fst70 K ht hv (ls := []) (fun l h => by cases h) (by decide) (n := 59) (by omega)
      rw [okO_nil ht] at c0 f0
      refine ⟨_, _, rfl, ss_cons (s_asg (d := enc t) (ev_call (es_cons (ev_call rfl e1) (es_cons rfl rfl)) e3) (fr_call K.f19 rfl)) (ss_cons (s_asg (d := L d2) (ev_call (es_cons rfl (es_cons (ev_bin rfl rfl bd_add) rfl)) e2) (fr_call K.f9 rfl)) (ss_cons (s_asg (d := iD top) (ev_call rfl e4) (fr_call K.f37 rfl)) (ss_cons (s_for (ds := [0, 1, 2, 3].map iD) rfl he2) (ss_cons (s_iff (or_0 (ev_nes (x := .int 1) (ev_o (ev_call rfl c0)) rfl rfl) (or_0 (ev_nes (x := .tuple []) (ev_o (ev_call rfl f0)) (ev_o (ev_tup rfl)) rfl) or_n)) ss_nil) ss_nil)))), _, _, _, _, _, _, _, _, rfl⟩)
  exact run_ret rfl rfl (b := false) (ss_cons (s_for (ds := [0, 2, 4, 6].map iD) rfl he) (htail _ _ _ _ _ _ _ _ _))
end
end Wr.P
end

set_option Elab.async false
set_option linter.all false
set_option maxRecDepth 100000
set_option maxHeartbeats 0
namespace Lk08
open PySem PySem.Spec PyProof.Rows L2 Wr Wr.P
def T : Tab := [(4, F4), (5, F5), (24, F24), (25, F25), (26, F26), (27, F27), (28, F28), (29, F29), (30, F30), (58, F58), (65, F65), (66, F66), (69, F69), (70, F70), (8, F8), (9, F9), (18, F18), (19, F19), (20, F20), (33, F33), (34, F34), (35, F35), (36, F36), (47, F47), (37, F37), (38, F38), (62, F62), (71, F71)]
def slots : List (Nat × List Str × Nat) := [(4, [st [116, 114, 101, 101]], 1),
  (5, [st [116, 114, 101, 101], st [99, 104, 105, 108, 100], st [115, 116, 114, 97, 110, 100]], 1),
  (24, [st [108, 111, 97, 100], st [99, 111, 117, 110, 116], st [111, 110, 101], st [111, 116, 104, 101, 114], st [116, 111, 112], st [98, 111, 116, 116, 111, 109]], 2),
  (25, [st [116, 114, 101, 101], st [108, 111, 97, 100], st [110, 97, 109, 101, 115], st [104, 111, 108, 100, 105, 110, 103], st [99, 104, 105, 108, 100], st [115, 116, 114, 97, 110, 100], st [114, 101, 115, 117, 108, 116]], 3),
  (26, [st [114, 105, 103], st [108, 111, 97, 100], st [115, 116, 114, 101, 110, 103, 116, 104, 115], st [110, 97, 109, 101, 115], st [99, 97, 114, 114, 105, 101, 100], st [107, 101, 112, 116], st [110, 97, 109, 101]], 3),
  (27, [st [114, 105, 103], st [115, 116, 114, 97, 110, 100]], 1),
  (28, [st [114, 105, 103], st [115, 116, 114, 101, 110, 103, 116, 104, 115], st [108, 111, 97, 100], st [99, 97, 114, 114, 105, 101, 100], st [119, 101, 97, 114, 115], st [115, 116, 114, 97, 110, 100], st [110, 97, 109, 101]], 3),
  (29, [st [114, 105, 103], st [115, 101, 113, 117, 101, 110, 99, 101], st [115, 116, 101, 112, 115], st [115, 116, 114, 101, 110, 103, 116, 104, 115], st [108, 111, 97, 100], st [97, 102, 116, 101, 114], st [99, 97, 114, 114, 105, 101, 100]], 2),
  (30, [st [114, 105, 103], st [115, 101, 113, 117, 101, 110, 99, 101], st [98, 101, 102, 111, 114, 101], st [97, 102, 116, 101, 114], st [99, 97, 114, 114, 105, 101, 100]], 2),
  (58, [st [114, 105, 103], st [115, 101, 113, 117, 101, 110, 99, 101]], 2),
  (65, [st [108, 111, 97, 100, 115], st [111, 114, 100, 101, 114, 115], st [116, 117, 114, 110], st [108, 111, 110, 103, 101, 114], st [111, 114, 100, 101, 114], st [117, 110, 117, 115, 101, 100], st [108, 111, 97, 100]], 1),
  (66, [st [114, 105, 103], st [108, 111, 97, 100, 115], st [111, 114, 100, 101, 114]], 2),
  (69, [st [114, 105, 103], st [108, 111, 97, 100, 115]], 2),
  (70, [st [114, 105, 103], st [108, 111, 97, 100, 115], st [111, 114, 100, 101, 114, 115]], 2),
  (8, [st [115, 99, 114, 105, 112, 116], st [105, 110, 100, 101, 120]], 2),
  (9, [st [115, 99, 114, 105, 112, 116], st [105, 110, 100, 101, 120], st [99, 111, 117, 110, 116], st [98, 97, 115, 101], st [112, 114, 105, 109, 101, 115], st [99, 101, 108, 108], st [114, 101, 115, 116], st [100, 105, 103, 105, 116, 115], st [107], st [109, 105, 120, 101, 100]], 4),
  (18, [st [112, 97, 114, 116, 115], st [100, 105, 103, 105, 116, 115], st [116, 114, 101, 101, 115], st [115, 116, 101, 112], st [99, 111, 117, 110, 116], st [102, 105, 114, 115, 116], st [108, 97, 115, 116]], 2),
  (19, [st [100, 105, 103, 105, 116, 115], st [108, 105, 109, 105, 116], st [99, 111, 117, 110, 116], st [110, 97, 109, 101, 115], st [108, 101, 97, 118, 101, 115], st [100, 105, 103, 105, 116], st [112, 111, 119, 101, 114], st [119, 101, 97, 114]], 2),
  (20, [st [116, 114, 101, 101], st [115, 116, 114, 97, 110, 100, 115], st [99, 104, 105, 108, 100]], 1),
  (33, [st [116, 114, 101, 101], st [110, 97, 109, 101, 115], st [112, 97, 114, 116, 115], st [99, 104, 105, 108, 100], st [112, 97, 114, 116], st [114, 101, 115, 117, 108, 116], st [110, 97, 109, 101]], 2),
  (34, [st [114, 105, 103], st [112, 111, 119, 101, 114, 115], st [108, 111, 97, 100], st [110, 97, 109, 101, 115], st [112, 114, 101, 118, 105, 111, 117, 115], st [100, 105, 118, 105, 115, 111, 114, 115], st [110, 97, 109, 101]], 3),
  (35, [st [114, 105, 103], st [115, 101, 113, 117, 101, 110, 99, 101], st [112, 111, 119, 101, 114, 115], st [115, 116, 114, 97, 110, 100], st [119, 101, 97, 114, 115], st [115, 116, 101, 112, 115], st [108, 111, 97, 100], st [100, 105, 118, 105, 115, 111, 114, 115], st [97, 102, 116, 101, 114], st [110, 97, 109, 101]], 2),
  (36, [st [114, 105, 103], st [115, 101, 113, 117, 101, 110, 99, 101], st [115, 116, 101, 112, 115], st [115, 116, 114, 97, 110, 100]], 2),
  (47, [st [114, 105, 103], st [115, 101, 113, 117, 101, 110, 99, 101]], 2),
  (37, [st [114, 105, 103], st [115, 117, 98, 115, 101, 116, 115], st [112, 111, 119, 101, 114, 115], st [115, 116, 114, 97, 110, 100], st [110, 97, 109, 101], st [115, 117, 98, 115, 101, 116], st [98, 101, 115, 116], st [100, 105, 118, 105, 115, 111, 114, 115]], 1),
  (38, [st [100, 105, 103, 105, 116, 115], st [108, 105, 109, 105, 116], st [116, 111, 112], st [119, 105, 100, 101], st [108, 111, 97, 100, 115], st [100, 105, 103, 105, 116]], 3),
  (62, [st [108, 111, 97, 100, 115], st [111, 114, 100, 101, 114, 115], st [116, 117, 114, 110], st [108, 111, 110, 103, 101, 114], st [111, 114, 100, 101, 114], st [108, 111, 97, 100]], 1),
  (71, [st [115, 99, 114, 105, 112, 116], st [105, 110, 100, 101, 120], st [114, 105, 103], st [100, 105, 103, 105, 116, 115], st [116, 111, 112], st [116, 117, 114, 110], st [108, 111, 97, 100, 115], st [118, 97, 108, 105, 100], st [111, 114, 100, 101, 114], st [99, 111, 117, 110, 116]], 1)]
def B : List Str := ["len", "isinstance", "sorted", "int", "str", "bool", "tuple", "list", "dict", "set", "range", "enumerate", "zip", "min", "max", "sum", "any", "all"]
abbrev P0 : Program := PySem.Challenge.pw_wornrigs_k08_counted_orders
abbrev ss : List Stmt := defsOf P0
def one (d : DefE) : Bool := defOk T B (gOf (mkE ss slots)) d
theorem checked : (mkE ss slots).all (defOk T B (gOf (mkE ss slots))) = true := by
  decide +kernel
abbrev R : PySem.W.OpenRow := PySem.W.OpenLaw.row PySem.Challenge.rw_wornrigs_k08_counted_orders
abbrev hk : PySem.W.Hook := He.hookD 4 (faOf ss B) (ss.map mkD)
def ob (s : PySem.W.SharedT) : He.AlD :=
  He.obsDG 4 (faOf ss B) (ss.map mkD) (HandSHeadRun.getT s)
theorem ob_eq (s : PySem.W.SharedT) : ob s = hk.obs s.abs :=
  He.obsDG_eq (HandSHeadRun.getT_eq s)
def lawIx : Nat := P0.main.body.length - 1
def loose : List Str := (ss.map nameOf).filter fun x => !(x == ("law" : Str))
theorem run (w : World) : HandSHeadRun.RunEq R (PySem.W.view R.prog [lawIx]) hk ob 4000 loose w := by
  intro os
  kernel_rfl
def lawE : DefE := (mkE ss slots).getLastD ⟨"", 0, [], [], .Pass ⟨0, 0, 0, 0⟩⟩
theorem lawE_x : lawE.x = ("law" : Str) := by
  decide +kernel
theorem lawE_f : lawE.f = 71 := by
  decide +kernel
theorem lawE_ps : lawE.ps = [("script" : Str)] := by
  decide +kernel
theorem lawE_mem : lawE ∈ mkE ss slots := by
  have h : mkE ss slots ≠ [] := by
    intro e
    have : (mkE ss slots).length = 0 := by rw [e]; rfl
    exact absurd this (by decide +kernel)
  unfold lawE
  rw [List.getLastD_eq_getLast?, List.getLast?_eq_some_getLast h]
  exact List.getLast_mem h
theorem lawFr : frOf T 71 = false := by
  decide +kernel
abbrev D0 : PySem.W.OpenLaw := PySem.Challenge.rw_wornrigs_k08_counted_orders
theorem ends (hlaw : ∀ ns : List Int, ns.length ≤ 63 → Phi T 60 71 [.list (ns.map .int)] = some (.bool true)) : D0.Holds := by
  w_on; o_law
  refine HandSHeadRun.head_any (r := R) (q := PySem.W.view R.prog [lawIx]) (H := hk) (ob := ob) (M := 4000) (loose := loose)
    (d := HandSHeadRun.topDef R.prog lawIx) (kwd := []) ob_eq ?e ?f run ?hdef ?hp ?hk ?hwr ?k1 ?ok ?hb ?hw ?hc
  case e => kernel_rfl
  case f => intro s; kernel_rfl
  case hdef => kernel_rfl
  case hp => kernel_rfl
  case hk => kernel_rfl
  case hwr => rfl
  case k1 => first | assumption | decide +kernel
  case ok => decide +kernel
  case hb => exact ⟨rfl, rfl, rfl, rfl, rfl, by decide +kernel⟩
  case hw => w_witness2
  case hc =>
    refine L2.walk_ofE (l := D0) (n := 63) (k := 60) (x := "script") (CX := L2.CX0) rfl (by decide) (by kernel_rfl) ⟨rfl, by decide, by decide⟩ ?F (fun _ _ _ _ z => z)
    intro w mg fa h Y G hmg0
    obtain ⟨K, KX, c⟩ := Y
    have hmg : mg ("law" : PySem.Str) = some (.ref fa) := by
      rw [← show (HandSHeadRun.topDef R.prog lawIx).name = ("law" : PySem.Str) by kernel_rfl]
      exact hmg0
    obtain ⟨fd, hb, hF⟩ := law_fn (P := D0.prog) (w := w) (n := 60) checked lawE_mem lawE_f lawE_ps lawFr lawE_x KX G hmg c
    exact ⟨K, fd, spF K (Phi T 60) false 1 71, KX, hb, fun H a ns hl _ hS => law_sp (hlaw ns hl) hS, hF⟩
theorem tail (ns : List Int) (s1 s2 s3 s4 s5 s6 s7 s8 s9 : Sl) : exSs (Phi T 59) (frOf T) [.sh (L ns), s1, s2, s3, s4, s5, s6, s7, s8, s9] (tlS b71) = some (.rt (.bool true) false) := by
  kernel_rfl
theorem tabs : K08 T := ⟨⟨rfl, rfl, rfl, rfl, rfl, rfl, rfl, rfl⟩, ⟨rfl, rfl, rfl, rfl, rfl⟩, rfl, rfl, rfl, rfl, rfl, rfl, rfl, rfl, rfl, rfl, rfl, rfl, rfl, rfl, rfl⟩
end Lk08
set_option maxRecDepth 100000 in
set_option maxHeartbeats 0 in
theorem PySem.Challenge.cw_wornrigs_k08_counted_orders_holds : PySem.Challenge.rw_wornrigs_k08_counted_orders.Holds := by
  exact Lk08.ends fun ns _ => Wr.P.law08 Lk08.tabs ns (Lk08.tail ns)
