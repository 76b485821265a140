import PyProof.Rows.All
import PySem.Challenge.RW_narrowrows_k17_whole_bands
import KE.SortData
import KE.DataMinMax
import Wide.All
import OpenK.AllK
import Wide.FinOn
import HandS.ForMost
import HandS.Exc
import HandS.WordsExc
import HandS.Conv
import HandS.Zip
import HandS.Style
import HandS.Small
import HandS.Deep
import HandS.SortInts
import HandS.ExcField
import HandS.TupAny
import HandS.Strs
import HandS.SetFor
import HandS.WordsDict
import HandS.More
import HandS.IsInst
import HandS.ExcOwn
import KE.GoesMore
import HandS.Walk
import HandS.Dict
import KE.KExcSuper
import HandS.TryMany
import HandS.Defaults
import HandS.Head0
import HandS.Head1
import HandS.Head2
import HandS.HeadEnd
import HandS.HeadHook1
import HandS.HeadHook2
import HandS.HeadHook3
import HandS.HeadHook4
section
set_option Elab.async false
set_option linter.all false
set_option maxRecDepth 100000
set_option maxHeartbeats 4000000
/-! E0: the core language and its evaluator. -/
namespace Nr

/-- values -/
inductive PV where
  | non | bl (b : Bool) | int (i : Int) | str (s : PySem.Str)
  | tup (xs : List PV) | lst (xs : List PV) | dct (kvs : List (PV × PV))
  | obj (c : Nat) (fs : List (Nat × PV)) | loc (n : Nat) | fn (f : Nat) | err (c : Nat) (fs : List (Nat × PV)) | scr (ns : List Int)
  deriving Inhabited

/-- a slot of a frame: no value, a value, a list or dict or object that this slot alone holds -/
inductive Slot where
  | non | val (v : PV) | own (c : PV)
  deriving Inhabited

/-- what an expression gives: a value, a fresh object, a slot's own object -/
inductive RV where
  | val (v : PV) | tmp (c : PV) | slot (i : Nat)
  deriving Inhabited

structure St where
  env : List Slot
  cells : List PV
  /-- slot 0 is kept: the object that an __init__ makes -/
  slf : Bool

inductive R (α : Type) where
  | ok (a : α) (s : St) | ex (e : PV) (s : St) | bad

@[inline] def R.bind {α β : Type} (r : R α) (f : α → St → R β) : R β := match r with
  | .ok a s => f a s
  | .ex e s => .ex e s
  | .bad => .bad
def R.bindR {α β : Type} (r : R α) (f : α → St → R β) : R β := R.bind r f
@[simp] theorem R.bind_ok {α β : Type} (a : α) (s : St) (f : α → St → R β) : (R.ok a s).bind f = f a s := id rfl
@[simp] theorem R.bind_ex {α β : Type} (e : PV) (s : St) (f : α → St → R β) : (R.ex e s : R α).bind f = .ex e s := id rfl
@[simp] theorem R.bind_bad {α β : Type} (f : α → St → R β) : (R.bad : R α).bind f = .bad := id rfl

/-! ### plain data -/
mutual
def plain : PV → Bool
  | .non => true | .bl _ => true | .int _ => true | .str s => s.cps.all (· < 0x110000)
  | .tup xs => plainL xs | .lst xs => plainL xs
  | _ => false
def plainL : List PV → Bool
  | [] => true
  | x :: xs => plain x && plainL xs
end
mutual
/-- at most n levels -/
def depLe : Nat → PV → Bool
  | n + 1, .tup xs => depLeL n xs
  | n + 1, .lst xs => depLeL n xs
  | 0, .tup _ => false
  | 0, .lst _ => false
  | _, _ => true
def depLeL : Nat → List PV → Bool
  | _, [] => true
  | n, x :: xs => depLe n x && depLeL n xs
end
mutual
def pvEq : PV → PV → Bool
  | .non, .non => true
  | .bl a, .bl b => a == b
  | .bl a, .int j => (if a then 1 else 0) == j
  | .int i, .bl b => i == (if b then 1 else 0)
  | .int i, .int j => i == j
  | .str x, .str y => x == y
  | .tup xs, .tup ys => pvEqL xs ys
  | .lst xs, .lst ys => pvEqL xs ys
  | _, _ => false
def pvEqL : List PV → List PV → Bool
  | [], [] => true
  | x :: xs, y :: ys => pvEq x y && pvEqL xs ys
  | _, _ => false
end
mutual
/-- as the library's data -/
def toD : PV → PySem.PyData
  | .bl b => .bool b
  | .int i => .int i
  | .str s => .str s
  | .tup xs => .tuple (toDL xs)
  | .lst xs => .list (toDL xs)
  | _ => .none
def toDL : List PV → List PySem.PyData
  | [] => []
  | x :: xs => toD x :: toDL xs
end
def alikeP (x y : PV) : Bool := PySem.W.alike (toD x) (toD y)
/-- x < y, of values of one kind -/
def pvLt (x y : PV) : Bool := PySem.W.dataLt (toD x) (toD y)
/-- all of one kind -/
def alikeAll (xs : List PV) : Bool := xs.all fun x => xs.all fun y => alikeP x y
def isTup1 : PV → Bool
  | .tup (_ :: _) => true
  | _ => false
def isTup : PV → Bool
  | .tup _ => true
  | _ => false
def isNon0 : PV → Bool
  | .non => true
  | _ => false
def pvSort (xs : List PV) : List PV := xs.mergeSort fun a b => !pvLt b a
def pvMinFrom (a : PV) : List PV → PV
  | [] => a
  | x :: xs => pvMinFrom (if pvLt x a then x else a) xs
def pvMaxFrom (a : PV) : List PV → PV
  | [] => a
  | x :: xs => pvMaxFrom (if pvLt a x then x else a) xs
/-- each item once -/
def pvDedup : List PV → List PV
  | [] => []
  | x :: xs => let r := pvDedup xs; if r.any (fun y => pvEq y x) then r else x :: r
/-! keys of dicts: intsV, texts, tuples of keys -/
mutual
def isKey : Nat → PV → Bool
  | _, .int _ => true | _, .str _ => true
  | n + 1, .tup xs => isKeyL n xs
  | _, _ => false
def isKeyL : Nat → List PV → Bool
  | _, [] => true
  | n, x :: xs => isKey n x && isKeyL n xs
end
def dctGet (k : PV) : List (PV × PV) → Option PV
  | [] => none
  | (a, v) :: r => if pvEq a k then some v else dctGet k r
def dctPut (k v : PV) (kvs : List (PV × PV)) : List (PV × PV) := if kvs.any (fun p => pvEq p.1 k) then kvs.map (fun p => if pvEq p.1 k then (p.1, v) else p) else kvs ++ [(k, v)]
def dctOf : List PV → List (PV × PV) → Option (List (PV × PV))
  | [], acc => some acc
  | .tup [k, v] :: r, acc => if isKey 0 k then dctOf r (dctPut k v acc) else none
  | _ :: _, _ => none
def fldPut (f : Nat) (v : PV) : List (Nat × PV) → List (Nat × PV)
  | [] => [(f, v)]
  | (g, w) :: r => if g = f then (g, v) :: r else (g, w) :: fldPut f v r

/-! ### the core language -/
inductive UOp where
  | neg | len | abs | int_ | tuple_ | list_ | sorted_ | sum_ | min1 | max1 | all_ | any_ | lenset | sortset | dict_ | isNone | notNone | rev | repr_ | str_
  deriving DecidableEq, Inhabited
inductive BOp where
  | add | sub | mul | fdiv | mod | pow | shl | shr | band | bor | eq | ne | lt | le | gt | ge | isin | notin | idx | index | count | min2 | max2
  deriving DecidableEq, Inhabited
inductive IK where
  | seq | rng1 | rng2 | rng3 | enum | zip2
  deriving DecidableEq, Inhabited
inductive TC where
  | int | bool | list | tuple | str | cls (c : Nat)
  deriving DecidableEq, Inhabited
inductive Tg where
  | var (i : Nat) | nil | cons (a b : Tg)
  deriving DecidableEq, Inhabited
inductive CE where
  | var (i : Nat) | cst (v : PV) | una (op : UOp) (a : CE) | bin (op : BOp) (a b : CE) | slc (a lo hi : CE) | get3 (a k d : CE)
  | tup (es : CE) | lst (es : CE) | dct (es : CE)
  | and (a b : CE) | or (a b : CE) | not (a : CE) | ite (c a b : CE) | cmp2 (o p : BOp) (a b c : CE)
  | attr (a : CE) (f : Nat) | eattr (i f : Nat) | call (f : Nat) (es : CE) | meth (m : Nat) (a es : CE) | mk (c : Nat) (es : CE) | callv (a es : CE)
  | comp (fz : Bool) (t : Tg) (ik : IK) (src cond elt : CE) | mkseq (tup : Bool) (ik : IK) (es : CE) | pop (a es : CE) | isa (a : CE) (ts : List TC) | cell (a : CE)
  | nil | cons (a b : CE)
  deriving Inhabited
inductive CS where
  | skip | seq (a b : CS) | asg (t : Tg) (e : CE) | par (ts : Tg) (es : CE) | setsub (a i e : CE) | setsub2 (a i b j e f : CE) | setattr (a : CE) (f : Nat) (e : CE)
  | aug (i : Nat) (op : BOp) (e : CE) | augattr (a : CE) (f : Nat) (op : BOp) (e : CE) | expr (e : CE) | ret (e : CE) | ite (c : CE) (a b : CS)
  | whl (c : CE) (b : CS) | for_ (fz : Bool) (t : Tg) (ik : IK) (src : CE) (b : CS) | raise (c : Nat) (es : CE) | reraise
  | try_ (b : CS) (h : CS) | hnd (c : Nat) (slot : Option Nat) (b : CS) (rest : CS)
  | append (a e : CE) | extend (a e : CE) | remove (a e : CE) | brk | cont
  deriving Inhabited

/-! ### pure operations on values; none: the evaluator is stuck -/
def sizeOk (n : Nat) : Bool := decide (n ≤ 16777216)
def asInts : List PV → Option (List Int)
  | [] => some []
  | .int i :: r => (asInts r).map (i :: ·)
  | _ :: _ => none
def asBools : List PV → Option (List Bool)
  | [] => some []
  | .bl i :: r => (asBools r).map (i :: ·)
  | _ :: _ => none
def elems : PV → Option (List PV)
  | .tup xs => some xs
  | .lst xs => some xs
  | _ => none
def strSigns (s : PySem.Str) : List PV := s.cps.toList.map fun c => .str ⟨#[c]⟩
/-- an index, negative ones from the end -/
def ixOf (n : Nat) (i : Int) : Option Nat := if 0 ≤ i then (if i < n then some i.toNat else none) else if -(n : Int) ≤ i then some (i + n).toNat else none
def fresh (v : PV) : RV := match v with
  | .lst _ => .tmp v
  | .dct _ => .tmp v
  | _ => .val v
/-- sorted, min, max want items that can be compared -/
def sortable (xs : List PV) : Bool := plainL xs && depLeL 30 xs && alikeAll xs && sizeOk xs.length && (xs.all isTup1 || xs.all fun x => !isTup x && !isNon0 x)
def ordOk (xs : List PV) : Bool := plainL xs && depLeL 30 xs && alikeAll xs && xs.all fun x => !isNon0 x
def lenV : PV → Option PV
  | .tup xs => some (.int xs.length)
  | .lst xs => some (.int xs.length)
  | .dct kvs => some (.int kvs.length)
  | .scr ns => some (.int ns.length)
  | _ => none
def intV : PV → Option PV
  | .int i => some (.int i)
  | .bl b => some (.int (if b then 1 else 0))
  | _ => none
def tupleV : PV → Option PV
  | .tup xs => some (.tup xs)
  | .lst xs => some (.tup xs)
  | _ => none
def listV : PV → Option PV
  | .tup xs => some (.lst xs)
  | .lst xs => some (.lst xs)
  | .dct kvs => some (.lst (kvs.map (·.1)))
  | _ => none
def sortedV (x : PV) : Option PV := (elems x).bind fun xs => if sortable xs then some (.lst (pvSort xs)) else none
def sumV (x : PV) : Option PV := (elems x).bind fun xs => (asInts xs).map fun l => .int l.sum
def minV (x : PV) : Option PV := (elems x).bind fun xs => match xs with
  | [] => none
  | y :: ys => if ordOk (y :: ys) then some (pvMinFrom y ys) else none
def maxV (x : PV) : Option PV := (elems x).bind fun xs => match xs with
  | [] => none
  | y :: ys => if ordOk (y :: ys) then some (pvMaxFrom y ys) else none
def allV : PV → Option PV
  | .lst xs => (asBools xs).map fun l => .bl (l.all id)
  | _ => none
def anyV : PV → Option PV
  | .lst xs => (asBools xs).map fun l => .bl (l.any id)
  | _ => none
def isNonV : PV → Bool
  | .non => true
  | _ => false
def revV : PV → Option PV
  | .lst xs => some (.lst xs.reverse)
  | .tup xs => some (.tup xs.reverse)
  | _ => none
/-- each once, as first met -/
def onceI (ns : List Int) : List Int := ns.foldl (fun acc x => if acc.any (· == x) then acc else acc ++ [x]) []
def lensetV : PV → Option PV
  | .lst xs => (asInts xs).bind fun ns => if decide (ns.length ≤ 4000) then some (.int (onceI ns).length) else none
  | _ => none
def sortsetV (x : PV) : Option PV := (elems x).bind fun xs => if xs.all (isKey 1) && sortable xs && decide (xs.length ≤ 70) then some (.lst (pvSort (pvDedup xs))) else none
def dictV : PV → Option PV
  | .lst xs => (dctOf xs []).map .dct
  | _ => none
def negV : PV → Option PV
  | .int i => some (.int (-i))
  | _ => none
def absV : PV → Option PV
  | .int i => some (.int (if i < 0 then -i else i))
  | _ => none
def uop (op : UOp) (x : PV) : Option PV := match op with
  | .neg => negV x
  | .len => lenV x
  | .abs => absV x
  | .int_ => intV x
  | .tuple_ => tupleV x
  | .list_ => listV x
  | .sorted_ => sortedV x
  | .sum_ => sumV x
  | .min1 => minV x
  | .max1 => maxV x
  | .all_ => allV x
  | .any_ => anyV x
  | .isNone => some (.bl (isNonV x))
  | .notNone => some (.bl (!isNonV x))
  | .rev => revV x
  | .lenset => lensetV x
  | .sortset => sortsetV x
  | .dict_ => dictV x
  | .repr_ => none
  | .str_ => none
def eqOk (x y : PV) : Bool := plain x && plain y && (depLe 40 x || depLe 40 y)
def addV : PV → PV → Option PV
  | .int i, .int j => some (.int (i + j))
  | .str a, .str b => if sizeOk (a.length + b.length) then some (.str (a ++ b)) else none
  | .tup a, .tup b => if sizeOk (a.length + b.length) then some (.tup (a ++ b)) else none
  | .lst a, .lst b => if sizeOk (a.length + b.length) then some (.lst (a ++ b)) else none
  | _, _ => none
def intsV (f : Int → Int → Option PV) : PV → PV → Option PV
  | .int i, .int j => f i j
  | _, _ => none
def inside64 (i : Int) : Bool := decide (-(2 ^ 64) < i) && decide (i < 2 ^ 64)
def mulV : PV → PV → Option PV
  | .int i, .int j => if inside64 i || inside64 j then some (.int (i * j)) else none
  | .lst a, .int j => if decide (-(2 ^ 63) ≤ j) && decide (j < 2 ^ 63) && sizeOk (a.length * j.toNat) then some (.lst (List.replicate j.toNat a).flatten) else none
  | _, _ => none
def eqV (x y : PV) : Option PV := if eqOk x y then some (.bl (pvEq x y)) else none
def neV (x y : PV) : Option PV := if eqOk x y then some (.bl (!pvEq x y)) else none
def inB (x : PV) : PV → Option Bool
  | .tup ys => if eqOk x (.tup ys) then some (ys.any fun y => pvEq y x) else none
  | .lst ys => if eqOk x (.lst ys) then some (ys.any fun y => pvEq y x) else none
  | .dct kvs => if isKey 0 x then some (dctGet x kvs).isSome else none
  | _ => none
def idxV : PV → PV → Option PV
  | .tup xs, .int i => (ixOf xs.length i).bind fun k => xs[k]?
  | .lst xs, .int i => (ixOf xs.length i).bind fun k => xs[k]?
  | .scr ns, .int i => ((ixOf ns.length i).bind fun k => ns[k]?).map .int
  | .dct kvs, k => if isKey 0 k then dctGet k kvs else none
  | _, _ => none
def indexV : PV → PV → Option PV
  | .tup xs, y => if eqOk y (.tup xs) then (xs.findIdx? fun x => pvEq x y).map fun (k : Nat) => .int k else none
  | .lst xs, y => if eqOk y (.lst xs) then (xs.findIdx? fun x => pvEq x y).map fun (k : Nat) => .int k else none
  | _, _ => none
def countV : PV → PV → Option PV
  | .lst xs, .int k => (asInts xs).map fun l => .int (l.count k)
  | _, _ => none
def bop (op : BOp) (x y : PV) : Option PV := match op with
  | .add => addV x y
  | .sub => intsV (fun i j => some (.int (i - j))) x y
  | .mul => mulV x y
  | .fdiv => intsV (fun i j => if decide (0 < j) && decide (j < 1073741824) then some (.int (i / j)) else none) x y
  | .mod => intsV (fun i j => if decide (0 < j) then some (.int (i % j)) else none) x y
  | .pow => intsV (fun i j => if decide (0 ≤ j) && decide (j ≤ 1000) && decide (i.natAbs < 2 ^ 64) then some (.int (i ^ j.toNat)) else none) x y
  | .shl => intsV (fun i j => if decide (0 ≤ j) && decide (j ≤ 1000000) && decide (i.natAbs < 2 ^ 64) then some (.int (i * 2 ^ j.toNat)) else none) x y
  | .shr => intsV (fun i j => if decide (0 ≤ j) then some (.int (i / 2 ^ j.toNat)) else none) x y
  | .band => intsV (fun i j => if decide (0 ≤ i) && decide (0 ≤ j) then some (.int ((i.toNat &&& j.toNat : Nat) : Int)) else none) x y
  | .bor => intsV (fun i j => if decide (0 ≤ i) && decide (0 ≤ j) then some (.int ((i.toNat ||| j.toNat : Nat) : Int)) else none) x y
  | .eq => eqV x y
  | .ne => neV x y
  | .lt => intsV (fun i j => some (.bl (decide (i < j)))) x y
  | .le => intsV (fun i j => some (.bl (decide (i ≤ j)))) x y
  | .gt => intsV (fun i j => some (.bl (decide (j < i)))) x y
  | .ge => intsV (fun i j => some (.bl (decide (j ≤ i)))) x y
  | .isin => (inB x y).map .bl
  | .notin => (inB x y).map fun b => .bl (!b)
  | .idx => idxV x y
  | .index => indexV x y
  | .count => countV x y
  | .min2 => intsV (fun i j => some (.int (if j < i then j else i))) x y
  | .max2 => intsV (fun i j => some (.int (if j > i then j else i))) x y
def isFreshB : BOp → Bool
  | .add => true
  | .mul => true
  | _ => false
def cutIx (n d : Nat) (v : PV) : Option Nat := match v with
  | .non => some d
  | .int i => some (if i < 0 then (i + n).toNat else min i.toNat n)
  | _ => none
def cutL {α : Type} (xs : List α) (lo hi : Nat) : List α := (xs.drop lo).take (hi - lo)
def slcV (x lo hi : PV) : Option PV := match x with
  | .tup xs => (cutIx xs.length 0 lo).bind fun a => (cutIx xs.length xs.length hi).map fun b => .tup (cutL xs a b)
  | .lst xs => (cutIx xs.length 0 lo).bind fun a => (cutIx xs.length xs.length hi).map fun b => .lst (cutL xs a b)
  | _ => none
def rangeL (lo : Int) : Nat → List PV
  | 0 => []
  | n + 1 => .int lo :: rangeL (lo + 1) n
def rangeDown (lo : Int) : Nat → List PV
  | 0 => []
  | n + 1 => .int lo :: rangeDown (lo - 1) n
def rngOk (i : Int) : Bool := decide (-(2 ^ 62) ≤ i) && decide (i < 2 ^ 62)
def enumL (k : Nat) : List PV → List PV
  | [] => []
  | x :: xs => .tup [.int k, x] :: enumL (k + 1) xs
def zipL : List PV → List PV → List PV
  | x :: xs, y :: ys => .tup [x, y] :: zipL xs ys
  | _, _ => []
def itemsOf (ik : IK) (vs : List PV) : Option (List PV) := match ik, vs with
  | .seq, [.tup xs] => some xs
  | .seq, [.lst xs] => some xs
  | .rng1, [.int n] => if rngOk n then some (rangeL 0 n.toNat) else none
  | .rng2, [.int a, .int b] => if rngOk a && rngOk b then some (rangeL a (b - a).toNat) else none
  | .rng3, [.int a, .int b, .int c] => if rngOk a && rngOk b && decide (c = -1) then some (rangeDown a (a - b).toNat) else none
  | .enum, [.lst xs] => some (enumL 0 xs)
  | .enum, [.tup xs] => some (enumL 0 xs)
  | .zip2, [.lst xs, .lst ys] => some (zipL xs ys)
  | .zip2, [.tup xs, .tup ys] => some (zipL xs ys)
  | _, _ => none
def isaT (c : TC) (v : PV) : Bool := match c, v with
  | .int, .int _ => true
  | .int, .bl _ => true
  | .bool, .bl _ => true
  | .list, .lst _ => true
  | .tuple, .tup _ => true
  | .str, .str _ => true
  | .list, .scr _ => true
  | .cls c, .obj d _ => c == d
  | _, _ => false

/-- what isinstance is asked of -/
def isaOk : PV → Bool
  | .non => true | .bl _ => true | .int _ => true | .str _ => true | .tup _ => true | .lst _ => true | .dct _ => true | .scr _ => true
  | _ => false
mutual
/-- no exception within -/
def noErr : PV → Bool
  | .err _ _ => false
  | .tup xs => noErrL xs | .lst xs => noErrL xs | .dct kvs => noErrD kvs | .obj _ fs => noErrF fs
  | _ => true
def noErrL : List PV → Bool
  | [] => true
  | x :: xs => noErr x && noErrL xs
def noErrD : List (PV × PV) → Bool
  | [] => true
  | (_, x) :: kvs => noErr x && noErrD kvs
def noErrF : List (Nat × PV) → Bool
  | [] => true
  | (_, x) :: fs => noErr x && noErrF fs
end
/-! ### the state -/
def St.get (s : St) (i : Nat) : Slot := s.env.getD i .non
def St.put (s : St) (i : Nat) (x : Slot) : St := { s with env := s.env.set i x }
/-- what an RV shows -/
def view (s : St) : RV → Option PV
  | .val (.loc n) => s.cells[n]?
  | .val v => some v
  | .tmp c => some c
  | .slot i => match s.get i with
    | .own c => some c
    | _ => none
def views (s : St) : List RV → Option (List PV)
  | [] => some []
  | r :: rs => (view s r).bind fun v => (views s rs).map (v :: ·)
/-- as a value: a slot's own object is given up -/
def toVal (r : RV) (s : St) : R PV := match r with
  | .val v => .ok v s
  | .tmp c => .ok c s
  | .slot i => match s.get i with
    | .own c => .ok c (s.put i (.val c))
    | _ => .bad
def toVals : List RV → St → R (List PV)
  | [], s => .ok [] s
  | r :: rs, s => (toVal r s).bind fun v s1 => (toVals rs s1).bind fun vs s2 => .ok (v :: vs) s2
/-- an object is changed -/
def setCell (r : RV) (c : PV) (s : St) : R Unit := match r with
  | .slot i => .ok () (s.put i (.own c))
  | .val (.loc n) => .ok () { s with cells := s.cells.set n c }
  | _ => .bad
def ofOpt {α : Type} (o : Option α) (s : St) : R α := match o with
  | some a => .ok a s
  | none => .bad
/-- to a slot: a fresh object is held by it alone -/
def toSlot (r : RV) (s : St) : R Slot := match r with
  | .val v => .ok (.val v) s
  | .tmp c => .ok (.own c) s
  | .slot i => (toVal (.slot i) s).bind fun v s1 => .ok (.val v) s1
def toSlots : List RV → St → R (List Slot)
  | [], s => .ok [] s
  | r :: rs, s => (toSlot r s).bind fun v s1 => (toSlots rs s1).bind fun vs s2 => .ok (v :: vs) s2
/-- a target is stored -/
def St.free (s : St) (i : Nat) : Bool := !(s.slf && i == 0)
def asgT : Tg → PV → St → R Unit
  | .var i, v, s => if s.free i then .ok () (s.put i (.val v)) else .bad
  | .nil, _, _ => .bad
  | .cons a b, .tup (x :: xs), s => (asgT a x s).bind fun _ s1 => match b, xs with
    | .nil, [] => .ok () s1
    | .cons _ _, _ :: _ => asgT b (.tup xs) s1
    | _, _ => .bad
  | .cons _ _, _, _ => .bad
def tgVars : Tg → List Nat
  | .var i => [i]
  | .nil => []
  | .cons a b => tgVars a ++ tgVars b
def parT : Tg → List Slot → St → R Unit
  | .nil, [], s => .ok () s
  | .cons (.var i) b, x :: xs, s => if s.free i then parT b xs (s.put i x) else .bad
  | _, _, _ => .bad
def wipeS (s : St) : List Nat → St
  | [] => s
  | i :: is => (wipeS s is).put i .non
/-- slots as they were -/
def backS (s s0 : St) : List Nat → St
  | [] => s
  | i :: is => (backS s s0 is).put i (s0.get i)
/-- what a loop walks is held apart: (fz) given up, or out of its slot until the loop's end -/
def lend (fz : Bool) : List RV → St → R Unit
  | [], s => .ok () s
  | .slot i :: rs, s => match s.get i with
    | .own c => lend fz rs (s.put i (if fz then .val c else .non))
    | _ => .bad
  | .val (.loc _) :: _, _ => .bad
  | _ :: rs, s => lend fz rs s
def unlend (fz : Bool) (s0 : St) : List RV → St → St
  | [], s => s
  | .slot i :: rs, s => if fz then unlend fz s0 rs s else match s.get i with
    | .non => unlend fz s0 rs (s.put i (s0.get i))
    | _ => unlend fz s0 rs s
  | _ :: rs, s => unlend fz s0 rs s
/-- a slot that a comprehension's variable may use -/
def compVar (s : St) (i : Nat) : Bool := s.free i && (match s.get i with
  | .own _ => false
  | _ => true)

/-! ### calls: a result, with the cells behind it -/
inductive FR where
  | ok (r : RV) (cells : List PV) | ex (e : PV) (cells : List PV) | bad
structure CallF where
  fn : Nat → List PV → List PV → FR
  mkI : Nat → List PV → List PV → FR
def inSt (r : FR) (s : St) : R RV := match r with
  | .ok v cs => .ok v { s with cells := cs }
  | .ex e cs => .ex e { s with cells := cs }
  | .bad => .bad
/-- the program's tables -/
structure FD where
  ar : Nat
  nv : Nat
  body : CS
structure Tab where
  fns : Nat → Option FD
  /-- class, method: the def -/
  mth : Nat → Nat → Option Nat
  /-- class, attribute: a field of its own -/
  fld : Nat → Nat → Bool
  /-- a class: its __init__ -/
  ini : Nat → Option Nat
  /-- a class whose instances stand in cells -/
  inCell : Nat → Bool
  /-- a class's __eq__ -/
  eqm : Nat → Option Nat
  /-- a class's __len__ -/
  lnm : Nat → Option Nat
  /-- an exception's class: its fields, how many arguments -/
  exc : Nat → Option (List Nat)
  /-- the exception is caught by that class -/
  isExc : Nat → Nat → Bool
  /-- no exception is raised: a raise is stuck, handlers are never reached -/
  noex : Bool
def clsOf : PV → Option Nat
  | .obj c _ => some c
  | _ => none

/-- what the receiver of a method must be, ahead of the arguments -/
def isSeqR (s : St) (x : RV) : Bool := match view s x with
  | some (.lst _) => true
  | some (.tup _) => true
  | _ => false
def isLstR (s : St) (x : RV) : Bool := match view s x with
  | some (.lst _) => true
  | _ => false
def isValR : RV → Bool
  | .val _ => true
  | _ => false
def isDctR (s : St) (x : RV) : Bool := match view s x with
  | some (.dct _) => true
  | _ => false
def recvOk (op : BOp) (s : St) (x : RV) : Bool := match op with
  | .index => isSeqR s x
  | .count => isLstR s x
  | _ => true
section
variable (T : Tab) (cf : CallF)
/-- one turn after another -/
def loopR {α : Type} (f : PV → α → St → R α) : List PV → α → St → R α
  | [], a, s => .ok a s
  | x :: xs, a, s => (f x a s).bind fun b s1 => loopR f xs b s1

/-- a == b of what may be objects -/
def eqR (neg : Bool) (x y : RV) (s : St) : R RV :=
  (ofOpt (view s x) s).bind fun vx _ => (ofOpt (view s y) s).bind fun vy _ => match clsOf vx with
    | none => (ofOpt (bop (if neg then .ne else .eq) vx vy) s).bind fun r s1 => .ok (.val r) s1
    | some c => (ofOpt (T.eqm c) s).bind fun f s1 => (toVal x s1).bind fun a s2 => (toVal y s2).bind fun b s3 =>
      (inSt (cf.fn f [a, b] s3.cells) s3).bind fun r s4 => match r with
        | .val (.bl k) => .ok (.val (.bl (if neg then !k else k))) s4
        | _ => .bad
def binR (op : BOp) (x y : RV) (s : St) : R RV := match op with
  | .eq => eqR T cf false x y s
  | .ne => eqR T cf true x y s
  | _ => (ofOpt (view s x) s).bind fun vx _ => (ofOpt (view s y) s).bind fun vy _ => (ofOpt (bop op vx vy) s).bind fun r s1 => .ok (if isFreshB op then fresh r else .val r) s1
def unaR (op : UOp) (x : RV) (s : St) : R RV := (ofOpt (view s x) s).bind fun v _ => match op, clsOf v with
  | .len, some c => (ofOpt (T.lnm c) s).bind fun f s1 => (toVal x s1).bind fun a s2 => inSt (cf.fn f [a] s2.cells) s2
  | .min1, _ => (ofOpt (uop op v) s).bind fun r s1 => .ok (.val r) s1
  | .max1, _ => (ofOpt (uop op v) s).bind fun r s1 => .ok (.val r) s1
  | _, _ => (ofOpt (uop op v) s).bind fun r s1 => .ok (fresh r) s1
def pairUp : List PV → Option (List (PV × PV))
  | [] => some []
  | k :: v :: r => if isKey 0 k then (pairUp r).map ((k, v) :: ·) else none
  | _ => none
/-- the def behind x.m -/
def methOf (m : Nat) (s : St) (x : RV) : Option Nat := (view s x).bind fun v => match v with
  | .obj c fs => if fs.all (fun p => T.fld c p.1) then T.mth c m else none
  | _ => none
def popR (s2 : St) (x : RV) (v : PV) (vs : List PV) : R RV := match v, vs with
    | .lst xs, [] => (ofOpt (xs[xs.length - 1]?) s2).bind fun y _ => (setCell x (.lst xs.dropLast) s2).bind fun _ s3 => .ok (.val y) s3
    | .lst xs, [.int i] => (ofOpt (if rngOk i then ixOf xs.length i else none) s2).bind fun k _ => (ofOpt (xs[k]?) s2).bind fun y _ => (setCell x (.lst (xs.eraseIdx k)) s2).bind fun _ s3 => .ok (.val y) s3
    | _, _ => .bad
/-- no exception may leave -/
def noEx {α : Type} : R α → R α
  | .ok a s => .ok a s
  | _ => .bad
/-- a part of a slice: left out, or an int -/
def slPart (c : CE) (v : RV) : Bool := match c, v with
  | .cst .non, _ => true
  | _, .val (.int _) => true
  | _, _ => false
def partV : RV → PV
  | .val v => v
  | _ => .non
mutual
def evalE : CE → St → R RV
  | .var i, s => match s.get i with
    | .non => .bad
    | .val v => .ok (.val v) s
    | .own _ => .ok (.slot i) s
  | .cst v, s => .ok (.val v) s
  | .una op a, s => (evalE a s).bind fun x s1 => unaR T cf op x s1
  | .bin op a b, s => (evalE a s).bind fun x s1 => if recvOk op s1 x then (evalE b s1).bind fun y s2 => binR T cf op x y s2 else .bad
  | .slc a lo hi, s => (evalE a s).bind fun x s1 => (evalE lo s1).bind fun y s2 => if slPart lo y then (evalE hi s2).bind fun z s3 => (if slPart hi z then (ofOpt (view s3 x) s3).bind fun u _ => (ofOpt (slcV u (partV y) (partV z)) s3).bind fun r s4 => .ok (fresh r) s4 else .bad) else .bad
  | .get3 a k d, s => (evalE a s).bind fun x s1 => if isDctR s1 x then (evalE k s1).bind fun y s2 => (evalE d s2).bind fun z s3 => (toVal z s3).bind fun dv s4 =>
      (ofOpt (view s4 x) s4).bind fun vx _ => (ofOpt (view s4 y) s4).bind fun vy _ => (match vx with
        | .dct kvs => if isKey 0 vy then .ok (.val ((dctGet vy kvs).getD dv)) s4 else .bad
        | _ => .bad) else .bad
  | .tup es, s => (evalEs es s).bind fun rs s1 => (toVals rs s1).bind fun vs s2 => .ok (.val (.tup vs)) s2
  | .lst es, s => (evalEs es s).bind fun rs s1 => (toVals rs s1).bind fun vs s2 => .ok (.tmp (.lst vs)) s2
  | .dct es, s => (evalEs es s).bind fun rs s1 => (toVals rs s1).bind fun vs s2 => (ofOpt (pairUp vs) s2).bind fun kvs s3 => .ok (.tmp (.dct (kvs.foldl (fun acc p => dctPut p.1 p.2 acc) []))) s3
  | .and a b, s => (evalE a s).bind fun x s1 => match x with
    | .val (.bl true) => evalE b s1
    | .val (.bl false) => .ok (.val (.bl false)) s1
    | _ => .bad
  | .or a b, s => (evalE a s).bind fun x s1 => match x with
    | .val (.bl true) => .ok (.val (.bl true)) s1
    | .val (.bl false) => evalE b s1
    | _ => .bad
  | .not a, s => (evalE a s).bind fun x s1 => match x with
    | .val (.bl k) => .ok (.val (.bl (!k))) s1
    | _ => .bad
  | .ite c a b, s => (evalE c s).bind fun x s1 => match x with
    | .val (.bl true) => evalE a s1
    | .val (.bl false) => evalE b s1
    | _ => .bad
  | .cmp2 o p a b c, s => (evalE a s).bind fun x s1 => (evalE b s1).bind fun y s2 => if isValR y then (binR T cf o x y s2).bind fun r s3 => (match r with
    | .val (.bl true) => (evalE c s3).bind fun z s4 => binR T cf p y z s4
    | .val (.bl false) => .ok (.val (.bl false)) s3
    | _ => .bad) else .bad
  | .attr a f, s => (evalE a s).bind fun x s1 => (ofOpt (view s1 x) s1).bind fun v _ => match v with
    | .obj c fs => if T.fld c f then (ofOpt (fs.lookup f) s1).bind fun w s2 => .ok (.val w) s2 else .bad
    | _ => .bad
  | .eattr i f, s => match s.get i with
    | .val (.err _ fs) => (ofOpt (fs.lookup f) s).bind fun w s2 => .ok (.val w) s2
    | _ => .bad
  | .call f es, s => (evalEs es s).bind fun rs s1 => (toVals rs s1).bind fun vs s2 => inSt (cf.fn f vs s2.cells) s2
  | .meth m a es, s => (evalE a s).bind fun x s1 => (ofOpt (methOf T m s1 x) s1).bind fun f _ => (evalEs es s1).bind fun rs s2 => (toVals (x :: rs) s2).bind fun vs s3 => inSt (cf.fn f vs s3.cells) s3
  | .mk c es, s => (evalEs es s).bind fun rs s1 => (toVals rs s1).bind fun vs s2 => inSt (cf.mkI c vs s2.cells) s2
  | .callv a es, s => (evalE a s).bind fun x s1 => (evalEs es s1).bind fun rs s2 => (toVals rs s2).bind fun vs s3 => match x with
    | .val (.fn f) => inSt (cf.fn f vs s3.cells) s3
    | _ => .bad
  | .comp fz t ik src cond elt, s => (evalEs src s).bind fun rs s1 => (ofOpt (views s1 rs) s1).bind fun vs _ => (ofOpt (itemsOf ik vs) s1).bind fun xs _ => (lend fz rs s1).bind fun _ s2 =>
      if (tgVars t).all (compVar s2) && sizeOk xs.length then
      (loopR (fun x acc sa => noEx ((asgT t x sa).bind fun _ sb => (evalE cond sb).bind fun c sc => match c with
          | .val (.bl false) => .ok acc (wipeS sc (tgVars t))
          | .val (.bl true) => (evalE elt sc).bind fun r sd => (toVal r sd).bind fun v se => .ok (acc ++ [v]) (wipeS se (tgVars t))
          | _ => .bad)) xs [] (wipeS s2 (tgVars t))).bind fun acc s3 => .ok (.tmp (.lst acc)) (unlend fz s1 rs (backS s3 s2 (tgVars t)))
      else .bad
  | .mkseq tup ik es, s => (evalEs es s).bind fun rs s1 => (ofOpt (views s1 rs) s1).bind fun vs _ => (ofOpt (itemsOf ik vs) s1).bind fun xs _ => if !sizeOk xs.length then .bad else .ok (if tup then .val (.tup xs) else .tmp (.lst xs)) s1
  | .pop a es, s => (evalE a s).bind fun x s1 => if isLstR s1 x then (evalEs es s1).bind fun rs s2 => (ofOpt (view s2 x) s2).bind fun v _ => (ofOpt (views s2 rs) s2).bind fun vs _ => popR s2 x v vs else .bad
  | .isa a ts, s => (evalE a s).bind fun x s1 => (ofOpt (view s1 x) s1).bind fun v _ => if !isaOk v then .bad else .ok (.val (.bl (ts.any fun c => isaT c v))) s1
  | .cell a, s => (evalE a s).bind fun x s1 => match x with
    | .tmp c => .ok (.val (.loc s1.cells.length)) { s1 with cells := s1.cells ++ [c] }
    | _ => .bad
  | .nil, _ => .bad
  | .cons _ _, _ => .bad
def evalEs : CE → St → R (List RV)
  | .nil, s => .ok [] s
  | .cons a b, s => (evalE a s).bind fun x s1 => (evalEs b s1).bind fun xs s2 => .ok (x :: xs) s2
  | _, _ => .bad
end

/-- how a statement ends -/
inductive Fl where
  | nx | ret (r : RV) | brk | cont
  deriving Inhabited
def testR (c : CE) (s : St) : R Bool := (evalE T cf c s).bind fun x s1 => match x with
  | .val (.bl k) => .ok k s1
  | _ => .bad
/-- what is left is done unless the statement ends otherwise -/
def thenS (r : R Fl) (f : St → R Fl) : R Fl := r.bind fun k s => match k with
  | .nx => f s
  | _ => .ok k s
/-- turns of a for; f: the body behind the store -/
def forR (f : PV → St → R Fl) : List PV → St → R Fl
  | [], s => .ok .nx s
  | x :: xs, s => (f x s).bind fun k s1 => match k with
    | .nx => forR f xs s1
    | .cont => forR f xs s1
    | .brk => .ok .nx s1
    | .ret r => .ok (.ret r) s1
def whileR (c : St → R Bool) (f : St → R Fl) : Nat → St → R Fl
  | 0, _ => .bad
  | n + 1, s => (c s).bind fun b s1 => if b then (f s1).bind fun k s2 => match k with
    | .nx => whileR c f n s2
    | .cont => whileR c f n s2
    | .brk => .ok .nx s2
    | .ret r => .ok (.ret r) s2
    else .ok .nx s1
/-- an RV that leaves the def -/
def outRV (r : RV) (s : St) : R RV := match r with
  | .slot i => match s.get i with
    | .own c => .ok (.tmp c) s
    | _ => .bad
  | _ => .ok r s
def putAttr (x : RV) (f : Nat) (v : PV) (s : St) : R Fl := (ofOpt (view s x) s).bind fun o _ => match o with
  | .obj c fs => if T.fld c f && decide (fs.length < 900) then (setCell x (.obj c (fldPut f v fs)) s).bind fun _ s1 => .ok .nx s1 else .bad
  | _ => .bad
def putSub (x y : RV) (v : PV) (s : St) : R Unit := (ofOpt (view s x) s).bind fun o _ => (ofOpt (view s y) s).bind fun k _ => match o, k with
  | .lst xs, .int i => (ofOpt (ixOf xs.length i) s).bind fun j _ => setCell x (.lst (xs.set j v)) s
  | .dct kvs, k => if isKey 0 k && sizeOk (kvs.length + 1) then setCell x (.dct (dctPut k v kvs)) s else .bad
  | _, _ => .bad
def noErrS : Slot → Bool
  | .non => true
  | .val v => noErr v
  | .own c => noErr c
def noErrK : Fl → Bool
  | .ret (.val v) => noErr v
  | .ret (.tmp c) => noErr c
  | .ret (.slot _) => false
  | _ => true
/-- behind a handler: slot i is emptied, no exception is left -/
def clrH (i : Nat) (r : R Fl) : R Fl := match r with
  | .ok k s => if noErrK k && (s.put i .non).env.all noErrS && s.cells.all noErr then .ok k (s.put i .non) else .bad
  | _ => .bad
def execS : CS → St → R Fl
  | .skip, s => .ok .nx s
  | .seq a b, s => thenS (execS a s) fun s1 => execS b s1
  | .asg t e, s => (evalE T cf e s).bind fun r s1 => match t with
    | .var i => (toSlot r s1).bind fun x s2 => if s2.free i then .ok .nx (s2.put i x) else .bad
    | _ => (toVal r s1).bind fun v s2 => (asgT t v s2).bind fun _ s3 => .ok .nx s3
  | .par ts es, s => (evalEs T cf es s).bind fun rs s1 => (toSlots rs s1).bind fun xs s2 => (parT ts xs s2).bind fun _ s3 => .ok .nx s3
  | .setsub a i e, s => (evalE T cf e s).bind fun r s1 => (toVal r s1).bind fun v s2 => (evalE T cf a s2).bind fun x s3 => (evalE T cf i s3).bind fun y s4 => (putSub x y v s4).bind fun _ s5 => .ok .nx s5
  | .setsub2 a i b j e f, s => (evalEs T cf (.cons e (.cons f .nil)) s).bind fun rs s1 => (toVals rs s1).bind fun vs s2 => match vs with
    | [v, w] => (evalE T cf a s2).bind fun x s3 => (evalE T cf i s3).bind fun y s4 => (putSub x y v s4).bind fun _ s5 =>
        (evalE T cf b s5).bind fun x' s6 => (evalE T cf j s6).bind fun y' s7 => (putSub x' y' w s7).bind fun _ s8 => .ok .nx s8
    | _ => .bad
  | .setattr a f e, s => (evalE T cf e s).bind fun r s1 => (toVal r s1).bind fun v s2 => (evalE T cf a s2).bind fun x s3 => putAttr T x f v s3
  | .aug i op e, s => (evalE T cf (.var i) s).bind fun x s1 => (evalE T cf e s1).bind fun y s2 => match view s2 x, view s2 y, op with
    | some (.int a), some (.int b), .add => if s2.free i then .ok .nx (s2.put i (.val (.int (a + b)))) else .bad
    | some (.int a), some (.int b), .sub => if s2.free i then .ok .nx (s2.put i (.val (.int (a - b)))) else .bad
    | _, _, _ => .bad
  | .augattr a f op e, s => (evalE T cf a s).bind fun x s1 => (evalE T cf (.attr a f) s1).bind fun u s2 => (evalE T cf e s2).bind fun y s3 => match view s3 u, view s3 y, op with
    | some (.int a), some (.int b), .add => putAttr T x f (.int (a + b)) s3
    | _, _, _ => .bad
  | .expr e, s => (evalE T cf e s).bind fun _ s1 => .ok .nx s1
  | .ret e, s => (evalE T cf e s).bind fun r s1 => (outRV r s1).bind fun o s2 => .ok (.ret o) s2
  | .ite c a b, s => (testR T cf c s).bind fun k s1 => if k then execS a s1 else execS b s1
  | .whl c b, s => whileR (testR T cf c) (execS b) 1000000 s
  | .for_ _ t ik src b, s => (evalEs T cf src s).bind fun rs s1 => (ofOpt (views s1 rs) s1).bind fun vs _ => (ofOpt (itemsOf ik vs) s1).bind fun xs _ => (lend true rs s1).bind fun _ s2 =>
      forR (fun x sa => (asgT t x sa).bind fun _ sb => execS b sb) xs s2
  | .raise c es, s => if T.noex then .bad else (evalEs T cf es s).bind fun rs s1 => (toVals rs s1).bind fun vs s2 => (ofOpt (T.exc c) s2).bind fun fs _ => if fs.length = vs.length then .ex (.err c (fs.zip vs)) s2 else .bad
  | .reraise, _ => .bad
  | .try_ b h, s => match execS b s with
    | .ok k s1 => .ok k s1
    | .bad => .bad
    | .ex e s1 => if T.noex then .bad else execH e h s1
  | .hnd _ _ _ _, _ => .bad
  | .append a e, s => (evalE T cf a s).bind fun x s1 => if !isLstR s1 x then .bad else (evalE T cf e s1).bind fun r s2 => (toVal r s2).bind fun v s3 => (ofOpt (view s3 x) s3).bind fun o _ => match o with
    | .lst xs => if sizeOk (xs.length + 1) then (setCell x (.lst (xs ++ [v])) s3).bind fun _ s4 => .ok .nx s4 else .bad
    | _ => .bad
  | .extend a e, s => (evalE T cf a s).bind fun x s1 => if !isLstR s1 x then .bad else (evalE T cf e s1).bind fun r s2 => (ofOpt (view s2 x) s2).bind fun o _ => (ofOpt (view s2 r) s2).bind fun p _ => match o, p with
    | .lst xs, .lst ys => if sizeOk (xs.length + ys.length) then (setCell x (.lst (xs ++ ys)) s2).bind fun _ s4 => .ok .nx s4 else .bad
    | _, _ => .bad
  | .remove _ _, _ => .bad
  | .brk, s => .ok .brk s
  | .cont, s => .ok .cont s
where execH (e : PV) : CS → St → R Fl
  | .hnd c slot b rest, s => match e with
    | .err d _ => if (T.exc d).isSome then (if T.isExc d c then (match slot with
        | none => .bad
        | some i => if s.free i then clrH i (execS b (s.put i (.val e))) else .bad) else execH e rest s) else .bad
    | _ => .bad
  | .skip, s => .ex e s
  | _, _ => .bad
end

/-! ### defs -/
def startEnv (fd : FD) (vs : List Slot) : List Slot := vs ++ List.replicate (fd.nv - vs.length) .non
def endF (r : R Fl) : FR := match r with
  | .ok .nx s => .ok (.val .non) s.cells
  | .ok (.ret r) s => .ok r s.cells
  | .ok _ _ => .bad
  | .ex e s => .ex e s.cells
  | .bad => .bad
/-- n: how deep calls may go -/
def callD (T : Tab) : Nat → CallF
  | 0 => ⟨fun _ _ _ => .bad, fun _ _ _ => .bad⟩
  | n + 1 => {
      fn := fun f vs cells => match T.fns f with
        | some fd => if vs.length = fd.ar then endF (execS T (callD T n) fd.body ⟨startEnv fd (vs.map .val), cells, false⟩) else .bad
        | none => .bad
      mkI := fun c vs cells => match T.ini c with
        | none => .bad
        | some f => match T.fns f with
          | none => .bad
          | some fd => if vs.length + 1 = fd.ar then
              (if T.inCell c then (match endF (execS T (callD T n) fd.body ⟨startEnv fd ((.val (.loc cells.length)) :: vs.map .val), cells ++ [.obj c []], false⟩) with
                | .ok (.val .non) cs => .ok (.val (.loc cells.length)) cs
                | .ok _ _ => .bad
                | r => r)
              else (match execS T (callD T n) fd.body ⟨startEnv fd ((.own (.obj c [])) :: vs.map .val), cells, true⟩ with
                | .ok .nx s => (match s.get 0 with
                  | .own o => .ok (.val o) s.cells
                  | .val (.obj d fs) => .ok (.val (.obj d fs)) s.cells
                  | _ => .bad)
                | .ex e s => .ex e s.cells
                | _ => .bad))
            else .bad }
end Nr
end

section
set_option Elab.async false
set_option linter.all false
set_option maxRecDepth 100000
set_option maxHeartbeats 4000000
/-! E1: how values, cells and slots lie in the heap. -/
namespace Nr
open PySem PySem.Spec PyProof.Rows L2

/-- what the written part tells, by ids -/
structure Inf where
  P : Program
  w : World
  K : PySem.W.Frag
  mg : Str → Option Value
  base : Heap
  cad : Nat → Addr
  fad : Nat → Addr
  an : Nat → Str
  mn : Nat → Str
  inj : ∀ f g, an f = an g → f = g
  /-- the exception that is handled: its class, where it stands, its dict -/
  cur : Option (Nat × Addr × Option Addr) := none

def keyOf : PV → Option Key
  | .int i => some (.inl i)
  | .str s => some (.inr s)
  | _ => none

/-- a tuple without a dict of its own -/
def TupAt (K : PySem.W.Frag) (F : Hp) (a : Addr) (vs : List V) : Prop := (∃ o, F a = some (.frz o (.tup vs)) ∧ o.dict = none) ∨
  ∃ (o : Obj) (its : Array Value) (n : Nat), K.lookup a = some o ∧ o.dict = none ∧ o.cls = .type "tuple" ∧ o.data = .seq its n ∧ its.size ≤ sizeLine ∧ Vals vs its.toList
theorem TupAt.sq {K : PySem.W.Frag} {F : Hp} {a : Addr} {vs : List V} (h : TupAt K F a vs) : SqT K F a vs := by
  rcases h with ⟨o, e, _⟩ | ⟨o, its, n, e, _, r⟩
  · exact .inl (.inr ⟨o, e⟩)
  · exact .inr ⟨o, its, n, e, r⟩
theorem TupAt.mono {K : PySem.W.Frag} {F F' : Hp} (h : ∀ a o, F a = some o → F' a = some o) {a : Addr} {vs : List V} (r : TupAt K F a vs) : TupAt K F' a vs := by
  rcases r with ⟨o, e, d⟩ | r
  · exact .inl ⟨o, h _ _ e, d⟩
  · exact .inr r
section
variable (I : Inf) (F : Hp) (L : List Addr)
mutual
def RepV : PV → V → Prop
  | .non, v => v = .non
  | .bl b, v => v = .bl b
  | .int i, v => v = .int i
  | .str s, v => v = .str s
  | .tup xs, v => ∃ a vs, v = .ref a ∧ TupAt I.K F a vs ∧ RepL xs vs
  | .lst xs, v => ∃ a vs, v = .ref a ∧ F a = some (.lst vs) ∧ RepL xs vs
  | .dct kvs, v => ∃ a ws, v = .ref a ∧ Rd F a (.dK ws) ∧ RepD kvs ws
  | .obj c fs, v => ∃ a dx ws, v = .ref a ∧ F a = some (.ins (I.cad c) dx ws) ∧ RepF fs ws
  | .loc n, v => ∃ a, v = .ref a ∧ L[n]? = some a
  | .fn f, v => v = .ref (I.fad f)
  | .scr ns, v => ∃ a, v = .ref a ∧ SqL I.K F a (ns.map V.int)
  | .err c fs, v => ∃ a d, v = .ref a ∧ I.cur = some (c, a, d) ∧ ∃ dd ws, d = some dd ∧ F dd = some (.xd ws) ∧ RepF fs ws
def RepL : List PV → List V → Prop
  | [], vs => vs = []
  | x :: xs, vs => ∃ v r, vs = v :: r ∧ RepV x v ∧ RepL xs r
def RepF : List (Nat × PV) → List (Str × V) → Prop
  | [], ws => ws = []
  | (f, x) :: fs, ws => ∃ v r, ws = (I.an f, v) :: r ∧ RepV x v ∧ RepF fs r
def RepD : List (PV × PV) → List (Key × V) → Prop
  | [], ws => ws = []
  | (k, x) :: kvs, ws => ∃ kk v r, ws = (kk, v) :: r ∧ keyOf k = some kk ∧ RepV x v ∧ RepD kvs r
end
/-- what stands in a cell -/
def RepC : PV → HO → Prop
  | .lst xs, o => ∃ vs, o = .lst vs ∧ RepL I F L xs vs
  | .dct kvs, o => ∃ ws, o = .dK ws ∧ RepD I F L kvs ws
  | .obj c fs, o => ∃ dx ws, o = .ins (I.cad c) dx ws ∧ RepF I F L fs ws
  | _, _ => False
end

/-! ### growth -/
/-- F', L' have all that F, L have -/
structure Grow (F F' : Hp) (L L' : List Addr) : Prop where
  f : ∀ a o, F a = some o → F' a = some o
  l : ∀ (n : Nat) (a : Addr), L[n]? = some a → L'[n]? = some a
theorem Grow.refl {F : Hp} {L : List Addr} : Grow F F L L := ⟨fun _ _ e => e, fun _ _ e => e⟩
theorem Grow.trans {F F1 F2 : Hp} {L L1 L2 : List Addr} (a : Grow F F1 L L1) (b : Grow F1 F2 L1 L2) : Grow F F2 L L2 := ⟨fun x o e => b.f x o (a.f x o e), fun n x e => b.l n x (a.l n x e)⟩
theorem rd_mono {F F' : Hp} (h : ∀ a o, F a = some o → F' a = some o) {a : Addr} {u : HO} (r : Rd F a u) : Rd F' a u := r.elim (fun e => .inl (h _ _ e)) fun ⟨o, e⟩ => .inr ⟨o, h _ _ e⟩
theorem sql_mono {K : PySem.W.Frag} {F F' : Hp} (h : ∀ a o, F a = some o → F' a = some o) {a : Addr} {xs : List V} (r : SqL K F a xs) : SqL K F' a xs := r.elim (fun e => .inl (rd_mono h e)) .inr
theorem sqt_mono {K : PySem.W.Frag} {F F' : Hp} (h : ∀ a o, F a = some o → F' a = some o) {a : Addr} {xs : List V} (r : SqT K F a xs) : SqT K F' a xs := r.elim (fun e => .inl (rd_mono h e)) .inr
section
variable {I : Inf} {F F' : Hp} {L L' : List Addr}
mutual
theorem RepV.grow (g : Grow F F' L L') : ∀ (x : PV) (v : V), RepV I F L x v → RepV I F' L' x v
  | .non, _, h => h | .bl _, _, h => h | .int _, _, h => h | .str _, _, h => h | .fn _, _, h => h
  | .tup xs, _, h => by obtain ⟨a, vs, e, s, r⟩ := h; exact ⟨a, vs, e, s.mono g.f, RepL.grow g xs vs r⟩
  | .lst xs, _, h => by obtain ⟨a, vs, e, s, r⟩ := h; exact ⟨a, vs, e, g.f _ _ s, RepL.grow g xs vs r⟩
  | .scr ns, _, h => by obtain ⟨a, e, s⟩ := h; exact ⟨a, e, sql_mono g.f s⟩
  | .dct kvs, _, h => by obtain ⟨a, ws, e, s, r⟩ := h; exact ⟨a, ws, e, rd_mono g.f s, RepD.grow g kvs ws r⟩
  | .obj c fs, _, h => by obtain ⟨a, dx, ws, e, s, r⟩ := h; exact ⟨a, dx, ws, e, g.f _ _ s, RepF.grow g fs ws r⟩
  | .loc n, _, h => by obtain ⟨a, e, s⟩ := h; exact ⟨a, e, g.l _ _ s⟩
  | .err c fs, _, h => by obtain ⟨a, d, e, ec, dd, ws, e2, s, r⟩ := h; exact ⟨a, d, e, ec, dd, ws, e2, g.f _ _ s, RepF.grow g fs ws r⟩
theorem RepL.grow (g : Grow F F' L L') : ∀ (xs : List PV) (vs : List V), RepL I F L xs vs → RepL I F' L' xs vs
  | [], _, h => h
  | x :: xs, _, h => by obtain ⟨v, r, e, h1, h2⟩ := h; exact ⟨v, r, e, RepV.grow g x v h1, RepL.grow g xs r h2⟩
theorem RepF.grow (g : Grow F F' L L') : ∀ (fs : List (Nat × PV)) (ws : List (Str × V)), RepF I F L fs ws → RepF I F' L' fs ws
  | [], _, h => h
  | (f, x) :: fs, _, h => by obtain ⟨v, r, e, h1, h2⟩ := h; exact ⟨v, r, e, RepV.grow g x v h1, RepF.grow g fs r h2⟩
theorem RepD.grow (g : Grow F F' L L') : ∀ (kvs : List (PV × PV)) (ws : List (Key × V)), RepD I F L kvs ws → RepD I F' L' kvs ws
  | [], _, h => h
  | (k, x) :: kvs, _, h => by obtain ⟨kk, v, r, e, h0, h1, h2⟩ := h; exact ⟨kk, v, r, e, h0, RepV.grow g x v h1, RepD.grow g kvs r h2⟩
end
theorem RepC.grow (g : Grow F F' L L') {c : PV} {o : HO} (h : RepC I F L c o) : RepC I F' L' c o := by
  cases c with
  | lst xs => obtain ⟨vs, e, r⟩ := h; exact ⟨vs, e, r.grow g⟩
  | dct kvs => obtain ⟨ws, e, r⟩ := h; exact ⟨ws, e, r.grow g⟩
  | obj c fs => obtain ⟨dx, ws, e, r⟩ := h; exact ⟨dx, ws, e, r.grow g⟩
  | _ => exact h.elim
theorem RepL.length : ∀ {xs : List PV} {vs : List V}, RepL I F L xs vs → xs.length = vs.length
  | [], _, h => by cases h; rfl
  | x :: xs, _, h => by obtain ⟨v, r, e, _, h2⟩ := h; subst e; simp [RepL.length h2]
theorem RepL.get : ∀ {xs : List PV} {vs : List V} {i : Nat} {x : PV}, RepL I F L xs vs → xs[i]? = some x → ∃ v, vs[i]? = some v ∧ RepV I F L x v
  | [], _, _, _, _, e => by simp at e
  | y :: xs, _, 0, x, h, e => by obtain ⟨v, r, e1, h1, h2⟩ := h; subst e1; simp at e; subst e; exact ⟨v, rfl, h1⟩
  | y :: xs, _, i + 1, x, h, e => by
    obtain ⟨v, r, e1, h1, h2⟩ := h; subst e1
    obtain ⟨u, q1, q2⟩ := RepL.get (i := i) (x := x) h2 (by simpa using e)
    exact ⟨u, by simpa using q1, q2⟩
theorem RepL.append : ∀ {xs ys : List PV} {vs ws : List V}, RepL I F L xs vs → RepL I F L ys ws → RepL I F L (xs ++ ys) (vs ++ ws)
  | [], _, _, _, h, q => by cases h; exact q
  | x :: xs, ys, _, ws, h, q => by obtain ⟨v, r, e, h1, h2⟩ := h; subst e; exact ⟨v, r ++ ws, rfl, h1, RepL.append h2 q⟩
theorem RepL.nil : RepL I F L [] [] := rfl
theorem RepL.one {x : PV} {v : V} (h : RepV I F L x v) : RepL I F L [x] [v] := ⟨v, [], rfl, h, rfl⟩
theorem RepL.cons {x : PV} {v : V} {xs : List PV} {vs : List V} (h : RepV I F L x v) (r : RepL I F L xs vs) : RepL I F L (x :: xs) (v :: vs) := ⟨v, vs, rfl, h, r⟩
theorem RepL.take : ∀ {xs : List PV} {vs : List V} (n : Nat), RepL I F L xs vs → RepL I F L (xs.take n) (vs.take n)
  | _, _, 0, _ => rfl
  | [], _, n + 1, h => by cases h; rfl
  | x :: xs, _, n + 1, h => by obtain ⟨v, r, e, h1, h2⟩ := h; subst e; exact ⟨v, r.take n, rfl, h1, RepL.take n h2⟩
theorem RepL.drop : ∀ {xs : List PV} {vs : List V} (n : Nat), RepL I F L xs vs → RepL I F L (xs.drop n) (vs.drop n)
  | _, _, 0, h => h
  | [], _, n + 1, h => by cases h; rfl
  | x :: xs, _, n + 1, h => by obtain ⟨v, r, e, h1, h2⟩ := h; subst e; exact RepL.drop n h2
theorem RepL.set : ∀ {xs : List PV} {vs : List V} {x : PV} {v : V} (n : Nat), RepL I F L xs vs → RepV I F L x v → RepL I F L (xs.set n x) (vs.set n v)
  | [], _, _, _, _, h, _ => by cases h; simp; rfl
  | y :: xs, _, x, v, 0, h, q => by obtain ⟨u, r, e, h1, h2⟩ := h; subst e; exact ⟨v, r, rfl, q, h2⟩
  | y :: xs, _, x, v, n + 1, h, q => by obtain ⟨u, r, e, h1, h2⟩ := h; subst e; exact ⟨u, r.set n v, rfl, h1, RepL.set n h2 q⟩
theorem RepL.eraseIdx : ∀ {xs : List PV} {vs : List V} (n : Nat), RepL I F L xs vs → RepL I F L (xs.eraseIdx n) (vs.eraseIdx n)
  | [], _, _, h => by cases h; simp; rfl
  | y :: xs, _, 0, h => by obtain ⟨u, r, e, h1, h2⟩ := h; subst e; exact h2
  | y :: xs, _, n + 1, h => by obtain ⟨u, r, e, h1, h2⟩ := h; subst e; exact ⟨u, r.eraseIdx n, rfl, h1, RepL.eraseIdx n h2⟩
theorem RepL.reverse : ∀ {xs : List PV} {vs : List V}, RepL I F L xs vs → RepL I F L xs.reverse vs.reverse
  | [], _, h => by cases h; rfl
  | y :: xs, _, h => by
    obtain ⟨u, r, e, h1, h2⟩ := h; subst e
    rw [List.reverse_cons, List.reverse_cons]
    exact (RepL.reverse h2).append (.one h1)
theorem RepL.rep {xs : List PV} {vs : List V} (h : RepL I F L xs vs) : ∀ n : Nat, RepL I F L (List.replicate n xs).flatten (List.replicate n vs).flatten
  | 0 => rfl
  | n + 1 => by rw [List.replicate_succ, List.replicate_succ, List.flatten_cons, List.flatten_cons]; exact h.append (RepL.rep h n)
theorem RepL.dropLast {xs : List PV} {vs : List V} (h : RepL I F L xs vs) : RepL I F L xs.dropLast vs.dropLast := by
  rw [List.dropLast_eq_take, List.dropLast_eq_take, h.length]; exact h.take _
/-- an attribute -/
theorem RepF.lookup : ∀ {fs : List (Nat × PV)} {ws : List (Str × V)} {f : Nat} {x : PV}, RepF I F L fs ws → fs.lookup f = some x → ∃ v, ws.lookup (I.an f) = some v ∧ RepV I F L x v
  | [], _, _, _, _, e => by simp at e
  | (g, y) :: fs, _, f, x, h, e => by
    obtain ⟨v, r, e1, h1, h2⟩ := h; subst e1
    rw [List.lookup_cons] at e ⊢
    by_cases c : f = g
    · subst c
      simp only [beq_self_eq_true] at e ⊢
      cases e
      exact ⟨v, rfl, h1⟩
    · have c1 : (f == g) = false := by simp [c]
      have c2 : (I.an f == I.an g) = false := by
        have : I.an f ≠ I.an g := fun z => c (I.inj _ _ z)
        simpa using this
      rw [c1] at e
      rw [c2]
      exact RepF.lookup h2 e
theorem RepF.none : ∀ {fs : List (Nat × PV)} {ws : List (Str × V)} {m : Str}, RepF I F L fs ws → (∀ p ∈ fs, I.an p.1 ≠ m) → ws.lookup m = none
  | [], _, _, h, _ => by cases h; rfl
  | (g, y) :: fs, _, m, h, q => by
    obtain ⟨v, r, e1, h1, h2⟩ := h; subst e1
    rw [List.lookup_cons]
    have c : (m == I.an g) = false := by
      have : m ≠ I.an g := fun z => q (g, y) List.mem_cons_self z.symm
      simpa using this
    rw [c]
    exact RepF.none h2 fun p hp => q p (List.mem_cons_of_mem _ hp)
theorem RepF.put : ∀ {fs : List (Nat × PV)} {ws : List (Str × V)} {f : Nat} {x : PV} {v : V}, RepF I F L fs ws → RepV I F L x v → RepF I F L (fldPut f x fs) (putF (I.an f) v ws)
  | [], _, f, x, v, h, q => by cases h; exact ⟨v, [], rfl, q, rfl⟩
  | (g, y) :: fs, _, f, x, v, h, q => by
    obtain ⟨u, r, e1, h1, h2⟩ := h; subst e1
    unfold fldPut putF
    by_cases c : g = f
    · subst c
      rw [if_pos rfl, if_pos rfl]
      exact ⟨v, r, rfl, q, h2⟩
    · rw [if_neg c, if_neg (fun z => c (I.inj _ _ z))]
      exact ⟨u, _, rfl, h1, RepF.put h2 q⟩
theorem RepF.length : ∀ {fs : List (Nat × PV)} {ws : List (Str × V)}, RepF I F L fs ws → fs.length = ws.length
  | [], _, h => by cases h; rfl
  | (f, x) :: xs, _, h => by obtain ⟨v, r, e, _, h2⟩ := h; subst e; simp [RepF.length h2]
end
end Nr
end

section
set_option Elab.async false
set_option linter.all false
set_option maxRecDepth 100000
set_option maxHeartbeats 4000000
/-! E2: the state of a frame in the heap, and its moves. -/
namespace Nr
open PySem PySem.Spec PyProof.Rows L2

/-- what a frame must leave: B, the callers' things; F0, L0: what was given up, and the cells, at the entry -/
structure Frm where
  B : Hp
  F0 : Hp
  L0 : List Addr
  /-- the object that an __init__ makes -/
  slf : Option V

def AtC (I : Inf) (fr : Frm) (F : Hp) (L : List Addr) (H : Hp) (c : PV) (a : Addr) : Prop := ∃ o, H a = some o ∧ RepC I F L c o ∧ F a = none ∧ fr.B a = none ∧ a ∉ L
def tmpA : RV × V → Option Addr
  | (.tmp _, .ref a) => some a
  | _ => none
def HeldV (I : Inf) (fr : Frm) (F : Hp) (L : List Addr) (s : St) (σ : L2.St) (H : Hp) (r : RV) (v : V) : Prop := match r with
  | .val x => RepV I F L x v
  | .tmp c => ∃ a, v = .ref a ∧ AtC I fr F L H c a ∧ ∀ i d, s.get i = .own d → σ[i]? ≠ some (some (.ref a))
  | .slot i => σ[i]? = some (some v)
/-- may be locked while it is walked -/
def lockable : HO → Bool
  | .dK _ => true
  | .dT _ => true
  | _ => false
def Rl (H : Hp) (a : Addr) (o : HO) : Prop := H a = some o ∨ (lockable o = true ∧ ∃ x, H a = some (.frz x o))
theorem Rl.rd {H : Hp} {a : Addr} {o : HO} (h : Rl H a o) : Rd H a o := h.elim .inl fun ⟨_, x, e⟩ => .inr ⟨x, e⟩
theorem Rl.eq {H : Hp} {a : Addr} {o : HO} (h : Rl H a o) (n : lockable o = false) : H a = some o := h.elim id fun ⟨e, _⟩ => by rw [n] at e; cases e
theorem Rl.upd {H : Hp} {p a : Addr} {o u : HO} (h : Rl H a u) (n : H p = none) : Rl (upd H p o) a u := by
  rcases h with e | ⟨l, x, e⟩
  · exact .inl (by rw [upd_ne (ne_of_none e n)]; exact e)
  · exact .inr ⟨l, x, by rw [upd_ne (ne_of_none e n)]; exact e⟩
theorem Rl.none {H : Hp} {a : Addr} {u : HO} (h : Rl H a u) (n : H a = .none) : False := by
  rcases h with e | ⟨_, x, e⟩ <;> rw [n] at e <;> cases e
structure RS (I : Inf) (fr : Frm) (hs : List (RV × V)) (F : Hp) (L : List Addr) (s : St) (σ : L2.St) (H : Hp) : Prop where
  len : s.env.length = σ.length
  fz : ∀ a o, F a = some o → Rl H a o
  kb : ∀ a o, fr.B a = some o → H a = some o
  f0 : ∀ a o, fr.F0 a = some o → F a = some o
  l0 : ∀ (n : Nat) (a : Addr), fr.L0[n]? = some a → L[n]? = some a
  nw : ∀ a o, F a = some o → fr.F0 a = some o ∨ fr.B a = none
  cl : s.cells.length = L.length
  cell : ∀ (n : Nat) (a : Addr) (c : PV), L[n]? = some a → s.cells[n]? = some c → ∃ o, H a = some o ∧ RepC I F L c o
  lf : ∀ a ∈ L, F a = none
  lb : ∀ a ∈ L, fr.B a = none
  ln : L.Nodup
  val : ∀ i v, s.get i = .val v → ∃ u, σ[i]? = some (some u) ∧ RepV I F L v u
  own : ∀ i c, s.get i = .own c → ∃ a, σ[i]? = some (some (.ref a)) ∧ AtC I fr F L H c a
  sep : ∀ i j c d, s.get i = .own c → s.get j = .own d → σ[i]? = σ[j]? → i = j
  hval : ∀ p ∈ hs, HeldV I fr F L s σ H p.1 p.2
  hsep : (hs.filterMap tmpA).Nodup
  slf : ∀ v, fr.slf = some v → σ[0]? = some (some v)
  sl : s.slf = fr.slf.isSome

theorem get_put {s : St} {i j : Nat} {x : Slot} (hi : i < s.env.length) : (s.put i x).get j = if j = i then x else s.get j := by
  unfold St.put St.get
  show (s.env.set i x).getD j .non = _
  rw [List.getD_eq_getElem?_getD, List.getElem?_set]
  by_cases c : i = j
  · subst c; simp [hi]
  · have c' : j ≠ i := fun z => c z.symm
    simp [c, c', List.getD_eq_getElem?_getD]
theorem get_lt {s : St} {i : Nat} {x : Slot} (h : s.get i = x) (hx : x ≠ .non) : i < s.env.length := by
  apply Classical.byContradiction
  intro c
  unfold St.get at h
  rw [List.getD_eq_getElem?_getD, List.getElem?_eq_none (by omega)] at h
  exact hx h.symm

section
variable {I : Inf} {fr : Frm} {hs : List (RV × V)} {F : Hp} {L : List Addr} {s : St} {σ : L2.St} {H : Hp}
theorem RS.hlt (R : RS I fr hs F L s σ H) {i : Nat} {v : V} (h : σ[i]? = some (some v)) : i < s.env.length := by rw [R.len]; exact (List.getElem?_eq_some_iff.mp h).1
/-- fewer things held -/
theorem RS.sub {gs : List (RV × V)} (R : RS I fr hs F L s σ H) (h1 : gs.Sublist hs) : RS I fr gs F L s σ H :=
  { R with hval := fun p hp => R.hval p (h1.subset hp), hsep := R.hsep.sublist (h1.filterMap tmpA) }
theorem RS.drop {p : RV × V} (R : RS I fr (p :: hs) F L s σ H) : RS I fr hs F L s σ H := R.sub (List.sublist_cons_self _ _)
theorem RS.drop2 {p q : RV × V} (R : RS I fr (q :: p :: hs) F L s σ H) : RS I fr (q :: hs) F L s σ H := R.sub (List.Sublist.cons₂ _ (List.sublist_cons_self _ _))
theorem RS.head {p : RV × V} (R : RS I fr (p :: hs) F L s σ H) : HeldV I fr F L s σ H p.1 p.2 := R.hval p List.mem_cons_self
/-- a value is held -/
theorem RS.pushV {x : PV} {v : V} (R : RS I fr hs F L s σ H) (h : RepV I F L x v) : RS I fr ((.val x, v) :: hs) F L s σ H :=
  { R with hval := fun p hp => by
             rcases List.mem_cons.mp hp with rfl | hp
             · exact h
             · exact R.hval p hp
           hsep := by
             have e : ((RV.val x, v) :: hs).filterMap tmpA = hs.filterMap tmpA := by rw [List.filterMap_cons]; rfl
             rw [e]; exact R.hsep }
theorem RS.pushS {i : Nat} {v : V} (R : RS I fr hs F L s σ H) (h : σ[i]? = some (some v)) : RS I fr ((.slot i, v) :: hs) F L s σ H :=
  { R with hval := fun p hp => by
             rcases List.mem_cons.mp hp with rfl | hp
             · exact h
             · exact R.hval p hp
           hsep := by
             have e : ((RV.slot i, v) :: hs).filterMap tmpA = hs.filterMap tmpA := by rw [List.filterMap_cons]; rfl
             rw [e]; exact R.hsep }
theorem mem_tmpA {a : Addr} : a ∈ hs.filterMap tmpA ↔ ∃ c, (RV.tmp c, V.ref a) ∈ hs := by
  rw [List.mem_filterMap]
  constructor
  · rintro ⟨⟨r, v⟩, hp, e⟩
    cases r with
    | tmp c => cases v with
      | ref b => cases e; exact ⟨c, hp⟩
      | _ => cases e
    | _ => cases e
  · rintro ⟨c, hp⟩
    exact ⟨_, hp, rfl⟩
theorem HeldV.grow {F' : Hp} {L' : List Addr} {s' : St} {H' : Hp} {r : RV} {v : V} (h : HeldV I fr F L s σ H r v) (g : Grow F F' L L')
    (k : ∀ c a, r = .tmp c → v = .ref a → AtC I fr F L H c a → AtC I fr F' L' H' c a ∧ ∀ i d, s'.get i = .own d → σ[i]? = some (some (.ref a)) → ∃ d', s.get i = .own d') : HeldV I fr F' L' s' σ H' r v := by
  cases r with
  | val x => exact RepV.grow g x v h
  | slot i => exact h
  | tmp c =>
    obtain ⟨a, e, at_, n⟩ := h
    obtain ⟨q1, q2⟩ := k c a rfl e at_
    refine ⟨a, e, q1, fun i d hi z => ?_⟩
    obtain ⟨d', hd⟩ := q2 i d hi z
    exact n i d' hd z
theorem Grow.fnew {p : Addr} {o : HO} (h : F p = none) : Grow F (upd F p o) L L := ⟨fun a u e => by rw [upd_ne (ne_of_none e h)]; exact e, fun _ _ e => e⟩
theorem rd_upd {p a : Addr} {o u : HO} (n : H p = none) (r : Rd H a u) : Rd (upd H p o) a u := by
  rcases r with e | ⟨x, e⟩
  · exact .inl (by rw [upd_ne (ne_of_none e n)]; exact e)
  · exact .inr ⟨x, by rw [upd_ne (ne_of_none e n)]; exact e⟩
theorem rd_none {a : Addr} {u : HO} (n : H a = none) (r : Rd H a u) : False := by
  rcases r with e | ⟨x, e⟩ <;> rw [n] at e <;> cases e
theorem RS.fn (R : RS I fr hs F L s σ H) {p : Addr} (n : H p = none) : F p = none := by
  cases e : F p with
  | none => rfl
  | some o => exact ((R.fz p o e).none n).elim
theorem RS.bn (R : RS I fr hs F L s σ H) {p : Addr} (n : H p = none) : fr.B p = none := by
  cases e : fr.B p with
  | none => rfl
  | some o => rw [R.kb p o e] at n; cases n
theorem RS.lnn (R : RS I fr hs F L s σ H) {p : Addr} (n : H p = none) : p ∉ L := fun h => by
  obtain ⟨k, hk, e⟩ := List.mem_iff_getElem.mp h
  have hc : k < s.cells.length := by rw [R.cl]; exact hk
  obtain ⟨o, e2, _⟩ := R.cell k p (s.cells[k]) (by rw [List.getElem?_eq_getElem hk, e]) (by rw [List.getElem?_eq_getElem hc])
  rw [n] at e2; cases e2
theorem AtC.ne {c : PV} {a p : Addr} (h : AtC I fr F L H c a) (n : H p = none) : a ≠ p := by
  obtain ⟨o, e, _⟩ := h
  exact ne_of_none e n
theorem AtC.upd {c : PV} {a p : Addr} {o : HO} (h : AtC I fr F L H c a) (n : H p = none) : AtC I fr F L (upd H p o) c a := by
  obtain ⟨u, e, r⟩ := h
  exact ⟨u, by rw [upd_ne (ne_of_none e n)]; exact e, r⟩
/-- a new object that nothing of ours names -/
theorem RS.garb {p : Addr} {o : HO} (R : RS I fr hs F L s σ H) (n : H p = none) : RS I fr hs F L s σ (upd H p o) :=
  { R with
    fz := fun a u e => (R.fz a u e).upd n
    kb := fun a u e => by rw [upd_ne (ne_of_none (R.kb a u e) n)]; exact R.kb a u e
    cell := fun k a c h1 h2 => by
      obtain ⟨u, e, r⟩ := R.cell k a c h1 h2
      exact ⟨u, by rw [upd_ne (ne_of_none e n)]; exact e, r⟩
    own := fun i c h => by
      obtain ⟨a, e, r⟩ := R.own i c h
      exact ⟨a, e, r.upd n⟩
    hval := fun q hq => (R.hval q hq).grow .refl fun c a _ _ h => ⟨h.upd n, fun i d h1 _ => ⟨d, h1⟩⟩ }
/-- a new object is held -/
theorem RS.pushT {p : Addr} {c : PV} {o : HO} (R : RS I fr hs F L s σ H) (n : H p = none) (h : RepC I F L c o) : RS I fr ((.tmp c, .ref p) :: hs) F L s σ (upd H p o) := by
  have R1 := R.garb (o := o) n
  refine { R1 with hval := fun q hq => ?_, hsep := ?_ }
  · rcases List.mem_cons.mp hq with rfl | hq
    · refine ⟨p, rfl, ⟨o, upd_same, h, R.fn n, R.bn n, R.lnn n⟩, fun i d hi e => ?_⟩
      obtain ⟨a, e2, r⟩ := R.own i d hi
      rw [e2] at e
      cases e
      exact (r.ne n) rfl
    · exact R1.hval q hq
  · rw [List.filterMap_cons]
    show (p :: hs.filterMap tmpA).Nodup
    refine List.nodup_cons.mpr ⟨fun hm => ?_, R.hsep⟩
    obtain ⟨c', hc⟩ := mem_tmpA.mp hm
    obtain ⟨a, e, r, _⟩ := R.hval _ hc
    cases e
    exact (r.ne n) rfl
/-- a new tuple -/
theorem RS.pushTup {p : Addr} {xs : List PV} {vs : List V} {O : Obj} (R : RS I fr hs F L s σ H) (n : H p = none) (hO : O.dict = none) (h : RepL I F L xs vs) : RS I fr ((.val (.tup xs), .ref p) :: hs) (upd F p (.frz O (.tup vs))) L s σ (upd H p (.frz O (.tup vs))) := by
  have R1 := R.garb (o := .frz O (.tup vs)) n
  have g : Grow F (upd F p (.frz O (.tup vs))) L L := .fnew (R.fn n)
  have atk : ∀ {c : PV} {a : Addr}, AtC I fr F L (upd H p (.frz O (.tup vs))) c a → a ≠ p → AtC I fr (upd F p (.frz O (.tup vs))) L (upd H p (.frz O (.tup vs))) c a := fun {c a} ⟨o, e, r, h1, h2⟩ ne => ⟨o, e, r.grow g, by rw [upd_ne ne]; exact h1, h2⟩
  have atne : ∀ {c : PV} {a : Addr}, AtC I fr F L H c a → a ≠ p := fun h => h.ne n
  refine (RS.pushV (hs := hs) { R1 with
    fz := fun a o e => ?_, f0 := fun a o e => g.f _ _ (R.f0 a o e), nw := fun a o e => ?_, cell := fun k a c h1 h2 => ?_, lf := fun a ha => ?_, val := fun i v hv => ?_, own := fun i c hc => ?_, hval := fun q hq => ?_ } ?_)
  · by_cases c : a = p
    · subst c
      rw [upd_same] at e; cases e
      exact .inl upd_same
    · rw [upd_ne c] at e
      exact R1.fz a o e
  · by_cases c : a = p
    · subst c; exact .inr (R.bn n)
    · rw [upd_ne c] at e; exact R.nw a o e
  · obtain ⟨u, e, r⟩ := R1.cell k a c h1 h2
    exact ⟨u, e, r.grow g⟩
  · have : a ≠ p := fun z => by subst z; exact R.lnn n ha
    rw [upd_ne this]; exact R.lf a ha
  · obtain ⟨u, e, r⟩ := R.val i v hv
    exact ⟨u, e, r.grow g⟩
  · obtain ⟨a, e, r⟩ := R.own i c hc
    exact ⟨a, e, atk (r.upd n) (atne r)⟩
  · exact (R.hval q hq).grow g fun c a _ _ r => ⟨atk (r.upd n) (atne r), fun i d h1 _ => ⟨d, h1⟩⟩
  · exact ⟨p, vs, rfl, .inl ⟨O, upd_same, hO⟩, h.grow g⟩

/-- a fresh object is given up: it never changes any more -/
theorem RS.freezeT {c : PV} {v : V} (R : RS I fr ((.tmp c, v) :: hs) F L s σ H) : ∃ F', RS I fr ((.val c, v) :: hs) F' L s σ H := by
  obtain ⟨a, e, ⟨o, ho, rc, fa, ba, la⟩, no⟩ := R.head
  simp only at e
  subst e
  have g : Grow F (upd F a o) L L := .fnew fa
  have R1 := R.drop
  have hna : ∀ {d : PV} {b : Addr}, (RV.tmp d, V.ref b) ∈ hs → b ≠ a := fun {d b} hp z => by
    subst z
    have := R.hsep
    rw [List.filterMap_cons] at this
    exact (List.nodup_cons.mp (show (b :: hs.filterMap tmpA).Nodup from this)).1 (mem_tmpA.mpr ⟨d, hp⟩)
  have atk : ∀ {d : PV} {b : Addr}, AtC I fr F L H d b → b ≠ a → AtC I fr (upd F a o) L H d b := fun {d b} ⟨u, e, r, h1, h2⟩ ne => ⟨u, e, r.grow g, by rw [upd_ne ne]; exact h1, h2⟩
  refine ⟨upd F a o, (RS.pushV (hs := hs) { R1 with
    fz := fun b u e => ?_, f0 := fun b u e => g.f _ _ (R.f0 b u e), nw := fun b u e => ?_, cell := fun k b d h1 h2 => ?_, lf := fun b hb => ?_, val := fun i w hv => ?_, own := fun i d hd => ?_, hval := fun q hq => ?_ } ?_)⟩
  · by_cases z : b = a
    · subst z; rw [upd_same] at e; cases e; exact .inl ho
    · rw [upd_ne z] at e; exact R.fz b u e
  · by_cases z : b = a
    · subst z; exact .inr ba
    · rw [upd_ne z] at e; exact R.nw b u e
  · obtain ⟨u, e, r⟩ := R.cell k b d h1 h2
    exact ⟨u, e, r.grow g⟩
  · have : b ≠ a := fun z => by subst z; exact la hb
    rw [upd_ne this]; exact R.lf b hb
  · obtain ⟨u, e, r⟩ := R.val i w hv
    exact ⟨u, e, r.grow g⟩
  · obtain ⟨b, e, r⟩ := R.own i d hd
    refine ⟨b, e, atk r fun z => ?_⟩
    subst z
    exact no i d hd e
  · refine (R1.hval q hq).grow g fun d b h1 h2 r => ⟨atk r ?_, fun i d' h3 _ => ⟨d', h3⟩⟩
    obtain ⟨q1, q2⟩ := q
    simp only at h1 h2
    subst h1; subst h2
    exact hna hq
  · -- the object at a shows c
    cases c with
    | lst xs => obtain ⟨vs, e, r⟩ := rc; subst e; exact ⟨a, vs, rfl, upd_same, r.grow g⟩
    | dct kvs => obtain ⟨ws, e, r⟩ := rc; subst e; exact ⟨a, ws, rfl, .inl upd_same, r.grow g⟩
    | obj cc fs => obtain ⟨dx, ws, e, r⟩ := rc; subst e; exact ⟨a, dx, ws, rfl, upd_same, r.grow g⟩
    | _ => exact rc.elim
/-- a slot's own object is taken out of the slot: it is held apart -/
theorem RS.takeS {i : Nat} {c : PV} {v : V} (R : RS I fr hs F L s σ H) (h : s.get i = .own c) (e : σ[i]? = some (some v)) : RS I fr ((.tmp c, v) :: hs) F L (s.put i .non) σ H := by
  have hi := get_lt h (by simp)
  obtain ⟨a, e1, at_⟩ := R.own i c h
  rw [e] at e1; cases e1
  have gp : ∀ j, (s.put i .non).get j = if j = i then .non else s.get j := fun j => get_put hi
  have gown : ∀ j d, (s.put i .non).get j = .own d → j ≠ i ∧ s.get j = .own d := fun j d q => by
    rw [gp] at q
    by_cases z : j = i
    · rw [if_pos z] at q; cases q
    · rw [if_neg z] at q; exact ⟨z, q⟩
  have R0 : RS I fr hs F L (s.put i .non) σ H := { R with
    len := by show (s.env.set i _).length = _; rw [List.length_set]; exact R.len
    val := fun j w q => by
      rw [gp] at q
      by_cases z : j = i
      · rw [if_pos z] at q; cases q
      · rw [if_neg z] at q; exact R.val j w q
    own := fun j d q => R.own j d (gown j d q).2
    sep := fun j k d d' q1 q2 q3 => R.sep j k d d' (gown j d q1).2 (gown k d' q2).2 q3
    hval := fun q hq => (R.hval q hq).grow .refl fun d b _ _ r => ⟨r, fun j d' q _ => ⟨d', (gown j d' q).2⟩⟩ }
  refine { R0 with hval := fun q hq => ?_, hsep := ?_ }
  · rcases List.mem_cons.mp hq with rfl | hq
    · refine ⟨a, rfl, at_, fun j d q z => ?_⟩
      obtain ⟨q1, q2⟩ := gown j d q
      exact q1 (R.sep j i d c q2 h (z.trans e.symm))
    · exact R0.hval q hq
  · rw [List.filterMap_cons]
    show (a :: hs.filterMap tmpA).Nodup
    refine List.nodup_cons.mpr ⟨fun hm => ?_, R.hsep⟩
    obtain ⟨c', hc⟩ := mem_tmpA.mp hm
    obtain ⟨b, e2, _, no⟩ := R.hval _ hc
    cases e2
    exact no i c h e
/-- what is held goes back to the slot -/
theorem RS.giveS {i : Nat} {c : PV} {v : V} (R : RS I fr ((.tmp c, v) :: hs) F L s σ H) (e : σ[i]? = some (some v)) (h : s.get i = .non) : RS I fr hs F L (s.put i (.own c)) σ H := by
  have hi := R.hlt e
  obtain ⟨a, ea, at_, no⟩ := R.head
  simp only at ea
  subst ea
  have R1 := R.drop
  have gp : ∀ j, (s.put i (.own c)).get j = if j = i then .own c else s.get j := fun j => get_put hi
  have hna : ∀ {d : PV} {b : Addr}, (RV.tmp d, V.ref b) ∈ hs → b ≠ a := fun {d b} hp z => by
    subst z
    have := R.hsep
    rw [List.filterMap_cons] at this
    exact (List.nodup_cons.mp (show (b :: hs.filterMap tmpA).Nodup from this)).1 (mem_tmpA.mpr ⟨d, hp⟩)
  refine { R1 with len := by show (s.env.set i _).length = _; rw [List.length_set]; exact R.len, val := fun j w q => ?_, own := fun j d q => ?_, sep := fun j k d d' q1 q2 q3 => ?_, hval := fun q hq => ?_ }
  · rw [gp] at q
    by_cases z : j = i
    · rw [if_pos z] at q; cases q
    · rw [if_neg z] at q; exact R.val j w q
  · rw [gp] at q
    by_cases z : j = i
    · rw [if_pos z] at q; cases q; subst z; exact ⟨a, e, at_⟩
    · rw [if_neg z] at q; exact R.own j d q
  · rw [gp] at q1 q2
    by_cases z : j = i
    · by_cases z2 : k = i
      · rw [z, z2]
      · rw [if_neg z2] at q2
        subst z
        exact (no k d' q2 (q3.symm.trans e)).elim
    · rw [if_neg z] at q1
      by_cases z2 : k = i
      · subst z2
        exact (no j d q1 (q3.trans e)).elim
      · rw [if_neg z2] at q2
        exact R.sep j k d d' q1 q2 q3
  · obtain ⟨q1, q2⟩ := q
    have hv := R1.hval _ hq
    cases q1 with
    | val x => exact hv
    | slot j => exact hv
    | tmp d =>
      obtain ⟨b, eb, r, no'⟩ := hv
      refine ⟨b, eb, r, fun j d' q z => ?_⟩
      rw [gp] at q
      by_cases zz : j = i
      · subst zz
        rw [e] at z
        cases z
        simp only at eb
        subst eb
        exact hna hq rfl
      · rw [if_neg zz] at q
        exact no' j d' q z
/-- a slot is set to a value that is held -/
theorem RS.putV {i : Nat} {x : PV} {v : V} (R : RS I fr ((.val x, v) :: hs) F L s σ H) (e : σ[i]? = some (some v)) (hn : ∀ d, s.get i ≠ .own d) : RS I fr ((.val x, v) :: hs) F L (s.put i (.val x)) σ H := by
  have hi := R.hlt e
  have gp : ∀ j, (s.put i (.val x)).get j = if j = i then .val x else s.get j := fun j => get_put hi
  have gown : ∀ j d, (s.put i (.val x)).get j = .own d → s.get j = .own d := fun j d q => by
    rw [gp] at q
    by_cases z : j = i
    · rw [if_pos z] at q; cases q
    · rw [if_neg z] at q; exact q
  refine { R with len := by show (s.env.set i _).length = _; rw [List.length_set]; exact R.len, val := fun j w q => ?_, own := fun j d q => R.own j d (gown j d q), sep := fun j k d d' q1 q2 q3 => R.sep j k d d' (gown j d q1) (gown k d' q2) q3, hval := fun q hq => (R.hval q hq).grow .refl fun d b _ _ r => ⟨r, fun j d' q _ => ⟨d', gown j d' q⟩⟩ }
  rw [gp] at q
  by_cases z : j = i
  · rw [if_pos z] at q; cases q; subst z; exact ⟨v, e, R.head⟩
  · rw [if_neg z] at q; exact R.val j w q
/-- toVal: as a value -/
theorem RS.toVal {r : RV} {v : V} (R : RS I fr ((r, v) :: hs) F L s σ H) : match toVal r s with
    | .ok x s' => ∃ F', RS I fr ((.val x, v) :: hs) F' L s' σ H ∧ s'.cells = s.cells
    | .ex _ _ => False
    | .bad => True := by
  cases r with
  | val x => exact ⟨F, R, rfl⟩
  | tmp c =>
    obtain ⟨F', R'⟩ := R.freezeT
    exact ⟨F', R', rfl⟩
  | slot i =>
    unfold Nr.toVal
    cases h : s.get i with
    | non => simp only [h]
    | val x => simp only [h]
    | own c =>
      simp only [h]
      have e : σ[i]? = some (some v) := R.head
      have hi := R.hlt e
      obtain ⟨F', R1⟩ := (R.drop.takeS h e).freezeT
      have hn : (s.put i .non).get i = .non := by rw [get_put hi, if_pos rfl]
      have R2 := R1.putV e fun d z => by rw [hn] at z; cases z
      have e2 : (s.put i .non).put i (.val c) = s.put i (.val c) := by unfold St.put; simp
      rw [e2] at R2
      exact ⟨F', R2, rfl⟩
end
end Nr
end

section
set_option Elab.async false
set_option linter.all false
set_option maxRecDepth 100000
set_option maxHeartbeats 4000000
/-! E3: values as data; what an operation shows; the operators. -/
namespace Nr
open PySem PySem.Spec PyProof.Rows L2

/-! ### values as data -/
theorem toDL_map : ∀ xs : List PV, toDL xs = xs.map toD
  | [] => rfl
  | x :: xs => by rw [toDL, toDL_map xs]; rfl
mutual
theorem eqv_toD : ∀ (x y : PV), plain x = true → plain y = true → PyData.eqv (toD x) (toD y) = pvEq x y
  | .non, y, _, h => by cases y <;> first | rfl | exact absurd h (by simp [plain])
  | .bl a, y, _, h => by cases y <;> first | rfl | exact absurd h (by simp [plain])
  | .int i, y, _, h => by cases y <;> first | rfl | exact absurd h (by simp [plain])
  | .str s, y, _, h => by cases y <;> first | rfl | exact absurd h (by simp [plain])
  | .tup xs, y, hx, h => by
    cases y with
    | tup ys => exact eqv_toDL xs ys hx h
    | non => rfl | bl b => rfl | int i => rfl | str s => rfl | lst ys => rfl
    | dct _ => exact absurd h (by simp [plain]) | obj _ _ => exact absurd h (by simp [plain]) | loc _ => exact absurd h (by simp [plain]) | fn _ => exact absurd h (by simp [plain]) | err _ _ => exact absurd h (by simp [plain]) | scr _ => exact absurd h (by simp [plain])
  | .lst xs, y, hx, h => by
    cases y with
    | lst ys => exact eqv_toDL xs ys hx h
    | non => rfl | bl b => rfl | int i => rfl | str s => rfl | tup ys => rfl
    | dct _ => exact absurd h (by simp [plain]) | obj _ _ => exact absurd h (by simp [plain]) | loc _ => exact absurd h (by simp [plain]) | fn _ => exact absurd h (by simp [plain]) | err _ _ => exact absurd h (by simp [plain]) | scr _ => exact absurd h (by simp [plain])
  | .dct _, _, h, _ => absurd h (by simp [plain])
  | .obj _ _, _, h, _ => absurd h (by simp [plain])
  | .loc _, _, h, _ => absurd h (by simp [plain])
  | .fn _, _, h, _ => absurd h (by simp [plain])
  | .err _ _, _, h, _ => absurd h (by simp [plain])
  | .scr _, _, h, _ => absurd h (by simp [plain])
theorem eqv_toDL : ∀ (xs ys : List PV), plainL xs = true → plainL ys = true → PyData.eqvAll (toDL xs) (toDL ys) = pvEqL xs ys
  | [], [], _, _ => rfl
  | [], _ :: _, _, _ => rfl
  | _ :: _, [], _, _ => rfl
  | x :: xs, y :: ys, h1, h2 => by
    rw [plainL, Bool.and_eq_true] at h1 h2
    show (PyData.eqv (toD x) (toD y) && PyData.eqvAll (toDL xs) (toDL ys)) = _
    rw [eqv_toD x y h1.1 h2.1, eqv_toDL xs ys h1.2 h2.2, pvEqL]
end
mutual
theorem canLay_toD : ∀ x : PV, plain x = true → (toD x).canLay0 = true
  | .non, _ => rfl | .bl _, _ => rfl | .int _, _ => rfl
  | .str s, h => by exact h
  | .tup xs, h => by show PyData.canLayAll0 (toDL xs) = true; exact canLay_toDL xs h
  | .lst xs, h => by show PyData.canLayAll0 (toDL xs) = true; exact canLay_toDL xs h
  | .dct _, h => absurd h (by simp [plain])
  | .obj _ _, h => absurd h (by simp [plain])
  | .loc _, h => absurd h (by simp [plain])
  | .fn _, h => absurd h (by simp [plain])
  | .err _ _, h => absurd h (by simp [plain])
  | .scr _, h => absurd h (by simp [plain])
theorem canLay_toDL : ∀ xs : List PV, plainL xs = true → PyData.canLayAll0 (toDL xs) = true
  | [], _ => rfl
  | x :: xs, h => by
    rw [plainL, Bool.and_eq_true] at h
    show (PyData.canLay0 (toD x) && PyData.canLayAll0 (toDL xs)) = true
    rw [canLay_toD x h.1, canLay_toDL xs h.2]; rfl
end
mutual
theorem dep_toD : ∀ (n : Nat) (x : PV), depLe n x = true → (toD x).depth ≤ n
  | n, .non, _ => Nat.zero_le _ | n, .bl _, _ => Nat.zero_le _ | n, .int _, _ => Nat.zero_le _ | n, .str _, _ => Nat.zero_le _
  | n, .dct _, _ => Nat.zero_le _ | n, .obj _ _, _ => Nat.zero_le _ | n, .loc _, _ => Nat.zero_le _ | n, .fn _, _ => Nat.zero_le _ | n, .err _ _, _ => Nat.zero_le _ | n, .scr _, _ => Nat.zero_le _
  | 0, .tup _, h => absurd h (by simp [depLe])
  | 0, .lst _, h => absurd h (by simp [depLe])
  | n + 1, .tup xs, h => by
    show PyData.depthAll (toDL xs) + 1 ≤ n + 1
    exact Nat.succ_le_succ (dep_toDL n xs (by simpa [depLe] using h))
  | n + 1, .lst xs, h => by
    show PyData.depthAll (toDL xs) + 1 ≤ n + 1
    exact Nat.succ_le_succ (dep_toDL n xs (by simpa [depLe] using h))
theorem dep_toDL : ∀ (n : Nat) (xs : List PV), depLeL n xs = true → PyData.depthAll (toDL xs) ≤ n
  | n, [], _ => Nat.zero_le _
  | n, x :: xs, h => by
    rw [depLeL, Bool.and_eq_true] at h
    show max (PyData.depth (toD x)) (PyData.depthAll (toDL xs)) ≤ n
    exact Nat.max_le.mpr ⟨dep_toD n x h.1, dep_toDL n xs h.2⟩
end
/-- what is seen of a value in the heap: a cell's object, or the value -/
def Shown (I : Inf) (F : Hp) (L : List Addr) (H : Hp) (c : PV) (v : V) : Prop := match c with
  | .lst xs => ∃ a vs, v = .ref a ∧ H a = some (.lst vs) ∧ RepL I F L xs vs
  | .dct kvs => ∃ a ws, v = .ref a ∧ Rd H a (.dK ws) ∧ RepD I F L kvs ws
  | .obj c fs => ∃ a dx ws, v = .ref a ∧ H a = some (.ins (I.cad c) dx ws) ∧ RepF I F L fs ws
  | c => RepV I F L c v
section
variable {I : Inf} {fr : Frm} {hs : List (RV × V)} {F : Hp} {L : List Addr} {s : St} {σ : L2.St} {H : Hp}
theorem RS.rdUp (R : RS I fr hs F L s σ H) {a : Addr} {u : HO} (r : Rd F a u) : Rd H a u := by
  rcases r with e | ⟨o, e⟩
  · exact (R.fz _ _ e).rd
  · exact .inr ⟨o, (R.fz _ _ e).eq rfl⟩
theorem RS.sqlUp (R : RS I fr hs F L s σ H) {a : Addr} {xs : List V} (r : SqL I.K F a xs) : SqL I.K H a xs := r.elim (fun e => .inl (R.rdUp e)) .inr
theorem RS.sqtUp (R : RS I fr hs F L s σ H) {a : Addr} {xs : List V} (r : SqT I.K F a xs) : SqT I.K H a xs := r.elim (fun e => .inl (R.rdUp e)) .inr
theorem RS.tupUp (R : RS I fr hs F L s σ H) {a : Addr} {xs : List V} (r : TupAt I.K F a xs) : TupAt I.K H a xs := by
  rcases r with ⟨o, e, d⟩ | r
  · exact .inl ⟨o, (R.fz _ _ e).eq rfl, d⟩
  · exact .inr r
mutual
theorem RS.dp (R : RS I fr hs F L s σ H) : ∀ (x : PV) (v : V), plain x = true → RepV I F L x v → Dp I.K H v (toD x)
  | .non, _, _, h => by cases h; exact .non
  | .bl b, _, _, h => by cases h; exact .bl b
  | .int i, _, _, h => by cases h; exact .int i
  | .str z, _, _, h => by cases h; exact .str z
  | .tup xs, _, p, h => by obtain ⟨a, vs, e, q, r⟩ := h; subst e; exact .tup (R.tupUp q).sq (RS.dpL R xs vs p r)
  | .lst xs, _, p, h => by obtain ⟨a, vs, e, q, r⟩ := h; subst e; exact .lst (.of ((R.fz _ _ q).eq rfl)) (RS.dpL R xs vs p r)
  | .dct _, _, h, _ => absurd h (by simp [plain])
  | .obj _ _, _, h, _ => absurd h (by simp [plain])
  | .loc _, _, h, _ => absurd h (by simp [plain])
  | .fn _, _, h, _ => absurd h (by simp [plain])
  | .err _ _, _, h, _ => absurd h (by simp [plain])
  | .scr _, _, h, _ => absurd h (by simp [plain])
theorem RS.dpL (R : RS I fr hs F L s σ H) : ∀ (xs : List PV) (vs : List V), plainL xs = true → RepL I F L xs vs → DpAll I.K H vs (toDL xs)
  | [], _, _, h => by cases h; exact .nil
  | x :: xs, _, p, h => by
    rw [plainL, Bool.and_eq_true] at p
    obtain ⟨v, r, e, h1, h2⟩ := h; subst e
    exact .cons (RS.dp R x v p.1 h1) (RS.dpL R xs r p.2 h2)
end
theorem RS.shownV (R : RS I fr hs F L s σ H) {x : PV} {v : V} (h : RepV I F L x v) : Shown I F L H x v := by
  cases x with
  | lst xs => obtain ⟨a, vs, e, q, r⟩ := h; exact ⟨a, vs, e, (R.fz _ _ q).eq rfl, r⟩
  | dct kvs => obtain ⟨a, ws, e, q, r⟩ := h; exact ⟨a, ws, e, R.rdUp q, r⟩
  | obj c fs =>
    obtain ⟨a, dx, ws, e, q, r⟩ := h
    exact ⟨a, dx, ws, e, (R.fz _ _ q).eq rfl, r⟩
  | _ => exact h
/-- the object at a cell shows its content -/
theorem shownC {c : PV} {o : HO} {a : Addr} (ho : H a = some o) (h : RepC I F L c o) : Shown I F L H c (.ref a) := by
  cases c with
  | lst xs => obtain ⟨vs, e, r⟩ := h; subst e; exact ⟨a, vs, rfl, ho, r⟩
  | dct kvs => obtain ⟨ws, e, r⟩ := h; subst e; exact ⟨a, ws, rfl, .inl ho, r⟩
  | obj c fs => obtain ⟨dx, ws, e, r⟩ := h; subst e; exact ⟨a, dx, ws, rfl, ho, r⟩
  | _ => exact h.elim
/-- what is held shows what view says -/
theorem RS.shown (R : RS I fr hs F L s σ H) {r : RV} {v : V} (hm : (r, v) ∈ hs) {c : PV} (hv : view s r = some c) : Shown I F L H c v := by
  have h := R.hval _ hm
  cases r with
  | tmp d =>
    cases hv
    obtain ⟨a, e, ⟨o, ho, rc, _⟩, _⟩ := h
    simp only at e; subst e
    exact shownC ho rc
  | slot i =>
    have e : σ[i]? = some (some v) := h
    have hv : (match s.get i with | .own c => some c | _ => none) = some c := hv
    cases hg : s.get i with
    | non => rw [hg] at hv; cases hv
    | val x => rw [hg] at hv; cases hv
    | own d =>
      rw [hg] at hv; cases hv
      obtain ⟨a, e2, o, ho, rc, _⟩ := R.own i c hg
      rw [e] at e2; cases e2
      exact shownC ho rc
  | val x =>
    cases x with
    | loc n =>
      obtain ⟨a, e, q⟩ := h
      simp only at e; subst e
      have hv : s.cells[n]? = some c := hv
      obtain ⟨o, ho, rc⟩ := R.cell n a c q hv
      exact shownC ho rc
    | _ => cases hv; exact R.shownV h
/-- .. as data -/
theorem RS.dpS (R : RS I fr hs F L s σ H) {c : PV} {v : V} (p : plain c = true) (h : Shown I F L H c v) : Dp I.K H v (toD c) := by
  cases c with
  | tup xs => exact R.dp _ _ p h
  | lst xs => obtain ⟨a, vs, e, q, r⟩ := h; subst e; exact .lst (.of q) (R.dpL xs vs p r)
  | non => exact R.dp _ _ p h
  | bl b => exact R.dp _ _ p h
  | int i => exact R.dp _ _ p h
  | str z => exact R.dp _ _ p h
  | _ => exact absurd p (by simp [plain])
end

/-! ### readings -/
abbrev WX := L2.WX
/-- the exception e by its class and its own dict -/
def ExV (I : Inf) (F : Hp) (L : List Addr) (e : PV) (cls : Value) (d : Option Addr) : Prop := match e with
  | .err c fs => cls = .ref (I.cad c) ∧ ∃ dd ws, d = some dd ∧ F dd = some (.xd ws) ∧ RepF I F L fs ws
  | _ => False
def Post (I : Inf) (W : WX) (fr : Frm) (hs : List (RV × V)) (σ : L2.St) (Q : VK) (r : R RV) : Prop := match r with
  | .ok r s => ∀ F L H v, RS I fr ((r, v) :: hs) F L s σ H → Q v H
  | .ex e s => ∀ F L H cls d, RS I fr hs F L s σ H → ExV I F L e cls d → W cls d σ H
  | .bad => False
def tEv (I : Inf) (W : WX) (ev : St → R RV) : TE := fun σ H Q => ∃ fr hs F L s, RS I fr hs F L s σ H ∧ Post I W fr hs σ Q (ev s)
def push : List RV → List V → List (RV × V) → List (RV × V)
  | r :: rs, v :: vs, hs => push rs vs ((r, v) :: hs)
  | _, _, hs => hs
def PostA (I : Inf) (W : WX) (fr : Frm) (hs : List (RV × V)) (σ : L2.St) (Q : List V → Hp → Prop) (r : R (List RV)) : Prop := match r with
  | .ok rs s => ∀ F L H vs, vs.length = rs.length → RS I fr (push rs vs hs) F L s σ H → Q vs H
  | .ex e s => ∀ F L H cls d, RS I fr hs F L s σ H → ExV I F L e cls d → W cls d σ H
  | .bad => False
def tEvs (I : Inf) (W : WX) (ev : St → R (List RV)) : TA := fun σ H Q => ∃ fr hs F L s, RS I fr hs F L s σ H ∧ PostA I W fr hs σ Q (ev s)
section
variable {I : Inf} {W : WX} {fr : Frm} {hs gs : List (RV × V)} {F : Hp} {L : List Addr} {s : St} {σ : L2.St} {H : Hp} {Q : VK}
/-- a part is read first -/
theorem step {ev : St → R RV} {f : RV → St → R RV} {Q1 : VK} (R : RS I fr gs F L s σ H) (hsub : hs.Sublist gs) (P : Post I W fr hs σ Q ((ev s).bind f))
    (k : ∀ r s1 F1 L1 H1 v, RS I fr ((r, v) :: gs) F1 L1 s1 σ H1 → Post I W fr hs σ Q (f r s1) → Q1 v H1) : tEv I W ev σ H Q1 := by
  refine ⟨fr, gs, F, L, s, R, ?_⟩
  cases e : ev s with
  | ok r s1 =>
    rw [e] at P
    exact fun F1 L1 H1 v R1 => k r s1 F1 L1 H1 v R1 P
  | ex x s1 =>
    rw [e] at P
    exact fun F1 L1 H1 cls d R1 X1 => P F1 L1 H1 cls d (R1.sub hsub) X1
  | bad => rw [e] at P; exact P
theorem stepA {ev : St → R (List RV)} {f : List RV → St → R RV} {Q1 : List V → Hp → Prop} (R : RS I fr gs F L s σ H) (hsub : hs.Sublist gs) (P : Post I W fr hs σ Q ((ev s).bind f))
    (k : ∀ rs s1 F1 L1 H1 vs, vs.length = rs.length → RS I fr (push rs vs gs) F1 L1 s1 σ H1 → Post I W fr hs σ Q (f rs s1) → Q1 vs H1) : tEvs I W ev σ H Q1 := by
  refine ⟨fr, gs, F, L, s, R, ?_⟩
  cases e : ev s with
  | ok rs s1 =>
    rw [e] at P
    exact fun F1 L1 H1 vs hl R1 => k rs s1 F1 L1 H1 vs hl R1 P
  | ex x s1 =>
    rw [e] at P
    exact fun F1 L1 H1 cls d R1 X1 => P F1 L1 H1 cls d (R1.sub hsub) X1
  | bad => rw [e] at P; exact P
theorem Post.val {x : PV} {v : V} (P : Post I W fr hs σ Q (.ok (.val x) s)) (R : RS I fr hs F L s σ H) (h : RepV I F L x v) : Q v H := P F L H v (R.pushV h)
theorem Post.new {c : PV} {o : HO} {p : Addr} (P : Post I W fr hs σ Q (.ok (.tmp c) s)) (R : RS I fr hs F L s σ H) (n : H p = none) (h : RepC I F L c o) : Q (.ref p) (upd H p o) := P F L _ _ (R.pushT n h)
theorem Post.tup {xs : List PV} {vs : List V} {p : Addr} {O : Obj} (P : Post I W fr hs σ Q (.ok (.val (.tup xs)) s)) (R : RS I fr hs F L s σ H) (n : H p = none) (hO : O.dict = none) (h : RepL I F L xs vs) : Q (.ref p) (upd H p (.frz O (.tup vs))) := P _ L _ _ (R.pushTup n hO h)
/-- ofOpt, then what follows -/
theorem Post.opt {α : Type} {o : Option α} {f : α → St → R RV} (P : Post I W fr hs σ Q ((ofOpt o s).bind f)) : ∃ a, o = some a ∧ Post I W fr hs σ Q (f a s) := by
  cases o with
  | none => exact P.elim
  | some a => exact ⟨a, rfl, P⟩
end
end Nr
end

section
set_option Elab.async false
set_option linter.all false
set_option maxRecDepth 100000
set_option maxHeartbeats 4000000
/-! E4: the binary operators. -/
namespace Nr
open PySem PySem.Spec PyProof.Rows L2

section
variable {X : Cx}
theorem OpR.or {f : Value → Value → Sem Value} {r r' : R2} (h : OpR X f r) (h' : OpR X f r') : OpR X f (fun x y H Q => r x y H Q ∨ r' x y H Q) := fun pins s σ H x y v u Q I rx ry q =>
  q.elim (h pins s σ H x y v u Q I rx ry) (h' pins s σ H x y v u Q I rx ry)
theorem OpR.imp {f : Value → Value → Sem Value} {r r' : R2} (h : OpR X f r) (k : ∀ x y H Q, r' x y H Q → r x y H Q) : OpR X f r' := fun pins s σ H x y v u Q I rx ry q => h pins s σ H x y v u Q I rx ry (k _ _ _ _ q)
/-! ### tuples made -/
/-- a new tuple -/
def newTup (xs : List V) (H : Hp) (Q : VK) : Prop := ∀ p O, O.dict = none → H p = none → Q (.ref p) (upd H p (.frz O (.tup xs)))
theorem newTup_ep {pins : List (Addr × Obj)} {σ : L2.St} {H : Hp} {s : Shared} {Q : VK} {xs : List V} {us : List Value} (I : Inv X pins σ H s) (r : Vals xs us) (z : xs.length ≤ sizeLine) (q : newTup xs H Q) :
    EP X pins σ Q (.ref s.heap.objs.size) { s with heap := s.heap.push { cls := .type "tuple", data := .seq us.toArray } } := by
  have hf : H s.heap.objs.size = none := I.hok.fresh (Nat.le_refl _)
  refine ⟨.ref s.heap.objs.size, upd H s.heap.objs.size (.frz { cls := .type "tuple", data := .seq us.toArray } (.tup xs)), I.laid (t' := s.toks) (fun b u e => Heap.get?_push_of_some _ e) (Nat.le_refl _) ?_, rfl, q _ _ rfl hf⟩
  exact ⟨Heap.get?_push_size _ rfl, z, us, r, ⟨_, Heap.get?_push_size _ rfl, rfl, _, rfl⟩⟩
def tTupF (t : TA) : TE := fun σ H Q => t σ H fun xs H1 => xs.length ≤ sizeLine ∧ newTup xs H1 Q
theorem pe_tupF {es : List Expr} {t : TA} {pos : Pos} {x1} (h : PA X es t) : PE X (.Tuple es x1 pos) (tTupF t) := by
  refine ⟨fun pins s σ H Q I hq => ?_⟩
  exact wpAny_Tuple_spliced (thn (h.run pos pins s σ H _ I hq) fun us s1 ⟨xs, H1, I1, r, z, q⟩ => ⟨by rw [← r.length]; exact z, newTup_ep I1 r z q⟩)
/-- t + u -/
def rCatF (K : PySem.W.Frag) : R2 := fun x y H Q => ∃ a b xs ys, x = .ref a ∧ y = .ref b ∧ SqT K H a xs ∧ SqT K H b ys ∧ xs.length + ys.length ≤ sizeLine ∧
  (xs = [] → Q (.ref b) H) ∧ (xs ≠ [] → ys = [] → Q (.ref a) H) ∧ (xs ≠ [] → ys ≠ [] → newTup (xs ++ ys) H Q)
theorem op_catF : OpR X (binaryOp .Add) (rCatF X.K) := by
  intro pins s σ H x y v u Q I rx ry h
  obtain ⟨a, b, xs, ys, rfl, rfl, ha, hb, hz, q0, q1, q2⟩ := h
  cases rx
  cases ry
  obtain ⟨its, r1, p1, _⟩ := I.tuple ha
  obtain ⟨its2, r2, p2, _⟩ := I.tuple hb
  by_cases hx : xs = []
  · subst hx
    cases r1
    exact cat_tup0 p1 p2 ⟨.ref b, H, I, rfl, q0 rfl⟩
  · refine HT.cat_tup p1 p2 (fun z => hx (r1.nil_iff.mp z)) (fun z => ⟨.ref a, H, I, rfl, q1 hx (r2.nil_iff.mp z)⟩) (fun z => ?_) (by rw [← r1.length, ← r2.length]; exact hz)
    exact newTup_ep I (r1.append r2) (by rw [List.length_append]; exact hz) (q2 hx fun w => z (r2.nil_iff.mpr w))
/-! ### data -/
def rEqP (K : PySem.W.Frag) : R2 := fun x y H Q => ∃ d e, Dp K H x d ∧ Dp K H y e ∧ d.canLay0 = true ∧ e.canLay0 = true ∧ min d.depth e.depth ≤ 40 ∧ Q (.bl (PyData.eqv d e)) H
def rNeP (K : PySem.W.Frag) : R2 := fun x y H Q => ∃ d e, Dp K H x d ∧ Dp K H y e ∧ d.canLay0 = true ∧ e.canLay0 = true ∧ min d.depth e.depth ≤ 40 ∧ Q (.bl (!PyData.eqv d e)) H
theorem op_eqP (hu : X.A.units + 64 < cLine) : OpR X (compareOp .Eq) (rEqP X.K) := by
  intro pins s σ H x y v u Q I rx ry h
  obtain ⟨d, e, hd, he, sd, se, hm, q⟩ := h
  obtain ⟨as, r1⟩ := Dp.reads I d x v hd rx
  obtain ⟨bs, r2⟩ := Dp.reads I e y u he ry
  exact SeqAt.compareEq_reads r1 r2 sd se (by omega) ⟨.bl _, H, I, rfl, q⟩
theorem op_neP (hu : X.A.units + 64 < cLine) : OpR X (compareOp .NotEq) (rNeP X.K) := by
  intro pins s σ H x y v u Q I rx ry h
  obtain ⟨d, e, hd, he, sd, se, hm, q⟩ := h
  obtain ⟨as, r1⟩ := Dp.reads I d x v hd rx
  obtain ⟨bs, r2⟩ := Dp.reads I e y u he ry
  exact SeqAt.compareNe_reads r1 r2 sd se (by omega) ⟨.bl _, H, I, rfl, q⟩
def rInP (K : PySem.W.Frag) (neg : Bool) : R2 := fun x y H Q => ∃ d ds, Dp K H x d ∧ (Dp K H y (.list ds) ∨ Dp K H y (.tuple ds)) ∧ d.canLay0 = true ∧ PyData.canLayAll0 ds = true ∧ min (PyData.depthAll ds) d.depth ≤ 40 ∧
  Q (.bl (if neg then !ds.any fun z => PyData.eqv z d else ds.any fun z => PyData.eqv z d)) H
theorem op_inP (hu : X.A.units + 64 < cLine) : OpR X (compareOp .In) (rInP X.K false) := by
  intro pins s σ H x y v u Q I rx ry h
  obtain ⟨d, ds, hd, he | he, sd, se, hm, q⟩ := h
  · obtain ⟨as, r1⟩ := Dp.reads I d x v hd rx
    obtain ⟨bs, r2⟩ := Dp.reads I _ y u he ry
    exact SeqAt.in_list_reads r2 r1 se sd (by omega) ⟨.bl _, H, I, rfl, q⟩
  · obtain ⟨as, r1⟩ := Dp.reads I d x v hd rx
    obtain ⟨bs, r2⟩ := Dp.reads I _ y u he ry
    exact SeqAt.in_tuple_reads r2 r1 se sd (by omega) ⟨.bl _, H, I, rfl, q⟩
theorem op_notInP (hu : X.A.units + 64 < cLine) : OpR X (compareOp .NotIn) (rInP X.K true) := by
  intro pins s σ H x y v u Q I rx ry h
  obtain ⟨d, ds, hd, he | he, sd, se, hm, q⟩ := h
  · obtain ⟨as, r1⟩ := Dp.reads I d x v hd rx
    obtain ⟨bs, r2⟩ := Dp.reads I _ y u he ry
    exact SeqAt.notIn_list_reads r2 r1 se sd (by omega) ⟨.bl _, H, I, rfl, q⟩
  · obtain ⟨as, r1⟩ := Dp.reads I d x v hd rx
    obtain ⟨bs, r2⟩ := Dp.reads I _ y u he ry
    exact SeqAt.notIn_tuple_reads r2 r1 se sd (by omega) ⟨.bl _, H, I, rfl, q⟩
end

/-! ### what the evaluator asks, as what the rules ask -/
section
variable {I : Inf} {W : WX} {fr : Frm} {hs : List (RV × V)} {F : Hp} {L : List Addr} {s : St} {σ : L2.St} {H : Hp} {Q : VK} {T : Tab} {cf : CallF} {rx ry : RV} {x y : V}
theorem bin_open {op : BOp} (he : op ≠ .eq) (hn : op ≠ .ne) (R : RS I fr ((ry, y) :: (rx, x) :: hs) F L s σ H) (P : Post I W fr hs σ Q (binR T cf op rx ry s)) :
    ∃ cx cy res, Shown I F L H cx x ∧ Shown I F L H cy y ∧ bop op cx cy = some res ∧ RS I fr hs F L s σ H ∧ Post I W fr hs σ Q (.ok (if isFreshB op then fresh res else .val res) s) := by
  have P : Post I W fr hs σ Q ((ofOpt (view s rx) s).bind fun vx _ => (ofOpt (view s ry) s).bind fun vy _ => (ofOpt (bop op vx vy) s).bind fun r s1 => .ok (if isFreshB op then fresh r else .val r) s1) := by
    cases op <;> first | exact P | exact absurd rfl he | exact absurd rfl hn
  obtain ⟨cx, ex, P⟩ := P.opt
  obtain ⟨cy, ey, P⟩ := P.opt
  obtain ⟨res, er, P⟩ := P.opt
  exact ⟨cx, cy, res, R.shown (by simp) ex, R.shown (by simp) ey, er, R.drop.drop, P⟩
theorem ints_open {f : Int → Int → Option PV} {cx cy res : PV} (sx : Shown I F L H cx x) (sy : Shown I F L H cy y) (e : intsV f cx cy = some res) : ∃ i j, x = .int i ∧ y = .int j ∧ f i j = some res := by
  unfold intsV at e
  split at e
  · exact ⟨_, _, sx, sy, e⟩
  · cases e
theorem bin_int {op : BOp} {C : Int → Int → Prop} {g : Int → Int → V} {gp : Int → Int → PV} {f : Int → Int → Option PV} (he : op ≠ .eq) (hn : op ≠ .ne) (hf : isFreshB op = false) (ho : ∀ a b, bop op a b = intsV f a b)
    (hg : ∀ i j res, f i j = some res → C i j ∧ res = gp i j) (hr : ∀ i j, RepV I F L (gp i j) (g i j))
    (R : RS I fr ((ry, y) :: (rx, x) :: hs) F L s σ H) (P : Post I W fr hs σ Q (binR T cf op rx ry s)) : rI C g x y H Q := by
  obtain ⟨cx, cy, res, sx, sy, e, R0, P⟩ := bin_open he hn R P
  rw [ho] at e
  obtain ⟨i, j, e1, e2, e3⟩ := ints_open sx sy e
  obtain ⟨hc, rfl⟩ := hg i j res e3
  rw [hf] at P
  exact ⟨i, j, e1, e2, hc, P.val R0 (hr i j)⟩
theorem sizeOk_le {n : Nat} (h : sizeOk n = true) : n ≤ sizeLine := by
  rw [sizeLine_eq]
  exact of_decide_eq_true h
def rAddB (K : PySem.W.Frag) : R2 := fun x y H Q => rI0 (fun i j => .int (i + j)) x y H Q ∨ (∃ i j, x = .str i ∧ y = .str j ∧ i.length + j.length ≤ sizeLine ∧ Q (.str (i ++ j)) H) ∨ rCatF K x y H Q ∨ rCat x y H Q
theorem op_addB {X : Cx} : OpR X (binaryOp .Add) (rAddB X.K) := op_add.or (op_add_str.or (op_catF.or op_cat))
theorem bin_add (R : RS I fr ((ry, y) :: (rx, x) :: hs) F L s σ H) (P : Post I W fr hs σ Q (binR T cf .add rx ry s)) : rAddB I.K x y H Q := by
  obtain ⟨cx, cy, res, sx, sy, e, R0, P⟩ := bin_open (by simp) (by simp) R P
  have e : addV cx cy = some res := e
  have P : Post I W fr hs σ Q (.ok (fresh res) s) := P
  unfold addV at e
  split at e
  · cases e
    exact .inl ⟨_, _, sx, sy, P.val R0 rfl⟩
  · split at e
    · rename_i h
      cases e
      exact .inr (.inl ⟨_, _, sx, sy, sizeOk_le h, P.val R0 rfl⟩)
    · cases e
  · split at e
    · rename_i a b h
      cases e
      obtain ⟨p, vs, e1, t1, r1⟩ := id sx
      obtain ⟨q, ws, e2, t2, r2⟩ := id sy
      have P : Post I W fr hs σ Q (.ok (.val (.tup (_ ++ _))) s) := P
      have hl := sizeOk_le h
      rw [r1.length, r2.length] at hl
      refine .inr (.inr (.inl ⟨p, q, vs, ws, e1, e2, (R.tupUp t1).sq, (R.tupUp t2).sq, hl, fun z => ?_, fun z1 z2 => ?_, fun _ _ p' O hO n => P.tup R0 n hO (r1.append r2)⟩))
      · have hn := List.eq_nil_of_length_eq_zero (by rw [r1.length, z]; rfl)
        rw [hn] at P
        rw [← e2]
        exact P.val R0 sy
      · have hn := List.eq_nil_of_length_eq_zero (by rw [r2.length, z2]; rfl)
        rw [hn, List.append_nil] at P
        rw [← e1]
        exact P.val R0 sx
    · cases e
  · split at e
    · rename_i a b h
      cases e
      obtain ⟨p, vs, e1, t1, r1⟩ := sx
      obtain ⟨q, ws, e2, t2, r2⟩ := sy
      have hl := sizeOk_le h
      rw [r1.length, r2.length] at hl
      exact .inr (.inr (.inr ⟨p, q, vs, ws, e1, e2, t1, t2, hl, fun p' n => P.new R0 n ⟨_, rfl, r1.append r2⟩⟩))
    · cases e
  · cases e
end
end Nr
end

section
set_option Elab.async false
set_option linter.all false
set_option maxRecDepth 100000
set_option maxHeartbeats 4000000
/-! E5: the binary operators, further. -/
namespace Nr
open PySem PySem.Spec PyProof.Rows L2
section
variable {I : Inf} {W : WX} {fr : Frm} {hs : List (RV × V)} {F : Hp} {L : List Addr} {s : St} {σ : L2.St} {H : Hp} {Q : VK} {T : Tab} {cf : CallF} {rx ry : RV} {x y : V}
theorem bin_sub (R : RS I fr ((ry, y) :: (rx, x) :: hs) F L s σ H) (P : Post I W fr hs σ Q (binR T cf .sub rx ry s)) : rI0 (fun i j => .int (i - j)) x y H Q := by
  obtain ⟨i, j, h1, h2, _, q⟩ := bin_int (C := fun _ _ => True) (g := fun i j => .int (i - j)) (gp := fun i j => .int (i - j)) (by simp) (by simp) rfl (fun _ _ => rfl) (fun i j r e => ⟨trivial, (Option.some.inj e).symm⟩) (fun _ _ => rfl) R P
  exact ⟨i, j, h1, h2, q⟩
theorem bin_mod (R : RS I fr ((ry, y) :: (rx, x) :: hs) F L s σ H) (P : Post I W fr hs σ Q (binR T cf .mod rx ry s)) : rI (fun _ j => 0 < j) (fun i j => .int (i % j)) x y H Q :=
  bin_int (gp := fun i j => .int (i % j)) (by simp) (by simp) rfl (fun _ _ => rfl) (fun i j r e => by
    split at e
    · rename_i h; exact ⟨of_decide_eq_true h, (Option.some.inj e).symm⟩
    · cases e) (fun _ _ => rfl) R P
theorem bin_fdiv (R : RS I fr ((ry, y) :: (rx, x) :: hs) F L s σ H) (P : Post I W fr hs σ Q (binR T cf .fdiv rx ry s)) : rI CDiv (fun i j => .int (i / j)) x y H Q :=
  bin_int (gp := fun i j => .int (i / j)) (by simp) (by simp) rfl (fun _ _ => rfl) (fun i j r e => by
    split at e
    · rename_i h
      rw [Bool.and_eq_true, decide_eq_true_eq, decide_eq_true_eq] at h
      exact ⟨h, (Option.some.inj e).symm⟩
    · cases e) (fun _ _ => rfl) R P
theorem bin_pow (R : RS I fr ((ry, y) :: (rx, x) :: hs) F L s σ H) (P : Post I W fr hs σ Q (binR T cf .pow rx ry s)) : rI CPow (fun i j => .int (i ^ j.toNat)) x y H Q :=
  bin_int (gp := fun i j => .int (i ^ j.toNat)) (by simp) (by simp) rfl (fun _ _ => rfl) (fun i j r e => by
    split at e
    · rename_i h
      rw [Bool.and_eq_true, Bool.and_eq_true, decide_eq_true_eq, decide_eq_true_eq, decide_eq_true_eq] at h
      exact ⟨⟨h.1.1, by omega, h.2⟩, (Option.some.inj e).symm⟩
    · cases e) (fun _ _ => rfl) R P
theorem bin_shl (R : RS I fr ((ry, y) :: (rx, x) :: hs) F L s σ H) (P : Post I W fr hs σ Q (binR T cf .shl rx ry s)) : rI CPow (fun i j => .int (i * 2 ^ j.toNat)) x y H Q :=
  bin_int (gp := fun i j => .int (i * 2 ^ j.toNat)) (by simp) (by simp) rfl (fun _ _ => rfl) (fun i j r e => by
    split at e
    · rename_i h
      rw [Bool.and_eq_true, Bool.and_eq_true, decide_eq_true_eq, decide_eq_true_eq, decide_eq_true_eq] at h
      exact ⟨⟨h.1.1, h.1.2, h.2⟩, (Option.some.inj e).symm⟩
    · cases e) (fun _ _ => rfl) R P
theorem bin_shr (R : RS I fr ((ry, y) :: (rx, x) :: hs) F L s σ H) (P : Post I W fr hs σ Q (binR T cf .shr rx ry s)) : rI (fun _ j => 0 ≤ j) (fun i j => .int (i / 2 ^ j.toNat)) x y H Q :=
  bin_int (gp := fun i j => .int (i / 2 ^ j.toNat)) (by simp) (by simp) rfl (fun _ _ => rfl) (fun i j r e => by
    split at e
    · rename_i h
      exact ⟨of_decide_eq_true h, (Option.some.inj e).symm⟩
    · cases e) (fun _ _ => rfl) R P
theorem bin_band (R : RS I fr ((ry, y) :: (rx, x) :: hs) F L s σ H) (P : Post I W fr hs σ Q (binR T cf .band rx ry s)) : rI0 (fun i j => .int (Builtin.bitAnd i j)) x y H Q := by
  obtain ⟨i, j, h1, h2, ⟨h3, h4⟩, q⟩ := bin_int (C := fun i j => 0 ≤ i ∧ 0 ≤ j) (g := fun i j => .int ((i.toNat &&& j.toNat : Nat) : Int)) (gp := fun i j => .int ((i.toNat &&& j.toNat : Nat) : Int)) (by simp) (by simp) rfl (fun _ _ => rfl) (fun i j r e => by
    split at e
    · rename_i h
      rw [Bool.and_eq_true, decide_eq_true_eq, decide_eq_true_eq] at h
      exact ⟨h, (Option.some.inj e).symm⟩
    · cases e) (fun _ _ => rfl) R P
  refine ⟨i, j, h1, h2, ?_⟩
  show Q (V.int (Builtin.bitAnd i j)) H
  rw [bitAnd_pp h3 h4]; exact q
theorem bin_bor (R : RS I fr ((ry, y) :: (rx, x) :: hs) F L s σ H) (P : Post I W fr hs σ Q (binR T cf .bor rx ry s)) : rI0 (fun i j => .int (Builtin.bitOr i j)) x y H Q := by
  obtain ⟨i, j, h1, h2, ⟨h3, h4⟩, q⟩ := bin_int (C := fun i j => 0 ≤ i ∧ 0 ≤ j) (g := fun i j => .int ((i.toNat ||| j.toNat : Nat) : Int)) (gp := fun i j => .int ((i.toNat ||| j.toNat : Nat) : Int)) (by simp) (by simp) rfl (fun _ _ => rfl) (fun i j r e => by
    split at e
    · rename_i h
      rw [Bool.and_eq_true, decide_eq_true_eq, decide_eq_true_eq] at h
      exact ⟨h, (Option.some.inj e).symm⟩
    · cases e) (fun _ _ => rfl) R P
  refine ⟨i, j, h1, h2, ?_⟩
  show Q (V.int (Builtin.bitOr i j)) H
  rw [Bits.bitOr_pp h3 h4]; exact q
/-- a comparison of ints -/
theorem bin_cmp {op : BOp} {g : Int → Int → Bool} (he : op ≠ .eq) (hn : op ≠ .ne) (hf : isFreshB op = false) (ho : ∀ a b, bop op a b = intsV (fun i j => some (.bl (g i j))) a b)
    (R : RS I fr ((ry, y) :: (rx, x) :: hs) F L s σ H) (P : Post I W fr hs σ Q (binR T cf op rx ry s)) : rI0 (fun i j => .bl (g i j)) x y H Q := by
  obtain ⟨i, j, h1, h2, _, q⟩ := bin_int (C := fun _ _ => True) (g := fun i j => .bl (g i j)) (gp := fun i j => .bl (g i j)) he hn hf ho (fun i j r e => ⟨trivial, (Option.some.inj e).symm⟩) (fun _ _ => rfl) R P
  exact ⟨i, j, h1, h2, q⟩
def rMulB : R2 := fun x y H Q => rI CMul (fun i j => .int (i * j)) x y H Q ∨ rRep x y H Q
theorem op_mulB {X : Cx} : OpR X (binaryOp .Mult) rMulB := op_mul.or op_rep
theorem bin_mul (R : RS I fr ((ry, y) :: (rx, x) :: hs) F L s σ H) (P : Post I W fr hs σ Q (binR T cf .mul rx ry s)) : rMulB x y H Q := by
  obtain ⟨cx, cy, res, sx, sy, e, R0, P⟩ := bin_open (by simp) (by simp) R P
  have e : mulV cx cy = some res := e
  have P : Post I W fr hs σ Q (.ok (fresh res) s) := P
  unfold mulV at e
  split at e
  · split at e
    · rename_i h
      cases e
      refine .inl ⟨_, _, sx, sy, ?_, P.val R0 rfl⟩
      unfold inside64 at h
      simp only [Bool.or_eq_true, Bool.and_eq_true, decide_eq_true_eq] at h
      exact h
    · cases e
  · split at e
    · rename_i h
      simp only [Bool.and_eq_true, decide_eq_true_eq] at h
      cases e
      obtain ⟨p, vs, e1, t1, r1⟩ := sx
      refine .inr ⟨p, _, vs, e1, sy, t1, h.1.1, h.1.2, ?_, fun p' n => P.new R0 n ⟨_, rfl, r1.rep _⟩⟩
      rw [← r1.length]
      exact sizeOk_le h.2
    · cases e
  · cases e
/-! ### ==, != of data -/
theorem dpS_min {cx cy : PV} (h : eqOk cx cy = true) : plain cx = true ∧ plain cy = true ∧ min (toD cx).depth (toD cy).depth ≤ 40 := by
  unfold eqOk at h
  simp only [Bool.and_eq_true, Bool.or_eq_true] at h
  refine ⟨h.1.1, h.1.2, ?_⟩
  rcases h.2 with q | q
  · exact Nat.le_trans (Nat.min_le_left _ _) (dep_toD _ _ q)
  · exact Nat.le_trans (Nat.min_le_right _ _) (dep_toD _ _ q)
theorem bin_eqD {cx cy : PV} (R : RS I fr hs F L s σ H) (sx : Shown I F L H cx x) (sy : Shown I F L H cy y) (h : eqOk cx cy = true) (q : Q (.bl (pvEq cx cy)) H) : rEqP I.K x y H Q := by
  obtain ⟨p1, p2, hm⟩ := dpS_min h
  exact ⟨_, _, R.dpS p1 sx, R.dpS p2 sy, canLay_toD _ p1, canLay_toD _ p2, hm, by rw [eqv_toD _ _ p1 p2]; exact q⟩
theorem bin_neD {cx cy : PV} (R : RS I fr hs F L s σ H) (sx : Shown I F L H cx x) (sy : Shown I F L H cy y) (h : eqOk cx cy = true) (q : Q (.bl (!pvEq cx cy)) H) : rNeP I.K x y H Q := by
  obtain ⟨p1, p2, hm⟩ := dpS_min h
  exact ⟨_, _, R.dpS p1 sx, R.dpS p2 sy, canLay_toD _ p1, canLay_toD _ p2, hm, by rw [eqv_toD _ _ p1 p2]; exact q⟩
theorem any_toD {d : PV} (pd : plain d = true) : ∀ {ys : List PV}, plainL ys = true → ((toDL ys).any fun z => PyData.eqv z (toD d)) = ys.any fun y => pvEq y d
  | [], _ => rfl
  | y :: ys, h => by
    rw [plainL, Bool.and_eq_true] at h
    show (PyData.eqv (toD y) (toD d) || (toDL ys).any _) = (pvEq y d || ys.any _)
    rw [eqv_toD y d h.1 pd, any_toD pd h.2]
/-! ### in -/
def keyOfV : PV → Key
  | .int i => .inl i
  | .str s => .inr s
  | _ => .inl 0
def rInB (K : PySem.W.Frag) (neg : Bool) : R2 := fun x y H Q => rInP K neg x y H Q
theorem dep_in {x : PV} {ys : List PV} (h : eqOk x (.tup ys) = true) : plain x = true ∧ plainL ys = true ∧ min (PyData.depthAll (toDL ys)) (toD x).depth ≤ 40 := by
  obtain ⟨p1, p2, hm⟩ := dpS_min h
  refine ⟨p1, p2, ?_⟩
  have : (toD (.tup ys)).depth = PyData.depthAll (toDL ys) + 1 := rfl
  rw [this] at hm
  omega
theorem bin_in {neg : Bool} {cx cy : PV} {b : Bool} (R : RS I fr hs F L s σ H) (sx : Shown I F L H cx x) (sy : Shown I F L H cy y) (e : inB cx cy = some b) (hd : ∀ kvs, cy ≠ .dct kvs) (q : Q (.bl (if neg then !b else b)) H) : rInP I.K neg x y H Q := by
  unfold inB at e
  split at e
  · split at e
    · rename_i ys h
      cases e
      obtain ⟨p1, p2, hm⟩ := dep_in h
      exact ⟨_, _, R.dpS p1 sx, .inr (R.dpS (c := .tup _) p2 sy), canLay_toD _ p1, canLay_toDL _ p2, hm, by rw [any_toD p1 p2]; exact q⟩
    · cases e
  · split at e
    · rename_i ys h
      cases e
      obtain ⟨p1, p2, hm⟩ := dep_in (x := cx) (by exact h)
      exact ⟨_, _, R.dpS p1 sx, .inl (R.dpS (c := .lst _) p2 sy), canLay_toD _ p1, canLay_toDL _ p2, hm, by rw [any_toD p1 p2]; exact q⟩
    · cases e
  · exact (hd _ rfl).elim
  · cases e
end
end Nr
end

section
set_option Elab.async false
set_option linter.all false
set_option maxRecDepth 100000
set_option maxHeartbeats 4000000
/-! E6: subscripts, dicts, methods that read. -/
namespace Nr
open PySem PySem.Spec PyProof.Rows L2

/-! ### keys -/
theorem kV_keyOf {k : PV} {kk : Key} {I : Inf} {F : Hp} {L : List Addr} {v : V} (h : keyOf k = some kk) (r : RepV I F L k v) : v = kV kk := by
  cases k with
  | int i => cases h; cases r; rfl
  | str s => cases h; cases r; rfl
  | _ => cases h
theorem shown_key {k : PV} {kk : Key} {I : Inf} {F : Hp} {L : List Addr} {H : Hp} {v : V} (h : keyOf k = some kk) (r : Shown I F L H k v) : v = kV kk := by
  cases k with
  | int i => cases h; cases r; rfl
  | str s => cases h; cases r; rfl
  | _ => cases h
theorem isKey_keyOf {k : PV} (h : isKey 0 k = true) : ∃ kk, keyOf k = some kk := by
  cases k with
  | int i => exact ⟨_, rfl⟩
  | str s => exact ⟨_, rfl⟩
  | _ => simp [isKey] at h
theorem pvEq_key {a k : PV} {ka kk : Key} (h1 : keyOf a = some ka) (h2 : keyOf k = some kk) : pvEq a k = decide (ka = kk) := by
  cases a with
  | int i =>
    cases h1
    cases k with
    | int j =>
      cases h2
      show (i == j) = _
      by_cases c : i = j
      · subst c; simp
      · have : ¬ (Sum.inl i : Key) = Sum.inl j := fun z => c (Sum.inl.inj z)
        rw [decide_eq_false this]; exact beq_eq_false_iff_ne.mpr c
    | str s => cases h2; simp [pvEq]
    | _ => cases h2
  | str s =>
    cases h1
    cases k with
    | int j => cases h2; simp [pvEq]
    | str z =>
      cases h2
      show (s == z) = _
      by_cases c : s = z
      · subst c; simp
      · have : ¬ (Sum.inr s : Key) = Sum.inr z := fun q => c (Sum.inr.inj q)
        rw [decide_eq_false this]; exact beq_eq_false_iff_ne.mpr c
    | _ => cases h2
  | _ => cases h1
section
variable {I : Inf} {F : Hp} {L : List Addr}
theorem RepD.get {k : PV} {kk : Key} (hk : keyOf k = some kk) : ∀ {kvs : List (PV × PV)} {ws : List (Key × V)}, RepD I F L kvs ws →
    match dctGet k kvs with
    | none => valV ws kk = none
    | some x => ∃ v, valV ws kk = some v ∧ RepV I F L x v
  | [], _, h => by cases h; exact rfl
  | (a, x) :: r, _, h => by
    obtain ⟨ka, v, ws, e, h0, h1, h2⟩ := h
    subst e
    have ih := RepD.get hk h2
    unfold dctGet
    rw [pvEq_key h0 hk]
    by_cases c : ka = kk
    · rw [decide_eq_true c, if_pos rfl]
      exact ⟨v, valV_pos c, h1⟩
    · rw [decide_eq_false c, if_neg (by simp), valV_neg c]
      exact ih
theorem RepD.length : ∀ {kvs : List (PV × PV)} {ws : List (Key × V)}, RepD I F L kvs ws → kvs.length = ws.length
  | [], _, h => by cases h; rfl
  | (a, x) :: r, _, h => by
    obtain ⟨ka, v, ws, e, h0, h1, h2⟩ := h
    subst e
    rw [List.length_cons, List.length_cons, RepD.length h2]
theorem RepD.any {k : PV} {kk : Key} (hk : keyOf k = some kk) : ∀ {kvs : List (PV × PV)} {ws : List (Key × V)}, RepD I F L kvs ws → (kvs.any fun p => pvEq p.1 k) = ws.any fun kv => decide (kv.1 = kk)
  | [], _, h => by cases h; rfl
  | (a, x) :: r, _, h => by
    obtain ⟨ka, v, ws, e, h0, h1, h2⟩ := h
    subst e
    rw [List.any_cons, List.any_cons, RepD.any hk h2]
    show (pvEq a k || _) = (decide (ka = kk) || _)
    rw [pvEq_key h0 hk]
theorem RepD.repl {k x : PV} {kk : Key} {v : V} (hk : keyOf k = some kk) (hx : RepV I F L x v) : ∀ {kvs : List (PV × PV)} {ws : List (Key × V)}, RepD I F L kvs ws →
    RepD I F L (kvs.map fun p => if pvEq p.1 k then (p.1, x) else p) (ws.map fun kv => if kv.1 = kk then (kv.1, v) else kv)
  | [], _, h => by cases h; rfl
  | (a, y) :: r, _, h => by
    obtain ⟨ka, u, ws, e, h0, h1, h2⟩ := h
    subst e
    have ih := RepD.repl hk hx h2
    rw [List.map_cons, List.map_cons]
    show RepD I F L ((if pvEq a k = true then (a, x) else (a, y)) :: _) ((if ka = kk then (ka, v) else (ka, u)) :: _)
    rw [pvEq_key h0 hk]
    by_cases c : ka = kk
    · rw [decide_eq_true c, if_pos rfl, if_pos c]
      exact ⟨ka, v, _, rfl, h0, hx, ih⟩
    · rw [decide_eq_false c, if_neg (by simp), if_neg c]
      exact ⟨ka, u, _, rfl, h0, h1, ih⟩
theorem RepD.snoc {k x : PV} {kk : Key} {v : V} (hk : keyOf k = some kk) (hx : RepV I F L x v) : ∀ {kvs : List (PV × PV)} {ws : List (Key × V)}, RepD I F L kvs ws → RepD I F L (kvs ++ [(k, x)]) (ws ++ [(kk, v)])
  | [], _, h => by cases h; exact ⟨kk, v, [], rfl, hk, hx, rfl⟩
  | (a, y) :: r, _, h => by
    obtain ⟨ka, u, ws, e, h0, h1, h2⟩ := h
    subst e
    exact ⟨ka, u, _, rfl, h0, h1, RepD.snoc hk hx h2⟩
theorem RepD.put {k x : PV} {kk : Key} {v : V} (hk : keyOf k = some kk) (hx : RepV I F L x v) {kvs : List (PV × PV)} {ws : List (Key × V)} (h : RepD I F L kvs ws) : RepD I F L (dctPut k x kvs) (putK ws kk v) := by
  unfold dctPut putK
  rw [RepD.any hk h]
  split
  · exact h.repl hk hx
  · exact h.snoc hk hx
theorem RepD.keys : ∀ {kvs : List (PV × PV)} {ws : List (Key × V)}, RepD I F L kvs ws → RepL I F L (kvs.map (·.1)) (ws.map fun kv => kV kv.1)
  | [], _, h => by cases h; rfl
  | (a, y) :: r, _, h => by
    obtain ⟨ka, u, ws, e, h0, h1, h2⟩ := h
    subst e
    refine ⟨kV ka, _, rfl, ?_, RepD.keys h2⟩
    cases a with
    | int i => cases h0; rfl
    | str s => cases h0; rfl
    | _ => cases h0
end

/-! ### a[i] -/
theorem atI_of {α : Type} {xs : List α} {i : Int} {k : Nat} {x : α} (h : ixOf xs.length i = some k) (g : xs[k]? = some x) : atI xs i = some x := by
  show (ixOf xs.length i).bind _ = _
  rw [h]; exact g
def rIxDk : R2 := fun x y H Q => ∃ a kvs k v, x = .ref a ∧ y = kV k ∧ Rd H a (.dK kvs) ∧ valV kvs k = some v ∧ Q v H
theorem ix_dk {X : Cx} (hu : X.A.units + 1 < cLine) : IxR X rIxDk := by
  intro value slice pins s σ H x y v u Q I rx ry h hs
  obtain ⟨a, kvs, k, r, rfl, rfl, hr, e, q⟩ := h
  obtain rfl : v = Value.ref a := rx
  have g : DGet H a (kV k) (some r) := .inl ⟨kvs, k, hr, rfl, e.symm⟩
  exact tail_any (dict_typeIs I g) slot_dict_getitem.lookup (d_getItem hu I g ry fun w' s3 I3 rw' => ⟨r, H, I3, rw', q⟩) hs
def rIdxB (K : PySem.W.Frag) : R2 := fun x y H Q => rIxL K x y H Q ∨ rIxT K x y H Q ∨ rIxDk x y H Q
theorem ix_B {X : Cx} (hu : X.A.units + 1 < cLine) : IxR X (rIdxB X.K) := ix_list.or (ix_tup.or (ix_dk hu))
section
variable {I : Inf} {W : WX} {fr : Frm} {hs : List (RV × V)} {F : Hp} {L : List Addr} {s : St} {σ : L2.St} {H : Hp} {Q : VK} {T : Tab} {cf : CallF} {rx ry : RV} {x y : V}
theorem bin_idx (R : RS I fr ((ry, y) :: (rx, x) :: hs) F L s σ H) (P : Post I W fr hs σ Q (binR T cf .idx rx ry s)) : rIdxB I.K x y H Q := by
  obtain ⟨cx, cy, res, sx, sy, e, R0, P⟩ := bin_open (by simp) (by simp) R P
  have e : idxV cx cy = some res := e
  have P : Post I W fr hs σ Q (.ok (.val res) s) := P
  unfold idxV at e
  split at e
  · -- tuple
    obtain ⟨a, vs, e1, t1, r1⟩ := sx
    obtain ⟨k, hk, e2⟩ := Option.bind_eq_some_iff.mp e
    obtain ⟨v, g1, g2⟩ := r1.get e2
    rw [r1.length] at hk
    exact .inr (.inl ⟨a, vs, _, v, e1, sy, (R.tupUp t1).sq, atI_of hk g1, P.val R0 g2⟩)
  · obtain ⟨a, vs, e1, t1, r1⟩ := sx
    obtain ⟨k, hk, e2⟩ := Option.bind_eq_some_iff.mp e
    obtain ⟨v, g1, g2⟩ := r1.get e2
    rw [r1.length] at hk
    exact .inl ⟨a, vs, _, v, e1, sy, .of t1, atI_of hk g1, P.val R0 g2⟩
  · obtain ⟨a, e1, t1⟩ := sx
    obtain ⟨z, hz, e2⟩ := Option.map_eq_some_iff.mp e
    obtain ⟨k, hk, e3⟩ := Option.bind_eq_some_iff.mp hz
    subst e2
    exact .inl ⟨a, _, _, .int z, e1, sy, R.sqlUp t1, atI_of (k := k) (by rw [List.length_map]; exact hk) (by rw [List.getElem?_map, e3]; rfl), P.val R0 rfl⟩
  · split at e
    · rename_i hkey
      obtain ⟨a, ws, e1, t1, r1⟩ := sx
      obtain ⟨kk, hkk⟩ := isKey_keyOf hkey
      have g := r1.get hkk
      rw [e] at g
      obtain ⟨v, g1, g2⟩ := g
      exact .inr (.inr ⟨a, ws, kk, v, e1, shown_key hkk sy, t1, g1, P.val R0 g2⟩)
    · cases e
  · cases e
end
end Nr
end

section
set_option Elab.async false
set_option linter.all false
set_option maxRecDepth 100000
set_option maxHeartbeats 4000000
/-! E7: index, count, dict in. -/
namespace Nr
open PySem PySem.Spec PyProof.Rows L2

def rIndexP (K : PySem.W.Frag) (tup : Bool) : V → List V → Hp → VK → Prop := fun x xs H Q => ∃ (a : Addr) (y : V) (d : PyData) (ds : List PyData) (vs : List V) (j : Nat) (z : PyData), x = V.ref a ∧ xs = [y] ∧
  (if tup then TupAt K H a vs else SqL K H a vs) ∧ DpAll K H vs ds ∧ Dp K H y d ∧
  PyData.canLayAll0 ds = true ∧ d.canLay0 = true ∧ min (PyData.depthAll ds) d.depth ≤ 40 ∧ ds[j]? = some z ∧ PyData.eqv z d = true ∧ (∀ (m : Nat) (z' : PyData), m < j → ds[m]? = some z' → PyData.eqv z' d = false) ∧ Q (.int (j : Nat)) H
theorem index_core {X : Cx} {H : Hp} {s : Shared} {pins : List (Addr × Obj)} {σ : L2.St} {vs : List V} {ds : List PyData} {its : List Value} {y : V} {uy : Value} {d : PyData} {j : Nat} {z : PyData} (I : Inv X pins σ H s) (ha : DpAll X.K H vs ds) (rv : Vals vs its) (hy : Dp X.K H y d) (ry : RelV y uy)
    (hxs : PyData.canLayAll0 ds = true) (hd : d.canLay0 = true) (hroom : X.A.units + 1 + min (PyData.depthAll ds) d.depth < cLine) (hz : ds[j]? = some z) (hzj : PyData.eqv z d = true) (hno : ∀ (m : Nat) (z' : PyData), m < j → ds[m]? = some z' → PyData.eqv z' d = false) :
    ∃ hj : j < its.toArray.size, (PyData.eqv (SeqAt.readOf s.heap its.toArray[j]) d = true) ∧ (∀ m (hm : m < its.toArray.size), m < j → PyData.eqv (SeqAt.readOf s.heap its.toArray[m]) d = false) ∧
      ∀ y, y ∈ its.toArray → SeqAt.EqAt X.A.in1 s y uy (PyData.eqv (SeqAt.readOf s.heap y) d) := by
  obtain ⟨bs, r1⟩ := Dp.reads I d y uy hy ry
  obtain ⟨as, h4⟩ := Dp.readsAll I ds _ its ha rv
  have hn : its.length = ds.length := SeqAt.ReadsAll.length ds its as h4
  have hmap : its.map (SeqAt.readOf s.heap) = ds := SeqAt.readsAll_map ds its as hxs h4
  obtain ⟨hjd, _⟩ := List.getElem?_eq_some_iff.mp hz
  have hjl : j < its.length := by omega
  have hj : j < its.toArray.size := by simpa using hjl
  have at_ : ∀ (m : Nat) (hm : m < its.toArray.size) (z' : PyData), ds[m]? = some z' → SeqAt.readOf s.heap its.toArray[m] = z' := by
    intro m hm z' hz'
    have hml : m < its.length := by simpa using hm
    rw [← hmap, List.getElem?_map, List.getElem?_eq_getElem hml] at hz'
    have e1 : SeqAt.readOf s.heap its[m] = z' := Option.some.inj (show some (SeqAt.readOf s.heap its[m]) = some z' from hz')
    simpa using e1
  refine ⟨hj, ?_, fun m hm hmj => ?_, SeqAt.items_eqAt (vs := its.toArray) (show ReadsAll s.heap its.toArray.toList ds as from h4) r1 hxs hd hroom⟩
  · rw [at_ j hj z hz]; exact hzj
  · have hmd : m < ds.length := by omega
    have hz' : ds[m]? = some ds[m] := List.getElem?_eq_getElem hmd
    rw [at_ m hm _ hz']
    exact hno m _ hmj hz'
theorem mt_indexL {X : Cx} (hu : X.A.units + 64 < cLine) : MtR X "list.index" (rIndexP X.K false) := by
  intro pins s σ H x xs v us Q I rx rxs h
  obtain ⟨a, y, d, ds, vs, j, z, rfl, rfl, hs, hl, hy, sl, sd, hm, hz, hzj, hno, q⟩ := h
  cases rx
  cases rxs with
  | cons ry rt =>
    rename_i uy ut
    cases rt
    obtain ⟨its, rv, ⟨⟨cls, dd, data, sls⟩, n, ho, hc, hdn, hdt⟩, hlen⟩ := I.list hs
    simp only at hc hdt
    subst hc hdt
    obtain ⟨hj, h1, h2, h3⟩ := index_core I hl rv hy ry sl sd (by omega) hz hzj hno
    have hvl := rv.length
    have hsl := sizeLine_eq
    have hj' : j < its.length := by simpa using hj
    exact call_meets PySem.F.slot_list_index ⟨_, ho, rfl⟩ PySem.F.entry_list_index (PySem.F.args_list_index_2 _ _)
        (SeqAt.list_indexAt a its.toArray n dd sls uy (fun u => PyData.eqv (SeqAt.readOf s.heap u) d) j hj (by omega) h1 h2) ⟨ho, h3, ⟨.int (j : Nat), H, I.tok _, ⟨_, rfl⟩, q⟩⟩
theorem mt_indexT {X : Cx} (hu : X.A.units + 64 < cLine) : MtR X "tuple.index" (rIndexP X.K true) := by
  intro pins s σ H x xs v us Q I rx rxs h
  obtain ⟨a, y, d, ds, vs, j, z, rfl, rfl, hs, hl, hy, sl, sd, hm, hz, hzj, hno, q⟩ := h
  cases rx
  cases rxs with
  | cons ry rt =>
    rename_i uy ut
    cases rt
    obtain ⟨its, rv, ⟨⟨cls, dd, data, sls⟩, ho, hc, n, hdt⟩, hlen⟩ := I.tuple (TupAt.sq hs)
    simp only at hc hdt
    subst hc hdt
    obtain ⟨hj, h1, h2, h3⟩ := index_core I hl rv hy ry sl sd (by omega) hz hzj hno
    exact call_meets PySem.F.slot_tuple_index ⟨_, ho, rfl⟩ PySem.F.entry_tuple_index (PySem.F.args_tuple_index_2 _ _)
        (TI.tuple_indexAt a its.toArray n dd sls uy (fun u => PyData.eqv (SeqAt.readOf s.heap u) d) j hj h1 h2) ⟨ho, h3, ⟨.int (j : Nat), H, I.tok _, ⟨_, rfl⟩, q⟩⟩
/-! ### o.m(..), o a list or a tuple -/
/-- what o is: (type, the method's id, what it does) -/
structure MtAlt (X : Cx) (name : Str) where
  T : String
  id : String
  pa : PlainAttrs T
  slot : PySem.Slot T name id
  hty : typeOf (.builtin id) = pure (.type "method_descriptor")
  ty : V → Hp → Prop
  tyOk : ∀ {pins σ H s x v}, Inv X pins σ H s → RelV x v → ty x H → s.TypeIs v T ∧ ∀ a, v = .ref a → ∃ ob, s.heap.get? a = some ob ∧ ob.dict = none
  r : V → List V → Hp → VK → Prop
  hm : MtR X id r
def tBMs {X : Cx} {name : Str} (as : List (MtAlt X name)) (to : TE) (t : TA) : TE := fun σ H Q => to σ H fun x H1 => ∃ a ∈ as, a.ty x H1 ∧ t σ H1 fun xs H2 => a.r x xs H2 Q
theorem pe_bms {X : Cx} {o e : Expr} {es : List Expr} {to : TE} {t : TA} {name : Str} {apos cpos : Pos} {as : List (MtAlt X name)} (ho : PE X o to) (ha : PA X (e :: es) t)
    (hbase : attributeBase o name X.env (eval o X.env) = eval o X.env)
    (hfew : ((backTo cpos (starEach (e :: es) X.env)).all (fun x => !x.1) && (backToKw cpos (keywordEach [] X.env)).all (fun x => x.1.isSome)
      && decide ((e :: es).length + ([] : List Keyword).length + (if ([] : List Keyword).isEmpty then 0 else 1) < 30)) = true)
    (hline : (apos.endLine == cpos.line) = true) (hs : starEach (e :: es) X.env = (false, eval e X.env) :: starEach es X.env) (hplain : (backTo cpos (starEach es X.env)).any (·.1) = false) :
    PE X (.Call (.Attribute o name apos) (e :: es) [] cpos) (tBMs as to t) := by
  refine ⟨fun pins s σ H Q I h => ?_⟩
  refine wpAny_Call_method_late hbase hfew hline rfl (thn (ho.run pins s σ H _ I h) fun v s1 ⟨x, H1, I1, r1, a, _, ty, q1⟩ => ?_)
  obtain ⟨h1, h2⟩ := a.tyOk I1 r1 ty
  refine ⟨a.T, a.id, a.pa, a.slot, a.hty, h1, h2, ?_⟩
  have hA := ha.run cpos pins s1 σ H1 _ I1 q1
  rw [hs] at hA ⊢
  refine Calls.callWith_builtin (by show (false || (backTo cpos (starEach es X.env)).any (·.1)) = false; rw [hplain] <;> rfl) (Calls.evalArgs_plain ?_)
  exact thn hA fun us s2 ⟨vs, H2, I2, r2, q2⟩ => a.hm pins s2 σ H2 x vs v us Q I2 r1 r2 q2
theorem pe_bms0 {X : Cx} {o : Expr} {to : TE} {name : Str} {apos cpos : Pos} {as : List (MtAlt X name)} (ho : PE X o to)
    (hbase : attributeBase o name X.env (eval o X.env) = eval o X.env) (hline : (apos.endLine == cpos.line) = true) : PE X (.Call (.Attribute o name apos) [] [] cpos) (tBMs as to fun _ H Q => Q [] H) := by
  refine ⟨fun pins s σ H Q I h => ?_⟩
  refine wpAny_Call_method0_late hbase hline (thn (ho.run pins s σ H _ I h) fun v s1 ⟨x, H1, I1, r1, a, _, ty, q1⟩ => ?_)
  obtain ⟨h1, h2⟩ := a.tyOk I1 r1 ty
  exact ⟨a.T, a.id, a.pa, a.slot, a.hty, h1, h2, Calls.callWith_builtin rfl (PySem.evalArgs_none (a.hm pins s1 σ H1 x [] v [] Q I1 r1 .nil q1))⟩
theorem tupAt_ty {X : Cx} {pins : List (Addr × Obj)} {σ : L2.St} {H : Hp} {s : Shared} {x : V} {v : Value} (I : Inv X pins σ H s) (rx : RelV x v) (t : ∃ p vs, x = .ref p ∧ TupAt X.K H p vs) :
    s.TypeIs v "tuple" ∧ ∀ a, v = .ref a → ∃ ob, s.heap.get? a = some ob ∧ ob.dict = none := by
  obtain ⟨p, vs, rfl, t⟩ := t
  cases rx
  rcases t with ⟨o, e, d⟩ | ⟨o, its, n, e, d, c, _⟩
  · have q := I.hok p _ e
    obtain ⟨q1, _, us, r, q3⟩ := q
    obtain ⟨o', h1, h2, _⟩ := id q3
    have : o' = o := by
      rw [q1] at h1
      exact (Option.some.inj h1).symm
    subst this
    exact ⟨⟨o', h1, h2⟩, fun a z => by cases z; exact ⟨o', h1, d⟩⟩
  · exact ⟨⟨o, I.kIn p o e, c⟩, fun a z => by cases z; exact ⟨o, I.kIn p o e, d⟩⟩
end Nr
end

section
set_option Elab.async false
set_option linter.all false
set_option maxRecDepth 100000
set_option maxHeartbeats 4000000
/-! E8: sorted, min, max, sum of lists and tuples. -/
namespace Nr
open PySem PySem.Spec PyProof.Rows L2 PySem.W PySem.Calls

section
variable {prog : Program} {w : World} {A : Around} {E : Value → Shared → Prop} {s : Shared}
theorem collect_tup {l : Addr} {vs : List Value} {Q : List Value → Shared → Prop} (hl : IsTup s.heap l vs.toArray)
    (h : Q vs { s with heap := (s.heap.push (seqObj "list" #[] 0)).update s.heap.objs.size (Obj.mapSeq (· ++ vs.toArray)) }) (hsz : vs.length ≤ sizeLine) :
    wpAny (model prog w) A (collect (.ref l)) Q E s := by
  obtain ⟨o, ho, hc, n, hd⟩ := id hl
  unfold collect
  refine wpAny_bind (wpAny_runValue (codeAny_builtin entry_proto_collect' ?_))
  show wpAny _ _ (do again (.builtin "list.__iadd__" ⟨[← newList [], .ref l], []⟩)) _ _ s
  refine wpAny_bind (wpAny_newList (wpAny_pure ⟨Code.quiet_builtin _ (by decide +kernel), codeAny_builtin entry_list_iadd' ?_⟩))
  show wpAny _ _ (Builtin.List.listExtendWith (.ref s.heap.objs.size) (.ref l) (.ref s.heap.objs.size)) _ _ { s with heap := s.heap.push (seqObj "list" #[] 0) }
  unfold Builtin.List.listExtendWith
  have ho' : (s.heap.push (seqObj "list" #[] 0)).get? l = some o := Heap.get?_push_of_some _ ho
  refine wpAny_bind (wpAny_typeOf (T := "tuple") ⟨o, ho', hc⟩ ?_)
  have ht : (Value.type "tuple" == Value.type "tuple") = true := by rfl
  rw [if_pos (by rw [ht]; simp)]
  refine wpAny_bind (listItems_at ho' hd ?_)
  refine wpAny_bind (listItems_at (xs := #[]) (n := 0) (Heap.get?_push_size _ rfl) rfl ?_)
  rw [if_neg (by simp)]
  refine wpAny_bind (listUpdate_at (xs := #[]) (n := 0) (Heap.get?_push_size _ rfl) rfl ?_ (Nat.zero_le _) (by show (#[] ++ vs.toArray).size ≤ sizeLine + 1; simp only [Array.size_append, List.size_toArray, List.length_nil]; omega))
  refine wpAny_pure ?_
  show wpAny (model prog w) A (do
      let o ← load s.heap.objs.size
      match o.data with
      | .seq xs _ => pure xs.toList
      | _ => unsupported "internal:collect") Q E { s with heap := (s.heap.push (seqObj "list" #[] 0)).update s.heap.objs.size (Obj.mapSeq (· ++ vs.toArray)) }
  refine wpAny_bind (wpAny_load (get?_update_seq (Heap.get?_push_size _ rfl) _) ?_)
  show wpAny _ _ (pure ((#[] : Array Value) ++ vs.toArray).toList) Q E _
  rw [show ((#[] : Array Value) ++ vs.toArray).toList = vs by simp]
  exact wpAny_pure h
theorem sorted_of_sortT {l : Addr} {vs : List Value} {kw : List (Str × Value)} {Q : Value → Shared → Prop} (hl : IsTup s.heap l vs.toArray) (hL : vs.length ≤ sizeLine) (ha1 : argsOk "sorted" ⟨[.ref l], kw⟩) (ha2 : ∀ x, argsOk "list.sort" ⟨[.ref x], kw⟩)
    (body : ∀ E' : Value → Shared → Prop, wpAny (model prog w) A.in1.in1 (Builtin.«list.sort» ⟨[.ref (s.heap.objs.size + 1)], kw⟩) (fun f s' => f = .done (.ret .none) ∧ Q (.ref (s.heap.objs.size + 1)) s') E' { s with heap := copyHeap s.heap vs }) :
    wpAny (model prog w) A (call (.builtin "sorted") [.ref l] kw) Q E s := by
  refine call_function_entry_kw kind_sorted plain_sorted entry_sorted ha1 ?_
  unfold Builtin.«sorted»
  refine wpAny_bind (m := checkCount "sorted" 1 1 _) (wpAny_pure ?_)
  refine wpAny_bind (collect_tup hl ?_ hL)
  refine wpAny_bind (wpAny_newList ?_ hL)
  have hsz : ((s.heap.push (seqObj "list" #[] 0)).update s.heap.objs.size (Obj.mapSeq (· ++ vs.toArray))).objs.size = s.heap.objs.size + 1 := by
    rw [Heap.size_update, size_push']
  show wpAny _ _ _ _ _ { s with heap := copyHeap s.heap vs }
  rw [hsz]
  refine wpAny_bind (wpAny_holding (wpAny_call_entry_kw slot_list_sort ⟨_, copyHeap_at s.heap vs, rfl⟩ entry_list_sort ?body (ha2 _)))
  case body =>
    show wpAny (model prog w) A.in1.in1 (Builtin.«list.sort» ⟨[.ref (s.heap.objs.size + 1)], kw⟩) _ _ _
    refine wpAny_mono (body _) (fun f s' hf => ?_) fun _ _ e => e
    obtain ⟨rfl, hq⟩ := hf
    exact ⟨_, rfl, wpAny_pure ⟨_, rfl, hq⟩⟩
theorem sorted_dataT {β : Type} {vs : List Value} {bs : List β} {enc : β → PyData} {R : Value → β → Prop} {l : Addr} {Q : Value → Shared → Prop} (hl : s.heap.IsList l vs.toArray ∨ IsTup s.heap l vs.toArray) (e : EachIs R vs bs) (er : EachIs (fun v b => ∃ as, Reads s.heap v (enc b) as) vs bs) (hal : AllAlike (bs.map enc)) (hk : Sortable (bs.map enc)) (hL : bs.length ≤ sizeLine)
    (hu : ∀ b, b ∈ bs → A.units + 2 + (enc b).depth < cLine) (h : ∀ out, out.length = bs.length → EachIs R out (bs.mergeSort (dataLe false enc)) → Q (.ref (s.heap.objs.size + 1)) { s with heap := sortedAll s.heap vs (List.toArray out) }) :
    wpAny (model prog w) A (call (.builtin "sorted") [.ref l]) Q E s := by
  rcases hl with hl | hl
  · exact sorted_data hl e er hal hk hL hu h
  have er' : EachIs (fun v b => ∃ as, Reads (sortingHeap (copyHeap s.heap vs) (s.heap.objs.size + 1) vs) v (enc b) as) vs bs := er.mono fun _ _ ⟨as, r⟩ => ⟨as, PyProof.Rows.Reads.keeps (fun _ _ => sorting_copy_old) r⟩
  have S := SortsAt.data (prog := prog) (w := w) (A := A.in1.in1) (s := { s with heap := sortingHeap (copyHeap s.heap vs) (s.heap.objs.size + 1) vs }) (each_map (R := fun v d => ∃ as, Reads (sortingHeap (copyHeap s.heap vs) (s.heap.objs.size + 1) vs) v d as) enc er') hal hk (bound_map hu)
  have hL' : vs.length ≤ sizeLine := by rw [e.length]; exact hL
  exact sorted_of_sortT hl hL' (args_sorted1 _) (fun _ => args_list_sort _) fun _ => list_sort_vals (s := { s with heap := copyHeap s.heap vs }) (copyHeap_at s.heap vs) S hL' ⟨rfl, h _ (by rw [sortVals_length false rfl]; exact e.length) (sortVals_data false e er' hal)⟩
end
end Nr
end

section
set_option Elab.async false
set_option linter.all false
set_option maxRecDepth 100000
set_option maxHeartbeats 4000000
/-! E9: rules for sorted, sum, min, max. -/
namespace Nr
open PySem PySem.Spec PyProof.Rows L2 PySem.W PySem.Calls

theorem each_vals : ∀ {ps : List (PyData × V)} {us : List Value}, Vals (ps.map (·.2)) us → EachIs (fun v (b : PyData × V) => RelV b.2 v) us ps
  | [], _, .nil => .nil
  | p :: ps, _, .cons r t => .cons r (each_vals t)
theorem vals_each : ∀ {ps : List (PyData × V)} {us : List Value}, EachIs (fun v (b : PyData × V) => RelV b.2 v) us ps → Vals (ps.map (·.2)) us
  | [], _, .nil => .nil
  | p :: ps, _, .cons r t => .cons r (vals_each t)
theorem each_reads {X : Cx} {pins : List (Addr × Obj)} {σ : L2.St} {H : Hp} {s : Shared} (I : Inv X pins σ H s) : ∀ {ps : List (PyData × V)} {us : List Value}, DpAll X.K H (ps.map (·.2)) (ps.map (·.1)) → Vals (ps.map (·.2)) us →
    EachIs (fun v (b : PyData × V) => ∃ as, Reads s.heap v b.1 as) us ps
  | [], _, _, .nil => .nil
  | p :: ps, _, d, .cons r t => by
    cases d with
    | cons d1 d2 => exact .cons (Dp.reads I _ _ _ d1 r) (each_reads I d2 t)
def rSortB (K : PySem.W.Frag) : List V → Hp → VK → Prop := fun vs H Q => ∃ (a : Addr) (ps : List (PyData × V)), vs = [V.ref a] ∧ (SqL K H a (ps.map (·.2)) ∨ SqT K H a (ps.map (·.2))) ∧ DpAll K H (ps.map (·.2)) (ps.map (·.1)) ∧
  AllAlike (ps.map (·.1)) ∧ Sortable (ps.map (·.1)) ∧ (∀ p, p ∈ ps → p.1.depth ≤ 30) ∧
  ∀ p, H p = none → Q (.ref p) (upd H p (.lst ((ps.mergeSort (dataLe false (·.1))).map (·.2))))
theorem cr_sortB {X : Cx} (hu : X.A.units + 64 < cLine) : CallR X (.builtin "sorted") (rSortB X.K) := by
  intro pins s σ H vs us Q I r h
  obtain ⟨a, ps, rfl, hs, hd, hal, hk, hdep, q⟩ := h
  obtain ⟨u, rfl, rx⟩ := vals1 r
  cases rx
  have key : ∀ (its : List Value), Vals (ps.map (·.2)) its → (s.heap.IsList a its.toArray ∨ IsTup s.heap a its.toArray) → (ps.map (·.2)).length ≤ sizeLine → wpAny (model X.prog X.w) X.A (call (.builtin "sorted") [.ref a]) (EP X pins σ Q) X.xe s := by
    intro its rv pl hz
    rw [List.length_map] at hz
    refine sorted_dataT (enc := (·.1)) pl (each_vals rv) (each_reads I hd rv) hal hk hz (fun b hb => by have := hdep b hb; omega) fun out ho eo => ?_
    obtain ⟨ep, he'⟩ := PyProof.Rows.sortedAll_at s.heap its out.toArray
    have hlen : ((ps.mergeSort (dataLe false (·.1))).map (·.2)).length ≤ sizeLine := by rw [List.length_map, List.length_mergeSort]; exact hz
    exact ⟨.ref _, upd H (s.heap.objs.size + 1) (.lst _), I.laid (t' := s.toks) (fun _ _ => PyProof.Rows.sortedAll_old) (Nat.le_succ _) ⟨hlen, out, ep, vals_each eo, he'⟩, rfl, q _ (I.hok.fresh (Nat.le_succ _))⟩
  rcases hs with hs | hs
  · obtain ⟨its, rv, pl, hz⟩ := I.list hs
    exact key its rv (.inl pl.isList) hz
  · obtain ⟨its, rv, pl, hz⟩ := I.tuple hs
    exact key its rv (.inr pl) hz
section
variable {prog : Program} {w : World} {A : Around} {E : Value → Shared → Prop} {s : Shared}
theorem sum_tup {l : Addr} {xs : Array (Int × Nat)} {Q : Value → Shared → Prop} (hh : A.handled = none) (hl : s.heap.IsTuple l (intItems xs))
    (h : ∀ h' tk t', (∀ b o, s.heap.get? b = some o → h'.get? b = some o) → Q (.int (preSum (numAt xs) xs.size) t') { s with heap := h', toks := tk }) :
    wpAny (model prog w) A (call (.builtin "sum") [.ref l]) Q E s := by
  have hlt : l < s.heap.objs.size := by obtain ⟨_, e, _⟩ := hl; exact Heap.lt_size e
  refine call_sum_walkG (wpAny_pyIter_tuple hl ?_)
  refine ⟨_, _, _, _, _, _, numAt xs, rfl, Walks.tuple (A := A.in1) hh _ l (Nat.ne_of_lt hlt) (intItems xs), ⟨⟨_, Heap.get?_push_size _ rfl, rfl, rfl⟩, hl.push _⟩, (fun b hb => ?_), (fun _ _ => intItems_at), fun h' tk t' hk => ?_⟩
  · show b < (s.heap.push _).objs.size
    rw [Heap.size_push]
    rcases List.mem_cons.mp hb with rfl | hb
    · exact Nat.lt_succ_self _
    · rcases List.mem_cons.mp hb with rfl | hb
      · exact Nat.lt_succ_of_lt hlt
      · cases hb
  · have := h h' tk t' fun b o e => hk b o (fun hm => by
      rcases List.mem_cons.mp hm with e1 | hm
      · exact absurd (e1 ▸ Heap.lt_size e) (Nat.lt_irrefl _)
      · cases hm) (Heap.get?_push_of_some _ e)
    simpa [intItems] using this
end
def rSumB (K : PySem.W.Frag) : List V → Hp → VK → Prop := fun vs H Q => ∃ (a : Addr) (ns : List Int), vs = [V.ref a] ∧ (SqL K H a (ns.map V.int) ∨ SqT K H a (ns.map V.int)) ∧ Q (.int ns.sum) H
theorem cr_sumB {X : Cx} (hc : X.calm = true) : CallR X (.builtin "sum") (rSumB X.K) := by
  intro pins s σ H vs us Q I r h
  obtain ⟨a, ns, rfl, hs | hs, q⟩ := h
  · exact cr_sum hc pins s σ H _ us Q I r ⟨a, ns, rfl, hs, q⟩
  · obtain ⟨its, rv, hl, _⟩ := I.tuple hs
    rw [Vals.ref1 r]
    have hi := rv.ints
    obtain ⟨xs, e⟩ := hi.allInts.items
    have hn : numsOf (intItems xs).toList = ns := by rw [← e]; exact hi.numsOf
    rw [nums_intItems] at hn
    have hl' : s.heap.IsTuple a (intItems xs) := by rw [← e]; exact hl
    refine sum_tup (I.ok.hd hc) hl' fun h' tk t' hk => ?_
    rw [preSum_eq, List.take_of_length_le (by simp), hn]
    exact ⟨.int _, H, I.kept hk, ⟨_, rfl⟩, q⟩
/-! ### min, max -/
def rBestB (K : PySem.W.Frag) (best : PyData → List PyData → PyData) : List V → Hp → VK → Prop := fun vs H Q => ∃ (a : Addr) (xs : List V) (d : PyData) (ds : List PyData), vs = [V.ref a] ∧ (SqL K H a xs ∨ SqT K H a xs) ∧ DpAll K H xs (d :: ds) ∧
  AlikeAll (d :: ds) ∧ PyData.depthAll (d :: ds) ≤ 30 ∧ PyData.canLayAll0 (d :: ds) = true ∧ ∀ (i : Nat) (x : V) (e : PyData), xs[i]? = some x → (d :: ds)[i]? = some e → e = best d ds → Q x H
theorem reads_at {h : Heap} : ∀ {us : List Value} {ds : List PyData} {as : List Addr} {i : Nat} {u : Value}, ReadsAll h us ds as → us[i]? = some u → ∃ d bs, ds[i]? = some d ∧ Reads h u d bs
  | _, _, _, _, _, .nil, e => by simp at e
  | _, _, _, 0, _, .cons r _, e => by cases e; exact ⟨_, _, rfl, r⟩
  | _, _, _, i + 1, _, .cons _ t, e => by
    obtain ⟨d, bs, h1, h2⟩ := reads_at t (i := i) (by simpa using e)
    exact ⟨d, bs, by simpa using h1, h2⟩
theorem vals_at : ∀ {xs : List V} {us : List Value} {i : Nat} {u : Value}, Vals xs us → us[i]? = some u → ∃ x, xs[i]? = some x ∧ RelV x u
  | _, _, _, _, .nil, e => by simp at e
  | _, _, 0, _, .cons r _, e => by cases e; exact ⟨_, rfl, r⟩
  | _, _, i + 1, _, .cons _ t, e => by
    obtain ⟨x, h1, h2⟩ := vals_at t (i := i) (by simpa using e)
    exact ⟨x, by simpa using h1, h2⟩
theorem canLay_at : ∀ {ds : List PyData} {i : Nat} {d : PyData}, PyData.canLayAll0 ds = true → ds[i]? = some d → d.canLay0 = true
  | [], _, _, _, e => by simp at e
  | x :: ds, 0, _, h, e => by
    cases e
    have h : (PyData.canLay0 x && PyData.canLayAll0 ds) = true := h
    rw [Bool.and_eq_true] at h; exact h.1
  | x :: ds, i + 1, _, h, e => by
    have h : (PyData.canLay0 x && PyData.canLayAll0 ds) = true := h
    rw [Bool.and_eq_true] at h
    exact canLay_at (i := i) h.2 (by simpa using e)
theorem best_done {X : Cx} {pins : List (Addr × Obj)} {σ : L2.St} {H : Hp} {s : Shared} {Q : VK} {xs : List V} {its : List Value} {ds : List PyData} {m : PyData} {as : List Addr} (I : Inv X pins σ H s) (rv : Vals xs its) (hl : PyData.canLayAll0 ds = true) (hr : ReadsAll s.heap its ds as)
    (q : ∀ (i : Nat) (x : V) (e : PyData), xs[i]? = some x → ds[i]? = some e → e = m → Q x H) {i : Nat} {v : Value} {h' : Heap} {tk : Nat} {bs : List Addr} (hv : its.toArray[i]? = some v) (hm : Reads h' v m bs) (hk : ∀ b o, s.heap.get? b = some o → h'.get? b = some o) :
    EP X pins σ Q v { s with heap := h', toks := tk } := by
  have hv : its[i]? = some v := by simpa using hv
  obtain ⟨x, h1, h2⟩ := vals_at rv hv
  obtain ⟨d, cs, h3, h4⟩ := reads_at hr hv
  have h5 : Reads h' v d cs := reads_keeps hk h4
  exact ⟨x, H, I.kept hk, h2, q i x d h1 h3 (PySem.SeqAt.Reads.unique d m v cs bs (canLay_at hl h3) h5 hm)⟩
theorem cr_minB {X : Cx} (hc : X.calm = true) (hu : X.A.units + 64 < cLine) : CallR X (.builtin "min") (rBestB X.K minD) := by
  intro pins s σ H vs us Q I r h
  obtain ⟨a, xs, d, ds, rfl, hs, hd, hal, hdep, hlay, q⟩ := h
  rw [Vals.ref1 r]
  rcases hs with hs | hs
  · obtain ⟨its, rv, pl, hz⟩ := I.list hs
    obtain ⟨as, hr⟩ := Dp.readsAll I _ _ its hd rv
    exact min_list_data (I.ok.hd hc) pl.isList hr hal (by omega) fun i v h' tk bs hv hm hk => best_done I rv hlay hr q hv hm hk
  · obtain ⟨its, rv, pl, hz⟩ := I.tuple hs
    obtain ⟨as, hr⟩ := Dp.readsAll I _ _ its hd rv
    exact min_tuple_data (I.ok.hd hc) pl hr hal (by omega) fun i v h' tk bs hv hm hk => best_done I rv hlay hr q hv hm hk
theorem cr_maxB {X : Cx} (hc : X.calm = true) (hu : X.A.units + 64 < cLine) : CallR X (.builtin "max") (rBestB X.K maxD) := by
  intro pins s σ H vs us Q I r h
  obtain ⟨a, xs, d, ds, rfl, hs, hd, hal, hdep, hlay, q⟩ := h
  rw [Vals.ref1 r]
  rcases hs with hs | hs
  · obtain ⟨its, rv, pl, hz⟩ := I.list hs
    obtain ⟨as, hr⟩ := Dp.readsAll I _ _ its hd rv
    exact max_list_data (I.ok.hd hc) pl.isList hr hal (by omega) fun i v h' tk bs hv hm hk => best_done I rv hlay hr q hv hm hk
  · obtain ⟨its, rv, pl, hz⟩ := I.tuple hs
    obtain ⟨as, hr⟩ := Dp.readsAll I _ _ its hd rv
    exact max_tuple_data (I.ok.hd hc) pl hr hal (by omega) fun i v h' tk bs hv hm hk => best_done I rv hlay hr q hv hm hk
end Nr
end

section
set_option Elab.async false
set_option linter.all false
set_option maxRecDepth 100000
set_option maxHeartbeats 4000000
/-! E10: what the evaluator does at a unary operation is what the rule asks. -/
namespace Nr
open PySem PySem.Spec PyProof.Rows L2 PySem.W

theorem sizeLine_of {n : Nat} (h : n ≤ 16777216) : n ≤ sizeLine := by rw [sizeLine_eq]; exact h
mutual
theorem toD_inj : ∀ (x y : PV), plain x = true → plain y = true → toD x = toD y → x = y
  | .non, y, _, h, e => by cases y <;> first | rfl | (simp [toD] at e; done) | exact absurd h (by simp [plain])
  | .bl a, y, _, h, e => by cases y <;> first | (simp [toD] at e; subst e; rfl) | (simp [toD] at e; done) | exact absurd h (by simp [plain])
  | .int i, y, _, h, e => by cases y <;> first | (simp [toD] at e; subst e; rfl) | (simp [toD] at e; done) | exact absurd h (by simp [plain])
  | .str s, y, _, h, e => by cases y <;> first | (simp [toD] at e; subst e; rfl) | (simp [toD] at e; done) | exact absurd h (by simp [plain])
  | .tup xs, y, hx, h, e => by
    cases y with
    | tup ys => rw [toDL_inj xs ys hx h (by simpa [toD] using e)]
    | _ => first | (simp [toD] at e; done) | exact absurd h (by simp [plain])
  | .lst xs, y, hx, h, e => by
    cases y with
    | lst ys => rw [toDL_inj xs ys hx h (by simpa [toD] using e)]
    | _ => first | (simp [toD] at e; done) | exact absurd h (by simp [plain])
  | .dct _, _, h, _, _ => absurd h (by simp [plain])
  | .obj _ _, _, h, _, _ => absurd h (by simp [plain])
  | .loc _, _, h, _, _ => absurd h (by simp [plain])
  | .fn _, _, h, _, _ => absurd h (by simp [plain])
  | .err _ _, _, h, _, _ => absurd h (by simp [plain])
  | .scr _, _, h, _, _ => absurd h (by simp [plain])
theorem toDL_inj : ∀ (xs ys : List PV), plainL xs = true → plainL ys = true → toDL xs = toDL ys → xs = ys
  | [], [], _, _, _ => rfl
  | [], _ :: _, _, _, e => by simp [toDL] at e
  | _ :: _, [], _, _, e => by simp [toDL] at e
  | x :: xs, y :: ys, h1, h2, e => by
    rw [plainL, Bool.and_eq_true] at h1 h2
    rw [toDL, toDL] at e
    injection e with e1 e2
    rw [toD_inj x y h1.1 h2.1 e1, toDL_inj xs ys h1.2 h2.2 e2]
end
section
variable {I : Inf} {F : Hp} {L : List Addr}
/-- elements of a sequence -/
theorem shown_elems {H : Hp} {fr : Frm} {hs : List (RV × V)} {s : St} {σ : L2.St} (R : RS I fr hs F L s σ H) {c : PV} {v : V} {xs : List PV} (sc : Shown I F L H c v) (e : elems c = some xs) : ∃ a vs, v = .ref a ∧ (SqL I.K H a vs ∨ SqT I.K H a vs) ∧ RepL I F L xs vs := by
  unfold elems at e
  split at e
  · cases e
    obtain ⟨a, vs, e1, t, r⟩ := sc
    exact ⟨a, vs, e1, .inr (R.tupUp t).sq, r⟩
  · cases e
    obtain ⟨a, vs, e1, t, r⟩ := sc
    exact ⟨a, vs, e1, .inl (.of t), r⟩
  · cases e
theorem repL_ints : ∀ {xs : List PV} {vs : List V} {ns : List Int}, RepL I F L xs vs → asInts xs = some ns → vs = ns.map V.int
  | [], _, _, h, e => by cases h; cases e; rfl
  | x :: xs, _, ns, h, e => by
    obtain ⟨v, r, e1, h1, h2⟩ := h
    subst e1
    cases x with
    | int i =>
      obtain ⟨l, hl, e2⟩ := Option.map_eq_some_iff.mp (show (asInts xs).map (i :: ·) = some ns from e)
      subst e2
      rw [repL_ints h2 hl, List.map_cons]
      cases h1
      rfl
    | _ => cases e
theorem repL_bls : ∀ {xs : List PV} {vs : List V} {ns : List Bool}, RepL I F L xs vs → asBools xs = some ns → vs = ns.map V.bl
  | [], _, _, h, e => by cases h; cases e; rfl
  | x :: xs, _, ns, h, e => by
    obtain ⟨v, r, e1, h1, h2⟩ := h
    subst e1
    cases x with
    | bl i =>
      obtain ⟨l, hl, e2⟩ := Option.map_eq_some_iff.mp (show (asBools xs).map (i :: ·) = some ns from e)
      subst e2
      rw [repL_bls h2 hl, List.map_cons]
      cases h1
      rfl
    | _ => cases e
end
section
variable {I : Inf} {W : WX} {fr : Frm} {hs : List (RV × V)} {F : Hp} {L : List Addr} {s : St} {σ : L2.St} {H : Hp} {Q : VK} {T : Tab} {cf : CallF} {rx ry : RV} {x y : V}
def isBest : UOp → Bool
  | .min1 => true
  | .max1 => true
  | _ => false
theorem una_open {op : UOp} (hl : op ≠ .len) (R : RS I fr ((rx, x) :: hs) F L s σ H) (P : Post I W fr hs σ Q (unaR T cf op rx s)) :
    ∃ cx res, Shown I F L H cx x ∧ uop op cx = some res ∧ RS I fr hs F L s σ H ∧ Post I W fr hs σ Q (.ok (if isBest op then .val res else fresh res) s) := by
  obtain ⟨cx, ex, P⟩ := Post.opt (o := view s rx) (P := P)
  have P : Post I W fr hs σ Q ((ofOpt (uop op cx) s).bind fun r s1 => .ok (if isBest op then .val r else fresh r) s1) := by
    cases op <;> first | exact P | exact absurd rfl hl
  obtain ⟨res, er, P⟩ := P.opt
  exact ⟨cx, res, R.shown (by simp) ex, er, R.drop, P⟩
theorem una_neg (R : RS I fr ((rx, x) :: hs) F L s σ H) (P : Post I W fr hs σ Q (unaR T cf .neg rx s)) : rU (fun i => .int (-i)) x H Q := by
  obtain ⟨cx, res, sx, e, R0, P⟩ := una_open (by simp) R P
  have e : negV cx = some res := e
  unfold negV at e
  split at e
  · cases e; exact ⟨_, sx, P.val R0 rfl⟩
  · cases e
def rOf (r : List V → Hp → VK → Prop) : V → Hp → VK → Prop := fun x H Q => r [x] H Q
theorem una_abs (R : RS I fr ((rx, x) :: hs) F L s σ H) (P : Post I W fr hs σ Q (unaR T cf .abs rx s)) : ∃ i, [x] = [.int i] ∧ Q (.int (if i < 0 then -i else i)) H := by
  obtain ⟨cx, res, sx, e, R0, P⟩ := una_open (by simp) R P
  have e : absV cx = some res := e
  unfold absV at e
  split at e
  · cases e; exact ⟨_, congrArg (fun z => [z]) (show x = V.int _ from sx), P.val R0 rfl⟩
  · cases e
theorem una_int (R : RS I fr ((rx, x) :: hs) F L s σ H) (P : Post I W fr hs σ Q (unaR T cf .int_ rx s)) : (∃ i, [x] = [.int i] ∧ Q (.int i) H) ∨ ∃ k, [x] = [.bl k] ∧ Q (.int (if k then 1 else 0)) H := by
  obtain ⟨cx, res, sx, e, R0, P⟩ := una_open (by simp) R P
  have e : intV cx = some res := e
  unfold intV at e
  split at e
  · cases e; exact .inl ⟨_, congrArg (fun z => [z]) (show x = V.int _ from sx), P.val R0 rfl⟩
  · cases e; exact .inr ⟨_, congrArg (fun z => [z]) (show x = V.bl _ from sx), P.val R0 rfl⟩
  · cases e
theorem una_sum (R : RS I fr ((rx, x) :: hs) F L s σ H) (P : Post I W fr hs σ Q (unaR T cf .sum_ rx s)) : rSumB I.K [x] H Q := by
  obtain ⟨cx, res, sx, e, R0, P⟩ := una_open (by simp) R P
  have e : sumV cx = some res := e
  obtain ⟨xs, e1, e2⟩ := Option.bind_eq_some_iff.mp e
  obtain ⟨ns, e3, e4⟩ := Option.map_eq_some_iff.mp e2
  subst e4
  obtain ⟨a, vs, rfl, hq, r⟩ := shown_elems R sx e1
  rw [repL_ints r e3] at hq
  exact ⟨a, ns, rfl, hq, P.val R0 rfl⟩
theorem una_all (R : RS I fr ((rx, x) :: hs) F L s σ H) (P : Post I W fr hs σ Q (unaR T cf .all_ rx s)) : rAll I.K [x] H Q := by
  obtain ⟨cx, res, sx, e, R0, P⟩ := una_open (by simp) R P
  have e : allV cx = some res := e
  unfold allV at e
  split at e
  · obtain ⟨ns, e3, e4⟩ := Option.map_eq_some_iff.mp e
    subst e4
    obtain ⟨a, vs, rfl, t, r⟩ := sx
    rw [repL_bls r e3] at t
    exact ⟨a, ns, rfl, .of t, P.val R0 rfl⟩
  · cases e
theorem una_any (R : RS I fr ((rx, x) :: hs) F L s σ H) (P : Post I W fr hs σ Q (unaR T cf .any_ rx s)) : rAny I.K [x] H Q := by
  obtain ⟨cx, res, sx, e, R0, P⟩ := una_open (by simp) R P
  have e : anyV cx = some res := e
  unfold anyV at e
  split at e
  · obtain ⟨ns, e3, e4⟩ := Option.map_eq_some_iff.mp e
    subst e4
    obtain ⟨a, vs, rfl, t, r⟩ := sx
    rw [repL_bls r e3] at t
    exact ⟨a, ns, rfl, .of t, P.val R0 rfl⟩
  · cases e
/-- list(x) -/
def rListB (K : PySem.W.Frag) : List V → Hp → VK → Prop := fun xs H Q => (∃ p ys, xs = [.ref p] ∧ (SqL K H p ys ∨ SqT K H p ys) ∧ ∀ l, H l = none → Q (.ref l) (upd H l (.lst ys))) ∨
  (∃ (a : Addr) (kvs : List (Key × V)), xs = [.ref a] ∧ Rd H a (.dK kvs) ∧ ∀ p, H p = none → Q (.ref p) (upd H p (.lst (kvs.map fun kv => kV kv.1))))
theorem cr_listB {X : Cx} (hc : X.calm = true) : CallR X (.type "list") (rListB X.K) := by
  refine CallR.or call_list_of ?_
  intro pins s σ H xs us Q I r ⟨a, kvs, e, hr, q⟩
  exact call_listD hc pins s σ H xs us Q I r ⟨a, kvs, e, hr, q⟩
theorem una_list (R : RS I fr ((rx, x) :: hs) F L s σ H) (P : Post I W fr hs σ Q (unaR T cf .list_ rx s)) : rListB I.K [x] H Q := by
  obtain ⟨cx, res, sx, e, R0, P⟩ := una_open (by simp) R P
  have e : listV cx = some res := e
  have P : Post I W fr hs σ Q (.ok (fresh res) s) := P
  unfold listV at e
  split at e
  · cases e
    obtain ⟨a, vs, rfl, t, r⟩ := sx
    exact .inl ⟨a, vs, rfl, .inr (R.tupUp t).sq, fun l n => P.new R0 n ⟨_, rfl, r⟩⟩
  · cases e
    obtain ⟨a, vs, rfl, t, r⟩ := sx
    exact .inl ⟨a, vs, rfl, .inl (.of t), fun l n => P.new R0 n ⟨_, rfl, r⟩⟩
  · cases e
    obtain ⟨a, ws, rfl, t, r⟩ := sx
    exact .inr ⟨a, ws, rfl, t, fun l n => P.new R0 n ⟨_, rfl, r.keys⟩⟩
  · cases e
/-- tuple(x) -/
def rTupB (K : PySem.W.Frag) : List V → Hp → VK → Prop := fun xs H Q => ∃ p ys, xs = [.ref p] ∧ ((SqL K H p ys ∧ newTup ys H Q) ∨ (SqT K H p ys ∧ Q (.ref p) H))
theorem cr_tupB {X : Cx} : CallR X (.type "tuple") (rTupB X.K) := by
  intro pins s σ H xs us Q I r h
  obtain ⟨p, ys, rfl, h⟩ := h
  obtain ⟨u, rfl, rx⟩ := vals1 r
  cases rx
  rcases h with ⟨hq, q⟩ | ⟨hq, q⟩
  · obtain ⟨its, r', pl, hz⟩ := I.list hq
    have hlen := r'.length
    refine call_tuple_list pl.isList (fun h' kp => ?_) (by simp only [List.size_toArray] <;> omega)
    have I1 : Inv X pins σ H { s with heap := h' } := I.kept (t' := s.toks) kp
    exact newTup_ep I1 r' hz q
  · obtain ⟨its, r', pl, hz⟩ := I.tuple hq
    exact call_tuple_same pl ⟨.ref p, H, I, rfl, q⟩
theorem una_tuple (R : RS I fr ((rx, x) :: hs) F L s σ H) (P : Post I W fr hs σ Q (unaR T cf .tuple_ rx s)) : rTupB I.K [x] H Q := by
  obtain ⟨cx, res, sx, e, R0, P⟩ := una_open (by simp) R P
  have e : tupleV cx = some res := e
  have P : Post I W fr hs σ Q (.ok (fresh res) s) := P
  unfold tupleV at e
  split at e
  · cases e
    obtain ⟨a, vs, rfl, t, r⟩ := id sx
    exact ⟨a, vs, rfl, .inr ⟨(R.tupUp t).sq, P.val R0 sx⟩⟩
  · cases e
    obtain ⟨a, vs, rfl, t, r⟩ := sx
    exact ⟨a, vs, rfl, .inl ⟨.of t, fun p O hO n => P.tup R0 n hO r⟩⟩
  · cases e
end
end Nr
end

section
set_option Elab.async false
set_option linter.all false
set_option maxRecDepth 100000
set_option maxHeartbeats 4000000
/-! E11: x[::-1], slices. -/
namespace Nr
open PySem PySem.Spec PyProof.Rows L2 PySem.W HT

section
variable {prog : Program} {w : World} {A : Around} {E : Value → Shared → Prop} {s : Shared}
theorem rev_places (n : Nat) : Builtin.Slice.slicePlaces ((n : Int) - 1) (-1) (-1) = n := by
  unfold Builtin.Slice.slicePlaces
  rw [if_neg (by decide)]
  by_cases h : (n : Int) - 1 > -1
  · rw [if_pos h]
    have e : ((n : Int) - 1 - -1 - 1) / - -1 + 1 = n := by
      rw [show (- -1 : Int) = 1 from rfl, Int.ediv_one]; omega
    rw [e]; rfl
  · rw [if_neg h]
    show (0 : Nat) = n
    omega
theorem sliceApplied_rev {sl : Addr} {vl vu vk : Value} {n : Nat} {Q : Int × Int × Nat → Shared → Prop} (hs : s.heap.IsSliceOf sl vl vu vk) (pl : IsPart vl none) (pu : IsPart vu none) (pk : IsPart vk (some (-1)))
    (h : Q ((n : Int) - 1, -1, n) s) : wpAny (model prog w) A (Builtin.Slice.sliceApplied (.ref sl) (pure (n : Int))) Q E s := by
  obtain ⟨os, hos, hcs, hds⟩ := id hs
  unfold Builtin.Slice.sliceApplied Builtin.Slice.sliceFields
  refine wpAny_bind (wpAny_bind (wpAny_field hos hds (x := vl) rfl (wpAny_bind (wpAny_field hos hds (x := vu) rfl (wpAny_bind (wpAny_field hos hds (x := vk) rfl (wpAny_pure ?_)))))))
  refine wpAny_bind (slicePart_ pk ?_)
  show wpAny _ _ (if ((-1 : Int) == 0) = true then _ else _) _ _ s
  rw [if_neg (by decide)]
  refine wpAny_bind (slicePart_ pl (wpAny_bind (slicePart_ pu (wpAny_bind (wpAny_pure ?_)))))
  show wpAny _ _ (match Builtin.Slice.sliceAdjust none none (-1) (n : Int) with | (lo, hi) => pure (lo, (-1 : Int), Builtin.Slice.slicePlaces lo hi (-1))) _ _ s
  have e : Builtin.Slice.sliceAdjust none none (-1) (n : Int) = ((n : Int) - 1, -1) := by
    unfold Builtin.Slice.sliceAdjust
    simp
  rw [e]
  show wpAny _ _ (pure ((n : Int) - 1, (-1 : Int), Builtin.Slice.slicePlaces ((n : Int) - 1) (-1) (-1))) _ _ s
  rw [rev_places]
  exact wpAny_pure h
theorem fm_congr {α β : Type} {f g : α → Option β} : ∀ {l : List α}, (∀ a ∈ l, f a = g a) → l.filterMap f = l.filterMap g
  | [], _ => rfl
  | a :: l, h => by
    rw [List.filterMap_cons, List.filterMap_cons, h a List.mem_cons_self, fm_congr fun b hb => h b (List.mem_cons_of_mem _ hb)]
theorem pick_rev (xs : Array Value) : ((List.range xs.size).filterMap fun (m : Nat) => xs[(((xs.size : Int) - 1) + (m : Int) * (-1)).toNat]?).toArray = xs.toList.reverse.toArray := by
  have e1 : ((List.range xs.size).filterMap fun (m : Nat) => xs[(((xs.size : Int) - 1) + (m : Int) * (-1)).toNat]?) = ((List.range xs.size).map fun k => xs.size - 1 - k).filterMap (xs[·]?) := by
    rw [List.filterMap_map]
    refine fm_congr fun m hm => ?_
    have hm := List.mem_range.mp hm
    have e : (((xs.size : Int) - 1) + (m : Int) * (-1)).toNat = xs.size - 1 - m := by omega
    rw [e]; rfl
  rw [e1, PySem.W.krv_range, List.filterMap_reverse, PySem.W.krv_all]
theorem getItem_tuple_rev {t sl : Addr} {items : Array Value} {vl vu vk : Value} {Q : Value → Shared → Prop} (ht : IsTup s.heap t items) (hs : s.heap.IsSliceOf sl vl vu vk) (pl : IsPart vl none) (pu : IsPart vu none) (pk : IsPart vk (some (-1)))
    (h : Q (.ref s.heap.objs.size) { s with heap := s.heap.push { cls := .type "tuple", data := .seq items.toList.reverse.toArray } })
    (hsz : items.size ≤ sizeLine) : wpAny (model prog w) A (getItem (.ref t) (.ref sl)) Q E s := by
  have htake : PySem.sizeOk (.seq items.toList.reverse.toArray) := by
    show items.toList.reverse.toArray.size ≤ sizeLine
    rw [List.size_toArray, List.length_reverse, Array.length_toList]
    exact hsz
  obtain ⟨os, hos, hcs, hds⟩ := id hs
  have hTs : s.TypeIs (.ref sl) "slice" := ⟨os, hos, hcs⟩
  unfold getItem
  try with_reducible refine wpAny_holding ?_
  first | refine wpAny_bind (wpAny_pure ?_) | skip
  refine wpAny_bind (wpAny_sequenceKey ht.typeIs (by decide) ?_)
  refine wpAny_bind (wpAny_callSpecial?_slot (name := Str.ofString "__getitem__") ht.typeIs PyProof.Rows.slot_tuple_getitem
    (wpAny_call_entry PyProof.Rows.slot_tuple_getitem ht.typeIs entry_tuple_getitem ?_ (args_tuple_getitem _ _)))
  show wpAny _ _ (Builtin.Tuple.tupleItemsOf (.ref t) >>= _) _ _ s
  refine wpAny_bind (tupleItemsOf_ ht ?_)
  refine wpAny_bind (wpAny_typeOf hTs ?_)
  rw [if_pos (by decide)]
  refine wpAny_bind (sliceApplied_rev hs pl pu pk ?_)
  have hno : ¬ ((((items.size : Int) - 1) == 0 && (-1 : Int) == 1 && items.size == items.size) = true) := by
    intro q
    rw [Bool.and_eq_true, Bool.and_eq_true] at q
    exact absurd q.1.2 (by decide)
  show wpAny _ _ (if (((items.size : Int) - 1) == 0 && (-1 : Int) == 1 && items.size == items.size) = true then _ else _) _ _ s
  rw [if_neg hno, pick_rev]
  first
    | exact wpAny_bind (m := Builtin.Tuple.tupleExact _) (wpAny_newObj_type (wpAny_pure ⟨_, rfl, wpAny_pure h⟩) htake)
    | exact wpAny_bind (m := Builtin.Tuple.tupleExact _) (wpAny_newObj_type (wpAny_bind (wpAny_pure (wpAny_pure ⟨_, rfl, wpAny_pure h⟩))) htake)
    | exact wpAny_bind (wpAny_bind (m := Builtin.Tuple.tupleExact _) (wpAny_newObj_type (wpAny_pure (wpAny_pure ⟨_, rfl, wpAny_pure h⟩)) htake))
    | exact wpAny_bind (wpAny_bind (m := Builtin.Tuple.tupleExact _) (wpAny_newObj_type (wpAny_pure ⟨_, rfl, wpAny_pure h⟩) htake))
end
section
variable {X : Cx}
def tRevB (K : PySem.W.Frag) (te : TE) : TE := fun σ H Q => te σ H fun x H1 => ∃ a xs, x = .ref a ∧ ((SqL K H1 a xs ∧ ∀ p, H1 p = none → Q (.ref p) (upd H1 p (.lst xs.reverse))) ∨ (SqT K H1 a xs ∧ newTup xs.reverse H1 Q))
theorem pe_revB {e : Expr} {te : TE} {k : Nat} {p1 p2 p3 pos : Pos} (he : PE X e te) : PE X (.Subscript e (.Slice none none (some (.UnaryOp .USub (.Constant (.int 1) k p1) p2)) p3) pos) (tRevB X.K te) := by
  refine ⟨fun pins s σ H Q I h => ?_⟩
  refine Subscript_ (thn (he.run pins s σ H _ I h) fun v s1 ⟨x, H1, I1, r1, q1⟩ => ?_)
  obtain ⟨a, xs, ex, q⟩ := q1
  subst ex
  cases r1
  have hst : PO X (some (.UnaryOp .USub (.Constant (.int 1) k p1) p2)) (tPart (tUn (rU fun i => .int (-i)) (tC (.int 1)))) := po_some (pe_un un_neg pe_int)
  refine wpAny_Slice (thn (po_none.run pins s1 σ H1 (fun o H2 => o = none ∧ H2 = H1) I1 ⟨rfl, rfl⟩) fun vl s2 ⟨l, H2, I2, pl, el, e2⟩ => ?_)
  subst el e2
  refine thn (po_none.run pins s2 σ H2 (fun o H3 => o = none ∧ H3 = H2) I2 ⟨rfl, rfl⟩) fun vu s3 ⟨u, H3, I3, pu, eu, e3⟩ => ?_
  subst eu e3
  refine thn (hst.run pins s3 σ H3 (fun o H4 => o = some (-1) ∧ H4 = H3) I3 ⟨1, rfl, -1, rfl, rfl, rfl⟩) fun vs s4 ⟨o, H4, I4, ps, eo, e4⟩ => ?_
  subst eo e4
  have I5 : Inv X pins σ H4 { s4 with heap := s4.heap.push { cls := .type "slice", data := .fields #[vl, vu, vs] } } := I4.kept (t' := s4.toks) fun b ob q => Heap.get?_push_of_some _ q
  show wpAny (model X.prog X.w) X.A (subscriptTail e (.Slice none none (some (.UnaryOp .USub (.Constant (.int 1) k p1) p2)) p3) (.ref a) (.ref s4.heap.objs.size)) (EP X pins σ Q) X.xe { s4 with heap := s4.heap.push { cls := .type "slice", data := .fields #[vl, vu, vs] } }
  rcases q with ⟨hx, q⟩ | ⟨hx, q⟩
  · obtain ⟨its, r, ht, hz⟩ := I5.list hx
    have hlen := r.length
    refine tail_any (ops := [.ref a, .ref s4.heap.objs.size]) ht.isList.typeIs (PySem.slot_list_getitem.lookup) ?_ (by with_unfolding_all rfl)
    refine wpAny_getItem_list_slice ht.isList (Heap.IsSliceOf.new _ vl vu vs) pl pu ps (by decide) ?_ (by rw [List.size_toArray]; omega)
    rw [PySem.W.krv_pick]
    refine ⟨.ref _, _, I5.laid (t' := s4.toks) (o := .lst xs.reverse) (fun b ob q => Heap.get?_push_of_some _ q) (Nat.le_refl _) ?_, rfl, q _ (I5.hok.fresh (Nat.le_refl _))⟩
    exact ⟨by rw [List.length_reverse]; exact hz, _, 0, r.reverse, Heap.get?_push_size _ rfl⟩
  · obtain ⟨its, r, ht, hz⟩ := I5.tuple hx
    have hlen := r.length
    refine tail_any (ops := [.ref a, .ref s4.heap.objs.size]) ht.typeIs PyProof.Rows.slot_tuple_getitem.lookup ?_ (by with_unfolding_all rfl)
    refine getItem_tuple_rev ht (Heap.IsSliceOf.new _ vl vu vs) pl pu ps ?_ (by rw [List.size_toArray]; omega)
    exact newTup_ep (s := { s4 with heap := s4.heap.push { cls := .type "slice", data := .fields #[vl, vu, vs] } }) I5 r.reverse (by rw [List.length_reverse]; exact hz) q
/-- x[lo:hi] of a list, a tuple -/
def rSlB (K : PySem.W.Frag) : V → Option Int → Option Int → Hp → VK → Prop := fun x lo hi H Q => rSlL K x lo hi H Q ∨ ∃ a xs, x = .ref a ∧ SqT K H a xs ∧
  (HT.sIx xs.length 0 lo = 0 ∧ HT.sIx xs.length xs.length hi = xs.length → Q (.ref a) H) ∧ (¬ (HT.sIx xs.length 0 lo = 0 ∧ HT.sIx xs.length xs.length hi = xs.length) → newTup (cutV xs lo hi) H Q)
theorem sl_B : SlR X (rSlB X.K) := by
  refine SlR.or sl_list ?_
  intro pins s σ H x v vl vu lo hi sl Q I rx hs pl pu h
  obtain ⟨a, xs, rfl, hx, q1, q2⟩ := h
  cases rx
  obtain ⟨its, r, ht, hz⟩ := I.tuple hx
  have hlen : its.toArray.size = xs.length := by rw [List.size_toArray]; exact r.length.symm
  by_cases hw : HT.sIx xs.length 0 lo = 0 ∧ HT.sIx xs.length xs.length hi = xs.length
  · refine ⟨"tuple", _, PyProof.Rows.slot_tuple_getitem.lookup, ht.typeIs, ?_⟩
    exact getItem_tuple_whole ht hs pl pu (by rw [hlen]; exact hw) ⟨.ref a, H, I, rfl, q1 hw⟩
  · refine ⟨"tuple", _, PyProof.Rows.slot_tuple_getitem.lookup, ht.typeIs, ?_⟩
    refine HT.getItem_tuple_cut ht hs pl pu (by rw [hlen]; exact hw) ?_ (by rw [hlen]; exact hz)
    rw [hlen]
    exact newTup_ep I ((r.drop (HT.sIx xs.length 0 lo)).take (HT.sIx xs.length xs.length hi - HT.sIx xs.length 0 lo)) (Nat.le_trans (cutV_length xs lo hi) hz) (q2 hw)
end
section
variable {I : Inf} {W : WX} {fr : Frm} {hs : List (RV × V)} {F : Hp} {L : List Addr} {s : St} {σ : L2.St} {H : Hp} {Q : VK} {T : Tab} {cf : CallF} {rx ry : RV} {x y : V}
theorem una_rev (R : RS I fr ((rx, x) :: hs) F L s σ H) (P : Post I W fr hs σ Q (unaR T cf .rev rx s)) : ∃ a xs, x = .ref a ∧ ((SqL I.K H a xs ∧ ∀ p, H p = none → Q (.ref p) (upd H p (.lst xs.reverse))) ∨ (SqT I.K H a xs ∧ newTup xs.reverse H Q)) := by
  obtain ⟨cx, res, sx, e, R0, P⟩ := una_open (by simp) R P
  have e : revV cx = some res := e
  have P : Post I W fr hs σ Q (.ok (fresh res) s) := P
  unfold revV at e
  split at e
  · cases e
    obtain ⟨a, vs, rfl, t, r⟩ := sx
    exact ⟨a, vs, rfl, .inl ⟨.of t, fun p n => P.new R0 n ⟨_, rfl, r.reverse⟩⟩⟩
  · cases e
    obtain ⟨a, vs, rfl, t, r⟩ := sx
    exact ⟨a, vs, rfl, .inr ⟨(R.tupUp t).sq, fun p O hO n => P.tup R0 n hO r.reverse⟩⟩
  · cases e
/-- a slice's part as the rule sees it -/
def ptOf : PV → Option (Option Int)
  | .non => some none
  | .int i => some (some i)
  | _ => none
theorem cutIx_sIx {n d : Nat} {v : PV} {k : Nat} (h : cutIx n d v = some k) : ∃ o, ptOf v = some o ∧ HT.sIx n d o = k := by
  unfold cutIx at h
  split at h
  · cases h; exact ⟨none, rfl, rfl⟩
  · cases h; exact ⟨some _, rfl, rfl⟩
  · cases h
theorem slc_done {cx lo hi res : PV} (R0 : RS I fr hs F L s σ H) (sx : Shown I F L H cx x) (e : slcV cx lo hi = some res) (P : Post I W fr hs σ Q (.ok (fresh res) s)) : ∃ a b, ptOf lo = some a ∧ ptOf hi = some b ∧ rSlB I.K x a b H Q := by
  unfold slcV at e
  split at e
  · rename_i xs
    obtain ⟨k, hk, e1⟩ := Option.bind_eq_some_iff.mp e
    obtain ⟨m, hm, e2⟩ := Option.map_eq_some_iff.mp e1
    subst e2
    obtain ⟨a, ha, ka⟩ := cutIx_sIx hk
    obtain ⟨b, hb, kb⟩ := cutIx_sIx hm
    obtain ⟨p, vs, rfl, t, r⟩ := id sx
    refine ⟨a, b, ha, hb, .inr ⟨p, vs, rfl, (R0.tupUp t).sq, fun hw => ?_, fun hw => ?_⟩⟩
    · rw [r.length] at ka kb
      have z1 : k = 0 := by rw [← ka]; exact hw.1
      have z2 : m = xs.length := by rw [← kb, r.length]; exact hw.2
      have P : Post I W fr hs σ Q (.ok (.val (.tup (cutL xs k m))) s) := P
      have ec : cutL xs k m = xs := by unfold cutL; rw [z1, z2]; simp
      rw [ec] at P
      exact P.val R0 sx
    · intro q O hO n
      have ec : cutV vs a b = (vs.drop k).take (m - k) := by unfold cutV; rw [← r.length, ka, kb]
      have P : Post I W fr hs σ Q (.ok (.val (.tup (cutL xs k m))) s) := P
      rw [ec]
      exact P.tup R0 n hO ((r.drop k).take (m - k))
  · rename_i xs
    obtain ⟨k, hk, e1⟩ := Option.bind_eq_some_iff.mp e
    obtain ⟨m, hm, e2⟩ := Option.map_eq_some_iff.mp e1
    subst e2
    obtain ⟨a, ha, ka⟩ := cutIx_sIx hk
    obtain ⟨b, hb, kb⟩ := cutIx_sIx hm
    obtain ⟨p, vs, rfl, t, r⟩ := sx
    refine ⟨a, b, ha, hb, .inl ⟨p, vs, rfl, .of t, fun q n => ?_⟩⟩
    have ec : cutV vs a b = (vs.drop k).take (m - k) := by unfold cutV; rw [← r.length, ka, kb]
    rw [ec]
    exact P.new R0 n ⟨_, rfl, (r.drop k).take (m - k)⟩
  · cases e
end
end Nr
end

section
set_option Elab.async false
set_option linter.all false
set_option maxRecDepth 100000
set_option maxHeartbeats 4000000
/-! E12: sorted, min, max, len, dict, len(set()), index, count, in. -/
namespace Nr
open PySem PySem.Spec PyProof.Rows L2 PySem.W

section
variable {I : Inf} {F : Hp} {L : List Addr}
theorem repL_zip : ∀ {xs : List PV} {vs : List V}, RepL I F L xs vs → (xs.zip vs).map (·.1) = xs ∧ (xs.zip vs).map (·.2) = vs ∧ ∀ z ∈ xs.zip vs, RepV I F L z.1 z.2
  | [], _, h => by cases h; exact ⟨rfl, rfl, fun z hz => by cases hz⟩
  | x :: xs, _, h => by
    obtain ⟨v, r, e, h1, h2⟩ := h
    subst e
    obtain ⟨q1, q2, q3⟩ := repL_zip h2
    refine ⟨by rw [List.zip_cons_cons, List.map_cons, q1], by rw [List.zip_cons_cons, List.map_cons, q2], fun z hz => ?_⟩
    rw [List.zip_cons_cons] at hz
    rcases List.mem_cons.mp hz with rfl | hz
    · exact h1
    · exact q3 z hz
theorem repL_of : ∀ {zs : List (PV × V)}, (∀ z ∈ zs, RepV I F L z.1 z.2) → RepL I F L (zs.map (·.1)) (zs.map (·.2))
  | [], _ => rfl
  | z :: zs, h => ⟨z.2, _, rfl, h z List.mem_cons_self, repL_of fun y hy => h y (List.mem_cons_of_mem _ hy)⟩
end
theorem alikeAll_toD {xs : List PV} (h : alikeAll xs = true) : ∀ d ∈ toDL xs, ∀ e ∈ toDL xs, alike d e = true := by
  intro d hd e he
  rw [toDL_map] at hd he
  obtain ⟨x, hx, rfl⟩ := List.mem_map.mp hd
  obtain ⟨y, hy, rfl⟩ := List.mem_map.mp he
  exact List.all_eq_true.mp (List.all_eq_true.mp h x hx) y hy
theorem dep_mem {n : Nat} : ∀ {xs : List PV}, depLeL n xs = true → ∀ d ∈ toDL xs, d.depth ≤ n
  | [], _, _, h => by cases h
  | x :: xs, h, d, hd => by
    rw [depLeL, Bool.and_eq_true] at h
    rcases List.mem_cons.mp (show d ∈ toD x :: toDL xs from hd) with rfl | hd
    · exact dep_toD n x h.1
    · exact dep_mem h.2 d hd
theorem toD_tup1 {x : PV} (h : isTup1 x = true) : ∃ y r, toD x = .tuple (y :: r) := by
  cases x with
  | tup xs => cases xs with
    | nil => simp [isTup1] at h
    | cons y r => exact ⟨_, _, rfl⟩
  | _ => simp [isTup1] at h
theorem toD_none {x : PV} (p : plain x = true) (h : toD x = .none) : x = .non := by
  cases x <;> first | rfl | (simp [toD] at h; done) | exact absurd p (by simp [plain])
theorem toD_tup {x : PV} {ys : List PyData} (p : plain x = true) (h : toD x = .tuple ys) : isTup x = true := by
  cases x <;> first | rfl | (simp [toD] at h; done) | exact absurd p (by simp [plain])
theorem plainL_mem : ∀ {xs : List PV}, plainL xs = true → ∀ x ∈ xs, plain x = true
  | [], _, _, h => by cases h
  | x :: xs, h, y, hy => by
    rw [plainL, Bool.and_eq_true] at h
    rcases List.mem_cons.mp hy with rfl | hy
    · exact h.1
    · exact plainL_mem h.2 y hy
theorem sortable_toD {xs : List PV} (h : sortable xs = true) : plainL xs = true ∧ AllAlike (toDL xs) ∧ Sortable (toDL xs) ∧ ∀ d ∈ toDL xs, d.depth ≤ 30 := by
  unfold sortable at h
  simp only [Bool.and_eq_true, Bool.or_eq_true] at h
  obtain ⟨⟨⟨⟨h1, h2⟩, h3⟩, _⟩, h4⟩ := h
  refine ⟨h1, alikeAll_toD h3, ?_, dep_mem h2⟩
  rcases h4 with h4 | h4
  · refine .inl fun d hd => ?_
    rw [toDL_map] at hd
    obtain ⟨x, hx, rfl⟩ := List.mem_map.mp hd
    exact toD_tup1 (List.all_eq_true.mp h4 x hx)
  · refine .inr fun d hd => ?_
    rw [toDL_map] at hd
    obtain ⟨x, hx, rfl⟩ := List.mem_map.mp hd
    have q := List.all_eq_true.mp h4 x hx
    simp only [Bool.and_eq_true, Bool.not_eq_true'] at q
    have hp := plainL_mem h1 x hx
    refine ⟨fun z => ?_, fun ys z => ?_⟩
    · rw [toD_none hp z] at q; exact absurd q.2 (by simp [isNon0])
    · rw [toD_tup hp z] at q; exact absurd q.1 (by simp)
section
variable {I : Inf} {W : WX} {fr : Frm} {hs : List (RV × V)} {F : Hp} {L : List Addr} {s : St} {σ : L2.St} {H : Hp} {Q : VK} {T : Tab} {cf : CallF} {rx ry : RV} {x y : V}
theorem una_sorted (R : RS I fr ((rx, x) :: hs) F L s σ H) (P : Post I W fr hs σ Q (unaR T cf .sorted_ rx s)) : rSortB I.K [x] H Q := by
  obtain ⟨cx, res, sx, e, R0, P⟩ := una_open (by simp) R P
  have e : sortedV cx = some res := e
  obtain ⟨xs, e1, e2⟩ := Option.bind_eq_some_iff.mp e
  split at e2
  · rename_i hso
    cases e2
    obtain ⟨hp, hal, hso, hdep⟩ := sortable_toD hso
    obtain ⟨a, vs, rfl, hq, r⟩ := shown_elems R sx e1
    obtain ⟨z1, z2, z3⟩ := repL_zip r
    have m1 : ((xs.zip vs).map fun z => (toD z.1, z.2)).map (·.1) = toDL xs := by
      rw [List.map_map, toDL_map]
      show (xs.zip vs).map (fun z => toD z.1) = _
      have : (xs.zip vs).map (fun z => toD z.1) = ((xs.zip vs).map (·.1)).map toD := by rw [List.map_map]; rfl
      rw [this, z1]
    have m2 : ((xs.zip vs).map fun z => (toD z.1, z.2)).map (·.2) = vs := by
      rw [List.map_map]
      exact z2
    refine ⟨a, (xs.zip vs).map fun z => (toD z.1, z.2), rfl, by rw [m2]; exact hq, by rw [m1, m2]; exact R0.dpL xs vs hp r, by rw [m1]; exact hal, by rw [m1]; exact hso, fun p hpm => ?_, fun p n => ?_⟩
    · refine hdep p.1 ?_
      rw [← m1]
      exact List.mem_map.mpr ⟨p, hpm, rfl⟩
    · have P : Post I W fr hs σ Q (.ok (.tmp (.lst (pvSort xs))) s) := P
      have e1 : ((xs.zip vs).map fun z => (toD z.1, z.2)).mergeSort (dataLe false (·.1)) = ((xs.zip vs).mergeSort fun a b => !pvLt b.1 a.1).map fun z => (toD z.1, z.2) :=
        (List.map_mergeSort (f := fun z : PV × V => (toD z.1, z.2)) (fun a _ b _ => rfl)).symm
      have e2 : pvSort xs = ((xs.zip vs).mergeSort fun a b => !pvLt b.1 a.1).map (·.1) := by
        have q := List.map_mergeSort (r := fun a b : PV × V => !pvLt b.1 a.1) (s := fun a b => !pvLt b a) (f := fun z : PV × V => z.1) (l := xs.zip vs) (fun a _ b _ => rfl)
        rw [z1] at q
        exact q.symm
      rw [e2] at P
      rw [e1, List.map_map]
      refine P.new R0 n ⟨_, rfl, ?_⟩
      exact repL_of fun z hz => z3 z (List.mem_mergeSort.mp hz)
  · cases e2
theorem ordOk_toD {xs : List PV} (h : ordOk xs = true) : plainL xs = true ∧ AlikeAll (toDL xs) ∧ PyData.depthAll (toDL xs) ≤ 30 ∧ PyData.canLayAll0 (toDL xs) = true := by
  unfold ordOk at h
  simp only [Bool.and_eq_true] at h
  obtain ⟨⟨⟨h1, h2⟩, h3⟩, h4⟩ := h
  refine ⟨h1, ⟨alikeAll_toD h3, fun d hd => ?_⟩, dep_toDL 30 xs h2, canLay_toDL xs h1⟩
  rw [toDL_map] at hd
  obtain ⟨x, hx, rfl⟩ := List.mem_map.mp hd
  intro z
  have q := List.all_eq_true.mp h4 x hx
  rw [toD_none (plainL_mem h1 x hx) z] at q
  exact absurd q (by simp [isNon0])
theorem minD_pv : ∀ (xs : List PV) (a : PV), minD (toD a) (toDL xs) = toD (pvMinFrom a xs)
  | [], _ => rfl
  | x :: xs, a => by
    show minD (if dataLt (toD x) (toD a) then toD x else toD a) (toDL xs) = toD (pvMinFrom (if pvLt x a then x else a) xs)
    rw [← minD_pv xs]
    congr 1
    show _ = toD (if dataLt (toD x) (toD a) then x else a)
    split <;> rfl
theorem maxD_pv : ∀ (xs : List PV) (a : PV), maxD (toD a) (toDL xs) = toD (pvMaxFrom a xs)
  | [], _ => rfl
  | x :: xs, a => by
    show maxD (if dataLt (toD a) (toD x) then toD x else toD a) (toDL xs) = toD (pvMaxFrom (if pvLt a x then x else a) xs)
    rw [← maxD_pv xs]
    congr 1
    show _ = toD (if dataLt (toD a) (toD x) then x else a)
    split <;> rfl
theorem pvMin_mem : ∀ (xs : List PV) (a : PV), pvMinFrom a xs ∈ a :: xs
  | [], a => List.mem_singleton.mpr rfl
  | x :: xs, a => by
    have h := pvMin_mem xs (if pvLt x a then x else a)
    show pvMinFrom (if pvLt x a then x else a) xs ∈ _
    rcases List.mem_cons.mp h with h | h
    · rw [h]; split
      · exact List.mem_cons_of_mem _ List.mem_cons_self
      · exact List.mem_cons_self
    · exact List.mem_cons_of_mem _ (List.mem_cons_of_mem _ h)
theorem pvMax_mem : ∀ (xs : List PV) (a : PV), pvMaxFrom a xs ∈ a :: xs
  | [], a => List.mem_singleton.mpr rfl
  | x :: xs, a => by
    have h := pvMax_mem xs (if pvLt a x then x else a)
    show pvMaxFrom (if pvLt a x then x else a) xs ∈ _
    rcases List.mem_cons.mp h with h | h
    · rw [h]; split
      · exact List.mem_cons_of_mem _ List.mem_cons_self
      · exact List.mem_cons_self
    · exact List.mem_cons_of_mem _ (List.mem_cons_of_mem _ h)
theorem best_at {xs : List PV} {vs : List V} {res : PV} (hp : plainL xs = true) (hm : res ∈ xs) (r : RepL I F L xs vs) {i : Nat} {v : V} {d : PyData} (h1 : vs[i]? = some v) (h2 : (toDL xs)[i]? = some d) (h3 : d = toD res) : RepV I F L res v := by
  rw [toDL_map, List.getElem?_map] at h2
  obtain ⟨z, hz, e⟩ := Option.map_eq_some_iff.mp h2
  obtain ⟨u, q1, q2⟩ := r.get hz
  rw [h1] at q1
  cases q1
  have : z = res := toD_inj z res (plainL_mem hp z (List.mem_of_getElem? hz)) (plainL_mem hp res hm) (e.trans h3)
  rw [← this]; exact q2
theorem una_min (R : RS I fr ((rx, x) :: hs) F L s σ H) (P : Post I W fr hs σ Q (unaR T cf .min1 rx s)) : rBestB I.K minD [x] H Q := by
  obtain ⟨cx, res, sx, e, R0, P⟩ := una_open (by simp) R P
  have e : minV cx = some res := e
  obtain ⟨xs, e1, e2⟩ := Option.bind_eq_some_iff.mp e
  split at e2
  · cases e2
  · split at e2
    · rename_i y ys hok
      cases e2
      obtain ⟨hp, hal, hd, hl⟩ := ordOk_toD hok
      obtain ⟨a, vs, rfl, hq, r⟩ := shown_elems R sx e1
      exact ⟨a, vs, toD y, toDL ys, rfl, hq, R0.dpL _ vs hp r, hal, hd, hl, fun i v d h1 h2 h3 => Post.val P R0 (best_at hp (pvMin_mem ys y) r h1 h2 (h3.trans (minD_pv ys y)))⟩
    · cases e2
theorem una_max (R : RS I fr ((rx, x) :: hs) F L s σ H) (P : Post I W fr hs σ Q (unaR T cf .max1 rx s)) : rBestB I.K maxD [x] H Q := by
  obtain ⟨cx, res, sx, e, R0, P⟩ := una_open (by simp) R P
  have e : maxV cx = some res := e
  obtain ⟨xs, e1, e2⟩ := Option.bind_eq_some_iff.mp e
  split at e2
  · cases e2
  · split at e2
    · rename_i y ys hok
      cases e2
      obtain ⟨hp, hal, hd, hl⟩ := ordOk_toD hok
      obtain ⟨a, vs, rfl, hq, r⟩ := shown_elems R sx e1
      exact ⟨a, vs, toD y, toDL ys, rfl, hq, R0.dpL _ vs hp r, hal, hd, hl, fun i v d h1 h2 h3 => Post.val P R0 (best_at hp (pvMax_mem ys y) r h1 h2 (h3.trans (maxD_pv ys y)))⟩
    · cases e2
end
end Nr
end

section
set_option Elab.async false
set_option linter.all false
set_option maxRecDepth 100000
set_option maxHeartbeats 4000000
/-! E13: is None, len, dict, len(set()), index, count, in, min, max of two. -/
namespace Nr
open PySem PySem.Spec PyProof.Rows L2 PySem.W

/-! ### in, with dicts -/
def rInDk (neg : Bool) : R2 := fun x y H Q => ∃ a kvs k, y = .ref a ∧ x = kV k ∧ Rd H a (.dK kvs) ∧ Q (.bl (if neg then !(valV kvs k).isSome else (valV kvs k).isSome)) H
def rInAll (K : PySem.W.Frag) (neg : Bool) : R2 := fun x y H Q => rInP K neg x y H Q ∨ rInDk neg x y H Q
section
variable {X : Cx}
theorem op_inAll (hu : X.A.units + 64 < cLine) : OpR X (compareOp .In) (rInAll X.K false) := by
  refine (op_inP hu).or ?_
  intro pins s σ H x y v u Q I rx ry ⟨a, kvs, k, e1, e2, hr, q⟩
  subst e1 e2
  cases ry
  exact d_in (by omega) I (.inl ⟨kvs, k, hr, rfl, rfl⟩) rx fun s3 I3 => ⟨.bl _, H, I3, rfl, q⟩
theorem op_notInAll (hu : X.A.units + 64 < cLine) : OpR X (compareOp .NotIn) (rInAll X.K true) := by
  refine (op_notInP hu).or ?_
  intro pins s σ H x y v u Q I rx ry ⟨a, kvs, k, e1, e2, hr, q⟩
  subst e1 e2
  cases ry
  exact d_notIn (by omega) I (.inl ⟨kvs, k, hr, rfl, rfl⟩) rx fun s3 I3 => ⟨.bl _, H, I3, rfl, q⟩
/-- len -/
def rLenB (K : PySem.W.Frag) : List V → Hp → VK → Prop := fun xs H Q => (∃ p ys, xs = [.ref p] ∧ (SqL K H p ys ∨ SqT K H p ys) ∧ Q (.int ys.length) H) ∨ ∃ a kvs, xs = [V.ref a] ∧ Rd H a (.dK kvs) ∧ Q (.int kvs.length) H
theorem cr_lenB : CallR X (.builtin "len") (rLenB X.K) := by
  refine CallR.or call_len_seq ?_
  intro pins s σ H xs us Q I r h
  obtain ⟨a, kvs, rfl, ha, q⟩ := h
  obtain ⟨u, rfl, ru⟩ := vals1 r
  cases ru
  exact d_len I ha fun t s' I' => ⟨.int kvs.length, H, I', ⟨t, rfl⟩, q⟩
end
theorem onceI_firstMet : ∀ (k : Nat) (ns : List Int), k ≤ ns.length → firstMet (fun i => ns.getD i 0) k = onceI (ns.take k)
  | 0, _, _ => rfl
  | k + 1, ns, h => by
    have hlt : k < ns.length := h
    have e : ns.getD k 0 = ns[k] := by rw [List.getD_eq_getElem?_getD, List.getElem?_eq_getElem hlt] <;> rfl
    rw [firstMet_succ, onceI_firstMet k ns (Nat.le_of_lt hlt), List.take_add_one, List.getElem?_eq_getElem hlt]
    unfold onceI
    rw [List.foldl_append, e]
    rfl
/-- len(set(xs)) -/
def tLenSetB (K : PySem.W.Frag) (ta : TE) : TE := fun σ H Q => ta σ H fun x H1 => ∃ (l : Addr) (ns : List Int), x = V.ref l ∧ SqL K H1 l (ns.map V.int) ∧ ns.length ≤ 4000 ∧ Q (.int (onceI ns).length) H1
section
variable {X : Cx}
theorem onceI_le : ∀ (ns acc : List Int), (ns.foldl (fun acc x => if acc.any (· == x) then acc else acc ++ [x]) acc).length ≤ acc.length + ns.length
  | [], acc => Nat.le_refl _
  | n :: ns, acc => by
    refine Nat.le_trans (onceI_le ns _) ?_
    rw [List.length_cons]
    show (if acc.any (· == n) then acc else acc ++ [n]).length + ns.length ≤ acc.length + (ns.length + 1)
    split
    · omega
    · rw [List.length_append, List.length_singleton]; omega
theorem pe_lenSetB {a : Expr} {ta : TE} {p p2 q pos : Pos} (hg : Gl X "len") (hm : X.mg "len" = none) (hg2 : Gl X "set") (hm2 : X.mg "set" = none) (hc : X.calm = true) (ha : PE X a ta)
    (na : starEach [a] X.env = (false, eval a X.env) :: starEach [] X.env) : PE X (.Call (.Name "len" p) [.Call (.Name "set" p2) [a] [] q] [] pos) (tLenSetB X.K ta) := by
  refine ⟨fun pins s σ H Q I h => ?_⟩
  refine Call_ (ld_blt I hg hm PySem.boot_len ?_)
  refine PyProof.Rows.callWith_builtin1 (PyProof.Rows.args_cons ?_ rfl) rfl rfl
  refine Call_ (ld_blt I hg2 hm2 PyProof.Rows.boot_set ?_)
  refine PyProof.Rows.callWith_type1 (PyProof.Rows.args_cons (thn (ha.run pins s σ H _ I h) fun v s1 ⟨x, H1, I1, r1, q1⟩ => PyProof.Rows.args_nil ?_) na) na rfl
  obtain ⟨l, ns, rfl, hq, h1, q1⟩ := q1
  cases r1
  obtain ⟨its, r, pl, hz⟩ := I1.list hq
  have hl : its.toArray.size = ns.length := by rw [List.size_toArray, ← r.length, List.length_map]
  refine call_set_list (I1.ok.hd hc) pl.isList (ns := ns) (by simpa using r.ints) (by unfold scanBound; omega) fun h' tk hS hk => ?_
  rw [hl, onceI_firstMet ns.length ns (Nat.le_refl _), List.take_length] at hS
  refine PyProof.Rows.args_nil ?_
  obtain ⟨o, es, ep, t, ho, hex, hd, _, _, _, hf, hn⟩ := hS
  have I2 : Inv X pins σ H1 { s1 with heap := h', toks := tk } := I1.kept fun b o e => hk b o (Heap.lt_size e) e
  have hle : (onceI ns).length ≤ ns.length := by
    have := onceI_le ns []
    simpa [onceI] using this
  exact call_len_set ho hex hd hf (by rw [hn]; omega) ⟨.int (onceI ns).length, H1, I2.tok _, ⟨_, by rw [hn]⟩, q1⟩
end
section
variable {I : Inf} {W : WX} {fr : Frm} {hs : List (RV × V)} {F : Hp} {L : List Addr} {s : St} {σ : L2.St} {H : Hp} {Q : VK} {T : Tab} {cf : CallF} {rx ry : RV} {x y : V}
theorem shown_non {c : PV} (sc : Shown I F L H c x) : decide (x = V.non) = isNonV c := by
  cases c with
  | non => cases sc; rfl
  | bl b => cases sc; rfl
  | int b => cases sc; rfl
  | str b => cases sc; rfl
  | tup xs => obtain ⟨a, vs, rfl, _⟩ := sc; rfl
  | lst xs => obtain ⟨a, vs, rfl, _⟩ := sc; rfl
  | dct xs => obtain ⟨a, vs, rfl, _⟩ := sc; rfl
  | obj c xs => obtain ⟨a, _, vs, rfl, _⟩ := sc; rfl
  | loc n => obtain ⟨a, rfl, _⟩ := sc; rfl
  | fn f => cases sc; rfl
  | err c xs => obtain ⟨a, d, rfl, _⟩ := sc; rfl
  | scr ns => obtain ⟨a, rfl, _⟩ := sc; rfl
theorem una_isNone (R : RS I fr ((rx, x) :: hs) F L s σ H) (P : Post I W fr hs σ Q (unaR T cf .isNone rx s)) : Q (.bl (decide (x = .non))) H := by
  obtain ⟨cx, res, sx, e, R0, P⟩ := una_open (by simp) R P
  cases (show some (PV.bl (isNonV cx)) = some res from e)
  rw [shown_non sx]
  exact P.val R0 rfl
theorem una_notNone (R : RS I fr ((rx, x) :: hs) F L s σ H) (P : Post I W fr hs σ Q (unaR T cf .notNone rx s)) : Q (.bl (!decide (x = .non))) H := by
  obtain ⟨cx, res, sx, e, R0, P⟩ := una_open (by simp) R P
  cases (show some (PV.bl (!isNonV cx)) = some res from e)
  rw [shown_non sx]
  exact P.val R0 rfl
theorem una_len (hT : ∀ c, T.lnm c = none) (R : RS I fr ((rx, x) :: hs) F L s σ H) (P : Post I W fr hs σ Q (unaR T cf .len rx s)) : rLenB I.K [x] H Q := by
  obtain ⟨cx, ex, P⟩ := Post.opt (o := view s rx) (P := P)
  have sx : Shown I F L H cx x := R.shown List.mem_cons_self ex
  have R0 := R.drop
  have P : Post I W fr hs σ Q (match clsOf cx with
      | some c => (ofOpt (T.lnm c) s).bind fun f s1 => (toVal rx s1).bind fun a s2 => inSt (cf.fn f [a] s2.cells) s2
      | none => (ofOpt (lenV cx) s).bind fun r s1 => .ok (fresh r) s1) := by
    cases h : clsOf cx with
    | some c => simp only [h] at P ⊢; exact P
    | none => simp only [h] at P ⊢; exact P
  cases hc : clsOf cx with
  | some c =>
    rw [hc] at P
    obtain ⟨f, ef, _⟩ := Post.opt (o := T.lnm c) (P := P)
    rw [hT] at ef; cases ef
  | none =>
    rw [hc] at P
    obtain ⟨res, er, P⟩ := Post.opt (o := lenV cx) (P := P)
    unfold lenV at er
    split at er
    · cases er
      obtain ⟨a, vs, rfl, t, r⟩ := sx
      exact .inl ⟨a, vs, rfl, .inr (R.tupUp t).sq, Post.val P R0 (by rw [r.length]; rfl)⟩
    · cases er
      obtain ⟨a, vs, rfl, t, r⟩ := sx
      exact .inl ⟨a, vs, rfl, .inl (.of t), Post.val P R0 (by rw [r.length]; rfl)⟩
    · cases er
      obtain ⟨a, ws, rfl, t, r⟩ := sx
      exact .inr ⟨a, ws, rfl, t, Post.val P R0 (by rw [r.length]; rfl)⟩
    · cases er
      obtain ⟨a, rfl, t⟩ := sx
      exact .inl ⟨a, _, rfl, .inl (R.sqlUp t), Post.val P R0 (by rw [List.length_map]; rfl)⟩
    · cases er
theorem una_lenset (R : RS I fr ((rx, x) :: hs) F L s σ H) (P : Post I W fr hs σ Q (unaR T cf .lenset rx s)) : ∃ (l : Addr) (ns : List Int), x = V.ref l ∧ SqL I.K H l (ns.map V.int) ∧ ns.length ≤ 4000 ∧ Q (.int (onceI ns).length) H := by
  obtain ⟨cx, res, sx, e, R0, P⟩ := una_open (by simp) R P
  have e : lensetV cx = some res := e
  unfold lensetV at e
  split at e
  · obtain ⟨ns, e3, e4⟩ := Option.bind_eq_some_iff.mp e
    split at e4
    · rename_i hl
      cases e4
      obtain ⟨a, vs, rfl, t, r⟩ := sx
      rw [repL_ints r e3] at t
      exact ⟨a, ns, rfl, .of t, of_decide_eq_true hl, P.val R0 rfl⟩
    · cases e4
  · cases e
/-! ### dict(pairs) -/
theorem dict_pairs (R : RS I fr hs F L s σ H) : ∀ {xs : List PV} {vs : List V} {acc kvs : List (PV × PV)} {ws : List (Key × V)}, dctOf xs acc = some kvs → RepL I F L xs vs → RepD I F L acc ws →
    ∃ ps more, vs = ps.map V.ref ∧ Paired (fun p (kv : Key × V) => SqT I.K H p [kV kv.1, kv.2]) ps more ∧ RepD I F L kvs (mergeK ws more)
  | [], _, acc, kvs, ws, e, h, ha => by
    cases h
    cases (show some acc = some kvs from e)
    exact ⟨[], [], rfl, .nil, ha⟩
  | x :: xs, vs, acc, kvs, ws, e, h, ha => by
    obtain ⟨v, r, e1, h1, h2⟩ := h
    subst e1
    unfold dctOf at e
    split at e
    · cases (show _ from ‹_ :: _ = []›)
    · rename_i k u xs' heq
      injection heq with e3 e4
      subst e3 e4
      split at e
      · rename_i hk
        obtain ⟨kk, hkk⟩ := isKey_keyOf hk
        obtain ⟨p, us, e5, t, ru⟩ := h1
        obtain ⟨vk, r1, e6, rk, r2⟩ := ru
        obtain ⟨vx, r3, e7, rx', r4⟩ := r2
        cases r4
        subst e5 e6 e7
        have := kV_keyOf hkk rk
        subst this
        obtain ⟨ps, more, q1, q2, q3⟩ := dict_pairs R e h2 (ha.put hkk rx')
        subst q1
        exact ⟨p :: ps, (kk, vx) :: more, rfl, .cons (R.tupUp t).sq q2, q3⟩
      · cases e
    · cases e
def rDictB (K : PySem.W.Frag) : List V → Hp → VK → Prop := fun xs H Q => ∃ (a : Addr) (ps : List Addr) (kvs : List (Key × V)), xs = [.ref a] ∧ SqL K H a (ps.map V.ref) ∧ Paired (fun p kv => SqT K H p [kV kv.1, kv.2]) ps kvs ∧
    ∀ p, H p = none → Q (.ref p) (upd H p (.dK (mergeK [] kvs)))
theorem una_dict (R : RS I fr ((rx, x) :: hs) F L s σ H) (P : Post I W fr hs σ Q (unaR T cf .dict_ rx s)) : rDictB I.K [x] H Q := by
  obtain ⟨cx, res, sx, e, R0, P⟩ := una_open (by simp) R P
  have e : dictV cx = some res := e
  have P : Post I W fr hs σ Q (.ok (fresh res) s) := P
  unfold dictV at e
  split at e
  · obtain ⟨kvs, e3, e4⟩ := Option.map_eq_some_iff.mp e
    subst e4
    obtain ⟨a, vs, rfl, t, r⟩ := sx
    obtain ⟨ps, more, q1, q2, q3⟩ := dict_pairs R0 (ws := []) e3 r rfl
    subst q1
    exact ⟨a, ps, more, rfl, .of t, q2, fun p n => P.new R0 n ⟨_, rfl, q3⟩⟩
  · cases e
theorem bin_inAll {neg : Bool} (R : RS I fr ((ry, y) :: (rx, x) :: hs) F L s σ H) (P : Post I W fr hs σ Q (binR T cf (if neg then .notin else .isin) rx ry s)) : rInAll I.K neg x y H Q := by
  obtain ⟨cx, cy, res, sx, sy, e, R0, P⟩ := bin_open (by cases neg <;> simp) (by cases neg <;> simp) R P
  obtain ⟨b, eb, q⟩ : ∃ b, inB cx cy = some b ∧ Q (.bl (if neg then !b else b)) H := by
    cases neg with
    | true =>
      obtain ⟨b, e1, e2⟩ := Option.map_eq_some_iff.mp (show (inB cx cy).map (fun b => PV.bl (!b)) = some res from e)
      subst e2
      exact ⟨b, e1, P.val R0 rfl⟩
    | false =>
      obtain ⟨b, e1, e2⟩ := Option.map_eq_some_iff.mp (show (inB cx cy).map PV.bl = some res from e)
      subst e2
      exact ⟨b, e1, P.val R0 rfl⟩
  by_cases hd : ∃ kvs, cy = .dct kvs
  · obtain ⟨kvs, rfl⟩ := hd
    refine .inr ?_
    have eb : (if isKey 0 cx then some (dctGet cx kvs).isSome else none) = some b := by
      cases cx <;> exact eb
    split at eb
    · rename_i hk
      cases eb
      obtain ⟨kk, hkk⟩ := isKey_keyOf hk
      obtain ⟨a, ws, rfl, t, r⟩ := sy
      refine ⟨a, ws, kk, rfl, shown_key hkk sx, t, ?_⟩
      have g := r.get hkk
      have : (valV ws kk).isSome = (dctGet cx kvs).isSome := by
        cases h : dctGet cx kvs with
        | none => rw [h] at g; rw [g]; rfl
        | some z => rw [h] at g; obtain ⟨v, g1, _⟩ := g; rw [g1]; rfl
      rw [this]
      exact q
    · cases eb
  · exact .inl (bin_in R0 sx sy eb (fun kvs z => hd ⟨kvs, z⟩) q)
theorem bin_count (R : RS I fr ((ry, y) :: (rx, x) :: hs) F L s σ H) (P : Post I W fr hs σ Q (binR T cf .count rx ry s)) : rCntI I.K x [y] H Q := by
  obtain ⟨cx, cy, res, sx, sy, e, R0, P⟩ := bin_open (by simp) (by simp) R P
  have e : countV cx cy = some res := e
  unfold countV at e
  split at e
  · obtain ⟨ns, e3, e4⟩ := Option.map_eq_some_iff.mp e
    subst e4
    obtain ⟨a, vs, rfl, t, r⟩ := sx
    rw [repL_ints r e3] at t
    exact ⟨a, ns, _, rfl, by rw [show y = V.int _ from sy], .of t, P.val R0 rfl⟩
  · cases e
theorem find_toD {d : PV} (pd : plain d = true) : ∀ {xs : List PV} {k : Nat}, plainL xs = true → xs.findIdx? (fun x => pvEq x d) = some k →
    ∃ z, (toDL xs)[k]? = some z ∧ PyData.eqv z (toD d) = true ∧ ∀ (m : Nat) (z' : PyData), m < k → (toDL xs)[m]? = some z' → PyData.eqv z' (toD d) = false
  | xs, k, hp, h => by
    obtain ⟨hk, h1, h2⟩ := List.findIdx?_eq_some_iff_getElem.mp h
    rw [toDL_map]
    refine ⟨toD xs[k], by rw [List.getElem?_map, List.getElem?_eq_getElem hk]; rfl, ?_, fun m z' hm hz => ?_⟩
    · rw [eqv_toD _ _ (plainL_mem hp _ (List.getElem_mem hk)) pd]; exact h1
    · have hml : m < xs.length := Nat.lt_trans hm hk
      rw [List.getElem?_map, List.getElem?_eq_getElem hml] at hz
      cases hz
      rw [eqv_toD _ _ (plainL_mem hp _ (List.getElem_mem hml)) pd]
      have := h2 m hm
      simpa using this
/-- what index asks of a list or a tuple -/
theorem bin_index (R : RS I fr ((ry, y) :: (rx, x) :: hs) F L s σ H) (P : Post I W fr hs σ Q (binR T cf .index rx ry s)) :
    ∃ cx, view s rx = some cx ∧ ((∃ xs, cx = .tup xs) ∧ rIndexP I.K true x [y] H Q ∨ (∃ xs, cx = .lst xs) ∧ rIndexP I.K false x [y] H Q) := by
  obtain ⟨cx, ex, P⟩ := Post.opt (o := view s rx) (P := P)
  obtain ⟨cy, ey, P⟩ := Post.opt (o := view s ry) (P := P)
  obtain ⟨res, er, P⟩ := Post.opt (o := indexV cx cy) (P := P)
  have sx : Shown I F L H cx x := R.shown (by simp) ex
  have sy : Shown I F L H cy y := R.shown (by simp) ey
  have R0 := R.drop.drop
  have P : Post I W fr hs σ Q (.ok (.val res) s) := P
  refine ⟨cx, ex, ?_⟩
  unfold indexV at er
  split at er
  · split at er
    · rename_i h
      obtain ⟨p1, p2, hm⟩ := dep_in h
      obtain ⟨k, hk, e2⟩ := Option.map_eq_some_iff.mp er
      subst e2
      obtain ⟨z, g1, g2, g3⟩ := find_toD p1 p2 hk
      obtain ⟨a, vs, rfl, t, r⟩ := sx
      exact .inl ⟨⟨_, rfl⟩, a, y, _, _, vs, k, z, rfl, rfl, R0.tupUp t, R0.dpL _ vs p2 r, R0.dpS p1 sy, canLay_toDL _ p2, canLay_toD _ p1, hm, g1, g2, g3, P.val R0 rfl⟩
    · cases er
  · split at er
    · rename_i h
      obtain ⟨p1, p2, hm⟩ := dep_in (x := cy) (by exact h)
      obtain ⟨k, hk, e2⟩ := Option.map_eq_some_iff.mp er
      subst e2
      obtain ⟨z, g1, g2, g3⟩ := find_toD p1 p2 hk
      obtain ⟨a, vs, rfl, t, r⟩ := sx
      exact .inr ⟨⟨_, rfl⟩, a, y, _, _, vs, k, z, rfl, rfl, .of t, R0.dpL _ vs p2 r, R0.dpS p1 sy, canLay_toDL _ p2, canLay_toD _ p1, hm, g1, g2, g3, P.val R0 rfl⟩
    · cases er
  · cases er
theorem bin_min2 (R : RS I fr ((ry, y) :: (rx, x) :: hs) F L s σ H) (P : Post I W fr hs σ Q (binR T cf .min2 rx ry s)) : ∃ i j, [x, y] = [.int i, .int j] ∧ Q (.int (if j < i then j else i)) H := by
  obtain ⟨i, j, h1, h2, _, q⟩ := bin_int (C := fun _ _ => True) (g := fun i j => .int (if j < i then j else i)) (gp := fun i j => .int (if j < i then j else i)) (by simp) (by simp) rfl (fun _ _ => rfl) (fun i j r e => ⟨trivial, (Option.some.inj e).symm⟩) (fun _ _ => rfl) R P
  exact ⟨i, j, by rw [h1, h2], q⟩
theorem bin_max2 (R : RS I fr ((ry, y) :: (rx, x) :: hs) F L s σ H) (P : Post I W fr hs σ Q (binR T cf .max2 rx ry s)) : ∃ i j, [x, y] = [.int i, .int j] ∧ Q (.int (if j > i then j else i)) H := by
  obtain ⟨i, j, h1, h2, _, q⟩ := bin_int (C := fun _ _ => True) (g := fun i j => .int (if j > i then j else i)) (gp := fun i j => .int (if j > i then j else i)) (by simp) (by simp) rfl (fun _ _ => rfl) (fun i j r e => ⟨trivial, (Option.some.inj e).symm⟩) (fun _ _ => rfl) R P
  exact ⟨i, j, by rw [h1, h2], q⟩
end
end Nr
end

section
set_option Elab.async false
set_option linter.all false
set_option maxRecDepth 100000
set_option maxHeartbeats 4000000
/-! E14: the text of an expression against its core; contexts. -/
namespace Nr
open PySem PySem.Spec PyProof.Rows L2 PySem.W

/-- names that no law's program binds -/
def blts : List Str := ["len", "abs", "int", "tuple", "list", "sorted", "sum", "min", "max", "all", "any", "dict", "range", "enumerate", "zip", "isinstance", "bool", "str", "set", "repr"]
/-- a law's names -/
structure Nm where
  N : List Str
  /-- what is asked of exceptions and of what may not stand in a handler -/
  cm : Bool
  fnn : Nat → Option Str
  cln : Nat → Option Str
  con : Str → Option PV
  an : Nat → Str
  mn : Nat → Str
  /-- an exception's class by its name; fields that are read of exceptions -/
  exn : Nat → Option Str
  rsn : Nat → Bool
  exf : Nat → Bool
structure Good (I : Inf) (n : Nm) (X : Cx) : Prop where
  pP : X.prog = I.P
  pw : X.w = I.w
  pK : X.K = I.K
  pmg : X.mg = I.mg
  pb : X.base = I.base
  pN : X.N = n.N
  nd : X.N.Nodup
  calm : n.cm = true → X.calm = true
  un : X.A.units + 64 < cLine
  blt : ∀ x ∈ blts, I.mg x = none
  con : ∀ x v, n.con x = some v → ∃ u w, I.mg x = some u ∧ RelV w u ∧ ∀ F L, RepV I F L v w
  an : ∀ f, I.an f = n.an f
  /-- in a handler -/
  sut : n.cm = false → ∃ (X0 : Cx) (a : Addr) (oe : Obj) (cls : Value) (d : Option Addr) (pn : List (Addr × Obj)) (c : Nat), X = X0.suite a ((a, oe) :: pn) ∧ Zc cls d oe ∧ (∃ vs, oe.data = .fields vs) ∧ I.cur = some (c, a, d) ∧ cls = .ref (I.cad c) ∧ XfC I.K (I.cad c) ∧
    ∀ f, n.exf f = true → PySem.W.findIn I.K (.ref (I.cad c)) (I.an f) = some none
def visB (sc : Scope) (x : Str) : Bool := match sc.names.lookup x with
  | some .local => true
  | some .cell => true
  | some .free => true
  | _ => false
theorem visB_ok {sc : Scope} {x : Str} (h : visB sc x = true) : Vis sc x := by
  unfold visB at h
  unfold Vis
  split at h <;> first | (simp_all; done) | cases h
def locB (sc : Scope) (x : Str) : Bool := match sc.names.lookup x with
  | some .local => true
  | some .cell => true
  | _ => false
theorem locB_ok {sc : Scope} {x : Str} (h : locB sc x = true) : L2.Loc sc x := by
  unfold locB at h
  unfold L2.Loc
  split at h <;> first | (simp_all; done) | cases h
def glB (sc : Scope) (x : Str) : Bool := match sc.names.lookup x with
  | some .globalImplicit => true
  | _ => false
theorem glB_ok {X : Cx} {x : Str} (h : glB X.env.scope x = true) : Gl X x := by
  unfold glB at h
  unfold Gl Env.kindOf
  split at h <;> first | (assumption; done) | cases h
def dbg (x : Str) : Bool := x == ("__debug__" : Str) || x == ("__classdict__" : Str) || x == ("__name__" : Str)
/-- a built-in's name, as it stands -/
def bltB (sc : Scope) (x y : Str) : Bool := y == x && blts.contains x && glB sc x
def noStar : Expr → Bool
  | .Starred _ _ => false
  | _ => true
theorem noStar_each {e : Expr} {es : List Expr} {env : Env} (h : noStar e = true) : starEach (e :: es) env = (false, eval e env) :: starEach es env := by
  cases e <;> first | rfl | (cases h)
theorem noStar_any {pos : Pos} {env : Env} : ∀ {es : List Expr}, es.all noStar = true → (backTo pos (starEach es env)).any (·.1) = false
  | [], _ => rfl
  | e :: es, h => by
    rw [List.all_cons, Bool.and_eq_true] at h
    rw [noStar_each h.1]
    show (false || (backTo pos (starEach es env)).any (·.1)) = false
    rw [noStar_any h.2]; rfl
theorem noStar_all {pos : Pos} {env : Env} : ∀ {es : List Expr}, es.all noStar = true → (backTo pos (starEach es env)).all (fun x => !x.1) = true
  | [], _ => rfl
  | e :: es, h => by
    rw [List.all_cons, Bool.and_eq_true] at h
    rw [noStar_each h.1]
    show (true && (backTo pos (starEach es env)).all (fun x => !x.1)) = true
    rw [noStar_all h.2]; rfl
def noSet : Expr → Bool
  | .Set _ _ _ => false
  | _ => true
theorem noSet_mark {e : Expr} (h : noSet e = true) (op : CmpOp) : behindInMarks op e = false := by
  cases e <;> first | rfl | (cases h)
def noSlice : Expr → Bool
  | .Slice _ _ _ _ => false
  | _ => true
theorem noSlice_ix {e : Expr} (h : noSlice e = true) : PlainIx e := by
  intro o i
  cases e <;> first | rfl | (cases h)
def plainBase : Expr → Bool
  | .Call (.Name id _) [] [] _ => id != "super"
  | _ => true
theorem plainBase_ok {o : Expr} {m : Str} {env : Env} {w : Sem Value} (h : plainBase o = true) : attributeBase o m env w = w := by
  unfold attributeBase
  split
  · rename_i id _ _
    have h : (id != "super") = true := h
    rw [h]; rfl
  · rfl
/-- the truth of its value is its test -/
def plainTest : Expr → Bool
  | .UnaryOp _ _ _ => false
  | .BoolOp _ _ _ => false
  | .IfExp _ _ _ _ => false
  | .Compare _ _ _ _ => false
  | _ => true
theorem plainTest_ok {e : Expr} {env : Env} (h : plainTest e = true) : ∀ whole, isTrue e env whole = (do let v ← whole; standAt e.pos; holding [v] (truthy v)) := by
  intro w
  cases e <;> first | rfl | (cases h)

/-! ### weakening -/
theorem _root_.L2.PE.imp {X : Cx} {e : Expr} {t t' : TE} (h : PE X e t) (k : ∀ σ H Q, t' σ H Q → t σ H Q) : PE X e t' := ⟨fun pins s σ H Q I q => h.run pins s σ H Q I (k _ _ _ q)⟩
section
variable {I : Inf} {W : WX} {T : Tab} {cf : CallF} {σ : L2.St} {H : Hp} {Q : VK}
theorem tEv_una {op : UOp} {a : CE} {r : V → Hp → VK → Prop} (hr : ∀ fr hs F L s H rx x, RS I fr ((rx, x) :: hs) F L s σ H → Post I W fr hs σ Q (unaR T cf op rx s) → r x H Q) (h : tEv I W (evalE T cf (.una op a)) σ H Q) :
    tEv I W (evalE T cf a) σ H fun x H1 => r x H1 Q := by
  obtain ⟨fr, hs, F, L, s, R, P⟩ := h
  exact step R (List.Sublist.refl _) P fun rx s1 F1 L1 H1 x R1 P1 => hr _ _ _ _ _ _ _ _ R1 P1
theorem tEv_bin {op : BOp} {a b : CE} {r : R2} (hop : ∀ s x, recvOk op s x = true) (hr : ∀ fr hs F L s H rx ry x y, RS I fr ((ry, y) :: (rx, x) :: hs) F L s σ H → Post I W fr hs σ Q (binR T cf op rx ry s) → r x y H Q) (h : tEv I W (evalE T cf (.bin op a b)) σ H Q) :
    tEv I W (evalE T cf a) σ H fun x H1 => tEv I W (evalE T cf b) σ H1 fun y H2 => r x y H2 Q := by
  obtain ⟨fr, hs, F, L, s, R, P⟩ := h
  refine step R (List.Sublist.refl _) P fun rx s1 F1 L1 H1 x R1 P1 => ?_
  have P1 : Post I W fr hs σ Q (if recvOk op s1 rx = true then (evalE T cf b s1).bind fun y s2 => binR T cf op rx y s2 else .bad) := P1
  rw [if_pos (hop _ _)] at P1
  exact step R1 (List.sublist_cons_self _ _) P1 fun ry s2 F2 L2 H2 y R2 P2 => hr _ _ _ _ _ _ _ _ _ _ R2 P2
theorem tEv_var {i : Nat} (h : tEv I W (evalE T cf (.var i)) σ H Q) : ∃ v, σ[i]? = some (some v) ∧ Q v H := by
  obtain ⟨fr, hs, F, L, s, R, P⟩ := h
  have P : Post I W fr hs σ Q (match s.get i with
    | .non => .bad
    | .val v => .ok (.val v) s
    | .own _ => .ok (.slot i) s) := P
  cases hg : s.get i with
  | non => rw [hg] at P; exact P.elim
  | val x =>
    rw [hg] at P
    obtain ⟨u, e, r⟩ := R.val i x hg
    exact ⟨u, e, P.val R r⟩
  | own c =>
    rw [hg] at P
    obtain ⟨a, e, _⟩ := R.own i c hg
    exact ⟨.ref a, e, P F L H _ (R.pushS e)⟩
theorem tEv_cst {x : PV} {v : V} (hv : ∀ F L, RepV I F L x v) (h : tEv I W (evalE T cf (.cst x)) σ H Q) : Q v H := by
  obtain ⟨fr, hs, F, L, s, R, P⟩ := h
  exact Post.val P R (hv F L)
end
/-! ### constants -/
def cstB (n : Nm) (sc : Scope) (v : PV) : Expr → Bool
  | .Constant .none _ _ => match v with
    | .non => true
    | _ => false
  | .Constant (.bool b) _ _ => match v with
    | .bl c => c == b
    | _ => false
  | .Constant (.int i) _ _ => match v with
    | .int j => i == j
    | _ => false
  | .Constant (.str x) _ _ => match v with
    | .str y => x == y
    | _ => false
  | _ => false
/-- a module's constant by its name: v is what the table has -/
def sameV : PV → PV → Bool
  | .int i, .int j => i == j
  | .str x, .str y => x == y
  | .tup xs, .tup ys => go xs ys
  | _, _ => false
where go : List PV → List PV → Bool
  | [], [] => true
  | .int i :: xs, .int j :: ys => i == j && go xs ys
  | .str i :: xs, .str j :: ys => i == j && go xs ys
  | _, _ => false
theorem sameV_go : ∀ {xs ys : List PV}, sameV.go xs ys = true → xs = ys
  | [], [], _ => rfl
  | [], _ :: _, h => by cases h
  | .int i :: xs, .int j :: ys, h => by
    have h : (i == j && sameV.go xs ys) = true := h
    rw [Bool.and_eq_true, beq_iff_eq] at h
    rw [h.1, sameV_go h.2]
  | .str i :: xs, .str j :: ys, h => by
    have h : (i == j && sameV.go xs ys) = true := h
    rw [Bool.and_eq_true, beq_iff_eq] at h
    rw [h.1, sameV_go h.2]
  | .int _ :: _, .non :: _, h | .int _ :: _, .bl _ :: _, h | .int _ :: _, .str _ :: _, h | .int _ :: _, .tup _ :: _, h | .int _ :: _, .lst _ :: _, h | .int _ :: _, .dct _ :: _, h | .int _ :: _, .obj _ _ :: _, h | .int _ :: _, .loc _ :: _, h | .int _ :: _, .fn _ :: _, h | .int _ :: _, .err _ _ :: _, h | .int _ :: _, .scr _ :: _, h | .int _ :: _, [], h => by cases h
  | .str _ :: _, .non :: _, h | .str _ :: _, .bl _ :: _, h | .str _ :: _, .int _ :: _, h | .str _ :: _, .tup _ :: _, h | .str _ :: _, .lst _ :: _, h | .str _ :: _, .dct _ :: _, h | .str _ :: _, .obj _ _ :: _, h | .str _ :: _, .loc _ :: _, h | .str _ :: _, .fn _ :: _, h | .str _ :: _, .err _ _ :: _, h | .str _ :: _, .scr _ :: _, h | .str _ :: _, [], h => by cases h
  | .non :: _, _, h | .bl _ :: _, _, h | .tup _ :: _, _, h | .lst _ :: _, _, h | .dct _ :: _, _, h | .obj _ _ :: _, _, h | .loc _ :: _, _, h | .fn _ :: _, _, h | .err _ _ :: _, _, h | .scr _ :: _, _, h => by cases h
theorem sameV_eq {x y : PV} (h : sameV x y = true) : x = y := by
  unfold sameV at h
  split at h
  · rw [beq_iff_eq] at h; rw [h]
  · rw [beq_iff_eq] at h; rw [h]
  · rw [sameV_go h]
  · cases h
def conB (n : Nm) (sc : Scope) (v : PV) : Expr → Bool
  | .Name x _ => glB sc x && !dbg x && (match n.con x with
    | some w => sameV w v
    | none => false)
  | _ => false
theorem not_dbg {x : Str} (h : (!dbg x) = true) : (x == ("__debug__" : Str)) = false ∧ (x == ("__classdict__" : Str)) = false ∧ x ≠ "__name__" := by
  unfold dbg at h
  simp only [Bool.not_eq_true', Bool.or_eq_false_iff] at h
  exact ⟨h.1.1, h.1.2, by simpa using h.2⟩
section
variable {I : Inf} {W : WX} {T : Tab} {cf : CallF} {n : Nm} {X : Cx} (g : Good I n X)
theorem s_cst {v : PV} {e : Expr} (h : cstB n X.env.scope v e = true) : PE X e (tEv I W (evalE T cf (.cst v))) := by
  unfold cstB at h
  split at h
  · split at h
    · exact pe_non.imp fun σ H Q q => tEv_cst (I := I) (x := .non) (v := .non) (fun _ _ => rfl) q
    · cases h
  · split at h
    · have h := eq_of_beq h
      subst h
      exact pe_bl.imp fun σ H Q q => tEv_cst (I := I) (x := .bl _) (v := .bl _) (fun _ _ => rfl) q
    · cases h
  · split at h
    · have h := eq_of_beq h
      subst h
      exact pe_int.imp fun σ H Q q => tEv_cst (I := I) (x := .int _) (v := .int _) (fun _ _ => rfl) q
    · cases h
  · split at h
    · have h := eq_of_beq h
      subst h
      exact pe_str.imp fun σ H Q q => tEv_cst (I := I) (x := .str _) (v := .str _) (fun _ _ => rfl) q
    · cases h
  · cases h
include g
theorem s_con {v : PV} {e : Expr} (h : conB n X.env.scope v e = true) : PE X e (tEv I W (evalE T cf (.cst v))) := by
  unfold conB at h
  split at h
  · rw [Bool.and_eq_true, Bool.and_eq_true] at h
    obtain ⟨⟨h1, h2⟩, h3⟩ := h
    split at h3
    · rename_i w hw
      obtain ⟨u, wv, e1, r1, r2⟩ := g.con _ w hw
      have := sameV_eq h3
      subst this
      exact (pe_glob (glB_ok h1) (by rw [g.pmg]; exact e1) r1 (not_dbg h2).1).imp fun σ H Q q => tEv_cst r2 q
    · cases h3
  · cases h
theorem s_var {i : Nat} {x : Str} {pos : Pos} (h1 : n.N[i]? = some x) (h2 : visB X.env.scope x = true) (h3 : (!dbg x) = true) : PE X (.Name x pos) (tEv I W (evalE T cf (.var i))) :=
  (pe_var (by rw [g.pN]; exact h1) (visB_ok h2) (not_dbg h3).1 (not_dbg h3).2.1).imp fun σ H Q q => tEv_var q
end
end Nr
end

section
set_option Elab.async false
set_option linter.all false
set_option maxRecDepth 100000
set_option maxHeartbeats 4000000
/-! E15: unary and binary forms. -/
namespace Nr
open PySem PySem.Spec PyProof.Rows L2 PySem.W

def uopName : UOp → Option Str
  | .len => some "len" | .abs => some "abs" | .int_ => some "int" | .tuple_ => some "tuple" | .list_ => some "list" | .sorted_ => some "sorted" | .sum_ => some "sum"
  | .min1 => some "min" | .max1 => some "max" | .all_ => some "all" | .any_ => some "any" | .dict_ => some "dict" | _ => none
/-- wants no handler around it -/
def uopCalm : UOp → Bool
  | .sum_ => true | .min1 => true | .max1 => true | .all_ => true | .any_ => true | .dict_ => true | .list_ => true | _ => false
def unaC (n : Nm) (sc : Scope) (op : UOp) : Expr → Option Expr
  | .Call (.Name y _) [x] [] _ => match uopName op with
    | some nm => if bltB sc nm y && noStar x && (n.cm || !uopCalm op) then some x else none
    | none => none
  | _ => none
def unaF (n : Nm) (sc : Scope) (op : UOp) (e : Expr) : Option Expr := match op with
  | .neg => match e with
    | .UnaryOp .USub x _ => some x
    | _ => none
  | .isNone => match e with
    | .Compare x [.Is] [.Constant .none _ _] _ => some x
    | _ => none
  | .notNone => match e with
    | .Compare x [.IsNot] [.Constant .none _ _] _ => some x
    | _ => none
  | .rev => match e with
    | .Subscript x (.Slice none none (some (.UnaryOp .USub (.Constant (.int i) _ _) _)) _) _ => if i == 1 then some x else none
    | _ => none
  | .lenset => match e with
    | .Call (.Name y _) [.Call (.Name z _) [x] [] _] [] _ => if bltB sc "len" y && bltB sc "set" z && noStar x && n.cm then some x else none
    | _ => none
  | op => unaC n sc op e
section
variable {I : Inf} {W : WX} {T : Tab} {cf : CallF} {n : Nm} {X : Cx}
theorem bltB_ok (g : Good I n X) {x y : Str} (h : bltB X.env.scope x y = true) : y = x ∧ Gl X x ∧ X.mg x = none := by
  unfold bltB at h
  rw [Bool.and_eq_true, Bool.and_eq_true] at h
  have e := eq_of_beq h.1.1
  refine ⟨e, glB_ok h.2, ?_⟩
  rw [g.pmg]
  exact g.blt x (List.contains_iff_mem.mp h.1.2)
theorem starOne {e : Expr} {env : Env} (h : noStar e = true) : starEach [e] env = (false, eval e env) :: starEach [] env := noStar_each h
/-- f(x), f a built-in function | type, one argument -/
theorem pe_cB1 {op : UOp} {nm : Str} {id : String} {r : List V → Hp → VK → Prop} {a : CE} {x e : Expr} (g : Good I n X) (hnm : uopName op = some nm) (hv : bootBuiltins nm = some (.builtin id)) (hn : nm ≠ "__name__") (hdb : (nm == ("__debug__" : Str)) = false) (hc : CallR X (.builtin id) r)
    (hu : unaC n X.env.scope op e = some x) (hx : PE X x (tEv I W (evalE T cf a))) : PE X e (tCB r (tCons (tEv I W (evalE T cf a)) tNil)) := by
  unfold unaC at hu
  split at hu
  · rw [hnm] at hu
    dsimp only at hu
    split at hu
    · rename_i hb
      cases hu
      rw [Bool.and_eq_true, Bool.and_eq_true] at hb
      obtain ⟨rfl, hg, hm⟩ := bltB_ok g hb.1.1
      exact pe_callB hc hg hm hv (pa_cons hx pa_nil (starOne hb.1.2)) hn hdb (starOne hb.1.2) rfl
    · cases hu
  · cases hu
theorem pe_cT1 {op : UOp} {nm : Str} {id : String} {r : List V → Hp → VK → Prop} {a : CE} {x e : Expr} (g : Good I n X) (hnm : uopName op = some nm) (hv : bootBuiltins nm = some (.type id)) (hn : nm ≠ "__name__") (hdb : (nm == ("__debug__" : Str)) = false) (hc : CallR X (.type id) r)
    (hu : unaC n X.env.scope op e = some x) (hx : PE X x (tEv I W (evalE T cf a))) : PE X e (tCB r (tCons (tEv I W (evalE T cf a)) tNil)) := by
  unfold unaC at hu
  split at hu
  · rw [hnm] at hu
    dsimp only at hu
    split at hu
    · rename_i hb
      cases hu
      rw [Bool.and_eq_true, Bool.and_eq_true] at hb
      obtain ⟨rfl, hg, hm⟩ := bltB_ok g hb.1.1
      exact pe_callTy hc hg hm hv (pa_cons hx pa_nil (starOne hb.1.2)) hn hdb (starOne hb.1.2) rfl
    · cases hu
  · cases hu
theorem una_calm {op : UOp} {x e : Expr} (g : Good I n X) (hop : uopCalm op = true) (hu : unaC n X.env.scope op e = some x) : X.calm = true := by
  unfold unaC at hu
  split at hu
  · split at hu
    · split at hu
      · rename_i hb
        rw [Bool.and_eq_true] at hb
        rw [hop] at hb
        exact g.calm (by simpa using hb.2)
      · cases hu
    · cases hu
  · cases hu
theorem s_una (hT : ∀ c, T.lnm c = none) (g : Good I n X) {op : UOp} {a : CE} {e x : Expr} (hu : unaF n X.env.scope op e = some x) (hx : PE X x (tEv I W (evalE T cf a))) : PE X e (tEv I W (evalE T cf (.una op a))) := by
  have hun := g.un
  have hK := g.pK
  cases op with
  | neg =>
    unfold unaF at hu
    dsimp only at hu
    split at hu
    · cases hu
      exact (pe_un un_neg hx).imp fun σ H Q q => tEv_una (fun _ _ _ _ _ _ _ _ R P => una_neg R P) q
    · cases hu
  | isNone =>
    unfold unaF at hu
    dsimp only at hu
    split at hu
    · cases hu
      exact (pe_cmp (pc_isN hx)).imp fun σ H Q q => tEv_una (r := fun x H Q => Q (.bl (decide (x = .non))) H) (fun _ _ _ _ _ _ _ _ R P => una_isNone R P) q
    · cases hu
  | notNone =>
    unfold unaF at hu
    dsimp only at hu
    split at hu
    · cases hu
      exact (pe_cmp (pc_notN hx)).imp fun σ H Q q => tEv_una (r := fun x H Q => Q (.bl (!decide (x = .non))) H) (fun _ _ _ _ _ _ _ _ R P => una_notNone R P) q
    · cases hu
  | rev =>
    unfold unaF at hu
    dsimp only at hu
    split at hu
    · split at hu
      · rename_i hi
        cases hu
        have hi := eq_of_beq hi
        subst hi
        refine (pe_revB hx).imp fun σ H Q q => ?_
        rw [hK]
        exact tEv_una (r := fun x H Q => ∃ a xs, x = .ref a ∧ ((SqL I.K H a xs ∧ ∀ p, H p = none → Q (.ref p) (upd H p (.lst xs.reverse))) ∨ (SqT I.K H a xs ∧ newTup xs.reverse H Q))) (fun _ _ _ _ _ _ _ _ R P => una_rev R P) q
      · cases hu
    · cases hu
  | lenset =>
    unfold unaF at hu
    dsimp only at hu
    split at hu
    · split at hu
      · rename_i hb
        cases hu
        rw [Bool.and_eq_true, Bool.and_eq_true, Bool.and_eq_true] at hb
        obtain ⟨rfl, hg, hm⟩ := bltB_ok g hb.1.1.1
        obtain ⟨rfl, hg2, hm2⟩ := bltB_ok g hb.1.1.2
        refine (pe_lenSetB hg hm hg2 hm2 (g.calm hb.2) hx (starOne hb.1.2)).imp fun σ H Q q => ?_
        rw [hK]
        exact tEv_una (r := fun x H Q => ∃ (l : Addr) (ns : List Int), x = V.ref l ∧ SqL I.K H l (ns.map V.int) ∧ ns.length ≤ 4000 ∧ Q (.int (onceI ns).length) H) (fun _ _ _ _ _ _ _ _ R P => una_lenset R P) q
      · cases hu
    · cases hu
  | len =>
    have hu : unaC n X.env.scope .len e = some x := hu
    refine (pe_cB1 (op := .len) (nm := "len") g rfl (by decide +kernel) (by decide) (by decide) cr_lenB hu hx).imp fun σ H Q q => ?_
    rw [hK]
    exact tEv_una (r := rOf (rLenB I.K)) (fun _ _ _ _ _ _ _ _ R P => una_len hT R P) q
  | abs =>
    have hu : unaC n X.env.scope .abs e = some x := hu
    refine (pe_cB1 (op := .abs) (nm := "abs") g rfl (by decide +kernel) (by decide) (by decide) call_abs hu hx).imp fun σ H Q q => ?_
    exact tEv_una (r := rOf fun xs H Q => ∃ i, xs = [.int i] ∧ Q (.int (if i < 0 then -i else i)) H) (fun _ _ _ _ _ _ _ _ R P => una_abs R P) q
  | int_ =>
    have hu : unaC n X.env.scope .int_ e = some x := hu
    refine (pe_cT1 (op := .int_) (nm := "int") g rfl (by decide +kernel) (by decide) (by decide) call_int1 hu hx).imp fun σ H Q q => ?_
    exact tEv_una (r := rOf fun xs H Q => (∃ i, xs = [.int i] ∧ Q (.int i) H) ∨ ∃ k, xs = [.bl k] ∧ Q (.int (if k then 1 else 0)) H) (fun _ _ _ _ _ _ _ _ R P => una_int R P) q
  | tuple_ =>
    have hu : unaC n X.env.scope .tuple_ e = some x := hu
    refine (pe_cT1 (op := .tuple_) (nm := "tuple") g rfl (by decide +kernel) (by decide) (by decide) cr_tupB hu hx).imp fun σ H Q q => ?_
    rw [hK]
    exact tEv_una (r := rOf (rTupB I.K)) (fun _ _ _ _ _ _ _ _ R P => una_tuple R P) q
  | list_ =>
    have hu : unaC n X.env.scope .list_ e = some x := hu
    refine (pe_cT1 (op := .list_) (nm := "list") g rfl (by decide +kernel) (by decide) (by decide) (cr_listB (una_calm g rfl hu)) hu hx).imp fun σ H Q q => ?_
    rw [hK]
    exact tEv_una (r := rOf (rListB I.K)) (fun _ _ _ _ _ _ _ _ R P => una_list R P) q
  | sorted_ =>
    have hu : unaC n X.env.scope .sorted_ e = some x := hu
    refine (pe_cB1 (op := .sorted_) (nm := "sorted") g rfl (by decide +kernel) (by decide) (by decide) (cr_sortB hun) hu hx).imp fun σ H Q q => ?_
    rw [hK]
    exact tEv_una (r := rOf (rSortB I.K)) (fun _ _ _ _ _ _ _ _ R P => una_sorted R P) q
  | sum_ =>
    have hu : unaC n X.env.scope .sum_ e = some x := hu
    refine (pe_cB1 (op := .sum_) (nm := "sum") g rfl (by decide +kernel) (by decide) (by decide) (cr_sumB (una_calm g rfl hu)) hu hx).imp fun σ H Q q => ?_
    rw [hK]
    exact tEv_una (r := rOf (rSumB I.K)) (fun _ _ _ _ _ _ _ _ R P => una_sum R P) q
  | min1 =>
    have hu : unaC n X.env.scope .min1 e = some x := hu
    refine (pe_cB1 (op := .min1) (nm := "min") g rfl (by decide +kernel) (by decide) (by decide) (cr_minB (una_calm g rfl hu) hun) hu hx).imp fun σ H Q q => ?_
    rw [hK]
    exact tEv_una (r := rOf (rBestB I.K minD)) (fun _ _ _ _ _ _ _ _ R P => una_min R P) q
  | max1 =>
    have hu : unaC n X.env.scope .max1 e = some x := hu
    refine (pe_cB1 (op := .max1) (nm := "max") g rfl (by decide +kernel) (by decide) (by decide) (cr_maxB (una_calm g rfl hu) hun) hu hx).imp fun σ H Q q => ?_
    rw [hK]
    exact tEv_una (r := rOf (rBestB I.K maxD)) (fun _ _ _ _ _ _ _ _ R P => una_max R P) q
  | all_ =>
    have hu : unaC n X.env.scope .all_ e = some x := hu
    refine (pe_cB1 (op := .all_) (nm := "all") g rfl (by decide +kernel) (by decide) (by decide) (cr_all (una_calm g rfl hu)) hu hx).imp fun σ H Q q => ?_
    rw [hK]
    exact tEv_una (r := rOf (rAll I.K)) (fun _ _ _ _ _ _ _ _ R P => una_all R P) q
  | any_ =>
    have hu : unaC n X.env.scope .any_ e = some x := hu
    refine (pe_cB1 (op := .any_) (nm := "any") g rfl (by decide +kernel) (by decide) (by decide) (cr_any (una_calm g rfl hu)) hu hx).imp fun σ H Q q => ?_
    rw [hK]
    exact tEv_una (r := rOf (rAny I.K)) (fun _ _ _ _ _ _ _ _ R P => una_any R P) q
  | dict_ =>
    have hu : unaC n X.env.scope .dict_ e = some x := hu
    refine (pe_cT1 (op := .dict_) (nm := "dict") g rfl (by decide +kernel) (by decide) (by decide) (call_dictP (una_calm g rfl hu)) hu hx).imp fun σ H Q q => ?_
    rw [hK]
    exact tEv_una (r := rOf (rDictB I.K)) (fun _ _ _ _ _ _ _ _ R P => una_dict R P) q
  | sortset => unfold unaF unaC at hu; dsimp only [uopName] at hu; split at hu <;> cases hu
  | repr_ => unfold unaF unaC at hu; dsimp only [uopName] at hu; split at hu <;> cases hu
  | str_ => unfold unaF unaC at hu; dsimp only [uopName] at hu; split at hu <;> cases hu
end
end Nr
end

section
set_option Elab.async false
set_option linter.all false
set_option maxRecDepth 100000
set_option maxHeartbeats 4000000
/-! E16: binary forms. -/
namespace Nr
open PySem PySem.Spec PyProof.Rows L2 PySem.W

def bopBin : BOp → Option Operator
  | .add => some .Add | .sub => some .Sub | .mul => some .Mult | .fdiv => some .FloorDiv | .mod => some .Mod | .pow => some .Pow | .shl => some .LShift | .shr => some .RShift | .band => some .BitAnd | .bor => some .BitOr
  | _ => none
def bopCmp : BOp → Option CmpOp
  | .eq => some .Eq | .ne => some .NotEq | .lt => some .Lt | .le => some .LtE | .gt => some .Gt | .ge => some .GtE | .isin => some .In | .notin => some .NotIn
  | _ => none
def eqOp (a b : Operator) : Bool := match a, b with
  | .Add, .Add => true | .Sub, .Sub => true | .Mult, .Mult => true | .FloorDiv, .FloorDiv => true | .Mod, .Mod => true | .Pow, .Pow => true | .LShift, .LShift => true | .RShift, .RShift => true | .BitAnd, .BitAnd => true | .BitOr, .BitOr => true
  | _, _ => false
def eqCm (a b : CmpOp) : Bool := match a, b with
  | .Eq, .Eq => true | .NotEq, .NotEq => true | .Lt, .Lt => true | .LtE, .LtE => true | .Gt, .Gt => true | .GtE, .GtE => true | .In, .In => true | .NotIn, .NotIn => true
  | _, _ => false
theorem eqOp_ok {a b : Operator} (h : eqOp a b = true) : a = b := by cases a <;> cases b <;> first | rfl | (cases h)
theorem eqCm_ok {a b : CmpOp} (h : eqCm a b = true) : a = b := by cases a <;> cases b <;> first | rfl | (cases h)
def isIdx : BOp → Bool
  | .idx => true
  | _ => false
def binF (n : Nm) (sc : Scope) (op : BOp) : Expr → Option (Expr × Expr)
  | .BinOp a o b _ => match bopBin op with
    | some o' => if eqOp o' o then some (a, b) else none
    | none => none
  | .Compare a [o] [b] _ => match bopCmp op with
    | some o' => if eqCm o' o && noSet b then some (a, b) else none
    | none => none
  | .Subscript a b _ => if isIdx op && noSlice b then some (a, b) else none
  | .Call (.Name y _) [a, b] [] _ => match op with
    | .min2 => if bltB sc "min" y && noStar a && noStar b && n.cm then some (a, b) else none
    | .max2 => if bltB sc "max" y && noStar a && noStar b && n.cm then some (a, b) else none
    | _ => none
  | .Call (.Attribute a m ap) [b] [] p => match op with
    | .index => if m == ("index" : Str) && plainBase a && (ap.endLine == p.line) && noStar b then some (a, b) else none
    | .count => if m == ("count" : Str) && plainBase a && (ap.endLine == p.line) && noStar b then some (a, b) else none
    | _ => none
  | _ => none
section
variable {I : Inf} {W : WX} {T : Tab} {cf : CallF} {n : Nm} {X : Cx} {fr : Frm} {hs : List (RV × V)} {F : Hp} {L : List Addr} {s : St} {σ : L2.St} {H : Hp} {Q : VK} {rx ry : RV} {x y : V}
theorem bin_eq {neg : Bool} (hT : ∀ c, T.eqm c = none) (R : RS I fr ((ry, y) :: (rx, x) :: hs) F L s σ H) (P : Post I W fr hs σ Q (eqR T cf neg rx ry s)) : if neg then rNeP I.K x y H Q else rEqP I.K x y H Q := by
  obtain ⟨cx, ex, P⟩ := Post.opt (o := view s rx) (P := P)
  obtain ⟨cy, ey, P⟩ := Post.opt (o := view s ry) (P := P)
  have sx : Shown I F L H cx x := R.shown (by simp) ex
  have sy : Shown I F L H cy y := R.shown (by simp) ey
  have R0 := R.drop.drop
  cases hc : clsOf cx with
  | some c =>
    simp only [hc] at P
    obtain ⟨f, ef, _⟩ := Post.opt (o := T.eqm c) (P := P)
    rw [hT] at ef; cases ef
  | none =>
    simp only [hc] at P
    obtain ⟨res, er, P⟩ := Post.opt (P := P)
    cases neg with
    | true =>
      have er : neV cx cy = some res := er
      unfold neV at er
      split at er
      · rename_i h
        cases er
        exact bin_neD R0 sx sy h (P.val R0 rfl)
      · cases er
    | false =>
      have er : eqV cx cy = some res := er
      unfold eqV at er
      split at er
      · rename_i h
        cases er
        exact bin_eqD R0 sx sy h (P.val R0 rfl)
      · cases er
/-- the rule of a binary operator -/
def rBin (K : PySem.W.Frag) : BOp → R2
  | .add => rAddB K | .sub => rI0 fun i j => .int (i - j) | .mul => rMulB | .fdiv => rI CDiv fun i j => .int (i / j) | .mod => rI (fun _ j => 0 < j) fun i j => .int (i % j) | .pow => rI CPow fun i j => .int (i ^ j.toNat)
  | .shl => rI CPow fun i j => .int (i * 2 ^ j.toNat) | .shr => rI (fun _ j => 0 ≤ j) fun i j => .int (i / 2 ^ j.toNat) | .band => rI0 fun i j => .int (Builtin.bitAnd i j) | .bor => rI0 fun i j => .int (Builtin.bitOr i j)
  | .eq => rEqP K | .ne => rNeP K | .lt => rI0 fun i j => .bl (decide (i < j)) | .le => rI0 fun i j => .bl (decide (i ≤ j)) | .gt => rI0 fun i j => .bl (decide (j < i)) | .ge => rI0 fun i j => .bl (decide (j ≤ i))
  | .isin => rInAll K false | .notin => rInAll K true | .idx => rIdxB K
  | _ => fun _ _ _ _ => False
theorem rBin_ok {op : BOp} (hT : ∀ c, T.eqm c = none) (hb : bopBin op ≠ none ∨ bopCmp op ≠ none ∨ isIdx op = true) (R : RS I fr ((ry, y) :: (rx, x) :: hs) F L s σ H) (P : Post I W fr hs σ Q (binR T cf op rx ry s)) : rBin I.K op x y H Q := by
  cases op with
  | add => exact bin_add R P
  | sub => exact bin_sub R P
  | mul => exact bin_mul R P
  | fdiv => exact bin_fdiv R P
  | mod => exact bin_mod R P
  | pow => exact bin_pow R P
  | shl => exact bin_shl R P
  | shr => exact bin_shr R P
  | band => exact bin_band R P
  | bor => exact bin_bor R P
  | eq => exact bin_eq (neg := false) hT R P
  | ne => exact bin_eq (neg := true) hT R P
  | lt => exact bin_cmp (by simp) (by simp) rfl (fun _ _ => rfl) R P
  | le => exact bin_cmp (by simp) (by simp) rfl (fun _ _ => rfl) R P
  | gt => exact bin_cmp (by simp) (by simp) rfl (fun _ _ => rfl) R P
  | ge => exact bin_cmp (by simp) (by simp) rfl (fun _ _ => rfl) R P
  | isin => exact bin_inAll (neg := false) R P
  | notin => exact bin_inAll (neg := true) R P
  | idx => exact bin_idx R P
  | index => simp [bopBin, bopCmp, isIdx] at hb
  | count => simp [bopBin, bopCmp, isIdx] at hb
  | min2 => simp [bopBin, bopCmp, isIdx] at hb
  | max2 => simp [bopBin, bopCmp, isIdx] at hb
theorem op_binB (g : Good I n X) {op : BOp} {o : Operator} (h : bopBin op = some o) : OpR X (binaryOp o) (rBin X.K op) := by
  cases op <;> first | (cases h; done) | skip
  · cases h; exact op_addB
  · cases h; exact op_sub
  · cases h; exact op_mulB
  · cases h; exact op_fdiv
  · cases h; exact op_mod
  · cases h; exact op_pow
  · cases h; exact op_shl
  · cases h; exact op_shr
  · cases h; exact op_and
  · cases h; exact op_or
theorem op_cmpB (g : Good I n X) {op : BOp} {o : CmpOp} (h : bopCmp op = some o) : OpR X (compareOp o) (rBin X.K op) := by
  have hu := g.un
  cases op <;> first | (cases h; done) | skip
  · cases h; exact op_eqP hu
  · cases h; exact op_neP hu
  · cases h; exact op_lt
  · cases h; exact op_le
  · cases h; exact op_gt
  · cases h; exact op_ge
  · cases h; exact op_inAll hu
  · cases h; exact op_notInAll hu
theorem recvOk_of {op : BOp} (h : bopBin op ≠ none ∨ bopCmp op ≠ none ∨ isIdx op = true) (s : St) (x : RV) : recvOk op s x = true := by
  cases op <;> first | rfl | (simp [bopBin, bopCmp, isIdx] at h)
/-- index, count: what the receiver is, ahead of the argument -/
def altIdxL (X : Cx) (hu : X.A.units + 64 < cLine) : MtAlt X "index" := ⟨"list", "list.index", PySem.F.plainAttrs_list, PySem.F.slot_list_index, PySem.F.type_list_index, fun x H => tyV X.K "list" x H, fun I r t => tyV_is I r t, _, mt_indexL hu⟩
def altIdxT (X : Cx) (hu : X.A.units + 64 < cLine) : MtAlt X "index" := ⟨"tuple", "tuple.index", PySem.F.plainAttrs_tuple, PySem.F.slot_tuple_index, PySem.F.type_tuple_index, fun x H => ∃ p vs, x = .ref p ∧ TupAt X.K H p vs, fun I r t => tupAt_ty I r t, _, mt_indexT hu⟩
def altCnt (X : Cx) : MtAlt X "count" := ⟨"list", "list.count", PySem.F.plainAttrs_list, PySem.F.slot_list_count, PySem.F.type_list_count, fun x H => tyV X.K "list" x H, fun I r t => tyV_is I r t, _, mt_lcount⟩
end
end Nr
end

section
set_option Elab.async false
set_option linter.all false
set_option maxRecDepth 100000
set_option maxHeartbeats 4000000
/-! E17: binary forms, sound. -/
namespace Nr
open PySem PySem.Spec PyProof.Rows L2 PySem.W
section
variable {I : Inf} {W : WX} {T : Tab} {cf : CallF} {n : Nm} {X : Cx} {fr : Frm} {hs : List (RV × V)} {F : Hp} {L : List Addr} {s : St} {σ : L2.St} {H : Hp} {Q : VK} {rx ry : RV} {x y : V}
/-- a tuple is seen as it is -/
theorem RS.viewTup (R : RS I fr hs F L s σ H) {r : RV} {v : V} (hm : (r, v) ∈ hs) {xs : List PV} (hv : view s r = some (.tup xs)) : r = .val (.tup xs) := by
  have h := R.hval _ hm
  cases r with
  | tmp c =>
    have hv : some c = some (PV.tup xs) := hv
    cases hv
    obtain ⟨a, _, ⟨o, _, rc, _⟩, _⟩ := h
    exact rc.elim
  | slot i =>
    have hv : (match s.get i with | .own c => some c | _ => none) = some (PV.tup xs) := hv
    cases hg : s.get i with
    | non => rw [hg] at hv; cases hv
    | val x => rw [hg] at hv; cases hv
    | own d =>
      rw [hg] at hv; cases hv
      obtain ⟨a, _, o, _, rc, _⟩ := R.own i _ hg
      exact rc.elim
  | val x =>
    cases x with
    | loc k =>
      obtain ⟨a, e, q⟩ := h
      have hv : s.cells[k]? = some (PV.tup xs) := hv
      obtain ⟨o, _, rc⟩ := R.cell k a _ q hv
      exact rc.elim
    | _ => first | (cases hv; rfl) | (cases hv)
theorem tyV_lst {K : PySem.W.Frag} {xs : List PV} (sc : Shown I F L H (.lst xs) x) : tyV K "list" x H := by
  obtain ⟨a, vs, rfl, t, _⟩ := sc
  exact .inl ⟨rfl, vs, .of t⟩
theorem tEv_index (g : Good I n X) (hu : X.A.units + 64 < cLine) {a b : CE} (h : tEv I W (evalE T cf (.bin .index a b)) σ H Q) : tBMs [altIdxL X hu, altIdxT X hu] (tEv I W (evalE T cf a)) (tCons (tEv I W (evalE T cf b)) tNil) σ H Q := by
  obtain ⟨fr, hs, F, L, s, R, P⟩ := h
  refine step R (List.Sublist.refl _) P fun rx s1 F1 L1 H1 x R1 P1 => ?_
  have P1 : Post I W fr hs σ Q (if isSeqR s1 rx = true then (evalE T cf b s1).bind fun y s2 => binR T cf .index rx y s2 else .bad) := P1
  by_cases hr : isSeqR s1 rx = true
  · rw [if_pos hr] at P1
    unfold isSeqR at hr
    split at hr
    · rename_i xs hv
      have sx := R1.shown List.mem_cons_self hv
      refine ⟨altIdxL X hu, by simp, tyV_lst sx, step R1 (List.sublist_cons_self _ _) P1 fun ry s2 F2 L2 H2 y R2 P2 => ?_⟩
      obtain ⟨cx, ex, h2⟩ := bin_index R2 P2
      rcases h2 with ⟨⟨ys, rfl⟩, _⟩ | ⟨_, q⟩
      · have e := R2.viewTup (r := rx) (v := x) (by simp) ex
        subst e
        cases hv
      · show rIndexP X.K false x [y] H2 Q
        rw [g.pK]; exact q
    · rename_i xs hv
      have e := R1.viewTup (r := rx) (v := x) (by simp) hv
      subst e
      have sx := R1.shown List.mem_cons_self hv
      obtain ⟨p, vs, rfl, t, _⟩ := sx
      refine ⟨altIdxT X hu, by simp, ⟨p, vs, rfl, by rw [g.pK]; exact R1.tupUp t⟩, step R1 (List.sublist_cons_self _ _) P1 fun ry s2 F2 L2 H2 y R2 P2 => ?_⟩
      obtain ⟨cx, ex, h2⟩ := bin_index R2 P2
      cases ex
      rcases h2 with ⟨_, q⟩ | ⟨⟨ys, e⟩, _⟩
      · show rIndexP X.K true _ [y] H2 Q
        rw [g.pK]; exact q
      · cases e
    · cases hr
  · rw [if_neg hr] at P1; exact P1.elim
theorem tEv_count (g : Good I n X) {a b : CE} (h : tEv I W (evalE T cf (.bin .count a b)) σ H Q) : tBMs [altCnt X] (tEv I W (evalE T cf a)) (tCons (tEv I W (evalE T cf b)) tNil) σ H Q := by
  obtain ⟨fr, hs, F, L, s, R, P⟩ := h
  refine step R (List.Sublist.refl _) P fun rx s1 F1 L1 H1 x R1 P1 => ?_
  have P1 : Post I W fr hs σ Q (if isLstR s1 rx = true then (evalE T cf b s1).bind fun y s2 => binR T cf .count rx y s2 else .bad) := P1
  by_cases hr : isLstR s1 rx = true
  · rw [if_pos hr] at P1
    unfold isLstR at hr
    split at hr
    · rename_i xs hv
      have sx := R1.shown List.mem_cons_self hv
      refine ⟨altCnt X, by simp, tyV_lst sx, step R1 (List.sublist_cons_self _ _) P1 fun ry s2 F2 L2 H2 y R2 P2 => ?_⟩
      show rCntI X.K x [y] H2 Q
      rw [g.pK]
      exact bin_count R2 P2
    · cases hr
  · rw [if_neg hr] at P1; exact P1.elim
theorem few1 {b : Expr} {p : Pos} {env : Env} (hb : noStar b = true) : ((backTo p (starEach [b] env)).all (fun x => !x.1) && (backToKw p (keywordEach [] env)).all (fun x => x.1.isSome)
      && decide (([b] : List Expr).length + ([] : List Keyword).length + (if ([] : List Keyword).isEmpty then 0 else 1) < 30)) = true := by
  rw [noStar_all (by simp [hb])]; rfl
theorem two {a b : Expr} {env : Env} (h : noStar a = true) (h2 : noStar b = true) {t1 t2 : TE} (ha : PE X a t1) (hb : PE X b t2) : PA X [a, b] (tCons t1 (tCons t2 tNil)) := pa_cons ha (pa_cons hb pa_nil (noStar_each h2)) (noStar_each h)
theorem s_bin (hT : ∀ c, T.eqm c = none) (g : Good I n X) {op : BOp} {a b : CE} {e x y : Expr} (hu : binF n X.env.scope op e = some (x, y)) (hx : PE X x (tEv I W (evalE T cf a))) (hy : PE X y (tEv I W (evalE T cf b))) : PE X e (tEv I W (evalE T cf (.bin op a b))) := by
  have hun := g.un
  have hK := g.pK
  unfold binF at hu
  split at hu
  · split at hu
    · rename_i o' ho'
      split at hu
      · rename_i he
        cases hu
        have he := eqOp_ok he
        subst he
        have hb : bopBin op ≠ none ∨ bopCmp op ≠ none ∨ isIdx op = true := .inl (by rw [ho']; simp)
        refine (pe_op (op_binB g ho') hx hy).imp fun σ H Q q => ?_
        rw [hK]
        exact tEv_bin (recvOk_of hb) (fun _ _ _ _ _ _ _ _ _ _ R P => rBin_ok hT hb R P) q
      · cases hu
    · cases hu
  · split at hu
    · rename_i o' ho'
      split at hu
      · rename_i he
        cases hu
        rw [Bool.and_eq_true] at he
        have he2 := eqCm_ok he.1
        subst he2
        have hb : bopBin op ≠ none ∨ bopCmp op ≠ none ∨ isIdx op = true := .inr (.inl (by rw [ho']; simp))
        refine (pe_cmpR (op_cmpB g ho') hx hy (noSet_mark he.2 _)).imp fun σ H Q q => ?_
        rw [hK]
        exact tEv_bin (recvOk_of hb) (fun _ _ _ _ _ _ _ _ _ _ R P => rBin_ok hT hb R P) q
      · cases hu
    · cases hu
  · split at hu
    · rename_i he
      cases hu
      rw [Bool.and_eq_true] at he
      have hb : bopBin op ≠ none ∨ bopCmp op ≠ none ∨ isIdx op = true := .inr (.inr he.1)
      have e : op = .idx := by cases op <;> first | rfl | (exact absurd he.1 (by simp [isIdx]))
      subst e
      refine (pe_ix (ix_B (by omega)) hx hy (noSlice_ix he.2)).imp fun σ H Q q => ?_
      rw [hK]
      exact tEv_bin (r := rIdxB I.K) (recvOk_of hb) (fun _ _ _ _ _ _ _ _ _ _ R P => bin_idx R P) q
    · cases hu
  · split at hu
    · split at hu
      · rename_i he
        cases hu
        rw [Bool.and_eq_true, Bool.and_eq_true, Bool.and_eq_true] at he
        obtain ⟨rfl, hg, hm⟩ := bltB_ok g he.1.1.1
        refine (pe_callB (call_min2 (g.calm he.2)) hg hm (by decide +kernel) (two (env := X.env) he.1.1.2 he.1.2 hx hy) (by decide) (by decide) (noStar_each he.1.1.2) (noStar_any (by simp [he.1.2]))).imp fun σ H Q q => ?_
        exact tEv_bin (r := fun x y H Q => ∃ i j, [x, y] = [.int i, .int j] ∧ Q (.int (if j < i then j else i)) H) (fun _ _ => rfl) (fun _ _ _ _ _ _ _ _ _ _ R P => bin_min2 R P) q
      · cases hu
    · split at hu
      · rename_i he
        cases hu
        rw [Bool.and_eq_true, Bool.and_eq_true, Bool.and_eq_true] at he
        obtain ⟨rfl, hg, hm⟩ := bltB_ok g he.1.1.1
        refine (pe_callB (call_max2 (g.calm he.2)) hg hm (by decide +kernel) (two (env := X.env) he.1.1.2 he.1.2 hx hy) (by decide) (by decide) (noStar_each he.1.1.2) (noStar_any (by simp [he.1.2]))).imp fun σ H Q q => ?_
        exact tEv_bin (r := fun x y H Q => ∃ i j, [x, y] = [.int i, .int j] ∧ Q (.int (if j > i then j else i)) H) (fun _ _ => rfl) (fun _ _ _ _ _ _ _ _ _ _ R P => bin_max2 R P) q
      · cases hu
    · cases hu
  · split at hu
    · split at hu
      · rename_i he
        cases hu
        rw [Bool.and_eq_true, Bool.and_eq_true, Bool.and_eq_true] at he
        have hm := eq_of_beq he.1.1.1
        subst hm
        exact (pe_bms hx (pa_cons hy pa_nil (noStar_each he.2)) (plainBase_ok he.1.1.2) (few1 he.2) he.1.2 (noStar_each he.2) rfl).imp fun σ H Q q => tEv_index g hun q
      · cases hu
    · split at hu
      · rename_i he
        cases hu
        rw [Bool.and_eq_true, Bool.and_eq_true, Bool.and_eq_true] at he
        have hm := eq_of_beq he.1.1.1
        subst hm
        exact (pe_bms hx (pa_cons hy pa_nil (noStar_each he.2)) (plainBase_ok he.1.1.2) (few1 he.2) he.1.2 (noStar_each he.2) rfl).imp fun σ H Q q => tEv_count g q
      · cases hu
    · cases hu
  · cases hu
end
end Nr
end

section
set_option Elab.async false
set_option linter.all false
set_option maxRecDepth 100000
set_option maxHeartbeats 4000000
/-! E18: argument lists; displays; and, or, not; chains; slices. -/
namespace Nr
open PySem PySem.Spec PyProof.Rows L2 PySem.W
section
variable {I : Inf} {W : WX} {T : Tab} {cf : CallF} {n : Nm} {X : Cx} {fr : Frm} {hs gs : List (RV × V)} {F : Hp} {L : List Addr} {s : St} {σ : L2.St} {H : Hp} {Q : VK} {rx ry : RV} {x y : V}
theorem RS.perm (R : RS I fr hs F L s σ H) (p : hs.Perm gs) : RS I fr gs F L s σ H :=
  { R with hval := fun q hq => R.hval q (p.mem_iff.mpr hq), hsep := (p.filterMap tmpA).nodup_iff.mp R.hsep }
theorem push_perm : ∀ (rs : List RV) (vs : List V) (hs : List (RV × V)), (push rs vs hs).Perm (rs.zip vs ++ hs)
  | [], _, _ => by unfold push; exact .refl _
  | _ :: _, [], _ => by unfold push; exact .refl _
  | r :: rs, v :: vs, hs => by
    unfold push
    refine (push_perm rs vs _).trans ?_
    rw [List.zip_cons_cons, List.cons_append]
    exact List.perm_middle
/-- all as values -/
theorem RS.toVals : ∀ (rs : List RV) {vs : List V} {hs : List (RV × V)} {F : Hp} {s : St}, vs.length = rs.length → RS I fr (rs.zip vs ++ hs) F L s σ H → match Nr.toVals rs s with
    | .ok xs s' => ∃ F', RS I fr hs F' L s' σ H ∧ RepL I F' L xs vs ∧ s'.cells = s.cells
    | .ex _ _ => False
    | .bad => True
  | [], vs, hs, F, s, hl, R => by
    have : vs = [] := List.eq_nil_of_length_eq_zero hl
    subst this
    exact ⟨F, R, rfl, rfl⟩
  | r :: rs, [], hs, F, s, hl, R => by cases hl
  | r :: rs, v :: vs, hs, F, s, hl, R => by
    have hl : vs.length = rs.length := by simpa using hl
    have R : RS I fr ((r, v) :: (rs.zip vs ++ hs)) F L s σ H := by rw [List.zip_cons_cons, List.cons_append] at R; exact R
    have q := R.toVal
    unfold Nr.toVals
    cases e : Nr.toVal r s with
    | bad => trivial
    | ex x s1 => rw [e] at q; exact q.elim
    | ok x s1 =>
      rw [e] at q
      obtain ⟨F1, R1, e1⟩ := q
      have R1 : RS I fr (rs.zip vs ++ (.val x, v) :: hs) F1 L s1 σ H := R1.perm (List.perm_middle.symm)
      have q2 := RS.toVals rs hl R1
      show match (Nr.toVals rs s1).bind fun ys s2 => Nr.R.ok (x :: ys) s2 with
        | .ok xs s' => ∃ F', RS I fr hs F' L s' σ H ∧ RepL I F' L xs (v :: vs) ∧ s'.cells = s.cells
        | .ex _ _ => False
        | .bad => True
      cases e2 : Nr.toVals rs s1 with
      | bad => trivial
      | ex z s2 => rw [e2] at q2; exact q2.elim
      | ok ys s2 =>
        rw [e2] at q2
        obtain ⟨F2, R2, r2, e3⟩ := q2
        exact ⟨F2, R2.drop, ⟨v, vs, rfl, R2.head, r2⟩, e3.trans e1⟩
/-- an argument list's values, as values -/
theorem RS.toValsP {rs : List RV} {vs : List V} {xs : List PV} {s' : St} (hl : vs.length = rs.length) (R : RS I fr (push rs vs hs) F L s σ H) (e : Nr.toVals rs s = .ok xs s') : ∃ F', RS I fr hs F' L s' σ H ∧ RepL I F' L xs vs ∧ s'.cells = s.cells := by
  have q := RS.toVals rs hl (R.perm (push_perm rs vs hs))
  rw [e] at q
  exact q
theorem push_sub : ∀ (rs : List RV) (vs : List V) (hs : List (RV × V)), hs.Sublist (push rs vs hs)
  | [], _, _ => by unfold push; exact List.Sublist.refl _
  | _ :: _, [], _ => by unfold push; exact List.Sublist.refl _
  | r :: rs, v :: vs, hs => by
    unfold push
    exact (List.sublist_cons_self _ _).trans (push_sub rs vs _)
/-- Post of toVals, then -/
theorem Post.vals {rs : List RV} {vs : List V} {f : List PV → St → Nr.R RV} (hl : vs.length = rs.length) (R : RS I fr (push rs vs hs) F L s σ H) {gs : List (RV × V)} (P : Post I W fr gs σ Q ((Nr.toVals rs s).bind f)) :
    ∃ xs s' F', RS I fr hs F' L s' σ H ∧ RepL I F' L xs vs ∧ Post I W fr gs σ Q (f xs s') := by
  cases e : Nr.toVals rs s with
  | bad => rw [e] at P; exact P.elim
  | ex x s1 =>
    have q := RS.toVals rs hl (R.perm (push_perm rs vs hs))
    rw [e] at q; exact q.elim
  | ok xs s1 =>
    rw [e] at P
    obtain ⟨F', R', r, _⟩ := R.toValsP hl e
    exact ⟨xs, s1, F', R', r, P⟩
theorem Post.val1 {r : RV} {v : V} {f : PV → St → Nr.R RV} (R : RS I fr ((r, v) :: hs) F L s σ H) {gs : List (RV × V)} (P : Post I W fr gs σ Q ((Nr.toVal r s).bind f)) :
    ∃ x s' F', RS I fr ((.val x, v) :: hs) F' L s' σ H ∧ Post I W fr gs σ Q (f x s') := by
  have q := R.toVal
  cases e : Nr.toVal r s with
  | bad => rw [e] at P; exact P.elim
  | ex x s1 => rw [e] at q; exact q.elim
  | ok x s1 =>
    rw [e] at P q
    obtain ⟨F', R', _⟩ := q
    exact ⟨x, s1, F', R', P⟩
theorem tEv_tup {es : CE} (h : tEv I W (evalE T cf (.tup es)) σ H Q) : tEvs I W (evalEs T cf es) σ H fun xs H1 => newTup xs H1 Q := by
  obtain ⟨fr, hs, F, L, s, R, P⟩ := h
  refine stepA R (List.Sublist.refl _) P fun rs s1 F1 L1 H1 vs hl R1 P1 => ?_
  obtain ⟨xs, s2, F2, R2, r2, P2⟩ := Post.vals hl R1 P1
  exact fun p O hO nn => Post.tup P2 R2 nn hO r2
theorem tEv_lst {es : CE} (h : tEv I W (evalE T cf (.lst es)) σ H Q) : tEvs I W (evalEs T cf es) σ H fun xs H1 => ∀ p, H1 p = none → Q (.ref p) (upd H1 p (.lst xs)) := by
  obtain ⟨fr, hs, F, L, s, R, P⟩ := h
  refine stepA R (List.Sublist.refl _) P fun rs s1 F1 L1 H1 vs hl R1 P1 => ?_
  obtain ⟨xs, s2, F2, R2, r2, P2⟩ := Post.vals hl R1 P1
  exact fun p nn => Post.new P2 R2 nn ⟨_, rfl, r2⟩
/-! ### argument lists -/
theorem stepL {ev : St → Nr.R RV} {f : RV → St → Nr.R (List RV)} {Q1 : VK} {QA : List V → Hp → Prop} (R : RS I fr gs F L s σ H) (hsub : hs.Sublist gs) (P : PostA I W fr hs σ QA ((ev s).bind f))
    (k : ∀ r s1 F1 L1 H1 v, RS I fr ((r, v) :: gs) F1 L1 s1 σ H1 → PostA I W fr hs σ QA (f r s1) → Q1 v H1) : tEv I W ev σ H Q1 := by
  refine ⟨fr, gs, F, L, s, R, ?_⟩
  cases e : ev s with
  | ok r s1 =>
    rw [e] at P
    exact fun F1 L1 H1 v R1 => k r s1 F1 L1 H1 v R1 P
  | ex x s1 =>
    rw [e] at P
    exact fun F1 L1 H1 cls d R1 X1 => P F1 L1 H1 cls d (R1.sub hsub) X1
  | bad => rw [e] at P; exact P
theorem tEvs_nil {QA : List V → Hp → Prop} (h : tEvs I W (evalEs T cf .nil) σ H QA) : QA [] H := by
  obtain ⟨fr, hs, F, L, s, R, P⟩ := h
  exact P F L H [] rfl R
theorem tEvs_cons {a b : CE} {QA : List V → Hp → Prop} (h : tEvs I W (evalEs T cf (.cons a b)) σ H QA) : tEv I W (evalE T cf a) σ H fun x H1 => tEvs I W (evalEs T cf b) σ H1 fun xs H2 => QA (x :: xs) H2 := by
  obtain ⟨fr, hs, F, L, s, R, P⟩ := h
  refine stepL R (List.Sublist.refl _) P fun r s1 F1 L1 H1 x R1 P1 => ⟨fr, (r, x) :: hs, F1, L1, s1, R1, ?_⟩
  cases e : evalEs T cf b s1 with
  | ok rs s2 =>
    rw [e] at P1
    exact fun F2 L2 H2 vs hl R2 => P1 F2 L2 H2 (x :: vs) (by simp [hl]) R2
  | ex z s2 =>
    rw [e] at P1
    exact fun F2 L2 H2 cls d R2 X2 => P1 F2 L2 H2 cls d R2.drop X2
  | bad => rw [e] at P1; exact P1
theorem _root_.L2.PA.imp {es : List Expr} {t t' : TA} (h : PA X es t) (k : ∀ σ H Q, t' σ H Q → t σ H Q) : PA X es t' := ⟨fun pos pins s σ H Q I q => h.run pos pins s σ H Q I (k _ _ _ q)⟩
theorem s_nil : PA X [] (tEvs I W (evalEs T cf .nil)) := pa_nil.imp fun σ H Q q => tEvs_nil q
theorem s_cons {a b : CE} {e : Expr} {es : List Expr} (hn : noStar e = true) (ha : PE X e (tEv I W (evalE T cf a))) (hb : PA X es (tEvs I W (evalEs T cf b))) : PA X (e :: es) (tEvs I W (evalEs T cf (.cons a b))) :=
  (pa_cons ha hb (noStar_each hn)).imp fun σ H Q q => tEvs_cons q
/-- how long an argument list of the core is -/
def lenE : CE → Nat
  | .cons _ b => lenE b + 1
  | _ => 0
theorem evalEs_len : ∀ (es : CE) (s s' : St) (rs : List RV), evalEs T cf es s = .ok rs s' → rs.length = lenE es
  | .nil, s, s', rs, h => by cases h; rfl
  | .cons a b, s, s', rs, h => by
    have h : (evalE T cf a s).bind (fun x s1 => (evalEs T cf b s1).bind fun xs s2 => R.ok (x :: xs) s2) = .ok rs s' := h
    cases e : evalE T cf a s with
    | ok x s1 =>
      rw [e] at h
      have h : (evalEs T cf b s1).bind (fun xs s2 => R.ok (x :: xs) s2) = .ok rs s' := h
      cases e2 : evalEs T cf b s1 with
      | ok xs s2 =>
        rw [e2] at h
        have h : R.ok (x :: xs) s2 = .ok rs s' := h
        cases h
        rw [List.length_cons, evalEs_len b s1 s' xs e2]; rfl
      | ex z s2 => rw [e2] at h; cases h
      | bad => rw [e2] at h; cases h
    | ex z s2 => rw [e] at h; cases h
    | bad => rw [e] at h; cases h
  | .var _, _, _, _, h | .cst _, _, _, _, h | .una _ _, _, _, _, h | .bin _ _ _, _, _, _, h | .slc _ _ _, _, _, _, h | .get3 _ _ _, _, _, _, h | .tup _, _, _, _, h | .lst _, _, _, _, h | .dct _, _, _, _, h | .and _ _, _, _, _, h | .or _ _, _, _, _, h | .not _, _, _, _, h
  | .ite _ _ _, _, _, _, h | .cmp2 _ _ _ _ _, _, _, _, h | .attr _ _, _, _, _, h | .eattr _ _, _, _, _, h | .call _ _, _, _, _, h | .meth _ _ _, _, _, _, h | .mk _ _, _, _, _, h | .callv _ _, _, _, _, h | .comp _ _ _ _ _ _, _, _, _, h | .mkseq _ _ _, _, _, _, h | .pop _ _, _, _, _, h | .isa _ _, _, _, _, h | .cell _, _, _, _, h => by cases h
/-- the values come as many as there are arguments -/
theorem tEvs_len {es : CE} {QA : List V → Hp → Prop} (h : tEvs I W (evalEs T cf es) σ H QA) : tEvs I W (evalEs T cf es) σ H fun xs H1 => xs.length = lenE es ∧ QA xs H1 := by
  obtain ⟨fr, hs, F, L, s, R, P⟩ := h
  refine ⟨fr, hs, F, L, s, R, ?_⟩
  cases e : evalEs T cf es s with
  | ok rs s1 =>
    rw [e] at P
    have hl := evalEs_len es s s1 rs e
    exact fun F1 L1 H1 vs h1 R1 => ⟨h1.trans hl, P F1 L1 H1 vs h1 R1⟩
  | ex z s1 => rw [e] at P; exact P
  | bad => rw [e] at P; exact P
theorem s_tup {es : CE} {xs : List Expr} {x1 : Nat} {pos : Pos} (hl : lenE es ≤ 1000) (h : PA X xs (tEvs I W (evalEs T cf es))) : PE X (.Tuple xs x1 pos) (tEv I W (evalE T cf (.tup es))) :=
  (pe_tupF h).imp fun σ H Q q => by
    have q1 := tEvs_len (tEv_tup q)
    have e : (fun (vs : List V) (H1 : Hp) => vs.length = lenE es ∧ newTup vs H1 Q) = fun vs H1 => vs.length = lenE es ∧ newTup vs H1 Q := rfl
    obtain ⟨fr, hs, F, L, s, R, P⟩ := q1
    refine ⟨fr, hs, F, L, s, R, ?_⟩
    cases e : evalEs T cf es s with
    | ok rs s1 =>
      rw [e] at P
      exact fun F1 L1 H1 vs h1 R1 => ⟨by rw [(P F1 L1 H1 vs h1 R1).1]; exact Nat.le_trans hl (by rw [sizeLine_eq]; decide), (P F1 L1 H1 vs h1 R1).2⟩
    | ex z s1 => rw [e] at P; exact P
    | bad => rw [e] at P; exact P
theorem s_lst {es : CE} {xs : List Expr} {pos : Pos} (hl : lenE es ≤ 1000) (h : PA X xs (tEvs I W (evalEs T cf es))) : PE X (.List xs pos) (tEv I W (evalE T cf (.lst es))) :=
  (pe_lst h).imp fun σ H Q q => by
    have q1 := tEvs_len (tEv_lst q)
    obtain ⟨fr, hs, F, L, s, R, P⟩ := q1
    refine ⟨fr, hs, F, L, s, R, ?_⟩
    cases e : evalEs T cf es s with
    | ok rs s1 =>
      rw [e] at P
      exact fun F1 L1 H1 vs h1 R1 => ⟨by rw [(P F1 L1 H1 vs h1 R1).1]; exact Nat.le_trans hl (by rw [sizeLine_eq]; decide), (P F1 L1 H1 vs h1 R1).2⟩
    | ex z s1 => rw [e] at P; exact P
    | bad => rw [e] at P; exact P
end
end Nr
end

section
set_option Elab.async false
set_option linter.all false
set_option maxRecDepth 100000
set_option maxHeartbeats 4000000
/-! E19: and, or, not, chains, slices, fields, isinstance, ranges. -/
namespace Nr
open PySem PySem.Spec PyProof.Rows L2 PySem.W
section
variable {I : Inf} {W : WX} {T : Tab} {cf : CallF} {n : Nm} {X : Cx} {fr : Frm} {hs gs : List (RV × V)} {F : Hp} {L : List Addr} {s : St} {σ : L2.St} {H : Hp} {Q : VK} {rx ry : RV} {x y : V}
/-- a bool that decides -/
theorem post_bl {f g : St → Nr.R RV} {h0 : RV → Nr.R RV} {r : RV} {v : V} {s : St} (P : Post I W fr hs σ Q (match r with
      | .val (.bl true) => f s
      | .val (.bl false) => g s
      | _ => .bad)) (hv : HeldV I fr F L s σ H r v) : ∃ c, v = .bl c ∧ Post I W fr hs σ Q (if c = true then f s else g s) := by
  split at P
  · exact ⟨true, hv, P⟩
  · exact ⟨false, hv, P⟩
  · exact P.elim
theorem post_not {r : RV} {v : V} {s : St} (P : Post I W fr hs σ Q (match r with
      | .val (.bl k) => .ok (.val (.bl (!k))) s
      | _ => .bad)) (hv : HeldV I fr F L s σ H r v) : ∃ c, v = .bl c ∧ Post I W fr hs σ Q (.ok (.val (.bl (!c))) s) := by
  split at P
  · exact ⟨_, hv, P⟩
  · exact P.elim
theorem tEv_and {a b : CE} (h : tEv I W (evalE T cf (.and a b)) σ H Q) : tAndV (tEv I W (evalE T cf a)) (tEv I W (evalE T cf b)) σ H Q := by
  obtain ⟨fr, hs, F, L, s, R, P⟩ := h
  refine step R (List.Sublist.refl _) P fun rx s1 F1 L1 H1 x R1 P1 => ?_
  obtain ⟨c, e, P2⟩ := post_bl (f := evalE T cf b) (g := fun s1 => .ok (.val (.bl false)) s1) (h0 := fun _ => .bad) P1 R1.head
  refine ⟨c, e, ?_⟩
  cases c with
  | true => exact ⟨fr, hs, F1, L1, s1, R1.drop, P2⟩
  | false => exact Post.val P2 R1.drop rfl
theorem tEv_or {a b : CE} (h : tEv I W (evalE T cf (.or a b)) σ H Q) : tOrV (tEv I W (evalE T cf a)) (tEv I W (evalE T cf b)) σ H Q := by
  obtain ⟨fr, hs, F, L, s, R, P⟩ := h
  refine step R (List.Sublist.refl _) P fun rx s1 F1 L1 H1 x R1 P1 => ?_
  obtain ⟨c, e, P2⟩ := post_bl (g := evalE T cf b) (f := fun s1 => .ok (.val (.bl true)) s1) (h0 := fun _ => .bad) P1 R1.head
  refine ⟨c, e, ?_⟩
  cases c with
  | true => exact Post.val P2 R1.drop rfl
  | false => exact ⟨fr, hs, F1, L1, s1, R1.drop, P2⟩
theorem tEv_not {a : CE} (h : tEv I W (evalE T cf (.not a)) σ H Q) : tNotV (tEv I W (evalE T cf a)) σ H Q := by
  obtain ⟨fr, hs, F, L, s, R, P⟩ := h
  refine step R (List.Sublist.refl _) P fun rx s1 F1 L1 H1 x R1 P1 => ?_
  obtain ⟨c, e, P2⟩ := post_not P1 R1.head
  exact ⟨c, e, Post.val P2 R1.drop rfl⟩
theorem tEv_ite {c a b : CE} (h : tEv I W (evalE T cf (.ite c a b)) σ H Q) : tB (tEv I W (evalE T cf c)) σ H fun k H1 => if k = true then tEv I W (evalE T cf a) σ H1 Q else tEv I W (evalE T cf b) σ H1 Q := by
  obtain ⟨fr, hs, F, L, s, R, P⟩ := h
  refine step R (List.Sublist.refl _) P fun rx s1 F1 L1 H1 x R1 P1 => ?_
  obtain ⟨c, e, P2⟩ := post_bl (f := evalE T cf a) (g := evalE T cf b) (h0 := fun _ => .bad) P1 R1.head
  refine ⟨c, e, ?_⟩
  cases c with
  | true => exact ⟨fr, hs, F1, L1, s1, R1.drop, P2⟩
  | false => exact ⟨fr, hs, F1, L1, s1, R1.drop, P2⟩
/-! as tests -/
theorem tB_and {a b : CE} {Q : Bool → Hp → Prop} (h : tB (tEv I W (evalE T cf (.and a b))) σ H Q) : tAnd (tB (tEv I W (evalE T cf a))) (tB (tEv I W (evalE T cf b))) σ H Q := by
  have q := tEv_and h
  obtain ⟨fr, hs, F, L, s, R, P⟩ := q
  refine ⟨fr, hs, F, L, s, R, ?_⟩
  cases e : evalE T cf a s with
  | ok r s1 =>
    rw [e] at P
    intro F1 L1 H1 v R1
    obtain ⟨c, e1, P2⟩ := P F1 L1 H1 v R1
    refine ⟨c, e1, ?_⟩
    cases c with
    | true => exact P2
    | false => obtain ⟨k, e2, q⟩ := P2; cases e2; exact q
  | ex z s1 => rw [e] at P; exact P
  | bad => rw [e] at P; exact P
theorem tB_or {a b : CE} {Q : Bool → Hp → Prop} (h : tB (tEv I W (evalE T cf (.or a b))) σ H Q) : tOr (tB (tEv I W (evalE T cf a))) (tB (tEv I W (evalE T cf b))) σ H Q := by
  have q := tEv_or h
  obtain ⟨fr, hs, F, L, s, R, P⟩ := q
  refine ⟨fr, hs, F, L, s, R, ?_⟩
  cases e : evalE T cf a s with
  | ok r s1 =>
    rw [e] at P
    intro F1 L1 H1 v R1
    obtain ⟨c, e1, P2⟩ := P F1 L1 H1 v R1
    refine ⟨c, e1, ?_⟩
    cases c with
    | true => obtain ⟨k, e2, q⟩ := P2; cases e2; exact q
    | false => exact P2
  | ex z s1 => rw [e] at P; exact P
  | bad => rw [e] at P; exact P
theorem tB_not {a : CE} {Q : Bool → Hp → Prop} (h : tB (tEv I W (evalE T cf (.not a))) σ H Q) : tNot (tB (tEv I W (evalE T cf a))) σ H Q := by
  have q := tEv_not h
  obtain ⟨fr, hs, F, L, s, R, P⟩ := q
  refine ⟨fr, hs, F, L, s, R, ?_⟩
  cases e : evalE T cf a s with
  | ok r s1 =>
    rw [e] at P
    intro F1 L1 H1 v R1
    obtain ⟨c, e1, k, e2, q⟩ := P F1 L1 H1 v R1
    cases e2
    exact ⟨c, e1, q⟩
  | ex z s1 => rw [e] at P; exact P
  | bad => rw [e] at P; exact P
theorem _root_.L2.PT.imp {e : Expr} {t t' : TT} (h : PT X e t) (k : ∀ σ H Q, t' σ H Q → t σ H Q) : PT X e t' := ⟨fun pins s σ H Q I q => h.run pins s σ H Q I (k _ _ _ q)⟩
theorem _root_.L2.PW.imp {e : Expr} {t t' : TT} (h : PW X e t) (k : ∀ σ H Q, t' σ H Q → t σ H Q) : PW X e t' := ⟨fun wh pins s σ H Q I q => h.run wh pins s σ H Q I (k _ _ _ q)⟩
theorem pt_ifExp {c a b : Expr} {pos : Pos} {tA ta tb : TT} (hc : PT X c tA) (ha : PT X a ta) (hb : PT X b tb) : PT X (.IfExp c a b pos) (fun σ H Q => tA σ H fun k H1 => if k = true then ta σ H1 Q else tb σ H1 Q) := by
  refine ⟨fun pins s σ H Q I h => ?_⟩
  show wpAny _ _ (do if ← isTrue c X.env (eval c X.env) then isTrue a X.env (eval a X.env) else isTrue b X.env (eval b X.env)) _ _ _
  refine wpAny_bind (thn (hc.run pins s σ H _ I h) fun k s1 ⟨H1, I1, q1⟩ => ?_)
  cases k with
  | true => exact ha.run pins s1 σ H1 Q I1 q1
  | false => exact hb.run pins s1 σ H1 Q I1 q1
/-! ### chains -/
theorem RS.dupV {r : RV} {v : V} (hr : isValR r = true) (R : RS I fr ((r, v) :: hs) F L s σ H) : RS I fr ((r, v) :: (r, v) :: hs) F L s σ H := by
  cases r with
  | val x => exact R.pushV R.head
  | _ => cases hr
theorem tEv_cmp2 (hT : ∀ c, T.eqm c = none) {o p : BOp} {a b c : CE} (ho : bopCmp o ≠ none) (hp : bopCmp p ≠ none) (h : tEv I W (evalE T cf (.cmp2 o p a b c)) σ H Q) :
    tChain (rBin I.K o) (rBin I.K p) (tEv I W (evalE T cf a)) (tEv I W (evalE T cf b)) (tEv I W (evalE T cf c)) σ H Q := by
  obtain ⟨fr, hs, F, L, s, R, P⟩ := h
  refine step R (List.Sublist.refl _) P fun rx s1 F1 L1 H1 x R1 P1 => step R1 (List.sublist_cons_self _ _) P1 fun ry s2 F2 L2 H2 y R2 P2 => ?_
  by_cases hv : isValR ry = true
  · have P2 : Post I W fr hs σ Q (if isValR ry = true then (binR T cf o rx ry s2).bind fun r s3 => (match r with
      | .val (.bl true) => (evalE T cf c s3).bind fun z s4 => binR T cf p ry z s4
      | .val (.bl false) => .ok (.val (.bl false)) s3
      | _ => .bad) else .bad) := P2
    rw [if_pos hv] at P2
    have R3 : RS I fr ((ry, y) :: (rx, x) :: (ry, y) :: hs) F2 L2 s2 σ H2 := by
      cases ry with
      | val z => exact (R2.pushV (x := z) (v := y) R2.head).perm (List.Perm.cons _ (List.Perm.swap _ _ _))
      | _ => cases hv
    refine rBin_ok (W := W) (cf := cf) (hs := (ry, y) :: hs) (fr := fr) hT (.inr (.inl ho)) R3 ?_
    cases e : binR T cf o rx ry s2 with
    | ok r s3 =>
      rw [e] at P2
      intro F3 L3 H3 v R4
      obtain ⟨k, e1, P4⟩ := post_bl (f := fun s3 => (evalE T cf c s3).bind fun z s4 => binR T cf p ry z s4) (g := fun s3 => .ok (.val (.bl false)) s3) (h0 := fun _ => .bad) P2 R4.head
      refine ⟨k, e1, ?_⟩
      cases k with
      | true => exact step R4.drop (List.sublist_cons_self _ _) P4 fun rz s4 F4 L4 H4 z R5 P5 => rBin_ok (hs := hs) hT (.inr (.inl hp)) R5 P5
      | false => exact Post.val P4 R4.drop.drop rfl
    | ex z s3 =>
      rw [e] at P2
      exact fun F3 L3 H3 cls d R4 X4 => P2 F3 L3 H3 cls d R4.drop X4
    | bad => rw [e] at P2; exact P2
  · have P2 : Post I W fr hs σ Q (if isValR ry = true then (binR T cf o rx ry s2).bind fun r s3 => (match r with
      | .val (.bl true) => (evalE T cf c s3).bind fun z s4 => binR T cf p ry z s4
      | .val (.bl false) => .ok (.val (.bl false)) s3
      | _ => .bad) else .bad) := P2
    rw [if_neg hv] at P2
    exact P2.elim
end
end Nr
end

section
set_option Elab.async false
set_option linter.all false
set_option maxRecDepth 100000
set_option maxHeartbeats 4000000
/-! E20: slices, fields, isinstance, ranges. -/
namespace Nr
open PySem PySem.Spec PyProof.Rows L2 PySem.W
section
variable {I : Inf} {W : WX} {T : Tab} {cf : CallF} {n : Nm} {X : Cx} {fr : Frm} {hs gs : List (RV × V)} {F : Hp} {L : List Addr} {s : St} {σ : L2.St} {H : Hp} {Q : VK} {rx ry : RV} {x y : V}
def isNonC : CE → Bool
  | .cst .non => true
  | _ => false
def tPt (I : Inf) (W : WX) (T : Tab) (cf : CallF) (c : CE) : TO := if isNonC c then tNoPart else tPart (tEv I W (evalE T cf c))
theorem stepPt {lo : CE} {f : RV → St → Nr.R RV} {Q1 : Option Int → Hp → Prop} (R : RS I fr gs F L s σ H) (hsub : hs.Sublist gs) (P : Post I W fr hs σ Q ((evalE T cf lo s).bind fun y s2 => if slPart lo y = true then f y s2 else .bad))
    (k : ∀ y s1 F1 L1 H1 o, RS I fr gs F1 L1 s1 σ H1 → ptOf (partV y) = some o → Post I W fr hs σ Q (f y s1) → Q1 o H1) : tPt I W T cf lo σ H Q1 := by
  unfold tPt
  cases hn : isNonC lo with
  | true =>
    have e : lo = .cst .non := by
      unfold isNonC at hn
      split at hn
      · rfl
      · cases hn
    subst e
    exact k (.val .non) s F L H none R rfl P
  | false =>
    refine step R hsub P fun y s1 F1 L1 H1 v R1 P1 => ?_
    have P1 : Post I W fr hs σ Q (if slPart lo y = true then f y s1 else .bad) := P1
    by_cases hp : slPart lo y = true
    · rw [if_pos hp] at P1
      unfold slPart at hp
      split at hp
      · cases hn
      · exact ⟨_, R1.head, k _ s1 F1 L1 H1 _ R1.drop rfl P1⟩
      · cases hp
    · rw [if_neg hp] at P1; exact P1.elim
theorem tEv_slc {a lo hi : CE} (h : tEv I W (evalE T cf (.slc a lo hi)) σ H Q) : tSl (rSlB I.K) (tEv I W (evalE T cf a)) (tPt I W T cf lo) (tPt I W T cf hi) σ H Q := by
  obtain ⟨fr, hs, F, L, s, R, P⟩ := h
  refine step R (List.Sublist.refl _) P fun rx s1 F1 L1 H1 x R1 P1 => ?_
  refine stepPt R1 (List.sublist_cons_self _ _) P1 fun y s2 F2 L2 H2 o R2 e2 P2 => ?_
  refine stepPt R2 (List.sublist_cons_self _ _) P2 fun z s3 F3 L3 H3 o3 R3 e3 P3 => ?_
  obtain ⟨cx, ex, P4⟩ := Post.opt (P := P3)
  obtain ⟨res, er, P5⟩ := Post.opt (P := P4)
  obtain ⟨a, b, h1, h2, q⟩ := slc_done R3.drop (R3.shown List.mem_cons_self ex) er P5
  rw [e2] at h1; rw [e3] at h2
  cases h1; cases h2
  exact q
theorem s_pt {c : CE} {o : Option Expr} (h1 : isNonC c = true → o = none) (h2 : isNonC c = false → ∃ e, o = some e ∧ PE X e (tEv I W (evalE T cf c))) : PO X o (tPt I W T cf c) := by
  unfold tPt
  cases hn : isNonC c with
  | true => rw [h1 hn]; exact po_none
  | false => obtain ⟨e, he, q⟩ := h2 hn; subst he; exact po_some q
/-! ### fields -/
/-- the classes' facts -/
structure ClsFa (I : Inf) (T : Tab) : Prop where
  fld : ∀ c f, T.fld c f = true → Cls I.K (I.cad c) ∧ NoAttr I.K (I.cad c) (I.an f)
theorem tEv_attr (hc : ClsFa I T) {a : CE} {f : Nat} (h : tEv I W (evalE T cf (.attr a f)) σ H Q) : tFld I.K (tEv I W (evalE T cf a)) (I.an f) σ H Q := by
  obtain ⟨fr, hs, F, L, s, R, P⟩ := h
  refine step R (List.Sublist.refl _) P fun rx s1 F1 L1 H1 x R1 P1 => ?_
  obtain ⟨cx, ex, P2⟩ := Post.opt (o := view s1 rx) (P := P1)
  have sx : Shown I F1 L1 H1 cx x := R1.shown List.mem_cons_self ex
  have R0 := R1.drop
  split at P2
  · rename_i c fs
    by_cases hf : T.fld c f = true
    · rw [if_pos hf] at P2
      obtain ⟨w, ew, P3⟩ := Post.opt (P := P2)
      obtain ⟨p, dx, ws, rfl, t, r⟩ := sx
      obtain ⟨u, h1, h2⟩ := r.lookup ew
      exact ⟨p, I.cad c, dx, ws, u, rfl, t, (hc.fld c f hf).1, (hc.fld c f hf).2, h1, Post.val P3 R0 h2⟩
    · rw [if_neg hf] at P2; exact P2.elim
  · exact P2.elim
/-! ### isinstance -/
def pvTy : PV → String
  | .non => "NoneType" | .bl _ => "bool" | .int _ => "int" | .str _ => "str" | .tup _ => "tuple" | .lst _ => "list" | .dct _ => "dict" | .scr _ => "list"
  | _ => ""
def tcTy : TC → String
  | .int => "int" | .bool => "bool" | .list => "list" | .tuple => "tuple" | .str => "str" | .cls _ => ""
def tcOk : TC → Bool
  | .cls _ => false
  | _ => true
theorem kit_tc {v : PV} {c : TC} (hv : isaOk v = true) (hc : tcOk c = true) : kitB (pvTy v) (tcTy c) = some (isaT c v) := by
  cases c with
  | cls k => cases hc
  | int =>
    cases v with
    | non => exact (by decide +kernel : kitB "NoneType" "int" = some false)
    | bl b => exact (by decide +kernel : kitB "bool" "int" = some true)
    | int i => exact (by decide +kernel : kitB "int" "int" = some true)
    | str s => exact (by decide +kernel : kitB "str" "int" = some false)
    | tup xs => exact (by decide +kernel : kitB "tuple" "int" = some false)
    | lst xs => exact (by decide +kernel : kitB "list" "int" = some false)
    | dct kvs => exact (by decide +kernel : kitB "dict" "int" = some false)
    | scr ns => exact (by decide +kernel : kitB "list" "int" = some false)
    | _ => cases hv
  | bool =>
    cases v with
    | non => exact (by decide +kernel : kitB "NoneType" "bool" = some false)
    | bl b => exact (by decide +kernel : kitB "bool" "bool" = some true)
    | int i => exact (by decide +kernel : kitB "int" "bool" = some false)
    | str s => exact (by decide +kernel : kitB "str" "bool" = some false)
    | tup xs => exact (by decide +kernel : kitB "tuple" "bool" = some false)
    | lst xs => exact (by decide +kernel : kitB "list" "bool" = some false)
    | dct kvs => exact (by decide +kernel : kitB "dict" "bool" = some false)
    | scr ns => exact (by decide +kernel : kitB "list" "bool" = some false)
    | _ => cases hv
  | list =>
    cases v with
    | non => exact (by decide +kernel : kitB "NoneType" "list" = some false)
    | bl b => exact (by decide +kernel : kitB "bool" "list" = some false)
    | int i => exact (by decide +kernel : kitB "int" "list" = some false)
    | str s => exact (by decide +kernel : kitB "str" "list" = some false)
    | tup xs => exact (by decide +kernel : kitB "tuple" "list" = some false)
    | lst xs => exact (by decide +kernel : kitB "list" "list" = some true)
    | dct kvs => exact (by decide +kernel : kitB "dict" "list" = some false)
    | scr ns => exact (by decide +kernel : kitB "list" "list" = some true)
    | _ => cases hv
  | tuple =>
    cases v with
    | non => exact (by decide +kernel : kitB "NoneType" "tuple" = some false)
    | bl b => exact (by decide +kernel : kitB "bool" "tuple" = some false)
    | int i => exact (by decide +kernel : kitB "int" "tuple" = some false)
    | str s => exact (by decide +kernel : kitB "str" "tuple" = some false)
    | tup xs => exact (by decide +kernel : kitB "tuple" "tuple" = some true)
    | lst xs => exact (by decide +kernel : kitB "list" "tuple" = some false)
    | dct kvs => exact (by decide +kernel : kitB "dict" "tuple" = some false)
    | scr ns => exact (by decide +kernel : kitB "list" "tuple" = some false)
    | _ => cases hv
  | str =>
    cases v with
    | non => exact (by decide +kernel : kitB "NoneType" "str" = some false)
    | bl b => exact (by decide +kernel : kitB "bool" "str" = some false)
    | int i => exact (by decide +kernel : kitB "int" "str" = some false)
    | str s => exact (by decide +kernel : kitB "str" "str" = some true)
    | tup xs => exact (by decide +kernel : kitB "tuple" "str" = some false)
    | lst xs => exact (by decide +kernel : kitB "list" "str" = some false)
    | dct kvs => exact (by decide +kernel : kitB "dict" "str" = some false)
    | scr ns => exact (by decide +kernel : kitB "list" "str" = some false)
    | _ => cases hv
theorem shown_ty (R : RS I fr hs F L s σ H) {v : PV} (hv : isaOk v = true) (sc : Shown I F L H v x) : TyX I.K H x (.type (pvTy v)) := by
  cases v with
  | non => cases sc; exact .base .non
  | bl b => cases sc; exact .base (.bl b)
  | int i => cases sc; exact .base (.int i)
  | str z => cases sc; exact .base (.str z)
  | tup xs =>
    obtain ⟨a, vs, rfl, t, _⟩ := sc
    rcases R.tupUp t with ⟨o, e, _⟩ | ⟨o, its, k, e, _, c, _⟩
    · exact .fTuple e
    · exact .kTuple e c
  | lst xs => obtain ⟨a, vs, rfl, t, _⟩ := sc; exact .base (.lst t)
  | dct kvs =>
    obtain ⟨a, ws, rfl, t, _⟩ := sc
    rcases t with t | ⟨o, t⟩
    · exact .base (.dK t)
    · exact .fDict t
  | scr ns =>
    obtain ⟨a, rfl, t⟩ := sc
    rcases R.sqlUp t with t | ⟨o, its, k, e, c, _⟩
    · rcases t with t | ⟨o, t⟩
      · exact .base (.lst t)
      · exact .base (.frz t)
    · exact .kList e c
  
  | _ => cases hv
end
end Nr
end

section
set_option Elab.async false
set_option linter.all false
set_option maxRecDepth 100000
set_option maxHeartbeats 4000000
/-! E21: isinstance, list(range()), pop. -/
namespace Nr
open PySem PySem.Spec PyProof.Rows L2 PySem.W
def tcNm : TC → Str
  | .int => "int" | .bool => "bool" | .list => "list" | .tuple => "tuple" | .str => "str" | .cls _ => ""
def tcF (sc : Scope) (c : TC) : Expr → Bool
  | .Name y _ => tcOk c && bltB sc (tcNm c) y
  | _ => false
def tcsF (sc : Scope) : List TC → List Expr → Bool
  | [], [] => true
  | c :: cs, e :: es => tcF sc c e && noStar e && tcsF sc cs es
  | _, _ => false
def isaTs (sc : Scope) (ts : List TC) (t : Expr) : Bool := match ts, t with
  | [c], .Name z p => tcF sc c (.Name z p)
  | cs, .Tuple es _ _ => tcsF sc cs es && decide (es.length ≤ 100)
  | _, _ => false
def isaF (n : Nm) (sc : Scope) (ts : List TC) : Expr → Option Expr
  | .Call (.Name y _) [x, t] [] _ => if bltB sc "isinstance" y && noStar x && noStar t && isaTs sc ts t then some x else none
  | _ => none
section
variable {I : Inf} {W : WX} {T : Tab} {cf : CallF} {n : Nm} {X : Cx} {fr : Frm} {hs gs : List (RV × V)} {F : Hp} {L : List Addr} {s : St} {σ : L2.St} {H : Hp} {Q : VK} {rx ry : RV} {x y : V}
theorem s_tc (g : Good I n X) {c : TC} {e : Expr} (h : tcF X.env.scope c e = true) : PE X e (tC (.ty (tcTy c))) := by
  unfold tcF at h
  split at h
  · rw [Bool.and_eq_true] at h
    obtain ⟨rfl, hg, hm⟩ := bltB_ok g h.2
    have h1 := h.1
    cases c with
    | int => exact pe_bltn hg hm (by decide +kernel : bootBuiltins "int" = some (.type "int")) rfl
    | bool => exact pe_bltn hg hm (by decide +kernel : bootBuiltins "bool" = some (.type "bool")) rfl
    | list => exact pe_bltn hg hm (by decide +kernel : bootBuiltins "list" = some (.type "list")) rfl
    | tuple => exact pe_bltn hg hm (by decide +kernel : bootBuiltins "tuple" = some (.type "tuple")) rfl
    | str => exact pe_bltn hg hm (by decide +kernel : bootBuiltins "str" = some (.type "str")) rfl
    | cls k => cases h1
  · cases h
def tTcs (ts : List TC) : TA := fun _ H Q => Q (ts.map fun c => V.ty (tcTy c)) H
theorem s_tcs (g : Good I n X) : ∀ {ts : List TC} {es : List Expr}, tcsF X.env.scope ts es = true → PA X es (tTcs ts) ∧ ts.length = es.length ∧ ∀ c ∈ ts, tcOk c = true
  | [], [], _ => ⟨pa_nil, rfl, fun _ h => by cases h⟩
  | [], _ :: _, h => by cases h
  | _ :: _, [], h => by cases h
  | c :: cs, e :: es, h => by
    have h : (tcF X.env.scope c e && noStar e && tcsF X.env.scope cs es) = true := h
    rw [Bool.and_eq_true, Bool.and_eq_true] at h
    obtain ⟨h1, h2, h3⟩ := s_tcs g h.2
    refine ⟨pa_cons (s_tc g h.1.1) h1 (noStar_each h.1.2), by rw [List.length_cons, List.length_cons, h2], fun k hk => ?_⟩
    rcases List.mem_cons.mp hk with rfl | hk
    · have q := h.1.1
      unfold tcF at q
      split at q
      · rw [Bool.and_eq_true] at q; exact q.1
      · cases q
    · exact h3 k hk
theorem kit_tcs {v : PV} (hv : isaOk v = true) : ∀ {ts : List TC}, (∀ c ∈ ts, tcOk c = true) → kitAny I.K (.type (pvTy v)) (ts.map fun c => Value.type (tcTy c)) = some (ts.any fun c => isaT c v)
  | [], _ => kitAny_nil
  | c :: cs, h => by
    rw [List.map_cons, List.any_cons]
    refine kitAny_cons (kit_ty (kit_tc hv (h c List.mem_cons_self))) (fun e => ?_) fun e => ?_
    · rw [e, Bool.false_or]
      exact kit_tcs hv fun k hk => h k (List.mem_cons_of_mem _ hk)
    · rw [e, Bool.true_or]
theorem clsV_tcs : ∀ ts : List TC, Paired ClsV (ts.map fun c => V.ty (tcTy c)) (ts.map fun c => Value.type (tcTy c))
  | [] => .nil
  | c :: cs => .cons (.ty _) (clsV_tcs cs)
theorem isa_open {a : CE} {ts : List TC} {Q1 : V → Hp → Prop} (h : tEv I W (evalE T cf (.isa a ts)) σ H Q) (k : ∀ fr hs F L s H v x, RS I fr hs F L s σ H → (∀ H2, RS I fr hs F L s σ H2 → (∀ b o, H b = some o → H2 b = some o) → TyX I.K H2 x (.type (pvTy v)) ∧ Q (.bl (ts.any fun c => isaT c v)) H2) → isaOk v = true → Q1 x H) : tEv I W (evalE T cf a) σ H Q1 := by
  obtain ⟨fr, hs, F, L, s, R, P⟩ := h
  refine step R (List.Sublist.refl _) P fun rx s1 F1 L1 H1 x R1 P1 => ?_
  obtain ⟨cx, ex, P2⟩ := Post.opt (o := view s1 rx) (P := P1)
  have hv : isaOk cx = true := by
    cases hc : isaOk cx with
    | true => rfl
    | false => rw [hc] at P2; exact P2.elim
  have P2 : Post I W fr hs σ Q (if (!isaOk cx) = true then .bad else .ok (.val (.bl (ts.any fun c => isaT c cx))) s1) := P2
  rw [hv, if_neg (by simp)] at P2
  refine k fr ((rx, x) :: hs) F1 L1 s1 H1 cx x R1 (fun H2 R2 _ => ⟨shown_ty R2 hv (R2.shown List.mem_cons_self ex), Post.val P2 R2.drop rfl⟩) hv
theorem s_isa (g : Good I n X) {ts : List TC} {a : CE} {e x : Expr} (hu : isaF n X.env.scope ts e = some x) (hx : PE X x (tEv I W (evalE T cf a))) : PE X e (tEv I W (evalE T cf (.isa a ts))) := by
  unfold isaF at hu
  split at hu
  · split at hu
    · rename_i hb
      cases hu
      rw [Bool.and_eq_true, Bool.and_eq_true, Bool.and_eq_true] at hb
      obtain ⟨⟨⟨hb1, hb2⟩, hb3⟩, hb4⟩ := hb
      obtain ⟨rfl, hg, hm⟩ := bltB_ok g hb1
      unfold isaTs at hb4
      split at hb4
      · rename_i c z p
        have hok : tcOk c = true := by
          unfold tcF at hb4
          rw [Bool.and_eq_true] at hb4; exact hb4.1
        refine (pe_callB call_isi hg hm (by decide +kernel) (pa_cons hx (pa_cons (s_tc g hb4) pa_nil (noStar_each hb3)) (noStar_each hb2)) (by decide) (by decide) (noStar_each hb2) rfl).imp fun σ H Q q => ?_
        refine isa_open q fun fr hs F L s H v x R k hv => ?_
        obtain ⟨h1, h2⟩ := k H R fun _ _ e => e
        refine ⟨x, .ty (tcTy c), .type (pvTy v), .type (tcTy c), isaT c v, rfl, .ty _, by rw [g.pK]; exact h1, by rw [g.pK]; exact kit_ty (kit_tc hv hok), ?_⟩
        simpa using h2
      · rw [Bool.and_eq_true] at hb4
        obtain ⟨h1, h2, h3⟩ := s_tcs g hb4.1
        refine (pe_callB call_isiT hg hm (by decide +kernel) (pa_cons hx (pa_cons (pe_tup h1) pa_nil (noStar_each hb3)) (noStar_each hb2)) (by decide) (by decide) (noStar_each hb2) rfl).imp fun σ H Q q => ?_
        refine isa_open q fun fr hs F L s H v x R k hv => ?_
        refine ⟨?_, fun p hp => ?_⟩
        · rw [List.length_map, h2]
          exact Nat.le_trans (of_decide_eq_true hb4.2) (by rw [sizeLine_eq]; decide)
        · obtain ⟨k1, k2⟩ := k _ (R.garb (o := .tup _) hp) fun b o e => by rw [upd_ne (ne_of_none e hp)]; exact e
          exact ⟨x, p, _, .type (pvTy v), _, _, rfl, upd_same, clsV_tcs ts, by rw [g.pK]; exact k1, by rw [g.pK]; exact kit_tcs hv h3, k2⟩
      · cases hb4
    · cases hu
  · cases hu
end
end Nr
end

section
set_option Elab.async false
set_option linter.all false
set_option maxRecDepth 100000
set_option maxHeartbeats 4000000
/-! E22: list(range()), objects changed, pop. -/
namespace Nr
open PySem PySem.Spec PyProof.Rows L2 PySem.W
section
variable {I : Inf} {W : WX} {T : Tab} {cf : CallF} {n : Nm} {X : Cx} {fr : Frm} {hs gs : List (RV × V)} {F : Hp} {L : List Addr} {s : St} {σ : L2.St} {H : Hp} {Q : VK} {rx ry : RV} {x y : V}
theorem repL_range : ∀ (k : Nat) (lo : Int), RepL I F L (rangeL lo k) ((List.range k).map fun i => V.int (lo + (i : Nat)))
  | 0, _ => rfl
  | k + 1, lo => by
    rw [List.range_succ_eq_map, List.map_cons, List.map_map]
    refine ⟨_, _, rfl, ?_, ?_⟩
    · show V.int (lo + ((0 : Nat) : Int)) = V.int lo
      rw [Int.natCast_zero, Int.add_zero]
    · have := repL_range k (lo + 1)
      have e : (List.range k).map ((fun i => V.int (lo + (i : Nat))) ∘ Nat.succ) = (List.range k).map fun i => V.int (lo + 1 + (i : Nat)) := by
        apply List.map_congr_left
        intro i _
        show V.int (lo + ((i + 1 : Nat) : Int)) = V.int (lo + 1 + (i : Int))
        congr 1
        omega
      rw [e]
      exact this
theorem rangeL_length : ∀ (k : Nat) (lo : Int), (rangeL lo k).length = k
  | 0, _ => rfl
  | k + 1, lo => by rw [rangeL, List.length_cons, rangeL_length k]
def rngN (ik : IK) (k : Nat) : Bool := match ik with
  | .rng1 => k == 1
  | .rng2 => k == 2
  | _ => false
def seqF (n : Nm) (sc : Scope) (ik : IK) : Expr → Option (List Expr)
  | .Call (.Name y _) [.Call (.Name z _) es [] _] [] _ => if bltB sc "list" y && bltB sc "range" z && es.all noStar && n.cm && rngN ik es.length then some es else none
  | _ => none
theorem rng_ok {i : Int} (h : rngOk i = true) : -(2 ^ 62) ≤ i ∧ i < 2 ^ 62 := by
  unfold rngOk at h
  rw [Bool.and_eq_true, decide_eq_true_eq, decide_eq_true_eq] at h
  exact h
theorem asrt {a b : Int} (h1 : rngOk a = true) (h2 : rngOk b = true) (h3 : sizeOk (rangeL a (b - a).toNat).length = true) : RgOk a b := by
  obtain ⟨a1, a2⟩ := rng_ok h1
  obtain ⟨b1, b2⟩ := rng_ok h2
  refine ⟨a1, a2, b1, b2, ?_⟩
  rw [rangeL_length] at h3
  unfold sizeOk at h3
  have := of_decide_eq_true h3
  omega
/-- the sources seen -/
theorem views_push : ∀ {rs : List RV} {vs : List V} {cs : List PV}, vs.length = rs.length → RS I fr (rs.zip vs ++ hs) F L s σ H → views s rs = some cs → Paired (fun c v => Shown I F L H c v) cs vs
  | [], vs, cs, hl, _, e => by
    have : vs = [] := List.eq_nil_of_length_eq_zero hl
    subst this
    cases e
    exact .nil
  | r :: rs, [], _, hl, _, _ => by cases hl
  | r :: rs, v :: vs, cs, hl, R, e => by
    have e : (view s r).bind (fun v => (views s rs).map (v :: ·)) = some cs := e
    obtain ⟨c, e1, e2⟩ := Option.bind_eq_some_iff.mp e
    obtain ⟨cs', e3, e4⟩ := Option.map_eq_some_iff.mp e2
    subst e4
    rw [List.zip_cons_cons, List.cons_append] at R
    exact .cons (R.shown List.mem_cons_self e1) (views_push (by simpa using hl) R.drop e3)
theorem items_rng1 {cs xs : List PV} (h : itemsOf .rng1 cs = some xs) : ∃ j, cs = [.int j] ∧ rngOk j = true ∧ xs = rangeL 0 j.toNat := by
  match cs, h with
  | [.int j], h =>
    have h : (if rngOk j = true then some (rangeL 0 j.toNat) else none) = some xs := h
    split at h
    · rename_i hr; cases h; exact ⟨j, rfl, hr, rfl⟩
    · cases h
  | [], h => cases h
  | [.non], h | [.bl _], h | [.str _], h | [.tup _], h | [.lst _], h | [.dct _], h | [.obj _ _], h | [.loc _], h | [.fn _], h | [.err _ _], h | [.scr _], h => cases h
  | a :: b :: r, h => cases a <;> cases h
theorem items_rng2 {cs xs : List PV} (h : itemsOf .rng2 cs = some xs) : ∃ i j, cs = [.int i, .int j] ∧ rngOk i = true ∧ rngOk j = true ∧ xs = rangeL i (j - i).toNat := by
  match cs, h with
  | [.int i, .int j], h =>
    have h : (if (rngOk i && rngOk j) = true then some (rangeL i (j - i).toNat) else none) = some xs := h
    split at h
    · rename_i hr; cases h; rw [Bool.and_eq_true] at hr; exact ⟨i, j, rfl, hr.1, hr.2, rfl⟩
    · cases h
  | [], h => cases h
  | [a], h => cases a <;> cases h
  | [.int i, .non], h | [.int i, .bl _], h | [.int i, .str _], h | [.int i, .tup _], h | [.int i, .lst _], h | [.int i, .dct _], h | [.int i, .obj _ _], h | [.int i, .loc _], h | [.int i, .fn _], h | [.int i, .err _ _], h | [.int i, .scr _], h => cases h
  | [.non, _], h | [.bl _, _], h | [.str _, _], h | [.tup _, _], h | [.lst _, _], h | [.dct _, _], h | [.obj _ _, _], h | [.loc _, _], h | [.fn _, _], h | [.err _ _, _], h | [.scr _, _], h => cases h
  | a :: b :: c :: r, h => cases a <;> first | (cases h; done) | (cases b <;> cases h)
theorem tEv_mkseq {ik : IK} {es : CE} (h : tEv I W (evalE T cf (.mkseq false ik es)) σ H Q) : tEvs I W (evalEs T cf es) σ H fun vs H1 =>
    (ik = .rng1 → ∃ j, vs = [.int j] ∧ RgOk 0 j ∧ ∀ q, H1 q = none → Q (.ref q) (upd H1 q (.lst (rgV 0 j)))) ∧ (ik = .rng2 → ∃ i j, vs = [.int i, .int j] ∧ RgOk i j ∧ ∀ q, H1 q = none → Q (.ref q) (upd H1 q (.lst (rgV i j)))) := by
  obtain ⟨fr, hs, F, L, s, R, P⟩ := h
  refine stepA R (List.Sublist.refl _) P fun rs s1 F1 L1 H1 vs hl R1 P1 => ?_
  obtain ⟨cs, ec, P2⟩ := Post.opt (P := P1)
  obtain ⟨xs, ex, P3⟩ := Post.opt (P := P2)
  have sv := views_push hl (R1.perm (push_perm rs vs hs)) ec
  have R0 : RS I fr hs F1 L1 s1 σ H1 := R1.sub (push_sub rs vs hs)
  have P3 : Post I W fr hs σ Q (if (!sizeOk xs.length) = true then .bad else .ok (.tmp (.lst xs)) s1) := P3
  cases hz : sizeOk xs.length with
  | false => rw [hz] at P3; exact P3.elim
  | true =>
    rw [hz, if_neg (by simp)] at P3
    refine ⟨fun e1 => ?_, fun e1 => ?_⟩
    · subst e1
      obtain ⟨j, e1, hr, e2⟩ := items_rng1 ex
      subst e1 e2
      cases sv with
      | cons h1 h2 =>
        cases h2
        have h1 : _ = V.int _ := h1
        subst h1
        have hz' : sizeOk (rangeL 0 (j - 0).toNat).length = true := by rw [Int.sub_zero]; exact hz
        refine ⟨j, rfl, asrt (by decide) hr hz', fun q hq => Post.new P3 R0 hq ⟨_, rfl, ?_⟩⟩
        unfold rgV
        rw [Int.sub_zero]
        exact repL_range _ 0
    · subst e1
      obtain ⟨i, j, e1, h1', h2', e2⟩ := items_rng2 ex
      subst e1 e2
      cases sv with
      | cons h1 h2 =>
        cases h2 with
        | cons h2 h3 =>
          cases h3
          have h1 : _ = V.int _ := h1
          have h2 : _ = V.int _ := h2
          subst h1 h2
          exact ⟨i, j, rfl, asrt h1' h2' hz, fun q hq => Post.new P3 R0 hq ⟨_, rfl, repL_range _ _⟩⟩
theorem prgA1 {a : Expr} {ta : TA} {p pos : Pos} (hg : Gl X "range") (hm : X.mg "range" = none) (ha : PA X [a] ta) (hs : noStar a = true) : PRg X (.Call (.Name "range" p) [a] [] pos) (fun σ H Q => ta σ H fun vs H1 => ∃ j, vs = [.int j] ∧ Q 0 j H1) := by
  intro pins s σ H Q I h
  refine Call_ (ld_blt I hg hm (by decide +kernel : bootBuiltins "range" = some (.type "range")) (PyProof.Rows.callWith_type1 (thn (ha.run pos pins s σ H _ I h) fun us s1 ⟨vs, H1, I1, r1, q1⟩ => ?_) (noStar_each hs) rfl))
  obtain ⟨j, rfl, q⟩ := q1
  obtain ⟨u, rfl, t, rfl⟩ := vals1 r1
  exact call_range_1 ⟨_, 0, j, _, _, _, H1, rfl, IsRange.new _ _ _ _ _ _ _, I1.kept fun b u e => Heap.get?_push_of_some _ e, q⟩
theorem prgA2 {a b : Expr} {ta : TA} {p pos : Pos} (hg : Gl X "range") (hm : X.mg "range" = none) (ha : PA X [a, b] ta) (hs : noStar a = true) (hs2 : noStar b = true) : PRg X (.Call (.Name "range" p) [a, b] [] pos) (fun σ H Q => ta σ H fun vs H1 => ∃ i j, vs = [.int i, .int j] ∧ Q i j H1) := by
  intro pins s σ H Q I h
  refine Call_ (ld_blt I hg hm (by decide +kernel : bootBuiltins "range" = some (.type "range")) (PyProof.Rows.callWith_type1 (thn (ha.run pos pins s σ H _ I h) fun us s1 ⟨vs, H1, I1, r1, q1⟩ => ?_) (noStar_each hs) (noStar_any (by simp [hs2]))))
  obtain ⟨i, j, rfl, q⟩ := q1
  obtain ⟨u, u2, rfl, ⟨t, rfl⟩, ⟨t2, rfl⟩⟩ := vals2 r1
  exact call_range_2 ⟨_, i, j, _, _, _, H1, rfl, IsRange.new _ _ _ _ _ _ _, I1.kept fun b u e => Heap.get?_push_of_some _ e, q⟩
theorem tEvs_imp {es : CE} {QA QB : List V → Hp → Prop} (h : tEvs I W (evalEs T cf es) σ H QA) (k : ∀ vs H1, QA vs H1 → QB vs H1) : tEvs I W (evalEs T cf es) σ H QB := by
  obtain ⟨fr, hs, F, L, s, R, P⟩ := h
  refine ⟨fr, hs, F, L, s, R, ?_⟩
  cases e : evalEs T cf es s with
  | ok rs s1 => rw [e] at P; exact fun F1 L1 H1 vs h1 R1 => k _ _ (P F1 L1 H1 vs h1 R1)
  | ex z s1 => rw [e] at P; exact P
  | bad => rw [e] at P; exact P
theorem s_mkseq (g : Good I n X) {ik : IK} {a : CE} {e : Expr} {es : List Expr} (hu : seqF n X.env.scope ik e = some es) (hx : PA X es (tEvs I W (evalEs T cf a))) : PE X e (tEv I W (evalE T cf (.mkseq false ik a))) := by
  unfold seqF at hu
  split at hu
  · split at hu
    · rename_i hb
      cases hu
      rw [Bool.and_eq_true, Bool.and_eq_true, Bool.and_eq_true, Bool.and_eq_true] at hb
      obtain ⟨⟨⟨⟨hb1, hb2⟩, hb3⟩, hb4⟩, hb6⟩ := hb
      have hb5 := And.intro hb4 hb6
      obtain ⟨rfl, hg, hm⟩ := bltB_ok g hb1
      obtain ⟨rfl, hg2, hm2⟩ := bltB_ok g hb2
      have hs0 : noStar (.Call (.Name "range" ‹Pos›) es [] ‹Pos›) = true := rfl
      cases ik with
      | rng1 =>
        match es, hb3, hb4, hx with
        | [a1], hb3, hb4, hx =>
          have h1 : noStar a1 = true := by simpa using hb3
          exact (pe_listRg (g.calm hb5.1) hg hm (prgA1 hg2 hm2 hx h1) (noStar_each rfl)).imp fun σ H Q q => tEvs_imp (tEv_mkseq q) fun vs H1 k => by
            obtain ⟨j, e1, e2, e3⟩ := k.1 rfl
            exact ⟨j, e1, e2, e3⟩
        | [], _, h, _ => cases hb5.2
        | _ :: _ :: _, _, h, _ => cases hb5.2
      | rng2 =>
        match es, hb3, hb4, hx with
        | [a1, a2], hb3, hb4, hx =>
          have h1 : noStar a1 = true ∧ noStar a2 = true := by simpa using hb3
          exact (pe_listRg (g.calm hb5.1) hg hm (prgA2 hg2 hm2 hx h1.1 h1.2) (noStar_each rfl)).imp fun σ H Q q => tEvs_imp (tEv_mkseq q) fun vs H1 k => by
            obtain ⟨i, j, e1, e2, e3⟩ := k.2 rfl
            exact ⟨i, j, e1, e2, e3⟩
        | [], _, h, _ => cases hb5.2
        | [_], _, h, _ => cases hb5.2
        | _ :: _ :: _ :: _, _, h, _ => cases hb5.2
      | _ => cases hb5.2
    · cases hu
  · cases hu
end
end Nr
end

section
set_option Elab.async false
set_option linter.all false
set_option maxRecDepth 100000
set_option maxHeartbeats 4000000
/-! E23: objects changed; pop. -/
namespace Nr
open PySem PySem.Spec PyProof.Rows L2 PySem.W
section
variable {I : Inf} {W : WX} {T : Tab} {cf : CallF} {n : Nm} {X : Cx} {fr : Frm} {hs gs : List (RV × V)} {F : Hp} {L : List Addr} {s : St} {σ : L2.St} {H : Hp} {Q : VK} {rx ry : RV} {x y : V}
theorem atC_updN {c : PV} {a p : Addr} {o : HO} (h : AtC I fr F L H c a) (ne : a ≠ p) : AtC I fr F L (upd H p o) c a := by
  obtain ⟨u, e, r⟩ := h
  exact ⟨u, by rw [upd_ne ne]; exact e, r⟩
theorem atC_notL {c : PV} {a : Addr} (h : AtC I fr F L H c a) : a ∉ L := by
  obtain ⟨_, _, _, _, _, q⟩ := h
  exact q
/-- an object that is changed: where it lies -/
theorem RS.setC {r : RV} {v : V} {c c' : PV} {o' : HO} {s' : St} (R : RS I fr hs F L s σ H) (hm : (r, v) ∈ hs) (hv : view s r = some c) (e : Nr.setCell r c' s = .ok () s') (hc : RepC I F L c' o') :
    ∃ a, v = .ref a ∧ RS I fr hs F L s' σ (upd H a o') := by
  cases r with
  | tmp d => cases e
  | slot i =>
    have hv : (match s.get i with | .own c => some c | _ => none) = some c := hv
    cases hg : s.get i with
    | non => rw [hg] at hv; cases hv
    | val z => rw [hg] at hv; cases hv
    | own d =>
      rw [hg] at hv; cases hv
      cases e
      obtain ⟨a, e1, o, ho, rc, fa, ba, la⟩ := R.own i c hg
      have hi := get_lt hg (by simp)
      have hvv : σ[i]? = some (some v) := R.hval _ hm
      rw [e1] at hvv
      cases hvv
      have gp : ∀ j, (s.put i (.own c')).get j = if j = i then .own c' else s.get j := fun j => get_put hi
      have gown : ∀ j d, (s.put i (.own c')).get j = .own d → ∃ d', s.get j = .own d' ∧ (j = i ∨ d' = d) := fun j d q => by
        rw [gp] at q
        by_cases z : j = i
        · subst z; exact ⟨c, hg, .inl rfl⟩
        · rw [if_neg z] at q; exact ⟨d, q, .inr rfl⟩
      refine ⟨a, rfl, { R with len := by show (s.env.set i _).length = _; rw [List.length_set]; exact R.len, fz := fun b u q => ?_, kb := fun b u q => ?_, cell := fun m b d h1 h2 => ?_, val := fun j w q => ?_, own := fun j d q => ?_, sep := fun j k d d' q1 q2 q3 => ?_, hval := fun q hq => ?_ }⟩
      · have : b ≠ a := fun z => by subst z; rw [fa] at q; cases q
        rcases R.fz b u q with h | ⟨l, o2, h⟩
        · exact .inl (by rw [upd_ne this]; exact h)
        · exact .inr ⟨l, o2, by rw [upd_ne this]; exact h⟩
      · have : b ≠ a := fun z => by subst z; rw [ba] at q; cases q
        rw [upd_ne this]; exact R.kb b u q
      · have : b ≠ a := fun z => by subst z; exact la (List.mem_of_getElem? h1)
        obtain ⟨o2, h3, h4⟩ := R.cell m b d h1 h2
        exact ⟨o2, by rw [upd_ne this]; exact h3, h4⟩
      · rw [gp] at q
        by_cases z : j = i
        · rw [if_pos z] at q; cases q
        · rw [if_neg z] at q; exact R.val j w q
      · rw [gp] at q
        by_cases z : j = i
        · rw [if_pos z] at q; cases q; subst z
          exact ⟨a, e1, o', upd_same, hc, fa, ba, la⟩
        · rw [if_neg z] at q
          obtain ⟨b, e2, at_⟩ := R.own j d q
          refine ⟨b, e2, atC_updN at_ fun zz => ?_⟩
          subst zz
          exact z (R.sep j i d c q hg (e2.trans e1.symm))
      · obtain ⟨d1, h1, _⟩ := gown j d q1
        obtain ⟨d2, h2, _⟩ := gown k d' q2
        exact R.sep j k d1 d2 h1 h2 q3
      · obtain ⟨q1, q2⟩ := q
        have hv2 := R.hval _ hq
        cases q1 with
        | val z => exact hv2
        | slot j => exact hv2
        | tmp d =>
          obtain ⟨b, eb, at_, no⟩ := hv2
          refine ⟨b, eb, atC_updN at_ fun zz => ?_, fun j d' q z => ?_⟩
          · subst zz; exact no i c hg e1
          · obtain ⟨d2, h2, _⟩ := gown j d' q
            exact no j d2 h2 z
  | val z =>
    cases z with
    | loc k =>
      cases e
      obtain ⟨a, ea, hk⟩ := R.hval _ hm
      simp only at ea; subst ea
      have hv : s.cells[k]? = some c := hv
      obtain ⟨o, ho, rc⟩ := R.cell k a c hk hv
      have hmem := List.mem_of_getElem? hk
      have fa := R.lf a hmem
      have ba := R.lb a hmem
      have hkl := (List.getElem?_eq_some_iff.mp hv).1
      refine ⟨a, rfl, { R with cl := by show (s.cells.set k c').length = _; rw [List.length_set]; exact R.cl, fz := fun b u q => ?_, kb := fun b u q => ?_, cell := fun m b d h1 h2 => ?_, own := fun j d q => ?_, hval := fun q hq => ?_ }⟩
      · have : b ≠ a := fun z => by subst z; rw [fa] at q; cases q
        rcases R.fz b u q with h | ⟨l, o2, h⟩
        · exact .inl (by rw [upd_ne this]; exact h)
        · exact .inr ⟨l, o2, by rw [upd_ne this]; exact h⟩
      · have : b ≠ a := fun z => by subst z; rw [ba] at q; cases q
        rw [upd_ne this]; exact R.kb b u q
      · have h2 : (s.cells.set k c')[m]? = some d := h2
        by_cases z : m = k
        · subst z
          rw [List.getElem?_set_self hkl] at h2
          cases h2
          rw [hk] at h1; cases h1
          exact ⟨o', upd_same, hc⟩
        · rw [List.getElem?_set_ne (fun w => z w.symm)] at h2
          obtain ⟨o2, h3, h4⟩ := R.cell m b d h1 h2
          have : b ≠ a := fun w => by
            subst w
            obtain ⟨k1, k2⟩ := List.getElem?_eq_some_iff.mp hk
            obtain ⟨m1, m2⟩ := List.getElem?_eq_some_iff.mp h1
            exact z ((List.getElem_inj R.ln).mp (m2.trans k2.symm))
          exact ⟨o2, by rw [upd_ne this]; exact h3, h4⟩
      · obtain ⟨b, e2, at_⟩ := R.own j d q
        refine ⟨b, e2, atC_updN at_ fun zz => ?_⟩
        subst zz
        exact atC_notL at_ hmem
      · obtain ⟨q1, q2⟩ := q
        have hv2 := R.hval _ hq
        cases q1 with
        | val z => exact hv2
        | slot j => exact hv2
        | tmp d =>
          obtain ⟨b, eb, at_, no⟩ := hv2
          refine ⟨b, eb, atC_updN at_ fun zz => ?_, no⟩
          subst zz; exact atC_notL at_ hmem
    | _ => cases e
/-- the list that is seen, where it lies -/
theorem shown_lst {xs : List PV} (sc : Shown I F L H (.lst xs) x) : ∃ a vs, x = .ref a ∧ H a = some (.lst vs) ∧ RepL I F L xs vs := sc
def altPop (X : Cx) : MtAlt X "pop" := ⟨"list", "list.pop", PySem.F.plainAttrs_list, PySem.F.slot_list_pop, PySem.F.type_list_pop, fun x H => tyV X.K "list" x H, fun I r t => tyV_is I r t, _, MtR.or mt_pop mt_popAt⟩
theorem ixOf_seq {k j : Nat} {i : Int} (h : ixOf k i = some j) : seqIndex? i k = some j := (ixN_seq h).1
theorem setCell_def {r : RV} {c : PV} {f : Unit → St → Nr.R RV} {gs : List (RV × V)} (P : Post I W fr gs σ Q ((Nr.setCell r c s).bind f)) : ∃ s', Nr.setCell r c s = .ok () s' ∧ Post I W fr gs σ Q (f () s') := by
  cases e : Nr.setCell r c s with
  | ok u s' => rw [e] at P; exact ⟨s', by cases u; rfl, P⟩
  | ex z s' =>
    cases r with
    | tmp d => cases e
    | slot i => cases e
    | val z => cases z <;> cases e
  | bad => rw [e] at P; exact P.elim
theorem pop_done {hs : List (RV × V)} {rs : List RV} {vs : List V} {cx : PV} {cs : List PV} (hl : vs.length = rs.length) (R : RS I fr (push rs vs ((rx, x) :: hs)) F L s σ H) (ex : view s rx = some cx) (ec : views s rs = some cs) (P : Post I W fr hs σ Q (popR s rx cx cs)) :
    rPop x vs H Q ∨ rPopAt x vs H Q := by
  have R0 : RS I fr ((rx, x) :: hs) F L s σ H := R.sub (push_sub rs vs _)
  have sx : Shown I F L H cx x := R0.shown List.mem_cons_self ex
  have sv := views_push hl (R.perm (push_perm rs vs _)) ec
  unfold popR at P
  split at P
  · rename_i xs
    cases sv
    obtain ⟨y, ey, P2⟩ := Post.opt (P := P)
    obtain ⟨s', es, P3⟩ := setCell_def P2
    obtain ⟨a, ws, rfl, t, r⟩ := sx
    obtain ⟨u, g1, g2⟩ := r.get ey
    rw [r.length] at g1
    obtain ⟨a', e', R1⟩ := R0.setC List.mem_cons_self ex es (o' := .lst ws.dropLast) ⟨_, rfl, r.dropLast⟩
    cases e'
    exact .inl ⟨a, ws, u, rfl, rfl, t, g1, Post.val P3 R1.drop g2⟩
  · rename_i xs i
    cases sv with
    | cons h1 h2 =>
      cases h2
      obtain ⟨k, ek, P2⟩ := Post.opt (P := P)
      obtain ⟨y, ey, P3⟩ := Post.opt (P := P2)
      obtain ⟨s', es, P4⟩ := setCell_def P3
      obtain ⟨a, ws, rfl, t, r⟩ := sx
      obtain ⟨u, g1, g2⟩ := r.get ey
      obtain ⟨a', e', R1⟩ := R0.setC List.mem_cons_self ex es (o' := .lst (ws.eraseIdx k)) ⟨_, rfl, r.eraseIdx k⟩
      cases e'
      split at ek
      · rename_i hr
        obtain ⟨b1, b2⟩ := rng_ok hr
        rw [r.length] at ek
        obtain ⟨j1, j2, j3, j4⟩ := ixN_seq (show ixN ws.length i = some k from ek)
        exact .inr ⟨a, ws, i, k, u, rfl, by rw [show _ = V.int i from h1], t, by omega, by omega, j1, g1, Post.val P4 R1.drop g2⟩
      · cases ek
  · exact P.elim
theorem tEv_pop {a es : CE} (h : tEv I W (evalE T cf (.pop a es)) σ H Q) : tBMs [altPop X] (tEv I W (evalE T cf a)) (tEvs I W (evalEs T cf es)) σ H Q := by
  obtain ⟨fr, hs, F, L, s, R, P⟩ := h
  refine step R (List.Sublist.refl _) P fun rx s1 F1 L1 H1 x R1 P1 => ?_
  by_cases hr : isLstR s1 rx = true
  · rw [if_pos hr] at P1
    unfold isLstR at hr
    split at hr
    · rename_i xs hv
      have sx := R1.shown List.mem_cons_self hv
      refine ⟨altPop X, by simp, tyV_lst sx, stepA R1 (List.sublist_cons_self _ _) P1 fun rs s2 F2 L2 H2 vs hl R2 P2 => ?_⟩
      obtain ⟨cx, ex, P3⟩ := Post.opt (P := P2)
      obtain ⟨cs, ec, P4⟩ := Post.opt (P := P3)
      exact pop_done hl R2 ex ec P4
    · cases hr
  · rw [if_neg hr] at P1; exact P1.elim
def popF : Expr → Option (Expr × List Expr)
  | .Call (.Attribute o m ap) es [] p => if m == ("pop" : Str) && plainBase o && (ap.endLine == p.line) && es.all noStar && decide (es.length ≤ 1) then some (o, es) else none
  | _ => none
theorem s_pop (g : Good I n X) {a es : CE} {e o : Expr} {xs : List Expr} (hu : popF e = some (o, xs)) (ho : PE X o (tEv I W (evalE T cf a))) (hx : PA X xs (tEvs I W (evalEs T cf es))) (hnil : xs = [] → es = .nil) : PE X e (tEv I W (evalE T cf (.pop a es))) := by
  unfold popF at hu
  split at hu
  · split at hu
    · rename_i hb
      cases hu
      rw [Bool.and_eq_true, Bool.and_eq_true, Bool.and_eq_true, Bool.and_eq_true] at hb
      obtain ⟨⟨⟨⟨hb1, hb2⟩, hb3⟩, hb4⟩, hb5⟩ := hb
      have hm := eq_of_beq hb1
      subst hm
      match xs, hx, hb4, hb5, hnil with
      | [], hx, _, _, hnil =>
        have e := hnil rfl
        subst e
        refine (pe_bms0 (as := [altPop X]) ho (plainBase_ok hb2) hb3).imp fun σ H Q q => ?_
        obtain ⟨fr, hs, F, L, s, R, P⟩ := tEv_pop (X := X) q
        refine ⟨fr, hs, F, L, s, R, ?_⟩
        cases e : evalE T cf a s with
        | ok r s1 =>
          rw [e] at P
          intro F1 L1 H1 v R1
          obtain ⟨alt, m, ty, k⟩ := P F1 L1 H1 v R1
          exact ⟨alt, m, ty, tEvs_nil k⟩
        | ex z s1 => rw [e] at P; exact P
        | bad => rw [e] at P; exact P
      | [b], hx, hb4, _, _ =>
        have h1 : noStar b = true := by simpa using hb4
        exact (pe_bms ho hx (plainBase_ok hb2) (few1 h1) hb3 (noStar_each h1) rfl).imp fun σ H Q q => tEv_pop q
      | _ :: _ :: _, _, _, h, _ => simp at h
    · cases hu
  · cases hu
end
end Nr
end

section
set_option Elab.async false
set_option linter.all false
set_option maxRecDepth 100000
set_option maxHeartbeats 4000000
/-! E24: what a def promises; calls. -/
namespace Nr
open PySem PySem.Spec PyProof.Rows L2 PySem.W
/-- the state at a call's entry -/
structure Ent (I : Inf) (F : Hp) (L : List Addr) (cells : List PV) (H : Hp) : Prop where
  fz : ∀ a o, F a = some o → Rl H a o
  cl : cells.length = L.length
  cell : ∀ (n : Nat) (a : Addr) (c : PV), L[n]? = some a → cells[n]? = some c → ∃ o, H a = some o ∧ RepC I F L c o
  lf : ∀ a ∈ L, F a = none
  ln : L.Nodup
/-- the state at its end -/
structure Ext (I : Inf) (F : Hp) (L : List Addr) (H : Hp) (F' : Hp) (L' : List Addr) (cells' : List PV) (H' : Hp) : Prop where
  ent : Ent I F' L' cells' H'
  gf : ∀ a o, F a = some o → F' a = some o
  gl : ∀ (n : Nat) (a : Addr), L[n]? = some a → L'[n]? = some a
  keep : ∀ a o, H a = some o → a ∉ L → H' a = some o
  nf : ∀ a o, F' a = some o → F a = some o ∨ H a = none
  nl : ∀ a ∈ L', a ∈ L ∨ H a = none
theorem Ext.grow {I : Inf} {F F' : Hp} {L L' : List Addr} {H H' : Hp} {cs : List PV} (x : Ext I F L H F' L' cs H') : Grow F F' L L' := ⟨x.gf, x.gl⟩
def OutV (I : Inf) (F' : Hp) (L' : List Addr) (H H' : Hp) : RV → V → Prop
  | .val x, v => RepV I F' L' x v
  | .tmp c, v => ∃ a o, v = .ref a ∧ H' a = some o ∧ RepC I F' L' c o ∧ F' a = none ∧ H a = none ∧ a ∉ L'
  | .slot _, _ => False
def OutR (I : Inf) (F : Hp) (L : List Addr) (H : Hp) (Q : VK) (E : XK) : FR → Prop
  | .ok r cs => ∀ F' L' H' v, Ext I F L H F' L' cs H' → OutV I F' L' H H' r v → Q v H'
  | .ex e cs => ∀ F' L' H' cls d, Ext I F L H F' L' cs H' → ExV I F' L' e cls d → E cls d H'
  | .bad => False
def spF (I : Inf) (cf : CallF) (ar : Nat) (f : Nat) : Sp := fun vs H Q E => vs.length = ar ∧ ∃ F L cells pvs, Ent I F L cells H ∧ RepL I F L pvs vs ∧ OutR I F L H Q E (cf.fn f pvs cells)
/-- a def of the text -/
structure FnFa (I : Inf) (cf : CallF) (k f ar : Nat) : Prop where
  ex : ∃ (fd : FuncData) (ps : List Str), FnOk I.P I.w I.K I.mg I.base (L2.CX I.P I.w) k (I.fad f) fd ps (spF I cf ar f) ∧ Binds I.K fd ps []
  keep : PySem.W.keepIn I.K (.ref (I.fad f)) = true
section
variable {I : Inf} {W : WX} {T : Tab} {cf : CallF} {n : Nm} {X : Cx} {fr : Frm} {hs gs : List (RV × V)} {F : Hp} {L : List Addr} {s : St} {σ : L2.St} {H : Hp} {Q : VK} {rx ry : RV} {x y : V}
theorem RS.ent (R : RS I fr hs F L s σ H) : Ent I F L s.cells H := ⟨R.fz, R.cl, R.cell, R.lf, R.ln⟩
theorem atC_ext {F' : Hp} {L' : List Addr} {H' : Hp} {cs : List PV} (E : Ext I F L H F' L' cs H') {c : PV} {a : Addr} (h : AtC I fr F L H c a) : AtC I fr F' L' H' c a := by
  obtain ⟨o, ho, rc, fa, ba, la⟩ := h
  refine ⟨o, E.keep a o ho la, rc.grow E.grow, ?_, ba, fun hm => ?_⟩
  · cases e : F' a with
    | none => rfl
    | some u =>
      rcases E.nf a u e with q | q
      · rw [fa] at q; cases q
      · rw [ho] at q; cases q
  · rcases E.nl a hm with q | q
    · exact la q
    · rw [ho] at q; cases q
/-- behind a call -/
theorem RS.ext {F' : Hp} {L' : List Addr} {H' : Hp} {cs : List PV} (R : RS I fr hs F L s σ H) (E : Ext I F L H F' L' cs H') : RS I fr hs F' L' { s with cells := cs } σ H' where
  len := R.len
  fz := E.ent.fz
  kb a o e := E.keep a o (R.kb a o e) fun hm => by have := R.lb a hm; rw [this] at e; cases e
  f0 a o e := E.gf a o (R.f0 a o e)
  l0 k a e := E.gl k a (R.l0 k a e)
  nw a o e := by
    rcases E.nf a o e with q | q
    · exact R.nw a o q
    · exact .inr (R.bn q)
  cl := E.ent.cl
  cell := E.ent.cell
  lf := E.ent.lf
  lb a hm := by
    rcases E.nl a hm with q | q
    · exact R.lb a q
    · exact R.bn q
  ln := E.ent.ln
  val i v e := by
    obtain ⟨u, h1, h2⟩ := R.val i v e
    exact ⟨u, h1, h2.grow E.grow⟩
  own i c e := by
    obtain ⟨a, h1, h2⟩ := R.own i c e
    exact ⟨a, h1, atC_ext E h2⟩
  sep := R.sep
  hval p hp := (R.hval p hp).grow E.grow fun c a _ _ h => ⟨atC_ext E h, fun i d q _ => ⟨d, q⟩⟩
  hsep := R.hsep
  slf := R.slf
  sl := R.sl
/-- a call's result is held -/
theorem RS.out {F' : Hp} {L' : List Addr} {H' : Hp} {cs : List PV} {r : RV} {v : V} (R : RS I fr hs F L s σ H) (E : Ext I F L H F' L' cs H') (o : OutV I F' L' H H' r v) : RS I fr ((r, v) :: hs) F' L' { s with cells := cs } σ H' := by
  have R1 := R.ext E
  cases r with
  | val x => exact R1.pushV o
  | slot i => exact o.elim
  | tmp c =>
    obtain ⟨a, u, rfl, ho, rc, fa, ha, la⟩ := o
    have hne : ∀ {d : PV} {b : Addr}, AtC I fr F L H d b → b ≠ a := fun {d b} h => h.ne ha
    refine { R1 with hval := fun q hq => ?_, hsep := ?_ }
    · rcases List.mem_cons.mp hq with rfl | hq
      · refine ⟨a, rfl, ⟨u, ho, rc, fa, R.bn ha, la⟩, fun i d hi e => ?_⟩
        obtain ⟨b, e2, at_⟩ := R.own i d hi
        rw [e2] at e
        cases e
        exact hne at_ rfl
      · exact R1.hval q hq
    · rw [List.filterMap_cons]
      show (a :: hs.filterMap tmpA).Nodup
      refine List.nodup_cons.mpr ⟨fun hm => ?_, R.hsep⟩
      obtain ⟨c', hc⟩ := mem_tmpA.mp hm
      obtain ⟨b, e, at_, _⟩ := R.hval _ hc
      cases e
      exact hne at_ rfl
/-- from what the evaluator says to what the promise asks -/
theorem out_of {fr0 : FR} (R : RS I fr gs F L s σ H) (hsub : hs.Sublist gs) (P : Post I W fr hs σ Q (inSt fr0 s)) : OutR I F L H Q (WE W σ) fr0 := by
  cases fr0 with
  | ok r cs => exact fun F' L' H' v E o => P F' L' H' v ((R.sub hsub).out E o)
  | ex e cs => exact fun F' L' H' cls d E x => P F' L' H' cls d ((R.sub hsub).ext E) x
  | bad => exact P
theorem tEv_call {f ar : Nat} {es : CE} (har : lenE es = ar) (h : tEv I W (evalE T cf (.call f es)) σ H Q) : tCallS (spF I cf ar f) (WE W) (tEvs I W (evalEs T cf es)) σ H Q := by
  obtain ⟨fr, hs, F, L, s, R, P⟩ := h
  refine ⟨fr, hs, F, L, s, R, ?_⟩
  have P : Post I W fr hs σ Q ((evalEs T cf es s).bind fun rs s1 => (Nr.toVals rs s1).bind fun vs s2 => inSt (cf.fn f vs s2.cells) s2) := P
  cases e : evalEs T cf es s with
  | ok rs s1 =>
    rw [e] at P
    intro F1 L1 H1 vs hl R1
    obtain ⟨xs, s2, F2, R2, r2, P2⟩ := Post.vals hl R1 P
    exact ⟨by rw [hl, evalEs_len es s s1 rs e, har], F2, L1, s2.cells, xs, R2.ent, r2, out_of R2 (List.Sublist.refl _) P2⟩
  | ex z s1 => rw [e] at P; exact P
  | bad => rw [e] at P; exact P
/-- f(), no argument -/
theorem pe_callS0 {CX : CXT} {k : Nat} {f : Addr} {fd : FuncData} {ps : List Str} {sp : Sp} {E : L2.St → XK} {x : Str} {p pos : Pos} (F : FnOk X.prog X.w X.K X.mg X.base CX k f fd ps sp) (hr : Room k X.A) (hg : Gl X x) (hm : X.mg x = some (.ref f)) (hk : PySem.W.keepIn X.K (.ref f) = true) (hb : Binds X.K fd ps []) (hx : ∀ σ, PassesAt CX X σ (E σ))
    (hdb : (x == ("__debug__" : Str)) = false) : PE X (.Call (.Name x p) [] [] pos) (tCallS sp E tNil) := by
  refine ⟨fun pins s σ H Q I h => ?_⟩
  refine wpAny_Call_Name_kw (ld_glob I hg hm ?_ hdb)
  exact PySem.W.callWith_K0 I.kIn hk (run_fnS (us := []) F hr hb (hx σ) I .nil h)
def callF (n : Nm) (sc : Scope) (f : Nat) : Expr → Option (List Expr)
  | .Call (.Name y _) es [] _ => match n.fnn f with
    | some x => if y == x && glB sc x && !dbg x && es.all noStar then some es else none
    | none => none
  | _ => none
theorem s_call (g : Good I n X) {k : Nat} (hr : Room k X.A) (tk : Takes X W) {f : Nat} {es : CE} (ff : FnFa I cf k f (lenE es)) (hmg : ∀ x, n.fnn f = some x → I.mg x = some (.ref (I.fad f))) {e : Expr} {xs : List Expr} (hu : callF n X.env.scope f e = some xs) (hx : PA X xs (tEvs I W (evalEs T cf es))) (hnil : xs = [] → es = .nil) :
    PE X e (tEv I W (evalE T cf (.call f es))) := by
  obtain ⟨⟨fd, ps, F, hb⟩, hk⟩ := ff
  have F' : FnOk X.prog X.w X.K X.mg X.base (L2.CX X.prog X.w) k (I.fad f) fd ps (spF I cf (lenE es) f) := by
    rw [g.pP, g.pw, g.pK, g.pmg, g.pb]; exact F
  unfold callF at hu
  split at hu
  · split at hu
    · rename_i x hfn
      split at hu
      · rename_i hc
        cases hu
        rw [Bool.and_eq_true, Bool.and_eq_true, Bool.and_eq_true] at hc
        obtain ⟨⟨⟨h1, h2⟩, h3⟩, h4⟩ := hc
        have h1 := eq_of_beq h1
        subst h1
        have hm := hmg _ hfn
        rw [← g.pmg] at hm
        have hk' : PySem.W.keepIn X.K (.ref (I.fad f)) = true := by rw [g.pK]; exact hk
        have hb' : Binds X.K fd ps [] := by rw [g.pK]; exact hb
        match xs, hx, h4, hnil with
        | [], hx, h4, hnil =>
          have e0 := hnil rfl
          subst e0
          exact (pe_callS0 F' hr (glB_ok h2) hm hk' hb' (fun σ => passAt tk σ) (not_dbg h3).1).imp fun σ H Q q => tEvs_nil (tEv_call rfl q)
        | a :: r, hx, h4, hnil =>
          rw [List.all_cons, Bool.and_eq_true] at h4
          exact (pe_callS F' hr (glB_ok h2) hm hk' hb' (fun σ => passAt tk σ) hx (not_dbg h3).1 (noStar_each h4.1) (noStar_any h4.2)).imp fun σ H Q q => tEv_call rfl q
      · cases hu
    · cases hu
  · cases hu
end
end Nr
end

section
set_option Elab.async false
set_option linter.all false
set_option maxRecDepth 100000
set_option maxHeartbeats 4000000
/-! E25: methods, objects made. -/
namespace Nr
open PySem PySem.Spec PyProof.Rows L2 PySem.W
/-- what a class's __init__ promises -/
def spI (I : Inf) (cf : CallF) (ar c : Nat) : Sp := fun vs H Q E => vs.length = ar ∧ ∃ F L cells pvs x dx H0 vs', vs = .ref x :: vs' ∧ H0 x = none ∧ H0 dx = none ∧ dx ≠ x ∧ H = upd (upd H0 dx (.own x)) x (.ins (I.cad c) dx []) ∧ Ent I F L cells H0 ∧ RepL I F L pvs vs' ∧
  OutR I F L H0 (fun v H2 => v = .ref x → Q .non H2) E (cf.mkI c pvs cells)
structure IniFa (I : Inf) (cf : CallF) (k c f ar : Nat) : Prop where
  ex : ∃ (fd : FuncData) (ps : List Str), FnOk I.P I.w I.K I.mg I.base (L2.CX I.P I.w) k (I.fad f) fd ps (spI I cf ar c) ∧ Binds I.K fd ps []
  made : Mk I.K (I.cad c) (I.fad f)
/-- a method's facts -/
structure MthFa (I : Inf) (T : Tab) (c m f : Nat) : Prop where
  cls : Cls I.K (I.cad c)
  me : Meth I.K (I.cad c) (I.mn m) (I.fad f)
  no : ∀ g, T.fld c g = true → I.an g ≠ I.mn m
section
variable {I : Inf} {W : WX} {T : Tab} {cf : CallF} {n : Nm} {X : Cx} {fr : Frm} {hs gs : List (RV × V)} {F : Hp} {L : List Addr} {s : St} {σ : L2.St} {H : Hp} {Q : VK} {rx ry : RV} {x y : V}
def implOf (o : Expr) (env : Env) : Sem Bool := do return (← importBound o env).getD true
theorem meth_ht {o : Expr} {m : Str} {es : List Expr} {ap p : Pos} {env : Env} (h1 : plainBase o = true) (h2 : es.all noStar = true) (h3 : es.length < 29) (h4 : (ap.endLine == p.line) = true) :
    eval (.Call (.Attribute o m ap) es [] p) env = (do
      let ov ← eval o env
      standAt ap.atName
      let (f, first) ← holding [ov] (getMethod ov m (implOf o env))
      callWith p f first (backTo p (starEach es env)) (backToKw p (keywordEach [] env))) := by
  rw [arm_eval_Call, plainBase_ok h1]
  have hform : methodCallForm (es.length + ([] : List Keyword).length) (backTo p (starEach es env)) (backToKw p (keywordEach [] env)) = true := by
    unfold methodCallForm
    rw [noStar_all h2]
    show (true && true && decide (es.length + 0 + 0 < 30)) = true
    rw [decide_eq_true (by omega)]
    rfl
  have hpos : methodCallPos true o env ap p = pure p := by unfold methodCallPos; simp [h4]
  unfold methodCall
  rw [hform]
  rw [hpos]
  rfl
def tMethD (X : Cx) (k : Nat) (m : Str) (E : L2.St → XK) (ta : TE) (t : TA) : TE := fun σ H Q => ta σ H fun x H1 => ∃ (a dx C f : Addr) (fs : List (Str × V)) (fd : FuncData) (ps : List Str) (sp : Sp), x = .ref a ∧ H1 a = some (.ins C dx fs) ∧ Cls X.K C ∧ Meth X.K C m f ∧ fs.lookup m = none ∧
  FnOk X.prog X.w X.K X.mg X.base (L2.CX X.prog X.w) k f fd ps sp ∧ Binds X.K fd ps [] ∧ t σ H1 fun vs H2 => sp (x :: vs) H2 Q (E σ)
theorem pe_methD {k : Nat} {m : Str} {E : L2.St → XK} {ta : TE} {t : TA} {o : Expr} {es : List Expr} {ap p : Pos} (hr : Room k X.A) (he : PE X o ta) (hx : ∀ σ, PassesAt (L2.CX X.prog X.w) X σ (E σ)) (ha : PA X es t) (h1 : plainBase o = true) (h2 : es.all noStar = true) (h3 : es.length < 29) (h4 : (ap.endLine == p.line) = true)
    (hn : es = [] → t = tNil) : PE X (.Call (.Attribute o m ap) es [] p) (tMethD X k m E ta t) := by
  refine ⟨fun pins s σ H Q I h => ?_⟩
  refine PySem.W.methodCall_KW (pl := implOf o X.env) (thn (he.run pins s σ H _ I h) fun u s1 ⟨x, H1, I1, rx, a, dx, C, f, fs, fd, ps, sp, ex, ea, c, hm, l, F, hb, q⟩ => ?_) (meth_ht h1 h2 h3 h4)
  subst ex
  obtain rfl : u = Value.ref a := rx
  refine getmeth_ok I1 ea c hm l ?_
  match es, ha, h2, hn with
  | [], ha, h2, hn =>
    have e := hn rfl
    subst e
    exact PySem.W.callWith_K0 (first := [.ref a]) I1.kIn hm.kp (run_fnS (us := [.ref a]) (vs := [.ref a]) F hr hb (hx σ) I1 (.cons rfl .nil) q)
  | e :: r, ha, h2, hn =>
    rw [List.all_cons, Bool.and_eq_true] at h2
    refine PySem.W.callWith_K (first := [.ref a]) (h₀ := X.base) I.ok.mod.kin hm.kp (thn (ha.run p pins s1 σ H1 _ I1 q) fun us s2 ⟨vs, H2, I2, r, q2⟩ => ⟨I2.kIn, ?_⟩) (noStar_each h2.1) (noStar_any h2.2)
    exact run_fnS (us := .ref a :: us) (vs := .ref a :: vs) F hr hb (hx σ) I2 (.cons rfl r) q2
theorem tEv_meth (g : Good I n X) {k m : Nat} {a es : CE} (mf : ∀ c f, T.mth c m = some f → MthFa I T c m f ∧ FnFa I cf k f (lenE es + 1)) (h : tEv I W (evalE T cf (.meth m a es)) σ H Q) : tMethD X k (I.mn m) (WE W) (tEv I W (evalE T cf a)) (tEvs I W (evalEs T cf es)) σ H Q := by
  obtain ⟨fr, hs, F, L, s, R, P⟩ := h
  refine step R (List.Sublist.refl _) P fun rx s1 F1 L1 H1 x R1 P1 => ?_
  obtain ⟨f, ef, P2⟩ := Post.opt (P := P1)
  obtain ⟨cx, ex, e2⟩ := Option.bind_eq_some_iff.mp ef
  have sx := R1.shown List.mem_cons_self ex
  split at e2
  · rename_i c fs
    split at e2
    · rename_i hf
      obtain ⟨mfa, ⟨⟨fd, ps, FF, hb⟩, hk⟩⟩ := mf c f e2
      obtain ⟨p, dx, ws, rfl, t, r⟩ := sx
      refine ⟨p, dx, I.cad c, I.fad f, ws, fd, ps, spF I cf (lenE es + 1) f, rfl, t, by rw [g.pK]; exact mfa.cls, by rw [g.pK]; exact mfa.me, ?_, by rw [g.pP, g.pw, g.pK, g.pmg, g.pb]; exact FF, by rw [g.pK]; exact hb, ?_⟩
      · exact r.none fun q hq => mfa.no q.1 (List.all_eq_true.mp hf q hq)
      · refine ⟨fr, (rx, .ref p) :: hs, F1, L1, s1, R1, ?_⟩
        cases e : evalEs T cf es s1 with
        | ok rs s2 =>
          rw [e] at P2
          intro F2 L2 H2 vs hl R2
          have P2 : Post I W fr hs σ Q ((Nr.toVals (rx :: rs) s2).bind fun vs s3 => inSt (cf.fn f vs s3.cells) s3) := P2
          have R3 : RS I fr (push (rx :: rs) (.ref p :: vs) hs) F2 L2 s2 σ H2 := R2
          obtain ⟨xs, s3, F3, R4, r4, P3⟩ := Post.vals (by simp [hl]) R3 P2
          exact ⟨by rw [List.length_cons, hl, evalEs_len es s1 s2 rs e], F3, L2, s3.cells, xs, R4.ent, r4, out_of R4 (List.Sublist.refl _) P3⟩
        | ex z s2 =>
          rw [e] at P2
          exact fun F2 L2 H2 cls d R2 X2 => P2 F2 L2 H2 cls d R2.drop X2
        | bad => rw [e] at P2; exact P2
    · cases e2
  · cases e2
def methF (n : Nm) (sc : Scope) (m : Nat) : Expr → Option (Expr × List Expr)
  | .Call (.Attribute o y ap) es [] p => if y == n.mn m && plainBase o && es.all noStar && decide (es.length < 29) && (ap.endLine == p.line) then some (o, es) else none
  | _ => none
theorem s_meth (g : Good I n X) (hmn : ∀ m, I.mn m = n.mn m) {k : Nat} (hr : Room k X.A) (tk : Takes X W) {m : Nat} {a es : CE} (mf : ∀ c f, T.mth c m = some f → MthFa I T c m f ∧ FnFa I cf k f (lenE es + 1)) {e o : Expr} {xs : List Expr} (hu : methF n X.env.scope m e = some (o, xs))
    (ho : PE X o (tEv I W (evalE T cf a))) (hx : PA X xs (tEvs I W (evalEs T cf es))) (hnil : xs = [] → es = .nil) : PE X e (tEv I W (evalE T cf (.meth m a es))) := by
  unfold methF at hu
  split at hu
  · split at hu
    · rename_i hc
      cases hu
      simp only [Bool.and_eq_true] at hc
      obtain ⟨⟨⟨⟨h1, h2⟩, h3⟩, h4⟩, h5⟩ := hc
      have h1 := eq_of_beq h1
      subst h1
      have key : ∀ ap p : Pos, (ap.endLine == p.line) = true → PE X (.Call (.Attribute o (n.mn m) ap) xs [] p) (tMethD X k (n.mn m) (WE W) (tEv I W (evalE T cf a)) (if xs = [] then tNil else tEvs I W (evalEs T cf es))) := by
        intro ap p h5
        refine pe_methD hr ho (fun σ => passAt tk σ) ?_ h2 h3 (of_decide_eq_true h4) h5 fun z => by rw [if_pos z]
        by_cases z : xs = []
        · rw [if_pos z]; subst z; exact pa_nil
        · rw [if_neg z]; exact hx
      refine (key _ _ h5).imp fun σ H Q q => ?_
      have q1 := tEv_meth (X := X) g mf q
      rw [hmn] at q1
      by_cases z : xs = []
      · rw [if_pos z]
        have e0 := hnil z
        subst e0
        obtain ⟨fr, hs, F, L, s, R, P⟩ := q1
        refine ⟨fr, hs, F, L, s, R, ?_⟩
        cases e : evalE T cf a s with
        | ok r s1 =>
          rw [e] at P
          intro F1 L1 H1 v R1
          obtain ⟨b1, b2, b3, b4, b5, b6, b7, b8, b9, c1, c2, c3, c4, c5, c6, c7⟩ := P F1 L1 H1 v R1
          exact ⟨b1, b2, b3, b4, b5, b6, b7, b8, b9, c1, c2, c3, c4, c5, c6, tEvs_nil c7⟩
        | ex z s1 => rw [e] at P; exact P
        | bad => rw [e] at P; exact P
      · rw [if_neg z]; exact q1
    · cases hu
  · cases hu
/-! ### objects made -/
theorem run_makeS {CX : CXT} {k : Nat} {f C : Addr} {fd : FuncData} {ps : List Str} {sp : Sp} {E : XK} {pins : List (Addr × Obj)} {σ : L2.St} {H : Hp} {s : Shared} {Q : VK} {us : List Value} {vs : List V} (M : Mk X.K C f) (F : FnOk X.prog X.w X.K X.mg X.base CX k f fd ps sp) (hr : Room (k + 1) X.A) (hb : Binds X.K fd ps [])
    (hx : PassesAt CX X σ E) (I : Inv X pins σ H s) (r : Vals vs us)
    (h : ∀ x dx, H x = none → H dx = none → dx ≠ x → sp (.ref x :: vs) (upd (upd H dx (.own x)) x (.ins C dx [])) (fun v H2 => v = .non ∧ Q (.ref x) H2) E) :
    wpAny (model X.prog X.w) X.A (call (.ref C) us) (EP X pins σ Q) X.xe s := by
  have hq := h (s.heap.objs.size + 1) s.heap.objs.size (I.hok.fresh (Nat.le_succ _)) (I.hok.fresh (Nat.le_refl _)) (Nat.ne_of_lt (Nat.lt_succ_self _))
  have I2 := Inv.made (C := C) I
  have r2 : Vals (V.ref (s.heap.objs.size + 1) :: vs) (Value.ref (s.heap.objs.size + 1) :: us) := .cons rfl r
  have hl : (Value.ref (s.heap.objs.size + 1) :: us).length = ps.length := by rw [← r2.length]; exact F.len _ _ _ _ hq
  have b := hb _ (Value.ref (s.heap.objs.size + 1) :: us) I2.kIn (by rw [List.append_nil]; exact hl)
  rw [List.append_nil] at b
  refine wpAny_call (make_map (f := f) I.kIn M.makes M.init (beq_iff_eq.mp M.fn) (codeAny_mono (F.run _ X.stack _ _ ⟨Value.ref (s.heap.objs.size + 1) :: us, []⟩ (Value.ref (s.heap.objs.size + 1) :: us) _ _ E (hr.make C us [])
    (I2.env0.make C us []) b r2 hq) fun r s' hq' => ?_))
  cases r with
  | error e => exact hx pins _ _ e s' I2 hq'
  | ok fl =>
    cases fl with
    | ret u =>
      obtain ⟨v, H', I3, rv, ev, q3⟩ := I2.after hq'
      subst ev
      exact ⟨rv, ⟨V.ref (s.heap.objs.size + 1), H', I3, rfl, q3⟩⟩
    | next => exact False.elim hq'
    | brk => exact False.elim hq'
    | cont => exact False.elim hq'
def tMakeS (C : Addr) (sp : Sp) (E : L2.St → XK) (t : TA) : TE := fun σ H Q => t σ H fun vs H1 => ∀ x dx, H1 x = none → H1 dx = none → dx ≠ x → sp (.ref x :: vs) (upd (upd H1 dx (.own x)) x (.ins C dx [])) (fun v H2 => v = .non ∧ Q (.ref x) H2) (E σ)
theorem pe_makeS {CX : CXT} {k : Nat} {f C : Addr} {fd : FuncData} {ps : List Str} {sp : Sp} {E : L2.St → XK} {x : Str} {p pos : Pos} {es : List Expr} {t : TA} (M : Mk X.K C f) (F : FnOk X.prog X.w X.K X.mg X.base CX k f fd ps sp) (hr : Room (k + 1) X.A) (hg : Gl X x) (hm : X.mg x = some (.ref C)) (hb : Binds X.K fd ps []) (hx : ∀ σ, PassesAt CX X σ (E σ))
    (ha : PA X es t) (hdb : (x == ("__debug__" : Str)) = false) (he : es.all noStar = true) (hn : es = [] → t = tNil) : PE X (.Call (.Name x p) es [] pos) (tMakeS C sp E t) := by
  refine ⟨fun pins s σ H Q I h => ?_⟩
  refine wpAny_Call_Name_kw (ld_glob I hg hm ?_ hdb)
  match es, ha, he, hn with
  | [], ha, he, hn =>
    have e := hn rfl
    subst e
    exact PySem.W.callWith_K0 I.kIn M.kp (run_makeS (us := []) M F hr hb (hx σ) I .nil h)
  | e :: r, ha, he, hn =>
    rw [List.all_cons, Bool.and_eq_true] at he
    refine PySem.W.callWith_K (h₀ := X.base) I.ok.mod.kin M.kp (thn (ha.run pos pins s σ H _ I h) fun us s1 ⟨vs, H1, I1, r, q⟩ => ⟨I1.kIn, ?_⟩) (noStar_each he.1) (noStar_any he.2)
    exact run_makeS M F hr hb (hx σ) I1 r q
theorem tEv_mk {c : Nat} {es : CE} (h : tEv I W (evalE T cf (.mk c es)) σ H Q) : tMakeS (I.cad c) (spI I cf (lenE es + 1) c) (WE W) (tEvs I W (evalEs T cf es)) σ H Q := by
  obtain ⟨fr, hs, F, L, s, R, P⟩ := h
  refine ⟨fr, hs, F, L, s, R, ?_⟩
  have P : Post I W fr hs σ Q ((evalEs T cf es s).bind fun rs s1 => (Nr.toVals rs s1).bind fun vs s2 => inSt (cf.mkI c vs s2.cells) s2) := P
  cases e : evalEs T cf es s with
  | ok rs s1 =>
    rw [e] at P
    intro F1 L1 H1 vs hl R1 x dx hx hdx hne
    obtain ⟨xs, s2, F2, R2, r2, P2⟩ := Post.vals hl R1 P
    refine ⟨by rw [List.length_cons, hl, evalEs_len es s s1 rs e], F2, L1, s2.cells, xs, x, dx, H1, vs, rfl, hx, hdx, hne, rfl, R2.ent, r2, ?_⟩
    have o := out_of R2 (List.Sublist.refl _) P2
    cases e3 : cf.mkI c xs s2.cells with
    | ok r cs =>
      rw [e3] at o
      exact fun F' L' H' v E1 o1 ev => ⟨rfl, by rw [← ev]; exact o F' L' H' v E1 o1⟩
    | ex z cs => rw [e3] at o; exact o
    | bad => rw [e3] at o; exact o
  | ex z s1 => rw [e] at P; exact P
  | bad => rw [e] at P; exact P
def mkF (n : Nm) (sc : Scope) (c : Nat) : Expr → Option (List Expr)
  | .Call (.Name y _) es [] _ => match n.cln c with
    | some x => if y == x && glB sc x && !dbg x && es.all noStar then some es else none
    | none => none
  | _ => none
theorem s_mk (g : Good I n X) {k : Nat} (hr : Room (k + 1) X.A) (tk : Takes X W) {c f : Nat} {es : CE} (ff : IniFa I cf k c f (lenE es + 1)) (hmg : ∀ x, n.cln c = some x → I.mg x = some (.ref (I.cad c))) {e : Expr} {xs : List Expr} (hu : mkF n X.env.scope c e = some xs) (hx : PA X xs (tEvs I W (evalEs T cf es))) (hnil : xs = [] → es = .nil) :
    PE X e (tEv I W (evalE T cf (.mk c es))) := by
  obtain ⟨⟨fd, ps, F, hb⟩, hM⟩ := ff
  have F' : FnOk X.prog X.w X.K X.mg X.base (L2.CX X.prog X.w) k (I.fad f) fd ps (spI I cf (lenE es + 1) c) := by
    rw [g.pP, g.pw, g.pK, g.pmg, g.pb]; exact F
  have hM' : Mk X.K (I.cad c) (I.fad f) := by rw [g.pK]; exact hM
  have hb' : Binds X.K fd ps [] := by rw [g.pK]; exact hb
  unfold mkF at hu
  split at hu
  · split at hu
    · rename_i x hfn
      split at hu
      · rename_i hc
        cases hu
        rw [Bool.and_eq_true, Bool.and_eq_true, Bool.and_eq_true] at hc
        obtain ⟨⟨⟨h1, h2⟩, h3⟩, h4⟩ := hc
        have h1 := eq_of_beq h1
        subst h1
        have hm := hmg _ hfn
        rw [← g.pmg] at hm
        by_cases z : xs = []
        · have e0 := hnil z
          subst e0 z
          exact (pe_makeS hM' F' hr (glB_ok h2) hm hb' (fun σ => passAt tk σ) pa_nil (not_dbg h3).1 rfl (fun _ => rfl)).imp fun σ H Q q => tEvs_nil (tEv_mk q)
        · exact (pe_makeS hM' F' hr (glB_ok h2) hm hb' (fun σ => passAt tk σ) hx (not_dbg h3).1 h4 (fun w => absurd w z)).imp fun σ H Q q => tEv_mk q
      · cases hu
    · cases hu
  · cases hu
end
end Nr
end

section
set_option Elab.async false
set_option linter.all false
set_option maxRecDepth 100000
set_option maxHeartbeats 4000000
/-! E26: stores in slots, targets; nested frames. -/
namespace Nr
open PySem PySem.Spec PyProof.Rows L2 PySem.W
def noSl (hs : List (RV × V)) : Prop := ∀ p ∈ hs, ∀ j, p.1 ≠ .slot j
theorem noSl.cons {hs : List (RV × V)} {r : RV} {v : V} (h : noSl hs) (hr : ∀ j, r ≠ .slot j) : noSl ((r, v) :: hs) := fun p hp => by
  rcases List.mem_cons.mp hp with rfl | hp
  · exact hr
  · exact h p hp
section
variable {I : Inf} {W : WX} {T : Tab} {cf : CallF} {n : Nm} {X : Cx} {fr : Frm} {hs gs : List (RV × V)} {F : Hp} {L : List Addr} {s : St} {σ : L2.St} {H : Hp} {Q : VK} {rx ry : RV} {x y : V}
theorem put_out {i : Nat} {z : Slot} (h : ¬ i < s.env.length) : s.put i z = s := by
  unfold St.put
  rw [List.set_eq_of_length_le (by omega)]
theorem free_ne (R : RS I fr hs F L s σ H) {i : Nat} (hf : s.free i = true) {u : V} (e : fr.slf = some u) : i ≠ 0 := by
  intro z
  subst z
  have := R.sl
  rw [e] at this
  unfold St.free at hf
  rw [this] at hf
  simp at hf
/-- a value goes to a slot -/
theorem RS.stV {i : Nat} {z : PV} {v : V} (R : RS I fr hs F L s σ H) (hn : noSl hs) (hf : s.free i = true) (h : RepV I F L z v) : RS I fr hs F L (s.put i (.val z)) (σ.set i (some v)) H := by
  by_cases hi : i < s.env.length
  · have gp : ∀ j, (s.put i (.val z)).get j = if j = i then .val z else s.get j := fun j => get_put hi
    have hσ : i < σ.length := by rw [← R.len]; exact hi
    have gown : ∀ j d, (s.put i (.val z)).get j = .own d → j ≠ i ∧ s.get j = .own d := fun j d q => by
      rw [gp] at q
      by_cases w : j = i
      · rw [if_pos w] at q; cases q
      · rw [if_neg w] at q; exact ⟨w, q⟩
    refine { R with len := by show (s.env.set i _).length = _; rw [List.length_set, List.length_set]; exact R.len, val := fun j w q => ?_, own := fun j d q => ?_, sep := fun j k d d' q1 q2 q3 => ?_, hval := fun q hq => ?_, slf := fun u e => ?_ }
    · rw [gp] at q
      by_cases c : j = i
      · rw [if_pos c] at q; cases q; subst c
        exact ⟨v, List.getElem?_set_self hσ, h⟩
      · rw [if_neg c] at q
        obtain ⟨u, h1, h2⟩ := R.val j w q
        exact ⟨u, by rw [List.getElem?_set_ne (fun w => c w.symm)]; exact h1, h2⟩
    · obtain ⟨c, q'⟩ := gown j d q
      obtain ⟨a, h1, h2⟩ := R.own j d q'
      exact ⟨a, by rw [List.getElem?_set_ne (fun w => c w.symm)]; exact h1, h2⟩
    · obtain ⟨c1, q1'⟩ := gown j d q1
      obtain ⟨c2, q2'⟩ := gown k d' q2
      rw [List.getElem?_set_ne (fun w => c1 w.symm), List.getElem?_set_ne (fun w => c2 w.symm)] at q3
      exact R.sep j k d d' q1' q2' q3
    · obtain ⟨q1, q2⟩ := q
      have hv := R.hval _ hq
      cases q1 with
      | val w => exact hv
      | slot j => exact absurd rfl (hn _ hq j)
      | tmp d =>
        obtain ⟨b, eb, at_, no⟩ := hv
        refine ⟨b, eb, at_, fun j d' q => ?_⟩
        obtain ⟨c1, q1'⟩ := gown j d' q
        rw [List.getElem?_set_ne (fun w => c1 w.symm)]
        exact no j d' q1'
    · rw [List.getElem?_set_ne (free_ne R hf e)]
      exact R.slf u e
  · rw [put_out hi, List.set_eq_of_length_le (by rw [← R.len]; omega)]
    exact R
/-- a fresh object goes to a slot that alone holds it -/
theorem RS.stT {i : Nat} {c : PV} {v : V} (R : RS I fr ((.tmp c, v) :: hs) F L s σ H) (hn : noSl hs) (hf : s.free i = true) : RS I fr hs F L (s.put i (.own c)) (σ.set i (some v)) H := by
  have R0 := R.drop
  obtain ⟨a, ea, at_, no⟩ := R.head
  simp only at ea
  subst ea
  by_cases hi : i < s.env.length
  · have gp : ∀ j, (s.put i (.own c)).get j = if j = i then .own c else s.get j := fun j => get_put hi
    have hσ : i < σ.length := by rw [← R.len]; exact hi
    have hna : ∀ {d : PV} {b : Addr}, (RV.tmp d, V.ref b) ∈ hs → b ≠ a := fun {d b} hp z => by
      subst z
      have := R.hsep
      rw [List.filterMap_cons] at this
      exact (List.nodup_cons.mp (show (b :: hs.filterMap tmpA).Nodup from this)).1 (mem_tmpA.mpr ⟨d, hp⟩)
    refine { R0 with len := by show (s.env.set i _).length = _; rw [List.length_set, List.length_set]; exact R.len, val := fun j w q => ?_, own := fun j d q => ?_, sep := fun j k d d' q1 q2 q3 => ?_, hval := fun q hq => ?_, slf := fun u e => ?_ }
    · rw [gp] at q
      by_cases w1 : j = i
      · rw [if_pos w1] at q; cases q
      · rw [if_neg w1] at q
        obtain ⟨u, h1, h2⟩ := R.val j w q
        exact ⟨u, by rw [List.getElem?_set_ne (fun w => w1 w.symm)]; exact h1, h2⟩
    · rw [gp] at q
      by_cases w1 : j = i
      · rw [if_pos w1] at q; cases q; subst w1
        exact ⟨a, List.getElem?_set_self hσ, at_⟩
      · rw [if_neg w1] at q
        obtain ⟨b, h1, h2⟩ := R.own j d q
        exact ⟨b, by rw [List.getElem?_set_ne (fun w => w1 w.symm)]; exact h1, h2⟩
    · rw [gp] at q1 q2
      by_cases w1 : j = i
      · by_cases w2 : k = i
        · rw [w1, w2]
        · rw [if_neg w2] at q2
          subst w1
          rw [List.getElem?_set_self hσ, List.getElem?_set_ne (fun w => w2 w.symm)] at q3
          exact absurd q3.symm (no k d' q2)
      · rw [if_neg w1] at q1
        by_cases w2 : k = i
        · subst w2
          rw [List.getElem?_set_self hσ, List.getElem?_set_ne (fun w => w1 w.symm)] at q3
          exact absurd q3 (no j d q1)
        · rw [if_neg w2] at q2
          rw [List.getElem?_set_ne (fun w => w1 w.symm), List.getElem?_set_ne (fun w => w2 w.symm)] at q3
          exact R.sep j k d d' q1 q2 q3
    · have hv := R0.hval q hq
      obtain ⟨q1, q2⟩ := q
      cases q1 with
      | val w => exact hv
      | slot j => exact absurd rfl (hn _ hq j)
      | tmp d =>
        obtain ⟨b, eb, at2, no2⟩ := hv
        simp only at eb
        subst eb
        refine ⟨b, rfl, at2, fun j d' q => ?_⟩
        rw [gp] at q
        by_cases w1 : j = i
        · subst w1
          rw [List.getElem?_set_self hσ]
          intro z
          cases z
          exact hna hq rfl
        · rw [if_neg w1] at q
          rw [List.getElem?_set_ne (fun w => w1 w.symm)]
          exact no2 j d' q
    · rw [List.getElem?_set_ne (free_ne R hf e)]
      exact R.slf u e
  · rw [put_out hi, List.set_eq_of_length_le (by rw [← R.len]; omega)]
    exact R0
/-! ### targets -/
/-- a value as a target sees it: as a value, or a pair that was just made -/
def TgtV (I : Inf) (F : Hp) (L : List Addr) (H : Hp) (z : PV) (v : V) : Prop := RepV I F L z v ∨ ∃ xs a vs, z = .tup xs ∧ v = .ref a ∧ SqT I.K H a vs ∧ RepL I F L xs vs
def isVarT : Tg → Bool
  | .var _ => true
  | _ => false
/-- what a target asks of its value -/
def tgOk (t : Tg) (I : Inf) (F : Hp) (L : List Addr) (H : Hp) (z : PV) (v : V) : Prop := if isVarT t then RepV I F L z v else TgtV I F L H z v
mutual
def gT (K : PySem.W.Frag) : Tg → TG
  | .var i => gName i
  | .nil => fun _ _ _ _ => False
  | .cons a b => gTup K (lenT b + 1) (gCons (gT K a) (gTs K b))
def gTs (K : PySem.W.Frag) : Tg → TGs
  | .nil => gNil
  | .cons a b => gCons (gT K a) (gTs K b)
  | .var _ => fun _ _ _ _ => False
def lenT : Tg → Nat
  | .cons _ b => lenT b + 1
  | _ => 0
end
def tgF (n : Nm) (sc : Scope) : Tg → Expr → Bool
  | .var i, .Name x _ => n.N[i]? == some x && locB sc x && !dbg x
  | .cons a b, .Tuple (e :: es) _ _ => n.cm && tgF n sc a e && noStar e && go b es
  | _, _ => false
where go : Tg → List Expr → Bool
  | .nil, [] => true
  | .cons a b, e :: es => tgF n sc a e && noStar e && go b es
  | _, _ => false
end
end Nr
end

section
set_option Elab.async false
set_option linter.all false
set_option maxRecDepth 100000
set_option maxHeartbeats 4000000
/-! E27: targets, sound. -/
namespace Nr
open PySem PySem.Spec PyProof.Rows L2 PySem.W
section
variable {I : Inf} {W : WX} {T : Tab} {cf : CallF} {n : Nm} {X : Cx} {fr : Frm} {hs gs : List (RV × V)} {F : Hp} {L : List Addr} {s : St} {σ : L2.St} {H : Hp} {Q : VK} {rx ry : RV} {x y : V}
theorem noStar_asg {e : Expr} {es : List Expr} {env : Env} (h : noStar e = true) : assignEach (e :: es) env = (false, assign e env) :: assignEach es env := by
  cases e <;> first | rfl | (cases h)
theorem asg_len {env : Env} : ∀ {es : List Expr}, (assignEach es env).length = es.length
  | [] => rfl
  | e :: es => by
    have := asg_len (env := env) (es := es)
    cases e <;> (show _ + 1 = _ + 1; rw [this])
theorem asg_find {env : Env} : ∀ {es : List Expr}, es.all noStar = true → (assignEach es env).findIdx? (·.1) = none
  | [], _ => rfl
  | e :: es, h => by
    rw [List.all_cons, Bool.and_eq_true] at h
    rw [noStar_asg h.1, List.findIdx?_cons]
    simp only [Bool.false_eq_true, if_false]
    rw [asg_find h.2]; rfl
theorem tgF_go : ∀ {t : Tg} {es : List Expr} {sc : Scope}, tgF.go n sc t es = true → es.all noStar = true ∧ es.length = lenT t
  | .nil, [], _, _ => ⟨rfl, rfl⟩
  | .cons a b, e :: es, sc, h => by
    have h : (tgF n sc a e && noStar e && tgF.go n sc b es) = true := h
    rw [Bool.and_eq_true, Bool.and_eq_true] at h
    obtain ⟨h1, h2⟩ := tgF_go h.2
    exact ⟨by rw [List.all_cons, h.1.2, h1]; rfl, by rw [List.length_cons, h2]; rfl⟩
  | .nil, _ :: _, _, h => by cases h
  | .cons _ _, [], _, h => by cases h
  | .var _, _, _, h => by cases h
/-- the names that a block may store, by its own scope -/
structure RawOk (raw : Scope) (X : Cx) : Prop where
  loc : ∀ x, locB raw x = true → L2.Loc X.env.scope x ∧ (X.fn x = true ∨ X.env.scope.names.lookup x = some .local)
theorem s_tg {raw : Scope} (g : Good I n X) (ro : RawOk raw X) : ∀ (t : Tg), (∀ {e : Expr}, tgF n raw t e = true → PG X e (gT X.K t)) ∧ (∀ {es : List Expr}, tgF.go n raw t es = true → PGs X es (gTs X.K t))
  | .var i => by
    refine ⟨fun {e} h => ?_, fun {es} h => (by cases es <;> cases h)⟩
    unfold tgF at h
    split at h
    · rename_i j x p he
      cases he
      simp only [Bool.and_eq_true] at h
      have h1 := eq_of_beq h.1.1
      exact pg_name g.nd (by rw [g.pN]; exact h1) (ro.loc _ h.1.2).1 (ro.loc _ h.1.2).2
    · rename_i he; cases he
    · cases h
  | .nil => by
    refine ⟨fun {e} h => (by cases e <;> cases h), fun {es} h => ?_⟩
    cases es with
    | nil => exact pgs_nil
    | cons e es => cases h
  | .cons a b => by
    obtain ⟨a1, _⟩ := s_tg g ro a
    obtain ⟨_, b2⟩ := s_tg g ro b
    refine ⟨fun {e} h => ?_, fun {es} h => ?_⟩
    · unfold tgF at h
      split at h
      · rename_i he; cases he
      · rename_i a' b' e0 es k p he
        cases he
        simp only [Bool.and_eq_true] at h
        obtain ⟨⟨⟨h1, h2⟩, h3⟩, h4⟩ := h
        obtain ⟨q1, q2⟩ := tgF_go h4
        exact pg_tup (g.calm h1) (pgs_cons (a1 h2) (b2 h4) (by rw [noStar_asg h3]; rfl)) (by rw [asg_len, List.length_cons, q2]) (asg_find (by rw [List.all_cons, h3, q1]; rfl))
      · cases h
    · cases es with
      | nil => cases h
      | cons e es =>
        have h : (tgF n raw a e && noStar e && tgF.go n raw b es) = true := h
        simp only [Bool.and_eq_true] at h
        exact pgs_cons (a1 h.1.1) (b2 h.2) (by rw [noStar_asg h.1.2]; rfl)
/-- how far slots may differ -/
def Apart (vars : List Nat) (σ σ' : L2.St) : Prop := σ'.length = σ.length ∧ ∀ j, j ∉ vars → σ'[j]? = σ[j]?
def ApartS (vars : List Nat) (s s' : St) : Prop := s'.cells = s.cells ∧ s'.slf = s.slf ∧ s'.env.length = s.env.length ∧ ∀ j, j ∉ vars → s'.get j = s.get j
theorem Apart.refl {vars : List Nat} {σ : L2.St} : Apart vars σ σ := ⟨rfl, fun _ _ => rfl⟩
theorem ApartS.refl {vars : List Nat} {s : St} : ApartS vars s s := ⟨rfl, rfl, rfl, fun _ _ => rfl⟩
theorem Apart.trans {u v : List Nat} {σ σ1 σ2 : L2.St} (a : Apart u σ σ1) (b : Apart v σ1 σ2) : Apart (u ++ v) σ σ2 :=
  ⟨b.1.trans a.1, fun j h => by rw [List.mem_append, not_or] at h; rw [b.2 j h.2, a.2 j h.1]⟩
theorem ApartS.trans {u v : List Nat} {s s1 s2 : St} (a : ApartS u s s1) (b : ApartS v s1 s2) : ApartS (u ++ v) s s2 :=
  ⟨b.1.trans a.1, b.2.1.trans a.2.1, b.2.2.1.trans a.2.2.1, fun j h => by rw [List.mem_append, not_or] at h; rw [b.2.2.2 j h.2, a.2.2.2 j h.1]⟩
theorem apart_set {σ : L2.St} {i : Nat} {v : Option V} : Apart [i] σ (σ.set i v) := ⟨List.length_set, fun j h => List.getElem?_set_ne fun z => h (by rw [z]; exact List.mem_singleton.mpr rfl)⟩
theorem apart_put {s : St} {i : Nat} {z : Slot} : ApartS [i] s (s.put i z) := by
  refine ⟨rfl, rfl, List.length_set, fun j h => ?_⟩
  have : j ≠ i := fun z => h (by rw [z]; exact List.mem_singleton.mpr rfl)
  show (s.env.set i z).getD j .non = s.env.getD j .non
  rw [List.getD_eq_getElem?_getD, List.getD_eq_getElem?_getD, List.getElem?_set_ne (fun w => this w.symm)]
theorem TgtV.mono_rep {z : PV} {v : V} (h : RepV I F L z v) (t : Tg) : tgOk t I F L H z v := by
  unfold tgOk
  split
  · exact h
  · exact .inl h
/-- a store in a target -/
theorem asg_ok (hn : noSl hs) : ∀ (t : Tg), (∀ {z : PV} {v : V} {s s' : St} {σ : L2.St}, asgT t z s = .ok () s' → RS I fr hs F L s σ H → tgOk t I F L H z v → ∀ {Q : L2.St → Hp → Prop}, (∀ σ', RS I fr hs F L s' σ' H → Apart (tgVars t) σ σ' → ApartS (tgVars t) s s' → Q σ' H) → gT I.K t v σ H Q) ∧
    (∀ {xs : List PV} {vs : List V} {s s' : St} {σ : L2.St}, (t = .nil ∧ xs = [] ∧ s' = s ∨ (∃ a b, t = .cons a b) ∧ asgT t (.tup xs) s = .ok () s') → RS I fr hs F L s σ H → RepL I F L xs vs → ∀ {Q : L2.St → Hp → Prop}, (∀ σ', RS I fr hs F L s' σ' H → Apart (tgVars t) σ σ' → ApartS (tgVars t) s s' → Q σ' H) → gTs I.K t vs σ H Q)
  | .var i => by
    refine ⟨fun {z v s s' σ} e R o {Q} k => ?_, fun {xs vs s s' σ} e => ?_⟩
    · have e : (if s.free i = true then Nr.R.ok () (s.put i (.val z)) else .bad) = .ok () s' := e
      split at e
      · rename_i hf
        cases e
        exact k _ (R.stV hn hf o) apart_set apart_put
      · cases e
    · rcases e with ⟨e, _⟩ | ⟨⟨a, b, e⟩, _⟩ <;> cases e
  | .nil => by
    refine ⟨fun {z v s s' σ} e => (by cases e), fun {xs vs s s' σ} e R r {Q} k => ?_⟩
    rcases e with ⟨_, e1, e2⟩ | ⟨⟨a, b, e⟩, _⟩
    · subst e1 e2
      cases r
      exact ⟨rfl, k σ R .refl .refl⟩
    · cases e
  | .cons a b => by
    obtain ⟨a1, _⟩ := asg_ok hn a
    obtain ⟨_, b2⟩ := asg_ok hn b
    have key : ∀ {xs : List PV} {vs : List V} {s s' : St} {σ : L2.St}, asgT (.cons a b) (.tup xs) s = .ok () s' → RS I fr hs F L s σ H → RepL I F L xs vs → ∀ {Q : L2.St → Hp → Prop}, (∀ σ', RS I fr hs F L s' σ' H → Apart (tgVars (.cons a b)) σ σ' → ApartS (tgVars (.cons a b)) s s' → Q σ' H) → gTs I.K (.cons a b) vs σ H Q ∧ vs.length = lenT b + 1 := by
      intro xs vs s s' σ e R r Q k
      cases xs with
      | nil => cases e
      | cons z zs =>
        obtain ⟨v, vs', e1, r1, r2⟩ := r
        subst e1
        have e : (asgT a z s).bind (fun _ s1 => match b, zs with
          | .nil, [] => Nr.R.ok () s1
          | .cons _ _, _ :: _ => asgT b (.tup zs) s1
          | _, _ => .bad) = .ok () s' := e
        cases e2 : asgT a z s with
        | ex q s1 => rw [e2] at e; cases e
        | bad => rw [e2] at e; cases e
        | ok u s1 =>
          cases u
          rw [e2] at e
          have e3 : b = .nil ∧ zs = [] ∧ s' = s1 ∨ (∃ c d, b = .cons c d) ∧ asgT b (.tup zs) s1 = .ok () s' := by
            have e : (match b, zs with
              | .nil, [] => Nr.R.ok () s1
              | .cons _ _, _ :: _ => asgT b (.tup zs) s1
              | _, _ => .bad) = .ok () s' := e
            split at e
            · cases e; exact .inl ⟨rfl, rfl, rfl⟩
            · exact .inr ⟨⟨_, _, rfl⟩, e⟩
            · cases e
          refine ⟨⟨v, vs', rfl, a1 e2 R (TgtV.mono_rep r1 a) fun σ1 R1 p1 q1 => b2 e3 R1 r2 fun σ2 R2 p2 q2 => k σ2 R2 (p1.trans p2) (q1.trans q2)⟩, ?_⟩
          have hl : ∀ {b : Tg} {zs : List PV} {s1 s' : St}, (b = .nil ∧ zs = [] ∧ s' = s1 ∨ (∃ c d, b = .cons c d) ∧ asgT b (.tup zs) s1 = .ok () s') → zs.length = lenT b := by
            intro b
            induction b with
            | var i => intro zs s1 s' h; rcases h with ⟨h, _⟩ | ⟨⟨c, d, h⟩, _⟩ <;> cases h
            | nil => intro zs s1 s' h; rcases h with ⟨_, h, _⟩ | ⟨⟨c, d, h⟩, _⟩ <;> first | (subst h; rfl) | (cases h)
            | cons c d ih1 ih2 =>
              intro zs s1 s' h
              rcases h with ⟨h, _⟩ | ⟨_, h⟩
              · cases h
              · cases zs with
                | nil => cases h
                | cons z zs =>
                  have h : (asgT c z s1).bind (fun _ s1 => match d, zs with
                    | .nil, [] => Nr.R.ok () s1
                    | .cons _ _, _ :: _ => asgT d (.tup zs) s1
                    | _, _ => .bad) = .ok () s' := h
                  cases e2 : asgT c z s1 with
                  | ex q s1 => rw [e2] at h; cases h
                  | bad => rw [e2] at h; cases h
                  | ok u s2 =>
                    rw [e2] at h
                    have h : (match d, zs with
                      | .nil, [] => Nr.R.ok () s2
                      | .cons _ _, _ :: _ => asgT d (.tup zs) s2
                      | _, _ => .bad) = .ok () s' := h
                    rw [List.length_cons]
                    show _ = lenT d + 1
                    congr 1
                    split at h
                    · rfl
                    · exact ih2 (.inr ⟨⟨_, _, rfl⟩, h⟩)
                    · cases h
          rw [List.length_cons, ← r2.length, hl e3]
    refine ⟨fun {z v s s' σ} e R o {Q} k => ?_, fun {xs vs s s' σ} e R r {Q} k => ?_⟩
    · have o : TgtV I F L H z v := o
      have hz : ∃ xs p vs, z = .tup xs ∧ v = .ref p ∧ SqT I.K H p vs ∧ RepL I F L xs vs := by
        rcases o with o | o
        · cases z with
          | tup xs => obtain ⟨p, vs, e1, t, r⟩ := o; exact ⟨xs, p, vs, rfl, e1, (R.tupUp t).sq, r⟩
          | _ => cases e
        · exact o
      obtain ⟨xs, p, vs, e1, e2, t, r⟩ := hz
      subst e1 e2
      obtain ⟨q1, q2⟩ := key e R r k
      exact ⟨p, vs, rfl, t, q2, q1⟩
    · rcases e with ⟨e, _⟩ | ⟨_, e⟩
      · cases e
      · exact (key e R r k).1
end
end Nr
end

section
set_option Elab.async false
set_option linter.all false
set_option maxRecDepth 100000
set_option maxHeartbeats 4000000
/-! E28: enumerate(tuple); the sources of loops. -/
namespace Nr
open PySem PySem.Spec PyProof.Rows L2 PySem.W
open AutoSeq1 (wpAny_loadPart')
theorem meets_enumT (l : Addr) (items : Array Value) (n : Nat) (dct : Option Addr) (sl : Array (Option Value)) :
    Meets (Builtin.«enumerate.__new__» ⟨[.type "enumerate", .ref l], []⟩) (fun _ R s => s.heap.get? l = some { cls := .type "tuple", dict := dct, data := .seq items n, slots := sl } ∧
      R (.ok (.ret (.ref (s.heap.push { cls := .type "tuple_iterator", data := .fields #[.ref l, .int 0 0] }).objs.size)))
        { s with heap := (s.heap.push { cls := .type "tuple_iterator", data := .fields #[.ref l, .int 0 0] }).push { cls := .type "enumerate", data := .fields #[.none, .bool false, .ref s.heap.objs.size, rawInt 0, .none, .none] } }) :=
  .of_wp fun prog w A R s h => by
    obtain ⟨hp, g, d, tk, os⟩ := s; obtain ⟨hl, h⟩ := h
    have hsub := sub_enumerate
    have hL : Heap.IsTuple (Shared.heap ⟨hp, g, d, tk, os⟩) l items := ⟨_, hl, rfl, n, rfl⟩
    wp_walk using wpAny_loadPart' hl
    refine wpAny_stack_any fun st => wpAny_pure ?_
    split
    · rename_i c _ _ _ _ _
      cases (c == Value.type "enumerate")
      · wp_walk using wpAny_loadPart' hl, wpAny_pyIter_tuple hL
        exact ⟨_, rfl, h⟩
      · wp_walk using wpAny_loadPart' hl, wpAny_pyIter_tuple hL
        exact ⟨_, rfl, h⟩
    · wp_walk using wpAny_loadPart' hl, wpAny_pyIter_tuple hL
      exact ⟨_, rfl, h⟩
section
variable {prog : Program} {w : World} {A : Around} {E : Value → Shared → Prop} {s : Shared}
theorem call_enumT {l : Addr} {items : Array Value} {Q : Value → Shared → Prop} (hL : s.heap.IsTuple l items)
    (h : ∀ h', IsEnum h' (s.heap.objs.size + 1) s.heap.objs.size 0 .none → h'.IsTupleIter s.heap.objs.size l 0 → h'.objs.size = s.heap.objs.size + 2 →
      (∀ b o, s.heap.get? b = some o → h'.get? b = some o) → Q (.ref (s.heap.objs.size + 1)) { s with heap := h' }) :
    wpAny (model prog w) A (call (.type "enumerate") [.ref l]) Q E s := by
  obtain ⟨⟨c, dct, dt, sl⟩, hl, hc, n, hd⟩ := hL
  replace hc : c = .type "tuple" := hc
  replace hd : dt = .seq items n := hd
  subst hc hd
  refine callType_new F.called_enumerate (by decide) (F.typeCall_enumerate_1 _) (F.newCall_enumerate_1 _) (fun obj => F.args_object_init_2 obj _) F.entry_enumerate_new
    (meets_enumT l items n dct sl) ⟨hl, ?_⟩
  have hz : (s.heap.push { cls := .type "tuple_iterator", data := .fields #[.ref l, .int 0 0] }).objs.size = s.heap.objs.size + 1 := Heap.size_push ..
  show _ ∧ _
  rw [hz]
  have he : IsEnum ((s.heap.push { cls := .type "tuple_iterator", data := .fields #[.ref l, .int 0 0] }).push
      { cls := .type "enumerate", data := .fields #[.none, .bool false, .ref s.heap.objs.size, rawInt 0, .none, .none] }) (s.heap.objs.size + 1) s.heap.objs.size 0 .none := by
    have := Heap.get?_push_size (s.heap.push { cls := .type "tuple_iterator", data := .fields #[.ref l, .int 0 0] })
      (o := { cls := .type "enumerate", data := .fields #[.none, .bool false, .ref s.heap.objs.size, rawInt 0, .none, .none] }) rfl
    rw [hz] at this; exact this
  refine ⟨⟨_, he, rfl⟩, h _ he ⟨_, Heap.get?_push_of_some _ (Heap.get?_push_size _ rfl), rfl, rfl⟩ (by rw [Heap.size_push, hz]) fun b o x => Heap.get?_push_of_some _ (Heap.get?_push_of_some _ x)⟩
theorem next_enumT_end {e it l : Addr} {i : Nat} {items : Array Value} {old : Value} {Q : Option Value → Shared → Prop} (hh : A.handled = none)
    (he : IsEnum s.heap e it i old) (hit : s.heap.IsTupleIter it l i) (hl : s.heap.IsTuple l items) (hx : items[i]? = none)
    (hQ : ∀ h', Heap.ExtBut it s.heap h' → Q none { s with heap := h' }) : wpAny (model prog w) A (pyNext (.ref e)) Q E s := by
  have hT : s.TypeIs (.ref e) "enumerate" := ⟨_, he, rfl⟩
  unfold pyNext
  refine wpAny_bind (wpAny_attempt (wpAny_callSpecial?_slot (name := Str.ofString "__next__") hT F.slot_enumerate_next
    (wpAny_call_entry F.slot_enumerate_next hT F.entry_enumerate_next ?_ (F.args_enumerate_next_1 _))))
  show wpAny _ _ (field (.ref e) 2 >>= _) _ _ _
  refine wpAny_bind (wpAny_field he rfl (x := .ref it) rfl ?_)
  refine wpAny_bind (wpAny_nextOf_tuple_end hh hit hl hx fun h' x he' hx' => ?_)
  obtain ⟨o, ho, hc⟩ := hx'
  refine wpAny_bind (wpAny_isInstance (T := "StopIteration") (b := true) ⟨o, ho, hc⟩ isSubtype_stop ?_)
  exact wpAny_pure (hQ _ he')
end
/-- the tuple at a, each item in a new pair -/
def IteT (K : PySem.W.Frag) (a : Addr) : It :=
  ⟨fun i H => ∃ (xs : List V) (x : V), SqT K H a xs ∧ xs[i]? = some x, fun i H v H' => ∃ T x, v = .ref T ∧ H T = none ∧ H' = upd H T (.tup [.int (i : Nat), x]) ∧ ∀ xs, SqT K H a xs → xs[i]? = some x, fun i H => ∃ xs : List V, SqT K H a xs ∧ xs.length ≤ i⟩
theorem turn_enumT {P : Program} {w : World} {K : PySem.W.Frag} {elts : List Expr} {kk : Nat} {tpos : Pos} (a e it : Addr) (ha : a ≠ it) (hae : a ≠ e) :
    Turn P w K (.Tuple elts kk tpos) (IteT K a) [e, it] e (fun i h => (∃ old, IsEnum h e it ((i : Nat) : Int) old) ∧ h.IsTupleIter it a i ∧ e ≠ it) where
  mem := by simp
  obj := fun i h st b hb => by
    obtain ⟨⟨old, he⟩, ⟨o, ho, hc, hd⟩, _⟩ := st
    have e' : b = e ∨ b = it := by simpa using hb
    rcases e' with z | z
    · rw [z]; exact ⟨_, he, fun v q => nomatch q⟩
    · rw [z]; exact ⟨o, ho, fun v q => by rw [hd] at q; cases q⟩
  keep := fun i h h' st k => let ⟨⟨old, he⟩, hi, hne⟩ := st; ⟨⟨old, k e (by simp) _ he⟩, hi.at fun o q => k it (by simp) o q, hne⟩
  item := by
    intro X hP hw hK hc i pins s σ H E I hf st hg
    subst hP hw hK
    obtain ⟨⟨old, he⟩, hit, hne⟩ := st
    obtain ⟨xs, x, hq, hx⟩ := hg
    obtain ⟨its, rv, p, hz⟩ := I.tuple hq
    obtain ⟨u, hu, ru⟩ := rv.get hx
    have hel : e < s.heap.objs.size := Heap.lt_size he
    have hil : it < s.heap.objs.size := by obtain ⟨_, q, _⟩ := hit; exact Heap.lt_size q
    have D := Draws.tuple (prog := X.prog) (w := X.w) (A := X.A.in1) (I.ok.hd hc) it a ha its.toArray
    have hlt : i < its.toArray.size := by
      rw [List.size_toArray]
      exact (List.getElem?_eq_some_iff.mp hu).1
    refine wpAny_pyNext_enum_itemD D he ⟨hit, (show s.heap.IsTuple a its.toArray from p)⟩ hlt hne (by simp only [List.mem_cons, List.not_mem_nil, or_false, not_or]; exact ⟨hne, fun z => hae z.symm⟩) fun x0 h' tk hx0 ho hst' hT hsz hk => ?_
    have hx0 : its.toArray[i]? = some x0 := hx0
    have : x0 = u := by
      have q : its[i]? = some x0 := by simpa using hx0
      rw [hu] at q
      exact (Option.some.inj q).symm
    subst this
    obtain ⟨hit', _⟩ := hst'
    refine ⟨_, rfl, wpAny_letOwnedTupleGo_enum (s := { s with heap := h', toks := tk + 1 }) ho fun h'' he' sb => ?_⟩
    have hT2 : h''.get? s.heap.objs.size = some { cls := .type "tuple", data := .seq #[.int i tk, x0] } := (sb.2 _ (Nat.ne_of_gt hel)).trans hT
    have new : ObjOk X.prog X.w (upd H s.heap.objs.size (.tup [.int (i : Nat), x])) h'' s.heap.objs.size (.tup [.int (i : Nat), x]) :=
      ⟨by show 2 ≤ sizeLine; decide, [.int i tk, x0], .cons ⟨_, rfl⟩ (.cons ru .nil), ⟨_, hT2, rfl, _, rfl⟩⟩
    have I1 : Inv X pins σ (upd H s.heap.objs.size (.tup [.int (i : Nat), x])) { s with heap := h'', toks := tk + 1 } :=
      I.turnedNew (t' := tk + 1) (ch := [e, it]) (fun b ob hb q => (sb.2 b (fun z => hb (by simp [z]))).trans (hk b ob (fun z => hb (by simp [z])) (fun z => hb (by simp [z])) q)) hf (Nat.le_refl _) new
    refine ⟨.ref s.heap.objs.size, _, I1, rfl, ⟨_, x, rfl, I.hok.fresh (Nat.le_refl _), rfl, fun ys hy => by rw [I.tuple_inj hy hq]; exact hx⟩, ⟨⟨x0, ?_⟩, hit'.at fun o q => (sb.2 it (Ne.symm hne)).trans q, hne⟩, fun b hb => ?_⟩
    · have e1 : ((i + 1 : Nat) : Int) = (i : Int) + 1 := by omega
      rw [e1]; exact he'
    · have hb' : b < s.heap.objs.size := by
        have e' : b = e ∨ b = it := by simpa using hb
        rcases e' with z | z
        · rw [z]; exact hel
        · rw [z]; exact hil
      rw [upd_ne (Nat.ne_of_lt hb')]
      exact (hf b hb).1
  done := by
    intro X hP hw hK hc i pins s σ H E I hf st hg
    subst hP hw hK
    obtain ⟨⟨old, he⟩, hit, hne⟩ := st
    obtain ⟨xs, hq, hx⟩ := hg
    obtain ⟨its, rv, p, hz⟩ := I.tuple hq
    obtain ⟨f0, f1, f2, f3, f4, f5⟩ := hf it (by simp)
    have hl := rv.length
    exact next_enumT_end (I.ok.hd hc) he hit (show s.heap.IsTuple a its.toArray from p) (by simp; omega) fun h' eb => ⟨rfl, I.turned (t' := s.toks) (fun b o hb q => eb b o hb q) f0 f1 f3 f4 f5⟩
  self := fun A i s Q E st h => let ⟨⟨_, he⟩, _⟩ := st; wpAny_pyIter_enum he h
/-! ### all kinds of sources -/
def wIt (K : PySem.W.Frag) : IK → List V → Hp → (It → Hp → Prop) → Prop
  | .seq, vs, H, R => ∃ a xs, vs = [.ref a] ∧ ((SqL K H a xs ∧ R (Itl K a) H) ∨ (SqT K H a xs ∧ R (Itt K a) H))
  | .rng1, vs, H, R => ∃ j : Int, vs = [.int j] ∧ -(2 ^ 62) ≤ j ∧ j < 2 ^ 62 ∧ R (Itr 0 j.toNat) H
  | .rng2, vs, H, R => ∃ i j : Int, vs = [.int i, .int j] ∧ (-(2 ^ 62) ≤ i ∧ i < 2 ^ 62 ∧ -(2 ^ 62) ≤ j ∧ j < 2 ^ 62) ∧ R (Itr i (j - i).toNat) H
  | .rng3, vs, H, R => ∃ (i j : Int), vs = [.int i, .int j, .int (-1)] ∧ (-(2 ^ 62) ≤ i ∧ i < 2 ^ 62 ∧ -(2 ^ 62) ≤ j ∧ j < 2 ^ 62) ∧ R (Itc i (-1) (i - j).toNat) H
  | .enum, vs, H, R => ∃ a xs, vs = [.ref a] ∧ ((SqL K H a xs ∧ R (Ite K a) H) ∨ (SqT K H a xs ∧ R (IteT K a) H))
  | .zip2, vs, H, R => ∃ a b xs ys, vs = [.ref a, .ref b] ∧ ((SqL K H a xs ∧ SqL K H b ys ∧ R (Itz K a b) H) ∨ (SqT K H a xs ∧ SqT K H b ys ∧ R (RZ.ItzT K a b) H))
/-- the source's arguments in the text -/
def itArgs (n : Nm) (sc : Scope) (ik : IK) (tg it : Expr) : Option (List Expr) := match ik with
  | .seq => if noStar it then some [it] else none
  | .rng1 => match it with
    | .Call (.Name y _) [a] [] _ => if bltB sc "range" y && noStar a then some [a] else none
    | _ => none
  | .rng2 => match it with
    | .Call (.Name y _) [a, b] [] _ => if bltB sc "range" y && noStar a && noStar b then some [a, b] else none
    | _ => none
  | .rng3 => match it with
    | .Call (.Name y _) [a, b, c] [] _ => if bltB sc "range" y && noStar a && noStar b && noStar c then some [a, b, c] else none
    | _ => none
  | .enum => match tg, it with
    | .Tuple _ _ _, .Call (.Name y _) [a] [] _ => if bltB sc "enumerate" y && noStar a then some [a] else none
    | _, _ => none
  | .zip2 => match tg, it with
    | .Tuple _ _ _, .Call (.Name y _) [a, b] [] _ => if bltB sc "zip" y && noStar a && noStar b then some [a, b] else none
    | _, _ => none
section
variable {I : Inf} {n : Nm} {X : Cx}
theorem pi_seqB {tg l : Expr} {tl : TE} (hl : PE X l tl) : PI X tg l (fun σ H R => tl σ H fun x H1 => wIt X.K .seq [x] H1 R) := by
  refine ⟨fun pins s σ H R I h => ?_⟩
  refine thn (hl.run pins s σ H _ I h) fun v s1 ⟨x, H1, I1, r1, q1⟩ => ?_
  obtain ⟨a, xs, e, q⟩ := q1
  cases e
  cases r1
  have fin : ∀ b ∈ [s1.heap.objs.size], FpOk X pins H1 b := fun b hb => by
    have e : b = s1.heap.objs.size := by simpa using hb
    subst e
    exact I1.fpOk (Nat.le_refl _) (I1.hok.fresh (Nat.le_refl _))
  rcases q with ⟨hq, q⟩ | ⟨hq, q⟩
  · obtain ⟨its, rv, p, hz⟩ := I1.list hq
    refine wpAny_pyIter_list p.isList ?_
    exact ⟨s1.heap.objs.size, [s1.heap.objs.size], _, _, H1, rfl, I1.kept (t' := s1.toks) fun b o e => Heap.get?_push_of_some _ e, turn_list a _, ⟨_, Heap.get?_push_size _ rfl, rfl, rfl⟩, fin, q⟩
  · obtain ⟨its, rv, p, hz⟩ := I1.tuple hq
    refine wpAny_pyIter_tuple (show s1.heap.IsTuple a its.toArray from p) ?_
    exact ⟨s1.heap.objs.size, [s1.heap.objs.size], _, _, H1, rfl, I1.kept (t' := s1.toks) fun b o e => Heap.get?_push_of_some _ e, turn_tuple a _, ⟨_, Heap.get?_push_size _ rfl, rfl, rfl⟩, fin, q⟩
theorem pi_enumB {e : Expr} {ta : TA} {p pos tpos : Pos} {elts : List Expr} {kk : Nat} (hg : Gl X "enumerate") (hm : X.mg "enumerate" = none) (ha : PA X [e] ta) (hs : noStar e = true) :
    PI X (.Tuple elts kk tpos) (.Call (.Name "enumerate" p) [e] [] pos) (fun σ H R => ta σ H fun vs H1 => wIt X.K .enum vs H1 R) := by
  refine ⟨fun pins s σ H R I h => ?_⟩
  refine Call_ (ld_blt I hg hm (by decide +kernel : bootBuiltins "enumerate" = some (.type "enumerate")) (PyProof.Rows.callWith_type1 (thn (ha.run pos pins s σ H _ I h) fun us s1 ⟨vs, H1, I1, r1, q1⟩ => ?_) (noStar_each hs) rfl))
  obtain ⟨a, xs, ex, q⟩ := q1
  subst ex
  obtain ⟨u, rfl, rx⟩ := vals1 r1
  cases rx
  have fin : ∀ b ∈ [s1.heap.objs.size + 1, s1.heap.objs.size], FpOk X pins H1 b := fun b hb => by
    have e' : b = s1.heap.objs.size + 1 ∨ b = s1.heap.objs.size := by simpa using hb
    have hle : s1.heap.objs.size ≤ b := by
      rcases e' with z | z
      · rw [z]; exact Nat.le_add_right _ _
      · rw [z]; exact Nat.le_refl _
    exact I1.fpOk hle (I1.hok.fresh hle)
  rcases q with ⟨hq, q⟩ | ⟨hq, q⟩
  · obtain ⟨its, rv, p', hz⟩ := I1.list hq
    refine call_enumerate_list p'.isList fun h' he hit hsz hk => wpAny_pyIter_enum he ?_
    have I2 : Inv X pins σ H1 { s1 with heap := h' } := I1.kept (t' := s1.toks) hk
    exact ⟨s1.heap.objs.size + 1, [s1.heap.objs.size + 1, s1.heap.objs.size], _, _, H1, rfl, I2, turn_enum a (s1.heap.objs.size + 1) s1.heap.objs.size, ⟨⟨.none, he⟩, hit, Nat.succ_ne_self _⟩, fin, q⟩
  · obtain ⟨its, rv, p', hz⟩ := I1.tuple hq
    obtain ⟨o1, ho1, _⟩ := id p'
    have hlt := Heap.lt_size ho1
    refine call_enumT (show s1.heap.IsTuple a its.toArray from p') fun h' he hit hsz hk => wpAny_pyIter_enum he ?_
    have I2 : Inv X pins σ H1 { s1 with heap := h' } := I1.kept (t' := s1.toks) hk
    exact ⟨s1.heap.objs.size + 1, [s1.heap.objs.size + 1, s1.heap.objs.size], _, _, H1, rfl, I2, turn_enumT a (s1.heap.objs.size + 1) s1.heap.objs.size (Nat.ne_of_lt hlt) (Nat.ne_of_lt (Nat.lt_succ_of_lt hlt)), ⟨⟨.none, he⟩, hit, Nat.succ_ne_self _⟩, fin, q⟩
theorem _root_.L2.PI.imp {tg it : Expr} {w w' : TI} (h : PI X tg it w) (k : ∀ σ H R, w' σ H R → w σ H R) : PI X tg it w' := ⟨fun pins s σ H R I q => h.run pins s σ H R I (k _ _ _ q)⟩
theorem s_iter (g : Good I n X) {ik : IK} {tg it : Expr} {es : List Expr} {ta : TA} (hu : itArgs n X.env.scope ik tg it = some es) (ha : PA X es ta) (hmo : ∀ σ H (QA QB : List V → Hp → Prop), (∀ vs H1, QA vs H1 → QB vs H1) → ta σ H QA → ta σ H QB) (hseq : ∀ l, es = [l] → ik = .seq → ∃ te, PE X l te ∧ ∀ σ H Q, ta σ H Q → te σ H fun x H1 => Q [x] H1) :
    PI X tg it (fun σ H R => ta σ H fun vs H1 => wIt X.K ik vs H1 R) := by
  unfold itArgs at hu
  cases ik with
  | seq =>
    dsimp only at hu
    split at hu
    · cases hu
      obtain ⟨te, hl, k⟩ := hseq it rfl rfl
      exact (pi_seqB hl).imp fun σ H R q => k _ _ _ q
    · cases hu
  | rng1 =>
    dsimp only at hu
    split at hu
    · split at hu
      · rename_i hb
        cases hu
        rw [Bool.and_eq_true] at hb
        obtain ⟨rfl, hg, hm⟩ := bltB_ok g hb.1
        exact pi_range1 hg hm ha (by rw [noStar_each hb.2]; rfl)
      · cases hu
    · cases hu
  | rng2 =>
    dsimp only at hu
    split at hu
    · split at hu
      · rename_i hb
        cases hu
        rw [Bool.and_eq_true, Bool.and_eq_true] at hb
        obtain ⟨rfl, hg, hm⟩ := bltB_ok g hb.1.1
        exact pi_range2 hg hm ha (by rw [noStar_each hb.1.2, noStar_each hb.2]; rfl) (by rw [noStar_each hb.2]; rfl)
      · cases hu
    · cases hu
  | rng3 =>
    dsimp only at hu
    split at hu
    · split at hu
      · rename_i hb
        cases hu
        simp only [Bool.and_eq_true] at hb
        obtain ⟨rfl, hg, hm⟩ := bltB_ok g hb.1.1.1
        refine (pi_range3 hg hm ha (noStar_each hb.1.1.2) (noStar_any (by simp [hb.1.2, hb.2]))).imp fun σ H R q => ?_
        refine hmo _ _ _ _ (fun vs H1 k => ?_) q
        obtain ⟨i, j, e, ⟨h1, h2, h3, h4⟩, r⟩ := k
        exact ⟨i, j, -1, _, e, RgC.neg h1 h2 h3 h4, r⟩
      · cases hu
    · cases hu
  | enum =>
    dsimp only at hu
    split at hu
    · split at hu
      · rename_i hb
        cases hu
        rw [Bool.and_eq_true] at hb
        obtain ⟨rfl, hg, hm⟩ := bltB_ok g hb.1
        exact pi_enumB hg hm ha hb.2
      · cases hu
    · cases hu
  | zip2 =>
    dsimp only at hu
    split at hu
    · split at hu
      · rename_i hb
        cases hu
        rw [Bool.and_eq_true, Bool.and_eq_true] at hb
        obtain ⟨rfl, hg, hm⟩ := bltB_ok g hb.1.1
        exact RZ.pi_zipA hg hm ha (noStar_each hb.1.2) (noStar_any (by simp [hb.2]))
      · cases hu
    · cases hu
end
end Nr
end

section
set_option Elab.async false
set_option linter.all false
set_option maxRecDepth 100000
set_option maxHeartbeats 4000000
/-! E29: sources held apart; nested frames. -/
namespace Nr
open PySem PySem.Spec PyProof.Rows L2 PySem.W
/-- the sources as they are held while a loop runs -/
def lentRs (fz : Bool) : List RV → St → List RV
  | [], _ => []
  | .slot i :: rs, s => match s.get i with
    | .own c => (if fz then .val c else .tmp c) :: lentRs fz rs (s.put i (if fz then .val c else .non))
    | _ => .slot i :: lentRs fz rs s
  | r :: rs, s => r :: lentRs fz rs s
theorem lentRs_len {fz : Bool} : ∀ {rs : List RV} {s : St}, (lentRs fz rs s).length = rs.length
  | [], _ => rfl
  | .slot i :: rs, s => by
    unfold lentRs
    split <;> rw [List.length_cons, List.length_cons, lentRs_len]
  | .val _ :: rs, s => by rw [lentRs, List.length_cons, List.length_cons, lentRs_len]; simp
  | .tmp _ :: rs, s => by rw [lentRs, List.length_cons, List.length_cons, lentRs_len]; simp
/-- what may be walked: not a slot's, not a cell's -/
def srcOk : RV → Bool
  | .slot _ => false
  | .val (.loc _) => false
  | _ => true
section
variable {I : Inf} {W : WX} {T : Tab} {cf : CallF} {n : Nm} {X : Cx} {fr : Frm} {hs gs : List (RV × V)} {F : Hp} {L : List Addr} {s : St} {σ : L2.St} {H : Hp} {Q : VK} {rx ry : RV} {x y : V}
theorem zip_cons {r : RV} {v : V} {rs : List RV} {vs : List V} : (r :: rs).zip (v :: vs) ++ hs = (r, v) :: (rs.zip vs ++ hs) := by rw [List.zip_cons_cons, List.cons_append]
theorem views_cons {r : RV} {rs : List RV} {cs : List PV} (e : views s (r :: rs) = some cs) : ∃ c cs', cs = c :: cs' ∧ view s r = some c ∧ views s rs = some cs' := by
  have e : (view s r).bind (fun v => (views s rs).map (v :: ·)) = some cs := e
  obtain ⟨c, e1, e2⟩ := Option.bind_eq_some_iff.mp e
  obtain ⟨cs', e3, e4⟩ := Option.map_eq_some_iff.mp e2
  exact ⟨c, cs', e4.symm, e1, e3⟩
/-- what a list of RVs shows is their objects' -/
def cont : RV → PV
  | .val v => v
  | .tmp c => c
  | .slot _ => .non
/-- t shows no slot's object that s does not show -/
def Hides (t s : St) : Prop := t.cells = s.cells ∧ ∀ j d, t.get j = .own d → s.get j = .own d
theorem Hides.view {t s : St} (h : Hides t s) {r : RV} {c : PV} (e : view t r = some c) : view s r = some c := by
  cases r with
  | tmp d => exact e
  | val z => cases z <;> first | exact e | (show s.cells[_]? = some c; rw [← h.1]; exact e)
  | slot i =>
    have e : (match t.get i with | .own c => some c | _ => none) = some c := e
    show (match s.get i with | .own c => some c | _ => none) = some c
    cases hg : t.get i with
    | own d => rw [hg] at e; rw [h.2 i d hg]; exact e
    | non => rw [hg] at e; cases e
    | val z => rw [hg] at e; cases e
theorem Hides.views {t s : St} (h : Hides t s) : ∀ {rs : List RV} {cs : List PV}, Nr.views t rs = some cs → Nr.views s rs = some cs
  | [], _, e => e
  | r :: rs, cs, e => by
    obtain ⟨c, cs', ecs, e1, e2⟩ := views_cons e
    subst ecs
    show (Nr.view s r).bind (fun v => (Nr.views s rs).map (v :: ·)) = some (c :: cs')
    rw [h.view e1, h.views e2]; rfl
theorem hides_put {s : St} {i : Nat} {z : Slot} (hz : ∀ d, z ≠ .own d) : Hides (s.put i z) s := by
  refine ⟨rfl, fun j d q => ?_⟩
  by_cases hi : i < s.env.length
  · rw [get_put hi] at q
    by_cases c : j = i
    · rw [if_pos c] at q; exact absurd q (hz d)
    · rw [if_neg c] at q; exact q
  · rw [put_out hi] at q; exact q
theorem Hides.trans {a b c : St} (h : Hides a b) (k : Hides b c) : Hides a c := ⟨h.1.trans k.1, fun j d q => k.2 j d (h.2 j d q)⟩
theorem lent_z {fz : Bool} {c d : PV} : (if fz = true then Slot.val c else .non) ≠ .own d := by cases fz <;> simp
theorem lend_views {fz : Bool} : ∀ {rs : List RV} {cs : List PV} {s t s2 : St}, Hides t s → lend fz rs t = .ok () s2 → Nr.views s rs = some cs → Nr.views t rs = some cs
  | [], _, _, _, _, _, _, e => e
  | r :: rs, cs, s, t, s2, h, el, e => by
    obtain ⟨c, cs', ecs, e1, e2⟩ := views_cons e
    subst ecs
    have key : Nr.view t r = some c ∧ Nr.views t rs = some cs' := by
      cases r with
      | tmp d => exact ⟨e1, lend_views h el e2⟩
      | val z =>
        have hz : ∀ k, z ≠ .loc k := fun k q => by subst q; cases el
        have el : lend fz rs t = .ok () s2 := by cases z <;> first | exact el | exact absurd rfl (hz _)
        refine ⟨?_, lend_views h el e2⟩
        cases z <;> first | exact e1 | exact absurd rfl (hz _)
      | slot i =>
        have el : (match t.get i with
          | .own c => lend fz rs (t.put i (if fz = true then .val c else .non))
          | _ => .bad) = .ok () s2 := el
        cases hg : t.get i with
        | non => rw [hg] at el; cases el
        | val z => rw [hg] at el; cases el
        | own d =>
          rw [hg] at el
          have hs := h.2 i d hg
          have e1 : (match s.get i with | .own c => some c | _ => none) = some c := e1
          rw [hs] at e1
          cases e1
          refine ⟨?_, (hides_put (fun d => lent_z)).views (lend_views ((hides_put (fun d => lent_z)).trans h) el e2)⟩
          show (match t.get i with | .own c => some c | _ => none) = some c
          rw [hg]
    show (Nr.view t r).bind (fun v => (Nr.views t rs).map (v :: ·)) = some (c :: cs')
    rw [key.1, key.2]; rfl
theorem lend_ok {fz : Bool} : ∀ {rs : List RV} {vs : List V} {cs : List PV} {hs : List (RV × V)} {F : Hp} {s s2 : St}, vs.length = rs.length → RS I fr (rs.zip vs ++ hs) F L s σ H → views s rs = some cs → lend fz rs s = .ok () s2 →
    ∃ F2, RS I fr ((lentRs fz rs s).zip vs ++ hs) F2 L s2 σ H ∧ (lentRs fz rs s).map cont = cs ∧ (lentRs fz rs s).all srcOk = true ∧ s2.cells = s.cells ∧ s2.slf = s.slf ∧ s2.env.length = s.env.length
  | [], vs, cs, hs, F, s, s2, hl, R, ec, e => by
    cases e
    cases ec
    exact ⟨F, R, rfl, rfl, rfl, rfl, rfl⟩
  | r :: rs, [], cs, hs, F, s, s2, hl, R, ec, e => by cases hl
  | r :: rs, v :: vs, cs, hs, F, s, s2, hl, R, ec, e => by
    obtain ⟨c, cs', ecs, e1, e2⟩ := views_cons ec
    subst ecs
    have hl' : vs.length = rs.length := by simpa using hl
    rw [zip_cons] at R
    cases r with
    | val x =>
      have hx : ∀ k, x ≠ .loc k := fun k z => by subst z; cases e
      have el : lend fz rs s = .ok () s2 := by
        cases x <;> first | exact e | exact absurd rfl (hx _)
      have ex : c = x := by
        have : view s (.val x) = some x := by
          cases x <;> first | rfl | exact absurd rfl (hx _)
        rw [e1] at this
        exact Option.some.inj this
      have R1 : RS I fr (rs.zip vs ++ (.val x, v) :: hs) F L s σ H := R.perm List.perm_middle.symm
      obtain ⟨F2, R2, q1, q2, q3, q4, q5⟩ := lend_ok (rs := rs) hl' R1 e2 el
      refine ⟨F2, ?_, ?_, ?_, q3, q4, q5⟩
      · show RS I fr ((.val x :: lentRs fz rs s).zip (v :: vs) ++ hs) F2 L s2 σ H
        rw [zip_cons]
        exact R2.perm List.perm_middle
      · show x :: (lentRs fz rs s).map cont = c :: cs'
        rw [q1, ex]
      · show (srcOk (.val x) && (lentRs fz rs s).all srcOk) = true
        rw [q2]
        cases x <;> first | rfl | exact absurd rfl (hx _)
    | tmp d =>
      have el : lend fz rs s = .ok () s2 := e
      cases e1
      have R1 : RS I fr (rs.zip vs ++ (.tmp c, v) :: hs) F L s σ H := R.perm List.perm_middle.symm
      obtain ⟨F2, R2, q1, q2, q3, q4, q5⟩ := lend_ok (rs := rs) hl' R1 e2 el
      refine ⟨F2, ?_, ?_, ?_, q3, q4, q5⟩
      · show RS I fr ((.tmp c :: lentRs fz rs s).zip (v :: vs) ++ hs) F2 L s2 σ H
        rw [zip_cons]
        exact R2.perm List.perm_middle
      · show c :: (lentRs fz rs s).map cont = c :: cs'
        rw [q1]
      · exact q2
    | slot i =>
      have e1 : (match s.get i with | .own c => some c | _ => none) = some c := e1
      have e : (match s.get i with
        | .own c => lend fz rs (s.put i (if fz = true then .val c else .non))
        | _ => .bad) = .ok () s2 := e
      cases hg : s.get i with
      | non => rw [hg] at e1; cases e1
      | val x => rw [hg] at e1; cases e1
      | own d =>
        rw [hg] at e1 e
        cases e1
        have hi := get_lt hg (by simp)
        have key : ∃ F1, RS I fr (((if fz = true then RV.val c else .tmp c), v) :: (rs.zip vs ++ hs)) F1 L (s.put i (if fz = true then .val c else .non)) σ H := by
          cases fz with
          | true =>
            have q := R.toVal
            have et : Nr.toVal (.slot i) s = .ok c (s.put i (.val c)) := by unfold Nr.toVal; simp only [hg]
            rw [et] at q
            obtain ⟨F', R', _⟩ := q
            exact ⟨F', R'⟩
          | false => exact ⟨F, R.drop.takeS hg R.head⟩
        obtain ⟨F1, R1⟩ := key
        have e2' : views (s.put i (if fz = true then .val c else .non)) rs = some cs' := lend_views (hides_put fun d => lent_z) e e2
        obtain ⟨F2, R2, q1, q2, q3, q4, q5⟩ := lend_ok (rs := rs) hl' (R1.perm List.perm_middle.symm) e2' e
        have en : lentRs fz (.slot i :: rs) s = (if fz = true then RV.val c else .tmp c) :: lentRs fz rs (s.put i (if fz = true then .val c else .non)) := by
          show (match s.get i with
            | .own c => (if fz = true then RV.val c else .tmp c) :: lentRs fz rs (s.put i (if fz = true then .val c else .non))
            | _ => .slot i :: lentRs fz rs s) = _
          rw [hg]
        rw [en]
        refine ⟨F2, ?_, ?_, ?_, q3, q4, ?_⟩
        · rw [zip_cons]
          exact R2.perm List.perm_middle
        · show cont (if fz = true then RV.val c else .tmp c) :: _ = c :: cs'
          rw [q1]
          cases fz <;> rfl
        · show (srcOk (if fz = true then RV.val c else .tmp c) && _) = true
          rw [q2]
          cases fz with
          | false => rfl
          | true =>
            cases c <;> first | rfl | skip
            rename_i k
            obtain ⟨a, _, o, _, rc, _⟩ := R.own i _ hg
            exact rc.elim
        · rw [q5]
          exact List.length_set
end
end Nr
end

section
set_option Elab.async false
set_option linter.all false
set_option maxRecDepth 100000
set_option maxHeartbeats 4000000
/-! E30: nested frames; walks over sources. -/
namespace Nr
open PySem PySem.Spec PyProof.Rows L2 PySem.W
abbrev Sg := L2.St
/-- what is held in ps is locked -/
def lockB (B H : Hp) (ps : List (RV × V)) : Hp := fun a => if a ∈ ps.filterMap tmpA then H a else B a
def nestF (fr : Frm) (F : Hp) (L : List Addr) (H : Hp) (ps : List (RV × V)) : Frm := ⟨lockB fr.B H ps, F, L, fr.slf⟩
section
variable {I : Inf} {W : WX} {T : Tab} {cf : CallF} {n : Nm} {X : Cx} {fr : Frm} {ps hs gs : List (RV × V)} {F F2 : Hp} {L L2 : List Addr} {s s2 : St} {σ σ2 : Sg} {H H2 : Hp} {Q : VK} {rx ry : RV} {x y : V}
theorem RS.tmpAt (R : RS I fr hs F L s σ H) {a : Addr} (h : a ∈ hs.filterMap tmpA) : ∃ c, (RV.tmp c, V.ref a) ∈ hs ∧ AtC I fr F L H c a ∧ ∀ i d, s.get i = .own d → σ[i]? ≠ some (some (.ref a)) := by
  obtain ⟨c, hc⟩ := mem_tmpA.mp h
  obtain ⟨b, e, at_, no⟩ := R.hval _ hc
  cases e
  exact ⟨c, hc, at_, no⟩
theorem mem_left {a : Addr} (h : a ∈ ps.filterMap tmpA) : a ∈ (ps ++ hs).filterMap tmpA := by rw [List.filterMap_append]; exact List.mem_append_left _ h
theorem sep_app (R : RS I fr (ps ++ hs) F L s σ H) {a b : Addr} (h1 : a ∈ ps.filterMap tmpA) (h2 : b ∈ hs.filterMap tmpA) : a ≠ b := by
  have := R.hsep
  rw [List.filterMap_append, List.nodup_append] at this
  exact this.2.2 a h1 b h2
theorem RS.nest (R : RS I fr (ps ++ hs) F L s σ H) : RS I (nestF fr F L H ps) hs F L s σ H := by
  have nB : ∀ {a : Addr}, a ∈ ps.filterMap tmpA → fr.B a = none ∧ a ∉ L ∧ F a = none := fun {a} h => by
    obtain ⟨c, _, ⟨o, _, _, f, b, l⟩, _⟩ := R.tmpAt (mem_left h)
    exact ⟨b, l, f⟩
  refine { R with kb := fun a o e => ?_, f0 := fun a o e => e, l0 := fun k a e => e, nw := fun a o e => .inl e, lb := fun a ha => ?_, own := fun i c e => ?_, hval := fun q hq => ?_, hsep := ?_ }
  · have e : (if a ∈ ps.filterMap tmpA then H a else fr.B a) = some o := e
    split at e
    · exact e
    · exact R.kb a o e
  · show (if a ∈ ps.filterMap tmpA then H a else fr.B a) = none
    rw [if_neg fun h => (nB h).2.1 ha]
    exact R.lb a ha
  · obtain ⟨a, e1, o, ho, rc, fa, ba, la⟩ := R.own i c e
    refine ⟨a, e1, o, ho, rc, fa, ?_, la⟩
    show (if a ∈ ps.filterMap tmpA then H a else fr.B a) = none
    rw [if_neg fun h => ?_]
    · exact ba
    · obtain ⟨c', _, _, no⟩ := R.tmpAt (mem_left h)
      exact no i c e e1
  · have hv := R.hval q (List.mem_append_right _ hq)
    obtain ⟨q1, q2⟩ := q
    cases q1 with
    | val z => exact hv
    | slot i => exact hv
    | tmp c =>
      obtain ⟨a, ea, ⟨o, ho, rc, fa, ba, la⟩, no⟩ := hv
      simp only at ea
      subst ea
      refine ⟨a, rfl, ⟨o, ho, rc, fa, ?_, la⟩, no⟩
      show (if a ∈ ps.filterMap tmpA then H a else fr.B a) = none
      rw [if_neg fun h => sep_app R h (mem_tmpA.mpr ⟨c, hq⟩) rfl]
      exact ba
  · have := R.hsep
    rw [List.filterMap_append, List.nodup_append] at this
    exact this.2.1
theorem lock_none (R : RS I fr (ps ++ hs) F L s σ H) {a : Addr} (e : (nestF fr F L H ps).B a = none) : fr.B a = none ∧ a ∉ ps.filterMap tmpA := by
  have e : (if a ∈ ps.filterMap tmpA then H a else fr.B a) = none := e
  by_cases h : a ∈ ps.filterMap tmpA
  · rw [if_pos h] at e
    obtain ⟨c, _, ⟨o, ho, _⟩, _⟩ := R.tmpAt (mem_left h)
    rw [ho] at e; cases e
  · rw [if_neg h] at e; exact ⟨e, h⟩
theorem RS.unnest (R : RS I fr (ps ++ hs) F L s σ H) (R2 : RS I (nestF fr F L H ps) gs F2 L2 s2 σ2 H2) : RS I fr gs F2 L2 s2 σ2 H2 := by
  refine { R2 with kb := fun a o e => ?_, f0 := fun a o e => R2.f0 a o (R.f0 a o e), l0 := fun k a e => R2.l0 k a (R.l0 k a e), nw := fun a o e => ?_, lb := fun a ha => (lock_none R (R2.lb a ha)).1, own := fun i c e => ?_, hval := fun q hq => ?_, slf := R2.slf, sl := R2.sl }
  · refine R2.kb a o ?_
    show (if a ∈ ps.filterMap tmpA then H a else fr.B a) = some o
    rw [if_neg fun h => ?_]
    · exact e
    · obtain ⟨c, _, ⟨_, _, _, _, ba, _⟩, _⟩ := R.tmpAt (mem_left h)
      rw [ba] at e; cases e
  · rcases R2.nw a o e with h | h
    · exact R.nw a o h
    · exact .inr (lock_none R h).1
  · obtain ⟨a, e1, o, ho, rc, fa, ba, la⟩ := R2.own i c e
    exact ⟨a, e1, o, ho, rc, fa, (lock_none R ba).1, la⟩
  · have hv := R2.hval q hq
    obtain ⟨q1, q2⟩ := q
    cases q1 with
    | val z => exact hv
    | slot i => exact hv
    | tmp c =>
      obtain ⟨a, ea, ⟨o, ho, rc, fa, ba, la⟩, no⟩ := hv
      exact ⟨a, ea, ⟨o, ho, rc, fa, (lock_none R ba).1, la⟩, no⟩
theorem RS.ngrow (R2 : RS I (nestF fr F L H ps) gs F2 L2 s2 σ2 H2) : Grow F F2 L L2 := ⟨R2.f0, R2.l0⟩
/-- what was locked still stands -/
theorem lock_at (R : RS I fr (ps ++ hs) F L s σ H) (R2 : RS I (nestF fr F L H ps) gs F2 L2 s2 σ2 H2) {a : Addr} (h : a ∈ ps.filterMap tmpA) : H2 a = H a := by
  obtain ⟨c, _, ⟨o, ho, _⟩, _⟩ := R.tmpAt (mem_left h)
  rw [ho]
  refine R2.kb a o ?_
  show (if a ∈ ps.filterMap tmpA then H a else fr.B a) = some o
  rw [if_pos h, ho]
/-- .. and is held again -/
theorem RS.unlock (R : RS I fr (ps ++ hs) F L s σ H) (hns : ∀ p ∈ ps, srcOk p.1 = true) (R2 : RS I (nestF fr F L H ps) gs F2 L2 s2 σ2 H2) : RS I fr (ps ++ gs) F2 L2 s2 σ2 H2 := by
  have R3 := R.unnest R2
  have at2 : ∀ {a : Addr}, a ∈ ps.filterMap tmpA → (nestF fr F L H ps).B a ≠ none := fun {a} h e => (lock_none R e).2 h
  refine { R3 with hval := fun q hq => ?_, hsep := ?_ }
  · rcases List.mem_append.mp hq with hp | hg
    · have hv := R.hval q (List.mem_append_left _ hp)
      have ok := hns q hp
      obtain ⟨q1, q2⟩ := q
      cases q1 with
      | val z => exact RepV.grow R2.ngrow z q2 hv
      | slot i => cases ok
      | tmp c =>
        obtain ⟨a, ea, ⟨o, ho, rc, fa, ba, la⟩, no⟩ := hv
        simp only at ea
        subst ea
        have hm : a ∈ ps.filterMap tmpA := mem_tmpA.mpr ⟨c, hp⟩
        refine ⟨a, rfl, ⟨o, by rw [lock_at R R2 hm]; exact ho, rc.grow R2.ngrow, ?_, ba, fun hl => at2 hm (R2.lb a hl)⟩, fun i d hi e => ?_⟩
        · cases e : F2 a with
          | none => rfl
          | some u =>
            rcases R2.nw a u e with h | h
            · have h : F a = some u := h
              rw [fa] at h; cases h
            · exact absurd h (at2 hm)
        · obtain ⟨b, e2, _, _, _, _, bb, _⟩ := R2.own i d hi
          rw [e] at e2
          cases e2
          exact at2 hm bb
    · exact R3.hval q hg
  · rw [List.filterMap_append, List.nodup_append]
    refine ⟨?_, R2.hsep, fun a ha b hb z => ?_⟩
    · have := R.hsep
      rw [List.filterMap_append, List.nodup_append] at this
      exact this.1
    · subst z
      obtain ⟨c, _, ⟨_, _, _, _, bb, _⟩, _⟩ := R2.tmpAt hb
      exact at2 ha bb
/-! ### sources -/
theorem src_lst (R : RS I fr (ps ++ hs) F L s σ H) {r : RV} {v : V} (hm : (r, v) ∈ ps) (ok : srcOk r = true) {xs : List PV} (hc : cont r = .lst xs) :
    ∃ a vs, v = .ref a ∧ RepL I F L xs vs ∧ ∀ {gs : List (RV × V)} {F2 : Hp} {L2 : List Addr} {s2 : St} {σ2 : Sg} {H2 : Hp}, RS I (nestF fr F L H ps) gs F2 L2 s2 σ2 H2 → SqL I.K H2 a vs := by
  have hv := R.hval _ (List.mem_append_left hs hm)
  cases r with
  | slot i => cases ok
  | val z =>
    have hc : z = .lst xs := hc
    subst hc
    obtain ⟨a, vs, e, t, r⟩ := hv
    exact ⟨a, vs, e, r, fun {gs F2 L2 s2 σ2 H2} R2 => .of ((R2.fz _ _ (R2.f0 _ _ t)).eq rfl)⟩
  | tmp c =>
    have hc : c = .lst xs := hc
    subst hc
    obtain ⟨a, e, ⟨o, ho, ⟨vs, eo, r⟩, _⟩, _⟩ := hv
    simp only at e
    subst e eo
    exact ⟨a, vs, rfl, r, fun {gs F2 L2 s2 σ2 H2} R2 => .of (by rw [lock_at R R2 (mem_tmpA.mpr ⟨_, hm⟩)]; exact ho)⟩
theorem src_tup (R : RS I fr (ps ++ hs) F L s σ H) {r : RV} {v : V} (hm : (r, v) ∈ ps) (ok : srcOk r = true) {xs : List PV} (hc : cont r = .tup xs) :
    ∃ a vs, v = .ref a ∧ RepL I F L xs vs ∧ ∀ {gs : List (RV × V)} {F2 : Hp} {L2 : List Addr} {s2 : St} {σ2 : Sg} {H2 : Hp}, RS I (nestF fr F L H ps) gs F2 L2 s2 σ2 H2 → SqT I.K H2 a vs := by
  have hv := R.hval _ (List.mem_append_left hs hm)
  cases r with
  | slot i => cases ok
  | val z =>
    have hc : z = .tup xs := hc
    subst hc
    obtain ⟨a, vs, e, t, r⟩ := hv
    exact ⟨a, vs, e, r, fun {gs F2 L2 s2 σ2 H2} R2 => (R2.tupUp (t.mono R2.f0)).sq⟩
  | tmp c =>
    have hc : c = .tup xs := hc
    subst hc
    obtain ⟨a, e, ⟨o, ho, rc, _⟩, _⟩ := hv
    exact rc.elim
end
end Nr
end

section
set_option Elab.async false
set_option linter.all false
set_option maxRecDepth 100000
set_option maxHeartbeats 4000000
/-! E31: walks over sources. -/
namespace Nr
open PySem PySem.Spec PyProof.Rows L2 PySem.W
section
variable {K : PySem.W.Frag} {a b : Addr} {xs ys : List V}
theorem walk_enumT : Walk (IteT K a) xs.length (fun H => SqT K H a xs) (YPair (fun i => some (.int (i : Nat))) (fun i => xs[i]?)) := by
  refine ⟨fun i _ hi q => ⟨xs, xs[i], q, by simp [hi]⟩, fun _ q => ⟨xs, q, Nat.le_refl _⟩, fun i H v H' _ q y => ?_⟩
  obtain ⟨T, x, h1, h2, h3, h4⟩ := y
  exact ⟨T, .int (i : Nat), x, h1, h2, h3, rfl, h4 xs q⟩
theorem walk_zipT {n : Nat} (hn : n = min xs.length ys.length) : Walk (RZ.ItzT K a b) n (fun H => SqT K H a xs ∧ SqT K H b ys) (YPair (fun i => xs[i]?) (fun i => ys[i]?)) := by
  subst hn
  refine ⟨fun i _ hi q => ?_, fun _ q => ⟨xs, ys, q.1, q.2, by omega⟩, fun i H v H' _ q y => ?_⟩
  · have h1 : i < xs.length := by omega
    have h2 : i < ys.length := by omega
    exact ⟨xs, ys, xs[i], ys[i], q.1, q.2, by simp [h1], by simp [h2]⟩
  · obtain ⟨T, x, z, h1, h2, h3, h4, h5⟩ := y
    exact ⟨T, x, z, h1, h2, h3, h4 xs q.1, h5 ys q.2⟩
end
theorem rangeL_at : ∀ (k : Nat) (lo : Int) (i : Nat), i < k → (rangeL lo k)[i]? = some (.int (lo + i))
  | 0, _, _, h => by omega
  | k + 1, lo, 0, _ => by rw [rangeL]; simp
  | k + 1, lo, i + 1, h => by
    rw [rangeL, List.getElem?_cons_succ, rangeL_at k (lo + 1) i (by omega)]
    congr 2
    omega
theorem rangeDown_at : ∀ (k : Nat) (lo : Int) (i : Nat), i < k → (rangeDown lo k)[i]? = some (.int (lo + (i : Nat) * (-1)))
  | 0, _, _, h => by omega
  | k + 1, lo, 0, _ => by rw [rangeDown]; simp
  | k + 1, lo, i + 1, h => by
    rw [rangeDown, List.getElem?_cons_succ, rangeDown_at k (lo - 1) i (by omega)]
    congr 2
    omega
theorem rangeDown_length : ∀ (k : Nat) (lo : Int), (rangeDown lo k).length = k
  | 0, _ => rfl
  | k + 1, lo => by rw [rangeDown, List.length_cons, rangeDown_length k]
theorem enumL_at : ∀ (xs : List PV) (k i : Nat) (z : PV), xs[i]? = some z → (enumL k xs)[i]? = some (.tup [.int ((k + i : Nat) : Int), z])
  | [], _, _, _, h => by simp at h
  | x :: xs, k, 0, z, h => by simp at h; subst h; rw [enumL]; simp
  | x :: xs, k, i + 1, z, h => by
    rw [enumL, List.getElem?_cons_succ, enumL_at xs (k + 1) i z (by simpa using h)]
    congr 4
    omega
theorem enumL_length : ∀ (xs : List PV) (k : Nat), (enumL k xs).length = xs.length
  | [], _ => rfl
  | x :: xs, k => by rw [enumL, List.length_cons, List.length_cons, enumL_length xs]
theorem zipL_at : ∀ (xs ys : List PV) (i : Nat) (a b : PV), xs[i]? = some a → ys[i]? = some b → (zipL xs ys)[i]? = some (.tup [a, b])
  | [], _, _, _, _, h, _ => by simp at h
  | _ :: _, [], _, _, _, _, h => by simp at h
  | x :: xs, y :: ys, 0, a, b, h1, h2 => by simp at h1 h2; subst h1 h2; rw [zipL]; simp
  | x :: xs, y :: ys, i + 1, a, b, h1, h2 => by
    rw [zipL, List.getElem?_cons_succ]
    exact zipL_at xs ys i a b (by simpa using h1) (by simpa using h2)
theorem zipL_length : ∀ (xs ys : List PV), (zipL xs ys).length = min xs.length ys.length
  | [], ys => by simp [zipL]
  | x :: xs, [] => by simp [zipL]
  | x :: xs, y :: ys => by rw [zipL, List.length_cons, List.length_cons, List.length_cons, zipL_length xs ys]; omega
theorem items_seq {cs xs : List PV} (h : itemsOf .seq cs = some xs) : cs = [.tup xs] ∨ cs = [.lst xs] := by
  match cs, h with
  | [.tup ys], h => cases h; exact .inl rfl
  | [.lst ys], h => cases h; exact .inr rfl
  | [], h => cases h
  | [.non], h | [.bl _], h | [.str _], h | [.int _], h | [.dct _], h | [.obj _ _], h | [.loc _], h | [.fn _], h | [.err _ _], h | [.scr _], h => cases h
  | a :: b :: r, h => cases a <;> cases h
theorem items_enum {cs xs : List PV} (h : itemsOf .enum cs = some xs) : ∃ ys, (cs = [.tup ys] ∨ cs = [.lst ys]) ∧ xs = enumL 0 ys := by
  match cs, h with
  | [.tup ys], h => cases h; exact ⟨ys, .inl rfl, rfl⟩
  | [.lst ys], h => cases h; exact ⟨ys, .inr rfl, rfl⟩
  | [], h => cases h
  | [.non], h | [.bl _], h | [.str _], h | [.int _], h | [.dct _], h | [.obj _ _], h | [.loc _], h | [.fn _], h | [.err _ _], h | [.scr _], h => cases h
  | a :: b :: r, h => cases a <;> cases h
theorem items_zip {cs xs : List PV} (h : itemsOf .zip2 cs = some xs) : ∃ us vs, (cs = [.tup us, .tup vs] ∨ cs = [.lst us, .lst vs]) ∧ xs = zipL us vs := by
  match cs, h with
  | [.tup us, .tup vs], h => cases h; exact ⟨us, vs, .inl rfl, rfl⟩
  | [.lst us, .lst vs], h => cases h; exact ⟨us, vs, .inr rfl, rfl⟩
  | [], h => cases h
  | [a], h => cases a <;> cases h
  | [.tup us, .non], h | [.tup us, .bl _], h | [.tup us, .str _], h | [.tup us, .int _], h | [.tup us, .lst _], h | [.tup us, .dct _], h | [.tup us, .obj _ _], h | [.tup us, .loc _], h | [.tup us, .fn _], h | [.tup us, .err _ _], h | [.tup us, .scr _], h => cases h
  | [.lst us, .non], h | [.lst us, .bl _], h | [.lst us, .str _], h | [.lst us, .int _], h | [.lst us, .tup _], h | [.lst us, .dct _], h | [.lst us, .obj _ _], h | [.lst us, .loc _], h | [.lst us, .fn _], h | [.lst us, .err _ _], h | [.lst us, .scr _], h => cases h
  | [.non, _], h | [.bl _, _], h | [.str _, _], h | [.int _, _], h | [.dct _, _], h | [.obj _ _, _], h | [.loc _, _], h | [.fn _, _], h | [.err _ _, _], h | [.scr _, _], h => cases h
  | a :: b :: c :: r, h => cases a <;> first | (cases h; done) | (cases b <;> cases h)
theorem items_rng3 {cs xs : List PV} (h : itemsOf .rng3 cs = some xs) : ∃ i j, cs = [.int i, .int j, .int (-1)] ∧ rngOk i = true ∧ rngOk j = true ∧ xs = rangeDown i (i - j).toNat := by
  unfold itemsOf at h
  split at h
  all_goals first | (cases h; done) | (rename_i hh; cases hh; done) | (rename_i hh _; cases hh; done) | skip
  all_goals
    split at h
    · rename_i hr
      cases h
      simp only [Bool.and_eq_true] at hr
      have := of_decide_eq_true hr.2
      subst this
      exact ⟨_, _, rfl, hr.1.1, hr.1.2, rfl⟩
    · cases h
section
variable {I : Inf} {W : WX} {T : Tab} {cf : CallF} {n : Nm} {X : Cx} {fr : Frm} {ps hs gs : List (RV × V)} {F : Hp} {L : List Addr} {s : St} {σ : Sg} {H : Hp} {Q : VK} {rx ry : RV} {x y : V}
theorem src_int (R : RS I fr (ps ++ hs) F L s σ H) {r : RV} {v : V} (hm : (r, v) ∈ ps) (ok : srcOk r = true) {i : Int} (hc : cont r = .int i) : v = .int i := by
  have hv := R.hval _ (List.mem_append_left hs hm)
  cases r with
  | slot i => cases ok
  | val z => have hc : z = .int i := hc; subst hc; exact hv
  | tmp c =>
    have hc : c = .int i := hc
    subst hc
    obtain ⟨a, e, ⟨o, ho, rc, _⟩, _⟩ := hv
    exact rc.elim
/-- an item as the target sees it -/
def itOk (ik : IK) (I : Inf) (F : Hp) (L : List Addr) (H : Hp) (z : PV) (v : V) : Prop := match ik with
  | .enum => TgtV I F L H z v
  | .zip2 => TgtV I F L H z v
  | _ => RepV I F L z v
def WalkOk (I : Inf) (fr : Frm) (ik : IK) (xs : List PV) (vs : List V) (H : Hp) : Prop := ∃ (G : Hp → Prop) (Y : Nat → Hp → V → Hp → Prop), (∀ Rr : It → Hp → Prop, (∀ J, Walk J xs.length G Y → Rr J H) → wIt I.K ik vs H Rr) ∧
  (∀ gs F2 L2 s2 σ2 H2, RS I fr gs F2 L2 s2 σ2 H2 → G H2) ∧
  ∀ i v gs F2 L2 s2 σ2 H2 H3, i < xs.length → RS I fr gs F2 L2 s2 σ2 H2 → Y i H2 v H3 → ∃ z, xs[i]? = some z ∧ RS I fr gs F2 L2 s2 σ2 H3 ∧ itOk ik I F2 L2 H3 z v
theorem len1 {rs : List RV} {vs : List V} {c : PV} (hl : vs.length = rs.length) (hc : rs.map cont = [c]) : ∃ r v, rs = [r] ∧ vs = [v] ∧ cont r = c := by
  match rs, vs, hl, hc with
  | [r], [v], _, hc => cases hc; exact ⟨r, v, rfl, rfl, rfl⟩
  | [], _, _, hc => cases hc
  | _ :: _ :: _, _, _, hc => cases hc
  | [_], [], hl, _ => cases hl
  | [_], _ :: _ :: _, hl, _ => simp at hl
theorem len2 {rs : List RV} {vs : List V} {c d : PV} (hl : vs.length = rs.length) (hc : rs.map cont = [c, d]) : ∃ r v r' v', rs = [r, r'] ∧ vs = [v, v'] ∧ cont r = c ∧ cont r' = d := by
  match rs, vs, hl, hc with
  | [r, r'], [v, v'], _, hc => cases hc; exact ⟨r, v, r', v', rfl, rfl, rfl, rfl⟩
  | [], _, _, hc => cases hc
  | [_], _, _, hc => cases hc
  | _ :: _ :: _ :: _, _, _, hc => cases hc
  | [_, _], [], hl, _ => cases hl
  | [_, _], [_], hl, _ => cases hl
  | [_, _], _ :: _ :: _ :: _, hl, _ => simp at hl
theorem len3 {rs : List RV} {vs : List V} {c d e : PV} (hl : vs.length = rs.length) (hc : rs.map cont = [c, d, e]) : ∃ r v r' v' r'' v'', rs = [r, r', r''] ∧ vs = [v, v', v''] ∧ cont r = c ∧ cont r' = d ∧ cont r'' = e := by
  match rs, vs, hl, hc with
  | [r, r', r''], [v, v', v''], _, hc => cases hc; exact ⟨r, v, r', v', r'', v'', rfl, rfl, rfl, rfl, rfl⟩
  | [], _, _, hc => cases hc
  | [_], _, _, hc => cases hc
  | [_, _], _, _, hc => cases hc
  | _ :: _ :: _ :: _ :: _, _, _, hc => cases hc
  | [_, _, _], [], hl, _ => cases hl
  | [_, _, _], [_], hl, _ => cases hl
  | [_, _, _], [_, _], hl, _ => cases hl
  | [_, _, _], _ :: _ :: _ :: _ :: _, hl, _ => simp at hl
theorem pair_ok {T : Addr} {us : List V} {zs : List PV} {F2 : Hp} {M : List Addr} {s2 : St} {σ2 : Sg} {H2 : Hp} (R : RS I fr gs F2 M s2 σ2 H2) (hT : H2 T = none) (r : RepL I F2 M zs us) : RS I fr gs F2 M s2 σ2 (upd H2 T (.tup us)) ∧ TgtV I F2 M (upd H2 T (.tup us)) (.tup zs) (.ref T) :=
  ⟨R.garb hT, .inr ⟨zs, T, us, rfl, rfl, .inl (.inl upd_same), r⟩⟩
theorem walk_ok {ik : IK} {rs : List RV} {vs : List V} {xs : List PV} (hl : vs.length = rs.length) (R : RS I fr (rs.zip vs ++ hs) F L s σ H) (hok : rs.all srcOk = true) (hi : itemsOf ik (rs.map cont) = some xs) : WalkOk I (nestF fr F L H (rs.zip vs)) ik xs vs H := by
  have R0 := R.nest
  cases ik with
  | seq =>
    rcases items_seq hi with hc | hc
    · obtain ⟨r, v, rfl, rfl, hc⟩ := len1 hl hc
      obtain ⟨a, us, rfl, rr, k⟩ := src_tup R (r := r) (v := v) (by simp) (by simpa using hok) hc
      refine ⟨_, _, fun Rr h => ⟨a, us, rfl, .inr ⟨k R0, h _ (by rw [rr.length]; exact walk_tup)⟩⟩, fun gs F2 L2 s2 σ2 H2 R2 => k R2, fun i v gs F2 L2 s2 σ2 H2 H3 hi R2 y => ?_⟩
      obtain ⟨e, hx⟩ := y
      subst e
      obtain ⟨z, hz⟩ : ∃ z, xs[i]? = some z := ⟨xs[i], List.getElem?_eq_getElem hi⟩
      obtain ⟨u, h1, h2⟩ := rr.get hz
      rw [h1] at hx; cases hx
      exact ⟨z, hz, R2, h2.grow R2.ngrow⟩
    · obtain ⟨r, v, rfl, rfl, hc⟩ := len1 hl hc
      obtain ⟨a, us, rfl, rr, k⟩ := src_lst R (r := r) (v := v) (by simp) (by simpa using hok) hc
      refine ⟨_, _, fun Rr h => ⟨a, us, rfl, .inl ⟨k R0, h _ (by rw [rr.length]; exact walk_list)⟩⟩, fun gs F2 L2 s2 σ2 H2 R2 => k R2, fun i v gs F2 L2 s2 σ2 H2 H3 hi R2 y => ?_⟩
      obtain ⟨e, hx⟩ := y
      subst e
      obtain ⟨z, hz⟩ : ∃ z, xs[i]? = some z := ⟨xs[i], List.getElem?_eq_getElem hi⟩
      obtain ⟨u, h1, h2⟩ := rr.get hz
      rw [h1] at hx; cases hx
      exact ⟨z, hz, R2, h2.grow R2.ngrow⟩
  | rng1 =>
    obtain ⟨j, hc, hr, rfl⟩ := items_rng1 hi
    obtain ⟨r, v, rfl, rfl, hc⟩ := len1 hl hc
    have e := src_int R (r := r) (v := v) (by simp) (by simpa using hok) hc
    subst e
    obtain ⟨b1, b2⟩ := rng_ok hr
    refine ⟨_, _, fun Rr h => ⟨j, rfl, b1, b2, h _ (by rw [rangeL_length]; exact walk_range)⟩, fun _ _ _ _ _ _ _ => trivial, fun i v gs F2 L2 s2 σ2 H2 H3 hi R2 y => ?_⟩
    obtain ⟨e, rfl⟩ := y
    subst e
    rw [rangeL_length] at hi
    exact ⟨_, rangeL_at _ _ _ hi, R2, rfl⟩
  | rng2 =>
    obtain ⟨j, k, hc, hr1, hr2, rfl⟩ := items_rng2 hi
    obtain ⟨r, v, r', v', rfl, rfl, hc, hc'⟩ := len2 hl hc
    have hok' : srcOk r = true ∧ srcOk r' = true := by simpa using hok
    have e := src_int R (r := r) (v := v) (by simp) hok'.1 hc
    have e' := src_int R (r := r') (v := v') (by simp) hok'.2 hc'
    subst e e'
    obtain ⟨b1, b2⟩ := rng_ok hr1
    obtain ⟨b3, b4⟩ := rng_ok hr2
    refine ⟨_, _, fun Rr h => ⟨j, k, rfl, ⟨b1, b2, b3, b4⟩, h _ (by rw [rangeL_length]; exact walk_range)⟩, fun _ _ _ _ _ _ _ => trivial, fun i v gs F2 L2 s2 σ2 H2 H3 hi R2 y => ?_⟩
    obtain ⟨e, rfl⟩ := y
    subst e
    rw [rangeL_length] at hi
    exact ⟨_, rangeL_at _ _ _ hi, R2, rfl⟩
  | rng3 =>
    obtain ⟨j, k, hc, hr1, hr2, rfl⟩ := items_rng3 hi
    obtain ⟨r, v, r', v', r'', v'', rfl, rfl, hc, hc', hc''⟩ := len3 hl hc
    have hok' : srcOk r = true ∧ srcOk r' = true ∧ srcOk r'' = true := by simpa using hok
    have e := src_int R (r := r) (v := v) (by simp) hok'.1 hc
    have e' := src_int R (r := r') (v := v') (by simp) hok'.2.1 hc'
    have e'' := src_int R (r := r'') (v := v'') (by simp) hok'.2.2 hc''
    subst e e' e''
    obtain ⟨b1, b2⟩ := rng_ok hr1
    obtain ⟨b3, b4⟩ := rng_ok hr2
    refine ⟨_, _, fun Rr h => ⟨j, k, rfl, ⟨b1, b2, b3, b4⟩, h _ (by rw [rangeDown_length]; exact walk_rangeC)⟩, fun _ _ _ _ _ _ _ => trivial, fun i v gs F2 L2 s2 σ2 H2 H3 hi R2 y => ?_⟩
    obtain ⟨e, rfl⟩ := y
    subst e
    rw [rangeDown_length] at hi
    exact ⟨_, rangeDown_at _ _ _ hi, R2, rfl⟩
  | enum =>
    obtain ⟨ys, hc, rfl⟩ := items_enum hi
    have fin : ∀ {us : List V}, RepL I F L ys us → ∀ i v gs F2 L2 s2 σ2 H2 H3, i < (enumL 0 ys).length → RS I (nestF fr F L H (rs.zip vs)) gs F2 L2 s2 σ2 H2 → YPair (fun i => some (V.int (i : Nat))) (fun i => us[i]?) i H2 v H3 → ∃ z, (enumL 0 ys)[i]? = some z ∧ RS I (nestF fr F L H (rs.zip vs)) gs F2 L2 s2 σ2 H3 ∧ itOk .enum I F2 L2 H3 z v := by
      intro us rr i v gs F2 L2 s2 σ2 H2 H3 hi R2 y
      obtain ⟨T, u1, u2, rfl, hT, rfl, h1, h2⟩ := y
      cases h1
      rw [enumL_length] at hi
      have hz : ys[i]? = some ys[i] := List.getElem?_eq_getElem hi
      obtain ⟨u, h3, h4⟩ := rr.get hz
      have h2 : us[i]? = some u2 := h2
      rw [h3] at h2; cases h2
      obtain ⟨q1, q2⟩ := pair_ok (zs := [.int (i : Nat), ys[i]]) (us := [.int (i : Nat), u2]) R2 hT (.cons rfl (.one (h4.grow R2.ngrow)))
      have := enumL_at ys 0 i _ hz
      rw [Nat.zero_add] at this
      exact ⟨_, this, q1, q2⟩
    rcases hc with hc | hc
    · obtain ⟨r, v, rfl, rfl, hc⟩ := len1 hl hc
      obtain ⟨a, us, rfl, rr, k⟩ := src_tup R (r := r) (v := v) (by simp) (by simpa using hok) hc
      exact ⟨_, _, fun Rr h => ⟨a, us, rfl, .inr ⟨k R0, h _ (by rw [enumL_length, rr.length]; exact walk_enumT)⟩⟩, fun gs F2 L2 s2 σ2 H2 R2 => k R2, fin rr⟩
    · obtain ⟨r, v, rfl, rfl, hc⟩ := len1 hl hc
      obtain ⟨a, us, rfl, rr, k⟩ := src_lst R (r := r) (v := v) (by simp) (by simpa using hok) hc
      exact ⟨_, _, fun Rr h => ⟨a, us, rfl, .inl ⟨k R0, h _ (by rw [enumL_length, rr.length]; exact walk_enum)⟩⟩, fun gs F2 L2 s2 σ2 H2 R2 => k R2, fin rr⟩
  | zip2 =>
    obtain ⟨y1, y2, hc, rfl⟩ := items_zip hi
    have fin : ∀ {us ws : List V}, RepL I F L y1 us → RepL I F L y2 ws → ∀ i v gs F2 L2 s2 σ2 H2 H3, i < (zipL y1 y2).length → RS I (nestF fr F L H (rs.zip vs)) gs F2 L2 s2 σ2 H2 → YPair (fun i => us[i]?) (fun i => ws[i]?) i H2 v H3 → ∃ z, (zipL y1 y2)[i]? = some z ∧ RS I (nestF fr F L H (rs.zip vs)) gs F2 L2 s2 σ2 H3 ∧ itOk .zip2 I F2 L2 H3 z v := by
      intro us ws rr rr2 i v gs F2 L2 s2 σ2 H2 H3 hi R2 y
      obtain ⟨T, u1, u2, rfl, hT, rfl, h1, h2⟩ := y
      rw [zipL_length] at hi
      have hz : y1[i]? = some (y1[i]'(by omega)) := List.getElem?_eq_getElem _
      have hz2 : y2[i]? = some (y2[i]'(by omega)) := List.getElem?_eq_getElem _
      obtain ⟨u, h3, h4⟩ := rr.get hz
      have h1 : us[i]? = some u1 := h1
      have h2 : ws[i]? = some u2 := h2
      rw [h3] at h1; cases h1
      obtain ⟨u', h3', h4'⟩ := rr2.get hz2
      rw [h3'] at h2; cases h2
      obtain ⟨q1, q2⟩ := pair_ok (zs := [y1[i]'(by omega), y2[i]'(by omega)]) (us := [u1, u2]) R2 hT (.cons (h4.grow R2.ngrow) (.one (h4'.grow R2.ngrow)))
      exact ⟨_, zipL_at y1 y2 i _ _ hz hz2, q1, q2⟩
    rcases hc with hc | hc
    · obtain ⟨r, v, r', v', rfl, rfl, hc, hc'⟩ := len2 hl hc
      have hok' : srcOk r = true ∧ srcOk r' = true := by simpa using hok
      obtain ⟨a, us, rfl, rr, k⟩ := src_tup R (r := r) (v := v) (by simp) hok'.1 hc
      obtain ⟨b, ws, rfl, rr2, k2⟩ := src_tup R (r := r') (v := v') (by simp) hok'.2 hc'
      exact ⟨_, _, fun Rr h => ⟨a, b, us, ws, rfl, .inr ⟨k R0, k2 R0, h _ (walk_zipT (by rw [zipL_length, rr.length, rr2.length]))⟩⟩, fun gs F2 L2 s2 σ2 H2 R2 => ⟨k R2, k2 R2⟩, fin rr rr2⟩
    · obtain ⟨r, v, r', v', rfl, rfl, hc, hc'⟩ := len2 hl hc
      have hok' : srcOk r = true ∧ srcOk r' = true := by simpa using hok
      obtain ⟨a, us, rfl, rr, k⟩ := src_lst R (r := r) (v := v) (by simp) hok'.1 hc
      obtain ⟨b, ws, rfl, rr2, k2⟩ := src_lst R (r := r') (v := v') (by simp) hok'.2 hc'
      exact ⟨_, _, fun Rr h => ⟨a, b, us, ws, rfl, .inl ⟨k R0, k2 R0, h _ (walk_zip (by rw [zipL_length, rr.length, rr2.length]))⟩⟩, fun gs F2 L2 s2 σ2 H2 R2 => ⟨k R2, k2 R2⟩, fin rr rr2⟩
end
end Nr
end

section
set_option Elab.async false
set_option linter.all false
set_option maxRecDepth 100000
set_option maxHeartbeats 4000000
/-! E32: slots forgotten and restored; held content changed. -/
namespace Nr
open PySem PySem.Spec PyProof.Rows L2 PySem.W
section
variable {I : Inf} {W : WX} {T : Tab} {cf : CallF} {n : Nm} {X : Cx} {fr : Frm} {ps hs gs : List (RV × V)} {F : Hp} {L : List Addr} {s s2 : St} {σ : Sg} {H : Hp} {Q : VK} {rx ry : RV} {x y : V}
/-- a slot is forgotten -/
theorem RS.wipe1 {i : Nat} (R : RS I fr hs F L s σ H) (hn : noSl hs) (hf : s.free i = true) : RS I fr hs F L (s.put i .non) (σ.set i none) H := by
  by_cases hi : i < s.env.length
  · have gp : ∀ j, (s.put i .non).get j = if j = i then .non else s.get j := fun j => get_put hi
    have gown : ∀ j d, (s.put i .non).get j = .own d → j ≠ i ∧ s.get j = .own d := fun j d q => by
      rw [gp] at q
      by_cases w : j = i
      · rw [if_pos w] at q; cases q
      · rw [if_neg w] at q; exact ⟨w, q⟩
    refine { R with len := by show (s.env.set i _).length = _; rw [List.length_set, List.length_set]; exact R.len, val := fun j w q => ?_, own := fun j d q => ?_, sep := fun j k d d' q1 q2 q3 => ?_, hval := fun q hq => ?_, slf := fun u e => ?_ }
    · rw [gp] at q
      by_cases c : j = i
      · rw [if_pos c] at q; cases q
      · rw [if_neg c] at q
        obtain ⟨u, h1, h2⟩ := R.val j w q
        exact ⟨u, by rw [List.getElem?_set_ne (fun w => c w.symm)]; exact h1, h2⟩
    · obtain ⟨c, q'⟩ := gown j d q
      obtain ⟨a, h1, h2⟩ := R.own j d q'
      exact ⟨a, by rw [List.getElem?_set_ne (fun w => c w.symm)]; exact h1, h2⟩
    · obtain ⟨c1, q1'⟩ := gown j d q1
      obtain ⟨c2, q2'⟩ := gown k d' q2
      rw [List.getElem?_set_ne (fun w => c1 w.symm), List.getElem?_set_ne (fun w => c2 w.symm)] at q3
      exact R.sep j k d d' q1' q2' q3
    · obtain ⟨q1, q2⟩ := q
      have hv := R.hval _ hq
      cases q1 with
      | val w => exact hv
      | slot j => exact absurd rfl (hn _ hq j)
      | tmp d =>
        obtain ⟨b, eb, at_, no⟩ := hv
        refine ⟨b, eb, at_, fun j d' q => ?_⟩
        obtain ⟨c1, q1'⟩ := gown j d' q
        rw [List.getElem?_set_ne (fun w => c1 w.symm)]
        exact no j d' q1'
    · rw [List.getElem?_set_ne (free_ne R hf e)]
      exact R.slf u e
  · rw [put_out hi, List.set_eq_of_length_le (by rw [← R.len]; omega)]
    exact R
theorem wipeS_free : ∀ {vs : List Nat} {i : Nat}, (wipeS s vs).free i = s.free i
  | [], _ => rfl
  | v :: vs, i => by
    show ((wipeS s vs).put v .non).free i = s.free i
    exact wipeS_free (vs := vs) (i := i)
theorem RS.wipes : ∀ {vs : List Nat}, RS I fr hs F L s σ H → noSl hs → vs.all s.free = true → RS I fr hs F L (wipeS s vs) (wipe σ vs) H
  | [], R, _, _ => R
  | v :: vs, R, hn, hf => by
    rw [List.all_cons, Bool.and_eq_true] at hf
    exact (RS.wipes R hn hf.2).wipe1 hn (by rw [wipeS_free]; exact hf.1)
/-- a held object's content is changed -/
theorem RS.setTmp {c c' : PV} {a : Addr} {o' : HO} (R : RS I fr ((.tmp c, .ref a) :: hs) F L s σ H) (hc : RepC I F L c' o') : RS I fr ((.tmp c', .ref a) :: hs) F L s σ (upd H a o') := by
  obtain ⟨a', ea, ⟨o, ho, rc, fa, ba, la⟩, no⟩ := R.head
  cases ea
  have R0 := R.drop
  have hna : ∀ {d : PV} {b : Addr}, (RV.tmp d, V.ref b) ∈ hs → b ≠ a := fun {d b} hp z => by
    subst z
    have := R.hsep
    rw [List.filterMap_cons] at this
    exact (List.nodup_cons.mp (show (b :: hs.filterMap tmpA).Nodup from this)).1 (mem_tmpA.mpr ⟨d, hp⟩)
  refine { R with fz := fun b u q => ?_, kb := fun b u q => ?_, cell := fun m b d h1 h2 => ?_, own := fun j d q => ?_, hval := fun q hq => ?_, hsep := R.hsep }
  · have : b ≠ a := fun z => by subst z; rw [fa] at q; cases q
    rcases R.fz b u q with h | ⟨l, o2, h⟩
    · exact .inl (by rw [upd_ne this]; exact h)
    · exact .inr ⟨l, o2, by rw [upd_ne this]; exact h⟩
  · have : b ≠ a := fun z => by subst z; rw [ba] at q; cases q
    rw [upd_ne this]; exact R.kb b u q
  · have : b ≠ a := fun z => by subst z; exact la (List.mem_of_getElem? h1)
    obtain ⟨o2, h3, h4⟩ := R.cell m b d h1 h2
    exact ⟨o2, by rw [upd_ne this]; exact h3, h4⟩
  · obtain ⟨b, e2, at_⟩ := R.own j d q
    refine ⟨b, e2, atC_updN at_ fun zz => ?_⟩
    subst zz
    exact no j d q e2
  · rcases List.mem_cons.mp hq with rfl | hq
    · exact ⟨a, rfl, ⟨o', upd_same, hc, fa, ba, la⟩, no⟩
    · have hv := R0.hval _ hq
      obtain ⟨q1, q2⟩ := q
      cases q1 with
      | val z => exact hv
      | slot j => exact hv
      | tmp d =>
        obtain ⟨b, eb, at_, no2⟩ := hv
        simp only at eb
        subst eb
        exact ⟨b, rfl, atC_updN at_ (hna hq), no2⟩
theorem put_get {i j : Nat} {z : Slot} (hi : i < s.env.length) : (s.put i z).get j = if j = i then z else s.get j := get_put hi
theorem backS_get : ∀ {vs : List Nat}, s.env.length = s2.env.length → ∀ j, (backS s s2 vs).get j = if j ∈ vs then s2.get j else s.get j
  | [], _, j => by simp [backS]
  | v :: vs, hl, j => by
    have ih := backS_get (vs := vs) hl
    have hlen : (backS s s2 vs).env.length = s.env.length := by
      clear ih
      induction vs with
      | nil => rfl
      | cons w ws ih => show ((backS s s2 ws).env.set w _).length = _; rw [List.length_set]; exact ih
    show ((backS s s2 vs).put v (s2.get v)).get j = _
    by_cases hv : v < s.env.length
    · rw [put_get (by rw [hlen]; exact hv)]
      by_cases c : j = v
      · subst c; simp
      · rw [if_neg c, ih j]
        by_cases c2 : j ∈ vs
        · simp [c2]
        · simp [c, c2]
    · rw [put_out (by rw [hlen]; exact hv), ih j]
      by_cases c : j = v
      · subst c
        have e1 : s.get j = .non := by unfold St.get; rw [List.getD_eq_getElem?_getD, List.getElem?_eq_none (by omega)]; rfl
        have e2 : s2.get j = .non := by unfold St.get; rw [List.getD_eq_getElem?_getD, List.getElem?_eq_none (by omega)]; rfl
        rw [e1, e2]; simp
      · by_cases c2 : j ∈ vs
        · simp [c2]
        · simp [c, c2]
theorem backS_same : ∀ {vs : List Nat}, (backS s s2 vs).cells = s.cells ∧ (backS s s2 vs).slf = s.slf ∧ (backS s s2 vs).env.length = s.env.length
  | [] => ⟨rfl, rfl, rfl⟩
  | v :: vs => by
    obtain ⟨h1, h2, h3⟩ := backS_same (vs := vs)
    exact ⟨h1, h2, by show ((backS s s2 vs).env.set v _).length = _; rw [List.length_set]; exact h3⟩
/-- slots are as they were -/
theorem RS.unwipe {vs : List Nat} (R : RS I fr hs F L s (wipe σ vs) H) (hn : noSl hs) (hl : s.env.length = s2.env.length) (ho : ∀ v ∈ vs, ∀ d, s2.get v ≠ .own d) (hv : ∀ v ∈ vs, ∀ z, s2.get v = .val z → ∃ u, σ[v]? = some (some u) ∧ RepV I F L z u) :
    RS I fr hs F L (backS s s2 vs) σ H := by
  obtain ⟨h1, h2, h3⟩ := backS_same (s := s) (s2 := s2) (vs := vs)
  have gb := backS_get (s := s) (s2 := s2) (vs := vs) hl
  have ws : ∀ {j : Nat} {u : V}, (wipe σ vs)[j]? = some (some u) → σ[j]? = some (some u) := fun {j u} h => (wipe_some h).1
  have gown : ∀ j d, (backS s s2 vs).get j = .own d → j ∉ vs ∧ s.get j = .own d := fun j d q => by
    rw [gb] at q
    by_cases c : j ∈ vs
    · rw [if_pos c] at q; exact absurd q (ho j c d)
    · rw [if_neg c] at q; exact ⟨c, q⟩
  refine { R with len := by rw [h3]; have := R.len; rw [wipe_length] at this; exact this, cl := by rw [h1]; exact R.cl, cell := by rw [h1]; exact R.cell, val := fun j w q => ?_, own := fun j d q => ?_, sep := fun j k d d' q1 q2 q3 => ?_, hval := fun q hq => ?_, slf := fun u e => ws (R.slf u e), sl := by rw [h2]; exact R.sl }
  · rw [gb] at q
    by_cases c : j ∈ vs
    · rw [if_pos c] at q; exact hv j c w q
    · rw [if_neg c] at q
      obtain ⟨u, e1, e2⟩ := R.val j w q
      exact ⟨u, ws e1, e2⟩
  · obtain ⟨c, q'⟩ := gown j d q
    obtain ⟨a, e1, e2⟩ := R.own j d q'
    exact ⟨a, ws e1, e2⟩
  · obtain ⟨c1, q1'⟩ := gown j d q1
    obtain ⟨c2, q2'⟩ := gown k d' q2
    obtain ⟨a, e1, _⟩ := R.own j d q1'
    obtain ⟨b, e2, _⟩ := R.own k d' q2'
    refine R.sep j k d d' q1' q2' ?_
    rw [e1, e2, ← ws e1, ← ws e2]
    exact q3
  · obtain ⟨q1, q2⟩ := q
    have hv := R.hval _ hq
    cases q1 with
    | val w => exact hv
    | slot j => exact absurd rfl (hn _ hq j)
    | tmp d =>
      obtain ⟨b, eb, at_, no⟩ := hv
      refine ⟨b, eb, at_, fun j d' q e => ?_⟩
      obtain ⟨c1, q1'⟩ := gown j d' q
      obtain ⟨a, e1, _⟩ := R.own j d' q1'
      have := ws e1
      rw [e] at this
      cases this
      exact no j d' q1' e1
/-- what was lent goes back to its slots -/
theorem RS.unlend {fz : Bool} {s1 : St} : ∀ {rs : List RV} {vs : List V} {cs : List PV} {t s2 st : St} {hs : List (RV × V)}, vs.length = rs.length → Hides t s1 → lend fz rs t = .ok () s2 → (∀ p ∈ rs.zip vs, ∀ i, p.1 = .slot i → σ[i]? = some (some p.2)) →
    RS I fr ((lentRs fz rs t).zip vs ++ hs) F L st σ H → RS I fr hs F L (Nr.unlend fz s1 rs st) σ H
  | [], vs, cs, t, s2, st, hs, hl, ht, el, hσ, R => R
  | r :: rs, [], cs, t, s2, st, hs, hl, ht, el, hσ, R => by cases hl
  | r :: rs, v :: vs, cs, t, s2, st, hs, hl, ht, el, hσ, R => by
    have hl' : vs.length = rs.length := by simpa using hl
    have hσ' : ∀ p ∈ rs.zip vs, ∀ i, p.1 = .slot i → σ[i]? = some (some p.2) := fun p hp => hσ p (by rw [List.zip_cons_cons]; exact List.mem_cons_of_mem _ hp)
    cases r with
    | tmp d =>
      have R : RS I fr ((.tmp d, v) :: ((lentRs fz rs t).zip vs ++ hs)) F L st σ H := R
      exact RS.unlend (rs := rs) (cs := []) hl' ht el hσ' R.drop
    | val z =>
      have hz : ∀ k, z ≠ .loc k := fun k q => by subst q; cases el
      have el : lend fz rs t = .ok () s2 := by cases z <;> first | exact el | exact absurd rfl (hz _)
      have R : RS I fr ((.val z, v) :: ((lentRs fz rs t).zip vs ++ hs)) F L st σ H := R
      exact RS.unlend (rs := rs) (cs := []) hl' ht el hσ' R.drop
    | slot i =>
      have el : (match t.get i with
        | .own c => lend fz rs (t.put i (if fz = true then .val c else .non))
        | _ => .bad) = .ok () s2 := el
      cases hg : t.get i with
      | non => rw [hg] at el; cases el
      | val z => rw [hg] at el; cases el
      | own d =>
        rw [hg] at el
        have en : lentRs fz (.slot i :: rs) t = (if fz = true then RV.val d else .tmp d) :: lentRs fz rs (t.put i (if fz = true then .val d else .non)) := by
          show (match t.get i with
            | .own c => (if fz = true then RV.val c else .tmp c) :: lentRs fz rs (t.put i (if fz = true then .val c else .non))
            | _ => .slot i :: lentRs fz rs t) = _
          rw [hg]
        rw [en, zip_cons] at R
        have ht' : Hides (t.put i (if fz = true then .val d else .non)) s1 := (hides_put fun d => lent_z).trans ht
        cases fz with
        | true => exact RS.unlend (rs := rs) (cs := []) hl' ht' el hσ' R.drop
        | false =>
          show RS I fr hs F L (match st.get i with
            | .non => Nr.unlend false s1 rs (st.put i (s1.get i))
            | _ => Nr.unlend false s1 rs st) σ H
          cases hst : st.get i with
          | non =>
            rw [ht.2 i d hg]
            have R : RS I fr ((.tmp d, v) :: ((lentRs false rs (t.put i .non)).zip vs ++ hs)) F L st σ H := R
            have hv : σ[i]? = some (some v) := hσ (.slot i, v) (by rw [List.zip_cons_cons]; exact List.mem_cons_self) i rfl
            exact RS.unlend (rs := rs) (cs := []) hl' ht' el hσ' (R.giveS hv hst)
          | val z => exact RS.unlend (rs := rs) (cs := []) hl' ht' el hσ' R.drop
          | own z => exact RS.unlend (rs := rs) (cs := []) hl' ht' el hσ' R.drop
end
end Nr
end

section
set_option Elab.async false
set_option linter.all false
set_option maxRecDepth 100000
set_option maxHeartbeats 4000000
/-! E33: comprehensions. -/
namespace Nr
open PySem PySem.Spec PyProof.Rows L2 PySem.W
def Wn : WX := fun _ _ _ _ => False
def nSl : RV → Bool
  | .slot _ => false
  | _ => true
def isYes : CE → Bool
  | .cst (.bl true) => true
  | _ => false
def ttOf (I : Inf) (T : Tab) (cf : CallF) (cond : CE) : TT := if isYes cond then tYes else tB (tEv I Wn (evalE T cf cond))
def compF (T : Tab) (cf : CallF) (t : Tg) (cond elt : CE) : PV → List PV → St → R (List PV) := fun x acc sa => noEx ((asgT t x sa).bind fun _ sb => (evalE T cf cond sb).bind fun c sc => match c with
          | .val (.bl false) => .ok acc (wipeS sc (tgVars t))
          | .val (.bl true) => (evalE T cf elt sc).bind fun r sd => (toVal r sd).bind fun v se => .ok (acc ++ [v]) (wipeS se (tgVars t))
          | _ => .bad)
theorem noEx_ok {α : Type} {r : R α} {a : α} {s : St} (h : noEx r = .ok a s) : r = .ok a s := by
  cases r with
  | ok b t => exact h
  | ex e t => cases h
  | bad => cases h
section
variable {I : Inf} {W : WX} {T : Tab} {cf : CallF} {n : Nm} {X : Cx} {fr : Frm} {ps hs gs : List (RV × V)} {F : Hp} {L : List Addr} {s s2 : St} {σ : Sg} {H : Hp} {Q : VK} {rx ry : RV} {x y : V}
theorem wipe_get {σ : Sg} : ∀ {vs : List Nat} {j : Nat}, (wipe σ vs)[j]? = if j ∈ vs then (σ[j]?).map fun _ => none else σ[j]?
  | [], j => by simp [wipe]
  | v :: vs, j => by
    have ih := wipe_get (σ := σ) (vs := vs) (j := j)
    show ((wipe σ vs).set v none)[j]? = _
    rw [List.getElem?_set]
    by_cases c : v = j
    · subst c
      by_cases hl : v < σ.length
      · simp [wipe_length, hl]
      · simp [wipe_length, hl]
    · rw [if_neg c, ih]
      have c' : j ≠ v := fun z => c z.symm
      simp [c']
theorem wipe_apart {σ σ' : Sg} {vs : List Nat} (h : Apart vs (wipe σ vs) σ') : wipe σ' vs = wipe σ vs := by
  apply List.ext_getElem?
  intro j
  rw [wipe_get, wipe_get]
  have hl : σ'.length = σ.length := by rw [h.1, wipe_length]
  by_cases c : j ∈ vs
  · rw [if_pos c, if_pos c]
    by_cases hj : j < σ.length
    · rw [List.getElem?_eq_getElem hj, List.getElem?_eq_getElem (by omega)]; rfl
    · rw [List.getElem?_eq_none (by omega), List.getElem?_eq_none (by omega)]
  · rw [if_neg c, if_neg c, h.2 j c, wipe_get, if_neg c]
theorem noSl_filter (hs : List (RV × V)) : noSl (hs.filter fun p => nSl p.1) := fun p hp j e => by
  have := (List.mem_filter.mp hp).2
  rw [e] at this
  cases this
theorem reSlot (hσ : ∀ p ∈ hs, ∀ j, p.1 = .slot j → σ[j]? = some (some p.2)) {r : RV} {v : V} (R : RS I fr ((r, v) :: hs.filter fun p => nSl p.1) F L s σ H) : RS I fr ((r, v) :: hs) F L s σ H := by
  have e : ((r, v) :: hs).filterMap tmpA = ((r, v) :: hs.filter fun p => nSl p.1).filterMap tmpA := by
    rw [List.filterMap_cons, List.filterMap_cons]
    have : hs.filterMap tmpA = (hs.filter fun p => nSl p.1).filterMap tmpA := by
      clear R hσ
      induction hs with
      | nil => rfl
      | cons p ps ih =>
        obtain ⟨r, v⟩ := p
        cases r with
        | slot i => rw [List.filterMap_cons, List.filter_cons_of_neg (by simp [nSl])]; simpa [tmpA] using ih
        | val z => rw [List.filterMap_cons, List.filter_cons_of_pos rfl, List.filterMap_cons]; simpa [tmpA] using ih
        | tmp z => rw [List.filterMap_cons, List.filter_cons_of_pos rfl, List.filterMap_cons]; cases v <;> simpa [tmpA] using ih
    rw [this]
  refine { R with hval := fun p hp => ?_, hsep := by rw [e]; exact R.hsep }
  rcases List.mem_cons.mp hp with rfl | hp
  · exact R.head
  · obtain ⟨r', v'⟩ := p
    cases r' with
    | slot j => exact hσ _ hp j rfl
    | val z => exact R.hval (.val z, v') (List.mem_cons_of_mem _ (List.mem_filter.mpr ⟨hp, rfl⟩))
    | tmp z => exact R.hval (.tmp z, v') (List.mem_cons_of_mem _ (List.mem_filter.mpr ⟨hp, rfl⟩))
theorem tEv_comp {fz : Bool} {t : Tg} {ik : IK} {src cond elt : CE} (hik : isVarT t = true → ik ≠ .enum ∧ ik ≠ .zip2) (h : tEv I W (evalE T cf (.comp fz t ik src cond elt)) σ H Q) :
    tLc (fun σ H R => tEvs I W (evalEs T cf src) σ H fun vs H1 => wIt I.K ik vs H1 R) (gT I.K t) (ttOf I T cf cond) (tEv I Wn (evalE T cf elt)) (tgVars t) σ H Q := by
  obtain ⟨fr, hs, F, L, s, R, P⟩ := h
  refine stepA R (List.Sublist.refl _) P fun rs s1 F1 L1 H1 vs hl R1 P1 => ?_
  obtain ⟨cs, ec, P2⟩ := Post.opt (P := P1)
  obtain ⟨xs, ex, P3⟩ := Post.opt (P := P2)
  cases el : lend fz rs s1 with
  | ex z s2 => 
    exfalso
    have : ∀ (rs : List RV) (s : St), lend fz rs s ≠ .ex z s2 := by
      intro rs
      induction rs with
      | nil => intro s h; cases h
      | cons r rs ih =>
        intro s h
        cases r with
        | tmp d => exact ih s h
        | val w => cases w <;> first | exact ih s h | cases h
        | slot i =>
          have h : (match s.get i with
            | .own c => lend fz rs (s.put i (if fz = true then .val c else .non))
            | _ => .bad) = .ex z s2 := h
          cases hg : s.get i with
          | non => rw [hg] at h; cases h
          | val w => rw [hg] at h; cases h
          | own d => rw [hg] at h; exact ih _ h
    exact this rs s1 el
  | bad => rw [el] at P3; exact P3.elim
  | ok u s2 =>
    cases u
    rw [el] at P3
    have P3 : Post I W fr hs σ Q (if ((tgVars t).all (compVar s2) && sizeOk xs.length) = true then
      (loopR (compF T cf t cond elt) xs [] (wipeS s2 (tgVars t))).bind fun acc s3 => .ok (.tmp (.lst acc)) (Nr.unlend fz s1 rs (backS s3 s2 (tgVars t))) else .bad) := P3
    by_cases hck : ((tgVars t).all (compVar s2) && sizeOk xs.length) = true
    · rw [if_pos hck] at P3
      rw [Bool.and_eq_true] at hck
      have hfree : (tgVars t).all s2.free = true := List.all_eq_true.mpr fun i hi => by
        have := List.all_eq_true.mp hck.1 i hi
        unfold compVar at this
        rw [Bool.and_eq_true] at this
        exact this.1
      have hno : ∀ v ∈ tgVars t, ∀ d, s2.get v ≠ .own d := fun v hv d e => by
        have := List.all_eq_true.mp hck.1 v hv
        unfold compVar at this
        rw [Bool.and_eq_true, e] at this
        exact absurd this.2 (by simp)
      have hsz := sizeOk_le hck.2
      -- sources
      have hsub : (hs.filter fun p => nSl p.1).Sublist hs := List.filter_sublist
      generalize hT : (hs.filter fun p => nSl p.1) = hsT at hsub
      have hnT : noSl hsT := by rw [← hT]; exact noSl_filter hs
      have R1p : RS I fr (rs.zip vs ++ hs) F1 L1 s1 σ H1 := R1.perm (push_perm rs vs hs)
      have R1' : RS I fr (rs.zip vs ++ hsT) F1 L1 s1 σ H1 := R1p.sub (List.Sublist.append (List.Sublist.refl _) hsub)
      obtain ⟨F2, R2, q1, q2, q3, q4, q5⟩ := lend_ok hl R1' ec el
      have hl2 : vs.length = (lentRs fz rs s1).length := by rw [lentRs_len]; exact hl
      obtain ⟨G, Y, k1, k2, k3⟩ := walk_ok (ik := ik) (xs := xs) hl2 R2 q2 (by rw [q1]; exact ex)
      have hps : ∀ p ∈ (lentRs fz rs s1).zip vs, srcOk p.1 = true := fun p hp => List.all_eq_true.mp q2 _ (List.of_mem_zip hp).1
      generalize hfr : nestF fr F2 L1 H1 ((lentRs fz rs s1).zip vs) = fr' at k2 k3
      have R3 : RS I fr' hsT F2 L1 s2 σ H1 := by rw [← hfr]; exact R2.nest
      refine k1 _ fun J w D hD => ?_
      refine lc_it w (fun i Hi => ∃ F L s acc, RS I fr' ((.tmp (.lst acc), .ref D) :: hsT) F L s (wipe σ (tgVars t)) Hi ∧ acc.length ≤ i ∧ s.env.length = s2.env.length ∧
        Post I W fr hs σ Q ((loopR (compF T cf t cond elt) (xs.drop i) acc s).bind fun acc s3 => .ok (.tmp (.lst acc)) (Nr.unlend fz s1 rs (backS s3 s2 (tgVars t)))) ∧ s.slf = s2.slf) ?_ ?_ ?_ ?_
      · have R4 := (R3.pushT (c := .lst []) (o := .lst []) hD ⟨[], rfl, rfl⟩).wipes (hnT.cons fun j => by simp) hfree
        refine ⟨F2, L1, _, [], R4, Nat.le_refl _, ?_, P3, ?_⟩
        · have := R4.len
          rw [wipe_length] at this
          rw [this]
          exact R3.len.symm
        · have := R4.sl
          rw [this]
          exact R3.sl.symm
      · rintro i Hi hi ⟨F, L, s, acc, Rp, _⟩
        exact k2 _ _ _ _ _ _ Rp
      · rintro i v Hi H' hi ⟨F, L, s, acc, Rp, hacc, hlen, Pp, hslf⟩ hy
        obtain ⟨z, hz, Rz, hit⟩ := k3 i v _ F L s _ Hi H' hi Rp hy
        have hdrop : xs.drop i = z :: xs.drop (i + 1) := by
          rw [List.drop_eq_getElem_cons hi]
          rw [List.getElem?_eq_getElem hi] at hz
          rw [Option.some.inj hz]
        rw [hdrop] at Pp
        have Pp : Post I W fr hs σ Q ((compF T cf t cond elt z acc s).bind fun b s1' => (loopR (compF T cf t cond elt) (xs.drop (i + 1)) b s1').bind fun acc s3 => .ok (.tmp (.lst acc)) (Nr.unlend fz s1 rs (backS s3 s2 (tgVars t)))) := by
          have e : (loopR (compF T cf t cond elt) (z :: xs.drop (i + 1)) acc s) = (compF T cf t cond elt z acc s).bind fun b s1' => loopR (compF T cf t cond elt) (xs.drop (i + 1)) b s1' := rfl
          rw [e] at Pp
          cases hc : compF T cf t cond elt z acc s with
          | ok a b => rw [hc] at Pp; exact Pp
          | ex a b => rw [hc] at Pp; exact Pp
          | bad => rw [hc] at Pp; exact Pp
        -- the store
        cases ea : asgT t z s with
        | ex q w => 
          exfalso
          have : compF T cf t cond elt z acc s = .bad := by unfold compF; rw [ea]; rfl
          rw [this] at Pp; exact Pp
        | bad =>
          exfalso
          have : compF T cf t cond elt z acc s = .bad := by unfold compF; rw [ea]; rfl
          rw [this] at Pp; exact Pp
        | ok u sb =>
          cases u
          have ec1 : compF T cf t cond elt z acc s = noEx ((evalE T cf cond sb).bind fun c sc => match c with
            | .val (.bl false) => .ok acc (wipeS sc (tgVars t))
            | .val (.bl true) => (evalE T cf elt sc).bind fun r sd => (Nr.toVal r sd).bind fun v se => .ok (acc ++ [v]) (wipeS se (tgVars t))
            | _ => .bad) := by unfold compF; rw [ea]; rfl
          have htg : tgOk t I F L H' z v := by
            unfold tgOk
            cases hv : isVarT t with
            | true =>
              obtain ⟨n1, n2⟩ := hik hv
              cases ik <;> first | exact hit | exact absurd rfl n1 | exact absurd rfl n2
            | false =>
              show TgtV I F L H' z v
              cases ik <;> first | exact hit | exact .inl hit
          refine (asg_ok (hnT.cons fun j => by simp) t).1 ea Rz htg fun σ' Rb ap aps => ?_
          have hw : wipe σ' (tgVars t) = wipe σ (tgVars t) := wipe_apart ap
          refine ⟨hw, ?_⟩
          have hfreeB : (tgVars t).all sb.free = true := List.all_eq_true.mpr fun i hi => by
            have := List.all_eq_true.mp hfree i hi
            unfold St.free at this ⊢
            rw [aps.2.1, hslf]; exact this
          -- what follows a step that ends in state sc with accumulator acc'
          have next : ∀ {acc' : List PV} {sc : St} {F3 : Hp} {L3 : List Addr} {H3 : Hp}, RS I fr' ((.tmp (.lst acc'), .ref D) :: hsT) F3 L3 sc σ' H3 → acc'.length ≤ i + 1 → compF T cf t cond elt z acc s = .ok acc' (wipeS sc (tgVars t)) →
              ∃ F L s acc, RS I fr' ((.tmp (.lst acc), .ref D) :: hsT) F L s (wipe σ (tgVars t)) H3 ∧ acc.length ≤ i + 1 ∧ s.env.length = s2.env.length ∧
                Post I W fr hs σ Q ((loopR (compF T cf t cond elt) (xs.drop (i + 1)) acc s).bind fun acc s3 => .ok (.tmp (.lst acc)) (Nr.unlend fz s1 rs (backS s3 s2 (tgVars t)))) ∧ s.slf = s2.slf := by
            intro acc' sc F3 L3 H3 Rc hle hcf
            rw [hcf] at Pp
            have hslc : sc.slf = s2.slf := by
              have e1 := Rc.sl
              have e2 := R3.sl
              rw [e1, e2]
            have hf2 : (tgVars t).all sc.free = true := List.all_eq_true.mpr fun i hi => by
              have := List.all_eq_true.mp hfree i hi
              unfold St.free at this ⊢
              rw [hslc]; exact this
            have Rw := Rc.wipes (hnT.cons fun j => by simp) hf2
            rw [hw] at Rw
            refine ⟨F3, L3, _, acc', Rw, hle, ?_, Pp, ?_⟩
            · have e1 := Rw.len
              rw [wipe_length] at e1
              rw [e1]; exact R3.len.symm
            · rw [Rw.sl, R3.sl]
          -- the test
          have tst : ∀ {b : Bool} {sc : St} {F3 : Hp} {L3 : List Addr} {H3 : Hp}, RS I fr' ((.tmp (.lst acc), .ref D) :: hsT) F3 L3 sc σ' H3 → evalE T cf cond sb = .ok (.val (.bl b)) sc →
              if b = true then tEv I Wn (evalE T cf elt) σ' H3 fun y H4 => ∃ accV, H4 D = some (.lst accV) ∧ accV.length < sizeLine ∧ ∃ F L s acc, RS I fr' ((.tmp (.lst acc), .ref D) :: hsT) F L s (wipe σ (tgVars t)) (upd H4 D (.lst (accV ++ [y]))) ∧ acc.length ≤ i + 1 ∧ s.env.length = s2.env.length ∧
                Post I W fr hs σ Q ((loopR (compF T cf t cond elt) (xs.drop (i + 1)) acc s).bind fun acc s3 => .ok (.tmp (.lst acc)) (Nr.unlend fz s1 rs (backS s3 s2 (tgVars t)))) ∧ s.slf = s2.slf
              else ∃ F L s acc, RS I fr' ((.tmp (.lst acc), .ref D) :: hsT) F L s (wipe σ (tgVars t)) H3 ∧ acc.length ≤ i + 1 ∧ s.env.length = s2.env.length ∧
                Post I W fr hs σ Q ((loopR (compF T cf t cond elt) (xs.drop (i + 1)) acc s).bind fun acc s3 => .ok (.tmp (.lst acc)) (Nr.unlend fz s1 rs (backS s3 s2 (tgVars t)))) ∧ s.slf = s2.slf := by
            intro b sc F3 L3 H3 Rc he
            rw [he] at ec1
            cases b with
            | false =>
              rw [if_neg (by simp)]
              exact next Rc (by omega) ec1
            | true =>
              rw [if_pos rfl]
              have ec2 : compF T cf t cond elt z acc s = noEx ((evalE T cf elt sc).bind fun r sd => (Nr.toVal r sd).bind fun v se => .ok (acc ++ [v]) (wipeS se (tgVars t))) := ec1
              refine ⟨fr', _, F3, L3, sc, Rc, ?_⟩
              cases ee : evalE T cf elt sc with
              | ex q w => rw [ee] at ec2; rw [ec2] at Pp; exact Pp.elim
              | bad => rw [ee] at ec2; rw [ec2] at Pp; exact Pp.elim
              | ok r sd =>
                rw [ee] at ec2
                intro F4 L4 H4 y R4
                have qv := R4.toVal
                cases ev : Nr.toVal r sd with
                | ex q w => rw [ev] at qv; exact qv.elim
                | bad =>
                  have ec3 : compF T cf t cond elt z acc s = .bad := by rw [ec2]; show noEx ((Nr.toVal r sd).bind _) = _; rw [ev]; rfl
                  rw [ec3] at Pp; exact Pp.elim
                | ok pv se =>
                  rw [ev] at qv
                  obtain ⟨F5, R5, _⟩ := qv
                  have ec3 : compF T cf t cond elt z acc s = .ok (acc ++ [pv]) (wipeS se (tgVars t)) := by rw [ec2]; show noEx ((Nr.toVal r sd).bind _) = _; rw [ev]; rfl
                  have hy := R5.head
                  obtain ⟨a, ea', ⟨o, ho, ⟨accV, eo, ra⟩, _⟩, _⟩ := R5.drop.head
                  cases ea'
                  subst eo
                  refine ⟨accV, ho, ?_, next (R5.drop.setTmp (c' := .lst (acc ++ [pv])) ⟨_, rfl, ra.append (.one hy)⟩) (by simp; omega) ec3⟩
                  rw [← ra.length]
                  omega
          unfold ttOf
          cases hyes : isYes cond with
          | true =>
            have e : cond = .cst (.bl true) := by
              unfold isYes at hyes
              split at hyes
              · rfl
              · cases hyes
            have := tst (b := true) Rb (by rw [e]; rfl)
            rw [if_pos rfl] at this
            rw [if_pos rfl]
            exact this
          | false =>
            show tB (tEv I Wn (evalE T cf cond)) σ' H' _
            refine ⟨fr', _, F, L, sb, Rb, ?_⟩
            cases ee : evalE T cf cond sb with
            | ex q w => rw [ee] at ec1; rw [ec1] at Pp; exact Pp.elim
            | bad => rw [ee] at ec1; rw [ec1] at Pp; exact Pp.elim
            | ok c sc =>
              intro F3 L3 H3 vv R3'
              have hb : ∃ b, c = .val (.bl b) := by
                rw [ee] at ec1
                cases c with
                | val q =>
                  cases q with
                  | bl b => exact ⟨b, rfl⟩
                  | _ => rw [ec1] at Pp; exact Pp.elim
                | _ => rw [ec1] at Pp; exact Pp.elim
              obtain ⟨b, rfl⟩ := hb
              have hvv : vv = V.bl b := R3'.head
              refine ⟨b, hvv, ?_⟩
              exact tst R3'.drop ee
      · rintro Hn ⟨F, L, s, acc, Rp, _, hlen, Pp, _⟩
        rw [List.drop_length] at Pp
        have Pp : Post I W fr hs σ Q (.ok (.tmp (.lst acc)) (Nr.unlend fz s1 rs (backS s s2 (tgVars t)))) := Pp
        refine Pp F L Hn (.ref D) ?_
        have Rg : Grow F2 F L1 L := by
          have Rp' := Rp
          rw [← hfr] at Rp'
          exact Rp'.ngrow
        rw [← hfr] at Rp
        have R6 := R2.unlock hps Rp
        have R7 : RS I fr ((lentRs fz rs s1).zip vs ++ ((.tmp (.lst acc), .ref D) :: hsT)) F L (backS s s2 (tgVars t)) σ Hn := by
          refine R6.unwipe ?_ hlen hno fun v hv z e => ?_
          · intro p hp j e
            rcases List.mem_append.mp hp with hp | hp
            · have := hps p hp
              rw [e] at this; cases this
            · exact (hnT.cons (fun j => by simp)) p hp j e
          · obtain ⟨u, h1, h2⟩ := R2.val v z e
            exact ⟨u, h1, h2.grow Rg⟩
        have R8 := RS.unlend (fz := fz) (s1 := s1) (rs := rs) (cs := []) (s2 := s2) (t := s1) hl ⟨rfl, fun _ _ e => e⟩ el (fun p hp i e => ?_) R7
        · rw [← hT] at R8
          refine reSlot (fun p hp j e => ?_) R8
          have := R.hval p hp
          obtain ⟨r, v⟩ := p
          simp only at e
          subst e
          exact this
        · have := R1p.hval p (List.mem_append_left _ hp)
          obtain ⟨r, v⟩ := p
          simp only at e
          subst e
          exact this
    · rw [if_neg hck] at P3; exact P3.elim
end
end Nr
end

section
set_option Elab.async false
set_option linter.all false
set_option maxRecDepth 100000
set_option maxHeartbeats 4000000
/-! E34: d.get(k, x), {}, comprehensions against their text. -/
namespace Nr
open PySem PySem.Spec PyProof.Rows L2 PySem.W
section
variable {I : Inf} {W : WX} {T : Tab} {cf : CallF} {n : Nm} {X : Cx} {fr : Frm} {ps hs gs : List (RV × V)} {F : Hp} {L : List Addr} {s s2 : St} {σ : Sg} {H : Hp} {Q : VK} {rx ry : RV} {x y : V}
theorem tEv_get3 {a k d : CE} (h : tEv I W (evalE T cf (.get3 a k d)) σ H Q) : tDGet2 (tEv I W (evalE T cf a)) (tEv I W (evalE T cf k)) (tEv I W (evalE T cf d)) σ H Q := by
  obtain ⟨fr, hs, F, L, s, R, P⟩ := h
  refine step R (List.Sublist.refl _) P fun rx s1 F1 L1 H1 x R1 P1 => ?_
  by_cases hd : isDctR s1 rx = true
  · have P1 : Post I W fr hs σ Q (if isDctR s1 rx = true then (evalE T cf k s1).bind fun y s2 => (evalE T cf d s2).bind fun z s3 => (Nr.toVal z s3).bind fun dv s4 =>
      (ofOpt (view s4 rx) s4).bind fun vx _ => (ofOpt (view s4 y) s4).bind fun vy _ => (match vx with
        | .dct kvs => if isKey 0 vy then .ok (.val ((dctGet vy kvs).getD dv)) s4 else .bad
        | _ => .bad) else .bad) := P1
    rw [if_pos hd] at P1
    obtain ⟨p, ws, ex, rd⟩ : ∃ p ws, x = .ref p ∧ Rd H1 p (.dK ws) := by
      unfold isDctR at hd
      cases hv : view s1 rx with
      | none => rw [hv] at hd; cases hd
      | some c =>
        have sx : Shown I F1 L1 H1 c x := R1.shown List.mem_cons_self hv
        rw [hv] at hd
        cases c with
        | dct kvs =>
          obtain ⟨p, ws, ex, rd, _⟩ := sx
          exact ⟨p, ws, ex, rd⟩
        | _ => cases hd
    refine ⟨p, ex, .inl ⟨ws, rd⟩, ?_⟩
    refine step R1 (List.sublist_cons_self _ _) P1 fun ry s2 F2 L2 H2 y R2 P2 => ?_
    refine step R2 ((List.sublist_cons_self _ _).trans (List.sublist_cons_self _ _)) P2 fun rz s3 F3 L3 H3 z R3 P3 => ?_
    obtain ⟨dv, s4, F4, R4, P4⟩ := Post.val1 R3 P3
    obtain ⟨cx, evx, P5⟩ := Post.opt (P := P4)
    obtain ⟨cy, evy, P6⟩ := Post.opt (P := P5)
    have sx : Shown I F4 L3 H3 cx x := R4.shown (by simp) evx
    have sy : Shown I F4 L3 H3 cy y := R4.shown (by simp) evy
    cases cx with
    | dct kvs =>
      have P6 : Post I W fr hs σ Q (if isKey 0 cy = true then .ok (.val ((dctGet cy kvs).getD dv)) s4 else .bad) := P6
      by_cases hk : isKey 0 cy = true
      · rw [if_pos hk] at P6
        obtain ⟨kk, hkk⟩ := isKey_keyOf hk
        obtain ⟨q, ws', e1, rd', r⟩ := sx
        rw [ex] at e1
        cases e1
        have g := r.get hkk
        have R0 := R4.drop.drop.drop
        refine ⟨valV ws' kk, .inl ⟨ws', kk, rd', shown_key hkk sy, rfl⟩, ?_⟩
        cases h : dctGet cy kvs with
        | none =>
          rw [h] at g P6
          rw [g]
          exact Post.val P6 R0 R4.head
        | some w =>
          rw [h] at g P6
          obtain ⟨v, g1, g2⟩ := g
          rw [g1]
          exact Post.val P6 R0 g2
      · rw [if_neg hk] at P6; exact P6.elim
    | _ => exact P6.elim
  · have P1 : Post I W fr hs σ Q (if isDctR s1 rx = true then (evalE T cf k s1).bind fun y s2 => (evalE T cf d s2).bind fun z s3 => (Nr.toVal z s3).bind fun dv s4 =>
      (ofOpt (view s4 rx) s4).bind fun vx _ => (ofOpt (view s4 y) s4).bind fun vy _ => (match vx with
        | .dct kvs => if isKey 0 vy then .ok (.val ((dctGet vy kvs).getD dv)) s4 else .bad
        | _ => .bad) else .bad) := P1
    rw [if_neg hd] at P1
    exact P1.elim
theorem tEv_dnew (h : tEv I W (evalE T cf (.dct .nil)) σ H Q) : tDNewK σ H Q := by
  obtain ⟨fr, hs, F, L, s, R, P⟩ := h
  have P : Post I W fr hs σ Q (.ok (.tmp (.dct [])) s) := P
  exact fun p nn => Post.new P R nn ⟨[], rfl, rfl⟩
/-! ### comprehensions -/
theorem notSet_iter {e : Expr} (h : noSet e = true) (env : Env) (x : Value) : foldedSetIterable e env x = pure x := by
  cases e <;> first | rfl | (cases h)
theorem good_blk (hc : n.cm = true) (g : Good I n X) (s : Shared) (H : Hp) (scope : Scope) (C : Addr) (cl : List (Str × Addr)) (fp : List Addr) : Good I n (X.blk s H scope (compEnvC scope cl C X.env) fp) :=
  { pP := g.pP, pw := g.pw, pK := g.pK, pmg := g.pmg, pb := g.pb, pN := g.pN, nd := g.nd, calm := g.calm, un := g.un, blt := g.blt, con := g.con, an := g.an, sut := fun h => absurd (hc.symm.trans h) (by decide) }
theorem raw_blk (s : Shared) (H : Hp) (scope : Scope) (C : Addr) (cl : List (Str × Addr)) (fp : List Addr) : RawOk scope (X.blk s H scope (compEnvC scope cl C X.env) fp) := ⟨fun x h => by
  have e : (compEnvC scope cl C X.env).scope = relS scope X.env.scope := rfl
  show L2.Loc (compEnvC scope cl C X.env).scope x ∧ ((scope.names.lookup x == some .cell) = true ∨ (compEnvC scope cl C X.env).scope.names.lookup x = some .local)
  rw [e]
  unfold locB at h
  unfold L2.Loc
  split at h
  · rename_i h1
    have := lookup_relS_keep (sc := X.env.scope) (by simp) h1
    exact ⟨.inl this, .inr this⟩
  · rename_i h1
    have := lookup_relS_keep (sc := X.env.scope) (by simp) h1
    exact ⟨.inr this, .inl (by rw [h1]; rfl)⟩
  · cases h⟩
/-- the target's names -/
def ownOf (N : List Str) (vs : List Nat) : List (Str × Nat) := vs.map fun i => (N.getD i ⟨#[]⟩, i)
theorem ownOf_snd (N : List Str) : ∀ vs : List Nat, (ownOf N vs).map (·.2) = vs
  | [] => rfl
  | v :: vs => by
    have := ownOf_snd N vs
    unfold ownOf at this ⊢
    rw [List.map_cons, List.map_cons, this]
def tgIk (t : Tg) (ik : IK) : Bool := match t, ik with
  | .var _, .enum => false
  | .var _, .zip2 => false
  | _, _ => true
theorem tgIk_ok {t : Tg} {ik : IK} (h : tgIk t ik = true) (hv : isVarT t = true) : ik ≠ .enum ∧ ik ≠ .zip2 := by
  cases t with
  | var i => cases ik <;> first | (cases h; done) | exact ⟨by simp, by simp⟩
  | nil => cases hv
  | cons a b => cases hv
theorem s_comp (g : Good I n X) {fz : Bool} {t : Tg} {ik : IK} {src cond elt : CE} {ee tg it : Expr} {ifs es : List Expr} {scope : Scope} {pos : Pos} (hc : n.cm = true) (htg : tgF n scope t tg = true) (hik : tgIk t ik = true)
    (hu : itArgs n X.env.scope ik tg it = some es) (hns : noSet it = true) (hblk : blkC n.N X.env.scope scope (ownOf n.N (tgVars t)) = true)
    (hsrc : PA X es (tEvs I W (evalEs T cf src))) (hseq : ∀ l, es = [l] → ik = .seq → ∃ te, PE X l te ∧ ∀ σ H Q, tEvs I W (evalEs T cf src) σ H Q → te σ H fun x H1 => Q [x] H1)
    (ht : ∀ (s : Shared) (H : Hp) (C : Addr) (cl : List (Str × Addr)) (fp : List Addr), PTs (X.blk s H scope (compEnvC scope cl C X.env) fp) ifs (ttOf I T cf cond))
    (he : ∀ (s : Shared) (H : Hp) (C : Addr) (cl : List (Str × Addr)) (fp : List Addr), PE (X.blk s H scope (compEnvC scope cl C X.env) fp) ee (tEv I Wn (evalE T cf elt))) :
    PE X (.ListComp ee [⟨tg, it, ifs, 0⟩] scope pos) (tEv I W (evalE T cf (.comp fz t ik src cond elt))) := by
  refine (pe_lc (own := ownOf n.N (tgVars t)) (g.calm hc) g.nd (s_iter g hu hsrc (fun σ H QA QB k q => tEvs_imp q k) hseq) (by rw [g.pN]; exact blkOk_by hblk) (fun s H C cl fp => show PG (X.blk s H scope (compEnvC scope cl C X.env) fp) tg (gT X.K t) from ((s_tg (good_blk hc g s H scope C cl fp) (raw_blk s H scope C cl fp) t).1 htg)) ht he (notSet_iter hns X.env)).imp fun σ H Q q => ?_
  rw [ownOf_snd]
  have q := tEv_comp (tgIk_ok hik) q
  rw [g.pK]
  exact q
/-! ### a cell -/
theorem RS.toCell {c : PV} {v : V} (R : RS I fr ((.tmp c, v) :: hs) F L s σ H) : ∃ p, v = .ref p ∧ RS I fr ((.val (.loc s.cells.length), v) :: hs) F (L ++ [p]) { s with cells := s.cells ++ [c] } σ H := by
  obtain ⟨p, ep, ⟨o, ho, rc, fp, bp, lp⟩, no⟩ := R.head
  have ep : v = .ref p := ep
  subst ep
  refine ⟨p, rfl, ?_⟩
  have R0 := R.drop
  have g : Grow F F L (L ++ [p]) := ⟨fun a o e => e, fun k a e => by
    have hk : k < L.length := by
      apply Classical.byContradiction
      intro q
      rw [List.getElem?_eq_none (by omega)] at e; cases e
    rw [List.getElem?_append_left hk]; exact e⟩
  have atg : ∀ {d : PV} {a : Addr}, AtC I fr F L H d a → a ≠ p → AtC I fr F (L ++ [p]) H d a := fun {d a} ⟨u, hu, ru, fu, bu, lu⟩ ne => ⟨u, hu, ru.grow g, fu, bu, fun hm => by
    rcases List.mem_append.mp hm with q | q
    · exact lu q
    · exact ne (List.mem_singleton.mp q)⟩
  have hp : ∀ {d : PV} {a : Addr}, (RV.tmp d, V.ref a) ∈ hs → a ≠ p := fun {d a} hm z => by
    subst z
    have := R.hsep
    rw [List.filterMap_cons] at this
    exact (List.nodup_cons.mp (show (a :: hs.filterMap tmpA).Nodup from this)).1 (mem_tmpA.mpr ⟨d, hm⟩)
  refine RS.pushV (x := .loc s.cells.length) { R0 with
    l0 := fun k a e => g.l _ _ (R0.l0 k a e), cl := by show (s.cells ++ [c]).length = (L ++ [p]).length; rw [List.length_append, List.length_append, R0.cl]; rfl
    cell := fun m a d h1 h2 => ?_, lf := fun a ha => ?_, lb := fun a ha => ?_, ln := ?_, val := fun i z hz => ?_, own := fun i d hd => ?_, hval := fun q hq => ?_ } ?_
  · have h2 : (s.cells ++ [c])[m]? = some d := h2
    by_cases hm : m < L.length
    · rw [List.getElem?_append_left hm] at h1
      rw [List.getElem?_append_left (by rw [R0.cl]; exact hm)] at h2
      obtain ⟨u, hu, ru⟩ := R0.cell m a d h1 h2
      exact ⟨u, hu, ru.grow g⟩
    · rw [List.getElem?_append_right (by omega)] at h1
      rw [List.getElem?_append_right (by rw [R0.cl]; omega), R0.cl] at h2
      cases hmm : m - L.length with
      | zero =>
        rw [hmm] at h1 h2
        cases h1; cases h2
        exact ⟨o, ho, rc.grow g⟩
      | succ k => rw [hmm] at h1; simp at h1
  · rcases List.mem_append.mp ha with q | q
    · exact R0.lf a q
    · rw [List.mem_singleton.mp q]; exact fp
  · rcases List.mem_append.mp ha with q | q
    · exact R0.lb a q
    · rw [List.mem_singleton.mp q]; exact bp
  · rw [List.nodup_append]
    refine ⟨R0.ln, by simp, fun a ha b hb z => ?_⟩
    rw [List.mem_singleton.mp hb] at z
    subst z
    exact lp ha
  · obtain ⟨u, h1, h2⟩ := R0.val i z hz
    exact ⟨u, h1, h2.grow g⟩
  · obtain ⟨a, h1, h2⟩ := R0.own i d hd
    refine ⟨a, h1, atg h2 fun z => ?_⟩
    subst z
    exact no i d hd h1
  · obtain ⟨q1, q2⟩ := q
    have hv := R0.hval _ hq
    cases q1 with
    | val z => exact RepV.grow g _ _ hv
    | slot j => exact hv
    | tmp d =>
      obtain ⟨a, ea, h2, h3⟩ := hv
      have ea : q2 = .ref a := ea
      subst ea
      exact ⟨a, rfl, atg h2 (hp hq), h3⟩
  · refine ⟨p, rfl, ?_⟩
    rw [R0.cl, List.getElem?_append_right (Nat.le_refl _)]
    simp
theorem tEv_cell {a : CE} (h : tEv I W (evalE T cf (.cell a)) σ H Q) : tEv I W (evalE T cf a) σ H Q := by
  obtain ⟨fr, hs, F, L, s, R, P⟩ := h
  refine step R (List.Sublist.refl _) P fun rx s1 F1 L1 H1 x R1 P1 => ?_
  have P1 : Post I W fr hs σ Q (match (generalizing := false) rx with
    | .tmp c => .ok (.val (.loc s1.cells.length)) { s1 with cells := s1.cells ++ [c] }
    | _ => .bad) := P1
  cases rx with
  | tmp c =>
    obtain ⟨p, e, R2⟩ := R1.toCell
    exact P1 F1 (L1 ++ [p]) H1 x R2
  | val z => exact P1.elim
  | slot i => exact P1.elim
/-! ### a field of the exception that is handled -/
theorem s_eattr (g : Good I n X) (hcm : n.cm = false) {i f : Nat} {x : Str} {p q : Pos} (hf : n.exf f = true) (he : PE X (.Name x p) (tEv I W (evalE T cf (.var i)))) : PE X (.Attribute (.Name x p) (n.an f) q) (tEv I W (evalE T cf (.eattr i f))) := by
  obtain ⟨X0, a, oe, cls, d, pn, c, rfl, hz, hd, hcur, hcls, hx, hno⟩ := g.sut hcm
  have hK := g.pK
  have hno := hno f hf
  rw [g.an f] at hno
  rw [← hK] at hx hno
  refine (pe_xf hx hno hz hd he).imp fun σ H Q q => ?_
  obtain ⟨fr, hs, F, L, s, R, P⟩ := q
  have P : Post I W fr hs σ Q (match s.get i with
    | .val (.err _ fs) => (ofOpt (fs.lookup f) s).bind fun w s2 => .ok (.val w) s2
    | _ => .bad) := P
  have gv : s.get i = .val .non ∨ True := .inr trivial
  cases hg : s.get i with
  | non => rw [hg] at P; exact P.elim
  | own z => rw [hg] at P; exact P.elim
  | val z =>
    rw [hg] at P
    cases z with
    | err c0 fs =>
      have P1 : Post I W fr hs σ Q ((ofOpt (fs.lookup f) s).bind fun w s2 => .ok (.val w) s2) := P
      clear P
      cases hl : fs.lookup f with
      | none => rw [hl] at P1; exact P1.elim
      | some w =>
        rw [hl] at P1
        have P2 : Post I W fr hs σ Q (Nr.R.ok (RV.val w) s) := P1
        refine ⟨fr, hs, F, L, s, R, ?_⟩
        have e : evalE T cf (.var i) s = Nr.R.ok (RV.val (.err c0 fs)) s := by
          show (match s.get i with
            | .non => Nr.R.bad
            | .val v => .ok (RV.val v) s
            | .own _ => .ok (RV.slot i) s) = _
          rw [hg]
        rw [e]
        intro F1 L1 H1 v R1
        obtain ⟨a', d', e1, ec, dd, ws, e2, e3, e4⟩ := R1.head
        rw [hcur] at ec
        cases ec
        obtain ⟨u, h1, h2⟩ := e4.lookup hl
        rw [g.an f] at h1
        exact ⟨e1, hcls, dd, ws, u, e2, (R1.fz _ _ e3).eq rfl, h1, P2 _ _ _ _ (R1.drop.pushV h2)⟩
    | _ => exact P.elim
end
end Nr
end

section
set_option Elab.async false
set_option linter.all false
set_option maxRecDepth 100000
set_option maxHeartbeats 2000000
/-! X0: an own exception is made whose __init__ says super().__init__(x); self.f = x. -/
namespace PySem
namespace SupX
open PySem.W PySem.Calls PyProof.Rows PySem.HandSPX
/-- the text of __init__: one field -/
def iA (x : Str) (p1 p2 : Pos) : Arguments := { posonlyargs := [], args := [{ arg := "self", annotation := none, pos := p1 }, { arg := x, annotation := none, pos := p2 }], vararg := none, kwonlyargs := [], kw_defaults := [], kwarg := none, defaults := [] }
def iB (x f : Str) (q1 q2 q3 q4 q5 q6 r1 r2 r3 r4 : Pos) : List Stmt := [.Expr (.Call (.Attribute (.Call (.Name "super" q1) [] [] q2) "__init__" q3) [.Name x q4] [] q5) q6, .Assign [.Attribute (.Name "self" r1) f r2] (.Name x r3) r4]
def iS (x : Str) : Scope := { kind := .function, names := [(PySem.Str.ofString "self", .local), (x, .local), (PySem.Str.ofString "__class__", .free), (PySem.Str.ofString "super", .globalImplicit)], isGenerator := false, isCoroutine := false, more := [] }
/-- what the written part says of the class at C and of its __init__ at fI; cc the cell __class__, cda the code -/
structure Txt (prog : Program) (K : Frag) (mg : Str → Option Value) (C fI cc cda : Addr) (x f : Str) : Prop where
  ini : excInitIn K C veTail "ValueError.__new__" = true
  cd : ∃ cd, clsIn K C = some cd ∧ refsVE cd.mro = true ∧ cd.hasDict = true
  sa : findIn K (.ref C) "__setattr__" = some (some (.builtin "object.__setattr__"))
  noN : findIn K (.ref C) f = some none
  iC : findIn K (.ref C) "__init__" = some (some (.ref fI))
  tC : typeIn K (.ref fI) = some (.type "function")
  su : ks_superIn K C C "__init__" = some (some (.builtin "ValueError.__init__"))
  subVE : subIn K (.ref C) (.type "ValueError") = some true
  subC : mroIn K C (.ref C) = some true
  opq : nsIn K cStatics "thirdparty.any" = some none
  sup : mg "super" = none
  cell : ∃ cl cld csl, K.lookup cc = some ⟨cl, cld, .cell (some (.ref C)), csl⟩
  code : ∃ ccl cdd vs ccs file tf, K.lookup cda = some ⟨ccl, cdd, .fields vs, ccs⟩ ∧ vs[2]? = some (.str file tf) ∧ ((prog.main.file : Str) == file) = true
  top : (prog.main.scope.names.lookup ("super" : Str)).isSome = false
  fn : ∃ (oc : Value) (od : Option Addr) (qual : Str) (doc pm : Value) (an : Option Addr) (ct : Value) (osl : Array (Option Value)) (p1 p2 q1 q2 q3 q4 q5 q6 r1 r2 r3 r4 : Pos),
    K.lookup fI = some ⟨oc, od, .func (ksFn "__init__" qual (iA x p1 p2) (iB x f q1 q2 q3 q4 q5 q6 r1 r2 r3 r4) (iS x) .none .none doc pm an (.ref cda) ct cc), osl⟩ ∧ codeIn K (.ref cda) qual = true ∧ (q3.endLine == q5.line) = true
/-- the argument's name is no other of the def's -/
structure XOk (x : Str) : Prop where
  se : (x == ("self" : Str)) = false
  cl : (x == ("__class__" : Str)) = false
  su : (x == ("super" : Str)) = false
  db : (x == ("__debug__" : Str)) = false
  bind : ∀ (qual : Str) (doc pm : Value) (an : Option Addr) (cdv ct : Value) (cc : Addr) (p1 p2 : Pos) (body : List Stmt) (a b : Value), bindArgs (ksFn "__init__" qual (iA x p1 p2) body (iS x) .none .none doc pm an cdv ct cc) ⟨[a, b], []⟩ = pure [(("self" : Str), a), (x, b)]
structure InitEnd (h h' : Heap) (x C dx t1 : Addr) (f : Str) (v : Value) : Prop where
  keep : ∀ b o, b ≠ x → h.get? b = some o → h'.get? b = some o
  obj : h'.get? x = some { cls := .ref C, dict := some dx, data := .fields #[.ref t1, .none, .none, .none, .bool false, .none] }
  dbig : h.objs.size ≤ dx
  dne : dx ≠ x
  ns : h'.Ns1 dx (fun y => if y = f then some v else none)
section
variable {prog : Program} {w : World} {A : Around} {E : Value → Shared → Prop} {R : Result → Shared → Prop} {K : Frag} {mg : Str → Option Value} {C fI cc cda : Addr} {x f : Str} {base : Heap}
theorem env_kind (x qual : Str) (L a : Addr) (cd : Value) (cc : Addr) (o : XOk x) : (ksEnv qual (iS x) L a cd cc).kindOf x = some .local ∧ (ksEnv qual (iS x) L a cd cc).kindOf "self" = some .local ∧ (ksEnv qual (iS x) L a cd cc).kindOf "__class__" = some .free ∧ (ksEnv qual (iS x) L a cd cc).kindOf "super" = some .globalImplicit := by
  have h1 : (x == (PySem.Str.ofString "self")) = false := o.se
  have h1' : ((PySem.Str.ofString "self") == x) = false := by rw [beq_eq_false_iff_ne] at h1 ⊢; exact fun z => h1 z.symm
  have h2 : ((PySem.Str.ofString "__class__") == x) = false := by have := o.cl; rw [beq_eq_false_iff_ne] at this ⊢; exact fun z => this z.symm
  have h3 : ((PySem.Str.ofString "super") == x) = false := by have := o.su; rw [beq_eq_false_iff_ne] at this ⊢; exact fun z => this z.symm
  refine ⟨?_, rfl, ?_, ?_⟩
  · show List.lookup x [(PySem.Str.ofString "self", NameKind.local), (x, .local), (PySem.Str.ofString "__class__", .free), (PySem.Str.ofString "super", .globalImplicit)] = _
    rw [List.lookup_cons, h1, List.lookup_cons, beq_self_eq_true]
  · show List.lookup (PySem.Str.ofString "__class__") [(PySem.Str.ofString "self", NameKind.local), (x, .local), (PySem.Str.ofString "__class__", .free), (PySem.Str.ofString "super", .globalImplicit)] = _
    rw [List.lookup_cons, show ((PySem.Str.ofString "__class__") == (PySem.Str.ofString "self")) = false by decide, List.lookup_cons, h2, List.lookup_cons, beq_self_eq_true]
  · show List.lookup (PySem.Str.ofString "super") [(PySem.Str.ofString "self", NameKind.local), (x, .local), (PySem.Str.ofString "__class__", .free), (PySem.Str.ofString "super", .globalImplicit)] = _
    rw [List.lookup_cons, show ((PySem.Str.ofString "super") == (PySem.Str.ofString "self")) = false by decide, List.lookup_cons, h3, List.lookup_cons, show ((PySem.Str.ofString "super") == (PySem.Str.ofString "__class__")) = false by decide, List.lookup_cons, beq_self_eq_true]
/-- super().__init__(v), the method-wrapper in hand -/
theorem call_mw {s : Shared} {u e t0 : Addr} {v : Value} {Q : Value → Shared → Prop} (T : Txt prog K mg C fI cc cda x f) (X : K.In s.heap) (hu : s.heap.get? u = some (kxs_mw "ValueError.__init__" e)) (he : s.heap.get? e = some (excO C t0))
    (hq : ∀ h' t1, (∀ b o, b ≠ e → s.heap.get? b = some o → h'.get? b = some o) → h'.get? e = some (excO C t1) → Q .none { s with heap := h' }) :
    wpAny (model prog w) A (call (.ref u) [v]) Q E s := by
  obtain ⟨nm, N', qn, bs, bm, hdct, sn, sub, ab, col, dd, k0, k1, k2, k3, k5, hC, hT⟩ := excInit_of X T.ini
  obtain ⟨hh, g, d, tk, os⟩ := s
  refine wpAny_call (codeAny_of_tree ?_)
  show wpAny _ A.in1 (callAny (.ref u) ⟨[v], []⟩) _ _ _
  simp only [callAny]
  refine wpAny_bind (wpAny_load hu ?_)
  simp only [kxs_mw, show (Value.type "method-wrapper" == Value.type "method" || Value.type "method-wrapper" == Value.type "builtin_function_or_method" || Value.type "method-wrapper" == Value.type "method-wrapper") = true by decide, if_true]
  refine KFB.if_so (by decide) ?_
  refine wpAny_bind (check_bound_init F.excBase_ValueError.toExcCallFacts hC he rfl ?_)
  refine wpAny_bind (wpAny_pure (wpAny_pure ?_))
  refine ⟨plainId_quiet F.excBase_ValueError.init.plain _, codeAny_builtin F.excBase_ValueError.initEntry ?_⟩
  refine exc_init_tree (cls := .ref C) (t0 := t0) (dv := none) (c2 := .none) (c3 := .none) (b4 := .bool false) he (by rw [sizeLine_eq]; exact (by decide : 1 ≤ 16777216)) fun h' k e' _ => ?_
  exact hq h' _ k e'
theorem call_form (x : Str) (q1 q2 q3 q4 q5 : Pos) (env : Env) (h : (q3.endLine == q5.line) = true) : eval (.Call (.Attribute (.Call (.Name "super" q1) [] [] q2) "__init__" q3) [.Name x q4] [] q5) env = (do
      let ov ← attributeBase (.Call (.Name "super" q1) [] [] q2) "__init__" env (eval (.Call (.Name "super" q1) [] [] q2) env)
      standAt q3.atName
      let (f, first) ← holding [ov] (getMethod ov "__init__" (do return (← importBound (.Call (.Name "super" q1) [] [] q2) env).getD true))
      callWith q5 f first (backTo q5 (starEach [.Name x q4] env)) []) := by
  rw [arm_eval_Call]
  unfold methodCall methodCallPos
  simp only [h, Bool.or_true, if_true, pure_bind]
  rfl
theorem ns_of {h h' : Heap} {L e : Addr} {m : Str → Option Value} (hn : h.Ns L m) (hne : L ≠ e) (k : ∀ b o, b ≠ e → h.get? b = some o → h'.get? b = some o) : h'.Ns L m := by
  obtain ⟨oL, es, ep, hL, r⟩ := hn
  exact ⟨oL, es, ep, k _ _ hne hL, r⟩
theorem sup_init (T : Txt prog K mg C fI cc cda x f) (ok : XOk x) (M : L2.Mod K mg base) {s : Shared} {e t0 : Addr} {v : Value} (kb : ∀ b o, base.get? b = some o → s.heap.get? b = some o) (he : s.heap.get? e = some (excO C t0)) (hbe : base.get? e = none) (hroom : A.depth < recursionLimit)
    (hq : ∀ h' tk dx t1, InitEnd s.heap h' e C dx t1 f v → R (.ok (.ret .none)) { s with heap := h', toks := tk }) :
    codeAny (model prog w) A (.call (.ref fI) ⟨[.ref e, v], []⟩) R s := by
  obtain ⟨oc, od, qual, doc, pm, an, ct, osl, p1, p2, q1, q2, q3, q4, q5, q6, r1, r2, r3, r4, ho, hcd, hpos⟩ := T.fn
  obtain ⟨cl, cld, csl, hcell⟩ := T.cell
  obtain ⟨ccl, cdd, vs, ccs, file, tf, hcode, hvs, hfile⟩ := T.code
  obtain ⟨cd, hcd1, hcd2, hcd3⟩ := T.cd
  have X : K.In s.heap := M.kin.keeps kb
  refine ks_codeAny_call_defAt (fd := ksFn "__init__" qual (iA x p1 p2) (iB x f q1 q2 q3 q4 q5 q6 r1 r2 r3 r4) (iS x) .none .none doc pm an (.ref cda) ct cc) (body := iB x f q1 q2 q3 q4 q5 q6 r1 r2 r3 r4) (binds := [("self", .ref e), (x, v)]) hroom (X _ _ ho) rfl (M.nolimit.keeps kb) (codeRec_of X hcd) rfl (BindsTo.of_eq ?hb) ?hc ?hl (fun h₁ hns hk₁ => ?_)
  case hb => exact ok.bind _ _ _ _ _ _ _ _ _ _ _ _
  case hc =>
    intro y hy
    simp only [iS, List.mem_cons, List.not_mem_nil, or_false] at hy
    rcases hy with rfl | rfl | rfl | rfl <;> exact fun z => by cases z
  case hl =>
    intro y hy
    simp only [List.mem_cons, List.not_mem_nil, or_false] at hy
    rcases hy with rfl | rfl
    · exact (env_kind x qual 0 0 .none 0 ok).2.1
    · exact (env_kind x qual 0 0 .none 0 ok).1
  obtain ⟨kx, ks, kc, ku⟩ := env_kind x qual s.heap.objs.size fI (.ref cda) cc ok
  have hm1 : ([("self", Value.ref e), (x, v)] : List (Str × Value)).reverse.lookup x = some v := by
    show List.lookup x [(x, v), ("self", .ref e)] = _
    rw [List.lookup_cons, beq_self_eq_true]
  have hm2 : ([("self", Value.ref e), (x, v)] : List (Str × Value)).reverse.lookup ("self" : Str) = some (.ref e) := by
    have h1' : (("self" : Str) == x) = false := by have := ok.se; rw [beq_eq_false_iff_ne] at this ⊢; exact fun z => this z.symm
    show List.lookup ("self" : Str) [(x, v), ("self", .ref e)] = _
    rw [List.lookup_cons, h1', List.lookup_cons, beq_self_eq_true]
  have X₁ : K.In h₁ := X.keeps hk₁
  have he₁ := hk₁ _ _ he
  have hLe : s.heap.objs.size ≠ e := Nat.ne_of_gt (Heap.lt_size he)
  refine ks_wpAt_execs_cons (ks_wpAt_Expr_any (ks_wpAt_MethodCall ?_ (call_form x q1 q2 q3 q4 q5 _ hpos)))
  obtain ⟨oD, hD1, hD2⟩ : ∃ oD, h₁.get? C = some oD ∧ oD.data = .cls cd := by
    unfold clsIn at hcd1
    split at hcd1
    · rename_i c d cd' sl ho
      cases hcd1
      exact ⟨_, X₁ _ _ ho, rfl⟩
    · cases hcd1
  refine ks_wpAt_super_base ku kc rfl rfl (X₁ _ _ ho) rfl (ar := { arg := "self", annotation := none, pos := p1 }) rfl rfl (X₁ _ _ hcode) rfl hvs hfile T.top ?_
  obtain ⟨mb, hb1, hb2⟩ := M.blt
  refine ks_loadName_global rfl ku (loadGlobal_builtin ((M.glob.keeps kb).keeps hk₁) T.sup ((hb1.keeps kb).keeps hk₁) ((hb2 "super" (by decide)).trans PyProof.Rows.Boot.«super») ⟨rfl, ?_⟩)
  refine wpAny_loadName_free rfl kc rfl ⟨_, X₁ _ _ hcell, rfl⟩ ?_
  refine wpAny_loadName_local rfl ks hns hm2 ?_
  refine ks_wpAny_isType_cls hD1 hD2 ⟨rfl, ?_⟩
  refine ks_wpAny_call_super hD1 hD2 he₁ rfl (fun c z => by cases z) (looks_mroIn X₁ T.subC) (fun h₂ e₂ k₂ => ?_)
  have X₂ : K.In h₂ := X₁.keeps k₂
  have he₂ := k₂ _ _ he₁
  have hns₂ : h₂.Ns s.heap.objs.size _ := hns.keeps k₂
  have I₂ : InstAt h₂ e (excO C t0) C none := ⟨he₂, rfl, rfl, trivial⟩
  refine kxs_getMethod kxs_ValueError e₂ (looks_opaque X₂ T.opq) (l₀ := cd.mro) (fun A Q E s k q => wpAny_bind ((looks_clsIn X₂ hcd1) A _ E s k (wpAny_pure q))) rfl X₂ (by have := T.su; unfold ks_superIn at this; rw [hcd1] at this; exact this) (I₂.type.andThen (looks_subIn X₂ T.subVE)) (ks_ne X₂ I₂ hcd1) rfl ?_
  have k₃ : ∀ b o, h₂.get? b = some o → (h₂.push (kxs_mw "ValueError.__init__" e)).get? b = some o := fun b o z => Heap.get?_push_of_some _ z
  have hu₃ : (h₂.push (kxs_mw "ValueError.__init__" e)).get? h₂.objs.size = some (kxs_mw "ValueError.__init__" e) := Heap.get?_push_at rfl rfl
  have he₃ := k₃ _ _ he₂
  have hns₃ := hns₂.keeps k₃
  have X₃ := X₂.keeps k₃
  generalize hh₃ : h₂.push (kxs_mw "ValueError.__init__" e) = h₃ at *
  refine kxs_callWith (i := "ValueError.__init__") (x := e) (by rfl) ?_
  refine evalArgs_plain (spliced_cons ?_)
  refine wpAny_Name (wpAny_loadName_local rfl kx hns₃ hm1 ?_) ok.db
  refine spliced_nil ⟨hu₃, ?_⟩
  refine call_mw T X₃ hu₃ he₃ fun h₄ t1 k₄ he₄ => ?_
  have hns₄ := ns_of hns₃ hLe k₄
  have kk : ∀ b o, b ≠ e → s.heap.get? b = some o → h₄.get? b = some o := fun b o hb z => k₄ b o hb (k₃ _ _ (k₂ _ _ (hk₁ _ _ z)))
  have X₄ : K.In h₄ := fun a o z => kk a o (fun q => by have := M.kin _ _ z; rw [q, hbe] at this; cases this) (X a o z)
  show wpAt _ _ _ (execs [Stmt.Assign [.Attribute (.Name "self" r1) f r2] (.Name x r3) r4] _) _ _ _
  refine wpAt_of_wpAny (wpAny_execs_cons (plainObj_wpAny_Assign_Attribute ?_))
  refine wpAny_Name (wpAny_loadName_local rfl kx hns₄ hm1 ?_) ok.db
  refine wpAny_Name (wpAny_loadName_local rfl ks hns₄ hm2 ?_) (by decide)
  refine set_plain X₄ (ox := excO C t1) (od := none) ⟨he₄, rfl, rfl, trivial⟩ T.sa ?_
  refine exc_osa X₄ he₄ hcd1 hcd2 hcd3 T.noN (fun h₅ tk₅ dx k₅ dn dne he₅ hn₅ => ?_)
  show wpAny _ _ (execs _ _) _ _ _
  refine wpAny_execs_nil (hq h₅ tk₅ dx t1 ⟨fun b o hb z => k₅ b o hb (kk b o hb z), he₅, Nat.le_trans (Nat.le_of_lt hns₄.lt) dn, dne, hn₅⟩)
/-- a made exception -/
structure Made (h h' : Heap) (e C d : Addr) (f : Str) (v : Value) : Prop where
  keep : ∀ b o, h.get? b = some o → h'.get? b = some o
  new : h.objs.size ≤ e
  obj : ∃ oe vs, h'.get? e = some oe ∧ oe.cls = .ref C ∧ oe.dict = some d ∧ oe.data = .fields vs ∧ vs[1]? = some .none
  dbig : h.objs.size ≤ d
  dne : d ≠ e
  ns : h'.Ns1 d (fun y => if y = f then some v else none)
theorem sup_made (T : Txt prog K mg C fI cc cda x f) (ok : XOk x) (M : L2.Mod K mg base) {s : Shared} {v : Value} (kb : ∀ b o, base.get? b = some o → s.heap.get? b = some o) (hroom : A.depth + 1 < recursionLimit)
    (hq : ∀ h' tk e d, Made s.heap h' e C d f v → R (.ok (.ret (.ref e))) { s with heap := h', toks := tk }) :
    codeAny (model prog w) A (.call (.ref C) ⟨[v], []⟩) R s := by
  have X : K.In s.heap := M.kin.keeps kb
  obtain ⟨nm, N', qn, bs, bm, hdct, sn, sub, ab, col, dd, k0, k1, k2, k3, k5, hC, hT⟩ := excInit_of X T.ini
  obtain ⟨hp, g, dr, tk, os⟩ := s
  have k : ∀ b o, hp.get? b = some o → ((hp.push (kdv_tup [v])).push (excO C hp.objs.size)).get? b = some o := fun b o e => Heap.get?_push_of_some _ (Heap.get?_push_of_some _ e)
  have hget : ((hp.push (kdv_tup [v])).push (excO C hp.objs.size)).get? (hp.objs.size + 1) = some (excO C hp.objs.size) := by heap_get
  have hbe : base.get? (hp.objs.size + 1) = none := by
    cases e : base.get? (hp.objs.size + 1) with
    | none => rfl
    | some o =>
      have z : hp.get? (hp.objs.size + 1) = some o := kb _ _ e
      exact absurd (Nat.lt_of_succ_lt (Heap.lt_size z)) (Nat.lt_irrefl _)
  refine call_own F.excBase_ValueError hT hC (looks_findIn X T.iC) (fun self => bind_fn X self T.tC) (by rw [sizeLine_eq]; exact (by decide : 1 ≤ 16777216)) ?_
  refine sup_init (s := ⟨(hp.push (kdv_tup [v])).push (excO C hp.objs.size), g, dr, tk, os⟩) T ok M (fun b o z => k _ _ (kb _ _ z)) hget hbe ?_ fun h' tk' dx t1 ⟨k', hx, dn, dne, hns⟩ => ?_
  · show A.depth + 1 < recursionLimit
    exact hroom
  · have old : ∀ b o, hp.get? b = some o → h'.get? b = some o := fun b o e => k' b o (Nat.ne_of_lt (Nat.lt_succ_of_lt (Heap.lt_size e))) (k b o e)
    have z : hp.objs.size + 1 + 1 ≤ dx := by
      first
        | (simpa only [Heap.size_push] using dn)
        | exact dn
        | (have q := dn; rw [Heap.size_push, Heap.size_push] at q; exact q)
    exact ⟨rfl, hq h' tk' (hp.objs.size + 1) dx ⟨old, Nat.le_succ _, ⟨_, _, hx, rfl, rfl, rfl, rfl⟩, Nat.le_trans (Nat.le_trans (Nat.le_succ _) (Nat.le_succ _)) z, dne, hns⟩⟩
end
theorem xok_index : XOk "index" := ⟨by decide, by decide, by decide, by decide, fun _ _ _ _ _ _ _ _ _ _ _ _ => rfl⟩
theorem xok_limit : XOk "limit" := ⟨by decide, by decide, by decide, by decide, fun _ _ _ _ _ _ _ _ _ _ _ _ => rfl⟩
theorem xok_value : XOk "value" := ⟨by decide, by decide, by decide, by decide, fun _ _ _ _ _ _ _ _ _ _ _ _ => rfl⟩
theorem xok_line : XOk "line" := ⟨by decide, by decide, by decide, by decide, fun _ _ _ _ _ _ _ _ _ _ _ _ => rfl⟩
end SupX
end PySem
end

section
set_option Elab.async false
set_option linter.all false
set_option maxRecDepth 100000
set_option maxHeartbeats 2000000
/-! X1: such an exception in a walk: made, raised. -/
namespace L2
open PySem PySem.Spec PyProof.Rows
theorem relO_one {f0 : Str} {v : V} {v' : Value} (r : RelV v v') (f : Str) : RelO (List.lookup f [(f0, v)]) (if f = f0 then some v' else none) := by
  by_cases hw : f = f0
  · subst hw
    rw [if_pos rfl, List.lookup_cons, beq_self_eq_true]
    exact r
  · rw [if_neg hw]
    have qw : (f == f0) = false := by simpa using hw
    rw [List.lookup_cons, qw]
    trivial
/-- C(e) -/
def tMkS (C : Addr) (f : Str) (ta : TA) : L2.St → Hp → XK → Prop := fun σ H Q => ta σ H fun vs H1 => ∃ v, vs = [v] ∧ ∀ d, H1 d = none → Q (.ref C) (some d) (upd H1 d (.xd [(f, v)]))
section
variable {X : Cx} {C fI cc cda : Addr} {x f nm : Str}
theorem pmk_sup {a : Expr} {ta : TA} {p pos : Pos} {k : Nat} (T : PySem.SupX.Txt X.prog X.K X.mg C fI cc cda x f) (ok : PySem.SupX.XOk x) (gC : X.mg nm = some (.ref C)) (kC : PySem.W.keepIn X.K (.ref C) = true) (exC : PySem.W.subIn X.K (.ref C) (.type "BaseException") = some true) (tyC : PySem.W.typeIn X.K (.ref C) = some (.type "type"))
    (hr : Room (k + 1) X.A) (ha : PA X [a] ta) (hg : Gl X nm) (hdb : (nm == ("__debug__" : Str)) = false)
    (he : starEach (a :: []) X.env = (false, eval a X.env) :: starEach [] X.env) (hpl : (backTo pos (starEach [] X.env)).any (·.1) = false) :
    PMk X (.Call (.Name nm p) [a] [] pos) (tMkS C f ta) := by
  intro pins s σ H Q I h
  refine wpAny_Call_Name_kw (ld_glob I hg gC ?_ hdb)
  refine PySem.W.callWith_K (h₀ := X.base) I.ok.mod.kin kC (thn (ha.run pos pins s σ H _ I h) fun us s1 hh => ?_) he hpl
  obtain ⟨vs, H1, I1, r1, v, ev, q1⟩ := hh
  subst ev
  refine ⟨I1.kIn, ?_⟩
  cases r1 with
  | cons rv rn =>
    rename_i v' us'
    cases rn
    show wpAny _ _ (call (.ref C) [v']) _ _ _
    have M0 := I1.mod
    have bk := I1.bk
    obtain ⟨hp, g, dr, tk, os⟩ := s1
    refine wpAny_call (PySem.SupX.sup_made (s := ⟨hp, g, dr, tk, os⟩) T ok M0 bk (by have := hr.dp; omega) fun h' tk' e d M => ?_)
    show MkP X pins σ Q (.ref e) ⟨h', g, dr, tk', os⟩
    obtain ⟨oe, fv, hoe, hc, hd, hdat, h1⟩ := M.obj
    have hns := M.ns
    obtain ⟨G', g1, g2⟩ := restrict h' fun b => decide (b ≠ e)
    have gk : ∀ b, b ≠ e → G'.get? b = h'.get? b := fun b hb => g1 b (decide_eq_true hb)
    have ge : G'.get? e = none := g2 e (by simp)
    have old : ∀ b o, hp.get? b = some o → G'.get? b = some o := fun b o q => (gk b (Nat.ne_of_lt (Nat.lt_of_lt_of_le (Heap.lt_size q) M.new))).trans (M.keep b o q)
    have ob : ObjOk X.prog X.w (upd H1 d (.xd [(f, v)])) G' d (.xd [(f, v)]) :=
      ⟨_, hns.at (fun o q => (gk d M.dne).trans q), fun f => relO_one rv f⟩
    have J : Inv X pins σ (upd H1 d (.xd [(f, v)])) ⟨G', g, dr, tk', os⟩ := I1.laid (t' := tk') old M.dbig ob
    refine ⟨e, oe, fv, ⟨G', g, dr, tk', os⟩, _, .ref C, some d, rfl, J, fun b o q => ?_, ge, hoe, ⟨hc, hd⟩, hdat, h1, ?_, rfl, I1.bare, raises_own exC tyC, q1 d (I1.hok.fresh M.dbig)⟩
    · by_cases hb : b = e
      · have q' : G'.get? b = some o := q
        rw [hb, ge] at q'; cases q'
      · exact (gk b hb).symm.trans q
    · rw [upd_ne (Ne.symm M.dne)]
      exact I1.hok.fresh M.new
end
end L2
end

section
set_option Elab.async false
set_option linter.all false
set_option maxRecDepth 100000
set_option maxHeartbeats 4000000
/-! E35: the text of an expression is checked against its core. -/
namespace Nr
open PySem PySem.Spec PyProof.Rows L2 PySem.W
structure Ar where
  fn : Nat → Nat
  mth : Nat → Nat
  mkc : Nat → Nat
inductive Md where
  | E | T | S
  deriving DecidableEq
def okM : Md → Expr → Bool
  | .E, _ => true
  | .T, e => plainTest e
  | .S, _ => false
def isCm : Expr → Bool
  | .Compare _ _ _ _ => true
  | _ => false
def isBO : Expr → Bool
  | .BoolOp _ _ _ => true
  | _ => false
def notS : Md → Bool
  | .S => false
  | _ => true
def varB (n : Nm) (sc : Scope) (i : Nat) : Expr → Bool
  | .Name x _ => n.N[i]? == some x && visB sc x && !dbg x
  | _ => false
def slcF : Expr → Option (Expr × Option Expr × Option Expr)
  | .Subscript o (.Slice lo hi none _) _ => some (o, lo, hi)
  | _ => none
def attrF (n : Nm) (f : Nat) : Expr → Option Expr
  | .Attribute o y _ => if y == n.an f && plainBase o then some o else none
  | _ => none
def get3F : Expr → Option (Expr × Expr × Expr)
  | .Call (.Attribute o y ap) [k, d] [] cp => if y == ("get" : Str) && plainBase o && (ap.endLine == cp.line) && noStar k && noStar d then some (o, k, d) else none
  | _ => none
def dnewF : Expr → Bool
  | .Dict [] [] _ => true
  | _ => false
def tupF : Expr → Option (List Expr)
  | .Tuple xs _ _ => some xs
  | _ => none
def lstF : Expr → Option (List Expr)
  | .List xs _ => some xs
  | _ => none
def cmp2F (o p : BOp) : Expr → Option (Expr × Expr × Expr)
  | .Compare a [o', p'] [b, c] _ => match bopCmp o, bopCmp p with
    | some o1, some p1 => if eqCm o1 o' && eqCm p1 p' && noSet b && noSet c then some (a, b, c) else none
    | _, _ => none
  | _ => none
/-- the first of a BoolOp's parts, and the rest -/
def boF (isAnd : Bool) : Expr → Option (Expr × Expr)
  | .BoolOp .And (x :: y :: r) p => if isAnd then some (x, .BoolOp .And (y :: r) p) else none
  | .BoolOp .Or (x :: y :: r) p => if isAnd then none else some (x, .BoolOp .Or (y :: r) p)
  | _ => none
/-- a single part is that part -/
def bo1 : Expr → Expr
  | .BoolOp _ [y] _ => y
  | e => e
def notF : Expr → Option Expr
  | .UnaryOp .Not x _ => some x
  | _ => none
def iteF : Expr → Option (Expr × Expr × Expr)
  | .IfExp c a b _ => some (c, a, b)
  | _ => none
def compF' : Expr → Option (Expr × Expr × Expr × List Expr × Scope)
  | .ListComp ee [⟨tg, it, ifs, 0⟩] scope _ => some (ee, tg, it, ifs, scope)
  | _ => none
def chk (n : Nm) (ar : Ar) : CE → Md → Scope → List Expr → Bool
  | .nil, m, sc, es => (match m with | .S => true | _ => false) && es.isEmpty
  | .cons a b, m, sc, es => match m, es with
    | .S, e :: es => noStar e && chk n ar a .E sc [e] && chk n ar b .S sc es
    | _, _ => false
  | .var i, m, sc, es => match es with
    | [e] => okM m e && varB n sc i e
    | _ => false
  | .cst v, m, sc, es => match es with
    | [e] => okM m e && (cstB n sc v e || conB n sc v e)
    | _ => false
  | .una op a, m, sc, es => match es with
    | [e] => (okM m e || isCm e && notS m) && (match unaF n sc op e with
      | some x => chk n ar a .E sc [x]
      | none => false)
    | _ => false
  | .bin op a b, m, sc, es => match es with
    | [e] => (okM m e || isCm e && notS m) && (match binF n sc op e with
      | some (x, y) => chk n ar a .E sc [x] && chk n ar b .E sc [y]
      | none => false)
    | _ => false
  | .slc a lo hi, m, sc, es => match es with
    | [e] => okM m e && (match slcF e with
      | some (o, l, h) => chk n ar a .E sc [o] && (match l with
        | none => isNonC lo
        | some l => !isNonC lo && chk n ar lo .E sc [l]) && (match h with
        | none => isNonC hi
        | some h => !isNonC hi && chk n ar hi .E sc [h])
      | none => false)
    | _ => false
  | .get3 a k d, m, sc, es => match es with
    | [e] => okM m e && (match get3F e with
      | some (o, k', d') => chk n ar a .E sc [o] && chk n ar k .E sc [k'] && chk n ar d .E sc [d']
      | none => false)
    | _ => false
  | .tup xs, m, sc, es => match es with
    | [e] => okM m e && decide (lenE xs ≤ 1000) && (match tupF e with
      | some ys => chk n ar xs .S sc ys
      | none => false)
    | _ => false
  | .lst xs, m, sc, es => match es with
    | [e] => okM m e && decide (lenE xs ≤ 1000) && (match lstF e with
      | some ys => chk n ar xs .S sc ys
      | none => false)
    | _ => false
  | .dct xs, m, sc, es => match es with
    | [e] => okM m e && dnewF e && (match xs with
      | .nil => true
      | _ => false)
    | _ => false
  | .and a b, m, sc, es => match es with
    | [e] => notS m && (match boF true e with
      | some (x, r) => chk n ar a m sc [x] && chk n ar b m sc [bo1 r]
      | none => false)
    | _ => false
  | .or a b, m, sc, es => match es with
    | [e] => notS m && (match boF false e with
      | some (x, r) => chk n ar a m sc [x] && chk n ar b m sc [bo1 r]
      | none => false)
    | _ => false
  | .not a, m, sc, es => match es with
    | [e] => notS m && (match notF e with
      | some x => chk n ar a m sc [x]
      | none => false)
    | _ => false
  | .ite c a b, m, sc, es => match es with
    | [e] => notS m && (match iteF e with
      | some (x, y, z) => chk n ar c .T sc [x] && chk n ar a m sc [y] && chk n ar b m sc [z]
      | none => false)
    | _ => false
  | .cmp2 o p a b c, m, sc, es => match es with
    | [e] => notS m && (match cmp2F o p e with
      | some (x, y, z) => chk n ar a .E sc [x] && chk n ar b .E sc [y] && chk n ar c .E sc [z]
      | none => false)
    | _ => false
  | .attr a f, m, sc, es => match es with
    | [e] => okM m e && (match attrF n f e with
      | some o => chk n ar a .E sc [o]
      | none => false)
    | _ => false
  | .eattr i f, m, sc, es => match es with
    | [.Attribute (.Name x p) y q] => okM m (.Attribute (.Name x p) y q) && !n.cm && n.exf f && (y == n.an f) && varB n sc i (.Name x p)
    | _ => false
  | .call f xs, m, sc, es => match es with
    | [e] => okM m e && (lenE xs == ar.fn f) && (match callF n sc f e with
      | some ys => chk n ar xs .S sc ys && n.cm
      | none => false)
    | _ => false
  | .meth q a xs, m, sc, es => match es with
    | [e] => okM m e && (lenE xs + 1 == ar.mth q) && (match methF n sc q e with
      | some (o, ys) => chk n ar a .E sc [o] && chk n ar xs .S sc ys && n.cm
      | none => false)
    | _ => false
  | .mk c xs, m, sc, es => match es with
    | [e] => okM m e && (lenE xs + 1 == ar.mkc c) && (match mkF n sc c e with
      | some ys => chk n ar xs .S sc ys && (n.cln c).isSome && n.cm
      | none => false)
    | _ => false
  | .comp fz t ik src cond elt, m, sc, es => match es with
    | [e] => okM m e && n.cm && (match compF' e with
      | some (ee, tg, it, ifs, scope) => tgF n scope t tg && tgIk t ik && noSet it && blkC n.N sc scope (ownOf n.N (tgVars t)) && (match itArgs n sc ik tg it with
        | some ys => chk n ar src .S sc ys
        | none => false) && (match ifs with
        | [] => isYes cond
        | [c] => !isYes cond && chk n ar cond .T (relS scope sc) [c]
        | _ => false) && chk n ar elt .E (relS scope sc) [ee]
      | none => false)
    | _ => false
  | .mkseq tp ik xs, m, sc, es => match es with
    | [e] => okM m e && !tp && (match seqF n sc ik e with
      | some ys => chk n ar xs .S sc ys
      | none => false)
    | _ => false
  | .pop a xs, m, sc, es => match es with
    | [e] => okM m e && (match popF e with
      | some (o, ys) => chk n ar a .E sc [o] && chk n ar xs .S sc ys
      | none => false)
    | _ => false
  | .isa a ts, m, sc, es => match es with
    | [e] => okM m e && (match isaF n sc ts e with
      | some x => chk n ar a .E sc [x]
      | none => false)
    | _ => false
  | .cell a, m, sc, es => match es with
    | [e] => okM m e && chk n ar a .E sc [e]
    | _ => false
  | _, _, _, _ => false
structure Eng (I : Inf) (n : Nm) (T : Tab) (cf : CallF) (ar : Ar) (k : Nat) : Prop where
  eqm : ∀ c, T.eqm c = none
  lnm : ∀ c, T.lnm c = none
  cls : ClsFa I T
  fn : ∀ f x, n.fnn f = some x → FnFa I cf k f (ar.fn f) ∧ I.mg x = some (.ref (I.fad f))
  mth : n.cm = true → ∀ m c f, T.mth c m = some f → MthFa I T c m f ∧ FnFa I cf k f (ar.mth m)
  mkc : ∀ c x, n.cln c = some x → (∃ f, IniFa I cf k c f (ar.mkc c)) ∧ I.mg x = some (.ref (I.cad c))
  mn : ∀ m, I.mn m = n.mn m
  /-- exceptions: what is raised, what is caught -/
  cur : n.cm = true → I.cur = none
  rse : ∀ c x, n.rsn c = true → n.exn c = some x → ∃ f fI cc cda xn, T.exc c = some [f] ∧ PySem.SupX.Txt I.P I.K I.mg (I.cad c) fI cc cda xn (I.an f) ∧ PySem.SupX.XOk xn ∧ PySem.W.keepIn I.K (.ref (I.cad c)) = true ∧ PySem.W.subIn I.K (.ref (I.cad c)) (.type "BaseException") = some true ∧ PySem.W.typeIn I.K (.ref (I.cad c)) = some (.type "type")
  exn : ∀ c x, n.exn c = some x → I.mg x = some (.ref (I.cad c)) ∧ (x == ("__debug__" : Str)) = false
  exm : ∀ e fs c x, T.exc e = some fs → n.exn c = some x → PySem.W.exmOne I.K (.ref (I.cad e)) (.ref (I.cad c)) = some (T.isExc e c)
  xf : ∀ e fs, T.exc e = some fs → XfC I.K (I.cad e) ∧ ∀ f, n.exf f = true → PySem.W.findIn I.K (.ref (I.cad e)) (I.an f) = some none
def Wants (I : Inf) (W : WX) (T : Tab) (cf : CallF) (X : Cx) (c : CE) (m : Md) (es : List Expr) : Prop := match m with
  | .S => PA X es (tEvs I W (evalEs T cf c)) ∧ (∀ l, es = [l] → ∃ te, PE X l te ∧ ∀ σ H Q, tEvs I W (evalEs T cf c) σ H Q → te σ H fun x H1 => Q [x] H1) ∧ (es = [] → c = .nil)
  | .E => ∀ e, es = [e] → PE X e (tEv I W (evalE T cf c))
  | .T => ∀ e, es = [e] → PT X e (tB (tEv I W (evalE T cf c))) ∧ (isBO e = true → PW X e (tB (tEv I W (evalE T cf c))))
section
variable {I : Inf} {W : WX} {T : Tab} {cf : CallF} {n : Nm} {X : Cx} {ar : Ar} {k : Nat}
theorem wants_pe {c : CE} {m : Md} {e : Expr} (h : okM m e = true) (p : PE X e (tEv I W (evalE T cf c))) : Wants I W T cf X c m [e] := by
  cases m with
  | E => intro e' q; cases q; exact p
  | T =>
    intro e' q
    cases q
    refine ⟨pt_val p (plainTest_ok h), fun hb => ?_⟩
    cases e <;> first | (cases hb; done) | (cases h; done)
  | S => cases h
theorem wants_cm {c : CE} {m : Md} {e : Expr} (h : (okM m e || isCm e && notS m) = true) (p : PE X e (tEv I W (evalE T cf c))) (t : isCm e = true → PT X e (tB (tEv I W (evalE T cf c)))) : Wants I W T cf X c m [e] := by
  cases m with
  | E => intro e' q; cases q; exact p
  | T =>
    intro e' q
    cases q
    cases hc : isCm e with
    | true => exact ⟨t hc, fun hb => by cases e <;> first | (cases hb; done) | (cases hc; done)⟩
    | false =>
      rw [hc] at h
      have h : plainTest e = true := by
        have h : (plainTest e || false) = true := h
        simpa using h
      refine ⟨pt_val p (plainTest_ok h), fun hb => ?_⟩
      cases e <;> first | (cases hb; done) | (cases h; done)
  | S =>
    have : (false || isCm e && false) = true := h
    simp at this
theorem pt_una (hT : ∀ c, T.lnm c = none) (g : Good I n X) {op : UOp} {a : CE} {e x : Expr} (hu : unaF n X.env.scope op e = some x) (hx : PE X x (tEv I W (evalE T cf a))) (hc : isCm e = true) : PT X e (tB (tEv I W (evalE T cf (.una op a)))) := by
  cases op with
  | isNone =>
    unfold unaF at hu
    dsimp only at hu
    split at hu
    · cases hu
      exact (pt_cmp (pc_isN hx)).imp fun σ H Q q => tEv_una (r := fun x H Q => Q (.bl (decide (x = .non))) H) (fun _ _ _ _ _ _ _ _ R P => una_isNone R P) q
    · cases hu
  | notNone =>
    unfold unaF at hu
    dsimp only at hu
    split at hu
    · cases hu
      exact (pt_cmp (pc_notN hx)).imp fun σ H Q q => tEv_una (r := fun x H Q => Q (.bl (!decide (x = .non))) H) (fun _ _ _ _ _ _ _ _ R P => una_notNone R P) q
    · cases hu
  | neg => exfalso; cases e <;> first | (cases hc; done) | (cases hu; done)
  | rev => exfalso; cases e <;> first | (cases hc; done) | (cases hu; done)
  | lenset => exfalso; cases e <;> first | (cases hc; done) | (cases hu; done)
  | _ => exfalso; cases e <;> first | (cases hc; done) | (cases hu; done)
theorem pt_bin (hT : ∀ c, T.eqm c = none) (g : Good I n X) {op : BOp} {a b : CE} {e x y : Expr} (hu : binF n X.env.scope op e = some (x, y)) (hx : PE X x (tEv I W (evalE T cf a))) (hy : PE X y (tEv I W (evalE T cf b))) (hc : isCm e = true) : PT X e (tB (tEv I W (evalE T cf (.bin op a b)))) := by
  have hun := g.un
  have hK := g.pK
  unfold binF at hu
  split at hu
  · cases hc
  · split at hu
    · rename_i o' ho'
      split at hu
      · rename_i he
        cases hu
        rw [Bool.and_eq_true] at he
        have he2 := eqCm_ok he.1
        subst he2
        have hb : bopBin op ≠ none ∨ bopCmp op ≠ none ∨ isIdx op = true := .inr (.inl (by rw [ho']; simp))
        refine (pt_cmpR (op_cmpB g ho') hx hy (noSet_mark he.2 _)).imp fun σ H Q q => ?_
        rw [hK]
        exact tEv_bin (recvOk_of hb) (fun _ _ _ _ _ _ _ _ _ _ R P => rBin_ok hT hb R P) q
      · cases hu
    · cases hu
  · cases hc
  · cases hc
  · cases hc
  · cases hu
theorem pt_pw {e : Expr} {t : TT} (h : PW X e t) : PT X e t := ⟨fun pins s σ H Q I q => h.run _ pins s σ H Q I q⟩

theorem band {a b : Bool} (h : (a && b) = true) : a = true ∧ b = true := by rwa [Bool.and_eq_true] at h
theorem wants_nil {c : CE} {m : Md} (h : chk n ar c m X.env.scope [] = true) : c = .nil := by
  cases c <;> first | rfl | (exfalso; cases m <;> cases h)
theorem boF_ok {b : Bool} {e x r : Expr} (h : boF b e = some (x, r)) : ∃ y ys p, (b = true → e = .BoolOp .And (x :: y :: ys) p ∧ r = .BoolOp .And (y :: ys) p) ∧ (b = false → e = .BoolOp .Or (x :: y :: ys) p ∧ r = .BoolOp .Or (y :: ys) p) := by
  unfold boF at h
  split at h
  · split at h
    · rename_i hb
      cases h
      exact ⟨_, _, _, fun _ => ⟨rfl, rfl⟩, fun z => by rw [hb] at z; cases z⟩
    · cases h
  · split at h
    · cases h
    · rename_i hb
      cases h
      exact ⟨_, _, _, fun z => absurd z hb, fun _ => ⟨rfl, rfl⟩⟩
  · cases h
theorem cmp2F_ok {o p : BOp} {e a b c : Expr} (h : cmp2F o p e = some (a, b, c)) : ∃ o1 p1 q, bopCmp o = some o1 ∧ bopCmp p = some p1 ∧ e = .Compare a [o1, p1] [b, c] q ∧ noSet b = true ∧ noSet c = true := by
  unfold cmp2F at h
  split at h
  · split at h
    · rename_i o1 p1 h1 h2
      split at h
      · rename_i hc
        cases h
        obtain ⟨hc, c4⟩ := band hc
        obtain ⟨hc, c3⟩ := band hc
        obtain ⟨c1, c2⟩ := band hc
        have e1 := eqCm_ok c1
        have e2 := eqCm_ok c2
        subst e1 e2
        exact ⟨_, _, _, h1, h2, rfl, c3, c4⟩
      · cases h
    · cases h
  · cases h
theorem s_chk (E : Eng I n T cf ar k) : ∀ (c : CE) (m : Md) (W : WX) (X : Cx) (es : List Expr), Good I n X → (n.cm = true → Room (k + 1) X.A) → Takes X W → chk n ar c m X.env.scope es = true → Wants I W T cf X c m es := by
  intro c
  induction c with
  | nil =>
    intro m W X es g hr tk h
    cases m with
    | S =>
      cases es with
      | nil => exact ⟨s_nil, fun l e => (by cases e), fun _ => rfl⟩
      | cons a b => cases h
    | E => cases h
    | T => cases h
  | cons a b iha ihb =>
    intro m W X es g hr tk h
    cases m with
    | S =>
      cases es with
      | nil => cases h
      | cons e es =>
        have h : (noStar e && chk n ar a .E X.env.scope [e] && chk n ar b .S X.env.scope es) = true := h
        obtain ⟨h, h3⟩ := band h
        obtain ⟨h1, h2⟩ := band h
        have ha := iha .E W X [e] g hr tk h2 e rfl
        have hb := ihb .S W X es g hr tk h3
        refine ⟨s_cons h1 ha hb.1, fun l q => ?_, fun q => by cases q⟩
        cases q
        refine ⟨_, ha, fun σ H Q q => ?_⟩
        have e := hb.2.2 rfl
        subst e
        obtain ⟨fr, hs, F, L, s, R, P⟩ := tEvs_cons q
        refine ⟨fr, hs, F, L, s, R, ?_⟩
        cases he : evalE T cf a s with
        | ok r s1 => rw [he] at P; exact fun F1 L1 H1 v R1 => tEvs_nil (P F1 L1 H1 v R1)
        | ex z s1 => rw [he] at P; exact P
        | bad => rw [he] at P; exact P
    | E => cases h
    | T => cases h
  | var i =>
    intro m W X es g hr tk h
    unfold chk at h
    split at h
    · obtain ⟨h1, h2⟩ := band h
      refine wants_pe h1 ?_
      unfold varB at h2
      split at h2
      · obtain ⟨h2, h3⟩ := band h2
        obtain ⟨h2, h4⟩ := band h2
        exact s_var g (eq_of_beq h2) h4 h3
      · cases h2
    · cases h
  | cst v =>
    intro m W X es g hr tk h
    unfold chk at h
    split at h
    · obtain ⟨h1, h2⟩ := band h
      refine wants_pe h1 ?_
      rw [Bool.or_eq_true] at h2
      rcases h2 with h2 | h2
      · exact s_cst h2
      · exact s_con g h2
    · cases h
  | una op a iha =>
    intro m W X es g hr tk h
    unfold chk at h
    split at h
    · obtain ⟨h1, h2⟩ := band h
      split at h2
      · rename_i x hu
        have ha := iha .E W X [x] g hr tk h2 x rfl
        exact wants_cm h1 (s_una E.lnm g hu ha) fun hc => pt_una E.lnm g hu ha hc
      · cases h2
    · cases h
  | bin op a b iha ihb =>
    intro m W X es g hr tk h
    unfold chk at h
    split at h
    · obtain ⟨h1, h2⟩ := band h
      split at h2
      · rename_i x y hu
        obtain ⟨h2, h3⟩ := band h2
        have ha := iha .E W X [x] g hr tk h2 x rfl
        have hb := ihb .E W X [y] g hr tk h3 y rfl
        exact wants_cm h1 (s_bin E.eqm g hu ha hb) fun hc => pt_bin E.eqm g hu ha hb hc
      · cases h2
    · cases h
  | slc a lo hi iha ihl ihh =>
    intro m W X es g hr tk h
    unfold chk at h
    split at h
    · obtain ⟨h1, h2⟩ := band h
      split at h2
      · rename_i e0 o l u hu
        obtain ⟨h2, h4⟩ := band h2
        obtain ⟨h2, h3⟩ := band h2
        have ha := iha .E W X [o] g hr tk h2 o rfl
        refine wants_pe h1 ?_
        unfold slcF at hu
        split at hu
        · cases hu
          refine (pe_slice sl_B ha (s_pt (I := I) (W := W) (T := T) (cf := cf) (c := lo) (fun z => ?_) (fun z => ?_)) (s_pt (I := I) (W := W) (T := T) (cf := cf) (c := hi) (fun z => ?_) (fun z => ?_))).imp fun σ H Q q => ?_
          · cases l with
            | none => rfl
            | some l =>
              obtain ⟨h5, _⟩ := band h3
              rw [z] at h5; cases h5
          · cases l with
            | none => rw [z] at h3; cases h3
            | some l =>
              obtain ⟨_, h5⟩ := band h3
              exact ⟨l, rfl, ihl .E W X [l] g hr tk h5 l rfl⟩
          · cases u with
            | none => rfl
            | some l =>
              obtain ⟨h5, _⟩ := band h4
              rw [z] at h5; cases h5
          · cases u with
            | none => rw [z] at h4; cases h4
            | some l =>
              obtain ⟨_, h5⟩ := band h4
              exact ⟨l, rfl, ihh .E W X [l] g hr tk h5 l rfl⟩
          · rw [g.pK]
            exact tEv_slc q
        · cases hu
      · cases h2
    · cases h
  | get3 a k' d iha ihk ihd =>
    intro m W X es g hr tk h
    unfold chk at h
    split at h
    · obtain ⟨h1, h2⟩ := band h
      split at h2
      · rename_i e0 o k2 d2 hu
        obtain ⟨h2, h4⟩ := band h2
        obtain ⟨h2, h3⟩ := band h2
        have ha := iha .E W X [o] g hr tk h2 o rfl
        have hk := ihk .E W X [k2] g hr tk h3 k2 rfl
        have hd := ihd .E W X [d2] g hr tk h4 d2 rfl
        refine wants_pe h1 ?_
        unfold get3F at hu
        split at hu
        · split at hu
          · rename_i hb
            cases hu
            obtain ⟨hb, b5⟩ := band hb
            obtain ⟨hb, b4⟩ := band hb
            obtain ⟨hb, b3⟩ := band hb
            obtain ⟨b1, b2⟩ := band hb
            have hm := eq_of_beq b1
            subst hm
            refine (pe_dget2 (by have := g.un; omega) ha hk hd ⟨plainBase_ok b2, ?_, b3, ?_⟩).imp fun σ H Q q => tEv_get3 q
            · rw [noStar_all (by simp [b4, b5])]; rfl
            · rw [noStar_each b4, noStar_each b5]; rfl
          · cases hu
        · cases hu
      · cases h2
    · cases h
  | tup xs ih =>
    intro m W X es g hr tk h
    unfold chk at h
    split at h
    · obtain ⟨h, h3⟩ := band h
      obtain ⟨h1, h2⟩ := band h
      split at h3
      · rename_i e0 ys hu
        have hx := ih .S W X ys g hr tk h3
        refine wants_pe h1 ?_
        unfold tupF at hu
        split at hu
        · cases hu
          exact s_tup (of_decide_eq_true h2) hx.1
        · cases hu
      · cases h3
    · cases h
  | lst xs ih =>
    intro m W X es g hr tk h
    unfold chk at h
    split at h
    · obtain ⟨h, h3⟩ := band h
      obtain ⟨h1, h2⟩ := band h
      split at h3
      · rename_i e0 ys hu
        have hx := ih .S W X ys g hr tk h3
        refine wants_pe h1 ?_
        unfold lstF at hu
        split at hu
        · cases hu
          exact s_lst (of_decide_eq_true h2) hx.1
        · cases hu
      · cases h3
    · cases h
  | dct xs ih =>
    intro m W X es g hr tk h
    unfold chk at h
    split at h
    · obtain ⟨h, h3⟩ := band h
      obtain ⟨h1, h2⟩ := band h
      split at h3
      · refine wants_pe h1 ?_
        unfold dnewF at h2
        split at h2
        · exact pe_dnewK.imp fun σ H Q q => tEv_dnew q
        · cases h2
      · cases h3
    · cases h
  | and a b iha ihb =>
    intro m W X es g hr tk h
    unfold chk at h
    split at h
    · obtain ⟨h1, h2⟩ := band h
      split at h2
      · rename_i e0 x r hu
        obtain ⟨h2, h3⟩ := band h2
        obtain ⟨y, ys, p, hk, -⟩ := boF_ok hu
        obtain ⟨e1, e2⟩ := hk rfl
        clear hk
        have ha := iha m W X [x] g hr tk h2
        have hb := ihb m W X _ g hr tk h3
        clear h h2 h3 hu
        subst e1 e2
        cases m with
        | S => cases h1
        | E =>
          intro e' q
          cases q
          have ha := ha x rfl
          have hb : PE X (.BoolOp .And (y :: ys) p) (tEv I W (evalE T cf b)) := by
            cases ys with
            | nil => exact pe_one (hb y rfl)
            | cons z zs => exact hb _ rfl
          exact (pe_and ha hb).imp fun σ H Q q => tEv_and q
        | T =>
          intro e' q
          cases q
          have ha := ha x rfl
          have hb : PW X (.BoolOp .And (y :: ys) p) (tB (tEv I W (evalE T cf b))) := by
            cases ys with
            | nil => exact pw_and1 (hb y rfl).1
            | cons z zs => exact (hb _ rfl).2 rfl
          have hw := (pw_and ha.1 hb).imp (t' := tB (tEv I W (evalE T cf (.and a b)))) fun σ H Q q => tB_and q
          exact ⟨pt_pw hw, fun _ => hw⟩
      · cases h2
    · cases h
  | or a b iha ihb =>
    intro m W X es g hr tk h
    unfold chk at h
    split at h
    · obtain ⟨h1, h2⟩ := band h
      split at h2
      · rename_i e0 x r hu
        obtain ⟨h2, h3⟩ := band h2
        obtain ⟨y, ys, p, -, hk⟩ := boF_ok hu
        obtain ⟨e1, e2⟩ := hk rfl
        clear hk
        have ha := iha m W X [x] g hr tk h2
        have hb := ihb m W X _ g hr tk h3
        clear h h2 h3 hu
        subst e1 e2
        cases m with
        | S => cases h1
        | E =>
          intro e' q
          cases q
          have ha := ha x rfl
          have hb : PE X (.BoolOp .Or (y :: ys) p) (tEv I W (evalE T cf b)) := by
            cases ys with
            | nil => exact pe_one (hb y rfl)
            | cons z zs => exact hb _ rfl
          exact (pe_or ha hb).imp fun σ H Q q => tEv_or q
        | T =>
          intro e' q
          cases q
          have ha := ha x rfl
          have hb : PW X (.BoolOp .Or (y :: ys) p) (tB (tEv I W (evalE T cf b))) := by
            cases ys with
            | nil => exact pw_or1 (hb y rfl).1
            | cons z zs => exact (hb _ rfl).2 rfl
          have hw := (pw_or ha.1 hb).imp (t' := tB (tEv I W (evalE T cf (.or a b)))) fun σ H Q q => tB_or q
          exact ⟨pt_pw hw, fun _ => hw⟩
      · cases h2
    · cases h
  | not a iha =>
    intro m W X es g hr tk h
    unfold chk at h
    split at h
    · obtain ⟨h1, h2⟩ := band h
      split at h2
      · rename_i e0 x hu
        have ha := iha m W X [x] g hr tk h2
        unfold notF at hu
        split at hu
        · cases hu
          cases m with
          | S => cases h1
          | E =>
            intro e' q
            cases q
            exact (pe_not (ha x rfl)).imp fun σ H Q q => tEv_not q
          | T =>
            intro e' q
            cases q
            exact ⟨(pt_not (ha x rfl).1).imp fun σ H Q q => tB_not q, fun hb => by cases hb⟩
        · cases hu
      · cases h2
    · cases h
  | ite c a b ihc iha ihb =>
    intro m W X es g hr tk h
    unfold chk at h
    split at h
    · obtain ⟨h1, h2⟩ := band h
      split at h2
      · rename_i e0 x y z hu
        obtain ⟨h2, h4⟩ := band h2
        obtain ⟨h2, h3⟩ := band h2
        have hc := (ihc .T W X [x] g hr tk h2 x rfl).1
        have ha := iha m W X [y] g hr tk h3
        have hb := ihb m W X [z] g hr tk h4
        unfold iteF at hu
        split at hu
        · cases hu
          cases m with
          | S => cases h1
          | E =>
            intro e' q
            cases q
            exact (pe_ifExp hc (ha y rfl) (hb z rfl)).imp fun σ H Q q => tEv_ite q
          | T =>
            intro e' q
            cases q
            refine ⟨(pt_ifExp hc (ha y rfl).1 (hb z rfl).1).imp fun σ H Q q => ?_, fun hb => by cases hb⟩
            have q := tEv_ite q
            obtain ⟨fr, hs, F, L, s, R, P⟩ := q
            refine ⟨fr, hs, F, L, s, R, ?_⟩
            cases e : evalE T cf c s with
            | ex w s1 => rw [e] at P; exact P
            | bad => rw [e] at P; exact P
            | ok r s1 =>
              rw [e] at P
              intro F1 L1 H1 v R1
              obtain ⟨k, e1, q⟩ := P F1 L1 H1 v R1
              refine ⟨k, e1, ?_⟩
              cases k with
              | true => exact q
              | false => exact q
        · cases hu
      · cases h2
    · cases h
  | cmp2 o p a b c iha ihb ihc =>
    intro m W X es g hr tk h
    unfold chk at h
    split at h
    · obtain ⟨h1, h2⟩ := band h
      split at h2
      · rename_i e0 x y z hu
        obtain ⟨h2, h4⟩ := band h2
        obtain ⟨h2, h3⟩ := band h2
        have ha := iha .E W X [x] g hr tk h2 x rfl
        have hb := ihb .E W X [y] g hr tk h3 y rfl
        have hc := ihc .E W X [z] g hr tk h4 z rfl
        obtain ⟨o1, p1, q, b1, b2, e1, n1, n2⟩ := cmp2F_ok hu
        subst e1
        have hm : lastMarks [o1, p1] [y, z] = false := noSet_mark n2 p1
        have kk : ∀ σ H Q, tEv I W (evalE T cf (.cmp2 o p a b c)) σ H Q → tChain (rBin X.K o) (rBin X.K p) (tEv I W (evalE T cf a)) (tEv I W (evalE T cf b)) (tEv I W (evalE T cf c)) σ H Q := fun σ H Q q => by
          rw [g.pK]
          exact tEv_cmp2 E.eqm (by rw [b1]; simp) (by rw [b2]; simp) q
        cases m with
        | S => cases h1
        | E =>
          intro e' q
          cases q
          exact (pe_chain (op_cmpB g b1) (op_cmpB g b2) ha hb hc hm).imp kk
        | T =>
          intro e' q
          cases q
          exact ⟨(pt_chain (op_cmpB g b1) (op_cmpB g b2) ha hb hc hm).imp fun σ H Q q => kk _ _ _ q, fun hb => by cases hb⟩
      · cases h2
    · cases h
  | attr a f iha =>
    intro m W X es g hr tk h
    unfold chk at h
    split at h
    · obtain ⟨h1, h2⟩ := band h
      split at h2
      · rename_i e0 o hu
        have ha := iha .E W X [o] g hr tk h2 o rfl
        refine wants_pe h1 ?_
        unfold attrF at hu
        split at hu
        · split at hu
          · rename_i hb
            cases hu
            obtain ⟨b1, b2⟩ := band hb
            have b1 := eq_of_beq b1
            subst b1
            refine (pe_fld ha (plainBase_ok b2)).imp fun σ H Q q => ?_
            rw [g.pK, ← g.an f]
            exact tEv_attr E.cls q
          · cases hu
        · cases hu
      · cases h2
    · cases h
  | call f xs ih =>
    intro m W X es g hr tk h
    unfold chk at h
    split at h
    · obtain ⟨h, h3⟩ := band h
      obtain ⟨h1, h2⟩ := band h
      split at h3
      · rename_i e0 ys hu
        obtain ⟨h3, hcm⟩ := band h3
        have hx := ih .S W X ys g hr tk h3
        have hl := eq_of_beq h2
        refine wants_pe h1 ?_
        cases hf : n.fnn f with
        | none =>
          exfalso
          unfold callF at hu
          split at hu
          · rw [hf] at hu; cases hu
          · cases hu
        | some x =>
          obtain ⟨ff, fm⟩ := E.fn f x hf
          rw [← hl] at ff
          exact s_call g ((hr hcm).mono (Nat.le_succ _)) tk ff (fun x' hx' => by rw [hf] at hx'; cases hx'; exact fm) hu hx.1 hx.2.2
      · cases h3
    · cases h
  | meth q a xs iha ih =>
    intro m W X es g hr tk h
    unfold chk at h
    split at h
    · obtain ⟨h, h3⟩ := band h
      obtain ⟨h1, h2⟩ := band h
      split at h3
      · rename_i e0 o ys hu
        obtain ⟨h3, hcm⟩ := band h3
        obtain ⟨h3, h4⟩ := band h3
        have ha := iha .E W X [o] g hr tk h3 o rfl
        have hx := ih .S W X ys g hr tk h4
        have hl := eq_of_beq h2
        refine wants_pe h1 ?_
        exact s_meth g E.mn ((hr hcm).mono (Nat.le_succ _)) tk (fun c f z => by rw [hl]; exact E.mth hcm q c f z) hu ha hx.1 hx.2.2
      · cases h3
    · cases h
  | mk c xs ih =>
    intro m W X es g hr tk h
    unfold chk at h
    split at h
    · obtain ⟨h, h3⟩ := band h
      obtain ⟨h1, h2⟩ := band h
      split at h3
      · rename_i e0 ys hu
        obtain ⟨h3, hcm⟩ := band h3
        obtain ⟨h3, h4⟩ := band h3
        have hx := ih .S W X ys g hr tk h3
        have hl := eq_of_beq h2
        refine wants_pe h1 ?_
        obtain ⟨x, hf⟩ := Option.isSome_iff_exists.mp h4
        obtain ⟨⟨f, ff⟩, fm⟩ := E.mkc c x hf
        rw [← hl] at ff
        exact s_mk g (hr hcm) tk ff (fun x' hx' => by rw [hf] at hx'; cases hx'; exact fm) hu hx.1 hx.2.2
      · cases h3
    · cases h
  | comp fz t ik src cond elt ihs ihc ihe =>
    intro m W X es g hr tk h
    unfold chk at h
    split at h
    · obtain ⟨h, h3⟩ := band h
      obtain ⟨h1, h2⟩ := band h
      split at h3
      · rename_i e0 ee tg it ifs scope hu
        obtain ⟨h3, k7⟩ := band h3
        obtain ⟨h3, k6⟩ := band h3
        obtain ⟨h3, k5⟩ := band h3
        obtain ⟨h3, k4⟩ := band h3
        obtain ⟨h3, k3⟩ := band h3
        obtain ⟨k1, k2⟩ := band h3
        split at k5
        · rename_i ys hi
          have hs := ihs .S W X ys g hr tk k5
          refine wants_pe h1 ?_
          unfold compF' at hu
          split at hu
          · cases hu
            refine s_comp g h2 k1 k2 hi k3 k4 hs.1 (fun l e _ => hs.2.1 l e) (fun s H C cl fp => ?_) (fun s H C cl fp => ?_)
            · split at k6
              · unfold ttOf
                rw [if_pos k6]
                exact pts_nil
              · obtain ⟨k6, k8⟩ := band k6
                unfold ttOf
                rw [if_neg (by simpa using k6)]
                exact pts_one (ihc .T Wn (X.blk s H scope (compEnvC scope cl C X.env) fp) _ (good_blk h2 g s H scope C cl fp) hr takes_none5 k8 _ rfl).1
              · cases k6
            · exact ihe .E Wn (X.blk s H scope (compEnvC scope cl C X.env) fp) [ee] (good_blk h2 g s H scope C cl fp) hr takes_none5 k7 ee rfl
          · cases hu
        · cases k5
      · cases h3
    · cases h
  | mkseq tp ik xs ih =>
    intro m W X es g hr tk h
    unfold chk at h
    split at h
    · obtain ⟨h, h3⟩ := band h
      obtain ⟨h1, h2⟩ := band h
      split at h3
      · rename_i e0 ys hu
        have hx := ih .S W X ys g hr tk h3
        refine wants_pe h1 ?_
        have e : tp = false := by simpa using h2
        subst e
        exact s_mkseq g hu hx.1
      · cases h3
    · cases h
  | pop a xs iha ih =>
    intro m W X es g hr tk h
    unfold chk at h
    split at h
    · obtain ⟨h1, h3⟩ := band h
      split at h3
      · rename_i e0 o ys hu
        obtain ⟨h3, h4⟩ := band h3
        have ha := iha .E W X [o] g hr tk h3 o rfl
        have hx := ih .S W X ys g hr tk h4
        exact wants_pe h1 (s_pop g hu ha hx.1 hx.2.2)
      · cases h3
    · cases h
  | isa a ts iha =>
    intro m W X es g hr tk h
    unfold chk at h
    split at h
    · obtain ⟨h1, h3⟩ := band h
      split at h3
      · rename_i e0 x hu
        exact wants_pe h1 (s_isa g hu (iha .E W X [x] g hr tk h3 x rfl))
      · cases h3
    · cases h
  | eattr i f =>
    intro m W X es g hr tk h
    unfold chk at h
    split at h
    · rename_i x p y q
      obtain ⟨h, h5⟩ := band h
      obtain ⟨h, h4⟩ := band h
      obtain ⟨h, h3⟩ := band h
      obtain ⟨h1, h2⟩ := band h
      have h4 := eq_of_beq h4
      subst h4
      refine wants_pe h1 (s_eattr g (by simpa using h2) h3 ?_)
      unfold varB at h5
      obtain ⟨h5, h6⟩ := band h5
      obtain ⟨h5, h7⟩ := band h5
      exact s_var g (eq_of_beq h5) h7 h6
    · cases h
  | callv a es' _ _ => intro m W X es g hr tk h; cases m <;> cases h
  | cell a iha =>
    intro m W X es g hr tk h
    unfold chk at h
    split at h
    · rename_i e
      obtain ⟨h1, h2⟩ := band h
      exact wants_pe h1 ((iha .E W X [e] g hr tk h2 e rfl).imp fun σ H Q q => tEv_cell q)
    · cases h
end
end Nr
end

section
set_option Elab.async false
set_option linter.all false
set_option maxRecDepth 100000
set_option maxHeartbeats 4000000
/-! E36: statements read. -/
namespace Nr
open PySem PySem.Spec PyProof.Rows L2 PySem.W
/-- what a def gives back -/
def RetH (I : Inf) (fr : Frm) (F : Hp) (L : List Addr) (H : Hp) (r : RV) (v : V) : Prop := match r with
  | .val x => RepV I F L x v
  | .tmp c => ∃ a, v = .ref a ∧ AtC I fr F L H c a
  | .slot _ => False
def PostS (I : Inf) (W : WX) (fr : Frm) (D : Ends) (r : R Fl) : Prop := match r with
  | .ok .nx s => ∀ F L σ H, RS I fr [] F L s σ H → D.nx σ H
  | .ok .brk s => ∀ F L σ H, RS I fr [] F L s σ H → D.bk σ H
  | .ok .cont s => ∀ F L σ H, RS I fr [] F L s σ H → D.ct σ H
  | .ok (.ret r) s => ∀ F L σ H v, RS I fr [] F L s σ H → RetH I fr F L H r v → D.rt v H
  | .ex e s => ∀ F L σ H cls d, RS I fr [] F L s σ H → ExV I F L e cls d → W cls d σ H
  | .bad => False
def tS (I : Inf) (W : WX) (ev : St → R Fl) : TS := fun D σ H => ∃ fr F L s, RS I fr [] F L s σ H ∧ PostS I W fr D (ev s)
theorem _root_.L2.PS.imp {X : Cx} {e : Stmt} {t t' : TS} (h : PS X e t) (k : ∀ D σ H, t' D σ H → t D σ H) : PS X e t' := ⟨fun pins s σ H D I q => h.run pins s σ H D I (k _ _ _ q)⟩
theorem _root_.L2.PSs.imp {X : Cx} {e : List Stmt} {t t' : TS} (h : PSs X e t) (k : ∀ D σ H, t' D σ H → t D σ H) : PSs X e t' := ⟨fun pins s σ H D I q => h.run pins s σ H D I (k _ _ _ q)⟩
section
variable {I : Inf} {W : WX} {T : Tab} {cf : CallF} {n : Nm} {X : Cx} {fr : Frm} {hs gs : List (RV × V)} {F : Hp} {L : List Addr} {s : St} {σ : Sg} {H : Hp} {Q : VK} {rx ry : RV} {x y : V} {D : Ends}
theorem nil_sub : ([] : List (RV × V)).Sublist gs := List.nil_sublist _
theorem stepS {ev : St → Nr.R RV} {f : RV → St → Nr.R Fl} {Q1 : VK} (R : RS I fr gs F L s σ H) (P : PostS I W fr D ((ev s).bind f))
    (k : ∀ r s1 F1 L1 H1 v, RS I fr ((r, v) :: gs) F1 L1 s1 σ H1 → PostS I W fr D (f r s1) → Q1 v H1) : tEv I W ev σ H Q1 := by
  refine ⟨fr, gs, F, L, s, R, ?_⟩
  cases e : ev s with
  | ok r s1 =>
    rw [e] at P
    exact fun F1 L1 H1 v R1 => k r s1 F1 L1 H1 v R1 P
  | ex z s1 =>
    rw [e] at P
    exact fun F1 L1 H1 cls d R1 x => P F1 L1 σ H1 cls d (R1.sub nil_sub) x
  | bad => rw [e] at P; exact P
theorem stepSs {ev : St → Nr.R (List RV)} {f : List RV → St → Nr.R Fl} {Q1 : List V → Hp → Prop} (R : RS I fr gs F L s σ H) (P : PostS I W fr D ((ev s).bind f))
    (k : ∀ rs s1 F1 L1 H1 vs, vs.length = rs.length → RS I fr (push rs vs gs) F1 L1 s1 σ H1 → PostS I W fr D (f rs s1) → Q1 vs H1) : tEvs I W ev σ H Q1 := by
  refine ⟨fr, gs, F, L, s, R, ?_⟩
  cases e : ev s with
  | ok r s1 =>
    rw [e] at P
    exact fun F1 L1 H1 vs hl R1 => k r s1 F1 L1 H1 vs hl R1 P
  | ex z s1 =>
    rw [e] at P
    exact fun F1 L1 H1 cls d R1 x => P F1 L1 σ H1 cls d (R1.sub nil_sub) x
  | bad => rw [e] at P; exact P
theorem PostS.opt {α : Type} {o : Option α} {f : α → St → Nr.R Fl} (P : PostS I W fr D ((ofOpt o s).bind f)) : ∃ a, o = some a ∧ PostS I W fr D (f a s) := by
  cases o with
  | none => exact P.elim
  | some a => exact ⟨a, rfl, P⟩
theorem PostS.val1 {r : RV} {v : V} {f : PV → St → Nr.R Fl} (R : RS I fr ((r, v) :: hs) F L s σ H) (P : PostS I W fr D ((Nr.toVal r s).bind f)) :
    ∃ x s' F', RS I fr ((.val x, v) :: hs) F' L s' σ H ∧ PostS I W fr D (f x s') := by
  have q := R.toVal
  cases e : Nr.toVal r s with
  | bad => rw [e] at P; exact P.elim
  | ex x s1 => rw [e] at q; exact q.elim
  | ok x s1 =>
    rw [e] at P q
    obtain ⟨F', R', _⟩ := q
    exact ⟨x, s1, F', R', P⟩
/-! ### the ways on -/
theorem tS_seq {a b : CS} (h : tS I W (execS T cf (.seq a b)) D σ H) : tSeq (tS I W (execS T cf a)) (tS I W (execS T cf b)) D σ H := by
  obtain ⟨fr, F, L, s, R, P⟩ := h
  refine ⟨fr, F, L, s, R, ?_⟩
  have P : PostS I W fr D (thenS (execS T cf a s) fun s1 => execS T cf b s1) := P
  cases e : execS T cf a s with
  | ok k s1 =>
    rw [e] at P
    cases k with
    | nx => exact fun F1 L1 σ1 H1 R1 => ⟨fr, F1, L1, s1, R1, P⟩
    | ret r => exact P
    | brk => exact P
    | cont => exact P
  | ex z s1 => rw [e] at P; exact P
  | bad => rw [e] at P; exact P
theorem tS_skip (h : tS I W (execS T cf .skip) D σ H) : tNext D σ H := by
  obtain ⟨fr, F, L, s, R, P⟩ := h
  exact P F L σ H R
theorem tS_brk (h : tS I W (execS T cf .brk) D σ H) : tBreak D σ H := by
  obtain ⟨fr, F, L, s, R, P⟩ := h
  exact P F L σ H R
theorem tS_cont (h : tS I W (execS T cf .cont) D σ H) : tCont D σ H := by
  obtain ⟨fr, F, L, s, R, P⟩ := h
  exact P F L σ H R
theorem tS_expr {e : CE} (h : tS I W (execS T cf (.expr e)) D σ H) : tDrop (tEv I W (evalE T cf e)) D σ H := by
  obtain ⟨fr, F, L, s, R, P⟩ := h
  exact stepS R P fun r s1 F1 L1 H1 v R1 P1 => P1 F1 L1 σ H1 R1.drop
theorem tS_ret {e : CE} (h : tS I W (execS T cf (.ret e)) D σ H) : tRet (tEv I W (evalE T cf e)) D σ H := by
  obtain ⟨fr, F, L, s, R, P⟩ := h
  refine stepS R P fun r s1 F1 L1 H1 v R1 P1 => ?_
  have P1 : PostS I W fr D ((outRV r s1).bind fun o s2 => .ok (.ret o) s2) := P1
  cases r with
  | val x => exact P1 F1 L1 σ H1 v R1.drop R1.head
  | tmp c =>
    obtain ⟨a, e, at_, _⟩ := R1.head
    exact P1 F1 L1 σ H1 v R1.drop ⟨a, e, at_⟩
  | slot i =>
    have P1 : PostS I W fr D ((match s1.get i with
      | .own c => Nr.R.ok (RV.tmp c) s1
      | _ => .bad).bind fun o s2 => .ok (.ret o) s2) := P1
    cases hg : s1.get i with
    | non => rw [hg] at P1; exact P1.elim
    | val w => rw [hg] at P1; exact P1.elim
    | own c =>
      rw [hg] at P1
      obtain ⟨a, e1, at_⟩ := R1.own i c hg
      have hv := R1.head
      have hv : σ[i]? = some (some v) := hv
      rw [e1] at hv
      cases hv
      exact P1 F1 L1 σ H1 (.ref a) R1.drop ⟨a, rfl, at_⟩
theorem tS_ite {c : CE} {a b : CS} (h : tS I W (execS T cf (.ite c a b)) D σ H) : tIfS (tB (tEv I W (evalE T cf c))) (tS I W (execS T cf a)) (tS I W (execS T cf b)) D σ H := by
  obtain ⟨fr, F, L, s, R, P⟩ := h
  have P : PostS I W fr D (((evalE T cf c s).bind fun x s1 => match x with
    | .val (.bl k) => Nr.R.ok k s1
    | _ => .bad).bind fun k s1 => if k then execS T cf a s1 else execS T cf b s1) := P
  have P : PostS I W fr D ((evalE T cf c s).bind fun x s1 => (match x with
    | .val (.bl k) => Nr.R.ok k s1
    | _ => Nr.R.bad).bind fun k s1 => if k then execS T cf a s1 else execS T cf b s1) := by
    cases e : evalE T cf c s with
    | ok x s1 => rw [e] at P; exact P
    | ex z s1 => rw [e] at P; exact P
    | bad => rw [e] at P; exact P
  refine stepS R P fun r s1 F1 L1 H1 v R1 P1 => ?_
  have hh := R1.head
  split at P1
  · rename_i k
    have hv : v = V.bl k := hh
    refine ⟨k, hv, ?_⟩
    have P1 : PostS I W fr D (if k then execS T cf a s1 else execS T cf b s1) := P1
    cases k with
    | true => exact ⟨fr, F1, L1, s1, R1.drop, P1⟩
    | false => exact ⟨fr, F1, L1, s1, R1.drop, P1⟩
  · exact P1.elim
theorem tS_whl {c : CE} {b : CS} (h : tS I W (execS T cf (.whl c b)) D σ H) : tWhile (tB (tEv I W (evalE T cf c))) (tS I W (execS T cf b)) D σ H := by
  obtain ⟨fr, F, L, s, R, P⟩ := h
  refine ⟨fun m σ H => ∃ F L s, RS I fr [] F L s σ H ∧ PostS I W fr D (whileR (testR T cf c) (execS T cf b) m s), ⟨1000000, F, L, s, R, P⟩, ?_⟩
  rintro m σ H ⟨F, L, s, R, P⟩
  cases m with
  | zero => exact P.elim
  | succ m =>
    have P : PostS I W fr D ((testR T cf c s).bind fun k s1 => if k then (execS T cf b s1).bind fun k s2 => match k with
      | .nx => whileR (testR T cf c) (execS T cf b) m s2
      | .cont => whileR (testR T cf c) (execS T cf b) m s2
      | .brk => .ok .nx s2
      | .ret r => .ok (.ret r) s2
      else .ok .nx s1) := P
    have P : PostS I W fr D ((evalE T cf c s).bind fun x s1 => (match x with
      | .val (.bl k) => Nr.R.ok k s1
      | _ => Nr.R.bad).bind fun k s1 => if k then (execS T cf b s1).bind fun k s2 => match k with
        | .nx => whileR (testR T cf c) (execS T cf b) m s2
        | .cont => whileR (testR T cf c) (execS T cf b) m s2
        | .brk => .ok .nx s2
        | .ret r => .ok (.ret r) s2
        else .ok .nx s1) := by
      unfold testR at P
      cases e : evalE T cf c s with
      | ok x s1 => rw [e] at P; exact P
      | ex z s1 => rw [e] at P; exact P
      | bad => rw [e] at P; exact P
    refine stepS R P fun r s1 F1 L1 H1 v R1 P1 => ?_
    have hh := R1.head
    split at P1
    · rename_i k
      have hv : v = V.bl k := hh
      refine ⟨k, hv, ?_⟩
      cases k with
      | true =>
        have P1 : PostS I W fr D ((execS T cf b s1).bind fun k s2 => match k with
          | .nx => whileR (testR T cf c) (execS T cf b) m s2
          | .cont => whileR (testR T cf c) (execS T cf b) m s2
          | .brk => .ok .nx s2
          | .ret r => .ok (.ret r) s2) := P1
        rw [if_pos rfl]
        refine ⟨fun σ H => ∃ F L s, RS I fr [] F L s σ H ∧ PostS I W fr D (whileR (testR T cf c) (execS T cf b) m s), fun σ' H' q => ⟨m, Nat.lt_succ_self m, q⟩, fr, F1, L1, s1, R1.drop, ?_⟩
        cases e : execS T cf b s1 with
        | ok k s2 =>
          rw [e] at P1
          cases k with
          | nx => exact fun F2 L2 σ2 H2 R2 => ⟨F2, L2, s2, R2, P1⟩
          | cont => exact fun F2 L2 σ2 H2 R2 => ⟨F2, L2, s2, R2, P1⟩
          | brk => exact P1
          | ret r => exact P1
        | ex z s2 => rw [e] at P1; exact P1
        | bad => rw [e] at P1; exact P1
      | false => exact P1 F1 L1 σ H1 R1.drop
    · exact P1.elim
/-! ### stores -/
/-- to a slot -/
theorem RS.toSlotP {i : Nat} {r : RV} {v : V} {x : Slot} {s1 : St} (R : RS I fr ((r, v) :: hs) F L s σ H) (hn : noSl hs) (e : toSlot r s = .ok x s1) (hf : s1.free i = true) : ∃ F1, RS I fr hs F1 L (s1.put i x) (σ.set i (some v)) H := by
  cases r with
  | val z => cases e; exact ⟨F, R.drop.stV hn hf R.head⟩
  | tmp c => cases e; exact ⟨F, R.stT hn hf⟩
  | slot j =>
    have e : (Nr.toVal (.slot j) s).bind (fun v s1 => Nr.R.ok (Slot.val v) s1) = .ok x s1 := e
    have q := R.toVal
    cases e2 : Nr.toVal (.slot j) s with
    | bad => rw [e2] at e; cases e
    | ex z s2 => rw [e2] at e; cases e
    | ok z s2 =>
      rw [e2] at e q
      cases e
      obtain ⟨F', R', _⟩ := q
      exact ⟨F', R'.drop.stV hn hf R'.head⟩
theorem asgT_ex : ∀ (t : Tg) (z : PV) (s : St) {q : PV} {w : St}, asgT t z s ≠ .ex q w
  | .var i, z, s, q, w, h => by
    have h : (if s.free i = true then Nr.R.ok () (s.put i (.val z)) else .bad) = .ex q w := h
    split at h <;> cases h
  | .nil, z, s, q, w, h => by cases h
  | .cons a b, z, s, q, w, h => by
    cases z with
    | tup xs =>
      cases xs with
      | nil => cases h
      | cons x xs =>
        have h : (asgT a x s).bind (fun _ s1 => match b, xs with
          | .nil, [] => Nr.R.ok () s1
          | .cons _ _, _ :: _ => asgT b (.tup xs) s1
          | _, _ => .bad) = .ex q w := h
        cases e : asgT a x s with
        | bad => rw [e] at h; cases h
        | ex q2 w2 => exact asgT_ex a x s e
        | ok u s1 =>
          rw [e] at h
          have h : (match b, xs with
          | .nil, [] => Nr.R.ok () s1
          | .cons _ _, _ :: _ => asgT b (.tup xs) s1
          | _, _ => .bad) = .ex q w := h
          split at h
          · cases h
          · exact asgT_ex _ _ _ h
          · cases h
    | _ => cases h
theorem noSl_nil : noSl [] := fun p hp => by cases hp
theorem tS_set {i : Nat} {e : CE} (h : tS I W (execS T cf (.asg (.var i) e)) D σ H) : tAsg (tEv I W (evalE T cf e)) (gName i) D σ H := by
  obtain ⟨fr, F, L, s, R, P⟩ := h
  refine stepS R P fun r s1 F1 L1 H1 v R1 P1 => ?_
  have P1 : PostS I W fr D ((toSlot r s1).bind fun x s2 => if s2.free i then .ok .nx (s2.put i x) else .bad) := P1
  cases e1 : toSlot r s1 with
  | bad => rw [e1] at P1; exact P1.elim
  | ex z s2 =>
    exfalso
    cases r with
    | val z => cases e1
    | tmp c => cases e1
    | slot j =>
      have e1 : (Nr.toVal (.slot j) s1).bind (fun v s1 => Nr.R.ok (Slot.val v) s1) = .ex z s2 := e1
      have q := R1.toVal
      cases e2 : Nr.toVal (.slot j) s1 with
      | bad => rw [e2] at e1; cases e1
      | ex z s2 => rw [e2] at q; exact q
      | ok z s2 => rw [e2] at e1; cases e1
  | ok x s2 =>
    rw [e1] at P1
    have P1 : PostS I W fr D (if s2.free i then .ok .nx (s2.put i x) else .bad) := P1
    split at P1
    · rename_i hf
      obtain ⟨F2, R2⟩ := R1.toSlotP noSl_nil e1 hf
      exact P1 F2 L1 _ H1 R2
    · exact P1.elim
theorem tS_asgT {t : Tg} {e : CE} (ht : isVarT t = false) (h : tS I W (execS T cf (.asg t e)) D σ H) : tAsg (tEv I W (evalE T cf e)) (gT I.K t) D σ H := by
  obtain ⟨fr, F, L, s, R, P⟩ := h
  refine stepS R P fun r s1 F1 L1 H1 v R1 P1 => ?_
  have P1 : PostS I W fr D ((Nr.toVal r s1).bind fun v s2 => (asgT t v s2).bind fun _ s3 => .ok .nx s3) := by
    cases t with
    | var i => cases ht
    | nil => exact P1
    | cons a b => exact P1
  obtain ⟨z, s2, F2, R2, P2⟩ := PostS.val1 R1 P1
  cases e1 : asgT t z s2 with
  | bad => rw [e1] at P2; exact P2.elim
  | ex z s3 => exact absurd e1 (asgT_ex t _ _)
  | ok u s3 =>
    rw [e1] at P2
    cases u
    have hh : RepV I F2 L1 z v := R2.head
    exact (asg_ok noSl_nil t).1 e1 R2.drop (TgtV.mono_rep hh t) fun σ' R3 _ _ => P2 F2 L1 σ' H1 R3
end
end Nr
end

section
set_option Elab.async false
set_option linter.all false
set_option maxRecDepth 100000
set_option maxHeartbeats 4000000
/-! E37: small statements. -/
namespace Nr
open PySem PySem.Spec PyProof.Rows L2 PySem.W
section
variable {I : Inf} {W : WX} {T : Tab} {cf : CallF} {n : Nm} {X : Cx} {fr : Frm} {hs gs : List (RV × V)} {F : Hp} {L : List Addr} {s : St} {σ : Sg} {H : Hp} {Q : VK} {rx ry : RV} {x y : V} {D : Ends}
theorem setCell_s {r : RV} {c : PV} {f : Unit → St → Nr.R Fl} (P : PostS I W fr D ((Nr.setCell r c s).bind f)) : ∃ s', Nr.setCell r c s = .ok () s' ∧ PostS I W fr D (f () s') := by
  cases e : Nr.setCell r c s with
  | ok u s' => rw [e] at P; exact ⟨s', by cases u; rfl, P⟩
  | ex z s' =>
    cases r with
    | tmp d => cases e
    | slot i => cases e
    | val z => cases z <;> cases e
  | bad => rw [e] at P; exact P.elim
theorem RS.cellAt {r : RV} {v : V} {c c' : PV} {s' : St} (R : RS I fr hs F L s σ H) (hm : (r, v) ∈ hs) (hv : view s r = some c) (e : Nr.setCell r c' s = .ok () s') : ∃ a o, v = .ref a ∧ H a = some o ∧ RepC I F L c o := by
  cases r with
  | tmp d => cases e
  | slot i =>
    have hv : (match s.get i with | .own c => some c | _ => none) = some c := hv
    cases hg : s.get i with
    | non => rw [hg] at hv; cases hv
    | val z => rw [hg] at hv; cases hv
    | own d =>
      rw [hg] at hv; cases hv
      obtain ⟨a, e1, o, ho, rc, _⟩ := R.own i c hg
      have hvv : σ[i]? = some (some v) := R.hval _ hm
      rw [e1] at hvv
      cases hvv
      exact ⟨a, o, rfl, ho, rc⟩
  | val z =>
    cases z with
    | loc m =>
      have hv : s.cells[m]? = some c := hv
      obtain ⟨a, ea, hl⟩ := R.hval _ hm
      simp only at ea
      obtain ⟨o, ho, rc⟩ := R.cell m a c hl hv
      exact ⟨a, o, ea, ho, rc⟩
    | _ => cases e
/-! ### methods that change a list -/
def altApp (X : Cx) : MtAlt X "append" := ⟨"list", "list.append", PySem.F.plainAttrs_list, PySem.F.slot_list_append, PySem.F.type_list_append, fun x H => tyV X.K "list" x H, fun I r t => tyV_is I r t, _, mt_append⟩
def altExt (X : Cx) : MtAlt X "extend" := ⟨"list", "list.extend", PySem.F.plainAttrs_list, PySem.F.slot_list_extend, PySem.F.type_list_extend, fun x H => tyV X.K "list" x H, fun I r t => tyV_is I r t, _, mt_extend⟩
theorem isLst_ty (R : RS I fr hs F L s σ H) (hm : (rx, x) ∈ hs) (h : isLstR s rx = true) : tyV X.K "list" x H := by
  unfold isLstR at h
  split at h
  · rename_i xs hv
    exact tyV_lst (R.shown hm hv)
  · cases h
theorem tS_append {a e : CE} (h : tS I W (execS T cf (.append a e)) D σ H) : tDrop (tBMs [altApp X] (tEv I W (evalE T cf a)) (tCons (tEv I W (evalE T cf e)) tNil)) D σ H := by
  obtain ⟨fr, F, L, s, R, P⟩ := h
  refine stepS R P fun rx s1 F1 L1 H1 x R1 P1 => ?_
  by_cases hr : isLstR s1 rx = true
  · have P1 : PostS I W fr D ((evalE T cf e s1).bind fun r s2 => (Nr.toVal r s2).bind fun v s3 => (ofOpt (view s3 rx) s3).bind fun o _ => match o with
      | .lst xs => if sizeOk (xs.length + 1) then (Nr.setCell rx (.lst (xs ++ [v])) s3).bind fun _ s4 => .ok .nx s4 else .bad
      | _ => .bad) := by
      have P1 : PostS I W fr D (if !isLstR s1 rx then .bad else (evalE T cf e s1).bind fun r s2 => (Nr.toVal r s2).bind fun v s3 => (ofOpt (view s3 rx) s3).bind fun o _ => match o with
        | .lst xs => if sizeOk (xs.length + 1) then (Nr.setCell rx (.lst (xs ++ [v])) s3).bind fun _ s4 => .ok .nx s4 else .bad
        | _ => .bad) := P1
      rw [hr] at P1
      exact P1
    refine ⟨altApp X, by simp, isLst_ty R1 List.mem_cons_self hr, stepS R1 P1 fun ry s2 F2 L2 H2 y R2 P2 => ?_⟩
    obtain ⟨z, s3, F3, R3, P3⟩ := PostS.val1 R2 P2
    obtain ⟨o, eo, P4⟩ := PostS.opt (P := P3)
    split at P4
    · rename_i xs
      split at P4
      · rename_i hz
        obtain ⟨s4, es, P5⟩ := setCell_s P4
        obtain ⟨p, ws, ex, t, r⟩ : Shown I F3 L2 H2 (.lst xs) x := R3.shown (by simp) eo
        have hy : RepV I F3 L2 z y := R3.head
        obtain ⟨a', e', R4⟩ := R3.setC (List.mem_cons_of_mem _ List.mem_cons_self) eo es (o' := .lst (ws ++ [y])) ⟨_, rfl, r.append (.one hy)⟩
        rw [ex] at e'
        cases e'
        have hz := sizeOk_le hz
        refine ⟨p, ws, y, ex, rfl, t, ?_, P5 F3 L2 σ _ (R4.drop.drop)⟩
        have := r.length
        omega
      · exact P4.elim
    · exact P4.elim
  · have P1 : PostS I W fr D (if !isLstR s1 rx then .bad else (evalE T cf e s1).bind fun r s2 => (Nr.toVal r s2).bind fun v s3 => (ofOpt (view s3 rx) s3).bind fun o _ => match o with
        | .lst xs => if sizeOk (xs.length + 1) then (Nr.setCell rx (.lst (xs ++ [v])) s3).bind fun _ s4 => .ok .nx s4 else .bad
        | _ => .bad) := P1
    rw [Bool.not_eq_true] at hr
    rw [hr] at P1
    exact P1.elim
theorem tS_extend {a e : CE} (h : tS I W (execS T cf (.extend a e)) D σ H) : tDrop (tBMs [altExt X] (tEv I W (evalE T cf a)) (tCons (tEv I W (evalE T cf e)) tNil)) D σ H := by
  obtain ⟨fr, F, L, s, R, P⟩ := h
  refine stepS R P fun rx s1 F1 L1 H1 x R1 P1 => ?_
  have P1 : PostS I W fr D (if !isLstR s1 rx then .bad else (evalE T cf e s1).bind fun r s2 => (ofOpt (view s2 rx) s2).bind fun o _ => (ofOpt (view s2 r) s2).bind fun p _ => match o, p with
      | .lst xs, .lst ys => if sizeOk (xs.length + ys.length) then (Nr.setCell rx (.lst (xs ++ ys)) s2).bind fun _ s4 => .ok .nx s4 else .bad
      | _, _ => .bad) := P1
  by_cases hr : isLstR s1 rx = true
  · rw [hr] at P1
    have P1 : PostS I W fr D ((evalE T cf e s1).bind fun r s2 => (ofOpt (view s2 rx) s2).bind fun o _ => (ofOpt (view s2 r) s2).bind fun p _ => match o, p with
      | .lst xs, .lst ys => if sizeOk (xs.length + ys.length) then (Nr.setCell rx (.lst (xs ++ ys)) s2).bind fun _ s4 => .ok .nx s4 else .bad
      | _, _ => .bad) := P1
    refine ⟨altExt X, by simp, isLst_ty R1 List.mem_cons_self hr, stepS R1 P1 fun ry s2 F2 L2 H2 y R2 P2 => ?_⟩
    obtain ⟨o, eo, P3⟩ := PostS.opt (P := P2)
    obtain ⟨q, eq, P4⟩ := PostS.opt (P := P3)
    split at P4
    · rename_i xs ys
      split at P4
      · rename_i hz
        obtain ⟨s4, es, P5⟩ := setCell_s P4
        obtain ⟨p, ws, ex, t, r⟩ : Shown I F2 L2 H2 (.lst xs) x := R2.shown (by simp) eo
        obtain ⟨p2, ws2, ex2, t2, r2⟩ : Shown I F2 L2 H2 (.lst ys) y := R2.shown (by simp) eq
        obtain ⟨a', e', R4⟩ := R2.setC (List.mem_cons_of_mem _ List.mem_cons_self) eo es (o' := .lst (ws ++ ws2)) ⟨_, rfl, r.append r2⟩
        rw [ex] at e'
        cases e'
        have hz := sizeOk_le hz
        refine ⟨p, p2, ws, ws2, ex, by rw [ex2], t, t2, ?_, P5 F2 L2 σ _ (R4.drop.drop)⟩
        have := r.length
        have := r2.length
        omega
      · exact P4.elim
    · exact P4.elim
  · rw [Bool.not_eq_true] at hr
    rw [hr] at P1
    exact P1.elim
/-! ### o[i] = v -/
theorem _root_.L2.PSet.or {X : Cx} {t u : TSet} (h1 : PSet X t) (h2 : PSet X u) : PSet X (fun o i v H Q => t o i v H Q ∨ u o i v H Q) := by
  intro pins s σ H o i v ov iv w Q I ro ri rv h
  rcases h with h | h
  · exact h1 pins s σ H o i v ov iv w Q I ro ri rv h
  · exact h2 pins s σ H o i v ov iv w Q I ro ri rv h
def rSetB : TSet := fun o i v H Q => rSetL o i v H Q ∨ rSetD o i v H Q
theorem tS_setsub {a i e : CE} (h : tS I W (execS T cf (.setsub a i e)) D σ H) : tAsg (tEv I W (evalE T cf e)) (gSub (tEv I W (evalE T cf a)) (tEv I W (evalE T cf i)) rSetB) D σ H := by
  obtain ⟨fr, F, L, s, R, P⟩ := h
  refine stepS R P fun rv s1 F1 L1 H1 v R1 P1 => ?_
  obtain ⟨z, s2, F2, R2, P2⟩ := PostS.val1 R1 P1
  refine stepS R2 P2 fun rx s3 F3 L3 H3 x R3 P3 => ?_
  refine stepS R3 P3 fun ry s4 F4 L4 H4 y R4 P4 => ?_
  have P4 : PostS I W fr D ((putSub rx ry z s4).bind fun _ s5 => .ok .nx s5) := P4
  unfold putSub at P4
  cases eo : view s4 rx with
  | none => rw [eo] at P4; exact P4.elim
  | some o =>
    cases ek : view s4 ry with
    | none => rw [eo, ek] at P4; exact P4.elim
    | some kk =>
      rw [eo, ek] at P4
      have P4 : PostS I W fr D ((match o, kk with
        | .lst xs, .int i => (ofOpt (ixOf xs.length i) s4).bind fun j _ => Nr.setCell rx (.lst (xs.set j z)) s4
        | .dct kvs, k => if isKey 0 k && sizeOk (kvs.length + 1) then Nr.setCell rx (.dct (dctPut k z kvs)) s4 else .bad
        | _, _ => .bad).bind fun _ s5 => .ok .nx s5) := P4
      have hv : RepV I F4 L4 z v := R4.hval (.val z, v) (by simp)
      have sx : Shown I F4 L4 H4 o x := R4.shown (by simp) eo
      have sy : Shown I F4 L4 H4 kk y := R4.shown (by simp) ek
      split at P4
      · rename_i xs i _
        cases ej : ixOf xs.length i with
        | none => rw [ej] at P4; exact P4.elim
        | some j =>
          rw [ej] at P4
          obtain ⟨s5, es, P5⟩ := setCell_s P4
          obtain ⟨p, ws, ex, t, r⟩ := sx
          obtain ⟨a', e', R5⟩ := R4.setC (List.mem_cons_of_mem _ List.mem_cons_self) eo es (o' := .lst (ws.set j v)) ⟨_, rfl, r.set j hv⟩
          rw [ex] at e'
          cases e'
          rw [r.length] at ej
          exact .inl ⟨p, ws, i, j, ex, sy, t, ej, P5 F4 L4 σ _ (R5.drop.drop.drop)⟩
      · rename_i kvs k
        split at P4
        · rename_i hk
          rw [Bool.and_eq_true] at hk
          obtain ⟨hk, hz⟩ := hk
          obtain ⟨s5, es, P5⟩ := setCell_s P4
          obtain ⟨key, hkk⟩ := isKey_keyOf hk
          obtain ⟨p, o, ex, ho, ws, eo2, r⟩ := R4.cellAt (List.mem_cons_of_mem _ List.mem_cons_self) eo es
          subst eo2
          obtain ⟨a', e', R5⟩ := R4.setC (List.mem_cons_of_mem _ List.mem_cons_self) eo es (o' := .dK (putK ws key v)) ⟨_, rfl, r.put hkk hv⟩
          rw [ex] at e'
          cases e'
          have hz := sizeOk_le hz
          have := r.length
          exact .inr ⟨p, _, ex, .inl ⟨ws, key, ho, shown_key hkk sy, by omega, rfl⟩, P5 F4 L4 σ _ (R5.drop.drop.drop)⟩
        · exact P4.elim
      · exact P4.elim
/-! ### o.f = v -/
theorem tS_setattr (hc : ClsFa I T) {a e : CE} {f : Nat} (h : tS I W (execS T cf (.setattr a f e)) D σ H) : sFld I.K (tEv I W (evalE T cf a)) (tEv I W (evalE T cf e)) (I.an f) D σ H := by
  obtain ⟨fr, F, L, s, R, P⟩ := h
  refine stepS R P fun rv s1 F1 L1 H1 v R1 P1 => ?_
  obtain ⟨z, s2, F2, R2, P2⟩ := PostS.val1 R1 P1
  refine stepS R2 P2 fun rx s3 F3 L3 H3 x R3 P3 => ?_
  have P3 : PostS I W fr D ((ofOpt (view s3 rx) s3).bind fun o _ => match o with
    | .obj c fs => if T.fld c f && decide (fs.length < 900) then (Nr.setCell rx (.obj c (fldPut f z fs)) s3).bind fun _ s1 => .ok .nx s1 else .bad
    | _ => .bad) := P3
  obtain ⟨o, eo, P4⟩ := PostS.opt (P := P3)
  have hv : RepV I F3 L3 z v := R3.hval (.val z, v) (by simp)
  split at P4
  · rename_i c fs
    split at P4
    · rename_i hk
      rw [Bool.and_eq_true, decide_eq_true_eq] at hk
      obtain ⟨s5, es, P5⟩ := setCell_s P4
      obtain ⟨p, o, ex, ho, dx, ws, eo2, r⟩ := R3.cellAt List.mem_cons_self eo es
      subst eo2
      obtain ⟨a', e', R5⟩ := R3.setC List.mem_cons_self eo es (o' := .ins (I.cad c) dx (putF (I.an f) v ws)) ⟨dx, _, rfl, r.put hv⟩
      rw [ex] at e'
      cases e'
      have := r.length
      obtain ⟨k1, k2⟩ := hc.fld c f hk.1
      exact ⟨p, I.cad c, dx, ws, ex, ho, k1, k2, by omega, P5 F3 L3 σ _ (R5.drop.drop)⟩
    · exact P4.elim
  · exact P4.elim
/-! ### name op= e -/
def ipB (op : BOp) : TIp := match op with
  | .add => ipI fun i j => i + j
  | .sub => ipI fun i j => i - j
  | _ => fun _ _ _ _ => False
theorem tS_aug {i : Nat} {op : BOp} {e : CE} (h : tS I W (execS T cf (.aug i op e)) D σ H) : tAug i (tEv I W (evalE T cf e)) (ipB op) D σ H := by
  obtain ⟨fr, F, L, s, R, P⟩ := h
  have P : PostS I W fr D ((evalE T cf (.var i) s).bind fun x s1 => (evalE T cf e s1).bind fun y s2 => match (generalizing := false) view s2 x, view s2 y, op with
    | some (.int a), some (.int b), .add => if s2.free i then .ok .nx (s2.put i (.val (.int (a + b)))) else .bad
    | some (.int a), some (.int b), .sub => if s2.free i then .ok .nx (s2.put i (.val (.int (a - b)))) else .bad
    | _, _, _ => .bad) := P
  have key : ∀ (rx : RV) (x : V), σ[i]? = some (some x) → RS I fr [(rx, x)] F L s σ H → PostS I W fr D ((evalE T cf e s).bind fun y s2 => match (generalizing := false) view s2 rx, view s2 y, op with
    | some (.int a), some (.int b), .add => if s2.free i then .ok .nx (s2.put i (.val (.int (a + b)))) else .bad
    | some (.int a), some (.int b), .sub => if s2.free i then .ok .nx (s2.put i (.val (.int (a - b)))) else .bad
    | _, _, _ => .bad) → tAug i (tEv I W (evalE T cf e)) (ipB op) D σ H := by
    intro rx x ex R1 P1
    refine ⟨x, ex, stepS R1 P1 fun ry s2 F2 L2 H2 y R2 P2 => ?_⟩
    split at P2
    · rename_i a b e1 e2 _
      split at P2
      · rename_i hf
        have sx : x = V.int a := R2.shown (by simp) e1
        have sy : y = V.int b := R2.shown (by simp) e2
        exact ⟨a, b, sx, sy, P2 F2 L2 _ H2 (R2.drop.drop.stV noSl_nil hf rfl)⟩
      · exact P2.elim
    · rename_i a b e1 e2 _
      split at P2
      · rename_i hf
        have sx : x = V.int a := R2.shown (by simp) e1
        have sy : y = V.int b := R2.shown (by simp) e2
        exact ⟨a, b, sx, sy, P2 F2 L2 _ H2 (R2.drop.drop.stV noSl_nil hf rfl)⟩
      · exact P2.elim
    · exact P2.elim
  have e0 : evalE T cf (.var i) s = (match s.get i with
    | .non => .bad
    | .val v => .ok (.val v) s
    | .own _ => .ok (.slot i) s) := rfl
  rw [e0] at P
  cases hg : s.get i with
  | non => rw [hg] at P; exact P.elim
  | val z =>
    rw [hg] at P
    obtain ⟨u, h1, h2⟩ := R.val i z hg
    exact key (.val z) u h1 (R.pushV h2) P
  | own c =>
    rw [hg] at P
    obtain ⟨a, h1, h2⟩ := R.own i c hg
    exact key (.slot i) (.ref a) h1 (R.pushS h1) P
/-! ### several names at once -/
def slRV : Slot → RV
  | .non => .val .non
  | .val z => .val z
  | .own c => .tmp c
theorem toSlots_ok : ∀ {rs : List RV} {vs : List V} {hs : List (RV × V)} {F : Hp} {s s1 : St} {xs : List Slot}, vs.length = rs.length → RS I fr (rs.zip vs ++ hs) F L s σ H → toSlots rs s = .ok xs s1 →
    ∃ F1, RS I fr ((xs.map slRV).zip vs ++ hs) F1 L s1 σ H ∧ xs.length = rs.length ∧ ∀ x ∈ xs, x ≠ .non
  | [], vs, hs, F, s, s1, xs, hl, R, e => by
    cases e
    exact ⟨F, R, rfl, fun x h => by cases h⟩
  | r :: rs, [], hs, F, s, s1, xs, hl, R, e => by cases hl
  | r :: rs, v :: vs, hs, F, s, s1, xs, hl, R, e => by
    have hl' : vs.length = rs.length := by simpa using hl
    have R : RS I fr ((r, v) :: (rs.zip vs ++ hs)) F L s σ H := R
    have e : (toSlot r s).bind (fun v s1 => (toSlots rs s1).bind fun vs s2 => Nr.R.ok (v :: vs) s2) = .ok xs s1 := e
    have key : ∀ {x : Slot} {F0 : Hp} {s0 : St}, x ≠ .non → RS I fr ((slRV x, v) :: (rs.zip vs ++ hs)) F0 L s0 σ H → (toSlots rs s0).bind (fun vs s2 => Nr.R.ok (x :: vs) s2) = .ok xs s1 → ∃ F1, RS I fr ((xs.map slRV).zip (v :: vs) ++ hs) F1 L s1 σ H ∧ xs.length = (r :: rs).length ∧ ∀ x ∈ xs, x ≠ .non := by
      intro x F0 s0 hx R0 e0
      cases e2 : toSlots rs s0 with
      | bad => rw [e2] at e0; cases e0
      | ex z w => rw [e2] at e0; cases e0
      | ok ys s2 =>
        rw [e2] at e0
        cases e0
        obtain ⟨F1, R1, l1, n1⟩ := toSlots_ok (rs := rs) (hs := (slRV x, v) :: hs) hl' (R0.perm (List.perm_middle.symm)) e2
        refine ⟨F1, ?_, by simp [l1], fun y hy => ?_⟩
        · exact R1.perm List.perm_middle
        · rcases List.mem_cons.mp hy with rfl | hy
          · exact hx
          · exact n1 y hy
    cases r with
    | val z => exact key (x := .val z) (by simp) R e
    | tmp c => exact key (x := .own c) (by simp) R e
    | slot i =>
      have e : ((Nr.toVal (.slot i) s).bind (fun v s1 => Nr.R.ok (Slot.val v) s1)).bind (fun v s1 => (toSlots rs s1).bind fun vs s2 => Nr.R.ok (v :: vs) s2) = .ok xs s1 := e
      have q := R.toVal
      cases e2 : Nr.toVal (.slot i) s with
      | bad => rw [e2] at e; cases e
      | ex z w => rw [e2] at e; cases e
      | ok z s2 =>
        rw [e2] at e q
        obtain ⟨F', R', _⟩ := q
        exact key (x := .val z) (by simp) R' e
/-- one of them stored -/
theorem RS.stX {i : Nat} {x : Slot} {v : V} (hx : x ≠ .non) (R : RS I fr ((slRV x, v) :: hs) F L s σ H) (hn : noSl hs) (hf : s.free i = true) : RS I fr hs F L (s.put i x) (σ.set i (some v)) H := by
  cases x with
  | non => exact absurd rfl hx
  | val z => exact R.drop.stV hn hf R.head
  | own c => exact R.stT hn hf
theorem noSl_slRV : ∀ {xs : List Slot} {vs : List V}, noSl ((xs.map slRV).zip vs)
  | [], _ => fun p hp => by simp at hp
  | x :: xs, [] => fun p hp => by simp at hp
  | x :: xs, v :: vs => by
    have ih := noSl_slRV (xs := xs) (vs := vs)
    rw [List.map_cons, List.zip_cons_cons]
    refine ih.cons fun j => ?_
    cases x <;> simp [slRV]
def setsT : Tg → List V → Sg → Sg
  | .cons (.var i) b, v :: vs, σ => setsT b vs (σ.set i (some v))
  | _, _, σ => σ
theorem parT_ok : ∀ {t : Tg} {xs : List Slot} {vs : List V} {F : Hp} {s s1 : St} {σ : Sg}, vs.length = xs.length → (∀ x ∈ xs, x ≠ .non) → RS I fr ((xs.map slRV).zip vs) F L s σ H → parT t xs s = .ok () s1 → RS I fr [] F L s1 (setsT t vs σ) H
  | .nil, [], vs, F, s, s1, σ, hl, hx, R, e => by
    have : vs = [] := List.eq_nil_of_length_eq_zero hl
    subst this
    cases e
    exact R
  | .nil, _ :: _, vs, F, s, s1, σ, hl, hx, R, e => by cases e
  | .var i, xs, vs, F, s, s1, σ, hl, hx, R, e => by cases xs <;> cases e
  | .cons a b, [], vs, F, s, s1, σ, hl, hx, R, e => by cases a <;> cases e
  | .cons a b, x :: xs, [], F, s, s1, σ, hl, hx, R, e => by cases hl
  | .cons a b, x :: xs, v :: vs, F, s, s1, σ, hl, hx, R, e => by
    cases a with
    | nil => cases e
    | cons a1 a2 => cases e
    | var i =>
      have e : (if s.free i = true then parT b xs (s.put i x) else .bad) = .ok () s1 := e
      split at e
      · rename_i hf
        have R1 := RS.stX (hx x List.mem_cons_self) (show RS I fr ((slRV x, v) :: (xs.map slRV).zip vs) F L s σ H from R) noSl_slRV hf
        exact parT_ok (t := b) (by simpa using hl) (fun y hy => hx y (List.mem_cons_of_mem _ hy)) R1 e
      · cases e
theorem parT_ex : ∀ {t : Tg} {xs : List Slot} {s : St} {q : PV} {w : St}, parT t xs s ≠ .ex q w
  | .nil, [], s, q, w, h => by cases h
  | .nil, _ :: _, s, q, w, h => by cases h
  | .var i, xs, s, q, w, h => by cases xs <;> cases h
  | .cons a b, [], s, q, w, h => by cases a <;> cases h
  | .cons a b, x :: xs, s, q, w, h => by
    cases a with
    | nil => cases h
    | cons a1 a2 => cases h
    | var i =>
      have e : (if s.free i = true then parT b xs (s.put i x) else .bad) = .ex q w := h
      split at e
      · exact parT_ex e
      · cases e
theorem toSlots_ex : ∀ {rs : List RV} {s : St} {q : PV} {w : St}, toSlots rs s ≠ .ex q w
  | [], s, q, w, h => by cases h
  | r :: rs, s, q, w, h => by
    have e : (toSlot r s).bind (fun v s1 => (toSlots rs s1).bind fun vs s2 => Nr.R.ok (v :: vs) s2) = .ex q w := h
    have key : ∀ {x : Slot} {s0 : St}, (toSlots rs s0).bind (fun vs s2 => Nr.R.ok (x :: vs) s2) ≠ .ex q w := fun {x s0} e0 => by
      cases e2 : toSlots rs s0 with
      | bad => rw [e2] at e0; cases e0
      | ex z w => exact toSlots_ex e2
      | ok ys s2 => rw [e2] at e0; cases e0
    cases r with
    | val z => exact key e
    | tmp c => exact key e
    | slot i =>
      have e : (((match s.get i with
        | .own c => Nr.R.ok c (s.put i (.val c))
        | _ => .bad) : Nr.R PV).bind (fun v s1 => Nr.R.ok (Slot.val v) s1)).bind (fun v s1 => (toSlots rs s1).bind fun vs s2 => Nr.R.ok (v :: vs) s2) = .ex q w := e
      cases hg : s.get i with
      | non => rw [hg] at e; cases e
      | val z => rw [hg] at e; cases e
      | own c => rw [hg] at e; exact key e
theorem tS_par {t : Tg} {es : CE} (h : tS I W (execS T cf (.par t es)) D σ H) : tEvs I W (evalEs T cf es) σ H fun vs H1 => D.nx (setsT t vs σ) H1 := by
  obtain ⟨fr, F, L, s, R, P⟩ := h
  refine stepSs R P fun rs s1 F1 L1 H1 vs hl R1 P1 => ?_
  have P1 : PostS I W fr D ((toSlots rs s1).bind fun xs s2 => (parT t xs s2).bind fun _ s3 => .ok .nx s3) := P1
  cases e1 : toSlots rs s1 with
  | bad => rw [e1] at P1; exact P1.elim
  | ex q w => exact absurd e1 toSlots_ex
  | ok xs s2 =>
    rw [e1] at P1
    obtain ⟨F2, R2, l2, n2⟩ := toSlots_ok (hs := []) hl (R1.perm (push_perm rs vs [])) e1
    rw [List.append_nil] at R2
    have P1 : PostS I W fr D ((parT t xs s2).bind fun _ s3 => .ok .nx s3) := P1
    cases e2 : parT t xs s2 with
    | bad => rw [e2] at P1; exact P1.elim
    | ex q w => exact absurd e2 parT_ex
    | ok u s3 =>
      cases u
      rw [e2] at P1
      exact P1 F2 L1 _ H1 (parT_ok (by rw [hl, l2]) n2 R2 e2)
end
end Nr
end

section
set_option Elab.async false
set_option linter.all false
set_option maxRecDepth 100000
set_option maxHeartbeats 4000000
/-! E38: for. -/
namespace Nr
open PySem PySem.Spec PyProof.Rows L2 PySem.W
section
variable {I : Inf} {W : WX} {T : Tab} {cf : CallF} {n : Nm} {X : Cx} {fr : Frm} {ps hs gs : List (RV × V)} {F : Hp} {L : List Addr} {s s2 : St} {σ : Sg} {H : Hp} {Q : VK} {rx ry : RV} {x y : V} {D : Ends}
theorem lend_ex {fz : Bool} : ∀ {rs : List RV} {s : St} {z : PV} {w : St}, lend fz rs s ≠ .ex z w
  | [], s, z, w, h => by cases h
  | .tmp d :: rs, s, z, w, h => lend_ex (rs := rs) (s := s) h
  | .val u :: rs, s, z, w, h => by cases u <;> first | exact lend_ex (rs := rs) (s := s) h | cases h
  | .slot i :: rs, s, z, w, h => by
    have h : (match s.get i with
      | .own c => lend fz rs (s.put i (if fz = true then .val c else .non))
      | _ => .bad) = .ex z w := h
    cases hg : s.get i with
    | non => rw [hg] at h; cases h
    | val u => rw [hg] at h; cases h
    | own d => rw [hg] at h; exact lend_ex h
/-- out of a nested frame -/
theorem RetH.unlock {r : RV} {v : V} {F2 : Hp} {M : List Addr} {st : St} {σ2 : Sg} {H2 : Hp} (R : RS I fr (ps ++ hs) F L s σ H) (h : RetH I (nestF fr F L H ps) F2 M H2 r v) : RetH I fr F2 M H2 r v := by
  cases r with
  | val z => exact h
  | slot i => exact h
  | tmp c =>
    obtain ⟨a, e, o, ho, rc, fa, ba, la⟩ := h
    exact ⟨a, e, o, ho, rc, fa, (lock_none R ba).1, la⟩
theorem tS_for {fz : Bool} {t : Tg} {ik : IK} {src : CE} {b : CS} (hik : isVarT t = true → ik ≠ .enum ∧ ik ≠ .zip2) (h : tS I W (execS T cf (.for_ fz t ik src b)) D σ H) :
    tFor (fun σ H R => tEvs I W (evalEs T cf src) σ H fun vs H1 => wIt I.K ik vs H1 R) (gT I.K t) (tS I W (execS T cf b)) D σ H := by
  obtain ⟨fr, F, L, s, R, P⟩ := h
  refine stepSs R P fun rs s1 F1 L1 H1 vs hl R1 P1 => ?_
  obtain ⟨cs, ec, P2⟩ := PostS.opt (P := P1)
  obtain ⟨xs, ex, P3⟩ := PostS.opt (P := P2)
  cases el : lend true rs s1 with
  | ex z s2 => exact absurd el lend_ex
  | bad => rw [el] at P3; exact P3.elim
  | ok u s2 =>
    cases u
    rw [el] at P3
    have P3 : PostS I W fr D (forR (fun x sa => (asgT t x sa).bind fun _ sb => execS T cf b sb) xs s2) := P3
    have R1' : RS I fr (rs.zip vs ++ []) F1 L1 s1 σ H1 := R1.perm (push_perm rs vs [])
    obtain ⟨F2, R2, q1, q2, q3, q4, q5⟩ := lend_ok hl R1' ec el
    have hl2 : vs.length = (lentRs true rs s1).length := by rw [lentRs_len]; exact hl
    obtain ⟨G, Y, k1, k2, k3⟩ := walk_ok (ik := ik) (xs := xs) hl2 R2 q2 (by rw [q1]; exact ex)
    have hps : ∀ p ∈ (lentRs true rs s1).zip vs, srcOk p.1 = true := fun p hp => List.all_eq_true.mp q2 _ (List.of_mem_zip hp).1
    have out : ∀ {gs : List (RV × V)} {F3 : Hp} {M : List Addr} {s3 : St} {σ3 : Sg} {H3 : Hp}, RS I (nestF fr F2 L1 H1 ((lentRs true rs s1).zip vs)) gs F3 M s3 σ3 H3 → RS I fr [] F3 M s3 σ3 H3 := fun R3 => (R2.unlock hps R3).sub nil_sub
    have outR : ∀ {F3 : Hp} {M : List Addr} {H3 : Hp} {r : RV} {v : V}, RetH I (nestF fr F2 L1 H1 ((lentRs true rs s1).zip vs)) F3 M H3 r v → RetH I fr F3 M H3 r v := fun h => RetH.unlock (st := s1) (σ2 := σ) R2 h
    have R3 := R2.nest
    generalize nestF fr F2 L1 H1 ((lentRs true rs s1).zip vs) = fr' at k2 k3 R3 out outR
    refine k1 _ fun J w => ?_
    refine for_it w (fun i σi Hi => ∃ F L s, RS I fr' [] F L s σi Hi ∧ PostS I W fr D (forR (fun x sa => (asgT t x sa).bind fun _ sb => execS T cf b sb) (xs.drop i) s)) ⟨F2, L1, s2, R3, P3⟩ ?_ ?_ ?_
    · rintro i σi Hi hi ⟨F, L, s, Rp, _⟩
      exact k2 _ _ _ _ _ _ Rp
    · rintro i v σi Hi H' hi ⟨F, L, s, Rp, Pp⟩ hy
      obtain ⟨z, hz, Rz, hit⟩ := k3 i v _ F L s _ Hi H' hi Rp hy
      have hdrop : xs.drop i = z :: xs.drop (i + 1) := by
        rw [List.drop_eq_getElem_cons hi]
        rw [List.getElem?_eq_getElem hi] at hz
        rw [Option.some.inj hz]
      rw [hdrop] at Pp
      have Pp : PostS I W fr D (((asgT t z s).bind fun _ sb => execS T cf b sb).bind fun k s1 => match k with
        | .nx => forR (fun x sa => (asgT t x sa).bind fun _ sb => execS T cf b sb) (xs.drop (i + 1)) s1
        | .cont => forR (fun x sa => (asgT t x sa).bind fun _ sb => execS T cf b sb) (xs.drop (i + 1)) s1
        | .brk => .ok .nx s1
        | .ret r => .ok (.ret r) s1) := Pp
      cases ea : asgT t z s with
      | ex q w => exact absurd ea (asgT_ex t _ _)
      | bad => rw [ea] at Pp; exact Pp.elim
      | ok u sb =>
        cases u
        rw [ea] at Pp
        have Pp : PostS I W fr D ((execS T cf b sb).bind fun k s1 => match k with
          | .nx => forR (fun x sa => (asgT t x sa).bind fun _ sb => execS T cf b sb) (xs.drop (i + 1)) s1
          | .cont => forR (fun x sa => (asgT t x sa).bind fun _ sb => execS T cf b sb) (xs.drop (i + 1)) s1
          | .brk => .ok .nx s1
          | .ret r => .ok (.ret r) s1) := Pp
        have htg : tgOk t I F L H' z v := by
          unfold tgOk
          cases hv : isVarT t with
          | true =>
            obtain ⟨n1, n2⟩ := hik hv
            cases ik <;> first | exact hit | exact absurd rfl n1 | exact absurd rfl n2
          | false =>
            show TgtV I F L H' z v
            cases ik <;> first | exact hit | exact .inl hit
        refine (asg_ok noSl_nil t).1 ea Rz htg fun σ' Rb _ _ => ?_
        refine ⟨fr', F, L, sb, Rb, ?_⟩
        cases e : execS T cf b sb with
        | ok k s3 =>
          rw [e] at Pp
          cases k with
          | nx => exact fun F3 L3 σ3 H3 R4 => ⟨F3, L3, s3, R4, Pp⟩
          | cont => exact fun F3 L3 σ3 H3 R4 => ⟨F3, L3, s3, R4, Pp⟩
          | brk => exact fun F3 L3 σ3 H3 R4 => Pp F3 L3 σ3 H3 (out R4)
          | ret r => exact fun F3 L3 σ3 H3 v R4 hr => Pp F3 L3 σ3 H3 v (out R4) (outR hr)
        | ex q s3 =>
          rw [e] at Pp
          exact fun F3 L3 σ3 H3 cls d R4 hx => Pp F3 L3 σ3 H3 cls d (out R4) hx
        | bad => rw [e] at Pp; exact Pp
    · rintro σn Hn ⟨F, L, s, Rp, Pp⟩
      rw [List.drop_length] at Pp
      exact Pp F L σn Hn (out Rp)
end
end Nr
end

section
set_option Elab.async false
set_option linter.all false
set_option maxRecDepth 100000
set_option maxHeartbeats 4000000
/-! E39: the text of a statement is checked against its core. -/
namespace Nr
open PySem PySem.Spec PyProof.Rows L2 PySem.W
/-- name = [..] stores from within the block -/
def swB (sc : Scope) (x : Str) (p : Pos) : Expr → Bool
  | .ListComp _ _ s vp => sc.names.lookup x == some .local && p.line == vp.line && !(s.names.any fun (n, k) => n == x && (k == .local || k == .cell))
  | _ => false
def notSC : Expr → Bool
  | .SetComp _ _ _ _ => false
  | .DictComp _ _ _ _ _ => false
  | _ => true
def notC : Expr → Bool
  | .ListComp _ _ _ _ => false
  | .SetComp _ _ _ _ => false
  | .DictComp _ _ _ _ _ => false
  | _ => true
def notTD : Expr → Bool
  | .Tuple _ _ _ => false
  | _ => true
theorem swB_ok {env : Env} {x : Str} {p : Pos} {v : Expr} {l : Nat} (hk : env.scope.kind = .function) (h : notSC v = true) : swapsWith v (some (.Name x p)) l env = pure (swB env.scope x p v) := by
  have hb : env.blockKind = .function := by unfold Env.blockKind; rw [hk]; rfl
  cases v with
  | ListComp elt gs s vp =>
    unfold swapsWith
    simp only [hb, Expr.pos]
    rfl
  | SetComp _ _ _ _ => cases h
  | DictComp _ _ _ _ _ => cases h
  | _ => rfl
theorem notC_sw {v : Expr} {t : Option Expr} {l : Nat} {env : Env} (h : notC v = true) : swapsWith v t l env = pure false := by
  cases v <;> first | rfl | (cases h; done)
theorem sw_attr {v o : Expr} {f : Str} {p : Pos} {l : Nat} {env : Env} : swapsWith v (some (.Attribute o f p)) l env = pure false := by
  cases v <;> rfl
theorem sw_sub {v o i : Expr} {p : Pos} {l : Nat} {env : Env} : swapsWith v (some (.Subscript o i p)) l env = pure false := by
  cases v <;> rfl
theorem sw_tup {v : Expr} {es : List Expr} {k : Nat} {p : Pos} {l : Nat} {env : Env} : swapsWith v (some (.Tuple es k p)) l env = pure false := by
  cases v <;> rfl
/-- the names of a, b = x, y -/
def swS (sc : Scope) (ts vs : List Expr) : Option (List Str) :=
  if (!(ts.length == 2 || ts.length == 3) || vs.length != ts.length) = true then none
  else if (vs.any fun | .Starred .. => true | _ => false) = true then none
  else
    let line := (ts.head?.map (·.pos.line)).getD 0
    let names := ts.filterMap fun
      | .Name id pos => if (sc.names.lookup id == some .local && pos.line == line) = true then some id else none
      | _ => none
    if (names.length != ts.length || names.eraseDups.length != names.length) = true then none
    else if vs.all (foldedForSure 8) = true then none
    else if vs.all (constantsAlone 8) = true then none
    else some names
theorem swS_ok {env : Env} {ts vs : List Expr} {k k2 : Nat} {p p2 : Pos} {names : List Str} (hk : env.scope.kind = .function) (h : swS env.scope ts vs = some names) : swappedStores [.Tuple ts k p] (.Tuple vs k2 p2) env = pure (some names) := by
  have hb : env.blockKind = .function := by unfold Env.blockKind; rw [hk]; rfl
  have hb2 : (env.blockKind != .function) = false := by rw [hb]; rfl
  unfold swS at h
  unfold swappedStores
  dsimp only
  split at h
  · cases h
  · rename_i c1
    split at h
    · cases h
    · rename_i c2
      dsimp only at h
      split at h
      · cases h
      · rename_i c3
        split at h
        · cases h
        · rename_i c4
          split at h
          · cases h
          · rename_i c5
            have h := Option.some.inj h
            rw [hb2, Bool.or_false]
            refine Eq.trans (if_neg c1) ?_
            refine Eq.trans (if_neg c2) ?_
            rw [← h]
            refine Eq.trans (if_neg c3) ?_
            refine Eq.trans (if_neg c4) ?_
            exact if_neg c5
def parF (sc : Scope) (N : List Str) (t : Tg) : Stmt → Option (List Expr)
  | .Assign [.Tuple [.Name x _, .Name y _] _ _] (.Tuple [a, b] _ _) _ => match t with
    | .cons (.var i) (.cons (.var j) .nil) => if N[i]? == some x && N[j]? == some y && decide (i ≠ j) && sc.names.lookup x == some .local && sc.names.lookup y == some .local && noStar a && noStar b then some [a, b] else none
    | _ => none
  | .Assign [.Tuple [.Name x _, .Name y _, .Name z _] _ _] (.Tuple [a, b, c] _ _) _ => match t with
    | .cons (.var i) (.cons (.var j) (.cons (.var l) .nil)) => if N[i]? == some x && N[j]? == some y && N[l]? == some z && decide (i ≠ j) && decide (i ≠ l) && decide (j ≠ l) && sc.names.lookup x == some .local && sc.names.lookup y == some .local && sc.names.lookup z == some .local && noStar a && noStar b && noStar c then some [a, b, c] else none
    | _ => none
  | _ => none
def parW (sc : Scope) : Stmt → Bool
  | .Assign [.Tuple ts _ _] (.Tuple vs _ _) _ => match swS sc ts vs with
    | some ns => ns == ts.filterMap fun | .Name x _ => some x | _ => none
    | none => false
  | _ => false
def varsT : Tg → Bool
  | .nil => true
  | .cons (.var _) b => varsT b
  | _ => false
/-- a, b = x, y is stored from a tuple -/
def swN (sc : Scope) (ts vs : List Expr) : Bool :=
  (!(ts.length == 2 || ts.length == 3) || vs.length != ts.length) ||
    (let line := (ts.head?.map (·.pos.line)).getD 0
    let names := ts.filterMap fun
      | .Name id pos => if (sc.names.lookup id == some .local && pos.line == line) = true then some id else none
      | _ => none
    (names.length != ts.length || names.eraseDups.length != names.length))
theorem swN_ok {env : Env} {ts vs : List Expr} {k k2 : Nat} {p p2 : Pos} (hk : env.scope.kind = .function) (h : swN env.scope ts vs = true) : swappedStores [.Tuple ts k p] (.Tuple vs k2 p2) env = pure none := by
  have hb : env.blockKind = .function := by unfold Env.blockKind; rw [hk]; rfl
  have hb2 : (env.blockKind != .function) = false := by rw [hb]; rfl
  unfold swN at h
  rw [Bool.or_eq_true] at h
  unfold swappedStores
  dsimp only
  rw [hb2, Bool.or_false]
  by_cases c1 : (!(ts.length == 2 || ts.length == 3) || vs.length != ts.length) = true
  · exact if_pos c1
  · refine Eq.trans (if_neg c1) ?_
    have h := h.resolve_left c1
    split
    · rfl
    · exact if_pos h
def parD (n : Nm) (raw : Scope) (t : Tg) : Stmt → Option (List Expr)
  | .Assign [.Tuple ts k p] (.Tuple vs _ _) _ => if varsT t && tgF n raw t (.Tuple ts k p) && swN raw ts vs then some vs else none
  | _ => none
def mutF (nm : Str) : Stmt → Option (Expr × Expr)
  | .Expr (.Call (.Attribute o y ap) [v] [] cp) _ => if y == nm && plainBase o && (ap.endLine == cp.line) && noStar v then some (o, v) else none
  | _ => none
def subF : Stmt → Option (Expr × Expr × Expr)
  | .Assign [.Subscript o i _] v _ => if noSlice i then some (o, i, v) else none
  | _ => none
def setF (n : Nm) (f : Nat) : Stmt → Option (Expr × Expr)
  | .Assign [.Attribute o y _] v _ => if y == n.an f then some (o, v) else none
  | _ => none
def isAdd : BOp → Bool
  | .add => true
  | _ => false
def isSub : BOp → Bool
  | .sub => true
  | _ => false
def augF (n : Nm) (raw : Scope) (i : Nat) (op : BOp) : Stmt → Option Expr
  | .AugAssign (.Name x _) .Add v _ => if n.N[i]? == some x && locB raw x && isAdd op then some v else none
  | .AugAssign (.Name x _) .Sub v _ => if n.N[i]? == some x && locB raw x && isSub op then some v else none
  | _ => none
def setNF (n : Nm) (raw : Scope) (i : Nat) : Stmt → Option (Str × Pos × Expr)
  | .Assign [.Name x p] v _ => if n.N[i]? == some x && locB raw x then some (x, p, v) else none
  | _ => none
def asgTF (n : Nm) (raw : Scope) (t : Tg) : Stmt → Option Expr
  | .Assign [.Tuple es k p] v _ => if tgF n raw t (.Tuple es k p) && notTD v then some v else none
  | _ => none
def isCompC : CE → Bool
  | .comp _ _ _ _ _ _ => true
  | _ => false
def isRaise : Stmt → Bool
  | .Raise _ _ _ => true
  | _ => false
/-- within a handler: no calls, no loops -/
def sutN (n : Nm) : Nm := { n with cm := false, fnn := fun _ => none, cln := fun _ => none, exn := fun _ => none }
def raiseF : Stmt → Option (Str × Expr)
  | .Raise (some (.Call (.Name x p) [a] [] q)) none r => some (x, a)
  | _ => none
def hndF : CS → Option (Nat × Nat × CS)
  | .hnd c (some i) b .skip => some (c, i, b)
  | _ => none
theorem hndF_eq {h b : CS} {c i : Nat} (e : hndF h = some (c, i, b)) : h = .hnd c (some i) b .skip := by
  unfold hndF at e
  split at e
  · cases e; rfl
  · cases e
def hndP : ExceptHandler → List ExceptHandler → Option (Str × Str × List Stmt)
  | .ExceptHandler (some (.Name y np)) (some m) (s0 :: su) q, [] => some (y, m, s0 :: su)
  | _, _ => none
theorem hndP_eq {h0 : ExceptHandler} {hs : List ExceptHandler} {y m : Str} {su : List Stmt} (e : hndP h0 hs = some (y, m, su)) : ∃ np q s0 su', su = s0 :: su' ∧ h0 = .ExceptHandler (some (.Name y np)) (some m) (s0 :: su') q ∧ hs = [] := by
  unfold hndP at e
  split at e
  · cases e; exact ⟨_, _, _, _, rfl, rfl, rfl⟩
  · cases e
def chkS (n : Nm) (ar : Ar) (nx : Bool) (sc : Scope) : CS → List Stmt → Bool
  | .skip, sts => match sts with
    | [] => true
    | [.Pass _] => true
    | _ => false
  | .seq a b, sts => match sts with
    | st :: s2 :: rest => chkS n ar nx sc a [st] && chkS n ar nx sc b (s2 :: rest)
    | _ => false
  | .asg t e, sts => match sts with
    | [st] => (match t with
      | .var i => (match setNF n sc i st with
        | some (x, p, v) => notSC v && chk n ar e .E sc [v] && (!swB sc x p v || isCompC e)
        | none => false)
      | _ => (match asgTF n sc t st with
        | some v => chk n ar e .E sc [v]
        | none => false))
    | _ => false
  | .par t es, sts => match sts with
    | [st] => n.cm && parW sc st && (match parF sc n.N t st with
      | some vs => chk n ar es .S sc vs
      | none => false) || decide (lenE es ≤ 1000) && (match parD n sc t st with
      | some vs => chk n ar es .S sc vs && (lenE es == lenT t)
      | none => false)
    | _ => false
  | .setsub a i e, sts => match sts with
    | [st] => (match subF st with
      | some (o, ix, v) => chk n ar a .E sc [o] && chk n ar i .E sc [ix] && chk n ar e .E sc [v]
      | none => false)
    | _ => false
  | .setattr a f e, sts => match sts with
    | [st] => (match setF n f st with
      | some (o, v) => chk n ar a .E sc [o] && chk n ar e .E sc [v]
      | none => false)
    | _ => false
  | .aug i op e, sts => match sts with
    | [st] => (match augF n sc i op st with
      | some v => chk n ar e .E sc [v]
      | none => false)
    | _ => false
  | .expr e, sts => match sts with
    | [.Expr v _] => notC v && chk n ar e .E sc [v]
    | _ => false
  | .ret e, sts => match sts with
    | [.Return (some v) _] => chk n ar e .E sc [v]
    | [.Return none _] => (match e with
      | .cst .non => true
      | _ => false)
    | _ => false
  | .ite c a b, sts => match sts with
    | [.If t x y _] => chk n ar c .T sc [t] && chkS n ar nx sc a x && chkS n ar nx sc b y
    | _ => false
  | .whl c b, sts => match sts with
    | [.While t x [] _] => chk n ar c .T sc [t] && chkS n ar nx sc b x
    | _ => false
  | .for_ fz t ik src b, sts => match sts with
    | [.For tg it x [] _] => n.cm && tgF n sc t tg && tgIk t ik && noSet it && (match itArgs n sc ik tg it with
      | some ys => chk n ar src .S sc ys
      | none => false) && chkS n ar nx sc b x
    | _ => false
  | .append a e, sts => match sts with
    | [st] => (match mutF "append" st with
      | some (o, v) => chk n ar a .E sc [o] && chk n ar e .E sc [v]
      | none => false)
    | _ => false
  | .extend a e, sts => match sts with
    | [st] => (match mutF "extend" st with
      | some (o, v) => chk n ar a .E sc [o] && chk n ar e .E sc [v]
      | none => false)
    | _ => false
  | .brk, sts => match sts with
    | [.Break _] => true
    | _ => false
  | .cont, sts => match sts with
    | [.Continue _] => true
    | _ => false
  | .raise c es, sts => match sts with
    | [st] => nx || (n.cm && (match raiseF st with
      | some (x, a) => n.rsn c && (n.exn c == some x) && glB sc x && noStar a && chk n ar es .S sc [a]
      | none => false))
    | _ => false
  | .try_ b h, sts => match sts with
    | [.Try x (h0 :: hs) [] [] _] => (nx && n.cm && chkS n ar nx sc b x) || (n.cm && chkS n ar nx sc b x && (match hndF h, hndP h0 hs with
      | some (c, i, _), some (y, m, su) => (n.exn c == some y) && glB sc y && (n.N[i]? == some m) && (sc.names.lookup m == some .local) && chkS (sutN n) ar nx sc h su
      | _, _ => false))
    | _ => false
  | .hnd c i b r, sts => chkS n ar nx sc b sts
  | _, _ => false
structure Cxt (I : Inf) (n : Nm) (k : Nat) (W : WX) (X : Cx) : Prop where
  good : Good I n X
  room : n.cm = true → Room (k + 1) X.A
  takes : Takes X W
  po : PassesOwn (model X.prog X.w) X.A X.env X.xe
  raw : RawOk X.env.scope X
  fk : X.env.scope.kind = .function
  stk : n.cm = true → X.stack = X.env :: X.outer ∧ X.env.frame = some X.env.locals
section
variable {I : Inf} {W : WX} {T : Tab} {cf : CallF} {n : Nm} {X : Cx} {ar : Ar} {k : Nat}
theorem good_nox (hc : n.cm = true) (g : Good I n X) : Good I n X.nox :=
  { pP := g.pP, pw := g.pw, pK := g.pK, pmg := g.pmg, pb := g.pb, pN := g.pN, nd := g.nd, calm := g.calm, un := g.un, blt := g.blt, con := g.con, an := g.an, sut := fun h => absurd (hc.symm.trans h) (by decide) }
theorem cxt_nox (hc : n.cm = true) (c : Cxt I n k W X) : Cxt I n k Wn X.nox :=
  { good := good_nox hc c.good, stk := c.stk, room := c.room, takes := takes_none5, po := PassesOwn.never, raw := ⟨c.raw.loc⟩, fk := c.fk }
/-- the parts of name = [..] -/
theorem s_setLc (E : Eng I n T cf ar k) (c : Cxt I n k W X) {i : Nat} {fz : Bool} {t : Tg} {ik : IK} {src cond elt : CE} {x : Str} {p spos : Pos} {v : Expr} (hi : n.N[i]? = some x) (hl : locB X.env.scope x = true) (hsw : swB X.env.scope x p v = true) (h : chk n ar (.comp fz t ik src cond elt) .E X.env.scope [v] = true) :
    PS X (.Assign [.Name x p] v spos) (tS I W (execS T cf (.asg (.var i) (.comp fz t ik src cond elt)))) := by
  have g := c.good
  unfold chk at h
  have h : (okM .E v && n.cm && (match compF' v with
      | some (ee, tg, it, ifs, scope) => tgF n scope t tg && tgIk t ik && noSet it && blkC n.N X.env.scope scope (ownOf n.N (tgVars t)) && (match itArgs n X.env.scope ik tg it with
        | some ys => chk n ar src .S X.env.scope ys
        | none => false) && (match ifs with
        | [] => isYes cond
        | [c] => !isYes cond && chk n ar cond .T (relS scope X.env.scope) [c]
        | _ => false) && chk n ar elt .E (relS scope X.env.scope) [ee]
      | none => false)) = true := h
  obtain ⟨h, h3⟩ := band h
  obtain ⟨_, h2⟩ := band h
  split at h3
  · rename_i e0 ee tg it ifs scope hu
    obtain ⟨h3, k7⟩ := band h3
    obtain ⟨h3, k6⟩ := band h3
    obtain ⟨h3, k5⟩ := band h3
    obtain ⟨h3, k4⟩ := band h3
    obtain ⟨h3, k3⟩ := band h3
    obtain ⟨k1, k2⟩ := band h3
    split at k5
    · rename_i ys hit
      have hs := s_chk E src .S W X ys g c.room c.takes k5
      unfold compF' at hu
      split at hu
      · cases hu
        unfold swB at hsw
        obtain ⟨hsw, w3⟩ := band hsw
        obtain ⟨w1, w2⟩ := band hsw
        have w1 := eq_of_beq w1
        refine (ps_setLc (tt := ttOf I T cf cond) (own := ownOf n.N (tgVars t)) (g.calm h2) g.nd (by rw [g.pN]; exact hi) w1 (sw_true c.fk w1 w2 (by simpa using w3))
          (s_iter g hit hs.1 (fun σ H QA QB k q => tEvs_imp q k) (fun l e _ => hs.2.1 l e)) (by rw [g.pN]; exact blkOk_by k4)
          (fun s H C cl fp => show PG (X.blk s H scope (compEnvC scope cl C X.env) fp) tg (gT X.K t) from (s_tg (good_blk h2 g s H scope C cl fp) (raw_blk s H scope C cl fp) t).1 k1) (fun s H C cl fp => ?_)
          (fun s H C cl fp => s_chk E elt .E Wn (X.blk s H scope (compEnvC scope cl C X.env) fp) [ee] (good_blk h2 g s H scope C cl fp) c.room takes_none5 k7 ee rfl) (notSet_iter k3 X.env)).imp fun D σ H q => ?_
        · split at k6
          · unfold ttOf
            rw [if_pos k6]
            exact pts_nil
          · obtain ⟨k6, k8⟩ := band k6
            unfold ttOf
            rw [if_neg (by simpa using k6)]
            exact pts_one (s_chk E cond .T Wn (X.blk s H scope (compEnvC scope cl C X.env) fp) _ (good_blk h2 g s H scope C cl fp) c.room takes_none5 k8 _ rfl).1
          · cases k6
        · have q := tEv_comp (tgIk_ok k2) (tS_set q)
          show tLc _ _ _ _ _ σ H _
          rw [ownOf_snd, g.pK]
          exact q
      · cases hu
    · cases k5
  · cases h3
end
end Nr
end

section
set_option Elab.async false
set_option linter.all false
set_option maxRecDepth 100000
set_option maxHeartbeats 4000000
/-! EX1: what is handled is known; values without exceptions are read alike. -/
namespace Nr
open PySem PySem.Spec PyProof.Rows L2
def Inf.at_ (I : Inf) (z : Option (Nat × Addr × Option Addr)) : Inf := { I with cur := z }
section
variable {I : Inf} {z : Option (Nat × Addr × Option Addr)} {F : Hp} {L : List Addr}
mutual
theorem RepV.up (h0 : I.cur = none) : ∀ (x : PV) (v : V), RepV I F L x v → RepV (I.at_ z) F L x v
  | .non, _, h => h | .bl _, _, h => h | .int _, _, h => h | .str _, _, h => h | .fn _, _, h => h
  | .tup xs, _, h => by obtain ⟨a, vs, e, s, r⟩ := h; exact ⟨a, vs, e, s, RepL.up h0 xs vs r⟩
  | .lst xs, _, h => by obtain ⟨a, vs, e, s, r⟩ := h; exact ⟨a, vs, e, s, RepL.up h0 xs vs r⟩
  | .scr ns, _, h => h
  | .dct kvs, _, h => by obtain ⟨a, ws, e, s, r⟩ := h; exact ⟨a, ws, e, s, RepD.up h0 kvs ws r⟩
  | .obj c fs, _, h => by obtain ⟨a, dx, ws, e, s, r⟩ := h; exact ⟨a, dx, ws, e, s, RepF.up h0 fs ws r⟩
  | .loc n, _, h => h
  | .err c fs, _, h => by obtain ⟨a, d, e, ec, _⟩ := h; rw [h0] at ec; cases ec
theorem RepL.up (h0 : I.cur = none) : ∀ (xs : List PV) (vs : List V), RepL I F L xs vs → RepL (I.at_ z) F L xs vs
  | [], _, h => h
  | x :: xs, _, h => by obtain ⟨v, r, e, h1, h2⟩ := h; exact ⟨v, r, e, RepV.up h0 x v h1, RepL.up h0 xs r h2⟩
theorem RepF.up (h0 : I.cur = none) : ∀ (fs : List (Nat × PV)) (ws : List (Str × V)), RepF I F L fs ws → RepF (I.at_ z) F L fs ws
  | [], _, h => h
  | (f, x) :: fs, _, h => by obtain ⟨v, r, e, h1, h2⟩ := h; exact ⟨v, r, e, RepV.up h0 x v h1, RepF.up h0 fs r h2⟩
theorem RepD.up (h0 : I.cur = none) : ∀ (kvs : List (PV × PV)) (ws : List (Key × V)), RepD I F L kvs ws → RepD (I.at_ z) F L kvs ws
  | [], _, h => h
  | (k, x) :: kvs, _, h => by obtain ⟨kk, v, r, e, h0', h1, h2⟩ := h; exact ⟨kk, v, r, e, h0', RepV.up h0 x v h1, RepD.up h0 kvs r h2⟩
end
mutual
theorem RepV.dn : ∀ (x : PV) (v : V), noErr x = true → RepV (I.at_ z) F L x v → RepV I F L x v
  | .non, _, _, h => h | .bl _, _, _, h => h | .int _, _, _, h => h | .str _, _, _, h => h | .fn _, _, _, h => h
  | .tup xs, _, n, h => by obtain ⟨a, vs, e, s, r⟩ := h; exact ⟨a, vs, e, s, RepL.dn xs vs n r⟩
  | .lst xs, _, n, h => by obtain ⟨a, vs, e, s, r⟩ := h; exact ⟨a, vs, e, s, RepL.dn xs vs n r⟩
  | .scr ns, _, _, h => h
  | .dct kvs, _, n, h => by obtain ⟨a, ws, e, s, r⟩ := h; exact ⟨a, ws, e, s, RepD.dn kvs ws n r⟩
  | .obj c fs, _, n, h => by obtain ⟨a, dx, ws, e, s, r⟩ := h; exact ⟨a, dx, ws, e, s, RepF.dn fs ws n r⟩
  | .loc n, _, _, h => h
  | .err c fs, _, n, h => absurd n (by simp [noErr])
theorem RepL.dn : ∀ (xs : List PV) (vs : List V), noErrL xs = true → RepL (I.at_ z) F L xs vs → RepL I F L xs vs
  | [], _, _, h => h
  | x :: xs, _, n, h => by
    rw [noErrL, Bool.and_eq_true] at n
    obtain ⟨v, r, e, h1, h2⟩ := h; exact ⟨v, r, e, RepV.dn x v n.1 h1, RepL.dn xs r n.2 h2⟩
theorem RepF.dn : ∀ (fs : List (Nat × PV)) (ws : List (Str × V)), noErrF fs = true → RepF (I.at_ z) F L fs ws → RepF I F L fs ws
  | [], _, _, h => h
  | (f, x) :: fs, _, n, h => by
    rw [noErrF, Bool.and_eq_true] at n
    obtain ⟨v, r, e, h1, h2⟩ := h; exact ⟨v, r, e, RepV.dn x v n.1 h1, RepF.dn fs r n.2 h2⟩
theorem RepD.dn : ∀ (kvs : List (PV × PV)) (ws : List (Key × V)), noErrD kvs = true → RepD (I.at_ z) F L kvs ws → RepD I F L kvs ws
  | [], _, _, h => h
  | (k, x) :: kvs, _, n, h => by
    rw [noErrD, Bool.and_eq_true] at n
    obtain ⟨kk, v, r, e, h0', h1, h2⟩ := h; exact ⟨kk, v, r, e, h0', RepV.dn x v n.1 h1, RepD.dn kvs r n.2 h2⟩
end
theorem RepC.up (h0 : I.cur = none) {c : PV} {o : HO} (h : RepC I F L c o) : RepC (I.at_ z) F L c o := by
  cases c with
  | lst xs => obtain ⟨vs, e, r⟩ := h; exact ⟨vs, e, RepL.up h0 xs vs r⟩
  | dct kvs => obtain ⟨ws, e, r⟩ := h; exact ⟨ws, e, RepD.up h0 kvs ws r⟩
  | obj c fs => obtain ⟨dx, ws, e, r⟩ := h; exact ⟨dx, ws, e, RepF.up h0 fs ws r⟩
  | _ => exact h.elim
theorem RepC.dn {c : PV} {o : HO} (n : noErr c = true) (h : RepC (I.at_ z) F L c o) : RepC I F L c o := by
  cases c with
  | lst xs => obtain ⟨vs, e, r⟩ := h; exact ⟨vs, e, RepL.dn xs vs n r⟩
  | dct kvs => obtain ⟨ws, e, r⟩ := h; exact ⟨ws, e, RepD.dn kvs ws n r⟩
  | obj c fs => obtain ⟨dx, ws, e, r⟩ := h; exact ⟨dx, ws, e, RepF.dn fs ws n r⟩
  | _ => exact h.elim
variable {fr : Frm} {s : St} {σ : L2.St} {H : Hp}
theorem AtC.up (h0 : I.cur = none) {c : PV} {a : Addr} (h : AtC I fr F L H c a) : AtC (I.at_ z) fr F L H c a := by
  obtain ⟨o, e, r, q⟩ := h
  exact ⟨o, e, r.up h0, q⟩
theorem AtC.dn {c : PV} {a : Addr} (n : noErr c = true) (h : AtC (I.at_ z) fr F L H c a) : AtC I fr F L H c a := by
  obtain ⟨o, e, r, q⟩ := h
  exact ⟨o, e, r.dn n, q⟩
theorem RS.up (h0 : I.cur = none) (R : RS I fr [] F L s σ H) : RS (I.at_ z) fr [] F L s σ H where
  len := R.len
  fz := R.fz
  kb := R.kb
  f0 := R.f0
  l0 := R.l0
  nw := R.nw
  cl := R.cl
  cell k a c h1 h2 := by obtain ⟨o, e, r⟩ := R.cell k a c h1 h2; exact ⟨o, e, r.up h0⟩
  lf := R.lf
  lb := R.lb
  ln := R.ln
  val i v e := by obtain ⟨u, e1, r⟩ := R.val i v e; exact ⟨u, e1, RepV.up h0 v u r⟩
  own i c e := by obtain ⟨a, e1, r⟩ := R.own i c e; exact ⟨a, e1, AtC.up h0 r⟩
  sep := R.sep
  hval p hp := by cases hp
  hsep := List.nodup_nil
  slf := R.slf
  sl := R.sl
theorem slot_ok {j : Nat} {x : Slot} (h : s.env.all noErrS = true) (e : s.get j = x) (hx : x ≠ .non) : noErrS x = true := by
  have hl := get_lt e hx
  rw [List.all_eq_true] at h
  refine h x ?_
  have : s.env.getD j .non = x := e
  rw [List.getD_eq_getElem?_getD, List.getElem?_eq_getElem hl] at this
  rw [← this]
  exact List.getElem_mem hl
theorem RS.dn (h1 : s.env.all noErrS = true) (h2 : s.cells.all noErr = true) (R : RS (I.at_ z) fr [] F L s σ H) : RS I fr [] F L s σ H where
  len := R.len
  fz := R.fz
  kb := R.kb
  f0 := R.f0
  l0 := R.l0
  nw := R.nw
  cl := R.cl
  cell k a c q1 q2 := by
    obtain ⟨o, e, r⟩ := R.cell k a c q1 q2
    rw [List.all_eq_true] at h2
    exact ⟨o, e, r.dn (h2 c (List.mem_of_getElem? q2))⟩
  lf := R.lf
  lb := R.lb
  ln := R.ln
  val i v e := by
    obtain ⟨u, e1, r⟩ := R.val i v e
    have : noErrS (.val v) = true := slot_ok h1 e (by intro q; cases q)
    exact ⟨u, e1, RepV.dn v u this r⟩
  own i c e := by
    obtain ⟨a, e1, r⟩ := R.own i c e
    have : noErrS (.own c) = true := slot_ok h1 e (by intro q; cases q)
    exact ⟨a, e1, AtC.dn this r⟩
  sep := R.sep
  hval p hp := by cases hp
  hsep := List.nodup_nil
  slf := R.slf
  sl := R.sl
/-- a slot is emptied -/
theorem RS.clr {i : Nat} (R : RS I fr [] F L s σ H) (hf : s.free i = true) : RS I fr [] F L (s.put i .non) (σ.set i none) H := by
  have gp : ∀ j x, (s.put i .non).get j = x → x ≠ .non → j ≠ i ∧ s.get j = x := fun j x e hx => by
    by_cases hi : i < s.env.length
    · rw [get_put hi] at e
      by_cases c : j = i
      · rw [if_pos c] at e; exact absurd e.symm hx
      · rw [if_neg c] at e; exact ⟨c, e⟩
    · have : (s.put i .non) = s := by
        unfold St.put
        rw [List.set_eq_of_length_le (by omega)]
      rw [this] at e
      refine ⟨fun c => ?_, e⟩
      have := get_lt e hx
      omega
  have gs : ∀ j, j ≠ i → (σ.set i none)[j]? = σ[j]? := fun j c => by rw [List.getElem?_set_ne (Ne.symm c)]
  exact {
    len := by show (s.env.set i .non).length = (σ.set i none).length; rw [List.length_set, List.length_set]; exact R.len
    fz := R.fz, kb := R.kb, f0 := R.f0, l0 := R.l0, nw := R.nw, cl := R.cl, cell := R.cell, lf := R.lf, lb := R.lb, ln := R.ln
    val := fun j v e => by
      obtain ⟨c, e⟩ := gp j _ e (by intro q; cases q)
      rw [gs j c]; exact R.val j v e
    own := fun j v e => by
      obtain ⟨c, e⟩ := gp j _ e (by intro q; cases q)
      rw [gs j c]; exact R.own j v e
    sep := fun j k c d e1 e2 q => by
      obtain ⟨c1, e1⟩ := gp j _ e1 (by intro q; cases q)
      obtain ⟨c2, e2⟩ := gp k _ e2 (by intro q; cases q)
      rw [gs j c1, gs k c2] at q
      exact R.sep j k c d e1 e2 q
    hval := fun p hp => by cases hp
    hsep := List.nodup_nil
    slf := fun v e => by
      have h0 := R.slf v e
      have hne : (0 : Nat) ≠ i := by
        intro q
        subst q
        have hs := R.sl
        unfold St.free at hf
        rw [hs, e] at hf
        cases hf
      rw [gs 0 hne]; exact h0
    sl := R.sl }
end
end Nr
end

section
set_option Elab.async false
set_option linter.all false
set_option maxRecDepth 100000
set_option maxHeartbeats 4000000
/-! EX2: raise and try, read. -/
namespace Nr
open PySem PySem.Spec PyProof.Rows L2 PySem.W
section
variable {I : Inf} {W : WX} {T : Tab} {cf : CallF} {n : Nm} {X : Cx} {ar : Ar} {k : Nat} {fr : Frm} {hs : List (RV × V)} {F : Hp} {L : List Addr} {s : St} {σ : Sg} {H : Hp}
/-- an exception's dict, new -/
theorem RS.pushX {p : Addr} {ws : List (Str × V)} (R : RS I fr [] F L s σ H) (n : H p = none) : RS I fr [] (upd F p (.xd ws)) L s σ (upd H p (.xd ws)) := by
  have R1 := R.garb (o := .xd ws) n
  have g : Grow F (upd F p (.xd ws)) L L := .fnew (R.fn n)
  have atk : ∀ {c : PV} {a : Addr}, AtC I fr F L (upd H p (.xd ws)) c a → a ≠ p → AtC I fr (upd F p (.xd ws)) L (upd H p (.xd ws)) c a := fun {c a} ⟨o, e, r, h1, h2⟩ ne => ⟨o, e, r.grow g, by rw [upd_ne ne]; exact h1, h2⟩
  have atne : ∀ {c : PV} {a : Addr}, AtC I fr F L H c a → a ≠ p := fun h => h.ne n
  refine { R1 with
    fz := fun a o e => ?_, f0 := fun a o e => g.f _ _ (R.f0 a o e), nw := fun a o e => ?_, cell := fun k a c h1 h2 => ?_, lf := fun a ha => ?_, val := fun i v hv => ?_, own := fun i c hc => ?_, hval := fun q hq => by cases hq }
  · by_cases c : a = p
    · subst c
      rw [upd_same] at e; cases e
      exact .inl upd_same
    · rw [upd_ne c] at e
      exact R1.fz a o e
  · by_cases c : a = p
    · subst c; exact .inr (R.bn n)
    · rw [upd_ne c] at e; exact R.nw a o e
  · obtain ⟨u, e, r⟩ := R1.cell k a c h1 h2
    exact ⟨u, e, r.grow g⟩
  · have : a ≠ p := fun z => by subst z; exact R.lnn n ha
    rw [upd_ne this]; exact R.lf a ha
  · obtain ⟨u, e, r⟩ := R.val i v hv
    exact ⟨u, e, r.grow g⟩
  · obtain ⟨a, e, r⟩ := R.own i c hc
    exact ⟨a, e, atk (r.upd n) (atne r)⟩
theorem toVal_ne {r : RV} {s : St} {q : PV} {w : St} : Nr.toVal r s ≠ .ex q w := by
  intro h
  cases r with
  | val v => cases h
  | tmp v => cases h
  | slot i =>
    have h : (match s.get i with
      | .own c => Nr.R.ok c (s.put i (.val c))
      | _ => .bad) = .ex q w := h
    cases hg : s.get i <;> rw [hg] at h <;> cases h
theorem toVals_ne : ∀ {rs : List RV} {s : St} {q : PV} {w : St}, Nr.toVals rs s ≠ .ex q w
  | [], s, q, w, h => by cases h
  | r :: rs, s, q, w, h => by
    have h : ((Nr.toVal r s).bind fun v s1 => (Nr.toVals rs s1).bind fun vs s2 => Nr.R.ok (v :: vs) s2) = .ex q w := h
    cases h1 : Nr.toVal r s with
    | ex a b => exact toVal_ne h1
    | bad => rw [h1] at h; cases h
    | ok a b =>
      rw [h1, R.bind_ok] at h
      cases h2 : Nr.toVals rs b with
      | ex c d => exact toVals_ne h2
      | bad => rw [h2] at h; cases h
      | ok c d => rw [h2, R.bind_ok] at h; cases h
theorem toVals_len : ∀ {rs : List RV} {s : St} {vs : List PV} {w : St}, Nr.toVals rs s = .ok vs w → vs.length = rs.length
  | [], s, q, w, h => by cases h; rfl
  | r :: rs, s, q, w, h => by
    have h : ((Nr.toVal r s).bind fun v s1 => (Nr.toVals rs s1).bind fun vs s2 => Nr.R.ok (v :: vs) s2) = .ok q w := h
    cases h1 : Nr.toVal r s with
    | ex a b => exact (toVal_ne h1).elim
    | bad => rw [h1] at h; cases h
    | ok a b =>
      rw [h1, R.bind_ok] at h
      cases h2 : Nr.toVals rs b with
      | ex c d => exact (toVals_ne h2).elim
      | bad => rw [h2] at h; cases h
      | ok c d =>
        rw [h2, R.bind_ok] at h
        cases h
        simp [toVals_len h2]
theorem tS_raiseE {c f : Nat} {es : CE} {D : Ends} (hfs : T.exc c = some [f]) (h : tS I W (execS T cf (.raise c es)) D σ H) : tMkS (I.cad c) (I.an f) (tEvs I W (evalEs T cf es)) σ H fun cls d H' => W cls d σ H' := by
  obtain ⟨fr, F, L, s, R, P⟩ := h
  have P : PostS I W fr D (if T.noex then .bad else (evalEs T cf es s).bind fun rs s1 => (Nr.toVals rs s1).bind fun vs s2 => (ofOpt (T.exc c) s2).bind fun fs _ => if fs.length = vs.length then .ex (.err c (fs.zip vs)) s2 else .bad) := P
  by_cases hx : T.noex = true
  · rw [hx] at P; exact P.elim
  · rw [if_neg hx, hfs] at P
    refine stepSs R P fun rs s1 F1 L1 H1 vs hl R1 P1 => ?_
    match rs, vs, hl with
    | [], [], _ => exact P1.elim
    | [r], [v], _ =>
      have P1 : PostS I W fr D ((Nr.toVal r s1).bind fun x s2 => if [f].length = [x].length then .ex (.err c ([f].zip [x])) s2 else .bad) := by
        have e : (Nr.toVals [r] s1).bind (fun vs s2 => (ofOpt (some [f]) s2).bind fun fs _ => if fs.length = vs.length then (Nr.R.ex (.err c (fs.zip vs)) s2 : Nr.R Fl) else .bad) = (Nr.toVal r s1).bind fun x s2 => if [f].length = [x].length then (Nr.R.ex (.err c ([f].zip [x])) s2 : Nr.R Fl) else .bad := by
          show ((Nr.toVal r s1).bind fun v s1 => (Nr.toVals [] s1).bind fun vs s2 => Nr.R.ok (v :: vs) s2).bind _ = _
          cases Nr.toVal r s1 with
          | ok a b => rfl
          | ex a b => rfl
          | bad => rfl
        rw [← e]
        exact P1
      obtain ⟨x, s', F', R', P2⟩ := PostS.val1 R1 P1
      have P2 : PostS I W fr D (.ex (.err c [(f, x)]) s') := P2
      refine ⟨v, rfl, fun d hd => ?_⟩
      have R2 := (R'.sub nil_sub).pushX (ws := [(I.an f, v)]) hd
      have g : Grow F' (upd F' d (.xd [(I.an f, v)])) L1 L1 := .fnew (R'.fn hd)
      exact P2 _ _ _ _ _ _ R2 ⟨rfl, d, _, rfl, upd_same, v, [], rfl, RepV.grow g x v R'.head, rfl⟩
    | r :: q :: rs, v :: u :: vs, _ =>
      cases hv : Nr.toVals (r :: q :: rs) s1 with
      | ex a b => exact (toVals_ne hv).elim
      | bad => rw [hv] at P1; exact P1.elim
      | ok a b =>
        have hl := toVals_len hv
        rw [hv] at P1
        have P1 : PostS I W fr D (if [f].length = a.length then .ex (.err c ([f].zip a)) b else .bad) := P1
        rw [if_neg (by rw [hl]; simp)] at P1
        exact P1.elim
/-- the ways on behind a handler: its slot is emptied -/
def dClr (i : Nat) (D : Ends) : Ends := { nx := fun σ' H' => D.nx (σ'.set i none) H', rt := D.rt, bk := fun σ' H' => D.bk (σ'.set i none) H', ct := fun σ' H' => D.ct (σ'.set i none) H' }
theorem post_clr {z : Option (Nat × Addr × Option Addr)} {i : Nat} {D : Ends} {r : Nr.R Fl} {b : Bool} (hb : fr.slf.isSome = b) (hfi : (!(b && i == 0)) = true) (P : PostS I W fr D (clrH i r)) : PostS (I.at_ z) Wn fr (dClr i D) r := by
  cases r with
  | bad => exact P.elim
  | ex q w => exact P.elim
  | ok k s =>
    have P : PostS I W fr D (if noErrK k && (s.put i .non).env.all noErrS && s.cells.all noErr then .ok k (s.put i .non) else .bad) := P
    by_cases hc : (noErrK k && (s.put i .non).env.all noErrS && s.cells.all noErr) = true
    · rw [if_pos hc] at P
      obtain ⟨hc, h3⟩ := band hc
      obtain ⟨h1, h2⟩ := band hc
      have key : ∀ {F L σ H}, RS (I.at_ z) fr [] F L s σ H → RS I fr [] F L (s.put i .non) (σ.set i none) H := fun {F L σ H} R => by
        have hf : s.free i = true := by
          unfold St.free
          rw [R.sl, hb]
          exact hfi
        exact RS.dn h2 h3 (R.clr hf)
      cases k with
      | nx => exact fun F L σ H R => P F L _ H (key R)
      | brk => exact fun F L σ H R => P F L _ H (key R)
      | cont => exact fun F L σ H R => P F L _ H (key R)
      | ret r =>
        cases r with
        | val x => exact fun F L σ H v R h => P F L _ H v (key R) (RepV.dn x v h1 h)
        | tmp c => exact fun F L σ H v R h => P F L _ H v (key R) (by obtain ⟨a, e, q⟩ := h; exact ⟨a, e, q.dn h1⟩)
        | slot j => exact fun F L σ H v R h => h.elim
    · rw [if_neg hc] at P
      exact P.elim
/-- what the suite of the clause keeps -/
def suT (I : Inf) (T : Tab) (cf : CallF) (hb : CS) (a : Addr) (cls : Value) (d : Option Addr) : TS := fun D σ H => ∃ c0, (∃ fs0, T.exc c0 = some fs0 ∧ cls = .ref (I.cad c0)) ∧ tS (I.at_ (some (c0, a, d))) Wn (execS T cf hb) D σ H
theorem tS_tryE {b hb : CS} {c i : Nat} {D : Ends} (h0 : I.cur = none) (hm : ∀ e fs, T.exc e = some fs → exmOne I.K (.ref (I.cad e)) (.ref (I.cad c)) = some (T.isExc e c)) (h : tS I W (execS T cf (.try_ b (.hnd c (some i) hb .skip))) D σ H) :
    tS I (wAs I.K (.ref (I.cad c)) i (suT I T cf hb) W D) (execS T cf b) D σ H := by
  obtain ⟨fr, F, L, s, R, P⟩ := h
  refine ⟨fr, F, L, s, R, ?_⟩
  have P : PostS I W fr D (match execS T cf b s with
    | .ok k s1 => .ok k s1
    | .bad => .bad
    | .ex e s1 => if T.noex then .bad else execS.execH T cf e (.hnd c (some i) hb .skip) s1) := P
  cases e : execS T cf b s with
  | ok k s1 =>
    rw [e] at P
    cases k with
    | nx => exact P
    | ret r => exact P
    | brk => exact P
    | cont => exact P
  | bad => rw [e] at P; exact P.elim
  | ex z s1 =>
    rw [e] at P
    have P1 : PostS I W fr D (if T.noex then .bad else execS.execH T cf z (.hnd c (some i) hb .skip) s1) := P
    clear P
    by_cases hx : T.noex = true
    · rw [hx] at P1; exact P1.elim
    · rw [if_neg hx] at P1
      intro F1 L1 σ1 H1 cls d R1 x
      cases z with
      | err c0 fs =>
        obtain ⟨hcls, dd, ws, hd, hF, hr⟩ := x
        have P2 : PostS I W fr D (if (T.exc c0).isSome then (if T.isExc c0 c then (if s1.free i then clrH i (execS T cf hb (s1.put i (.val (.err c0 fs)))) else .bad) else .ex (.err c0 fs) s1) else .bad) := by
          have e : execS.execH T cf (.err c0 fs) (.hnd c (some i) hb .skip) s1 = (if (T.exc c0).isSome then (if T.isExc c0 c then (if s1.free i then clrH i (execS T cf hb (s1.put i (.val (.err c0 fs)))) else .bad) else execS.execH T cf (.err c0 fs) .skip s1) else .bad) := rfl
          have e2 : execS.execH T cf (.err c0 fs) .skip s1 = .ex (.err c0 fs) s1 := rfl
          rw [e, e2] at P1
          exact P1
        clear P1
        by_cases hs : (T.exc c0).isSome = true
        · rw [if_pos hs] at P2
          obtain ⟨fs0, hfs⟩ := Option.isSome_iff_exists.mp hs
          refine ⟨T.isExc c0 c, ?_, fun hy a ha => ?_, fun hno => ?_⟩
          · rw [hcls]; exact hm c0 fs0 hfs
          · rw [if_pos hy] at P2
            by_cases hf : s1.free i = true
            · rw [if_pos hf] at P2
              refine ⟨c0, ⟨fs0, hfs, hcls⟩, fr, F1, L1, s1.put i (.val (.err c0 fs)), (RS.up (z := some (c0, a, d)) h0 R1).stV noSl_nil hf ⟨a, d, rfl, rfl, dd, ws, hd, hF, RepF.up h0 fs ws hr⟩, ?_⟩
              refine post_clr (b := s1.slf) R1.sl.symm hf P2
            · rw [if_neg hf] at P2; exact P2.elim
          · rw [if_neg (by rw [hno]; decide)] at P2
            exact P2 F1 L1 σ1 H1 cls d R1 ⟨hcls, dd, ws, hd, hF, hr⟩
        · rw [if_neg hs] at P2; exact P2.elim
      | _ => exact x.elim
theorem PSs.ex {α : Type} {p : α → Prop} {es : List Stmt} {t : α → TS} (h : ∀ z, p z → PSs X es (t z)) : PSs X es (fun D σ H => ∃ z, p z ∧ t z D σ H) := ⟨fun pins s σ H D Iv ⟨z, hp, q⟩ => (h z hp).run pins s σ H D Iv q⟩
theorem PS.no {e : Stmt} {t : TS} (h : ∀ D σ H, ¬ t D σ H) : PS X e t := ⟨fun pins s σ H D Iv q => (h D σ H q).elim⟩
theorem PSs.no {e : List Stmt} {t : TS} (h : ∀ D σ H, ¬ t D σ H) : PSs X e t := ⟨fun pins s σ H D Iv q => (h D σ H q).elim⟩
theorem tS_hnd {c : Nat} {sl : Option Nat} {b r : CS} {D : Ends} (h : tS I W (execS T cf (.hnd c sl b r)) D σ H) : False := by
  obtain ⟨fr, F, L, s, R, P⟩ := h
  exact P
/-- what the engine gives within a handler -/
theorem eng_sut (E : Eng I n T cf ar k) (z : Option (Nat × Addr × Option Addr)) : Eng (I.at_ z) (sutN n) T cf ar k where
  eqm := E.eqm
  lnm := E.lnm
  cls := ⟨E.cls.fld⟩
  fn f x h := by cases h
  mth h := by cases h
  mkc c x h := by cases h
  mn := E.mn
  cur h := by cases h
  rse c x h1 h2 := by cases h2
  exn c x h := by cases h
  exm e fs c x h1 h2 := by cases h2
  xf := E.xf
theorem cxt_tr (hc : n.cm = true) (c : Cxt I n k W X) {W' : WX} {pn : List (Addr × Obj)} {xe : Value → Shared → Prop} (tk : Takes (X.tr pn xe) W') (po : PassesOwn (model X.prog X.w) X.A X.env xe) : Cxt I n k W' (X.tr pn xe) where
  good := { pP := c.good.pP, pw := c.good.pw, pK := c.good.pK, pmg := c.good.pmg, pb := c.good.pb, pN := c.good.pN, nd := c.good.nd, calm := c.good.calm, un := c.good.un, blt := c.good.blt, con := c.good.con, an := c.good.an, sut := fun h => absurd (hc.symm.trans h) (by decide) }
  room := c.room
  takes := tk
  po := po
  raw := ⟨c.raw.loc⟩
  fk := c.fk
  stk := c.stk
theorem cxt_sut (E : Eng I n T cf ar k) (h0 : I.cur = none) (c : Cxt I n k W X) {a : Addr} {oe : Obj} {cls : Value} {d : Option Addr} {pn : List (Addr × Obj)} {c0 : Nat} {fs0 : List Nat} (he : T.exc c0 = some fs0) (hcls : cls = .ref (I.cad c0)) (hz : Zc cls d oe) (hd : ∃ vs, oe.data = .fields vs) :
    Cxt (I.at_ (some (c0, a, d))) (sutN n) k Wn (X.suite a ((a, oe) :: pn)) where
  good := {
    pP := c.good.pP, pw := c.good.pw, pK := c.good.pK, pmg := c.good.pmg, pb := c.good.pb, pN := c.good.pN, nd := c.good.nd, calm := fun h => by cases h
    un := c.good.un
    blt := c.good.blt
    con := fun x v h => by
      obtain ⟨u, w, e1, e2, e3⟩ := c.good.con x v h
      exact ⟨u, w, e1, e2, fun F L => RepV.up h0 v w (e3 F L)⟩
    an := c.good.an
    sut := fun _ => ⟨X, a, oe, cls, d, pn, c0, rfl, hz, hd, rfl, hcls, (E.xf c0 fs0 he).1, (E.xf c0 fs0 he).2⟩ }
  room h := by cases h
  takes := fun u s' ⟨_, _, _, _, _, _, _, _, _, _, _, _, _, _, _, _, w⟩ => w.elim
  po := PassesOwn.never
  raw := ⟨c.raw.loc⟩
  fk := c.fk
  stk h := by cases h
end
end Nr
end

section
set_option Elab.async false
set_option linter.all false
set_option maxRecDepth 100000
set_option maxHeartbeats 4000000
/-! E40: every statement that is checked. -/
namespace Nr
open PySem PySem.Spec PyProof.Rows L2 PySem.W
section
variable {I : Inf} {W : WX} {T : Tab} {cf : CallF} {n : Nm} {X : Cx} {ar : Ar} {k : Nat} {nx : Bool}
theorem tS_raise {c : Nat} {es : CE} {D : Ends} {σ : Sg} {H : Hp} (hx : T.noex = true) (h : tS I W (execS T cf (.raise c es)) D σ H) : tNever D σ H := by
  obtain ⟨fr, F, L, s, R, P⟩ := h
  have P : PostS I W fr D (if T.noex then .bad else (evalEs T cf es s).bind fun rs s1 => (Nr.toVals rs s1).bind fun vs s2 => (ofOpt (T.exc c) s2).bind fun fs _ => if fs.length = vs.length then .ex (.err c (fs.zip vs)) s2 else .bad) := P
  rw [hx] at P
  exact P.elim
theorem tS_try {b h : CS} {D : Ends} {σ : Sg} {H : Hp} (hx : T.noex = true) (q : tS I W (execS T cf (.try_ b h)) D σ H) : tS I Wn (execS T cf b) D σ H := by
  obtain ⟨fr, F, L, s, R, P⟩ := q
  refine ⟨fr, F, L, s, R, ?_⟩
  have P : PostS I W fr D (match execS T cf b s with
    | .ok k s1 => .ok k s1
    | .bad => .bad
    | .ex e s1 => if T.noex then .bad else execS.execH T cf e h s1) := P
  cases e : execS T cf b s with
  | ok k s1 =>
    rw [e] at P
    cases k with
    | nx => exact P
    | ret r => exact P
    | brk => exact P
    | cont => exact P
  | ex z s1 =>
    rw [e] at P
    have P : PostS I W fr D (if T.noex then .bad else execS.execH T cf z h s1) := P
    rw [hx] at P
    exact P.elim
  | bad => rw [e] at P; exact P
theorem assign1 {tg : Expr} {env : Env} (h : noStar tg = true) : (assignEach [tg] env).map (·.2) = [assign tg env] := by
  rw [noStar_asg h]; rfl
theorem plainIx_asg {o i : Expr} {pos : Pos} {env : Env} (h : noSlice i = true) : ∀ v, assign (.Subscript o i pos) env v = (do
      let ov ← holding [v] (eval o env)
      let iv ← holding [v, ov] (eval i env)
      standAt pos
      holding [v, ov, iv] (setItem ov iv v)
      release [v, ov, iv] []) := by
  intro v
  cases i <;> first | rfl | (cases h; done)
theorem mut_ok {name : Str} {o v : Expr} {st : Stmt} {to tv : TE} {as : List (MtAlt X name)} (h : mutF name st = some (o, v)) (ho : PE X o to) (hv : PE X v tv) : PS X st (tDrop (tBMs as to (tCons tv tNil))) := by
  unfold mutF at h
  split at h
  · split at h
    · rename_i hb
      cases h
      obtain ⟨hb, b4⟩ := band hb
      obtain ⟨hb, b3⟩ := band hb
      obtain ⟨b1, b2⟩ := band hb
      have hm := eq_of_beq b1
      subst hm
      exact ps_expr (pe_bms ho (pa_cons hv pa_nil (noStar_each b4)) (plainBase_ok b2) (few1 b4) b3 (noStar_each b4) rfl) rfl
    · cases h
  · cases h
theorem hTD {es : List Expr} {k : Nat} {p : Pos} {v : Expr} {env : Env} (h : notTD v = true) : swappedStores [.Tuple es k p] v env = pure none := by
  cases v <;> first | rfl | (cases h; done)
theorem hSub {o i : Expr} {p : Pos} {v : Expr} {env : Env} : swappedStores [.Subscript o i p] v env = pure none := by
  cases v <;> rfl
theorem ps_asgT {es : List Expr} {kk : Nat} {p pos : Pos} {v : Expr} {te : TE} {g : TG} (he : PE X v te) (hg : PG X (.Tuple es kk p) g) (h : notTD v = true) : PS X (.Assign [.Tuple es kk p] v pos) (tAsg te g) :=
  ps_asg (tg := .Tuple es kk p) (e := v) (pos := pos) he hg (show swapsWith v (some (.Tuple es kk p)) pos.line X.env = pure false from sw_tup) (hTD h) rfl
theorem ps_asgS {o i : Expr} {p pos : Pos} {v : Expr} {te : TE} {g : TG} (he : PE X v te) (hg : PG X (.Subscript o i p) g) : PS X (.Assign [.Subscript o i p] v pos) (tAsg te g) :=
  ps_asg (tg := .Subscript o i p) (e := v) (pos := pos) he hg (show swapsWith v (some (.Subscript o i p)) pos.line X.env = pure false from sw_sub) hSub rfl
/-- a statement alone -/
def Both (X : Cx) (sts : List Stmt) (t : TS) : Prop := PSs X sts t ∧ ∀ st, sts = [st] → PS X st t
theorem both1 {st : Stmt} {t : TS} (h : PS X st t) : Both X [st] t := ⟨pss_one h, fun st' e => by cases e; exact h⟩
theorem len2V {vs : List V} (h : vs.length = 2) : ∃ v w, vs = [v, w] := by
  match vs, h with
  | [v, w], _ => exact ⟨v, w, rfl⟩
theorem len3V {vs : List V} (h : vs.length = 3) : ∃ u v w, vs = [u, v, w] := by
  match vs, h with
  | [u, v, w], _ => exact ⟨u, v, w, rfl⟩
theorem chk_len {c : CE} {sc : Scope} : ∀ {es : List Expr}, chk n ar c .S sc es = true → lenE c = es.length := by
  induction c with
  | nil =>
    intro es h
    cases es with
    | nil => rfl
    | cons a b => cases h
  | cons a b iha ihb =>
    intro es h
    cases es with
    | nil => cases h
    | cons e es =>
      have h : (noStar e && chk n ar a .E sc [e] && chk n ar b .S sc es) = true := h
      have := ihb (band h).2
      show lenE b + 1 = es.length + 1
      rw [this]
  | eattr i f =>
    intro es h
    exfalso
    unfold chk at h
    split at h
    · simp [okM, notS] at h
    · cases h
  | _ =>
    intro es h
    exfalso
    cases es with
    | nil => cases h
    | cons e es =>
      cases es with
      | nil =>
        unfold chk at h
        simp [okM, notS] at h
      | cons e2 es => cases h
theorem ps_asgD {es vs : List Expr} {kk k2 : Nat} {p p2 pos : Pos} {te : TE} {g : TG} (he : PE X (.Tuple vs k2 p2) te) (hg : PG X (.Tuple es kk p) g) (h : swappedStores [.Tuple es kk p] (.Tuple vs k2 p2) X.env = pure none) : PS X (.Assign [.Tuple es kk p] (.Tuple vs k2 p2) pos) (tAsg te g) :=
  ps_asg (tg := .Tuple es kk p) (e := .Tuple vs k2 p2) (pos := pos) he hg (show swapsWith (.Tuple vs k2 p2) (some (.Tuple es kk p)) pos.line X.env = pure false from sw_tup) h rfl
theorem gts_sets {K : PySem.W.Frag} : ∀ {t : Tg} {vs : List V} {σ : Sg} {H : Hp} {Q : Sg → Hp → Prop}, varsT t = true → vs.length = lenT t → Q (setsT t vs σ) H → gTs K t vs σ H Q
  | .nil, vs, σ, H, Q, h, hl, q => by
    have e : vs = [] := List.eq_nil_of_length_eq_zero hl
    subst e
    exact ⟨rfl, q⟩
  | .var i, vs, σ, H, Q, h, hl, q => by cases h
  | .cons a b, [], σ, H, Q, h, hl, q => by cases hl
  | .cons a b, v :: vs, σ, H, Q, h, hl, q => by
    cases a with
    | var i => exact ⟨v, vs, rfl, gts_sets (t := b) (show varsT b = true from h) (Nat.succ.inj hl) q⟩
    | nil => cases h
    | cons c d => cases h
theorem tS_parD {t : Tg} {es : CE} {D : Ends} {σ : Sg} {H : Hp} (h : tS I W (execS T cf (.par t es)) D σ H) : tEvs I W (evalEs T cf es) σ H fun vs H1 => ∀ p o, H1 p = none → D.nx (setsT t vs σ) (upd H1 p o) := by
  obtain ⟨fr, F, L, s, R, P⟩ := h
  refine stepSs R P fun rs s1 F1 L1 H1 vs hl R1 P1 => ?_
  have P1 : PostS I W fr D ((toSlots rs s1).bind fun xs s2 => (parT t xs s2).bind fun _ s3 => .ok .nx s3) := P1
  cases e1 : toSlots rs s1 with
  | bad => rw [e1] at P1; exact P1.elim
  | ex q w => exact absurd e1 toSlots_ex
  | ok xs s2 =>
    rw [e1] at P1
    obtain ⟨F2, R2, l2, n2⟩ := toSlots_ok (hs := []) hl (R1.perm (push_perm rs vs [])) e1
    rw [List.append_nil] at R2
    have P1 : PostS I W fr D ((parT t xs s2).bind fun _ s3 => .ok .nx s3) := P1
    cases e2 : parT t xs s2 with
    | bad => rw [e2] at P1; exact P1.elim
    | ex q w => exact absurd e2 parT_ex
    | ok u s3 =>
      cases u
      rw [e2] at P1
      exact fun p o hp => P1 F2 L1 _ _ ((parT_ok (by rw [hl, l2]) n2 R2 e2).garb hp)
theorem s_parD (E : Eng I n T cf ar k) (cx : Cxt I n k W X) {t : Tg} {es : CE} {st : Stmt} (h : (decide (lenE es ≤ 1000) && (match parD n X.env.scope t st with
      | some vs => chk n ar es .S X.env.scope vs && (lenE es == lenT t)
      | none => false)) = true) : Both X [st] (tS I W (execS T cf (.par t es))) := by
  obtain ⟨h1, h2⟩ := band h
  split at h2
  · rename_i vs hu
    obtain ⟨h2, h3⟩ := band h2
    have hx := (s_chk E es .S W X vs cx.good cx.room cx.takes h2).1
    unfold parD at hu
    split at hu
    · split at hu
      · rename_i hb
        cases hu
        obtain ⟨hb, b3⟩ := band hb
        obtain ⟨b1, b2⟩ := band hb
        have hg := (s_tg cx.good cx.raw t).1 b2
        have hl := eq_of_beq h3
        refine both1 ((ps_asgD (pe_tupF hx) hg (swN_ok cx.fk b3)).imp fun D σ H q => ?_)
        refine tEvs_imp (tEvs_len (tS_parD q)) fun vs H1 q => ?_
        obtain ⟨q1, q2⟩ := q
        refine ⟨by rw [q1]; exact Nat.le_trans (of_decide_eq_true h1) (by rw [sizeLine_eq]; decide), fun p O hO hp => ?_⟩
        cases t with
        | var i => cases b1
        | nil => cases b2
        | cons a b => exact ⟨p, vs, rfl, .inl (.inr ⟨O, upd_same⟩), by rw [q1, hl]; rfl, gts_sets (t := .cons a b) b1 (by rw [q1, hl]) (q2 p _ hp)⟩
      · cases hu
    · cases hu
  · cases h2
def MainS (T : Tab) (cf : CallF) (ar : Ar) (k : Nat) (nx : Bool) (c : CS) : Prop := ∀ (I : Inf) (n : Nm) (E : Eng I n T cf ar k) (W : WX) (X : Cx) (sts : List Stmt), Cxt I n k W X → chkS n ar nx X.env.scope c sts = true → Both X sts (tS I W (execS T cf c))
theorem s_chkS2 (hnx : nx = true → T.noex = true) : ∀ (c : CS), MainS T cf ar k nx c ∧ ∀ c' i hb r, c = .hnd c' i hb r → MainS T cf ar k nx hb := by
  intro c
  induction c with
  | skip =>
    refine ⟨?_, fun c' i hb r e => by cases e⟩
    intro I n E W X sts cx h
    unfold chkS at h
    split at h
    · exact ⟨pss_nil.imp fun D σ H q => tS_skip q, fun st e => by cases e⟩
    · exact both1 (ps_pass.imp fun D σ H q => tS_skip q)
    · cases h
  | seq a b iha ihb =>
    refine ⟨?_, fun c' i hb r e => by cases e⟩
    intro I n E W X sts cx h
    unfold chkS at h
    split at h
    · rename_i st s2 rest
      obtain ⟨h1, h2⟩ := band h
      have ha := (iha.1 I n E W X [st] cx h1).2 st rfl
      have hb := (ihb.1 I n E W X (s2 :: rest) cx h2).1
      exact ⟨(pss_cons ha hb).imp fun D σ H q => tS_seq q, fun st e => by cases e⟩
    · cases h
  | asg t e =>
    refine ⟨?_, fun c' i hb r e => by cases e⟩
    intro I n E W X sts cx h
    unfold chkS at h
    split at h
    · rename_i st
      split at h
      · rename_i i
        split at h
        · rename_i x p v hu
          obtain ⟨h, h3⟩ := band h
          obtain ⟨h1, h2⟩ := band h
          unfold setNF at hu
          split at hu
          · split at hu
            · rename_i hb
              cases hu
              obtain ⟨b1, b2⟩ := band hb
              have b1 := eq_of_beq b1
              by_cases hs : swB X.env.scope x p v = true
              · rw [hs] at h3
                have h3 : isCompC e = true := h3
                cases e with
                | comp fz t ik src cond elt => exact both1 (s_setLc E cx b1 b2 hs h2)
                | _ => cases h3
              · have hs : swB X.env.scope x p v = false := by simpa using hs
                have he := s_chk E e .E W X [v] cx.good cx.room cx.takes h2 v rfl
                exact both1 ((ps_set cx.good.nd (by rw [cx.good.pN]; exact b1) (cx.raw.loc _ b2).1 he (by rw [swB_ok cx.fk h1, hs]) (cx.raw.loc _ b2).2).imp fun D σ H q => tS_set q)
            · cases hu
          · cases hu
        · cases h
      · rename_i ht
        split at h
        · rename_i v hu
          have he := s_chk E e .E W X [v] cx.good cx.room cx.takes h v rfl
          unfold asgTF at hu
          split at hu
          · split at hu
            · rename_i hb
              cases hu
              obtain ⟨b1, b2⟩ := band hb
              have hg := (s_tg cx.good cx.raw t).1 b1
              have hv : isVarT t = false := by cases t <;> first | rfl | (exact absurd rfl (ht _))
              refine both1 ((ps_asgT he hg b2).imp fun D σ H q => ?_)
              rw [cx.good.pK]
              exact tS_asgT hv q
            · cases hu
          · cases hu
        · cases h
    · cases h
  | par t es =>
    refine ⟨?_, fun c' i hb r e => by cases e⟩
    intro I n E W X sts cx h
    unfold chkS at h
    split at h
    · rename_i st
      rw [Bool.or_eq_true] at h
      rcases h with h | h
      rotate_left
      · exact s_parD E cx h
      obtain ⟨h, h3⟩ := band h
      obtain ⟨h1, h2⟩ := band h
      split at h3
      · rename_i vs hu
        have hx := (s_chk E es .S W X vs cx.good cx.room cx.takes h3).1
        have hlen := chk_len h3
        unfold parF at hu
        split at hu
        · split at hu
          · split at hu
            · rename_i hb
              cases hu
              simp only [Bool.and_eq_true, decide_eq_true_eq, beq_iff_eq] at hb
              obtain ⟨⟨⟨⟨⟨⟨b1, b2⟩, b3⟩, b4⟩, b5⟩, b6⟩, b7⟩ := hb
              unfold parW at h2
              dsimp only at h2
              split at h2
              · rename_i ns hns
                have h2 := eq_of_beq h2
                subst h2
                refine both1 ((ps_par (cx.good.calm h1) cx.good.nd (by rw [cx.good.pN]; exact b1) (by rw [cx.good.pN]; exact b2) b3 b4 b5 hx (swS_ok cx.fk hns) rfl).imp fun D σ H q => ?_)
                refine tEvs_imp (tEvs_len (tS_par q)) fun vs H1 q => ?_
                obtain ⟨hl, q⟩ := q
                rw [hlen] at hl
                obtain ⟨v, w, e⟩ := len2V hl
                subst e
                exact ⟨v, w, rfl, q⟩
              · cases h2
            · cases hu
          · cases hu
        · split at hu
          · split at hu
            · rename_i hb
              cases hu
              simp only [Bool.and_eq_true, decide_eq_true_eq, beq_iff_eq] at hb
              obtain ⟨⟨⟨⟨⟨⟨⟨⟨⟨⟨⟨b1, b2⟩, b3⟩, d1⟩, d2⟩, d3⟩, b4⟩, b5⟩, b6⟩, b7⟩, b8⟩, b9⟩ := hb
              unfold parW at h2
              dsimp only at h2
              split at h2
              · rename_i ns hns
                have h2 := eq_of_beq h2
                subst h2
                refine both1 ((ps_par3 (cx.good.calm h1) cx.good.nd (by rw [cx.good.pN]; exact b1) (by rw [cx.good.pN]; exact b2) (by rw [cx.good.pN]; exact b3) d1 d2 d3 b4 b5 b6 hx (swS_ok cx.fk hns) rfl).imp fun D σ H q => ?_)
                refine tEvs_imp (tEvs_len (tS_par q)) fun vs H1 q => ?_
                obtain ⟨hl, q⟩ := q
                rw [hlen] at hl
                obtain ⟨u, v, w, e⟩ := len3V hl
                subst e
                exact ⟨u, v, w, rfl, q⟩
              · cases h2
            · cases hu
          · cases hu
        · cases hu
      · cases h3
    · cases h
  | setsub a i e =>
    refine ⟨?_, fun c' i hb r e => by cases e⟩
    intro I n E W X sts cx h
    unfold chkS at h
    split at h
    · rename_i st
      split at h
      · rename_i o ix v hu
        obtain ⟨h, h3⟩ := band h
        obtain ⟨h1, h2⟩ := band h
        have ha := s_chk E a .E W X [o] cx.good cx.room cx.takes h1 o rfl
        have hi := s_chk E i .E W X [ix] cx.good cx.room cx.takes h2 ix rfl
        have he := s_chk E e .E W X [v] cx.good cx.room cx.takes h3 v rfl
        unfold subF at hu
        split at hu
        · split at hu
          · rename_i hb
            cases hu
            exact both1 ((ps_asgS he (pg_sub ha hi (PSet.or set_list (set_dict (by have := cx.good.un; omega))) (plainIx_asg hb))).imp fun D σ H q => tS_setsub q)
          · cases hu
        · cases hu
      · cases h
    · cases h
  | setattr a f e =>
    refine ⟨?_, fun c' i hb r e => by cases e⟩
    intro I n E W X sts cx h
    unfold chkS at h
    split at h
    · rename_i st
      split at h
      · rename_i o v hu
        obtain ⟨h1, h2⟩ := band h
        have ha := s_chk E a .E W X [o] cx.good cx.room cx.takes h1 o rfl
        have he := s_chk E e .E W X [v] cx.good cx.room cx.takes h2 v rfl
        unfold setF at hu
        split at hu
        · split at hu
          · rename_i hb
            cases hu
            have hb := eq_of_beq hb
            subst hb
            refine both1 ((ps_fld ha he sw_attr).imp fun D σ H q => ?_)
            rw [cx.good.pK, ← cx.good.an f]
            exact tS_setattr E.cls q
          · cases hu
        · cases hu
      · cases h
    · cases h
  | aug i op e =>
    refine ⟨?_, fun c' i hb r e => by cases e⟩
    intro I n E W X sts cx h
    unfold chkS at h
    split at h
    · rename_i st
      split at h
      · rename_i v hu
        have he := s_chk E e .E W X [v] cx.good cx.room cx.takes h v rfl
        unfold augF at hu
        split at hu
        · split at hu
          · rename_i hb
            cases hu
            obtain ⟨hb, b3⟩ := band hb
            obtain ⟨b1, b2⟩ := band hb
            have b1 := eq_of_beq b1
            have eo : op = .add := by cases op <;> first | rfl | (cases b3; done)
            subst eo
            exact both1 ((ps_aug cx.good.nd (by rw [cx.good.pN]; exact b1) (cx.raw.loc _ b2).1 he ip_add (cx.raw.loc _ b2).2).imp fun D σ H q => tS_aug q)
          · cases hu
        · split at hu
          · rename_i hb
            cases hu
            obtain ⟨hb, b3⟩ := band hb
            obtain ⟨b1, b2⟩ := band hb
            have b1 := eq_of_beq b1
            have eo : op = .sub := by cases op <;> first | rfl | (cases b3; done)
            subst eo
            exact both1 ((ps_aug cx.good.nd (by rw [cx.good.pN]; exact b1) (cx.raw.loc _ b2).1 he ip_sub (cx.raw.loc _ b2).2).imp fun D σ H q => tS_aug q)
          · cases hu
        · cases hu
      · cases h
    · cases h
  | expr e =>
    refine ⟨?_, fun c' i hb r e => by cases e⟩
    intro I n E W X sts cx h
    unfold chkS at h
    split at h
    · rename_i v p
      obtain ⟨h1, h2⟩ := band h
      exact both1 ((ps_expr (s_chk E e .E W X [v] cx.good cx.room cx.takes h2 v rfl) (notC_sw h1)).imp fun D σ H q => tS_expr q)
    · cases h
  | ret e =>
    refine ⟨?_, fun c' i hb r e => by cases e⟩
    intro I n E W X sts cx h
    unfold chkS at h
    split at h
    · rename_i v p
      exact both1 ((ps_ret (s_chk E e .E W X [v] cx.good cx.room cx.takes h v rfl)).imp fun D σ H q => tS_ret q)
    · split at h
      · refine both1 (ps_retN.imp fun D σ H q => ?_)
        have q := tS_ret q
        exact tEv_cst (I := I) (x := .non) (v := .non) (fun _ _ => rfl) q
      · cases h
    · cases h
  | ite c a b iha ihb =>
    refine ⟨?_, fun c' i hb r e => by cases e⟩
    intro I n E W X sts cx h
    unfold chkS at h
    split at h
    · rename_i t x y p
      obtain ⟨h, h3⟩ := band h
      obtain ⟨h1, h2⟩ := band h
      exact both1 ((ps_if (s_chk E c .T W X [t] cx.good cx.room cx.takes h1 t rfl).1 (iha.1 I n E W X x cx h2).1 (ihb.1 I n E W X y cx h3).1).imp fun D σ H q => tS_ite q)
    · cases h
  | whl c b ihb =>
    refine ⟨?_, fun c' i hb r e => by cases e⟩
    intro I n E W X sts cx h
    unfold chkS at h
    split at h
    · rename_i t x p
      obtain ⟨h1, h2⟩ := band h
      exact both1 ((ps_while cx.po (s_chk E c .T W X [t] cx.good cx.room cx.takes h1 t rfl).1 (ihb.1 I n E W X x cx h2).1).imp fun D σ H q => tS_whl q)
    · cases h
  | for_ fz t ik src b ihb =>
    refine ⟨?_, fun c' i hb r e => by cases e⟩
    intro I n E W X sts cx h
    unfold chkS at h
    split at h
    · rename_i tg it x p
      obtain ⟨h, h6⟩ := band h
      obtain ⟨h, h5⟩ := band h
      obtain ⟨h, h4⟩ := band h
      obtain ⟨h, h3⟩ := band h
      obtain ⟨h1, h2⟩ := band h
      split at h5
      · rename_i ys hit
        have hs := s_chk E src .S W X ys cx.good cx.room cx.takes h5
        refine both1 ((ps_for cx.po (cx.good.calm h1) (s_iter cx.good hit hs.1 (fun σ H QA QB k q => tEvs_imp q k) (fun l e _ => hs.2.1 l e)) ((s_tg cx.good cx.raw t).1 h2) (ihb.1 I n E W X x cx h6).1 (notSet_iter h4 X.env)).imp fun D σ H q => ?_)
        rw [cx.good.pK]
        exact tS_for (tgIk_ok h3) q
      · cases h5
    · cases h
  | append a e =>
    refine ⟨?_, fun c' i hb r e => by cases e⟩
    intro I n E W X sts cx h
    unfold chkS at h
    split at h
    · rename_i st
      split at h
      · rename_i o v hu
        obtain ⟨h1, h2⟩ := band h
        exact both1 ((mut_ok hu (s_chk E a .E W X [o] cx.good cx.room cx.takes h1 o rfl) (s_chk E e .E W X [v] cx.good cx.room cx.takes h2 v rfl)).imp fun D σ H q => tS_append q)
      · cases h
    · cases h
  | extend a e =>
    refine ⟨?_, fun c' i hb r e => by cases e⟩
    intro I n E W X sts cx h
    unfold chkS at h
    split at h
    · rename_i st
      split at h
      · rename_i o v hu
        obtain ⟨h1, h2⟩ := band h
        exact both1 ((mut_ok hu (s_chk E a .E W X [o] cx.good cx.room cx.takes h1 o rfl) (s_chk E e .E W X [v] cx.good cx.room cx.takes h2 v rfl)).imp fun D σ H q => tS_extend q)
      · cases h
    · cases h
  | brk =>
    refine ⟨?_, fun c' i hb r e => by cases e⟩
    intro I n E W X sts cx h
    unfold chkS at h
    split at h
    · exact both1 (ps_break.imp fun D σ H q => tS_brk q)
    · cases h
  | cont =>
    refine ⟨?_, fun c' i hb r e => by cases e⟩
    intro I n E W X sts cx h
    unfold chkS at h
    split at h
    · exact both1 (ps_continue.imp fun D σ H q => tS_cont q)
    · cases h
  | raise c es =>
    refine ⟨?_, fun c' i hb r e => by cases e⟩
    intro I n E W X sts cx h
    unfold chkS at h
    split at h
    · rename_i st
      rcases Bool.or_eq_true_iff.mp h with h | h
      · exact both1 (ps_never.imp fun D σ H q => tS_raise (hnx h) q)
      · obtain ⟨hcm, h⟩ := band h
        split at h
        · rename_i x a hu
          obtain ⟨h, h4⟩ := band h
          obtain ⟨h, h3⟩ := band h
          obtain ⟨h1, h2⟩ := band h
          obtain ⟨h0, h1⟩ := band h1
          have h1 := eq_of_beq h1
          unfold raiseF at hu
          split at hu
          · cases hu
            have ha := (s_chk E es .S W X [a] cx.good cx.room cx.takes h4).1
            obtain ⟨em, edb⟩ := E.exn c x h1
            obtain ⟨f, fI, cc, cda, xn, hT, tx, ok, kC, exC, tyC⟩ := E.rse c x h0 h1
            rw [← cx.good.pP, ← cx.good.pK, ← cx.good.pmg] at tx
            rw [← cx.good.pK] at kC exC tyC
            rw [← cx.good.pmg] at em
            exact both1 ((ps_raise (cx.good.calm hcm) cx.takes (pmk_sup (k := k) tx ok em kC exC tyC (cx.room hcm) ha (glB_ok h2) edb (noStar_each h3) (noStar_any (by simp)))).imp fun D σ H q => tS_raiseE hT q)
          · cases hu
        · cases h
    · cases h
  | try_ b hd ihb ihh =>
    refine ⟨?_, fun c' i hb r e => by cases e⟩
    intro I n E W X sts cx h
    unfold chkS at h
    split at h
    · rename_i x h0 hs p
      rcases Bool.or_eq_true_iff.mp h with h | h
      · obtain ⟨h1, h2⟩ := band h
        obtain ⟨h1, hcm⟩ := band h1
        exact both1 ((ps_try_thru0 (ihb.1 I n E Wn X.nox x (cxt_nox hcm cx) h2).1).imp fun D σ H q => tS_try (hnx h1) q)
      · obtain ⟨h, h3⟩ := band h
        obtain ⟨hcm, h2⟩ := band h
        split at h3
        · rename_i c i hb y m su hu hv
          have hu := hndF_eq hu
          subst hu
          obtain ⟨np, q, s0, su', rfl, rfl, rfl⟩ := hndP_eq hv
          obtain ⟨h3, h8⟩ := band h3
          obtain ⟨h3, h7⟩ := band h3
          obtain ⟨h3, h6⟩ := band h3
          obtain ⟨h4, h5⟩ := band h3
          have h4 := eq_of_beq h4
          obtain ⟨em, edb⟩ := E.exn c y h4
          have h0 := E.cur hcm
          have hm : ∀ e fs, T.exc e = some fs → exmOne I.K (.ref (I.cad e)) (.ref (I.cad c)) = some (T.isExc e c) := fun e fs he => E.exm e fs c y he h4
          rw [← cx.good.pmg] at em
          have hN : X.N[i]? = some m := by rw [cx.good.pN]; exact eq_of_beq h6
          have key := ps_try_as (X := X) (n := m) (i := i) (c := .ref (I.cad c)) (x := y) (np := np) (pos' := q) (pos := p) (b₀ := s0) (suite := su') (tb := fun W => tS I W (execS T cf b)) (ts := suT I T cf hb) (Wout := W) (cx.stk hcm).1 (cx.stk hcm).2 cx.good.nd hN (eq_of_beq h7) ⟨glB_ok h5, edb, .inl em⟩ cx.takes
            (fun W' pn xe tk po => (ihb.1 I n E W' (X.tr pn xe) x (cxt_tr hcm cx tk po) h2).1)
            (fun a oe cls d pn hz hd => PSs.ex (p := fun c0 => ∃ fs0, T.exc c0 = some fs0 ∧ cls = .ref (I.cad c0)) (t := fun c0 => tS (I.at_ (some (c0, a, d))) Wn (execS T cf hb)) fun c0 ⟨fs0, he, hcls⟩ =>
              (ihh.2 _ _ _ _ rfl (I.at_ (some (c0, a, d))) (sutN n) (eng_sut E _) Wn (X.suite a ((a, oe) :: pn)) _ (cxt_sut E h0 cx he hcls hz hd) h8).1)
          refine both1 (key.imp fun D σ H q => ?_)
          rw [cx.good.pK]
          exact tS_tryE h0 hm q
        · cases h3
    · cases h
  | setsub2 => exact ⟨fun I n E W X sts cx h => (by cases h), fun c' i hb r e => (by cases e)⟩
  | augattr => exact ⟨fun I n E W X sts cx h => (by cases h), fun c' i hb r e => (by cases e)⟩
  | reraise => exact ⟨fun I n E W X sts cx h => (by cases h), fun c' i hb r e => (by cases e)⟩
  | hnd c0 sl b r ihb ihr =>
    refine ⟨fun I n E W X sts cx h => ⟨PSs.no fun D σ H q => tS_hnd q, fun st e => PS.no fun D σ H q => tS_hnd q⟩, fun c' i hb r' e => ?_⟩
    cases e
    exact ihb.1
  | remove => exact ⟨fun I n E W X sts cx h => (by cases h), fun c' i hb r e => (by cases e)⟩
theorem s_chkS (E : Eng I n T cf ar k) (hnx : nx = true → T.noex = true) (c : CS) (W : WX) (X : Cx) (sts : List Stmt) (cx : Cxt I n k W X) (h : chkS n ar nx X.env.scope c sts = true) : Both X sts (tS I W (execS T cf c)) := (s_chkS2 hnx c).1 I n E W X sts cx h
end
end Nr
end

section
set_option Elab.async false
set_option linter.all false
set_option maxRecDepth 100000
set_option maxHeartbeats 4000000
/-! E41: defs. -/
namespace Nr
open PySem PySem.Spec PyProof.Rows L2 PySem.W
section
variable {I : Inf} {W : WX} {T : Tab} {cf : CallF} {n : Nm} {X : Cx} {ar : Ar} {k : Nat} {nx : Bool} {F F1 : Hp} {L L1 : List Addr} {s : St} {σ : Sg} {H H1 : Hp} {Q : VK} {E : XK} {cells : List PV}
def frB (L : List Addr) (H : Hp) : Hp := fun a => if a ∈ L then none else H a
theorem frB_some {a : Addr} {o : HO} (h : frB L H a = some o) : H a = some o ∧ a ∉ L := by
  unfold frB at h
  split at h
  · cases h
  · rename_i hn; exact ⟨h, hn⟩
theorem frB_none {a : Addr} (h : frB L H a = none) : a ∈ L ∨ H a = none := by
  unfold frB at h
  split at h
  · rename_i hm; exact .inl hm
  · exact .inr h
theorem frB_at {a : Addr} {o : HO} (h : H a = some o) (hn : a ∉ L) : frB L H a = some o := by
  unfold frB; rw [if_neg hn]; exact h
theorem frB_mem {a : Addr} (h : a ∈ L) : frB L H a = none := by
  unfold frB; rw [if_pos h]
/-- behind a body -/
theorem ext_of {sl : Option V} {hs : List (RV × V)} (R : RS I ⟨frB L H, F, L, sl⟩ hs F1 L1 s σ H1) : Ext I F L H F1 L1 s.cells H1 where
  ent := R.ent
  gf := R.f0
  gl := R.l0
  keep a o e hn := R.kb a o (frB_at e hn)
  nf a o e := by
    rcases R.nw a o e with q | q
    · exact .inl q
    · rcases frB_none q with q | q
      · obtain ⟨i, hi⟩ := List.getElem?_of_mem q
        have := R.lf a (List.mem_of_getElem? (R.l0 i a hi))
        rw [e] at this; cases this
      · exact .inr q
  nl a hm := frB_none (R.lb a hm)
theorem outV_of {sl : Option V} {r : RV} {v : V} (R : RS I ⟨frB L H, F, L, sl⟩ [] F1 L1 s σ H1) (h : RetH I ⟨frB L H, F, L, sl⟩ F1 L1 H1 r v) : OutV I F1 L1 H H1 r v := by
  cases r with
  | val x => exact h
  | slot i => exact h
  | tmp c =>
    obtain ⟨a, e, o, ho, rc, fa, ba, la⟩ := h
    refine ⟨a, o, e, ho, rc, fa, ?_, la⟩
    rcases frB_none ba with q | q
    · obtain ⟨i, hi⟩ := List.getElem?_of_mem q
      exact absurd (List.mem_of_getElem? (R.l0 i a hi)) la
    · exact q
theorem startEnv_get {fd : FD} {xs : List Slot} {i : Nat} : (startEnv fd xs).getD i .non = xs.getD i .non := by
  unfold startEnv
  rw [List.getD_eq_getElem?_getD, List.getD_eq_getElem?_getD, List.getElem?_append]
  split
  · rfl
  · rename_i h
    rw [List.getElem?_eq_none (l := xs) (by omega), List.getElem?_replicate]
    split <;> rfl
theorem start_get {N : List Str} {vs : List V} {i : Nat} {u : V} (h : vs[i]? = some u) : (L2.start N vs)[i]? = some (some u) := by
  unfold L2.start
  have hi : i < vs.length := by
    apply Classical.byContradiction
    intro c
    rw [List.getElem?_eq_none (by omega)] at h; cases h
  rw [List.getElem?_append_left (by simpa using hi), List.getElem?_map, h]; rfl
theorem repL_vals : ∀ {pvs : List PV} {vs : List V}, RepL I F L pvs vs → pvs.length = vs.length := fun r => r.length
theorem start_len {fd : FD} {N : List Str} {xs : List Slot} {vs : List V} (h1 : xs.length = vs.length) (h2 : fd.nv = N.length) : (startEnv fd xs).length = (L2.start N vs).length := by
  unfold startEnv L2.start
  rw [List.length_append, List.length_append, List.length_replicate, List.length_replicate, List.length_map, h1, h2]
/-- at a def's entry -/
theorem rs_start {fd : FD} {N : List Str} {pvs : List PV} {vs : List V} (En : Ent I F L cells H) (r : RepL I F L pvs vs) (hN : fd.nv = N.length) :
    RS I ⟨frB L H, F, L, none⟩ [] F L ⟨startEnv fd (pvs.map .val), cells, false⟩ (L2.start N vs) H where
  len := start_len (by rw [List.length_map]; exact r.length) hN
  fz := En.fz
  kb a o e := (frB_some e).1
  f0 a o e := e
  l0 k a e := e
  nw a o e := .inl e
  cl := En.cl
  cell := En.cell
  lf := En.lf
  lb a hm := frB_mem hm
  ln := En.ln
  val i v e := by
    have e : (startEnv fd (pvs.map .val)).getD i .non = .val v := e
    rw [startEnv_get, List.getD_eq_getElem?_getD, List.getElem?_map] at e
    cases h : pvs[i]? with
    | none => rw [h] at e; cases e
    | some x =>
      rw [h] at e
      cases e
      obtain ⟨u, g1, g2⟩ := r.get h
      exact ⟨u, start_get g1, g2⟩
  own i c e := by
    have e : (startEnv fd (pvs.map .val)).getD i .non = .own c := e
    rw [startEnv_get, List.getD_eq_getElem?_getD, List.getElem?_map] at e
    cases h : pvs[i]? with
    | none => rw [h] at e; cases e
    | some x => rw [h] at e; cases e
  sep i j c d e := by
    have e : (startEnv fd (pvs.map .val)).getD i .non = .own c := e
    rw [startEnv_get, List.getD_eq_getElem?_getD, List.getElem?_map] at e
    cases h : pvs[i]? with
    | none => rw [h] at e; cases e
    | some x => rw [h] at e; cases e
  hval p hp := by cases hp
  hsep := List.nodup_nil
  slf v e := by cases e
  sl := rfl
theorem post_end {D : Ends} {r : Nr.R Fl} {sl : Option V} (hn : ∀ σ H', D.nx σ H' = Q .non H') (hr : D.rt = Q) (O : OutR I F L H Q E (endF r)) : PostS I (fun cls d _ H => E cls d H) ⟨frB L H, F, L, sl⟩ D r := by
  cases r with
  | ok f s =>
    cases f with
    | nx => exact fun F1 L1 σ1 H1 R => by rw [hn]; exact O F1 L1 H1 .non (ext_of R) rfl
    | ret r => exact fun F1 L1 σ1 H1 v R h => by rw [hr]; exact O F1 L1 H1 v (ext_of R) (outV_of R h)
    | brk => exact O.elim
    | cont => exact O.elim
  | ex e s => exact fun F1 L1 σ1 H1 cls d R x => O F1 L1 H1 cls d (ext_of R) x
  | bad => exact O
/-- a body's promise, kept -/
theorem body_ok {f : Nat} {fd : FD} {N : List Str} {m : Nat} {vs : List V} (hf : T.fns f = some fd) (hN : fd.nv = N.length) (h : spF I (callD T (m + 1)) fd.ar f vs H Q E) :
    tS I (fun cls d _ H => E cls d H) (execS T (callD T m) fd.body) { nx := fun _ H' => Q .non H', rt := Q } (L2.start N vs) H := by
  obtain ⟨hl, F, L, cells, pvs, En, r, O⟩ := h
  have e : (callD T (m + 1)).fn f pvs cells = endF (execS T (callD T m) fd.body ⟨startEnv fd (pvs.map .val), cells, false⟩) := by
    show (match T.fns f with
      | some fd => if pvs.length = fd.ar then endF (execS T (callD T m) fd.body ⟨startEnv fd (pvs.map .val), cells, false⟩) else .bad
      | none => .bad) = _
    rw [hf]
    exact if_pos (by rw [r.length, hl])
  rw [e] at O
  exact ⟨_, F, L, _, rs_start En r hN, post_end (fun _ _ => rfl) rfl O⟩
end
end Nr
end

section
set_option Elab.async false
set_option linter.all false
set_option maxRecDepth 100000
set_option maxHeartbeats 4000000
/-! E42: __init__, and all defs together. -/
namespace Nr
open PySem PySem.Spec PyProof.Rows L2 PySem.W
section
variable {I : Inf} {W : WX} {T : Tab} {cf : CallF} {n : Nm} {X : Cx} {ar : Ar} {k : Nat} {nx : Bool} {F F1 : Hp} {L L1 : List Addr} {s : St} {σ : Sg} {H H1 : Hp} {Q : VK} {E : XK} {cells : List PV}
theorem ini_get {fd : FD} {o : Slot} {pvs : List PV} {i : Nat} : (startEnv fd (o :: pvs.map .val)).getD i .non = (match i with
    | 0 => o
    | j + 1 => match pvs[j]? with
      | some x => .val x
      | none => .non) := by
  rw [startEnv_get, List.getD_eq_getElem?_getD]
  cases i with
  | zero => rfl
  | succ j =>
    rw [List.getElem?_cons_succ, List.getElem?_map]
    show (Option.map Slot.val pvs[j]?).getD .non = (match pvs[j]? with | some x => Slot.val x | none => .non)
    cases pvs[j]? <;> rfl
theorem rs_ini {fd : FD} {N : List Str} {pvs : List PV} {vs : List V} {c : Nat} {x dx : Addr} (En : Ent I F L cells H) (r : RepL I F L pvs vs) (hN : fd.nv = N.length) (hx : H x = none) (hd : H dx = none) (hne : dx ≠ x) :
    RS I ⟨frB L H, F, L, some (.ref x)⟩ [] F L ⟨startEnv fd (.own (.obj c []) :: pvs.map .val), cells, true⟩ (L2.start N (.ref x :: vs)) (upd (upd H dx (.own x)) x (.ins (I.cad c) dx [])) := by
  have old : ∀ {a : Addr} {o : HO}, H a = some o → (upd (upd H dx (.own x)) x (.ins (I.cad c) dx [])) a = some o := fun {a o} e => by
    rw [upd_ne (ne_of_none e hx), upd_ne (ne_of_none e hd)]; exact e
  have hgo : ∀ {i : Nat} {d : PV}, (startEnv fd (.own (.obj c []) :: pvs.map .val)).getD i .non = .own d → i = 0 ∧ d = .obj c [] := fun {i d} e => by
    rw [ini_get] at e
    cases i with
    | zero => cases e; exact ⟨rfl, rfl⟩
    | succ j =>
      have e : (match pvs[j]? with | some x => Slot.val x | none => .non) = .own d := e
      cases h : pvs[j]? with
      | none => rw [h] at e; cases e
      | some x => rw [h] at e; cases e
  have h0 : (L2.start N (.ref x :: vs))[0]? = some (some (.ref x)) := start_get rfl
  exact {
    len := start_len (by rw [List.length_cons, List.length_cons, List.length_map, r.length]) hN
    fz := fun a o e => ((En.fz a o e).upd hd).upd (by rw [upd_ne (fun z => hne z.symm)]; exact hx)
    kb := fun a o e => old (frB_some e).1
    f0 := fun a o e => e
    l0 := fun k a e => e
    nw := fun a o e => .inl e
    cl := En.cl
    cell := fun m a d h1 h2 => by
      obtain ⟨o, ho, rc⟩ := En.cell m a d h1 h2
      exact ⟨o, old ho, rc⟩
    lf := En.lf
    lb := fun a hm => frB_mem hm
    ln := En.ln
    val := fun i v e => by
      have e : (startEnv fd (.own (.obj c []) :: pvs.map .val)).getD i .non = .val v := e
      rw [ini_get] at e
      cases i with
      | zero => cases e
      | succ j =>
        have e : (match pvs[j]? with | some x => Slot.val x | none => .non) = .val v := e
        cases h : pvs[j]? with
        | none => rw [h] at e; cases e
        | some z =>
          rw [h] at e
          cases e
          obtain ⟨u, g1, g2⟩ := r.get h
          exact ⟨u, start_get (by rw [List.getElem?_cons_succ]; exact g1), g2⟩
    own := fun i d e => by
      obtain ⟨rfl, rfl⟩ := hgo e
      refine ⟨x, h0, _, upd_same, ⟨dx, [], rfl, rfl⟩, ?_, ?_, fun hm => ?_⟩
      · cases h : F x with
        | none => rfl
        | some o => exact ((En.fz x o h).none hx).elim
      · show (if x ∈ L then none else H x) = none
        rw [hx]; split <;> rfl
      · obtain ⟨i, hi⟩ := List.getElem?_of_mem hm
        have hlt : i < cells.length := by
          rw [En.cl]
          apply Classical.byContradiction
          intro q
          rw [List.getElem?_eq_none (by omega)] at hi; cases hi
        obtain ⟨o, ho, _⟩ := En.cell i x _ hi (List.getElem?_eq_getElem hlt)
        rw [hx] at ho; cases ho
    sep := fun i j d e h1 h2 _ => by
      obtain ⟨rfl, _⟩ := hgo h1
      obtain ⟨rfl, _⟩ := hgo h2
      rfl
    hval := fun p hp => by cases hp
    hsep := List.nodup_nil
    slf := fun v e => by cases e; exact h0
    sl := rfl }
theorem outR_ini {x : Addr} {D : Ends} {r : Nr.R Fl} (hn : ∀ σ H', D.nx σ H' = Q .non H')
    (O : OutR I F L H (fun v H2 => v = .ref x → Q .non H2) E (match r with
      | .ok .nx s => (match s.get 0 with
        | .own o => FR.ok (.val o) s.cells
        | .val (.obj d fs) => .ok (.val (.obj d fs)) s.cells
        | _ => .bad)
      | .ex e s => .ex e s.cells
      | _ => .bad)) : PostS I (fun cls d _ H => E cls d H) ⟨frB L H, F, L, some (.ref x)⟩ D r := by
  cases r with
  | ok f s =>
    cases f with
    | nx =>
      intro F1 L1 σ1 H1 R
      rw [hn]
      have h0 := R.slf _ rfl
      cases hg : s.get 0 with
      | non =>
        have O : OutR I F L H (fun v H2 => v = .ref x → Q .non H2) E (match s.get 0 with
          | .own o => FR.ok (.val o) s.cells
          | .val (.obj d fs) => .ok (.val (.obj d fs)) s.cells
          | _ => .bad) := O
        rw [hg] at O; exact O.elim
      | val z =>
        have O : OutR I F L H (fun v H2 => v = .ref x → Q .non H2) E (match s.get 0 with
          | .own o => FR.ok (.val o) s.cells
          | .val (.obj d fs) => .ok (.val (.obj d fs)) s.cells
          | _ => .bad) := O
        rw [hg] at O
        obtain ⟨u, e1, e2⟩ := R.val 0 z hg
        rw [h0] at e1
        cases e1
        cases z with
        | obj d fs => exact O F1 L1 H1 (.ref x) (ext_of R) e2 rfl
        | _ => exact O.elim
      | own o =>
        have O : OutR I F L H (fun v H2 => v = .ref x → Q .non H2) E (match s.get 0 with
          | .own o => FR.ok (.val o) s.cells
          | .val (.obj d fs) => .ok (.val (.obj d fs)) s.cells
          | _ => .bad) := O
        rw [hg] at O
        have R1 := (R.pushS h0).toVal
        have et : Nr.toVal (.slot 0) s = .ok o (s.put 0 (.val o)) := by
          show (match s.get 0 with | .own c => Nr.R.ok c (s.put 0 (.val c)) | _ => .bad) = _
          rw [hg]
        rw [et] at R1
        obtain ⟨F2, R2, _⟩ := R1
        have X2 := ext_of R2
        exact O F2 L1 H1 (.ref x) X2 R2.head rfl
    | ret r => exact O.elim
    | brk => exact O.elim
    | cont => exact O.elim
  | ex e s => exact fun F1 L1 σ1 H1 cls d R x => O F1 L1 H1 cls d (ext_of R) x
  | bad => exact O
theorem ini_ok {c f : Nat} {fd : FD} {N : List Str} {m : Nat} {vs : List V} (hc : T.ini c = some f) (hi : T.inCell c = false) (hf : T.fns f = some fd) (hN : fd.nv = N.length) (h : spI I (callD T (m + 1)) fd.ar c vs H Q E) :
    tS I (fun cls d _ H => E cls d H) (execS T (callD T m) fd.body) { nx := fun _ H' => Q .non H', rt := Q } (L2.start N vs) H := by
  obtain ⟨hl, F, L, cells, pvs, x, dx, H0, vs', e1, hx, hd, hne, e2, En, r, O⟩ := h
  subst e1 e2
  have hl' : pvs.length + 1 = fd.ar := by rw [r.length]; exact hl
  have e : (callD T (m + 1)).mkI c pvs cells = (match execS T (callD T m) fd.body ⟨startEnv fd (.own (.obj c []) :: pvs.map .val), cells, true⟩ with
      | .ok .nx s => (match s.get 0 with
        | .own o => FR.ok (.val o) s.cells
        | .val (.obj d fs) => .ok (.val (.obj d fs)) s.cells
        | _ => .bad)
      | .ex e s => .ex e s.cells
      | _ => .bad) := by
    simp only [callD, hc, hf, if_pos hl', hi, Bool.false_eq_true, if_false] <;> rfl
  rw [e] at O
  exact ⟨_, F, L, _, rs_ini En r hN hx hd hne, outR_ini (fun _ _ => rfl) O⟩
end
end Nr
end

section
set_option Elab.async false
set_option linter.all false
set_option maxRecDepth 100000
set_option maxHeartbeats 4000000
/-! E43: all defs of a law, by depth. -/
namespace Nr
open PySem PySem.Spec PyProof.Rows L2 PySem.W
/-- a def's text against its core -/
def FnTx (I : Inf) (n : Nm) (ar : Ar) (nx : Bool) (f : Nat) (fd : FD) : Prop := ∃ (x qual : Str) (params : Arguments) (body : List Stmt) (scope : Scope) (fdata : FuncData) (ps N : List Str),
  FunD I.K x qual params body scope [] [] (I.fad f) fdata ∧ Binds I.K fdata ps [] ∧ FnScope N ps scope ∧ ps.length = fd.ar ∧ fd.nv = N.length ∧ chkS { n with N := N } ar nx scope fd.body body = true
structure LawTx (I : Inf) (n : Nm) (T : Tab) (ar : Ar) (nx : Bool) : Prop where
  cm : n.cm = true
  hnx : nx = true → T.noex = true
  eqm : ∀ c, T.eqm c = none
  lnm : ∀ c, T.lnm c = none
  cls : ClsFa I T
  fns : ∀ f fd, T.fns f = some fd → FnTx I n ar nx f fd
  fnn : ∀ f x, n.fnn f = some x → (∃ fd, T.fns f = some fd ∧ fd.ar = ar.fn f) ∧ I.mg x = some (.ref (I.fad f))
  mth : ∀ m c f, T.mth c m = some f → MthFa I T c m f ∧ ∃ fd, T.fns f = some fd ∧ fd.ar = ar.mth m
  mkc : ∀ c x, n.cln c = some x → (∃ f fd, T.ini c = some f ∧ T.inCell c = false ∧ T.fns f = some fd ∧ fd.ar = ar.mkc c ∧ Mk I.K (I.cad c) (I.fad f)) ∧ I.mg x = some (.ref (I.cad c))
  mn : ∀ m, I.mn m = n.mn m
  blt : ∀ x ∈ blts, I.mg x = none
  con : ∀ x v, n.con x = some v → ∃ u w, I.mg x = some u ∧ RelV w u ∧ ∀ F L, RepV I F L v w
  an : ∀ f, I.an f = n.an f
  cur : I.cur = none
  rse : ∀ c x, n.rsn c = true → n.exn c = some x → ∃ f fI cc cda xn, T.exc c = some [f] ∧ PySem.SupX.Txt I.P I.K I.mg (I.cad c) fI cc cda xn (I.an f) ∧ PySem.SupX.XOk xn ∧ PySem.W.keepIn I.K (.ref (I.cad c)) = true ∧ PySem.W.subIn I.K (.ref (I.cad c)) (.type "BaseException") = some true ∧ PySem.W.typeIn I.K (.ref (I.cad c)) = some (.type "type")
  exn : ∀ c x, n.exn c = some x → I.mg x = some (.ref (I.cad c)) ∧ (x == ("__debug__" : Str)) = false
  exm : ∀ e fs c x, T.exc e = some fs → n.exn c = some x → PySem.W.exmOne I.K (.ref (I.cad e)) (.ref (I.cad c)) = some (T.isExc e c)
  xf : ∀ e fs, T.exc e = some fs → XfC I.K (I.cad e) ∧ ∀ f, n.exf f = true → PySem.W.findIn I.K (.ref (I.cad e)) (I.an f) = some none
section
variable {I : Inf} {T : Tab} {n : Nm} {ar : Ar} {nx : Bool}
def lv (m : Nat) : Nat := 2 * m
theorem eng_of (Lw : LawTx I n T ar nx) {m : Nat} (hf : ∀ f fd, T.fns f = some fd → FnFa I (callD T m) (lv m) f fd.ar)
    (hi : ∀ c f fd, T.ini c = some f → T.inCell c = false → T.fns f = some fd → Mk I.K (I.cad c) (I.fad f) → IniFa I (callD T m) (lv m) c f fd.ar) (N : List Str) : Eng I { n with N := N } T (callD T m) ar (lv m) where
  eqm := Lw.eqm
  lnm := Lw.lnm
  cls := Lw.cls
  fn f x h := by
    obtain ⟨⟨fd, h1, h2⟩, h3⟩ := Lw.fnn f x h
    rw [← h2]
    exact ⟨hf f fd h1, h3⟩
  mth _ m c f h := by
    obtain ⟨h1, fd, h2, h3⟩ := Lw.mth m c f h
    rw [← h3]
    exact ⟨h1, hf f fd h2⟩
  mkc c x h := by
    obtain ⟨⟨f, fd, h1, h2, h3, h4, h5⟩, h6⟩ := Lw.mkc c x h
    rw [← h4]
    exact ⟨⟨f, hi c f fd h1 h2 h3 h5⟩, h6⟩
  mn := Lw.mn
  cur _ := Lw.cur
  rse := Lw.rse
  exn := Lw.exn
  exm := Lw.exm
  xf := Lw.xf
theorem cxt_of (Lw : LawTx I n T ar nx) {N ps : List Str} {qual : Str} {scope : Scope} {f : Addr} {cd : Value} {A : Around} {outer : List Env} {s : Shared} {H : Hp} {E : XK} {m : Nat} (S : FnScope N ps scope) (hr : Room (lv m + 1) (A.deeper (envOfC qual scope s.heap.objs.size f cd))) :
    Cxt I { n with N := N } (lv m) (fun cls d _ H => E cls d H) (cxOf (L2.CX I.P I.w) I.P I.w I.K I.mg I.base N qual scope f cd A outer s H E) where
  good := { pP := rfl, pw := rfl, pK := rfl, pmg := rfl, pb := rfl, pN := rfl, nd := S.nd, calm := fun _ => rfl, un := hr.units, blt := Lw.blt, con := Lw.con, an := Lw.an, sut := fun h => absurd (Lw.cm.symm.trans h) (by decide) }
  room := fun _ => hr
  takes := takes_of rfl rfl rfl rfl
  po := passes_of rfl
  raw := ⟨fun x h => ⟨locB_ok h, .inl rfl⟩⟩
  fk := S.kind
  stk _ := ⟨rfl, rfl⟩
theorem defs_ok (Lw : LawTx I n T ar nx) : ∀ m, (∀ f fd, T.fns f = some fd → FnFa I (callD T m) (lv m) f fd.ar) ∧
    (∀ c f fd, T.ini c = some f → T.inCell c = false → T.fns f = some fd → Mk I.K (I.cad c) (I.fad f) → IniFa I (callD T m) (lv m) c f fd.ar)
  | 0 => by
    refine ⟨fun f fd h => ?_, fun c f fd h1 h2 h3 h4 => ?_⟩
    · obtain ⟨x, qual, params, body, scope, fdata, ps, N, F, hb, S, hl, hN, hc⟩ := Lw.fns f fd h
      refine ⟨⟨fdata, ps, ⟨fun vs H Q E q => ?_, fun A outer s H args us vs Q E _ _ _ _ q => ?_⟩, hb⟩, F.kp⟩
      · obtain ⟨_, F, L, cells, pvs, En, r, O⟩ := q; exact O.elim
      · obtain ⟨_, F, L, cells, pvs, En, r, O⟩ := q; exact O.elim
    · obtain ⟨x, qual, params, body, scope, fdata, ps, N, F, hb, S, hl, hN, hc⟩ := Lw.fns f fd h3
      refine ⟨⟨fdata, ps, ⟨fun vs H Q E q => ?_, fun A outer s H args us vs Q E _ _ _ _ q => ?_⟩, hb⟩, h4⟩
      · obtain ⟨_, F, L, cells, pvs, x, dx, H0, vs', _, _, _, _, _, En, r, O⟩ := q; exact O.elim
      · obtain ⟨_, F, L, cells, pvs, x, dx, H0, vs', _, _, _, _, _, En, r, O⟩ := q; exact O.elim
  | m + 1 => by
    obtain ⟨ihf, ihi⟩ := defs_ok Lw m
    refine ⟨fun f fd h => ?_, fun c f fd h1 h2 h3 h4 => ?_⟩
    · obtain ⟨x, qual, params, body, scope, fdata, ps, N, F, hb, S, hl, hN, hc⟩ := Lw.fns f fd h
      refine ⟨⟨fdata, ps, ?_, hb⟩, F.kp⟩
      refine FunD.ok (k := lv m + 1) F S (fun vs H Q E q => by rw [hl]; exact q.1) fun cdv A outer s H vs Q E hr hsp => ?_
      exact ⟨_, (s_chkS (eng_of Lw ihf ihi N) Lw.hnx fd.body _ _ body (cxt_of Lw S hr) hc).1, body_ok h hN hsp⟩
    · obtain ⟨x, qual, params, body, scope, fdata, ps, N, F, hb, S, hl, hN, hc⟩ := Lw.fns f fd h3
      refine ⟨⟨fdata, ps, ?_, hb⟩, h4⟩
      refine FunD.ok (k := lv m + 1) F S (fun vs H Q E q => by rw [hl]; exact q.1) fun cdv A outer s H vs Q E hr hsp => ?_
      exact ⟨_, (s_chkS (eng_of Lw ihf ihi N) Lw.hnx fd.body _ _ body (cxt_of Lw S hr) hc).1, ini_ok h1 h2 h3 hN hsp⟩
end
end Nr
end

section
set_option Elab.async false
set_option linter.all false
set_option maxRecDepth 100000
set_option maxHeartbeats 4000000
/-! EX3: an exception's class, asked of the written part. -/
namespace PySem
namespace SupX
open PySem.W PySem.Calls PyProof.Rows PySem.HandSPX
def argsB (p : Arguments) (x : Str) : Bool := match p with
  | ⟨[], [⟨s, none, _⟩, ⟨y, none, _⟩], none, [], [], none, []⟩ => (s == ("self" : Str)) && (y == x)
  | _ => false
theorem argsB_ok {p : Arguments} {x : Str} (h : argsB p x = true) : ∃ p1 p2, p = iA x p1 p2 := by
  unfold argsB at h
  split at h
  · rename_i s q1 y q2
    obtain ⟨h1, h2⟩ := Bool.and_eq_true_iff.mp h
    have h1 := eq_of_beq h1
    have h2 := eq_of_beq h2
    subst h1; subst h2
    exact ⟨_, _, rfl⟩
  · cases h
def bodyB (b : FuncBody) (x f : Str) : Bool := match b with
  | .stmts [.Expr (.Call (.Attribute (.Call (.Name a q1) [] [] q2) i q3) [.Name y q4] [] q5) q6, .Assign [.Attribute (.Name c r1) g r2] (.Name y2 r3) r4] =>
    (a == ("super" : Str)) && ((i == ("__init__" : Str)) && ((y == x) && ((c == ("self" : Str)) && ((g == f) && ((y2 == x) && (q3.endLine == q5.line))))))
  | _ => false
theorem bodyB_ok {b : FuncBody} {x f : Str} (h : bodyB b x f = true) : ∃ q1 q2 q3 q4 q5 q6 r1 r2 r3 r4, b = .stmts (iB x f q1 q2 q3 q4 q5 q6 r1 r2 r3 r4) ∧ (q3.endLine == q5.line) = true := by
  unfold bodyB at h
  split at h
  · obtain ⟨h1, h⟩ := Bool.and_eq_true_iff.mp h
    obtain ⟨h2, h⟩ := Bool.and_eq_true_iff.mp h
    obtain ⟨h3, h⟩ := Bool.and_eq_true_iff.mp h
    obtain ⟨h4, h⟩ := Bool.and_eq_true_iff.mp h
    obtain ⟨h5, h⟩ := Bool.and_eq_true_iff.mp h
    obtain ⟨h6, h7⟩ := Bool.and_eq_true_iff.mp h
    have h1 := eq_of_beq h1
    have h2 := eq_of_beq h2
    have h3 := eq_of_beq h3
    have h4 := eq_of_beq h4
    have h5 := eq_of_beq h5
    have h6 := eq_of_beq h6
    subst h1; subst h2; subst h3; subst h4; subst h5; subst h6
    exact ⟨_, _, _, _, _, _, _, _, _, _, rfl, h7⟩
  · cases h
def fnB (K : Frag) (file : Str) (C : Addr) (fd : FuncData) (x f : Str) : Bool := match fd with
  | ⟨nm, qual, ps, body, sc, gl, [(cn, cc)], .none, .none, doc, pm, an, .ref cda, ct, bl⟩ => (nm == ("__init__" : Str)) && (argsB ps x && (bodyB body x f && (decide (sc = iS x) && ((gl == mainGlobals) && ((cn == ("__class__" : Str)) && ((bl == builtinsNs) && (codeIn K (.ref cda) qual &&
      ((match K.lookup cc with
        | some ⟨_, _, .cell (some (.ref D)), _⟩ => D == C
        | _ => false) && (match K.lookup cda with
        | some ⟨_, _, .fields vs, _⟩ => (match (vs[2]? : Option Value) with
          | some (Value.str fl _) => fl == file
          | _ => false)
        | _ => false)))))))))
  | _ => false
theorem fnB_ok {K : Frag} {file : Str} {C : Addr} {fd : FuncData} {x f : Str} (h : fnB K file C fd x f = true) : ∃ (qual : Str) (doc pm : Value) (an : Option Addr) (ct : Value) (cc cda : Addr) (p1 p2 q1 q2 q3 q4 q5 q6 r1 r2 r3 r4 : Pos),
    fd = ksFn "__init__" qual (iA x p1 p2) (iB x f q1 q2 q3 q4 q5 q6 r1 r2 r3 r4) (iS x) .none .none doc pm an (.ref cda) ct cc ∧ codeIn K (.ref cda) qual = true ∧ (q3.endLine == q5.line) = true ∧
    (∃ cl cld csl, K.lookup cc = some ⟨cl, cld, .cell (some (.ref C)), csl⟩) ∧ ∃ ccl cdd vs ccs tf, K.lookup cda = some ⟨ccl, cdd, .fields vs, ccs⟩ ∧ vs[2]? = some (.str file tf) := by
  unfold fnB at h
  split at h
  · rename_i nm qual ps body sc gl cn cc doc pm an cda ct bl
    obtain ⟨h1, h⟩ := Bool.and_eq_true_iff.mp h
    obtain ⟨h2, h⟩ := Bool.and_eq_true_iff.mp h
    obtain ⟨h3, h⟩ := Bool.and_eq_true_iff.mp h
    obtain ⟨h4, h⟩ := Bool.and_eq_true_iff.mp h
    obtain ⟨h5, h⟩ := Bool.and_eq_true_iff.mp h
    obtain ⟨h6, h⟩ := Bool.and_eq_true_iff.mp h
    obtain ⟨h7, h⟩ := Bool.and_eq_true_iff.mp h
    obtain ⟨h8, h⟩ := Bool.and_eq_true_iff.mp h
    obtain ⟨h9, h10⟩ := Bool.and_eq_true_iff.mp h
    have h1 := eq_of_beq h1
    obtain ⟨p1, p2, e2⟩ := argsB_ok h2
    obtain ⟨q1, q2, q3, q4, q5, q6, r1, r2, r3, r4, e3, e3'⟩ := bodyB_ok h3
    have h4 := of_decide_eq_true h4
    have h5 := eq_of_beq h5
    have h6 := eq_of_beq h6
    have h7 := eq_of_beq h7
    subst h1; subst e2; subst e3; subst h4; subst h5; subst h6; subst h7
    refine ⟨qual, doc, pm, an, ct, cc, cda, p1, p2, q1, q2, q3, q4, q5, q6, r1, r2, r3, r4, rfl, h8, e3', ?_, ?_⟩
    · split at h9
      · rename_i hk
        have h9 := eq_of_beq h9
        subst h9
        exact ⟨_, _, _, hk⟩
      · cases h9
    · split at h10
      · rename_i hk
        split at h10
        · rename_i hv
          have h10 := eq_of_beq h10
          subst h10
          exact ⟨_, _, _, _, _, hk, hv⟩
        · cases h10
      · cases h10
  · cases h
def excB (K : Frag) (file : Str) (C : Addr) (x f : Str) : Bool := excInitIn K C veTail "ValueError.__new__" && ((match clsIn K C with
    | some cd => refsVE cd.mro && cd.hasDict
    | none => false) && (decide (findIn K (.ref C) "__setattr__" = some (some (.builtin "object.__setattr__"))) && (decide (findIn K (.ref C) f = some none) && (decide (ks_superIn K C C "__init__" = some (some (.builtin "ValueError.__init__"))) &&
    (decide (subIn K (.ref C) (.type "ValueError") = some true) && (decide (mroIn K C (.ref C) = some true) && (decide (nsIn K cStatics "thirdparty.any" = some none) && (keepIn K (.ref C) && (decide (subIn K (.ref C) (.type "BaseException") = some true) && (decide (typeIn K (.ref C) = some (.type "type")) &&
    (match findIn K (.ref C) "__init__" with
    | some (some (.ref fI)) => decide (typeIn K (.ref fI) = some (.type "function")) && (match K.lookup fI with
      | some ⟨_, _, .func fd, _⟩ => fnB K file C fd x f
      | _ => false)
    | _ => false)))))))))))
theorem excB_ok {prog : Program} {K : Frag} {mg : Str → Option Value} {file : Str} {C : Addr} {x f : Str} (h : excB K file C x f = true) (hsup : mg "super" = none) (hfile : ((prog.main.file : Str) == file) = true) (htop : (prog.main.scope.names.lookup ("super" : Str)).isSome = false) :
    (∃ fI cc cda, Txt prog K mg C fI cc cda x f) ∧ keepIn K (.ref C) = true ∧ subIn K (.ref C) (.type "BaseException") = some true ∧ typeIn K (.ref C) = some (.type "type") := by
  unfold excB at h
  obtain ⟨h1, h⟩ := Bool.and_eq_true_iff.mp h
  obtain ⟨h2, h⟩ := Bool.and_eq_true_iff.mp h
  obtain ⟨h3, h⟩ := Bool.and_eq_true_iff.mp h
  obtain ⟨h4, h⟩ := Bool.and_eq_true_iff.mp h
  obtain ⟨h5, h⟩ := Bool.and_eq_true_iff.mp h
  obtain ⟨h6, h⟩ := Bool.and_eq_true_iff.mp h
  obtain ⟨h7, h⟩ := Bool.and_eq_true_iff.mp h
  obtain ⟨h8, h⟩ := Bool.and_eq_true_iff.mp h
  obtain ⟨h9, h⟩ := Bool.and_eq_true_iff.mp h
  obtain ⟨h10, h⟩ := Bool.and_eq_true_iff.mp h
  obtain ⟨h11, h⟩ := Bool.and_eq_true_iff.mp h
  refine ⟨?_, h9, of_decide_eq_true h10, of_decide_eq_true h11⟩
  split at h
  · rename_i fI hi
    obtain ⟨h12, h⟩ := Bool.and_eq_true_iff.mp h
    split at h
    · rename_i oc od fd osl hk
      obtain ⟨qual, doc, pm, an, ct, cc, cda, p1, p2, q1, q2, q3, q4, q5, q6, r1, r2, r3, r4, rfl, hc, hp, hcell, ccl, cdd, vs, ccs, tf, hcode, hvs⟩ := fnB_ok h
      refine ⟨fI, cc, cda, {
        ini := h1
        cd := ?_
        sa := of_decide_eq_true h3
        noN := of_decide_eq_true h4
        iC := hi
        tC := of_decide_eq_true h12
        su := of_decide_eq_true h5
        subVE := of_decide_eq_true h6
        subC := of_decide_eq_true h7
        opq := of_decide_eq_true h8
        sup := hsup
        cell := hcell
        code := ⟨ccl, cdd, vs, ccs, file, tf, hcode, hvs, hfile⟩
        top := htop
        fn := ⟨_, _, qual, doc, pm, an, ct, _, p1, p2, q1, q2, q3, q4, q5, q6, r1, r2, r3, r4, hk, hc, hp⟩ }⟩
      split at h2
      · rename_i cd hcd
        obtain ⟨a, b⟩ := Bool.and_eq_true_iff.mp h2
        exact ⟨cd, hcd, a, b⟩
      · cases h2
    · cases h
  · cases h
end SupX
end PySem
end

section
set_option Elab.async false
set_option linter.all false
set_option maxRecDepth 100000
set_option maxHeartbeats 4000000
/-! E44: a law's data; its facts from the run of the top. -/
namespace Nr
open PySem PySem.Spec PyProof.Rows L2 PySem.W
structure DL where
  d : He.DefD
  fd : FD
  ps : List Str
  N : List Str
structure LD where
  nx : Bool
  defs : List (Nat × DL)
  cls : List (Nat × Str)
  fld : List (Nat × Nat)
  mths : List ((Nat × Nat) × Nat)
  inis : List (Nat × Nat)
  ats : List Str
  mns : List Str
  cons : List (Str × PV)
  /-- exceptions that are raised: name, the argument's name, the field -/
  exs : List (Nat × Str × Str × Nat) := []
  /-- classes that are named in handlers alone -/
  exh : List (Nat × Str) := []
  /-- (e, h): an e is an h -/
  exr : List (Nat × Nat) := []
  file : Str := ""
theorem lookup_mem {α β : Type} [BEq α] [LawfulBEq α] : ∀ {l : List (α × β)} {k : α} {v : β}, l.lookup k = some v → (k, v) ∈ l
  | [], _, _, h => by cases h
  | (a, b) :: l, k, v, h => by
    rw [List.lookup_cons] at h
    split at h
    · rename_i e
      have e := eq_of_beq e
      cases h
      rw [e]
      exact List.mem_cons_self
    · exact List.mem_cons_of_mem _ (lookup_mem h)
def odd0 (f : Nat) : Str := ⟨#[0, f]⟩
namespace LD
variable (D : LD)
def an (f : Nat) : Str := D.ats.getD f (odd0 f)
def mn (f : Nat) : Str := D.mns.getD f (odd0 f)
def cn (c : Nat) : Str := match D.cls.lookup c with
  | some x => x
  | none => (match D.exs.lookup c with
    | some q => q.1
    | none => (D.exh.lookup c).getD (odd0 c))
def exnm (c : Nat) : Option Str := match D.cls.lookup c with
  | some _ => none
  | none => (match D.exs.lookup c with
    | some q => some q.1
    | none => D.exh.lookup c)
def tab : Tab where
  fns f := (D.defs.lookup f).map (·.fd)
  mth c m := D.mths.lookup (c, m)
  fld c f := D.fld.contains (c, f)
  ini c := D.inis.lookup c
  inCell _ := false
  eqm _ := none
  lnm _ := none
  exc c := (D.exs.lookup c).map fun q => [q.2.2]
  isExc e h := D.exr.contains (e, h)
  noex := D.nx
def far (f : Nat) : Nat := match D.defs.lookup f with
  | some e => e.fd.ar
  | none => 0
def ar : Ar where
  fn := D.far
  mth m := match D.mths.find? (fun p => p.1.2 == m) with
    | some p => D.far p.2
    | none => 0
  mkc c := match D.inis.lookup c with
    | some f => D.far f
    | none => 0
def nm : Nm where
  N := []
  cm := true
  fnn f := (D.defs.lookup f).bind fun e => match e.d.at_ with
    | (x, none) => some x
    | _ => none
  cln c := if (D.inis.lookup c).isSome then D.cls.lookup c else none
  con x := D.cons.lookup x
  an := D.an
  mn := D.mn
  exn := D.exnm
  rsn c := (D.exs.lookup c).isSome
  exf f := D.exs.any fun q => q.2.2.2 == f
/-- names that no code sign 0 begins -/
def nameB (x : Str) : Bool := match x.cps[0]? with
  | some 0 => false
  | _ => true
def leaf : PV → Option V
  | .int i => some (.int i)
  | .str s => some (.str s)
  | _ => none
def leafs : List PV → Option (List V)
  | [] => some []
  | x :: xs => (leaf x).bind fun v => (leafs xs).map (v :: ·)
def tupK (K : PySem.W.Frag) (x : Str) (vs : List V) : Bool := match K.lookup (He.ga K x) with
  | some ⟨.type c, none, .seq its _, _⟩ => decide (c = "tuple") && (decide (its.size ≤ sizeLine) && He.relAll vs its.toList)
  | _ => false
def conB (K : PySem.W.Frag) (p : Str × PV) : Bool := match p.2 with
  | .int i => (He.Fa.int p.1 i).ok K
  | .str s => (He.Fa.str p.1 s).ok K
  | .tup xs => (match leafs xs with
    | some vs => (He.Fa.glo p.1).ok K && tupK K p.1 vs
    | none => false)
  | _ => false
def scB (N ps : List Str) (sc : Scope) : Bool := (match sc.kind with | .function => true | _ => false) && !sc.isCoroutine && !sc.isGenerator && decide N.Nodup && (N.take ps.length == ps) &&
  (ps.all fun x => sc.names.lookup x == some .local || sc.names.lookup x == some .cell) && sc.names.all fun y => y.2 != .free
def fa0 : List He.Fa := blts.map .free ++ (D.defs.filterMap fun p => match p.2.d.at_ with
    | (x, none) => some (.glo x)
    | _ => none) ++ D.cls.map (fun p => .glo p.2) ++ D.inis.map (fun p => .mkr (D.cn p.1)) ++ D.fld.map (fun p => .cls (D.cn p.1)) ++ D.fld.map (fun p => .noat (D.cn p.1) (D.an p.2)) ++ D.mths.map (fun p => .cls (D.cn p.1.1)) ++ D.mths.map (fun p => .meth (D.cn p.1.1) (D.mn p.1.2))
def fa : List He.Fa := D.fa0 ++ (D.exs.map (fun q => .glo q.2.1) ++ (D.exh.map (fun q => .glo q.2) ++ D.exs.map fun _ => .free ("super" : Str)))
def fns : List He.DefD := D.defs.map (·.2.d)
def exOk (K : PySem.W.Frag) : Bool := D.exs.all fun q => PySem.SupX.excB K D.file (He.ga K q.2.1) q.2.2.1 (D.an q.2.2.2) && (xfB K (He.ga K q.2.1) && ((D.exs.all fun r => decide (PySem.W.findIn K (.ref (He.ga K q.2.1)) (D.an r.2.2.2) = some none)) &&
  ((D.exs.all fun r => decide (PySem.W.exmOne K (.ref (He.ga K q.2.1)) (.ref (He.ga K r.2.1)) = some (D.exr.contains (q.1, r.1)))) && D.exh.all fun r => decide (PySem.W.exmOne K (.ref (He.ga K q.2.1)) (.ref (He.ga K r.2)) = some (D.exr.contains (q.1, r.1))))))
def ex (K : PySem.W.Frag) : Bool := D.cons.all (conB K) && D.exOk K
def args : List Str := [("index" : Str), ("limit" : Str), ("value" : Str), ("line" : Str)]
def stat1 : Bool := (D.exs.all fun q => (args.contains q.2.2.1 && (D.cls.lookup q.1).isNone) && !(q.2.1 == ("__debug__" : Str))) && D.exh.all fun q => !(q.2 == ("__debug__" : Str))
def progB (P : Program) : Bool := D.exs.isEmpty || (((P.main.file : Str) == D.file) && !(P.main.scope.names.lookup ("super" : Str)).isSome)
def defB (e : DL) : Bool := e.d.dfl.isEmpty && e.d.kwd.isEmpty && scB e.N e.ps e.d.scope && (e.ps.length == e.fd.ar) && (e.fd.nv == e.N.length) && chkS { D.nm with N := e.N } D.ar D.nx e.d.scope e.fd.body e.d.body
def stat0 : Bool := decide D.ats.Nodup && D.ats.all nameB && (D.inis.all fun p => match D.defs.lookup p.2 with
    | some e => (D.cls.lookup p.1).isSome && e.d.at_ == (D.cn p.1, some ("__init__" : Str))
    | none => false) && (D.mths.all fun p => match D.defs.lookup p.2 with
    | some e => e.d.at_ == (D.cn p.1.1, some (D.mn p.1.2)) && (e.fd.ar == D.ar.mth p.1.2) && D.fld.all (fun q => q.1 != p.1.1 || D.an q.2 != D.mn p.1.2)
    | none => false)
def Binds0 (e : DL) : Prop := ∀ (kV doc pm : Value) (an : Option Addr) (cdv ct : Value) (us : List Value), us.length = e.ps.length → bindArgs (PySem.W.fnOf e.d.name e.d.qual e.d.params e.d.body e.d.scope .none kV doc pm an cdv ct) ⟨us, []⟩ = pure (e.ps.zip us)
end LD
theorem an_inj {l : List Str} (hd : l.Nodup) (hn : l.all LD.nameB = true) : ∀ f g, l.getD f (odd0 f) = l.getD g (odd0 g) → f = g := by
  intro f g h
  have nm : ∀ i, i < l.length → ∀ j, l.getD i (odd0 i) ≠ odd0 j := by
    intro i hi j e
    rw [List.getD_eq_getElem?_getD, List.getElem?_eq_getElem hi] at e
    have := List.all_eq_true.mp hn _ (List.getElem_mem hi)
    have e : l[i] = odd0 j := e
    rw [e] at this
    cases this
  have out : ∀ i, ¬ i < l.length → l.getD i (odd0 i) = odd0 i := fun i hi => by
    rw [List.getD_eq_getElem?_getD, List.getElem?_eq_none (by omega)]; rfl
  by_cases c1 : f < l.length
  · by_cases c2 : g < l.length
    · rw [List.getD_eq_getElem?_getD, List.getD_eq_getElem?_getD, List.getElem?_eq_getElem c1, List.getElem?_eq_getElem c2] at h
      have h : l[f] = l[g] := h
      rcases Nat.lt_trichotomy f g with lt | rfl | lt
      · exact absurd h (List.pairwise_iff_getElem.mp hd f g c1 c2 lt)
      · rfl
      · exact absurd h.symm (List.pairwise_iff_getElem.mp hd g f c2 c1 lt)
    · rw [out g c2] at h
      exact absurd h (nm f c1 g)
  · by_cases c2 : g < l.length
    · rw [out f c1] at h
      exact absurd h.symm (nm g c2 f)
    · rw [out f c1, out g c2] at h
      unfold odd0 at h
      simpa using h
def LD.inf (D : LD) (hi : ∀ f g, D.an f = D.an g → f = g) (P : Program) (w : World) (K : PySem.W.Frag) (mg : Str → Option Value) (base : Heap) : Inf where
  P := P
  w := w
  K := K
  mg := mg
  base := base
  cad c := He.ga K (D.cn c)
  fad f := match D.defs.lookup f with
    | some e => He.fAd K e.d.at_
    | none => 0
  an := D.an
  mn := D.mn
  inj := hi
section
variable {D : LD} {P : Program} {w : World} {K : PySem.W.Frag} {mg : Str → Option Value} {base h : Heap}
theorem leafs_rep {I : Inf} {F : Hp} {L : List Addr} : ∀ {xs : List PV} {vs : List V}, LD.leafs xs = some vs → RepL I F L xs vs
  | [], vs, e => by cases e; rfl
  | x :: xs, vs, e => by
    have e : (LD.leaf x).bind (fun v => (LD.leafs xs).map (v :: ·)) = some vs := e
    obtain ⟨v, e1, e2⟩ := Option.bind_eq_some_iff.mp e
    obtain ⟨us, e3, e4⟩ := Option.map_eq_some_iff.mp e2
    subst e4
    refine ⟨v, us, rfl, ?_, leafs_rep e3⟩
    cases x with
    | int i => cases e1; rfl
    | str s => cases e1; rfl
    | _ => cases e1
theorem con_ok (hi : ∀ f g, D.an f = D.an g → f = g) (X : K.In h) (G : h.Ns mainGlobals mg) {x : Str} {v : PV} (c : LD.conB K (x, v) = true) : ∃ u w', mg x = some u ∧ RelV w' u ∧ ∀ F L, RepV (D.inf hi P w K mg base) F L v w' := by
  unfold LD.conB at c
  cases v with
  | int i =>
    obtain ⟨t, e⟩ := He.int_ok X G c
    exact ⟨_, .int i, e, ⟨t, rfl⟩, fun _ _ => rfl⟩
  | str s =>
    obtain ⟨t, e⟩ := He.str_ok X G c
    exact ⟨_, .str s, e, ⟨t, rfl⟩, fun _ _ => rfl⟩
  | tup xs =>
    have c : (match LD.leafs xs with
      | some vs => (He.Fa.glo x).ok K && LD.tupK K x vs
      | none => false) = true := c
    cases hl : LD.leafs xs with
    | none => rw [hl] at c; cases c
    | some vs =>
      rw [hl] at c
      obtain ⟨c1, c2⟩ := band c
      refine ⟨_, .ref (He.ga K x), He.glo_ok X G c1, rfl, fun F L => ⟨He.ga K x, vs, rfl, ?_, leafs_rep hl⟩⟩
      unfold LD.tupK at c2
      split at c2
      · rename_i c its n sl hk
        obtain ⟨c3, c4⟩ := band c2
        obtain ⟨c5, c6⟩ := band c4
        have e := of_decide_eq_true c3
        subst e
        exact .inr ⟨_, its, n, hk, rfl, rfl, rfl, of_decide_eq_true c5, He.relAll_ok c6⟩
      · cases c2
  | _ => cases c
theorem scB_ok {N ps : List Str} {sc : Scope} (h : LD.scB N ps sc = true) : FnScope N ps sc := by
  unfold LD.scB at h
  obtain ⟨h, h7⟩ := band h
  obtain ⟨h, h6⟩ := band h
  obtain ⟨h, h5⟩ := band h
  obtain ⟨h, h4⟩ := band h
  obtain ⟨h, h3⟩ := band h
  obtain ⟨h1, h2⟩ := band h
  refine ⟨?_, by simpa using h2, by simpa using h3, of_decide_eq_true h4, eq_of_beq h5, fun x hx => ?_, fun y hy e => ?_⟩
  · split at h1
    · assumption
    · cases h1
  · have := List.all_eq_true.mp h6 x hx
    rw [Bool.or_eq_true] at this
    exact this.imp eq_of_beq eq_of_beq
  · have := List.all_eq_true.mp h7 y hy
    rw [e] at this
    cases this
theorem ex_name1 {c : Nat} {x : Str} {q : Str × Str × Nat} (h : D.exs.lookup c = some q) (h2 : D.exnm c = some x) : x = q.1 ∧ D.cn c = q.1 := by
  unfold LD.exnm at h2
  unfold LD.cn
  cases hc : D.cls.lookup c with
  | some y => rw [hc] at h2; cases h2
  | none =>
    rw [hc, h] at h2
    rw [h]
    exact ⟨(Option.some.inj h2).symm, rfl⟩
theorem ex_name {c : Nat} {x : Str} (h2 : D.exnm c = some x) : D.cn c = x ∧ ((∃ q, (c, q) ∈ D.exs ∧ q.1 = x) ∨ (c, x) ∈ D.exh) := by
  unfold LD.exnm at h2
  unfold LD.cn
  cases hc : D.cls.lookup c with
  | some y => rw [hc] at h2; cases h2
  | none =>
    rw [hc] at h2
    cases he : D.exs.lookup c with
    | some q =>
      rw [he] at h2
      have e := Option.some.inj h2
      exact ⟨e, .inl ⟨q, lookup_mem he, e⟩⟩
    | none =>
      rw [he] at h2
      have h2 : D.exh.lookup c = some x := h2
      exact ⟨by show (D.exh.lookup c).getD _ = _; rw [h2]; rfl, .inr (lookup_mem h2)⟩
theorem exs_cn {c : Nat} {q : Str × Str × Nat} (hs : D.stat1 = true) (h : D.exs.lookup c = some q) : D.cn c = q.1 := by
  unfold LD.stat1 at hs
  obtain ⟨t1, _⟩ := band hs
  have t1 := List.all_eq_true.mp t1 _ (lookup_mem h)
  obtain ⟨t1, _⟩ := band t1
  obtain ⟨_, t1⟩ := band t1
  unfold LD.cn
  cases hc : D.cls.lookup c with
  | some y => rw [hc] at t1; cases t1
  | none => rw [h]
theorem args_ok {x : Str} (h : LD.args.contains x = true) : PySem.SupX.XOk x := by
  have h := List.contains_iff_mem.mp h
  simp only [LD.args, List.mem_cons, List.not_mem_nil, or_false] at h
  rcases h with rfl | rfl | rfl | rfl
  · exact PySem.SupX.xok_index
  · exact PySem.SupX.xok_limit
  · exact PySem.SupX.xok_value
  · exact PySem.SupX.xok_line
theorem lawTx (hs : D.stat0 = true) (hd : ∀ p ∈ D.defs, D.defB p.2 = true) (hb : ∀ p ∈ D.defs, LD.Binds0 p.2) (hi : ∀ f g, D.an f = D.an g → f = g) (X : K.In h) (G : h.Ns mainGlobals mg) (c : He.SaysD D.fa D.fns K) (cx : D.ex K = true) (hs1 : D.stat1 = true) (hpr : D.progB P = true) :
    LawTx (D.inf hi P w K mg base) D.nm D.tab D.ar D.nx := by
  obtain ⟨cx, cx2⟩ := band cx
  unfold LD.stat0 at hs
  obtain ⟨hs, s4⟩ := band hs
  obtain ⟨hs, s3⟩ := band hs
  have fad : ∀ {f : Nat} {e : DL}, D.defs.lookup f = some e → (D.inf hi P w K mg base).fad f = He.fAd K e.d.at_ := fun {f e} he => by
    show (match D.defs.lookup f with
      | some e => He.fAd K e.d.at_
      | none => 0) = _
    rw [he]
  have fac : ∀ {f : He.Fa}, f ∈ D.fa → f.ok K = true := fun hf => c.facts hf
  exact {
    cm := rfl
    hnx := fun h => h
    eqm := fun _ => rfl
    lnm := fun _ => rfl
    cls := ⟨fun cc f q => by
      have q : (cc, f) ∈ D.fld := List.contains_iff_mem.mp q
      have f1 : He.Fa.cls (D.cn cc) ∈ D.fa := by refine List.mem_append_left _ ?_; unfold LD.fa0; simp only [List.mem_append, List.mem_map]; exact .inl (.inl (.inl (.inr ⟨_, q, rfl⟩)))
      have f2 : He.Fa.noat (D.cn cc) (D.an f) ∈ D.fa := by refine List.mem_append_left _ ?_; unfold LD.fa0; simp only [List.mem_append, List.mem_map]; exact .inl (.inl (.inr ⟨_, q, rfl⟩))
      exact ⟨He.cls_ok (fac f1), He.noat_ok (fac f2)⟩⟩
    fns := fun f fd q => by
      obtain ⟨e, he, e2⟩ := Option.map_eq_some_iff.mp q
      subst e2
      have hm := lookup_mem he
      have hdd := hd _ hm
      unfold LD.defB at hdd
      obtain ⟨hdd, d6⟩ := band hdd
      obtain ⟨hdd, d5⟩ := band hdd
      obtain ⟨hdd, d4⟩ := band hdd
      obtain ⟨hdd, d3⟩ := band hdd
      obtain ⟨d1, d2⟩ := band hdd
      obtain ⟨fdata, F⟩ := c.defs (d := e.d) (List.mem_map.mpr ⟨_, hm, rfl⟩)
      have e1 : e.d.dvs K = [] := by unfold He.DefD.dvs; rw [List.isEmpty_iff.mp d1]; rfl
      have e2 : e.d.kws K = [] := by unfold He.DefD.kws; rw [List.isEmpty_iff.mp d2]; rfl
      rw [e1, e2] at F
      rw [← fad he] at F
      exact ⟨_, _, _, _, _, fdata, e.ps, e.N, F, F.bindsN (hb _ hm), scB_ok d3, eq_of_beq d4, eq_of_beq d5, d6⟩
    fnn := fun f x q => by
      obtain ⟨e, he, e2⟩ := Option.bind_eq_some_iff.mp q
      split at e2
      · rename_i y hat
        cases e2
        have f1 : He.Fa.glo x ∈ D.fa := by
          refine List.mem_append_left _ ?_
          unfold LD.fa0
          simp only [List.mem_append, List.mem_filterMap]
          exact .inl (.inl (.inl (.inl (.inl (.inl (.inr ⟨_, lookup_mem he, by rw [hat]⟩))))))
        refine ⟨⟨e.fd, by show (D.defs.lookup f).map (·.fd) = _; rw [he]; rfl, ?_⟩, ?_⟩
        · show e.fd.ar = D.far f
          unfold LD.far
          rw [he]
        · rw [fad he, hat]
          exact He.glo_ok X G (fac f1)
      · cases e2
    mth := fun m cc f q => by
      have hm := lookup_mem (show D.mths.lookup (cc, m) = some f from q)
      have z := List.all_eq_true.mp s4 _ hm
      dsimp only at z
      split at z
      · rename_i e he
        obtain ⟨z, z3⟩ := band z
        obtain ⟨z1, z2⟩ := band z
        have z1 := eq_of_beq z1
        have f1 : He.Fa.cls (D.cn cc) ∈ D.fa := by refine List.mem_append_left _ ?_; unfold LD.fa0; simp only [List.mem_append, List.mem_map]; exact .inl (.inr ⟨_, hm, rfl⟩)
        have f2 : He.Fa.meth (D.cn cc) (D.mn m) ∈ D.fa := by refine List.mem_append_left _ ?_; unfold LD.fa0; simp only [List.mem_append, List.mem_map]; exact .inr ⟨_, hm, rfl⟩
        refine ⟨⟨He.cls_ok (fac f1), ?_, fun g hg => ?_⟩, e.fd, by show (D.defs.lookup f).map (·.fd) = _; rw [he]; rfl, eq_of_beq z2⟩
        · rw [fad he, z1]
          exact He.meth_ok (fac f2)
        · have hg : (cc, g) ∈ D.fld := List.contains_iff_mem.mp hg
          have := List.all_eq_true.mp z3 _ hg
          simp only [bne_self_eq_false, Bool.false_or, bne_iff_ne] at this
          exact this
      · cases z
    mkc := fun cc x q => by
      have q : (if (D.inis.lookup cc).isSome then D.cls.lookup cc else none) = some x := q
      split at q
      · rename_i hs
        obtain ⟨f, hf⟩ := Option.isSome_iff_exists.mp hs
        have hm := lookup_mem hf
        have z := List.all_eq_true.mp s3 _ hm
        dsimp only at z
        split at z
        · rename_i e he
          obtain ⟨z1, z2⟩ := band z
          have z2 := eq_of_beq z2
          have f1 : He.Fa.mkr (D.cn cc) ∈ D.fa := by refine List.mem_append_left _ ?_; unfold LD.fa0; simp only [List.mem_append, List.mem_map]; exact .inl (.inl (.inl (.inl (.inr ⟨_, hm, rfl⟩))))
          have f2 : He.Fa.glo x ∈ D.fa := by refine List.mem_append_left _ ?_; unfold LD.fa0; simp only [List.mem_append, List.mem_map]; exact .inl (.inl (.inl (.inl (.inl (.inr ⟨_, lookup_mem q, rfl⟩)))))
          have hcn : D.cn cc = x := by unfold LD.cn; rw [q]
          refine ⟨⟨f, e.fd, hf, rfl, by show (D.defs.lookup f).map (·.fd) = _; rw [he]; rfl, ?_, ?_⟩, ?_⟩
          · show e.fd.ar = (match D.inis.lookup cc with
              | some f => D.far f
              | none => 0)
            rw [hf]
            show e.fd.ar = D.far f
            unfold LD.far
            rw [he]
          · rw [fad he, z2]
            exact He.mkr_ok (fac f1)
          · show mg x = some (.ref (He.ga K (D.cn cc)))
            rw [hcn]
            exact He.glo_ok X G (fac f2)
        · cases z
      · cases q
    mn := fun _ => rfl
    blt := fun x hx => by
      have f1 : He.Fa.free x ∈ D.fa := by refine List.mem_append_left _ ?_; unfold LD.fa0; simp only [List.mem_append, List.mem_map]; exact .inl (.inl (.inl (.inl (.inl (.inl (.inl ⟨_, hx, rfl⟩))))))
      exact He.free_ok X G (fac f1)
    con := fun x v q => con_ok hi X G (List.all_eq_true.mp cx _ (lookup_mem q))
    an := fun _ => rfl
    cur := rfl
    rse := fun cc x h1 h2 => by
      obtain ⟨q, hq⟩ := Option.isSome_iff_exists.mp (show (D.exs.lookup cc).isSome = true from h1)
      obtain ⟨hx, hcn⟩ := ex_name1 hq (show D.exnm cc = some x from h2)
      have hm := lookup_mem hq
      have b := List.all_eq_true.mp cx2 _ hm
      obtain ⟨b1, _⟩ := band b
      have hs1' := hs1
      unfold LD.stat1 at hs1'
      obtain ⟨t1, _⟩ := band hs1'
      have t1 := List.all_eq_true.mp t1 _ hm
      obtain ⟨t1, _⟩ := band t1
      obtain ⟨t1, _⟩ := band t1
      have hne : D.exs.isEmpty = false := by
        cases hE : D.exs with
        | nil => rw [hE] at hm; cases hm
        | cons a b => rfl
      have hp := hpr
      unfold LD.progB at hp
      rw [hne, Bool.false_or] at hp
      obtain ⟨p1, p2⟩ := band hp
      have fs : He.Fa.free ("super" : Str) ∈ D.fa := List.mem_append_right _ (List.mem_append_right _ (List.mem_append_right _ (List.mem_map.mpr ⟨_, hm, rfl⟩)))
      obtain ⟨⟨fI, cc', cda, T⟩, k1, k2, k3⟩ := PySem.SupX.excB_ok (prog := P) (mg := mg) b1 (He.free_ok X G (fac fs)) p1 (by simpa using p2)
      refine ⟨q.2.2, fI, cc', cda, q.2.1, by show (D.exs.lookup cc).map _ = _; rw [hq] <;> rfl, ?_, args_ok t1, ?_, ?_, ?_⟩
      · show PySem.SupX.Txt P K mg (He.ga K (D.cn cc)) fI cc' cda q.2.1 (D.an q.2.2)
        rw [hcn]; exact T
      · show PySem.W.keepIn K (.ref (He.ga K (D.cn cc))) = true
        rw [hcn]; exact k1
      · show PySem.W.subIn K (.ref (He.ga K (D.cn cc))) _ = _
        rw [hcn]; exact k2
      · show PySem.W.typeIn K (.ref (He.ga K (D.cn cc))) = _
        rw [hcn]; exact k3
    exn := fun cc x h => by
      have h : D.exnm cc = some x := h
      obtain ⟨hcn, hm⟩ := ex_name h
      have hs1' := hs1
      unfold LD.stat1 at hs1'
      obtain ⟨t1, t2⟩ := band hs1'
      rcases hm with ⟨q, hm, rfl⟩ | hm
      · have f1 : He.Fa.glo q.1 ∈ D.fa := List.mem_append_right _ (List.mem_append_left _ (List.mem_map.mpr ⟨_, hm, rfl⟩))
        have t1 := List.all_eq_true.mp t1 _ hm
        obtain ⟨_, t1⟩ := band t1
        refine ⟨?_, by simpa using t1⟩
        show mg _ = some (.ref (He.ga K (D.cn cc)))
        rw [hcn]
        exact He.glo_ok X G (fac f1)
      · have f1 : He.Fa.glo x ∈ D.fa := List.mem_append_right _ (List.mem_append_right _ (List.mem_append_left _ (List.mem_map.mpr ⟨_, hm, rfl⟩)))
        have t2 := List.all_eq_true.mp t2 _ hm
        refine ⟨?_, by simpa using t2⟩
        show mg _ = some (.ref (He.ga K (D.cn cc)))
        rw [hcn]
        exact He.glo_ok X G (fac f1)
    exm := fun e fs cc x he h => by
      obtain ⟨q, hq, _⟩ := Option.map_eq_some_iff.mp (show (D.exs.lookup e).map (fun q => [q.2.2]) = some fs from he)
      have hmq := lookup_mem hq
      have b := List.all_eq_true.mp cx2 _ hmq
      obtain ⟨_, b⟩ := band b
      obtain ⟨_, b⟩ := band b
      obtain ⟨_, b⟩ := band b
      obtain ⟨b1, b2⟩ := band b
      have h : D.exnm cc = some x := h
      obtain ⟨hcn, hm⟩ := ex_name h
      have hen : D.cn e = q.1 := exs_cn hs1 hq
      rcases hm with ⟨r, hm, rfl⟩ | hm
      · have := of_decide_eq_true (List.all_eq_true.mp b1 _ hm)
        show PySem.W.exmOne K (.ref (He.ga K (D.cn e))) (.ref (He.ga K (D.cn cc))) = some (D.exr.contains (e, cc))
        rw [hen, hcn]
        exact this
      · have := of_decide_eq_true (List.all_eq_true.mp b2 _ hm)
        show PySem.W.exmOne K (.ref (He.ga K (D.cn e))) (.ref (He.ga K (D.cn cc))) = some (D.exr.contains (e, cc))
        rw [hen, hcn]
        exact this
    xf := fun e fs he => by
      obtain ⟨q, hq, _⟩ := Option.map_eq_some_iff.mp (show (D.exs.lookup e).map (fun q => [q.2.2]) = some fs from he)
      have b := List.all_eq_true.mp cx2 _ (lookup_mem hq)
      obtain ⟨_, b⟩ := band b
      obtain ⟨b1, b⟩ := band b
      obtain ⟨b2, _⟩ := band b
      have hen : D.cn e = q.1 := exs_cn hs1 hq
      refine ⟨?_, fun f hf => ?_⟩
      · show XfC K (He.ga K (D.cn e))
        rw [hen]; exact xfB_ok b1
      · obtain ⟨r, hr, e2⟩ := List.any_eq_true.mp (show (D.exs.any fun q => q.2.2.2 == f) = true from hf)
        have e2 := eq_of_beq e2
        have := of_decide_eq_true (List.all_eq_true.mp b2 _ hr)
        show PySem.W.findIn K (.ref (He.ga K (D.cn e))) (D.an f) = _
        rw [hen, ← e2]
        exact this }
end
end Nr
end

section
set_option Elab.async false
set_option linter.all false
set_option maxRecDepth 100000
set_option maxHeartbeats 0
namespace K17
open PySem PySem.Spec PyProof.Rows L2 PySem.W Nr
/-- the top's statements -/
def top (i : Nat) : PySem.Stmt := PySem.Challenge.pw_narrowrows_k17_whole_bands.main.body.getD i (.Pass ⟨0, 0, 0, 0⟩)
def clsBody : PySem.Stmt → List PySem.Stmt
  | .ClassDef _ _ _ b _ _ _ _ _ _ _ => b
  | _ => []
def c_is_whole_1 : FD := ⟨1, 1,
  (.ret (.and (.isa (.var 0) [.int]) (.not (.isa (.var 0) [.bool]))))⟩
def n_is_whole_1 : List PySem.Str := ["value"]
def c_is_number_2 : FD := ⟨3, 3,
  (.ret (.and (.call 1 (.cons (.var 0) .nil)) (.cmp2 .le .le (.var 1) (.var 0) (.var 2))))⟩
def n_is_number_2 : List PySem.Str := ["value", "least", "most"]
def c_is_row_3 : FD := ⟨1, 1,
  (.ret (.isa (.var 0) [.list, .tuple]))⟩
def n_is_row_3 : List PySem.Str := ["value"]
def c_is_order_4 : FD := ⟨2, 3,
  (.seq (.ite (.or (.not (.call 3 (.cons (.var 0) .nil))) (.bin .ne (.una .len (.var 0)) (.var 1))) (.ret (.cst (.bl false))) .skip)
    (.ret (.and (.una .all_ (.comp false (.var 2) .rng1 (.cons (.var 1) .nil) (.cst (.bl true)) (.bin .isin (.var 2) (.var 0)))) (.una .all_ (.comp false (.var 2) .seq (.cons (.var 0) .nil) (.cst (.bl true)) (.isa (.var 2) [.int]))))))⟩
def n_is_order_4 : List PySem.Str := ["value", "many", "place"]
def c_want_order_5 : FD := ⟨2, 2,
  (.seq (.ite (.not (.call 4 (.cons (.var 1) (.cons (.attr (.var 0) 2) .nil)))) (.raise 1 (.cons (.cst .non) .nil)) .skip)
    (.ret (.una .tuple_ (.var 1))))⟩
def n_want_order_5 : List PySem.Str := ["web", "order"]
def c_all_orders_6 : FD := ⟨1, 6,
  (.seq (.ite (.bin .gt (.var 0) (.cst (.int 6))) (.raise 2 (.cons (.cst (.int 6)) .nil)) .skip)
    (.seq (.asg (.var 1) (.lst (.cons (.tup .nil) .nil)))
    (.seq (.for_ true (.var 2) .rng1 (.cons (.var 0) .nil) (.seq (.asg (.var 3) (.lst .nil))
    (.seq (.for_ false (.var 4) .seq (.cons (.var 1) .nil) (.extend (.var 3) (.comp false (.var 5) .rng1 (.cons (.var 0) .nil) (.bin .notin (.var 5) (.var 4)) (.bin .add (.var 4) (.tup (.cons (.var 5) .nil))))))
    (.asg (.var 1) (.var 3)))))
    (.ret (.una .tuple_ (.var 1))))))⟩
def n_all_orders_6 : List PySem.Str := ["many", "rows", "turn", "longer", "row", "place"]
def c_is_tie_7 : FD := ⟨2, 3,
  (.seq (.ite (.or (.not (.call 3 (.cons (.var 0) .nil))) (.or (.bin .ne (.una .len (.var 0)) (.cst (.int 2))) (.not (.una .all_ (.comp false (.var 2) .seq (.cons (.var 0) .nil) (.cst (.bl true)) (.call 2 (.cons (.var 2) (.cons (.cst (.int 0)) (.cons (.bin .sub (.var 1) (.cst (.int 1))) .nil))))))))) (.ret (.cst (.bl false))) .skip)
    (.ret (.bin .lt (.bin .idx (.var 0) (.cst (.int 0))) (.bin .idx (.var 0) (.cst (.int 1))))))⟩
def n_is_tie_7 : List PySem.Str := ["value", "many", "place"]
def c_all_ties_8 : FD := ⟨1, 1,
  (.ret (.meth 7 (.mk 3 (.cons (.var 0) (.cons (.tup .nil) .nil))) .nil))⟩
def n_all_ties_8 : List PySem.Str := ["many"]
def c_band_9 : FD := ⟨2, 3,
  (.seq (.ite (.not (.call 2 (.cons (.var 1) (.cons (.cst (.int 0)) (.cons (.var 0) .nil))))) (.raise 1 (.cons (.cst .non) .nil)) .skip)
    (.ret (.mk 3 (.cons (.var 0) (.cons (.comp false (.var 2) .seq (.cons (.call 8 (.cons (.var 0) .nil)) .nil) (.bin .le (.bin .sub (.bin .idx (.var 2) (.cst (.int 1))) (.bin .idx (.var 2) (.cst (.int 0)))) (.var 1)) (.var 2)) .nil)))))⟩
def n_band_9 : List PySem.Str := ["many", "far", "tie"]
def c_band_size_10 : FD := ⟨2, 3,
  (.ret (.una .sum_ (.comp false (.var 2) .rng2 (.cons (.cst (.int 1)) (.cons (.bin .add (.var 1) (.cst (.int 1))) .nil)) (.cst (.bl true)) (.bin .max2 (.cst (.int 0)) (.bin .sub (.var 0) (.var 2))))))⟩
def n_band_size_10 : List PySem.Str := ["many", "far", "step"]
def c_lies_in_11 : FD := ⟨3, 6,
  (.seq (.asg (.var 3) (.call 5 (.cons (.var 0) (.cons (.var 2) .nil))))
    (.seq (.ite (.bin .ne (.attr (.var 0) 2) (.attr (.var 1) 2)) (.raise 1 (.cons (.cst .non) .nil)) .skip)
    (.ret (.una .all_ (.comp false (.cons (.var 4) (.cons (.var 5) .nil)) .seq (.cons (.attr (.var 0) 3) .nil) (.cst (.bl true)) (.meth 4 (.var 1) (.cons (.bin .index (.var 3) (.var 4)) (.cons (.bin .index (.var 3) (.var 5)) .nil))))))))⟩
def n_lies_in_11 : List PySem.Str := ["web", "other", "order", "row", "one", "two"]
def c_first_lying_12 : FD := ⟨2, 3,
  (.seq (.for_ false (.var 2) .seq (.cons (.call 6 (.cons (.attr (.var 0) 2) .nil)) .nil) (.ite (.call 11 (.cons (.var 0) (.cons (.var 1) (.cons (.var 2) .nil)))) (.ret (.var 2)) .skip))
    (.ret (.cst .non)))⟩
def n_first_lying_12 : List PySem.Str := ["web", "other", "order"]
def c_least_band_13 : FD := ⟨1, 2,
  (.seq (.asg (.var 1) (.cst (.int 0)))
    (.seq (.whl (.una .isNone (.call 12 (.cons (.var 0) (.cons (.call 9 (.cons (.attr (.var 0) 2) (.cons (.var 1) .nil))) .nil)))) (.aug 1 .add (.cst (.int 1))))
    (.ret (.var 1))))⟩
def n_least_band_13 : List PySem.Str := ["web", "far"]
def c_tie_bar_14 : FD := ⟨1, 2,
  (.seq (.asg (.var 1) (.cst (.int 0)))
    (.seq (.whl (.bin .lt (.call 10 (.cons (.attr (.var 0) 2) (.cons (.var 1) .nil))) (.una .len (.attr (.var 0) 3))) (.aug 1 .add (.cst (.int 1))))
    (.ret (.var 1))))⟩
def n_tie_bar_14 : List PySem.Str := ["web", "far"]
def c_degree_bar_15 : FD := ⟨1, 1,
  (.ret (.bin .fdiv (.bin .add (.una .max1 (.meth 6 (.var 0) .nil)) (.cst (.int 1))) (.cst (.int 2))))⟩
def n_degree_bar_15 : List PySem.Str := ["web"]
def c__law_taken_16 : FD := ⟨2, 4,
  (.seq (.ite (.bin .gt (.bin .idx (.var 0) (.cst (.int 3))) (.cst (.int 0))) (.seq (.asg (.var 2) (.bin .mod (.una .int_ (.bin .idx (.var 0) (.cst (.int 3)))) (.var 1)))
    (.seq (.setsub (.var 0) (.cst (.int 3)) (.bin .fdiv (.bin .idx (.var 0) (.cst (.int 3))) (.var 1)))
    (.ret (.var 2)))) .skip)
    (.seq (.setsub (.var 0) (.cst (.int 1)) (.bin .add (.bin .idx (.var 0) (.cst (.int 1))) (.cst (.int 1))))
    (.seq (.ite (.bin .gt (.bin .idx (.var 0) (.cst (.int 1))) (.una .len (.bin .idx (.var 0) (.cst (.int 0))))) (.seq (.setsub (.var 0) (.cst (.int 2)) (.bin .mod (.una .int_ (.bin .add (.bin .mul (.bin .idx (.var 0) (.cst (.int 2))) (.cst (.int 48271))) (.cst (.int 11)))) (.cst (.int 2147483647))))
    (.ret (.bin .mod (.una .int_ (.bin .fdiv (.bin .idx (.var 0) (.cst (.int 2))) (.cst (.int 7)))) (.var 1)))) .skip)
    (.seq (.asg (.var 3) (.bin .idx (.bin .idx (.var 0) (.cst (.int 0))) (.bin .sub (.bin .idx (.var 0) (.cst (.int 1))) (.cst (.int 1)))))
    (.seq (.setsub (.var 0) (.cst (.int 2)) (.bin .mod (.una .int_ (.bin .add (.bin .add (.bin .mul (.bin .idx (.var 0) (.cst (.int 2))) (.cst (.int 48271))) (.var 3)) (.cst (.int 11)))) (.cst (.int 2147483647))))
    (.seq (.ite (.bin .ge (.var 3) (.bin .pow (.cst (.int 10)) (.cst (.int 18)))) (.setsub (.var 0) (.cst (.int 3)) (.bin .fdiv (.var 3) (.var 1))) .skip)
    (.ret (.bin .mod (.una .int_ (.var 3)) (.var 1)))))))))⟩
def n__law_taken_16 : List PySem.Str := ["row", "many", "found", "cell"]
def c__law_pairs_17 : FD := ⟨2, 5,
  (.seq (.asg (.var 2) (.lst .nil))
    (.seq (.for_ false (.var 3) .rng1 (.cons (.var 0) .nil) (.asg (.var 2) (.bin .add (.var 2) (.comp false (.var 4) .rng1 (.cons (.var 1) .nil) (.cst (.bl true)) (.tup (.cons (.var 3) (.cons (.var 4) .nil)))))))
    (.ret (.var 2))))⟩
def n__law_pairs_17 : List PySem.Str := ["firsts", "seconds", "found", "one", "two"]
def c__law_web_18 : FD := ⟨2, 7,
  (.seq (.asg (.var 2) (.bin .add (.cst (.int 1)) (.call 16 (.cons (.var 0) (.cons (.var 1) .nil)))))
    (.seq (.par (.cons (.var 3) (.cons (.var 4) .nil)) (.cons (.bin .add (.cst (.int 1)) (.call 16 (.cons (.var 0) (.cons (.cst (.int 4)) .nil)))) (.cons (.lst .nil) .nil)))
    (.seq (.for_ true (.var 5) .rng1 (.cons (.var 2) .nil) (.for_ false (.var 6) .rng2 (.cons (.bin .add (.var 5) (.cst (.int 1))) (.cons (.var 2) .nil)) (.ite (.bin .lt (.call 16 (.cons (.var 0) (.cons (.cst (.int 5)) .nil))) (.var 3)) (.append (.var 4) (.tup (.cons (.var 5) (.cons (.var 6) .nil)))) .skip)))
    (.ret (.tup (.cons (.var 2) (.cons (.una .tuple_ (.var 4)) .nil)))))))⟩
def n__law_web_18 : List PySem.Str := ["row", "most", "many", "heavy", "found", "one", "other"]
def c__law_orders_19 : FD := ⟨1, 6,
  (.seq (.asg (.var 1) (.lst (.cons (.tup .nil) .nil)))
    (.seq (.for_ true (.var 2) .rng1 (.cons (.var 0) .nil) (.seq (.asg (.var 3) (.lst .nil))
    (.seq (.for_ false (.var 4) .seq (.cons (.var 1) .nil) (.asg (.var 3) (.bin .add (.var 3) (.comp false (.var 5) .rng1 (.cons (.var 0) .nil) (.bin .notin (.var 5) (.var 4)) (.bin .add (.var 4) (.tup (.cons (.var 5) .nil)))))))
    (.asg (.var 1) (.var 3)))))
    (.ret (.var 1))))⟩
def n__law_orders_19 : List PySem.Str := ["many", "rows", "turn", "longer", "row", "place"]
def c__law_cuts_20 : FD := ⟨2, 6,
  (.seq (.asg (.var 2) (.lst .nil))
    (.seq (.for_ false (.var 3) .rng2 (.cons (.cst (.int 1)) (.cons (.una .len (.var 1)) .nil)) (.append (.var 2) (.una .len (.comp false (.cons (.var 4) (.cons (.var 5) .nil)) .seq (.cons (.var 0) .nil) (.bin .ne (.bin .isin (.var 4) (.slc (.var 1) (.cst .non) (.var 3))) (.bin .isin (.var 5) (.slc (.var 1) (.cst .non) (.var 3)))) (.cst (.int 1))))))
    (.ret (.var 2))))⟩
def n__law_cuts_20 : List PySem.Str := ["ties", "order", "found", "gap", "one", "other"]
def c__law_measure_21 : FD := ⟨3, 8,
  (.seq (.asg (.var 3) (.una .dict_ (.comp false (.var 5) .rng1 (.cons (.una .len (.var 1)) .nil) (.cst (.bl true)) (.tup (.cons (.bin .idx (.var 1) (.var 5)) (.cons (.var 5) .nil))))))
    (.seq (.asg (.var 4) (.comp false (.cons (.var 6) (.cons (.var 7) .nil)) .seq (.cons (.var 0) .nil) (.cst (.bl true)) (.una .abs (.bin .sub (.bin .idx (.var 3) (.var 6)) (.bin .idx (.var 3) (.var 7))))))
    (.seq (.ite (.or (.bin .eq (.var 2) (.cst (.str "live"))) (.bin .eq (.var 2) (.cst (.str "wait")))) (.asg (.var 4) (.call 25 (.cons (.var 0) (.cons (.var 1) .nil)))) .skip)
    (.seq (.ite (.or (.bin .eq (.var 2) (.cst (.str "sum"))) (.bin .eq (.var 2) (.cst (.str "wait")))) (.ret (.una .sum_ (.var 4))) .skip)
    (.seq (.ite (.bin .eq (.var 2) (.cst (.str "cut"))) (.asg (.var 4) (.call 20 (.cons (.var 0) (.cons (.var 1) .nil)))) .skip)
    (.ret (.una .max1 (.bin .add (.lst (.cons (.cst (.int 0)) .nil)) (.var 4)))))))))⟩
def n__law_measure_21 : List PySem.Str := ["ties", "order", "kind", "where", "rows", "at", "one", "other"]
def c__law_least_22 : FD := ⟨2, 5,
  (.seq (.asg (.var 2) (.comp false (.var 4) .seq (.cons (.call 19 (.cons (.bin .idx (.var 0) (.cst (.int 0))) .nil)) .nil) (.cst (.bl true)) (.call 21 (.cons (.bin .idx (.var 0) (.cst (.int 1))) (.cons (.var 4) (.cons (.var 1) .nil))))))
    (.seq (.asg (.var 3) (.una .min1 (.var 2)))
    (.ret (.tup (.cons (.var 3) (.cons (.bin .idx (.call 19 (.cons (.bin .idx (.var 0) (.cst (.int 0))) .nil)) (.bin .index (.var 2) (.var 3))) (.cons (.bin .count (.var 2) (.var 3)) .nil)))))))⟩
def n__law_least_22 : List PySem.Str := ["told", "kind", "rows", "least", "order"]
def c__law_order_23 : FD := ⟨2, 4,
  (.seq (.par (.cons (.var 2) (.cons (.var 3) .nil)) (.cons (.lst .nil) (.cons (.mkseq false .rng1 (.cons (.var 1) .nil)) .nil)))
    (.seq (.whl (.bin .ne (.var 3) (.lst .nil)) (.append (.var 2) (.pop (.var 3) (.cons (.call 16 (.cons (.var 0) (.cons (.una .len (.var 3)) .nil))) .nil))))
    (.ret (.una .tuple_ (.var 2)))))⟩
def n__law_order_23 : List PySem.Str := ["row", "many", "found", "left"]
def c__law_tied_24 : FD := ⟨2, 4,
  (.ret (.una .sorted_ (.comp false (.cons (.var 2) (.cons (.var 3) .nil)) .seq (.cons (.var 0) .nil) (.or (.bin .eq (.var 1) (.var 2)) (.bin .eq (.var 1) (.var 3))) (.bin .sub (.bin .add (.var 2) (.var 3)) (.var 1)))))⟩
def n__law_tied_24 : List PySem.Str := ["ties", "place", "one", "other"]
def c__law_lives_25 : FD := ⟨2, 7,
  (.seq (.asg (.var 2) (.lst .nil))
    (.seq (.for_ false (.var 3) .rng2 (.cons (.cst (.int 1)) (.cons (.una .len (.var 1)) .nil)) (.seq (.asg (.var 4) (.slc (.var 1) (.cst .non) (.var 3)))
    (.append (.var 2) (.una .lenset (.bin .add (.comp false (.cons (.var 5) (.cons (.var 6) .nil)) .seq (.cons (.var 0) .nil) (.and (.bin .isin (.var 5) (.var 4)) (.bin .notin (.var 6) (.var 4))) (.var 5)) (.comp false (.cons (.var 5) (.cons (.var 6) .nil)) .seq (.cons (.var 0) .nil) (.and (.bin .isin (.var 6) (.var 4)) (.bin .notin (.var 5) (.var 4))) (.var 6)))))))
    (.ret (.var 2))))⟩
def n__law_lives_25 : List PySem.Str := ["ties", "order", "found", "gap", "ahead", "one", "other"]
def c_law_26 : FD := ⟨1, 24,
  (.seq (.asg (.var 1) (.cell (.lst (.cons (.var 0) (.cons (.cst (.int 0)) (.cons (.cst (.int 223)) (.cons (.cst (.int 0)) .nil)))))))
    (.seq (.asg (.var 2) (.call 18 (.cons (.var 1) (.cons (.cst (.int 5)) .nil))))
    (.seq (.asg (.cons (.var 3) (.cons (.var 4) .nil)) (.var 2))
    (.seq (.asg (.var 5) (.mk 3 (.cons (.var 3) (.cons (.var 4) .nil))))
    (.seq (.asg (.cons (.var 6) (.cons (.var 7) (.cons (.var 8) .nil))) (.call 22 (.cons (.var 2) (.cons (.cst (.str "stretch")) .nil))))
    (.seq (.ite (.or (.bin .ne (.call 13 (.cons (.var 5) .nil)) (.var 6)) (.bin .ne (.call 12 (.cons (.var 5) (.cons (.call 9 (.cons (.var 3) (.cons (.var 6) .nil))) .nil))) (.var 7))) (.ret (.cst (.bl false))) .skip)
    (.seq (.for_ false (.var 9) .rng1 (.cons (.bin .add (.var 3) (.cst (.int 1))) .nil) (.seq (.asg (.var 10) (.call 9 (.cons (.var 3) (.cons (.var 9) .nil))))
    (.seq (.ite (.or (.bin .ne (.attr (.var 10) 3) (.una .tuple_ (.comp false (.cons (.var 19) (.cons (.var 13) .nil)) .seq (.cons (.call 17 (.cons (.var 3) (.cons (.var 3) .nil))) .nil) (.cmp2 .lt .le (.cst (.int 0)) (.bin .sub (.var 13) (.var 19)) (.var 9)) (.tup (.cons (.var 19) (.cons (.var 13) .nil)))))) (.bin .ne (.call 10 (.cons (.var 3) (.cons (.var 9) .nil))) (.una .len (.attr (.var 10) 3)))) (.ret (.cst (.bl false))) .skip)
    (.seq (.asg (.var 11) (.comp false (.var 14) .seq (.cons (.call 19 (.cons (.var 3) .nil)) .nil) (.bin .le (.call 21 (.cons (.var 4) (.cons (.var 14) (.cons (.cst (.str "stretch")) .nil)))) (.var 9)) (.var 14)))
    (.ite (.bin .ne (.call 12 (.cons (.var 5) (.cons (.var 10) .nil))) (.bin .idx (.bin .add (.var 11) (.lst (.cons (.cst .non) .nil))) (.cst (.int 0)))) (.ret (.cst (.bl false))) .skip)))))
    (.seq (.ite (.or (.bin .gt (.una .len (.var 4)) (.call 10 (.cons (.var 3) (.cons (.var 6) .nil)))) (.or (.bin .gt (.call 14 (.cons (.var 5) .nil)) (.var 6)) (.or (.bin .lt (.call 10 (.cons (.var 3) (.cons (.call 14 (.cons (.var 5) .nil)) .nil))) (.una .len (.var 4))) (.and (.bin .gt (.call 14 (.cons (.var 5) .nil)) (.cst (.int 0))) (.bin .ge (.call 10 (.cons (.var 3) (.cons (.bin .sub (.call 14 (.cons (.var 5) .nil)) (.cst (.int 1))) .nil))) (.una .len (.var 4))))))) (.ret (.cst (.bl false))) .skip)
    (.seq (.asg (.var 12) (.una .max1 (.comp false (.var 20) .rng1 (.cons (.var 3) .nil) (.cst (.bl true)) (.una .len (.call 24 (.cons (.var 4) (.cons (.var 20) .nil)))))))
    (.seq (.ite (.or (.bin .ne (.call 15 (.cons (.var 5) .nil)) (.bin .sub (.var 12) (.bin .fdiv (.var 12) (.cst (.int 2))))) (.bin .gt (.call 15 (.cons (.var 5) .nil)) (.bin .min2 (.var 6) (.bin .idx (.call 22 (.cons (.var 2) (.cons (.cst (.str "cut")) .nil))) (.cst (.int 0)))))) (.ret (.cst (.bl false))) .skip)
    (.seq (.par (.cons (.var 13) (.cons (.var 14) .nil)) (.cons (.call 18 (.cons (.var 1) (.cons (.cst (.int 5)) .nil))) (.cons (.call 23 (.cons (.var 1) (.cons (.var 3) .nil))) .nil)))
    (.seq (.ite (.bin .eq (.bin .idx (.var 13) (.cst (.int 0))) (.var 3)) (.seq (.asg (.var 15) (.una .dict_ (.comp false (.var 21) .rng1 (.cons (.var 3) .nil) (.cst (.bl true)) (.tup (.cons (.bin .idx (.var 14) (.var 21)) (.cons (.var 21) .nil))))))
    (.seq (.asg (.var 16) (.comp false (.cons (.var 19) (.cons (.var 22) .nil)) .seq (.cons (.var 4) .nil) (.cst (.bl true)) (.una .tuple_ (.una .sorted_ (.lst (.cons (.bin .idx (.var 15) (.var 19)) (.cons (.bin .idx (.var 15) (.var 22)) .nil)))))))
    (.ite (.bin .ne (.call 11 (.cons (.var 5) (.cons (.mk 3 (.cons (.var 3) (.cons (.bin .idx (.var 13) (.cst (.int 1))) .nil))) (.cons (.var 14) .nil)))) (.bin .eq (.comp false (.var 23) .seq (.cons (.var 16) .nil) (.bin .notin (.var 23) (.bin .idx (.var 13) (.cst (.int 1)))) (.var 23)) (.lst .nil))) (.ret (.cst (.bl false))) .skip))) (.try_ (.seq (.expr (.call 11 (.cons (.var 5) (.cons (.mk 3 (.cons (.bin .idx (.var 13) (.cst (.int 0))) (.cons (.bin .idx (.var 13) (.cst (.int 1))) .nil))) (.cons (.var 14) .nil)))))
    (.ret (.cst (.bl false)))) (.hnd 1 (some 17) (.ite (.una .notNone (.eattr 17 0)) (.ret (.cst (.bl false))) .skip) .skip)))
    (.seq (.for_ false (.var 18) .seq (.cons (.lst (.cons (.una .neg (.cst (.int 1))) (.cons (.bin .add (.var 3) (.cst (.int 1))) (.cons (.cst .non) .nil)))) .nil) (.try_ (.seq (.expr (.call 9 (.cons (.var 3) (.cons (.var 18) .nil))))
    (.ret (.cst (.bl false)))) (.hnd 1 (some 17) (.ite (.una .notNone (.eattr 17 0)) (.ret (.cst (.bl false))) .skip) .skip)))
    (.ret (.cst (.bl true))))))))))))))))⟩
def n_law_26 : List PySem.Str := ["script", "row", "told", "many", "ties", "web", "least", "first", "count", "far", "made", "rows", "heaviest", "other", "order", "where", "moved", "e", "wrong", "one", "place", "at", "two", "tie"]
def c_Web___init___27 : FD := ⟨3, 6,
  (.seq (.ite (.or (.not (.call 2 (.cons (.var 1) (.cons (.cst (.int 1)) (.cons (.cst (.int 10)) .nil))))) (.not (.call 3 (.cons (.var 2) .nil)))) (.raise 1 (.cons (.cst .non) .nil)) .skip)
    (.seq (.asg (.var 3) (.lst .nil))
    (.seq (.for_ false (.cons (.var 4) (.cons (.var 5) .nil)) .enum (.cons (.var 2) .nil) (.seq (.ite (.or (.not (.call 7 (.cons (.var 5) (.cons (.var 1) .nil)))) (.bin .isin (.una .tuple_ (.var 5)) (.var 3))) (.raise 1 (.cons (.var 4) .nil)) .skip)
    (.append (.var 3) (.una .tuple_ (.var 5)))))
    (.seq (.setattr (.var 0) 2 (.var 1))
    (.setattr (.var 0) 3 (.una .tuple_ (.una .sorted_ (.var 3))))))))⟩
def n_Web___init___27 : List PySem.Str := ["self", "many", "ties", "found", "at", "tie"]
def c_Web_want_place_30 : FD := ⟨2, 2,
  (.seq (.ite (.not (.call 2 (.cons (.var 1) (.cons (.cst (.int 0)) (.cons (.bin .sub (.attr (.var 0) 2) (.cst (.int 1))) .nil))))) (.raise 1 (.cons (.var 1) .nil)) .skip)
    (.ret (.var 1)))⟩
def n_Web_want_place_30 : List PySem.Str := ["self", "place"]
def c_Web_is_tied_31 : FD := ⟨3, 3,
  (.seq (.expr (.meth 3 (.var 0) (.cons (.var 1) .nil)))
    (.seq (.expr (.meth 3 (.var 0) (.cons (.var 2) .nil)))
    (.ret (.bin .isin (.tup (.cons (.bin .min2 (.var 1) (.var 2)) (.cons (.bin .max2 (.var 1) (.var 2)) .nil))) (.attr (.var 0) 3)))))⟩
def n_Web_is_tied_31 : List PySem.Str := ["self", "one", "other"]
def c_Web_near_32 : FD := ⟨2, 3,
  (.seq (.expr (.meth 3 (.var 0) (.cons (.var 1) .nil)))
    (.ret (.una .tuple_ (.comp false (.var 2) .rng1 (.cons (.attr (.var 0) 2) .nil) (.meth 4 (.var 0) (.cons (.var 1) (.cons (.var 2) .nil))) (.var 2)))))⟩
def n_Web_near_32 : List PySem.Str := ["self", "place", "other"]
def c_Web_degrees_33 : FD := ⟨1, 2,
  (.ret (.una .tuple_ (.comp false (.var 1) .rng1 (.cons (.attr (.var 0) 2) .nil) (.cst (.bl true)) (.una .len (.meth 5 (.var 0) (.cons (.var 1) .nil))))))⟩
def n_Web_degrees_33 : List PySem.Str := ["self", "place"]
def c_Web_untied_34 : FD := ⟨1, 4,
  (.seq (.asg (.var 1) (.lst .nil))
    (.seq (.for_ false (.var 2) .rng1 (.cons (.attr (.var 0) 2) .nil) (.extend (.var 1) (.comp false (.var 3) .rng2 (.cons (.bin .add (.var 2) (.cst (.int 1))) (.cons (.attr (.var 0) 2) .nil)) (.bin .notin (.tup (.cons (.var 2) (.cons (.var 3) .nil))) (.attr (.var 0) 3)) (.tup (.cons (.var 2) (.cons (.var 3) .nil))))))
    (.ret (.una .tuple_ (.var 1)))))⟩
def n_Web_untied_34 : List PySem.Str := ["self", "found", "one", "other"]
def e_is_whole_1 : DL := ⟨⟨("is_whole", none), "is_whole", "is_whole", L2.defArgs (top 6), L2.defBody (top 6), L2.defScope (top 6), [], []⟩, c_is_whole_1, ["value"], n_is_whole_1⟩
def e_is_number_2 : DL := ⟨⟨("is_number", none), "is_number", "is_number", L2.defArgs (top 7), L2.defBody (top 7), L2.defScope (top 7), [], []⟩, c_is_number_2, ["value", "least", "most"], n_is_number_2⟩
def e_is_row_3 : DL := ⟨⟨("is_row", none), "is_row", "is_row", L2.defArgs (top 8), L2.defBody (top 8), L2.defScope (top 8), [], []⟩, c_is_row_3, ["value"], n_is_row_3⟩
def e_is_order_4 : DL := ⟨⟨("is_order", none), "is_order", "is_order", L2.defArgs (top 11), L2.defBody (top 11), L2.defScope (top 11), [], []⟩, c_is_order_4, ["value", "many"], n_is_order_4⟩
def e_want_order_5 : DL := ⟨⟨("want_order", none), "want_order", "want_order", L2.defArgs (top 12), L2.defBody (top 12), L2.defScope (top 12), [], []⟩, c_want_order_5, ["web", "order"], n_want_order_5⟩
def e_all_orders_6 : DL := ⟨⟨("all_orders", none), "all_orders", "all_orders", L2.defArgs (top 13), L2.defBody (top 13), L2.defScope (top 13), [], []⟩, c_all_orders_6, ["many"], n_all_orders_6⟩
def e_is_tie_7 : DL := ⟨⟨("is_tie", none), "is_tie", "is_tie", L2.defArgs (top 16), L2.defBody (top 16), L2.defScope (top 16), [], []⟩, c_is_tie_7, ["value", "many"], n_is_tie_7⟩
def e_all_ties_8 : DL := ⟨⟨("all_ties", none), "all_ties", "all_ties", L2.defArgs (top 18), L2.defBody (top 18), L2.defScope (top 18), [], []⟩, c_all_ties_8, ["many"], n_all_ties_8⟩
def e_band_9 : DL := ⟨⟨("band", none), "band", "band", L2.defArgs (top 20), L2.defBody (top 20), L2.defScope (top 20), [], []⟩, c_band_9, ["many", "far"], n_band_9⟩
def e_band_size_10 : DL := ⟨⟨("band_size", none), "band_size", "band_size", L2.defArgs (top 21), L2.defBody (top 21), L2.defScope (top 21), [], []⟩, c_band_size_10, ["many", "far"], n_band_size_10⟩
def e_lies_in_11 : DL := ⟨⟨("lies_in", none), "lies_in", "lies_in", L2.defArgs (top 22), L2.defBody (top 22), L2.defScope (top 22), [], []⟩, c_lies_in_11, ["web", "other", "order"], n_lies_in_11⟩
def e_first_lying_12 : DL := ⟨⟨("first_lying", none), "first_lying", "first_lying", L2.defArgs (top 23), L2.defBody (top 23), L2.defScope (top 23), [], []⟩, c_first_lying_12, ["web", "other"], n_first_lying_12⟩
def e_least_band_13 : DL := ⟨⟨("least_band", none), "least_band", "least_band", L2.defArgs (top 24), L2.defBody (top 24), L2.defScope (top 24), [], []⟩, c_least_band_13, ["web"], n_least_band_13⟩
def e_tie_bar_14 : DL := ⟨⟨("tie_bar", none), "tie_bar", "tie_bar", L2.defArgs (top 25), L2.defBody (top 25), L2.defScope (top 25), [], []⟩, c_tie_bar_14, ["web"], n_tie_bar_14⟩
def e_degree_bar_15 : DL := ⟨⟨("degree_bar", none), "degree_bar", "degree_bar", L2.defArgs (top 26), L2.defBody (top 26), L2.defScope (top 26), [], []⟩, c_degree_bar_15, ["web"], n_degree_bar_15⟩
def e__law_taken_16 : DL := ⟨⟨("_law_taken", none), "_law_taken", "_law_taken", L2.defArgs (top 28), L2.defBody (top 28), L2.defScope (top 28), [], []⟩, c__law_taken_16, ["row", "many"], n__law_taken_16⟩
def e__law_pairs_17 : DL := ⟨⟨("_law_pairs", none), "_law_pairs", "_law_pairs", L2.defArgs (top 29), L2.defBody (top 29), L2.defScope (top 29), [], []⟩, c__law_pairs_17, ["firsts", "seconds"], n__law_pairs_17⟩
def e__law_web_18 : DL := ⟨⟨("_law_web", none), "_law_web", "_law_web", L2.defArgs (top 30), L2.defBody (top 30), L2.defScope (top 30), [], []⟩, c__law_web_18, ["row", "most"], n__law_web_18⟩
def e__law_orders_19 : DL := ⟨⟨("_law_orders", none), "_law_orders", "_law_orders", L2.defArgs (top 31), L2.defBody (top 31), L2.defScope (top 31), [], []⟩, c__law_orders_19, ["many"], n__law_orders_19⟩
def e__law_cuts_20 : DL := ⟨⟨("_law_cuts", none), "_law_cuts", "_law_cuts", L2.defArgs (top 32), L2.defBody (top 32), L2.defScope (top 32), [], []⟩, c__law_cuts_20, ["ties", "order"], n__law_cuts_20⟩
def e__law_measure_21 : DL := ⟨⟨("_law_measure", none), "_law_measure", "_law_measure", L2.defArgs (top 33), L2.defBody (top 33), L2.defScope (top 33), [], []⟩, c__law_measure_21, ["ties", "order", "kind"], n__law_measure_21⟩
def e__law_least_22 : DL := ⟨⟨("_law_least", none), "_law_least", "_law_least", L2.defArgs (top 34), L2.defBody (top 34), L2.defScope (top 34), [], []⟩, c__law_least_22, ["told", "kind"], n__law_least_22⟩
def e__law_order_23 : DL := ⟨⟨("_law_order", none), "_law_order", "_law_order", L2.defArgs (top 35), L2.defBody (top 35), L2.defScope (top 35), [], []⟩, c__law_order_23, ["row", "many"], n__law_order_23⟩
def e__law_tied_24 : DL := ⟨⟨("_law_tied", none), "_law_tied", "_law_tied", L2.defArgs (top 36), L2.defBody (top 36), L2.defScope (top 36), [], []⟩, c__law_tied_24, ["ties", "place"], n__law_tied_24⟩
def e__law_lives_25 : DL := ⟨⟨("_law_lives", none), "_law_lives", "_law_lives", L2.defArgs (top 37), L2.defBody (top 37), L2.defScope (top 37), [], []⟩, c__law_lives_25, ["ties", "order"], n__law_lives_25⟩
def e_law_26 : DL := ⟨⟨("law", none), "law", "law", L2.defArgs (top 38), L2.defBody (top 38), L2.defScope (top 38), [], []⟩, c_law_26, ["script"], n_law_26⟩
def e_Web___init___27 : DL := ⟨⟨("Web", some "__init__"), "__init__", "Web.__init__", L2.defArgs ((clsBody (top 17)).getD 0 (.Pass ⟨0, 0, 0, 0⟩)), L2.defBody ((clsBody (top 17)).getD 0 (.Pass ⟨0, 0, 0, 0⟩)), L2.defScope ((clsBody (top 17)).getD 0 (.Pass ⟨0, 0, 0, 0⟩)), [], []⟩, c_Web___init___27, ["self", "many", "ties"], n_Web___init___27⟩
def e_Web_want_place_30 : DL := ⟨⟨("Web", some "want_place"), "want_place", "Web.want_place", L2.defArgs ((clsBody (top 17)).getD 3 (.Pass ⟨0, 0, 0, 0⟩)), L2.defBody ((clsBody (top 17)).getD 3 (.Pass ⟨0, 0, 0, 0⟩)), L2.defScope ((clsBody (top 17)).getD 3 (.Pass ⟨0, 0, 0, 0⟩)), [], []⟩, c_Web_want_place_30, ["self", "place"], n_Web_want_place_30⟩
def e_Web_is_tied_31 : DL := ⟨⟨("Web", some "is_tied"), "is_tied", "Web.is_tied", L2.defArgs ((clsBody (top 17)).getD 4 (.Pass ⟨0, 0, 0, 0⟩)), L2.defBody ((clsBody (top 17)).getD 4 (.Pass ⟨0, 0, 0, 0⟩)), L2.defScope ((clsBody (top 17)).getD 4 (.Pass ⟨0, 0, 0, 0⟩)), [], []⟩, c_Web_is_tied_31, ["self", "one", "other"], n_Web_is_tied_31⟩
def e_Web_near_32 : DL := ⟨⟨("Web", some "near"), "near", "Web.near", L2.defArgs ((clsBody (top 17)).getD 5 (.Pass ⟨0, 0, 0, 0⟩)), L2.defBody ((clsBody (top 17)).getD 5 (.Pass ⟨0, 0, 0, 0⟩)), L2.defScope ((clsBody (top 17)).getD 5 (.Pass ⟨0, 0, 0, 0⟩)), [], []⟩, c_Web_near_32, ["self", "place"], n_Web_near_32⟩
def e_Web_degrees_33 : DL := ⟨⟨("Web", some "degrees"), "degrees", "Web.degrees", L2.defArgs ((clsBody (top 17)).getD 6 (.Pass ⟨0, 0, 0, 0⟩)), L2.defBody ((clsBody (top 17)).getD 6 (.Pass ⟨0, 0, 0, 0⟩)), L2.defScope ((clsBody (top 17)).getD 6 (.Pass ⟨0, 0, 0, 0⟩)), [], []⟩, c_Web_degrees_33, ["self"], n_Web_degrees_33⟩
def e_Web_untied_34 : DL := ⟨⟨("Web", some "untied"), "untied", "Web.untied", L2.defArgs ((clsBody (top 17)).getD 7 (.Pass ⟨0, 0, 0, 0⟩)), L2.defBody ((clsBody (top 17)).getD 7 (.Pass ⟨0, 0, 0, 0⟩)), L2.defScope ((clsBody (top 17)).getD 7 (.Pass ⟨0, 0, 0, 0⟩)), [], []⟩, c_Web_untied_34, ["self"], n_Web_untied_34⟩
def D : LD where
  nx := false
  defs := [(1, e_is_whole_1), (2, e_is_number_2), (3, e_is_row_3), (4, e_is_order_4), (5, e_want_order_5), (6, e_all_orders_6), (7, e_is_tie_7), (8, e_all_ties_8), (9, e_band_9), (10, e_band_size_10), (11, e_lies_in_11), (12, e_first_lying_12), (13, e_least_band_13), (14, e_tie_bar_14), (15, e_degree_bar_15), (16, e__law_taken_16), (17, e__law_pairs_17), (18, e__law_web_18), (19, e__law_orders_19), (20, e__law_cuts_20), (21, e__law_measure_21), (22, e__law_least_22), (23, e__law_order_23), (24, e__law_tied_24), (25, e__law_lives_25), (26, e_law_26), (27, e_Web___init___27), (30, e_Web_want_place_30), (31, e_Web_is_tied_31), (32, e_Web_near_32), (33, e_Web_degrees_33), (34, e_Web_untied_34)]
  cls := [(3, "Web")]
  fld := [(3, 2), (3, 3)]
  mths := [((3, 3), 30), ((3, 4), 31), ((3, 5), 32), ((3, 6), 33), ((3, 7), 34)]
  inis := [(3, 27)]
  ats := ["index", "limit", "many", "ties", "untied", "__init__", "want_place", "append", "count", "extend", "layers", "is_tied", "pop", "degrees", "near"]
  mns := [("__init__" : PySem.Str), ("__eq__" : PySem.Str), ("__len__" : PySem.Str), ("want_place" : PySem.Str), ("is_tied" : PySem.Str), ("near" : PySem.Str), ("degrees" : PySem.Str), ("untied" : PySem.Str), ("with_tie" : PySem.Str), ("without_tie" : PySem.Str), ("only" : PySem.Str), ("beside" : PySem.Str), ("turned" : PySem.Str), ("layers" : PySem.Str), ("part_of" : PySem.Str), ("parts" : PySem.Str), ("is_one" : PySem.Str), ("far" : PySem.Str), ("index" : PySem.Str), ("limit" : PySem.Str), ("many" : PySem.Str), ("ties" : PySem.Str), ("append" : PySem.Str), ("count" : PySem.Str), ("extend" : PySem.Str), ("pop" : PySem.Str)]
  cons := [("MOST_TRIED", (.int 6)), ("MOST_PLACES", (.int 10))]
  exs := [(1, "BadItem", "index", 0), (2, "TooMany", "limit", 1)]
  exh := []
  exr := [(1, 1), (2, 2)]
  file := "/claim/cut.py"
def lawId : Nat := 26
theorem b_is_whole_1 : LD.Binds0 e_is_whole_1 := fun _ _ _ _ _ _ us hl => match us, hl with | [_], _ => rfl
theorem k_is_whole_1 : D.defB e_is_whole_1 = true := by kernel_rfl
theorem b_is_number_2 : LD.Binds0 e_is_number_2 := fun _ _ _ _ _ _ us hl => match us, hl with | [_, _, _], _ => rfl
theorem k_is_number_2 : D.defB e_is_number_2 = true := by kernel_rfl
theorem b_is_row_3 : LD.Binds0 e_is_row_3 := fun _ _ _ _ _ _ us hl => match us, hl with | [_], _ => rfl
theorem k_is_row_3 : D.defB e_is_row_3 = true := by kernel_rfl
theorem b_is_order_4 : LD.Binds0 e_is_order_4 := fun _ _ _ _ _ _ us hl => match us, hl with | [_, _], _ => rfl
theorem k_is_order_4 : D.defB e_is_order_4 = true := by kernel_rfl
theorem b_want_order_5 : LD.Binds0 e_want_order_5 := fun _ _ _ _ _ _ us hl => match us, hl with | [_, _], _ => rfl
theorem k_want_order_5 : D.defB e_want_order_5 = true := by kernel_rfl
theorem b_all_orders_6 : LD.Binds0 e_all_orders_6 := fun _ _ _ _ _ _ us hl => match us, hl with | [_], _ => rfl
theorem k_all_orders_6 : D.defB e_all_orders_6 = true := by kernel_rfl
theorem b_is_tie_7 : LD.Binds0 e_is_tie_7 := fun _ _ _ _ _ _ us hl => match us, hl with | [_, _], _ => rfl
theorem k_is_tie_7 : D.defB e_is_tie_7 = true := by kernel_rfl
theorem b_all_ties_8 : LD.Binds0 e_all_ties_8 := fun _ _ _ _ _ _ us hl => match us, hl with | [_], _ => rfl
theorem k_all_ties_8 : D.defB e_all_ties_8 = true := by kernel_rfl
theorem b_band_9 : LD.Binds0 e_band_9 := fun _ _ _ _ _ _ us hl => match us, hl with | [_, _], _ => rfl
theorem k_band_9 : D.defB e_band_9 = true := by kernel_rfl
theorem b_band_size_10 : LD.Binds0 e_band_size_10 := fun _ _ _ _ _ _ us hl => match us, hl with | [_, _], _ => rfl
theorem k_band_size_10 : D.defB e_band_size_10 = true := by kernel_rfl
theorem b_lies_in_11 : LD.Binds0 e_lies_in_11 := fun _ _ _ _ _ _ us hl => match us, hl with | [_, _, _], _ => rfl
theorem k_lies_in_11 : D.defB e_lies_in_11 = true := by kernel_rfl
theorem b_first_lying_12 : LD.Binds0 e_first_lying_12 := fun _ _ _ _ _ _ us hl => match us, hl with | [_, _], _ => rfl
theorem k_first_lying_12 : D.defB e_first_lying_12 = true := by kernel_rfl
theorem b_least_band_13 : LD.Binds0 e_least_band_13 := fun _ _ _ _ _ _ us hl => match us, hl with | [_], _ => rfl
theorem k_least_band_13 : D.defB e_least_band_13 = true := by kernel_rfl
theorem b_tie_bar_14 : LD.Binds0 e_tie_bar_14 := fun _ _ _ _ _ _ us hl => match us, hl with | [_], _ => rfl
theorem k_tie_bar_14 : D.defB e_tie_bar_14 = true := by kernel_rfl
theorem b_degree_bar_15 : LD.Binds0 e_degree_bar_15 := fun _ _ _ _ _ _ us hl => match us, hl with | [_], _ => rfl
theorem k_degree_bar_15 : D.defB e_degree_bar_15 = true := by kernel_rfl
theorem b__law_taken_16 : LD.Binds0 e__law_taken_16 := fun _ _ _ _ _ _ us hl => match us, hl with | [_, _], _ => rfl
theorem k__law_taken_16 : D.defB e__law_taken_16 = true := by kernel_rfl
theorem b__law_pairs_17 : LD.Binds0 e__law_pairs_17 := fun _ _ _ _ _ _ us hl => match us, hl with | [_, _], _ => rfl
theorem k__law_pairs_17 : D.defB e__law_pairs_17 = true := by kernel_rfl
theorem b__law_web_18 : LD.Binds0 e__law_web_18 := fun _ _ _ _ _ _ us hl => match us, hl with | [_, _], _ => rfl
theorem k__law_web_18 : D.defB e__law_web_18 = true := by kernel_rfl
theorem b__law_orders_19 : LD.Binds0 e__law_orders_19 := fun _ _ _ _ _ _ us hl => match us, hl with | [_], _ => rfl
theorem k__law_orders_19 : D.defB e__law_orders_19 = true := by kernel_rfl
theorem b__law_cuts_20 : LD.Binds0 e__law_cuts_20 := fun _ _ _ _ _ _ us hl => match us, hl with | [_, _], _ => rfl
theorem k__law_cuts_20 : D.defB e__law_cuts_20 = true := by kernel_rfl
theorem b__law_measure_21 : LD.Binds0 e__law_measure_21 := fun _ _ _ _ _ _ us hl => match us, hl with | [_, _, _], _ => rfl
theorem k__law_measure_21 : D.defB e__law_measure_21 = true := by kernel_rfl
theorem b__law_least_22 : LD.Binds0 e__law_least_22 := fun _ _ _ _ _ _ us hl => match us, hl with | [_, _], _ => rfl
theorem k__law_least_22 : D.defB e__law_least_22 = true := by kernel_rfl
theorem b__law_order_23 : LD.Binds0 e__law_order_23 := fun _ _ _ _ _ _ us hl => match us, hl with | [_, _], _ => rfl
theorem k__law_order_23 : D.defB e__law_order_23 = true := by kernel_rfl
theorem b__law_tied_24 : LD.Binds0 e__law_tied_24 := fun _ _ _ _ _ _ us hl => match us, hl with | [_, _], _ => rfl
theorem k__law_tied_24 : D.defB e__law_tied_24 = true := by kernel_rfl
theorem b__law_lives_25 : LD.Binds0 e__law_lives_25 := fun _ _ _ _ _ _ us hl => match us, hl with | [_, _], _ => rfl
theorem k__law_lives_25 : D.defB e__law_lives_25 = true := by kernel_rfl
theorem b_law_26 : LD.Binds0 e_law_26 := fun _ _ _ _ _ _ us hl => match us, hl with | [_], _ => rfl
theorem k_law_26 : D.defB e_law_26 = true := by kernel_rfl
theorem b_Web___init___27 : LD.Binds0 e_Web___init___27 := fun _ _ _ _ _ _ us hl => match us, hl with | [_, _, _], _ => rfl
theorem k_Web___init___27 : D.defB e_Web___init___27 = true := by kernel_rfl
theorem b_Web_want_place_30 : LD.Binds0 e_Web_want_place_30 := fun _ _ _ _ _ _ us hl => match us, hl with | [_, _], _ => rfl
theorem k_Web_want_place_30 : D.defB e_Web_want_place_30 = true := by kernel_rfl
theorem b_Web_is_tied_31 : LD.Binds0 e_Web_is_tied_31 := fun _ _ _ _ _ _ us hl => match us, hl with | [_, _, _], _ => rfl
theorem k_Web_is_tied_31 : D.defB e_Web_is_tied_31 = true := by kernel_rfl
theorem b_Web_near_32 : LD.Binds0 e_Web_near_32 := fun _ _ _ _ _ _ us hl => match us, hl with | [_, _], _ => rfl
theorem k_Web_near_32 : D.defB e_Web_near_32 = true := by kernel_rfl
theorem b_Web_degrees_33 : LD.Binds0 e_Web_degrees_33 := fun _ _ _ _ _ _ us hl => match us, hl with | [_], _ => rfl
theorem k_Web_degrees_33 : D.defB e_Web_degrees_33 = true := by kernel_rfl
theorem b_Web_untied_34 : LD.Binds0 e_Web_untied_34 := fun _ _ _ _ _ _ us hl => match us, hl with | [_], _ => rfl
theorem k_Web_untied_34 : D.defB e_Web_untied_34 = true := by kernel_rfl
theorem allD : ∀ p ∈ D.defs, D.defB p.2 = true := by
  intro p hp
  simp only [D, List.mem_cons, List.not_mem_nil, or_false] at hp
  rcases hp with rfl | rfl | rfl | rfl | rfl | rfl | rfl | rfl | rfl | rfl | rfl | rfl | rfl | rfl | rfl | rfl | rfl | rfl | rfl | rfl | rfl | rfl | rfl | rfl | rfl | rfl | rfl | rfl | rfl | rfl | rfl | rfl
  · exact k_is_whole_1
  · exact k_is_number_2
  · exact k_is_row_3
  · exact k_is_order_4
  · exact k_want_order_5
  · exact k_all_orders_6
  · exact k_is_tie_7
  · exact k_all_ties_8
  · exact k_band_9
  · exact k_band_size_10
  · exact k_lies_in_11
  · exact k_first_lying_12
  · exact k_least_band_13
  · exact k_tie_bar_14
  · exact k_degree_bar_15
  · exact k__law_taken_16
  · exact k__law_pairs_17
  · exact k__law_web_18
  · exact k__law_orders_19
  · exact k__law_cuts_20
  · exact k__law_measure_21
  · exact k__law_least_22
  · exact k__law_order_23
  · exact k__law_tied_24
  · exact k__law_lives_25
  · exact k_law_26
  · exact k_Web___init___27
  · exact k_Web_want_place_30
  · exact k_Web_is_tied_31
  · exact k_Web_near_32
  · exact k_Web_degrees_33
  · exact k_Web_untied_34
theorem allB : ∀ p ∈ D.defs, LD.Binds0 p.2 := by
  intro p hp
  simp only [D, List.mem_cons, List.not_mem_nil, or_false] at hp
  rcases hp with rfl | rfl | rfl | rfl | rfl | rfl | rfl | rfl | rfl | rfl | rfl | rfl | rfl | rfl | rfl | rfl | rfl | rfl | rfl | rfl | rfl | rfl | rfl | rfl | rfl | rfl | rfl | rfl | rfl | rfl | rfl | rfl
  · exact b_is_whole_1
  · exact b_is_number_2
  · exact b_is_row_3
  · exact b_is_order_4
  · exact b_want_order_5
  · exact b_all_orders_6
  · exact b_is_tie_7
  · exact b_all_ties_8
  · exact b_band_9
  · exact b_band_size_10
  · exact b_lies_in_11
  · exact b_first_lying_12
  · exact b_least_band_13
  · exact b_tie_bar_14
  · exact b_degree_bar_15
  · exact b__law_taken_16
  · exact b__law_pairs_17
  · exact b__law_web_18
  · exact b__law_orders_19
  · exact b__law_cuts_20
  · exact b__law_measure_21
  · exact b__law_least_22
  · exact b__law_order_23
  · exact b__law_tied_24
  · exact b__law_lives_25
  · exact b_law_26
  · exact b_Web___init___27
  · exact b_Web_want_place_30
  · exact b_Web_is_tied_31
  · exact b_Web_near_32
  · exact b_Web_degrees_33
  · exact b_Web_untied_34
end K17
end

section
set_option Elab.async false
set_option linter.all false
set_option maxRecDepth 100000
set_option maxHeartbeats 0
namespace K17
open Nr
def fns17 : List (Nat × FD) := [(1, c_is_whole_1), (2, c_is_number_2), (3, c_is_row_3), (4, c_is_order_4), (5, c_want_order_5), (6, c_all_orders_6), (7, c_is_tie_7), (8, c_all_ties_8), (9, c_band_9), (10, c_band_size_10), (11, c_lies_in_11), (12, c_first_lying_12), (13, c_least_band_13), (14, c_tie_bar_14), (15, c_degree_bar_15), (16, c__law_taken_16), (17, c__law_pairs_17), (18, c__law_web_18), (19, c__law_orders_19), (20, c__law_cuts_20), (21, c__law_measure_21), (22, c__law_least_22), (23, c__law_order_23), (24, c__law_tied_24), (25, c__law_lives_25), (26, c_law_26), (27, c_Web___init___27), (30, c_Web_want_place_30), (31, c_Web_is_tied_31), (32, c_Web_near_32), (33, c_Web_degrees_33), (34, c_Web_untied_34)]
def T17 : Tab where
  fns f := fns17.lookup f
  mth c m := ([((3, 3), 30), ((3, 4), 31), ((3, 5), 32), ((3, 6), 33), ((3, 7), 34)] : List ((Nat × Nat) × Nat)).lookup (c, m)
  fld c f := ([(3, 2), (3, 3)] : List (Nat × Nat)).contains (c, f)
  ini c := ([(3, 27)] : List (Nat × Nat)).lookup c
  inCell _ := false
  eqm _ := none
  lnm _ := none
  exc c := ([(1, [0]), (2, [1])] : List (Nat × List Nat)).lookup c
  isExc e h := ([(1, 1), (2, 2)] : List (Nat × Nat)).contains (e, h)
  noex := false
theorem lookup_map {β γ : Type} (g : β → γ) (f : Nat) : ∀ (l : List (Nat × β)), (l.lookup f).map g = (l.map fun p => (p.1, g p.2)).lookup f
  | [] => rfl
  | (a, b) :: l => by
    rw [List.map_cons, List.lookup_cons, List.lookup_cons]
    cases h : f == a with
    | true => rfl
    | false => exact lookup_map g f l
theorem tab_eq : D.tab = T17 := by
  have h1 : D.tab.fns = T17.fns := by
    funext f
    show (D.defs.lookup f).map (·.fd) = fns17.lookup f
    rw [lookup_map]
    exact congrArg (fun l => List.lookup f l) (by kernel_rfl)
  have h2 : D.tab.mth = T17.mth := by funext c m; rfl
  have h3 : D.tab.fld = T17.fld := rfl
  have h4 : D.tab.ini = T17.ini := rfl
  have h5 : D.tab.exc = T17.exc := by
    funext c
    show (D.exs.lookup c).map (fun q => [q.2.2]) = _
    rw [lookup_map]
    rfl
  have h6 : D.tab.isExc = T17.isExc := rfl
  show Tab.mk D.tab.fns D.tab.mth D.tab.fld D.tab.ini D.tab.inCell D.tab.eqm D.tab.lnm D.tab.exc D.tab.isExc D.tab.noex = _
  rw [h1, h2, h3, h4, h5, h6]
  rfl
end K17
end

section
set_option Elab.async false
set_option linter.all false
set_option maxRecDepth 100000
set_option maxHeartbeats 4000000
/-! N0: the evaluator runs by simp. -/
namespace Nr
section
variable (T : Tab) (cf : CallF)
def cmpF (T : Tab) (cf : CallF) (t : Tg) (cond elt : CE) : PV → List PV → St → R (List PV) := fun x acc sa => noEx ((asgT t x sa).bind fun _ sb => (evalE T cf cond sb).bind fun c sc => match c with
          | .val (.bl false) => .ok acc (wipeS sc (tgVars t))
          | .val (.bl true) => (evalE T cf elt sc).bind fun r sd => (toVal r sd).bind fun v se => .ok (acc ++ [v]) (wipeS se (tgVars t))
          | _ => .bad)
def bodyF (T : Tab) (cf : CallF) (t : Tg) (b : CS) : PV → St → R Fl := fun x sa => (asgT t x sa).bind fun _ sb => execS T cf b sb
end
@[simp] theorem get_mk (env : List Slot) (cells : List PV) (f : Bool) (i : Nat) : St.get ⟨env, cells, f⟩ i = env.getD i .non := id rfl
@[simp] theorem put_mk (env : List Slot) (cells : List PV) (f : Bool) (i : Nat) (x : Slot) : St.put ⟨env, cells, f⟩ i x = ⟨env.set i x, cells, f⟩ := id rfl
@[simp] theorem free_mk (env : List Slot) (cells : List PV) (i : Nat) : St.free ⟨env, cells, false⟩ i = true := id rfl
@[simp] theorem bind_if {α β : Type} (c : Prop) [Decidable c] (a b : R α) (f : α → St → R β) : (if c then a else b).bind f = if c then a.bind f else b.bind f := by split <;> rfl
theorem bind_congr {α β : Type} {r r' : R α} {f : α → St → R β} (h : r = r') : r.bind f = r'.bind f := by rw [h]
theorem forR_congr {f : PV → St → R Fl} {xs ys : List PV} {s t : St} (h : xs = ys) (h2 : s = t) : forR f xs s = forR f ys t := by rw [h, h2]
theorem loopR_congr {α : Type} {f : PV → α → St → R α} {xs ys : List PV} {a : α} {s t : St} (h : xs = ys) (h2 : s = t) : loopR f xs a s = loopR f ys a t := by rw [h, h2]
theorem whileR_congr {c : St → R Bool} {f : St → R Fl} {n : Nat} {s t : St} (h2 : s = t) : whileR c f n s = whileR c f n t := by rw [h2]
theorem thenS_congr {r r' : R Fl} {f : St → R Fl} (h : r = r') : thenS r f = thenS r' f := by rw [h]
@[simp] theorem thenS_nx (s : St) (f : St → R Fl) : thenS (.ok .nx s) f = f s := id rfl
@[simp] theorem thenS_ret (r : RV) (s : St) (f : St → R Fl) : thenS (.ok (.ret r) s) f = .ok (.ret r) s := id rfl
@[simp] theorem thenS_bad (f : St → R Fl) : thenS .bad f = .bad := id rfl
@[simp] theorem ofOpt_some {α : Type} (a : α) (s : St) : ofOpt (some a) s = .ok a s := id rfl
@[simp] theorem inSt_ok (v : RV) (cs : List PV) (env : List Slot) (cells : List PV) (f : Bool) : inSt (.ok v cs) ⟨env, cells, f⟩ = .ok v ⟨env, cs, f⟩ := id rfl
@[simp] theorem toVal_val (v : PV) (s : St) : toVal (.val v) s = .ok v s := id rfl
@[simp] theorem toVal_tmp (v : PV) (s : St) : toVal (.tmp v) s = .ok v s := id rfl
def ownV {α : Type} (x : Slot) (f : PV → R α) : R α := match x with
  | .own c => f c
  | _ => .bad
@[simp] theorem ownV_own {α : Type} (c : PV) (f : PV → R α) : ownV (.own c) f = f c := rfl
theorem ownV_congr {α : Type} {x y : Slot} {f : PV → R α} (h : x = y) : ownV x f = ownV y f := by rw [h]
def ownO (x : Slot) : Option PV := match x with
  | .own c => some c
  | _ => none
@[simp] theorem ownO_own (c : PV) : ownO (.own c) = some c := rfl
def varS (x : Slot) (i : Nat) (s : St) : R RV := match x with
  | .non => .bad
  | .val v => .ok (.val v) s
  | .own _ => .ok (.slot i) s
@[simp] theorem varS_val (v : PV) (i : Nat) (s : St) : varS (.val v) i s = .ok (.val v) s := rfl
@[simp] theorem varS_own (v : PV) (i : Nat) (s : St) : varS (.own v) i s = .ok (.slot i) s := rfl
def isOwn (x : Slot) : Bool := match x with
  | .own _ => false
  | _ => true
@[simp] theorem isOwn_non : isOwn .non = true := rfl
@[simp] theorem isOwn_val (v : PV) : isOwn (.val v) = true := rfl
@[simp] theorem toVal_slot (i : Nat) (env : List Slot) (cells : List PV) (f : Bool) : toVal (.slot i) ⟨env, cells, f⟩ = ownV (env.getD i .non) fun c => .ok c ⟨env.set i (.val c), cells, f⟩ := id rfl
@[simp] theorem toVals_nil (s : St) : toVals [] s = .ok [] s := id rfl
@[simp] theorem toVals_cons (r : RV) (rs : List RV) (s : St) : toVals (r :: rs) s = (toVal r s).bind fun v s1 => (toVals rs s1).bind fun vs s2 => .ok (v :: vs) s2 := id rfl
@[simp] theorem toSlot_val (v : PV) (s : St) : toSlot (.val v) s = .ok (.val v) s := id rfl
@[simp] theorem toSlot_tmp (v : PV) (s : St) : toSlot (.tmp v) s = .ok (.own v) s := id rfl
@[simp] theorem toSlot_slot (i : Nat) (s : St) : toSlot (.slot i) s = (toVal (.slot i) s).bind fun v s1 => .ok (.val v) s1 := id rfl
@[simp] theorem toSlots_nil (s : St) : toSlots [] s = .ok [] s := id rfl
@[simp] theorem toSlots_cons (r : RV) (rs : List RV) (s : St) : toSlots (r :: rs) s = (toSlot r s).bind fun v s1 => (toSlots rs s1).bind fun vs s2 => .ok (v :: vs) s2 := id rfl
@[simp] theorem view_tmp (c : PV) (s : St) : view s (.tmp c) = some c := id rfl
@[simp] theorem view_slot (i : Nat) (env : List Slot) (cells : List PV) (f : Bool) : view ⟨env, cells, f⟩ (.slot i) = ownO (env.getD i .non) := id rfl
@[simp] theorem view_int (i : Int) (s : St) : view s (.val (.int i)) = some (.int i) := id rfl
@[simp] theorem view_bl (i : Bool) (s : St) : view s (.val (.bl i)) = some (.bl i) := id rfl
@[simp] theorem view_non (s : St) : view s (.val .non) = some .non := id rfl
@[simp] theorem view_str (i : PySem.Str) (s : St) : view s (.val (.str i)) = some (.str i) := id rfl
@[simp] theorem view_tup (i : List PV) (s : St) : view s (.val (.tup i)) = some (.tup i) := id rfl
@[simp] theorem view_lst (i : List PV) (s : St) : view s (.val (.lst i)) = some (.lst i) := id rfl
@[simp] theorem view_dct (i : List (PV × PV)) (s : St) : view s (.val (.dct i)) = some (.dct i) := id rfl
@[simp] theorem view_scr (i : List Int) (s : St) : view s (.val (.scr i)) = some (.scr i) := id rfl
@[simp] theorem view_obj (c : Nat) (fs : List (Nat × PV)) (s : St) : view s (.val (.obj c fs)) = some (.obj c fs) := id rfl
@[simp] theorem view_loc (n : Nat) (env : List Slot) (cells : List PV) (f : Bool) : view ⟨env, cells, f⟩ (.val (.loc n)) = cells[n]? := id rfl
@[simp] theorem views_nil (s : St) : views s [] = some [] := id rfl
@[simp] theorem vws_cons (r : RV) (rs : List RV) (s : St) : views s (r :: rs) = (view s r).bind fun v => (views s rs).map (v :: ·) := id rfl
@[simp] theorem lend_nil (fz : Bool) (s : St) : lend fz [] s = .ok () s := id rfl
@[simp] theorem lend_tup (fz : Bool) (v : List PV) (rs : List RV) (s : St) : lend fz (.val (.tup v) :: rs) s = lend fz rs s := rfl
@[simp] theorem lend_lst (fz : Bool) (v : List PV) (rs : List RV) (s : St) : lend fz (.val (.lst v) :: rs) s = lend fz rs s := rfl
@[simp] theorem lend_int (fz : Bool) (v : Int) (rs : List RV) (s : St) : lend fz (.val (.int v) :: rs) s = lend fz rs s := rfl
@[simp] theorem lend_dct (fz : Bool) (v : List (PV × PV)) (rs : List RV) (s : St) : lend fz (.val (.dct v) :: rs) s = lend fz rs s := rfl
@[simp] theorem lend_tmp (fz : Bool) (v : PV) (rs : List RV) (s : St) : lend fz (.tmp v :: rs) s = lend fz rs s := id rfl
@[simp] theorem lend_slot (fz : Bool) (i : Nat) (rs : List RV) (env : List Slot) (cells : List PV) (f : Bool) : lend fz (.slot i :: rs) ⟨env, cells, f⟩ = ownV (env.getD i .non) fun c => lend fz rs ⟨env.set i (if fz then .val c else .non), cells, f⟩ := id rfl
@[simp] theorem unlend_nil (fz : Bool) (s s0 : St) : unlend fz s0 [] s = s := id rfl
@[simp] theorem unlend_val (fz : Bool) (s s0 : St) (v : PV) (rs : List RV) : unlend fz s0 (.val v :: rs) s = unlend fz s0 rs s := id rfl
@[simp] theorem unlend_tmp (fz : Bool) (s s0 : St) (v : PV) (rs : List RV) : unlend fz s0 (.tmp v :: rs) s = unlend fz s0 rs s := id rfl
section
variable (T : Tab) (cf : CallF)
@[simp] theorem ev_var (i : Nat) (env : List Slot) (cells : List PV) (f : Bool) : evalE T cf (.var i) ⟨env, cells, f⟩ = varS (env.getD i .non) i ⟨env, cells, f⟩ := id rfl
@[simp] theorem ev_cst (v : PV) (s : St) : evalE T cf (.cst v) s = .ok (.val v) s := id rfl
@[simp] theorem ev_una (op : UOp) (a : CE) (s : St) : evalE T cf (.una op a) s = (evalE T cf a s).bind fun x s1 => unaR T cf op x s1 := id rfl
@[simp] theorem ev_bin (op : BOp) (a b : CE) (s : St) : evalE T cf (.bin op a b) s = (evalE T cf a s).bind fun x s1 => if recvOk op s1 x then (evalE T cf b s1).bind fun y s2 => binR T cf op x y s2 else .bad := id rfl
@[simp] theorem ev_tup (es : CE) (s : St) : evalE T cf (.tup es) s = (evalEs T cf es s).bind fun rs s1 => (toVals rs s1).bind fun vs s2 => .ok (.val (.tup vs)) s2 := id rfl
@[simp] theorem ev_lst (es : CE) (s : St) : evalE T cf (.lst es) s = (evalEs T cf es s).bind fun rs s1 => (toVals rs s1).bind fun vs s2 => .ok (.tmp (.lst vs)) s2 := id rfl
@[simp] theorem ev_call (f : Nat) (es : CE) (s : St) : evalE T cf (.call f es) s = (evalEs T cf es s).bind fun rs s1 => (toVals rs s1).bind fun vs s2 => inSt (cf.fn f vs s2.cells) s2 := id rfl
@[simp] theorem ev_mk (f : Nat) (es : CE) (s : St) : evalE T cf (.mk f es) s = (evalEs T cf es s).bind fun rs s1 => (toVals rs s1).bind fun vs s2 => inSt (cf.mkI f vs s2.cells) s2 := id rfl
@[simp] theorem ev_nil (s : St) : evalEs T cf .nil s = .ok [] s := id rfl
@[simp] theorem ev_cons (a b : CE) (s : St) : evalEs T cf (.cons a b) s = (evalE T cf a s).bind fun x s1 => (evalEs T cf b s1).bind fun xs s2 => .ok (x :: xs) s2 := id rfl
def ifV (x : RV) (a b : R RV) : R RV := match x with
    | .val (.bl true) => a
    | .val (.bl false) => b
    | _ => .bad
@[simp] theorem ifV_t (a b : R RV) : ifV (.val (.bl true)) a b = a := id rfl
@[simp] theorem ifV_f (a b : R RV) : ifV (.val (.bl false)) a b = b := id rfl
@[simp] theorem ifV_d (p : Prop) [Decidable p] (a b : R RV) : ifV (.val (.bl (decide p))) a b = if p then a else b := by by_cases h : p <;> simp [h]
theorem ifV_congr {x y : RV} {a b : R RV} (h : x = y) : ifV x a b = ifV y a b := by rw [h]
@[simp] theorem ev_and (a b : CE) (s : St) : evalE T cf (.and a b) s = (evalE T cf a s).bind fun x s1 => ifV x (evalE T cf b s1) (.ok (.val (.bl false)) s1) := id rfl
@[simp] theorem ev_or (a b : CE) (s : St) : evalE T cf (.or a b) s = (evalE T cf a s).bind fun x s1 => ifV x (.ok (.val (.bl true)) s1) (evalE T cf b s1) := id rfl
def notV (x : RV) (s : St) : R RV := match x with
    | .val (.bl k) => .ok (.val (.bl (!k))) s
    | _ => .bad
@[simp] theorem notV_bl (k : Bool) (s : St) : notV (.val (.bl k)) s = .ok (.val (.bl (!k))) s := rfl
@[simp] theorem ev_not (a : CE) (s : St) : evalE T cf (.not a) s = (evalE T cf a s).bind fun x s1 => notV x s1 := id rfl
@[simp] theorem ev_ite (c a b : CE) (s : St) : evalE T cf (.ite c a b) s = (evalE T cf c s).bind fun x s1 => ifV x (evalE T cf a s1) (evalE T cf b s1) := id rfl
@[simp] theorem ev_cmp2 (o p : BOp) (a b c : CE) (s : St) : evalE T cf (.cmp2 o p a b c) s = (evalE T cf a s).bind fun x s1 => (evalE T cf b s1).bind fun y s2 => if isValR y then (binR T cf o x y s2).bind fun r s3 => ifV r ((evalE T cf c s3).bind fun z s4 => binR T cf p y z s4) (.ok (.val (.bl false)) s3) else .bad := id rfl
def attrV (f : Nat) (v : PV) (s : St) : R RV := match v with
    | .obj c fs => if T.fld c f then (ofOpt (fs.lookup f) s).bind fun w s2 => .ok (.val w) s2 else .bad
    | _ => .bad
@[simp] theorem attrV_obj (f c : Nat) (fs : List (Nat × PV)) (s : St) : attrV T f (.obj c fs) s = if T.fld c f then (ofOpt (fs.lookup f) s).bind fun w s2 => .ok (.val w) s2 else .bad := rfl
@[simp] theorem ev_attr (a : CE) (f : Nat) (s : St) : evalE T cf (.attr a f) s = (evalE T cf a s).bind fun x s1 => (ofOpt (view s1 x) s1).bind fun v _ => attrV T f v s1 := id rfl
@[simp] theorem ev_isa (a : CE) (ts : List TC) (s : St) : evalE T cf (.isa a ts) s = (evalE T cf a s).bind fun x s1 => (ofOpt (view s1 x) s1).bind fun v _ => if !isaOk v then .bad else .ok (.val (.bl (ts.any fun c => isaT c v))) s1 := id rfl
@[simp] theorem ev_slc (a lo hi : CE) (s : St) : evalE T cf (.slc a lo hi) s = (evalE T cf a s).bind fun x s1 => (evalE T cf lo s1).bind fun y s2 => if slPart lo y then (evalE T cf hi s2).bind fun z s3 => (if slPart hi z then (ofOpt (view s3 x) s3).bind fun u _ => (ofOpt (slcV u (partV y) (partV z)) s3).bind fun r s4 => .ok (fresh r) s4 else .bad) else .bad := id rfl
@[simp] theorem ev_comp (fz : Bool) (t : Tg) (ik : IK) (src cond elt : CE) (s : St) : evalE T cf (.comp fz t ik src cond elt) s = (evalEs T cf src s).bind fun rs s1 => (ofOpt (views s1 rs) s1).bind fun vs _ => (ofOpt (itemsOf ik vs) s1).bind fun xs _ => (lend fz rs s1).bind fun _ s2 =>
      if (tgVars t).all (compVar s2) && sizeOk xs.length then
      (loopR (cmpF T cf t cond elt) xs [] (wipeS s2 (tgVars t))).bind fun acc s3 => .ok (.tmp (.lst acc)) (unlend fz s1 rs (backS s3 s2 (tgVars t)))
      else .bad := id rfl
@[simp] theorem ev_mkseq (tup : Bool) (ik : IK) (es : CE) (s : St) : evalE T cf (.mkseq tup ik es) s = (evalEs T cf es s).bind fun rs s1 => (ofOpt (views s1 rs) s1).bind fun vs _ => (ofOpt (itemsOf ik vs) s1).bind fun xs _ => if !sizeOk xs.length then .bad else .ok (if tup then .val (.tup xs) else .tmp (.lst xs)) s1 := id rfl
def cellV (x : RV) (s1 : St) : R RV := match x with
    | .tmp c => .ok (.val (.loc s1.cells.length)) { s1 with cells := s1.cells ++ [c] }
    | _ => .bad
@[simp] theorem cellV_tmp (c : PV) (s1 : St) : cellV (.tmp c) s1 = .ok (.val (.loc s1.cells.length)) { s1 with cells := s1.cells ++ [c] } := rfl
@[simp] theorem ev_cell (a : CE) (s : St) : evalE T cf (.cell a) s = (evalE T cf a s).bind fun x s1 => cellV x s1 := id rfl
@[simp] theorem ev_pop (a es : CE) (s : St) : evalE T cf (.pop a es) s = (evalE T cf a s).bind fun x s1 => if isLstR s1 x then (evalEs T cf es s1).bind fun rs s2 => (ofOpt (view s2 x) s2).bind fun v _ => (ofOpt (views s2 rs) s2).bind fun vs _ => popR s2 x v vs else .bad := id rfl
@[simp] theorem ua_neg (x : RV) (s : St) : unaR T cf .neg x s = (ofOpt (view s x) s).bind fun v _ => (ofOpt (uop .neg v) s).bind fun r s1 => .ok (fresh r) s1 := id rfl
@[simp] theorem ua_abs (x : RV) (s : St) : unaR T cf .abs x s = (ofOpt (view s x) s).bind fun v _ => (ofOpt (uop .abs v) s).bind fun r s1 => .ok (fresh r) s1 := id rfl
@[simp] theorem ua_int (x : RV) (s : St) : unaR T cf .int_ x s = (ofOpt (view s x) s).bind fun v _ => (ofOpt (uop .int_ v) s).bind fun r s1 => .ok (fresh r) s1 := id rfl
@[simp] theorem ua_tuple (x : RV) (s : St) : unaR T cf .tuple_ x s = (ofOpt (view s x) s).bind fun v _ => (ofOpt (uop .tuple_ v) s).bind fun r s1 => .ok (fresh r) s1 := id rfl
@[simp] theorem ua_list (x : RV) (s : St) : unaR T cf .list_ x s = (ofOpt (view s x) s).bind fun v _ => (ofOpt (uop .list_ v) s).bind fun r s1 => .ok (fresh r) s1 := id rfl
@[simp] theorem ua_sorted (x : RV) (s : St) : unaR T cf .sorted_ x s = (ofOpt (view s x) s).bind fun v _ => (ofOpt (uop .sorted_ v) s).bind fun r s1 => .ok (fresh r) s1 := id rfl
@[simp] theorem ua_sum (x : RV) (s : St) : unaR T cf .sum_ x s = (ofOpt (view s x) s).bind fun v _ => (ofOpt (uop .sum_ v) s).bind fun r s1 => .ok (fresh r) s1 := id rfl
@[simp] theorem ua_all (x : RV) (s : St) : unaR T cf .all_ x s = (ofOpt (view s x) s).bind fun v _ => (ofOpt (uop .all_ v) s).bind fun r s1 => .ok (fresh r) s1 := id rfl
@[simp] theorem ua_any (x : RV) (s : St) : unaR T cf .any_ x s = (ofOpt (view s x) s).bind fun v _ => (ofOpt (uop .any_ v) s).bind fun r s1 => .ok (fresh r) s1 := id rfl
@[simp] theorem ua_lenset (x : RV) (s : St) : unaR T cf .lenset x s = (ofOpt (view s x) s).bind fun v _ => (ofOpt (uop .lenset v) s).bind fun r s1 => .ok (fresh r) s1 := id rfl
@[simp] theorem ua_sortset (x : RV) (s : St) : unaR T cf .sortset x s = (ofOpt (view s x) s).bind fun v _ => (ofOpt (uop .sortset v) s).bind fun r s1 => .ok (fresh r) s1 := id rfl
@[simp] theorem ua_dict (x : RV) (s : St) : unaR T cf .dict_ x s = (ofOpt (view s x) s).bind fun v _ => (ofOpt (uop .dict_ v) s).bind fun r s1 => .ok (fresh r) s1 := id rfl
@[simp] theorem ua_isNone (x : RV) (s : St) : unaR T cf .isNone x s = (ofOpt (view s x) s).bind fun v _ => (ofOpt (uop .isNone v) s).bind fun r s1 => .ok (fresh r) s1 := id rfl
@[simp] theorem ua_notNone (x : RV) (s : St) : unaR T cf .notNone x s = (ofOpt (view s x) s).bind fun v _ => (ofOpt (uop .notNone v) s).bind fun r s1 => .ok (fresh r) s1 := id rfl
@[simp] theorem ua_rev (x : RV) (s : St) : unaR T cf .rev x s = (ofOpt (view s x) s).bind fun v _ => (ofOpt (uop .rev v) s).bind fun r s1 => .ok (fresh r) s1 := id rfl
@[simp] theorem ua_repr (x : RV) (s : St) : unaR T cf .repr_ x s = (ofOpt (view s x) s).bind fun v _ => (ofOpt (uop .repr_ v) s).bind fun r s1 => .ok (fresh r) s1 := id rfl
@[simp] theorem ua_str (x : RV) (s : St) : unaR T cf .str_ x s = (ofOpt (view s x) s).bind fun v _ => (ofOpt (uop .str_ v) s).bind fun r s1 => .ok (fresh r) s1 := id rfl
@[simp] theorem ua_min1 (x : RV) (s : St) : unaR T cf .min1 x s = (ofOpt (view s x) s).bind fun v _ => (ofOpt (uop .min1 v) s).bind fun r s1 => .ok (.val r) s1 := id rfl
@[simp] theorem ua_max1 (x : RV) (s : St) : unaR T cf .max1 x s = (ofOpt (view s x) s).bind fun v _ => (ofOpt (uop .max1 v) s).bind fun r s1 => .ok (.val r) s1 := id rfl
def lenU (x : RV) (s : St) (v : PV) : R RV := match clsOf v with
  | some c => (ofOpt (T.lnm c) s).bind fun f s1 => (toVal x s1).bind fun a s2 => inSt (cf.fn f [a] s2.cells) s2
  | none => (ofOpt (uop .len v) s).bind fun r s1 => .ok (fresh r) s1
@[simp] theorem ua_len (x : RV) (s : St) : unaR T cf .len x s = (ofOpt (view s x) s).bind fun v _ => lenU T cf x s v := by
  show (ofOpt (view s x) s).bind _ = _
  cases view s x with
  | none => rfl
  | some v =>
    show (match UOp.len, clsOf v with
      | .len, some c => (ofOpt (T.lnm c) s).bind fun f s1 => (toVal x s1).bind fun a s2 => inSt (cf.fn f [a] s2.cells) s2
      | .min1, _ => (ofOpt (uop .len v) s).bind fun r s1 => .ok (.val r) s1
      | .max1, _ => (ofOpt (uop .len v) s).bind fun r s1 => .ok (.val r) s1
      | _, _ => (ofOpt (uop .len v) s).bind fun r s1 => .ok (fresh r) s1) = lenU T cf x s v
    unfold lenU
    cases clsOf v <;> rfl
@[simp] theorem lenU_tup (x : RV) (s : St) (xs : List PV) : lenU T cf x s (.tup xs) = .ok (.val (.int xs.length)) s := rfl
@[simp] theorem lenU_lst (x : RV) (s : St) (xs : List PV) : lenU T cf x s (.lst xs) = .ok (.val (.int xs.length)) s := rfl
@[simp] theorem lenU_scr (x : RV) (s : St) (xs : List Int) : lenU T cf x s (.scr xs) = .ok (.val (.int xs.length)) s := rfl
@[simp] theorem ex_seq (a b : CS) (s : St) : execS T cf (.seq a b) s = thenS (execS T cf a s) fun s1 => execS T cf b s1 := id rfl
@[simp] theorem ex_skip (s : St) : execS T cf .skip s = .ok .nx s := id rfl
@[simp] theorem ex_asgv (i : Nat) (e : CE) (s : St) : execS T cf (.asg (.var i) e) s = (evalE T cf e s).bind fun r s1 => (toSlot r s1).bind fun x s2 => if s2.free i then .ok .nx (s2.put i x) else .bad := id rfl
@[simp] theorem ex_asgc (a b : Tg) (e : CE) (s : St) : execS T cf (.asg (.cons a b) e) s = (evalE T cf e s).bind fun r s1 => (toVal r s1).bind fun v s2 => (asgT (.cons a b) v s2).bind fun _ s3 => .ok .nx s3 := id rfl
@[simp] theorem ex_par (ts : Tg) (es : CE) (s : St) : execS T cf (.par ts es) s = (evalEs T cf es s).bind fun rs s1 => (toSlots rs s1).bind fun xs s2 => (parT ts xs s2).bind fun _ s3 => .ok .nx s3 := id rfl
@[simp] theorem ex_expr (e : CE) (s : St) : execS T cf (.expr e) s = (evalE T cf e s).bind fun _ s1 => .ok .nx s1 := id rfl
@[simp] theorem ex_ret (e : CE) (s : St) : execS T cf (.ret e) s = (evalE T cf e s).bind fun r s1 => (outRV r s1).bind fun o s2 => .ok (.ret o) s2 := id rfl
@[simp] theorem ex_ite (c : CE) (a b : CS) (s : St) : execS T cf (.ite c a b) s = (testR T cf c s).bind fun k s1 => if k then execS T cf a s1 else execS T cf b s1 := id rfl
def bolV (x : RV) (s : St) : R Bool := match x with
  | .val (.bl k) => .ok k s
  | _ => .bad
@[simp] theorem bolV_bl (k : Bool) (s : St) : bolV (.val (.bl k)) s = .ok k s := id rfl
@[simp] theorem testR_eq (c : CE) (s : St) : testR T cf c s = (evalE T cf c s).bind fun x s1 => bolV x s1 := id rfl
@[simp] theorem ex_for (fz : Bool) (t : Tg) (ik : IK) (src : CE) (b : CS) (s : St) : execS T cf (.for_ fz t ik src b) s = (evalEs T cf src s).bind fun rs s1 => (ofOpt (views s1 rs) s1).bind fun vs _ => (ofOpt (itemsOf ik vs) s1).bind fun xs _ => (lend true rs s1).bind fun _ s2 =>
      forR (bodyF T cf t b) xs s2 := id rfl
@[simp] theorem ex_whl (c : CE) (b : CS) (s : St) : execS T cf (.whl c b) s = whileR (testR T cf c) (execS T cf b) 1000000 s := id rfl
def appV (x : RV) (v : PV) (s : St) (o : PV) : R Fl := match o with
    | .lst xs => if sizeOk (xs.length + 1) then (setCell x (.lst (xs ++ [v])) s).bind fun _ s4 => .ok .nx s4 else .bad
    | _ => .bad
@[simp] theorem appV_lst (x : RV) (v : PV) (s : St) (xs : List PV) : appV x v s (.lst xs) = if sizeOk (xs.length + 1) then (setCell x (.lst (xs ++ [v])) s).bind fun _ s4 => .ok .nx s4 else .bad := rfl
@[simp] theorem ex_append (a e : CE) (s : St) : execS T cf (.append a e) s = (evalE T cf a s).bind fun x s1 => if !isLstR s1 x then .bad else (evalE T cf e s1).bind fun r s2 => (toVal r s2).bind fun v s3 => (ofOpt (view s3 x) s3).bind fun o _ => appV x v s3 o := id rfl
@[simp] theorem ex_setsub (a i e : CE) (s : St) : execS T cf (.setsub a i e) s = (evalE T cf e s).bind fun r s1 => (toVal r s1).bind fun v s2 => (evalE T cf a s2).bind fun x s3 => (evalE T cf i s3).bind fun y s4 => (putSub x y v s4).bind fun _ s5 => .ok .nx s5 := id rfl
@[simp] theorem ex_setattr (a : CE) (f : Nat) (e : CE) (s : St) : execS T cf (.setattr a f e) s = (evalE T cf e s).bind fun r s1 => (toVal r s1).bind fun v s2 => (evalE T cf a s2).bind fun x s3 => putAttr T x f v s3 := id rfl
@[simp] theorem outRV_val (v : PV) (s : St) : outRV (.val v) s = .ok (.val v) s := id rfl
@[simp] theorem outRV_tmp (v : PV) (s : St) : outRV (.tmp v) s = .ok (.tmp v) s := id rfl
@[simp] theorem outRV_slot (i : Nat) (env : List Slot) (cells : List PV) (f : Bool) : outRV (.slot i) ⟨env, cells, f⟩ = ownV (env.getD i .non) fun c => .ok (.tmp c) ⟨env, cells, f⟩ := id rfl
@[simp] theorem setCell_slot (i : Nat) (c : PV) (env : List Slot) (cells : List PV) (f : Bool) : setCell (.slot i) c ⟨env, cells, f⟩ = .ok () ⟨env.set i (.own c), cells, f⟩ := id rfl
@[simp] theorem setCell_loc (n : Nat) (c : PV) (env : List Slot) (cells : List PV) (f : Bool) : setCell (.val (.loc n)) c ⟨env, cells, f⟩ = .ok () ⟨env, cells.set n c, f⟩ := id rfl
end
@[simp] theorem asgT_var (i : Nat) (v : PV) (s : St) : asgT (.var i) v s = if s.free i then .ok () (s.put i (.val v)) else .bad := id rfl
@[simp] theorem asgT_2 (a b : Tg) (x y : PV) (s : St) : asgT (.cons a (.cons b .nil)) (.tup [x, y]) s = (asgT a x s).bind fun _ s1 => (asgT b y s1).bind fun _ s1 => .ok () s1 := id rfl
@[simp] theorem parT_nil (s : St) : parT .nil [] s = .ok () s := id rfl
@[simp] theorem parT_cons (i : Nat) (b : Tg) (x : Slot) (xs : List Slot) (s : St) : parT (.cons (.var i) b) (x :: xs) s = if s.free i then parT b xs (s.put i x) else .bad := id rfl
@[simp] theorem slPart_non (r : RV) : slPart (.cst .non) r = true := id rfl
@[simp] theorem slPart_int (c : CE) (i : Int) : slPart c (.val (.int i)) = true := by
  cases c <;> try rfl
  rename_i v
  cases v <;> rfl
@[simp] theorem partV_val (v : PV) : partV (.val v) = v := id rfl
end Nr
end

section
set_option Elab.async false
set_option linter.all false
set_option maxRecDepth 100000
set_option maxHeartbeats 4000000
/-! N1: operations on typed data; loops. -/
namespace Nr
section
variable (T : Tab) (cf : CallF)
def binO (op : BOp) (x y : RV) (s : St) : R RV := (ofOpt (view s x) s).bind fun vx _ => (ofOpt (view s y) s).bind fun vy _ => (ofOpt (bop op vx vy) s).bind fun r s1 => .ok (if isFreshB op then fresh r else .val r) s1
@[simp] theorem bn_add (x y : RV) (s : St) : binR T cf .add x y s = (ofOpt (view s x) s).bind fun vx _ => (ofOpt (view s y) s).bind fun vy _ => (ofOpt (addV vx vy) s).bind fun r s1 => .ok (fresh r) s1 := id rfl
@[simp] theorem bn_mul (x y : RV) (s : St) : binR T cf .mul x y s = (ofOpt (view s x) s).bind fun vx _ => (ofOpt (view s y) s).bind fun vy _ => (ofOpt (mulV vx vy) s).bind fun r s1 => .ok (fresh r) s1 := id rfl
def isEq : BOp → Bool
  | .eq => true
  | .ne => true
  | .add => true
  | .mul => true
  | _ => false
theorem bn_o (op : BOp) (h : isEq op = false) (x y : RV) (s : St) : binR T cf op x y s = (ofOpt (view s x) s).bind fun vx _ => (ofOpt (view s y) s).bind fun vy _ => (ofOpt (bop op vx vy) s).bind fun r s1 => .ok (.val r) s1 := by
  cases op <;> first | rfl | cases h
@[simp] theorem bn_sub (x y : RV) (s : St) : binR T cf .sub x y s = (ofOpt (view s x) s).bind fun vx _ => (ofOpt (view s y) s).bind fun vy _ => (ofOpt (bop .sub vx vy) s).bind fun r s1 => .ok (.val r) s1 := id rfl
@[simp] theorem bn_fdiv (x y : RV) (s : St) : binR T cf .fdiv x y s = (ofOpt (view s x) s).bind fun vx _ => (ofOpt (view s y) s).bind fun vy _ => (ofOpt (bop .fdiv vx vy) s).bind fun r s1 => .ok (.val r) s1 := id rfl
@[simp] theorem bn_mod (x y : RV) (s : St) : binR T cf .mod x y s = (ofOpt (view s x) s).bind fun vx _ => (ofOpt (view s y) s).bind fun vy _ => (ofOpt (bop .mod vx vy) s).bind fun r s1 => .ok (.val r) s1 := id rfl
@[simp] theorem bn_pow (x y : RV) (s : St) : binR T cf .pow x y s = (ofOpt (view s x) s).bind fun vx _ => (ofOpt (view s y) s).bind fun vy _ => (ofOpt (bop .pow vx vy) s).bind fun r s1 => .ok (.val r) s1 := id rfl
@[simp] theorem bn_shl (x y : RV) (s : St) : binR T cf .shl x y s = (ofOpt (view s x) s).bind fun vx _ => (ofOpt (view s y) s).bind fun vy _ => (ofOpt (bop .shl vx vy) s).bind fun r s1 => .ok (.val r) s1 := id rfl
@[simp] theorem bn_shr (x y : RV) (s : St) : binR T cf .shr x y s = (ofOpt (view s x) s).bind fun vx _ => (ofOpt (view s y) s).bind fun vy _ => (ofOpt (bop .shr vx vy) s).bind fun r s1 => .ok (.val r) s1 := id rfl
@[simp] theorem bn_band (x y : RV) (s : St) : binR T cf .band x y s = (ofOpt (view s x) s).bind fun vx _ => (ofOpt (view s y) s).bind fun vy _ => (ofOpt (bop .band vx vy) s).bind fun r s1 => .ok (.val r) s1 := id rfl
@[simp] theorem bn_bor (x y : RV) (s : St) : binR T cf .bor x y s = (ofOpt (view s x) s).bind fun vx _ => (ofOpt (view s y) s).bind fun vy _ => (ofOpt (bop .bor vx vy) s).bind fun r s1 => .ok (.val r) s1 := id rfl
@[simp] theorem bn_lt (x y : RV) (s : St) : binR T cf .lt x y s = (ofOpt (view s x) s).bind fun vx _ => (ofOpt (view s y) s).bind fun vy _ => (ofOpt (bop .lt vx vy) s).bind fun r s1 => .ok (.val r) s1 := id rfl
@[simp] theorem bn_le (x y : RV) (s : St) : binR T cf .le x y s = (ofOpt (view s x) s).bind fun vx _ => (ofOpt (view s y) s).bind fun vy _ => (ofOpt (bop .le vx vy) s).bind fun r s1 => .ok (.val r) s1 := id rfl
@[simp] theorem bn_gt (x y : RV) (s : St) : binR T cf .gt x y s = (ofOpt (view s x) s).bind fun vx _ => (ofOpt (view s y) s).bind fun vy _ => (ofOpt (bop .gt vx vy) s).bind fun r s1 => .ok (.val r) s1 := id rfl
@[simp] theorem bn_ge (x y : RV) (s : St) : binR T cf .ge x y s = (ofOpt (view s x) s).bind fun vx _ => (ofOpt (view s y) s).bind fun vy _ => (ofOpt (bop .ge vx vy) s).bind fun r s1 => .ok (.val r) s1 := id rfl
@[simp] theorem bn_isin (x y : RV) (s : St) : binR T cf .isin x y s = (ofOpt (view s x) s).bind fun vx _ => (ofOpt (view s y) s).bind fun vy _ => (ofOpt ((inB vx vy).map .bl) s).bind fun r s1 => .ok (.val r) s1 := id rfl
@[simp] theorem bn_notin (x y : RV) (s : St) : binR T cf .notin x y s = (ofOpt (view s x) s).bind fun vx _ => (ofOpt (view s y) s).bind fun vy _ => (ofOpt ((inB vx vy).map fun b => .bl (!b)) s).bind fun r s1 => .ok (.val r) s1 := id rfl
@[simp] theorem bn_idx (x y : RV) (s : St) : binR T cf .idx x y s = (ofOpt (view s x) s).bind fun vx _ => (ofOpt (view s y) s).bind fun vy _ => (ofOpt (idxV vx vy) s).bind fun r s1 => .ok (.val r) s1 := id rfl
@[simp] theorem bn_index (x y : RV) (s : St) : binR T cf .index x y s = (ofOpt (view s x) s).bind fun vx _ => (ofOpt (view s y) s).bind fun vy _ => (ofOpt (indexV vx vy) s).bind fun r s1 => .ok (.val r) s1 := id rfl
@[simp] theorem bn_count (x y : RV) (s : St) : binR T cf .count x y s = (ofOpt (view s x) s).bind fun vx _ => (ofOpt (view s y) s).bind fun vy _ => (ofOpt (bop .count vx vy) s).bind fun r s1 => .ok (.val r) s1 := id rfl
@[simp] theorem bn_min2 (x y : RV) (s : St) : binR T cf .min2 x y s = (ofOpt (view s x) s).bind fun vx _ => (ofOpt (view s y) s).bind fun vy _ => (ofOpt (bop .min2 vx vy) s).bind fun r s1 => .ok (.val r) s1 := id rfl
@[simp] theorem bn_max2 (x y : RV) (s : St) : binR T cf .max2 x y s = (ofOpt (view s x) s).bind fun vx _ => (ofOpt (view s y) s).bind fun vy _ => (ofOpt (bop .max2 vx vy) s).bind fun r s1 => .ok (.val r) s1 := id rfl
def eqU (neg : Bool) (x y : RV) (s : St) (vx vy : PV) : R RV := match clsOf vx with
    | none => (ofOpt (bop (if neg then .ne else .eq) vx vy) s).bind fun r s1 => .ok (.val r) s1
    | some c => (ofOpt (T.eqm c) s).bind fun f s1 => (toVal x s1).bind fun a s2 => (toVal y s2).bind fun b s3 =>
      (inSt (cf.fn f [a, b] s3.cells) s3).bind fun r s4 => match r with
        | .val (.bl k) => .ok (.val (.bl (if neg then !k else k))) s4
        | _ => .bad
@[simp] theorem eqU_eq (x y : RV) (s : St) (vx vy : PV) (h : clsOf vx = none) : eqU T cf false x y s vx vy = (ofOpt (eqV vx vy) s).bind fun r s1 => .ok (.val r) s1 := by
  unfold eqU; rw [h]; rfl
@[simp] theorem eqU_ne (x y : RV) (s : St) (vx vy : PV) (h : clsOf vx = none) : eqU T cf true x y s vx vy = (ofOpt (neV vx vy) s).bind fun r s1 => .ok (.val r) s1 := by
  unfold eqU; rw [h]; rfl
/-- ==, of what is no object -/
@[simp] theorem bn_eq (x y : RV) (s : St) : binR T cf .eq x y s = (ofOpt (view s x) s).bind fun vx _ => (ofOpt (view s y) s).bind fun vy _ => eqU T cf false x y s vx vy := id rfl
@[simp] theorem bn_ne (x y : RV) (s : St) : binR T cf .ne x y s = (ofOpt (view s x) s).bind fun vx _ => (ofOpt (view s y) s).bind fun vy _ => eqU T cf true x y s vx vy := id rfl
end
@[simp] theorem rv_index (s : St) (x : RV) : recvOk .index s x = isSeqR s x := id rfl
@[simp] theorem rv_count (s : St) (x : RV) : recvOk .count s x = isLstR s x := id rfl
theorem rv_o (op : BOp) (s : St) (x : RV) (h : (op == .index || op == .count) = false) : recvOk op s x = true := by cases op <;> first | rfl | cases h
@[simp] theorem rv_add (s : St) (x : RV) : recvOk .add s x = true := id rfl
@[simp] theorem rv_sub (s : St) (x : RV) : recvOk .sub s x = true := id rfl
@[simp] theorem rv_mul (s : St) (x : RV) : recvOk .mul s x = true := id rfl
@[simp] theorem rv_fdiv (s : St) (x : RV) : recvOk .fdiv s x = true := id rfl
@[simp] theorem rv_mod (s : St) (x : RV) : recvOk .mod s x = true := id rfl
@[simp] theorem rv_pow (s : St) (x : RV) : recvOk .pow s x = true := id rfl
@[simp] theorem rv_shl (s : St) (x : RV) : recvOk .shl s x = true := id rfl
@[simp] theorem rv_shr (s : St) (x : RV) : recvOk .shr s x = true := id rfl
@[simp] theorem rv_band (s : St) (x : RV) : recvOk .band s x = true := id rfl
@[simp] theorem rv_bor (s : St) (x : RV) : recvOk .bor s x = true := id rfl
@[simp] theorem rv_eq (s : St) (x : RV) : recvOk .eq s x = true := id rfl
@[simp] theorem rv_ne (s : St) (x : RV) : recvOk .ne s x = true := id rfl
@[simp] theorem rv_lt (s : St) (x : RV) : recvOk .lt s x = true := id rfl
@[simp] theorem rv_le (s : St) (x : RV) : recvOk .le s x = true := id rfl
@[simp] theorem rv_gt (s : St) (x : RV) : recvOk .gt s x = true := id rfl
@[simp] theorem rv_ge (s : St) (x : RV) : recvOk .ge s x = true := id rfl
@[simp] theorem rv_isin (s : St) (x : RV) : recvOk .isin s x = true := id rfl
@[simp] theorem rv_notin (s : St) (x : RV) : recvOk .notin s x = true := id rfl
@[simp] theorem rv_idx (s : St) (x : RV) : recvOk .idx s x = true := id rfl
@[simp] theorem rv_min2 (s : St) (x : RV) : recvOk .min2 s x = true := id rfl
@[simp] theorem rv_max2 (s : St) (x : RV) : recvOk .max2 s x = true := id rfl
def isSeqO (o : Option PV) : Bool := match o with
  | some (.lst _) => true
  | some (.tup _) => true
  | _ => false
def isLstO (o : Option PV) : Bool := match o with
  | some (.lst _) => true
  | _ => false
@[simp] theorem isSeqO_l (v : List PV) : isSeqO (some (.lst v)) = true := rfl
@[simp] theorem isSeqO_t (v : List PV) : isSeqO (some (.tup v)) = true := rfl
@[simp] theorem isLstO_l (v : List PV) : isLstO (some (.lst v)) = true := rfl
@[simp] theorem isSeqR_eq (s : St) (x : RV) : isSeqR s x = isSeqO (view s x) := id rfl
@[simp] theorem isLstR_eq (s : St) (x : RV) : isLstR s x = isLstO (view s x) := id rfl
@[simp] theorem isValR_val (v : PV) : isValR (.val v) = true := id rfl
@[simp] theorem cls_int (i : Int) : clsOf (.int i) = none := id rfl
@[simp] theorem cls_tup (i : List PV) : clsOf (.tup i) = none := id rfl
@[simp] theorem cls_lst (i : List PV) : clsOf (.lst i) = none := id rfl
@[simp] theorem cls_str (i : PySem.Str) : clsOf (.str i) = none := id rfl
@[simp] theorem cls_non : clsOf .non = none := id rfl
@[simp] theorem cls_bl (b : Bool) : clsOf (.bl b) = none := id rfl
@[simp] theorem cls_dct (b : List (PV × PV)) : clsOf (.dct b) = none := id rfl
@[simp] theorem cls_scr (b : List Int) : clsOf (.scr b) = none := id rfl
@[simp] theorem fresh_int (i : Int) : fresh (.int i) = .val (.int i) := id rfl
@[simp] theorem fresh_tup (i : List PV) : fresh (.tup i) = .val (.tup i) := id rfl
@[simp] theorem fresh_lst (i : List PV) : fresh (.lst i) = .tmp (.lst i) := id rfl
@[simp] theorem fresh_bl (b : Bool) : fresh (.bl b) = .val (.bl b) := id rfl
@[simp] theorem fresh_str (b : PySem.Str) : fresh (.str b) = .val (.str b) := id rfl
@[simp] theorem fresh_dct (b : List (PV × PV)) : fresh (.dct b) = .tmp (.dct b) := id rfl
@[simp] theorem op_sub (i j : Int) : bop .sub (.int i) (.int j) = some (.int (i - j)) := id rfl
@[simp] theorem op_add (i j : Int) : addV (.int i) (.int j) = some (.int (i + j)) := id rfl
@[simp] theorem op_lt (i j : Int) : bop .lt (.int i) (.int j) = some (.bl (decide (i < j))) := id rfl
@[simp] theorem op_le (i j : Int) : bop .le (.int i) (.int j) = some (.bl (decide (i ≤ j))) := id rfl
@[simp] theorem op_gt (i j : Int) : bop .gt (.int i) (.int j) = some (.bl (decide (j < i))) := id rfl
@[simp] theorem op_ge (i j : Int) : bop .ge (.int i) (.int j) = some (.bl (decide (j ≤ i))) := id rfl
@[simp] theorem op_min2 (i j : Int) : bop .min2 (.int i) (.int j) = some (.int (if j < i then j else i)) := id rfl
@[simp] theorem op_max2 (i j : Int) : bop .max2 (.int i) (.int j) = some (.int (if j > i then j else i)) := id rfl
@[simp] theorem op_mod (i j : Int) : bop .mod (.int i) (.int j) = if decide (0 < j) then some (.int (i % j)) else none := id rfl
@[simp] theorem op_fdiv (i j : Int) : bop .fdiv (.int i) (.int j) = if decide (0 < j) && decide (j < 1073741824) then some (.int (i / j)) else none := id rfl
@[simp] theorem op_mul (i j : Int) : mulV (.int i) (.int j) = if inside64 i || inside64 j then some (.int (i * j)) else none := id rfl
@[simp] theorem up_len_tup (xs : List PV) : uop .len (.tup xs) = some (.int xs.length) := id rfl
@[simp] theorem up_len_lst (xs : List PV) : uop .len (.lst xs) = some (.int xs.length) := id rfl
@[simp] theorem up_len_scr (xs : List Int) : uop .len (.scr xs) = some (.int xs.length) := id rfl
@[simp] theorem up_abs (i : Int) : uop .abs (.int i) = some (.int (if i < 0 then -i else i)) := id rfl
@[simp] theorem up_int (i : Int) : uop .int_ (.int i) = some (.int i) := id rfl
@[simp] theorem up_tuple_tup (xs : List PV) : uop .tuple_ (.tup xs) = some (.tup xs) := id rfl
@[simp] theorem up_tuple_lst (xs : List PV) : uop .tuple_ (.lst xs) = some (.tup xs) := id rfl
@[simp] theorem up_list_tup (xs : List PV) : uop .list_ (.tup xs) = some (.lst xs) := id rfl
@[simp] theorem up_list_lst (xs : List PV) : uop .list_ (.lst xs) = some (.lst xs) := id rfl
@[simp] theorem up_rev_tup (xs : List PV) : uop .rev (.tup xs) = some (.tup xs.reverse) := id rfl
@[simp] theorem up_rev_lst (xs : List PV) : uop .rev (.lst xs) = some (.lst xs.reverse) := id rfl
@[simp] theorem up_sum (x : PV) : uop .sum_ x = sumV x := id rfl
@[simp] theorem up_min (x : PV) : uop .min1 x = minV x := id rfl
@[simp] theorem up_max (x : PV) : uop .max1 x = maxV x := id rfl
@[simp] theorem up_all (x : PV) : uop .all_ x = allV x := id rfl
@[simp] theorem up_dict (x : PV) : uop .dict_ x = dictV x := id rfl
@[simp] theorem it_seq_tup (xs : List PV) : itemsOf .seq [.tup xs] = some xs := id rfl
@[simp] theorem it_seq_lst (xs : List PV) : itemsOf .seq [.lst xs] = some xs := id rfl
@[simp] theorem it_enum_tup (xs : List PV) : itemsOf .enum [.tup xs] = some (enumL 0 xs) := id rfl
@[simp] theorem tgVars_var (i : Nat) : tgVars (.var i) = [i] := id rfl
@[simp] theorem tgVars_nil : tgVars .nil = [] := id rfl
@[simp] theorem tgVars_cons (a b : Tg) : tgVars (.cons a b) = tgVars a ++ tgVars b := id rfl
@[simp] theorem compVar_mk (i : Nat) (env : List Slot) (cells : List PV) : compVar ⟨env, cells, false⟩ i = isOwn (env.getD i .non) := id rfl
@[simp] theorem wipe_nil (s : St) : wipeS s [] = s := id rfl
@[simp] theorem wipe_cons (s : St) (i : Nat) (is : List Nat) : wipeS s (i :: is) = (wipeS s is).put i .non := id rfl
@[simp] theorem back_nil (s s0 : St) : backS s s0 [] = s := id rfl
@[simp] theorem back_cons (s s0 : St) (i : Nat) (is : List Nat) : backS s s0 (i :: is) = (backS s s0 is).put i (s0.get i) := id rfl
/-! loops -/
theorem forR_inv {β : Type} {f : PV → St → R Fl} {I : β → St → Prop} {step : β → PV → β} : ∀ {xs : List PV} {a : β} {s : St}, (∀ x ∈ xs, ∀ a s, I a s → ∃ s', f x s = .ok .nx s' ∧ I (step a x) s') → I a s → ∃ s', forR f xs s = .ok .nx s' ∧ I (xs.foldl step a) s'
  | [], a, s, h, hi => ⟨s, rfl, hi⟩
  | x :: xs, a, s, h, hi => by
    obtain ⟨s1, e1, h1⟩ := h x List.mem_cons_self a s hi
    obtain ⟨s2, e2, h2⟩ := forR_inv (fun y hy => h y (List.mem_cons_of_mem _ hy)) h1
    exact ⟨s2, by rw [forR, e1, R.bind_ok]; exact e2, h2⟩
/-- a loop over typed items that ends behind its last turn -/
theorem forR_map {α β : Type} {f : PV → St → R Fl} {e : α → PV} {I : β → St → Prop} {step : β → α → β} : ∀ {xs : List α} {a : β} {s : St}, (∀ x ∈ xs, ∀ a s, I a s → ∃ s', f (e x) s = .ok .nx s' ∧ I (step a x) s') → I a s → ∃ s', forR f (xs.map e) s = .ok .nx s' ∧ I (xs.foldl step a) s'
  | [], a, s, h, hi => ⟨s, rfl, hi⟩
  | x :: xs, a, s, h, hi => by
    obtain ⟨s1, e1, h1⟩ := h x List.mem_cons_self a s hi
    obtain ⟨s2, e2, h2⟩ := forR_map (fun y hy => h y (List.mem_cons_of_mem _ hy)) h1
    exact ⟨s2, by rw [List.map_cons, forR, e1, R.bind_ok]; exact e2, h2⟩
/-- a loop that appends one value for each item: the list grows -/
theorem forR_app {α : Type} {f : PV → St → R Fl} {e : α → PV} {g : α → PV} {I : List PV → St → Prop} {k : Nat} : ∀ {xs : List α} {a : List PV} {s : St}, (∀ x ∈ xs, ∀ a s, a.length < k → I a s → ∃ s', f (e x) s = .ok .nx s' ∧ I (a ++ [g x]) s') → a.length + xs.length ≤ k → I a s → ∃ s', forR f (xs.map e) s = .ok .nx s' ∧ I (a ++ xs.map g) s'
  | [], a, s, h, hk, hi => ⟨s, rfl, by simpa using hi⟩
  | x :: xs, a, s, h, hk, hi => by
    have hk' : a.length + (xs.length + 1) ≤ k := by simpa using hk
    obtain ⟨s1, e1, h1⟩ := h x List.mem_cons_self a s (by omega) hi
    obtain ⟨s2, e2, h2⟩ := forR_app (fun y hy => h y (List.mem_cons_of_mem _ hy)) (by simp; omega) h1
    exact ⟨s2, by rw [List.map_cons, forR, e1, R.bind_ok]; exact e2, by simpa using h2⟩
theorem loopR_map {α : Type} {f : PV → List PV → St → R (List PV)} {s : St} {e : α → PV} {g : α → PV} : ∀ {xs : List α} {acc : List PV}, (∀ x ∈ xs, ∀ acc, f (e x) acc s = .ok (acc ++ [g x]) s) → loopR f (xs.map e) acc s = .ok (acc ++ xs.map g) s
  | [], acc, h => by simp [loopR]
  | x :: xs, acc, h => by
    rw [List.map_cons, loopR, h x List.mem_cons_self, R.bind_ok, loopR_map fun y hy => h y (List.mem_cons_of_mem _ hy)]
    simp
theorem loopR_fmap {α : Type} {f : PV → List PV → St → R (List PV)} {s : St} {e : α → PV} {p : α → Bool} {g : α → PV} : ∀ {xs : List α} {acc : List PV}, (∀ x ∈ xs, ∀ acc, f (e x) acc s = .ok (if p x then acc ++ [g x] else acc) s) → loopR f (xs.map e) acc s = .ok (acc ++ (xs.filter p).map g) s
  | [], acc, h => by simp [loopR]
  | x :: xs, acc, h => by
    rw [List.map_cons, loopR, h x List.mem_cons_self, R.bind_ok, loopR_fmap fun y hy => h y (List.mem_cons_of_mem _ hy)]
    cases hp : p x <;> simp [hp]
theorem fn_eq {T : Tab} {m f : Nat} {fd : FD} {vs cells : List PV} (h : T.fns f = some fd) (hl : vs.length = fd.ar) : (callD T (m + 1)).fn f vs cells = endF (execS T (callD T m) fd.body ⟨startEnv fd (vs.map .val), cells, false⟩) := by
  show (match T.fns f with
    | some fd => if vs.length = fd.ar then endF (execS T (callD T m) fd.body ⟨startEnv fd (vs.map .val), cells, false⟩) else .bad
    | none => .bad) = _
  rw [h]
  exact if_pos hl
@[simp] theorem endF_ret (r : RV) (s : St) : endF (.ok (.ret r) s) = .ok r s.cells := id rfl
@[simp] theorem endF_nx (s : St) : endF (.ok .nx s) = .ok (.val .non) s.cells := id rfl
theorem endF_congr {r r' : R Fl} (h : r = r') : endF r = endF r' := by rw [h]
theorem forR_ixD {α : Type} {f : PV → St → R Fl} {e : α → PV} {I : Nat → St → Prop} (xs : List α) (h : ∀ i (hi : i < xs.length) s, I i s → ∃ s', f (e xs[i]) s = .ok .nx s' ∧ I (i + 1) s') : ∀ (d i : Nat) (s : St), i + d = xs.length → I i s → ∃ s', forR f ((xs.drop i).map e) s = .ok .nx s' ∧ I xs.length s'
  | 0, i, s, hd, hi => ⟨s, by rw [List.drop_of_length_le (by omega)]; rfl, by rw [← hd]; exact hi⟩
  | d + 1, i, s, hd, hi => by
    have hl : i < xs.length := by omega
    obtain ⟨s1, e1, h1⟩ := h i hl s hi
    obtain ⟨s2, e2, h2⟩ := forR_ixD xs h d (i + 1) s1 (by omega) h1
    refine ⟨s2, ?_, h2⟩
    rw [List.drop_eq_getElem_cons hl, List.map_cons, forR, e1, R.bind_ok]
    exact e2
theorem forR_ix {α : Type} {f : PV → St → R Fl} {e : α → PV} {I : Nat → St → Prop} {xs : List α} {s : St} (h : ∀ i (hi : i < xs.length) s, I i s → ∃ s', f (e xs[i]) s = .ok .nx s' ∧ I (i + 1) s') (h0 : I 0 s) : ∃ s', forR f (xs.map e) s = .ok .nx s' ∧ I xs.length s' := by
  have := forR_ixD xs h xs.length 0 s (by omega) h0
  rwa [List.drop_zero] at this
/-- behind a loop, inside a def -/
theorem for_ixE {α : Type} {f : PV → St → R Fl} {e : α → PV} {xs : List α} {s : St} {F : St → R Fl} {X : FR} (I : Nat → St → Prop) (h : ∀ i (hi : i < xs.length) s, I i s → ∃ s', f (e xs[i]) s = .ok .nx s' ∧ I (i + 1) s') (h0 : I 0 s) (hF : ∀ s', I xs.length s' → endF (F s') = X) : endF (thenS (forR f (xs.map e) s) F) = X := by
  obtain ⟨s', e1, h1⟩ := forR_ix h h0
  rw [e1]
  exact hF s' h1
/-- inside a body -/
theorem for_ixB {α : Type} {f : PV → St → R Fl} {e : α → PV} {xs : List α} {s : St} {F : St → R Fl} {X : St → Prop} (I : Nat → St → Prop) (h : ∀ i (hi : i < xs.length) s, I i s → ∃ s', f (e xs[i]) s = .ok .nx s' ∧ I (i + 1) s') (h0 : I 0 s) (hF : ∀ s', I xs.length s' → ∃ s2, F s' = .ok .nx s2 ∧ X s2) : ∃ s2, thenS (forR f (xs.map e) s) F = .ok .nx s2 ∧ X s2 := by
  obtain ⟨s', e1, h1⟩ := forR_ix h h0
  obtain ⟨s2, e2, h2⟩ := hF s' h1
  exact ⟨s2, by rw [e1]; exact e2, h2⟩
/-! typed data -/
abbrev pI (n : Nat) : PV := .int (n : Int)
abbrev pO (o : List Nat) : PV := .tup (o.map pI)
abbrev pT (t : Nat × Nat) : PV := .tup [pI t.1, pI t.2]
abbrev pTs (ts : List (Nat × Nat)) : PV := .tup (ts.map pT)
theorem getD_map_pI (l : List Nat) (k : Nat) (h : k < l.length) : (l.map pI)[k]? = some (pI (l.getD k 0)) := by
  rw [List.getElem?_map, List.getD_eq_getElem?_getD, List.getElem?_eq_getElem h]; rfl
theorem ixOf_nat (n k : Nat) (h : k < n) : ixOf n (k : Int) = some k := by
  unfold ixOf
  have h1 : (0 : Int) ≤ (k : Int) := by omega
  have h2 : (k : Int) < (n : Int) := by omega
  rw [if_pos h1, if_pos h2]; rfl
theorem idx_tup (xs : List PV) (k : Nat) (h : k < xs.length) : idxV (.tup xs) (.int (k : Int)) = some (xs[k]'h) := by
  show ((ixOf xs.length (k : Int)).bind fun k => xs[k]?) = _
  rw [ixOf_nat _ _ h]
  exact List.getElem?_eq_getElem h
theorem idx_lst (xs : List PV) (k : Nat) (h : k < xs.length) : idxV (.lst xs) (.int (k : Int)) = some (xs[k]'h) := by
  show ((ixOf xs.length (k : Int)).bind fun k => xs[k]?) = _
  rw [ixOf_nat _ _ h]
  exact List.getElem?_eq_getElem h
theorem idx_pO (l : List Nat) (k : Nat) (h : k < l.length) : idxV (.tup (l.map pI)) (.int (k : Int)) = some (pI (l.getD k 0)) := by
  rw [idx_tup _ _ (by simpa using h)]
  simp [List.getD_eq_getElem?_getD, h]
theorem rangeL_map : ∀ (n k : Nat), rangeL (k : Int) n = (List.range' k n).map pI
  | 0, k => rfl
  | n + 1, k => by
    rw [rangeL, List.range'_succ, List.map_cons]
    have := rangeL_map n (k + 1)
    rw [← this]
    rfl
theorem rangeL0 (n : Nat) : rangeL 0 n = (List.range n).map pI := by
  have := rangeL_map n 0
  rw [List.range_eq_range']
  exact this
theorem it_rng1 (n : Nat) (h : n ≤ 1000000) : itemsOf .rng1 [.int (n : Int)] = some ((List.range n).map pI) := by
  have : rngOk (n : Int) = true := by unfold rngOk; simp; omega
  show (if rngOk (n : Int) then some (rangeL 0 (n : Int).toNat) else none) = _
  rw [this, ← rangeL0]; rfl
theorem it_rng2 (a b : Nat) (h : a ≤ 1000000) (h2 : b ≤ 1000000) : itemsOf .rng2 [.int (a : Int), .int (b : Int)] = some ((List.range' a (b - a)).map pI) := by
  have h1 : rngOk (a : Int) = true := by unfold rngOk; simp; omega
  have h2 : rngOk (b : Int) = true := by unfold rngOk; simp; omega
  show (if rngOk (a : Int) && rngOk (b : Int) then some (rangeL a ((b : Int) - a).toNat) else none) = _
  rw [h1, h2, ← rangeL_map]
  have : ((b : Int) - a).toNat = b - a := by omega
  rw [this]; rfl
theorem szOk_le {n : Nat} (h : n ≤ 1000000) : sizeOk n = true := by unfold sizeOk; exact decide_eq_true (by omega)
end Nr
end

section
set_option Elab.async false
set_option linter.all false
set_option maxRecDepth 100000
set_option maxHeartbeats 400000
/-! N2: rows of numbers, least and greatest, dicts. -/
namespace Nr
theorem pvEq_int (a b : Int) : pvEq (.int a) (.int b) = decide (a = b) := by
  show (a == b) = _
  by_cases h : a = b <;> simp [h]
theorem pvEq_pI (a b : Nat) : pvEq (pI a) (pI b) = decide (a = b) := by
  rw [pvEq_int]
  by_cases h : a = b
  · simp [h]
  · have : ¬ (a : Int) = b := fun z => h (by omega)
    simp [h, this]
theorem plainL_int : ∀ (o : List Int), plainL (o.map .int) = true
  | [] => rfl
  | x :: xs => by
    rw [List.map_cons, plainL, plainL_int xs]; rfl
theorem depLeL_int : ∀ (k : Nat) (o : List Int), depLeL k (o.map .int) = true
  | _, [] => by unfold depLeL; rfl
  | k, x :: xs => by
    rw [List.map_cons, depLeL, depLeL_int k xs]
    cases k <;> rfl
theorem map_pI (o : List Nat) : o.map pI = (o.map fun (n : Nat) => (n : Int)).map .int := by rw [List.map_map]; rfl
theorem plainL_pI (o : List Nat) : plainL (o.map pI) = true := by rw [map_pI]; exact plainL_int _
theorem depLeL_pI (k : Nat) (o : List Nat) : depLeL k (o.map pI) = true := by rw [map_pI]; exact depLeL_int _ _
theorem depLeL_pI0 (o : List Nat) : depLeL 0 (o.map pI) = true := depLeL_pI 0 o
theorem plain_pO (o : List Nat) : plain (pO o) = true := plainL_pI o
theorem depLe_pO (k : Nat) (o : List Nat) : depLe (k + 1) (pO o) = true := by
  show depLe (k + 1) (.tup (o.map pI)) = true
  rw [depLe]; exact depLeL_pI k o
theorem plainL_map {α : Type} {e : α → PV} : ∀ {l : List α}, (∀ x ∈ l, plain (e x) = true) → plainL (l.map e) = true
  | [], _ => rfl
  | x :: xs, h => by rw [List.map_cons, plainL, h x List.mem_cons_self, plainL_map fun y hy => h y (List.mem_cons_of_mem _ hy)]; rfl
theorem depLeL_map {α : Type} {e : α → PV} {k : Nat} : ∀ {l : List α}, (∀ x ∈ l, depLe k (e x) = true) → depLeL k (l.map e) = true
  | [], _ => by unfold depLeL; rfl
  | x :: xs, h => by rw [List.map_cons, depLeL, h x List.mem_cons_self, depLeL_map fun y hy => h y (List.mem_cons_of_mem _ hy)]; rfl
theorem eqOk_of {x y : PV} (h1 : plain x = true) (h2 : plain y = true) (h3 : depLe 40 x = true) : eqOk x y = true := by
  unfold eqOk; rw [h1, h2, h3]; rfl
theorem eqOk_pI (n : Nat) (o : List Nat) : eqOk (pI n) (pO o) = true := eqOk_of rfl (plain_pO o) rfl
theorem eqOk_int (i : Int) (xs : List PV) (h : plainL xs = true) : eqOk (.int i) (.tup xs) = true := eqOk_of rfl h rfl
theorem eqOk_intl (i : Int) (xs : List PV) (h : plainL xs = true) : eqOk (.int i) (.lst xs) = true := eqOk_of rfl h rfl
theorem findIdx_pI : ∀ (o : List Nat) (n : Nat), n ∈ o → ((o.map pI).findIdx? fun x => pvEq x (pI n)) = some (o.idxOf n)
  | [], n, h => by cases h
  | x :: xs, n, h => by
    rw [List.map_cons, List.findIdx?_cons, pvEq_pI, List.idxOf_cons]
    by_cases c : x = n
    · subst c; simp
    · have hm : n ∈ xs := by
        rcases List.mem_cons.mp h with e | e
        · exact absurd e.symm c
        · exact e
      rw [findIdx_pI xs n hm]
      have : (x == n) = false := by simpa using c
      simp [c, this]
theorem ix_pO (o : List Nat) (p : Nat) (h : p ∈ o) : indexV (.tup (o.map pI)) (.int (p : Int)) = some (.int (o.idxOf p : Nat)) := by
  show (if eqOk (pI p) (pO o) then ((o.map pI).findIdx? fun x => pvEq x (pI p)).map fun (k : Nat) => PV.int k else none) = _
  rw [eqOk_pI, if_pos rfl, findIdx_pI o p h]; rfl
theorem ix_lI (o : List Nat) (p : Nat) (h : p ∈ o) : indexV (.lst (o.map pI)) (.int (p : Int)) = some (.int (o.idxOf p : Nat)) := by
  show (if eqOk (pI p) (.lst (o.map pI)) then ((o.map pI).findIdx? fun x => pvEq x (pI p)).map fun (k : Nat) => PV.int k else none) = _
  rw [eqOk_intl _ _ (plainL_pI o), if_pos rfl, findIdx_pI o p h]; rfl
theorem any_pI (o : List Nat) (p : Nat) : ((o.map pI).any fun y => pvEq y (pI p)) = decide (p ∈ o) := by
  rw [Bool.eq_iff_iff, List.any_eq_true]
  simp only [decide_eq_true_eq]
  constructor
  · rintro ⟨x, hx, h⟩
    obtain ⟨q, hq, rfl⟩ := List.mem_map.mp hx
    rw [pvEq_pI] at h
    have := of_decide_eq_true h
    exact this ▸ hq
  · intro h
    exact ⟨pI p, List.mem_map.mpr ⟨p, h, rfl⟩, by rw [pvEq_pI]; simp⟩
theorem in_pO (o : List Nat) (p : Nat) : inB (.int (p : Int)) (.tup (o.map pI)) = some (decide (p ∈ o)) := by
  show (if eqOk (pI p) (pO o) then some ((o.map pI).any fun y => pvEq y (pI p)) else none) = _
  rw [eqOk_pI, if_pos rfl, any_pI]
theorem asBools_map : ∀ (l : List Bool), asBools (l.map PV.bl) = some l
  | [] => rfl
  | x :: xs => by rw [List.map_cons, asBools, asBools_map xs]; rfl
theorem allV_map {α : Type} (l : List α) (p : α → Bool) : allV (.lst (l.map fun x => PV.bl (p x))) = some (PV.bl (l.all p)) := by
  have : (l.map fun x => PV.bl (p x)) = (l.map p).map PV.bl := by rw [List.map_map]; rfl
  show (asBools _).map _ = _
  rw [this, asBools_map]
  simp [List.all_map]
theorem asInts_map : ∀ (l : List Int), asInts (l.map .int) = some l
  | [] => rfl
  | x :: xs => by rw [List.map_cons, asInts, asInts_map xs]; rfl
theorem sum_nat : ∀ (l : List Nat), (l.map fun (n : Nat) => (n : Int)).sum = ((l.sum : Nat) : Int)
  | [] => rfl
  | x :: xs => by rw [List.map_cons, List.sum_cons, List.sum_cons, sum_nat xs]; simp
theorem sum_tp (l : List Nat) : sumV (.tup (l.map pI)) = some (pI l.sum) := by
  show (asInts (l.map pI)).map _ = _
  rw [map_pI, asInts_map, Option.map_some, sum_nat]
theorem sum_lst (l : List Nat) : sumV (.lst (l.map pI)) = some (pI l.sum) := by
  show (asInts (l.map pI)).map _ = _
  rw [map_pI, asInts_map, Option.map_some, sum_nat]
/-! equality of rows of numbers -/
theorem pvEqL_pI : ∀ (a b : List Nat), pvEqL (a.map pI) (b.map pI) = decide (a = b)
  | [], [] => rfl
  | [], _ :: _ => rfl
  | _ :: _, [] => rfl
  | x :: xs, y :: ys => by
    rw [List.map_cons, List.map_cons, pvEqL, pvEq_pI, pvEqL_pI xs ys]
    by_cases h : x = y <;> by_cases h2 : xs = ys <;> simp [h, h2]
theorem eq_pO (a b : List Nat) : eqV (.tup (a.map pI)) (.tup (b.map pI)) = some (PV.bl (decide (a = b))) := by
  show (if eqOk (pO a) (pO b) then some (PV.bl (pvEqL (a.map pI) (b.map pI))) else none) = _
  rw [eqOk_of (plain_pO a) (plain_pO b) (depLe_pO 39 a), if_pos rfl, pvEqL_pI]
theorem ne_pO (a b : List Nat) : neV (.tup (a.map pI)) (.tup (b.map pI)) = some (PV.bl (!decide (a = b))) := by
  show (if eqOk (pO a) (pO b) then some (PV.bl (!pvEqL (a.map pI) (b.map pI))) else none) = _
  rw [eqOk_of (plain_pO a) (plain_pO b) (depLe_pO 39 a), if_pos rfl, pvEqL_pI]
theorem ne_lI (a b : List Nat) : neV (.lst (a.map pI)) (.lst (b.map pI)) = some (PV.bl (!decide (a = b))) := by
  show (if eqOk (.lst (a.map pI)) (.lst (b.map pI)) then some (PV.bl (!pvEqL (a.map pI) (b.map pI))) else none) = _
  have hd : depLe 40 (.lst (a.map pI)) = true := by rw [depLe]; exact depLeL_pI 39 a
  rw [eqOk_of (x := .lst (a.map pI)) (y := .lst (b.map pI)) (plainL_pI a) (plainL_pI b) hd, if_pos rfl, pvEqL_pI]
theorem pvEqL_refl {α : Type} {e : α → PV} : ∀ {l : List α}, (∀ x ∈ l, pvEq (e x) (e x) = true) → pvEqL (l.map e) (l.map e) = true
  | [], _ => rfl
  | x :: xs, h => by rw [List.map_cons, pvEqL, h x List.mem_cons_self, pvEqL_refl fun y hy => h y (List.mem_cons_of_mem _ hy)]; rfl
theorem ne_int (a b : Int) : neV (.int a) (.int b) = some (PV.bl (!decide (a = b))) := by
  show (if eqOk (.int a) (.int b) then some (PV.bl (!pvEq (.int a) (.int b))) else none) = _
  rw [eqOk_of rfl rfl rfl, if_pos rfl, pvEq_int]
theorem eq_int (a b : Int) : eqV (.int a) (.int b) = some (PV.bl (decide (a = b))) := by
  show (if eqOk (.int a) (.int b) then some (PV.bl (pvEq (.int a) (.int b))) else none) = _
  rw [eqOk_of rfl rfl rfl, if_pos rfl, pvEq_int]
/-! least and greatest -/
theorem pvLt_int (a b : Int) : pvLt (.int a) (.int b) = decide (a < b) := PySem.W.dataLt_int a b
theorem alikeAll_int (l : List Int) : alikeAll (l.map .int) = true := by
  unfold alikeAll
  rw [List.all_eq_true]
  intro x hx
  rw [List.all_eq_true]
  intro y hy
  obtain ⟨a, _, rfl⟩ := List.mem_map.mp hx
  obtain ⟨b, _, rfl⟩ := List.mem_map.mp hy
  rfl
theorem ordOk_int (l : List Int) : ordOk (l.map .int) = true := by
  unfold ordOk
  rw [plainL_int, depLeL_int, alikeAll_int, Bool.true_and, Bool.true_and, Bool.true_and, List.all_eq_true]
  intro x hx
  obtain ⟨a, _, rfl⟩ := List.mem_map.mp hx
  rfl
def maxFrom : Nat → List Nat → Nat
  | a, [] => a
  | a, x :: xs => maxFrom (if a < x then x else a) xs
def minFrom : Nat → List Nat → Nat
  | a, [] => a
  | a, x :: xs => minFrom (if x < a then x else a) xs
theorem pvMaxFrom_pI : ∀ (l : List Nat) (a : Nat), pvMaxFrom (pI a) (l.map pI) = pI (maxFrom a l)
  | [], a => rfl
  | x :: xs, a => by
    rw [List.map_cons, pvMaxFrom, maxFrom, pvLt_int]
    by_cases h : a < x
    · have h2 : (a : Int) < (x : Int) := by omega
      simp only [h, h2, decide_true, if_true]
      exact pvMaxFrom_pI xs x
    · have h2 : ¬ (a : Int) < (x : Int) := by omega
      simp only [h, h2, decide_false, if_false, Bool.false_eq_true]
      exact pvMaxFrom_pI xs a
theorem pvMinFrom_pI : ∀ (l : List Nat) (a : Nat), pvMinFrom (pI a) (l.map pI) = pI (minFrom a l)
  | [], a => rfl
  | x :: xs, a => by
    rw [List.map_cons, pvMinFrom, minFrom, pvLt_int]
    by_cases h : x < a
    · have h2 : (x : Int) < (a : Int) := by omega
      simp only [h, h2, decide_true, if_true]
      exact pvMinFrom_pI xs x
    · have h2 : ¬ (x : Int) < (a : Int) := by omega
      simp only [h, h2, decide_false, if_false, Bool.false_eq_true]
      exact pvMinFrom_pI xs a
theorem ordOk_pI (l : List Nat) : ordOk (l.map pI) = true := by rw [map_pI]; exact ordOk_int _
theorem max_tup0 (l : List Nat) : maxV (.tup (.int 0 :: l.map pI)) = some (pI (maxFrom 0 l)) := by
  show (if ordOk ((0 :: l).map pI) then some (pvMaxFrom (pI 0) (l.map pI)) else none) = _
  rw [ordOk_pI, if_pos rfl, pvMaxFrom_pI]
theorem max_lst0 (l : List Nat) : maxV (.lst (.int 0 :: l.map pI)) = some (pI (maxFrom 0 l)) := max_tup0 l
theorem min_lst (x : Nat) (l : List Nat) : minV (.lst ((x :: l).map pI)) = some (pI (minFrom x l)) := by
  show (if ordOk ((x :: l).map pI) then some (pvMinFrom (pI x) (l.map pI)) else none) = _
  rw [ordOk_pI, if_pos rfl, pvMinFrom_pI]
theorem minFrom_le : ∀ (l : List Nat) (a : Nat), minFrom a l ≤ a ∧ (∀ x ∈ l, minFrom a l ≤ x) ∧ (minFrom a l = a ∨ minFrom a l ∈ l)
  | [], a => ⟨Nat.le_refl _, fun x hx => (by cases hx), .inl rfl⟩
  | x :: xs, a => by
    rw [minFrom]
    obtain ⟨h1, h2, h3⟩ := minFrom_le xs (if x < a then x else a)
    by_cases h : x < a
    · simp only [h, if_true] at h1 h2 h3 ⊢
      refine ⟨by omega, fun y hy => ?_, ?_⟩
      · rcases List.mem_cons.mp hy with e | e
        · rw [e]; exact h1
        · exact h2 y e
      · rcases h3 with e | e
        · exact .inr (by rw [e]; exact List.mem_cons_self)
        · exact .inr (List.mem_cons_of_mem _ e)
    · simp only [h, if_false] at h1 h2 h3 ⊢
      refine ⟨h1, fun y hy => ?_, ?_⟩
      · rcases List.mem_cons.mp hy with e | e
        · rw [e]; omega
        · exact h2 y e
      · rcases h3 with e | e
        · exact .inl e
        · exact .inr (List.mem_cons_of_mem _ e)
theorem le_maxFrom : ∀ (l : List Nat) (a : Nat), a ≤ maxFrom a l ∧ (∀ x ∈ l, x ≤ maxFrom a l) ∧ (maxFrom a l = a ∨ maxFrom a l ∈ l)
  | [], a => ⟨Nat.le_refl _, fun x hx => (by cases hx), .inl rfl⟩
  | x :: xs, a => by
    rw [maxFrom]
    obtain ⟨h1, h2, h3⟩ := le_maxFrom xs (if a < x then x else a)
    by_cases h : a < x
    · simp only [h, if_true] at h1 h2 h3 ⊢
      refine ⟨by omega, fun y hy => ?_, ?_⟩
      · rcases List.mem_cons.mp hy with e | e
        · rw [e]; exact h1
        · exact h2 y e
      · rcases h3 with e | e
        · exact .inr (by rw [e]; exact List.mem_cons_self)
        · exact .inr (List.mem_cons_of_mem _ e)
    · simp only [h, if_false] at h1 h2 h3 ⊢
      refine ⟨h1, fun y hy => ?_, ?_⟩
      · rcases List.mem_cons.mp hy with e | e
        · rw [e]; omega
        · exact h2 y e
      · rcases h3 with e | e
        · exact .inl e
        · exact .inr (List.mem_cons_of_mem _ e)
/-! least of pairs: a number, an order -/
abbrev pP (M : List Nat → Nat) (o : List Nat) : PV := .tup [pI (M o), pO o]
theorem toDL_pI : ∀ (o : List Nat), toDL (o.map pI) = o.map fun (n : Nat) => PySem.PyData.int n
  | [] => rfl
  | x :: xs => by rw [List.map_cons, toDL, toDL_pI xs]; rfl
theorem alike_ints : ∀ (a b : List Nat), PySem.W.alikeAll (a.map fun (n : Nat) => PySem.PyData.int n) (b.map fun (n : Nat) => PySem.PyData.int n) = true
  | [], _ => by unfold PySem.W.alikeAll; rfl
  | x :: xs, [] => by unfold PySem.W.alikeAll; rfl
  | x :: xs, y :: ys => by
    rw [List.map_cons, List.map_cons, PySem.W.alikeAll, alike_ints xs ys]
    unfold PySem.W.alike
    rfl
theorem toD_pP (a : Nat) (o : List Nat) : toD (.tup [pI a, pO o]) = .tuple [.int a, .tuple (o.map fun (n : Nat) => PySem.PyData.int n)] := by
  show PySem.PyData.tuple (toDL [pI a, .tup (o.map pI)]) = _
  rw [toDL, toDL, toDL]
  show PySem.PyData.tuple [.int a, .tuple (toDL (o.map pI))] = _
  rw [toDL_pI]
theorem alikeP_pP (a b : Nat) (o p : List Nat) : alikeP (.tup [pI a, pO o]) (.tup [pI b, pO p]) = true := by
  unfold alikeP
  rw [toD_pP, toD_pP, PySem.W.alike, PySem.W.alikeAll, PySem.W.alikeAll, PySem.W.alikeAll, PySem.W.alike, PySem.W.alike, alike_ints]
  rfl
theorem pvLt_pP {a b : Nat} (h : a ≠ b) (o p : List Nat) : pvLt (.tup [pI a, pO o]) (.tup [pI b, pO p]) = decide (a < b) := by
  unfold pvLt
  rw [toD_pP, toD_pP, PySem.W.dataLt_tuple, PySem.W.dataLt_all_no, PySem.W.dataLt_int]
  · by_cases c : a < b
    · have : (a : Int) < (b : Int) := by omega
      simp [c, this]
    · have : ¬ (a : Int) < (b : Int) := by omega
      simp [c, this]
  · rw [PySem.W.alike]
  · have : ¬ (a : Int) = (b : Int) := by omega
    simp [PySem.PyData.eqv, this]
theorem plain_pP (a : Nat) (o : List Nat) : plain (.tup [pI a, pO o]) = true := by
  show plainL [pI a, pO o] = true
  rw [plainL, plainL, plain_pO]; rfl
theorem depLe_pP (k a : Nat) (o : List Nat) : depLe (k + 2) (.tup [pI a, pO o]) = true := by
  rw [depLe, depLeL, depLeL, depLe_pO]; rfl
theorem ordOk_pP (M : List Nat → Nat) (os : List (List Nat)) : ordOk (os.map (pP M)) = true := by
  unfold ordOk
  rw [plainL_map fun x _ => plain_pP _ _, depLeL_map fun x _ => depLe_pP 28 _ _]
  have : alikeAll (os.map (pP M)) = true := by
    unfold alikeAll
    rw [List.all_eq_true]
    intro x hx
    rw [List.all_eq_true]
    intro y hy
    obtain ⟨a, _, rfl⟩ := List.mem_map.mp hx
    obtain ⟨b, _, rfl⟩ := List.mem_map.mp hy
    exact alikeP_pP _ _ _ _
  rw [this, Bool.true_and, Bool.true_and, Bool.true_and, List.all_eq_true]
  intro x hx
  obtain ⟨a, _, rfl⟩ := List.mem_map.mp hx
  rfl
theorem pvMinFrom_pP (M : List Nat → Nat) : ∀ (os : List (List Nat)) (o : List Nat), ∃ o1 ∈ o :: os, pvMinFrom (pP M o) (os.map (pP M)) = pP M o1 ∧ ∀ p ∈ o :: os, M o1 ≤ M p
  | [], o => ⟨o, List.mem_cons_self, rfl, fun p hp => by
    rcases List.mem_cons.mp hp with e | e
    · rw [e]; exact Nat.le_refl _
    · cases e⟩
  | x :: xs, o => by
    rw [List.map_cons, pvMinFrom]
    by_cases h : pvLt (pP M x) (pP M o) = true
    · rw [if_pos h]
      obtain ⟨o1, h1, h2, h3⟩ := pvMinFrom_pP M xs x
      refine ⟨o1, List.mem_cons_of_mem _ h1, h2, fun p hp => ?_⟩
      rcases List.mem_cons.mp hp with e | e
      · rw [e]
        have hx := h3 x List.mem_cons_self
        by_cases c : M x = M o
        · omega
        · rw [pvLt_pP c] at h
          have := of_decide_eq_true h
          omega
      · exact h3 p e
    · rw [if_neg h]
      obtain ⟨o1, h1, h2, h3⟩ := pvMinFrom_pP M xs o
      have ho := h3 o List.mem_cons_self
      refine ⟨o1, ?_, h2, fun p hp => ?_⟩
      · rcases List.mem_cons.mp h1 with e | e
        · rw [e]; exact List.mem_cons_self
        · exact List.mem_cons_of_mem _ (List.mem_cons_of_mem _ e)
      · rcases List.mem_cons.mp hp with e | e
        · rw [e]; exact ho
        · rcases List.mem_cons.mp e with e | e
          · rw [e]
            by_cases c : M x = M o
            · omega
            · rw [pvLt_pP c] at h
              have : ¬ M x < M o := fun z => h (decide_eq_true z)
              omega
          · exact h3 p (List.mem_cons_of_mem _ e)
theorem min_pP (M : List Nat → Nat) {os : List (List Nat)} (hne : os ≠ []) : ∃ o1 ∈ os, minV (.lst (os.map (pP M))) = some (pP M o1) ∧ ∀ p ∈ os, M o1 ≤ M p := by
  cases os with
  | nil => exact absurd rfl hne
  | cons o os =>
    obtain ⟨o1, h1, h2, h3⟩ := pvMinFrom_pP M os o
    refine ⟨o1, h1, ?_, h3⟩
    show (if ordOk ((o :: os).map (pP M)) then some (pvMinFrom (pP M o) (os.map (pP M))) else none) = _
    rw [ordOk_pP, if_pos rfl, h2]
/-! dicts: a row's places, each with where it stands -/
def kvL : Nat → List Nat → List (PV × PV)
  | _, [] => []
  | k, x :: xs => (pI x, pI k) :: kvL (k + 1) xs
theorem kvL_keys {k x : Nat} : ∀ {o : List Nat}, x ∉ o → ((kvL k o).any fun p => pvEq p.1 (pI x)) = false
  | [], _ => rfl
  | y :: ys, h => by
    rw [kvL, List.any_cons, kvL_keys fun z => h (List.mem_cons_of_mem _ z), pvEq_pI]
    have : y ≠ x := fun e => h (e ▸ List.mem_cons_self)
    simp [this]
theorem kvL_snoc : ∀ (o : List Nat) (k x : Nat), kvL k (o ++ [x]) = kvL k o ++ [(pI x, pI (k + o.length))]
  | [], k, x => rfl
  | y :: ys, k, x => by
    rw [List.cons_append, kvL, kvL_snoc ys (k + 1) x, kvL, List.cons_append, List.length_cons]
    have : k + 1 + ys.length = k + (ys.length + 1) := by omega
    rw [this]
def tupL : Nat → List Nat → List PV
  | _, [] => []
  | k, x :: xs => .tup [pI x, pI k] :: tupL (k + 1) xs
theorem dctOf_tupL : ∀ (o acc : List Nat), (acc ++ o).Nodup → dctOf (tupL acc.length o) (kvL 0 acc) = some (kvL 0 (acc ++ o))
  | [], acc, _ => by rw [tupL, dctOf, List.append_nil]
  | x :: xs, acc, h => by
    have hx : x ∉ acc := by
      have := (List.nodup_append.mp h).2.2
      exact fun z => this x z x List.mem_cons_self rfl
    have e : acc ++ x :: xs = (acc ++ [x]) ++ xs := by simp
    have := dctOf_tupL xs (acc ++ [x]) (e ▸ h)
    rw [kvL_snoc, List.length_append] at this
    rw [tupL, e, ← this]
    show dctOf (tupL (acc.length + 1) xs) (dctPut (pI x) (pI acc.length) (kvL 0 acc)) = _
    have : dctPut (pI x) (pI acc.length) (kvL 0 acc) = kvL 0 acc ++ [(pI x, pI (0 + acc.length))] := by
      unfold dctPut
      rw [kvL_keys hx, Nat.zero_add]; rfl
    rw [this]; rfl
theorem dctGet_kvL : ∀ (o : List Nat) (k a : Nat), a ∈ o → dctGet (pI a) (kvL k o) = some (pI (k + o.idxOf a))
  | [], _, _, h => by cases h
  | x :: xs, k, a, h => by
    rw [kvL, dctGet, pvEq_pI, List.idxOf_cons]
    by_cases c : x = a
    · subst c; simp
    · have hm : a ∈ xs := by
        rcases List.mem_cons.mp h with e | e
        · exact absurd e.symm c
        · exact e
      have hb : (x == a) = false := by simpa using c
      rw [dctGet_kvL xs (k + 1) a hm, hb]
      simp [c]
      omega
theorem tupL_range : ∀ (o : List Nat) (k : Nat), tupL k o = (List.range' k o.length).map fun i => .tup [pI (o.getD (i - k) 0), pI i]
  | [], k => rfl
  | x :: xs, k => by
    rw [tupL, List.length_cons, List.range'_succ, List.map_cons, tupL_range xs (k + 1)]
    have : k - k = 0 := by omega
    rw [this]
    refine congrArg _ ?_
    apply List.map_congr_left
    intro i hi
    have : k + 1 ≤ i := (List.mem_range'_1.mp hi).1
    have e : i - k = (i - (k + 1)) + 1 := by omega
    rw [e]; rfl
theorem dict_row (o : List Nat) (h : o.Nodup) : dictV (.lst ((List.range o.length).map fun i => .tup [pI (o.getD i 0), pI i])) = some (.dct (kvL 0 o)) := by
  have e := tupL_range o 0
  rw [← List.range_eq_range'] at e
  have e2 : (tupL 0 o) = (List.range o.length).map fun i => .tup [pI (o.getD i 0), pI i] := e
  rw [← e2]
  show (dctOf (tupL 0 o) []).map PV.dct = _
  have := dctOf_tupL o [] (by simpa using h)
  rw [List.nil_append] at this
  rw [show (tupL 0 o) = tupL ([] : List Nat).length o from rfl, show ([] : List (PV × PV)) = kvL 0 [] from rfl, this]; rfl
theorem idx_dct (o : List Nat) (a : Nat) (h : a ∈ o) : idxV (.dct (kvL 0 o)) (.int (a : Int)) = some (.int (o.idxOf a : Nat)) := by
  show (if isKey 0 (pI a) then dctGet (pI a) (kvL 0 o) else none) = _
  rw [dctGet_kvL o 0 a h, Nat.zero_add]; rfl
end Nr
end

section
set_option Elab.async false
set_option linter.all false
set_option maxRecDepth 100000
set_option maxHeartbeats 800000
/-! N3: the draws' row. -/
namespace Nr
def putU (x : RV) (v : PV) (s : St) (o k : PV) : R Unit := match o, k with
  | .lst xs, .int i => (ofOpt (ixOf xs.length i) s).bind fun j _ => setCell x (.lst (xs.set j v)) s
  | .dct kvs, k => if isKey 0 k && sizeOk (kvs.length + 1) then setCell x (.dct (dctPut k v kvs)) s else .bad
  | _, _ => .bad
@[simp] theorem putSub_eq (x y : RV) (v : PV) (s : St) : putSub x y v s = (ofOpt (view s x) s).bind fun o _ => (ofOpt (view s y) s).bind fun k _ => putU x v s o k := id rfl
@[simp] theorem putU_lst (x : RV) (v : PV) (s : St) (xs : List PV) (i : Int) : putU x v s (.lst xs) (.int i) = (ofOpt (ixOf xs.length i) s).bind fun j _ => setCell x (.lst (xs.set j v)) s := id rfl
def putA (T : Tab) (x : RV) (f : Nat) (v : PV) (s : St) (o : PV) : R Fl := match o with
  | .obj c fs => if T.fld c f && decide (fs.length < 900) then (setCell x (.obj c (fldPut f v fs)) s).bind fun _ s1 => .ok .nx s1 else .bad
  | _ => .bad
@[simp] theorem putAttr_eq (T : Tab) (x : RV) (f : Nat) (v : PV) (s : St) : putAttr T x f v s = (ofOpt (view s x) s).bind fun o _ => putA T x f v s o := id rfl
@[simp] theorem putA_obj (T : Tab) (x : RV) (f : Nat) (v : PV) (s : St) (c : Nat) (fs : List (Nat × PV)) : putA T x f v s (.obj c fs) = if T.fld c f && decide (fs.length < 900) then (setCell x (.obj c (fldPut f v fs)) s).bind fun _ s1 => .ok .nx s1 else .bad := id rfl
@[simp] theorem free_t (env : List Slot) (cells : List PV) (i : Nat) : St.free ⟨env, cells, true⟩ i = !(i == 0) := id rfl
@[simp] theorem compVar_t (i : Nat) (env : List Slot) (cells : List PV) : compVar ⟨env, cells, true⟩ i = (!(i == 0) && isOwn (env.getD i .non)) := id rfl
theorem i4_0 (a b c d : PV) : idxV (.lst [a, b, c, d]) (.int 0) = some a := rfl
theorem i4_1 (a b c d : PV) : idxV (.lst [a, b, c, d]) (.int 1) = some b := rfl
theorem i4_2 (a b c d : PV) : idxV (.lst [a, b, c, d]) (.int 2) = some c := rfl
theorem i4_3 (a b c d : PV) : idxV (.lst [a, b, c, d]) (.int 3) = some d := rfl
theorem x4_1 : ixOf 4 1 = some 1 := rfl
theorem x4_2 : ixOf 4 2 = some 2 := rfl
theorem x4_3 : ixOf 4 3 = some 3 := rfl
theorem mul48 (x : Int) : mulV (.int x) (.int 48271) = some (.int (x * 48271)) := by
  rw [op_mul]
  have : inside64 48271 = true := by decide
  rw [this, Bool.or_true]; rfl
theorem pow18 : bop .pow (.int 10) (.int 18) = some (.int 1000000000000000000) := by rfl
theorem md (x k : Int) (h : 0 < k) : bop .mod (.int x) (.int k) = some (.int (x % k)) := by rw [op_mod, decide_eq_true h]; rfl
theorem dv (x k : Int) (h : 0 < k) (h2 : k < 1000) : bop .fdiv (.int x) (.int k) = some (.int (x / k)) := by rw [op_fdiv, decide_eq_true h, decide_eq_true (show k < 1073741824 by omega)]; rfl
/-- the row of draws -/
abbrev pR (ns : List Int) (i x y : Int) : PV := .lst [.scr ns, .int i, .int x, .int y]
theorem mod_nat (x : Int) (k : Nat) (h : 0 < k) : ∃ r : Nat, r < k ∧ x % (k : Int) = (r : Int) := by
  have h1 := Int.emod_nonneg x (show (k : Int) ≠ 0 by omega)
  have h2 := Int.emod_lt_of_pos x (show (0 : Int) < (k : Int) by omega)
  exact ⟨(x % (k : Int)).toNat, by omega, by omega⟩
theorem idx_scr (ns : List Int) (i : Int) (h : 0 ≤ i) (h2 : ¬ (ns.length : Int) < i + 1) : ∃ c, idxV (.scr ns) (.int (i + 1 - 1)) = some (.int c) := by
  have e : i + 1 - 1 = (i.toNat : Int) := by omega
  have hl : i.toNat < ns.length := by omega
  refine ⟨ns[i.toNat], ?_⟩
  rw [e]
  show (((ixOf ns.length (i.toNat : Int)).bind fun k => ns[k]?).map .int : Option PV) = _
  rw [ixOf_nat _ _ hl]
  show ((ns[i.toNat]?).map PV.int : Option PV) = _
  rw [List.getElem?_eq_getElem hl]; rfl
/-- the text of _law_taken -/
def takenB : CS := (.seq (.ite (.bin .gt (.bin .idx (.var 0) (.cst (.int 3))) (.cst (.int 0))) (.seq (.asg (.var 2) (.bin .mod (.una .int_ (.bin .idx (.var 0) (.cst (.int 3)))) (.var 1)))
    (.seq (.setsub (.var 0) (.cst (.int 3)) (.bin .fdiv (.bin .idx (.var 0) (.cst (.int 3))) (.var 1)))
    (.ret (.var 2)))) .skip)
    (.seq (.setsub (.var 0) (.cst (.int 1)) (.bin .add (.bin .idx (.var 0) (.cst (.int 1))) (.cst (.int 1))))
    (.seq (.ite (.bin .gt (.bin .idx (.var 0) (.cst (.int 1))) (.una .len (.bin .idx (.var 0) (.cst (.int 0))))) (.seq (.setsub (.var 0) (.cst (.int 2)) (.bin .mod (.una .int_ (.bin .add (.bin .mul (.bin .idx (.var 0) (.cst (.int 2))) (.cst (.int 48271))) (.cst (.int 11)))) (.cst (.int 2147483647))))
    (.ret (.bin .mod (.una .int_ (.bin .fdiv (.bin .idx (.var 0) (.cst (.int 2))) (.cst (.int 7)))) (.var 1)))) .skip)
    (.seq (.asg (.var 3) (.bin .idx (.bin .idx (.var 0) (.cst (.int 0))) (.bin .sub (.bin .idx (.var 0) (.cst (.int 1))) (.cst (.int 1)))))
    (.seq (.setsub (.var 0) (.cst (.int 2)) (.bin .mod (.una .int_ (.bin .add (.bin .add (.bin .mul (.bin .idx (.var 0) (.cst (.int 2))) (.cst (.int 48271))) (.var 3)) (.cst (.int 11)))) (.cst (.int 2147483647))))
    (.seq (.ite (.bin .ge (.var 3) (.bin .pow (.cst (.int 10)) (.cst (.int 18)))) (.setsub (.var 0) (.cst (.int 3)) (.bin .fdiv (.var 3) (.var 1))) .skip)
    (.ret (.bin .mod (.una .int_ (.var 3)) (.var 1)))))))))
theorem taken (T : Tab) (cf : CallF) (k : Nat) (hk : 0 < k) (hk2 : k < 1000) (ns : List Int) (i x y : Int) (hi : 0 ≤ i) : ∃ (r : Nat) (i' x' y' : Int), r < k ∧ 0 ≤ i' ∧ endF (execS T cf takenB ⟨[.val (.loc 0), .val (pI k), .non, .non], [pR ns i x y], false⟩) = .ok (.val (pI r)) [pR ns i' x' y'] := by
  have hk' : (0 : Int) < (k : Int) := by omega
  have hk2' : (k : Int) < 1000 := by omega
  by_cases hy : 0 < y
  · obtain ⟨r, hr, er⟩ := mod_nat y k hk
    refine ⟨r, i, x, y / k, hr, hi, ?_⟩
    simp [takenB, i4_3, hy, md _ _ hk', dv _ _ hk' hk2', x4_3, er, -op_mod, -op_fdiv]
  · by_cases hl : (ns.length : Int) < i + 1
    · obtain ⟨r, hr, er⟩ := mod_nat ((x * 48271 + 11) % 2147483647 / 7) k hk
      refine ⟨r, i + 1, (x * 48271 + 11) % 2147483647, y, hr, by omega, ?_⟩
      simp [takenB, i4_0, i4_1, i4_2, i4_3, hy, md _ _ hk', md _ 2147483647 (by decide), dv _ 7 (by decide) (by decide), x4_1, x4_2, x4_3, er, mul48, hl, -op_mod, -op_fdiv, -op_mul]
    · obtain ⟨c, hc⟩ := idx_scr ns i hi hl
      obtain ⟨r, hr, er⟩ := mod_nat c k hk
      by_cases hb : (1000000000000000000 : Int) ≤ c
      · refine ⟨r, i + 1, (x * 48271 + c + 11) % 2147483647, c / k, hr, by omega, ?_⟩
        simp only [Int.add_sub_cancel] at hc
        simp [takenB, i4_0, i4_1, i4_2, i4_3, hy, md _ _ hk', md _ 2147483647 (by decide), dv _ _ hk' hk2', x4_1, x4_2, x4_3, er, mul48, hl, hc, hb, pow18, -op_mod, -op_fdiv, -op_mul]
      · refine ⟨r, i + 1, (x * 48271 + c + 11) % 2147483647, y, hr, by omega, ?_⟩
        simp only [Int.add_sub_cancel] at hc
        simp [takenB, i4_0, i4_1, i4_2, i4_3, hy, md _ _ hk', md _ 2147483647 (by decide), dv _ _ hk' hk2', x4_1, x4_2, x4_3, er, mul48, hl, hc, hb, pow18, -op_mod, -op_fdiv, -op_mul]
end Nr
end

section
set_option Elab.async false
set_option linter.all false
set_option maxRecDepth 100000
set_option maxHeartbeats 4000000
/-! P18: orders of few places around a ring, in plain Lean. -/
namespace Q
/-- all orders, as the laws list them -/
def ordStep (n : Nat) (rows : List (List Nat)) : List (List Nat) := rows.flatMap fun r => ((List.range n).filter fun p => !r.contains p).map fun p => r ++ [p]
def ordIter (n : Nat) : Nat → List (List Nat)
  | 0 => [[]]
  | k + 1 => ordStep n (ordIter n k)
def ords (n : Nat) : List (List Nat) := ordIter n n
def pairs (n : Nat) : List (Nat × Nat) := (List.range n).flatMap fun a => ((List.range n).filter fun b => a < b).map fun b => (a, b)
/-- how far the places of a tie stand apart -/
def far (o : List Nat) (t : Nat × Nat) : Nat := (o.idxOf t.1 - o.idxOf t.2) + (o.idxOf t.2 - o.idxOf t.1)
def ring (n : Nat) (o : List Nat) (t : Nat × Nat) : Nat := if n - far o t < far o t then n - far o t else far o t
def rot (o : List Nat) (k : Nat) : List Nat := o.drop (k % o.length) ++ o.take (k % o.length)
def fold : Nat → List Nat → List Nat
  | 0, _ => []
  | _, [] => []
  | k + 1, x :: r => x :: fold k r.reverse
def foldO (o : List Nat) : List Nat := fold o.length o
def maxL (l : List Nat) : Nat := l.foldl (fun a x => if a < x then x else a) 0
def few : List Nat := [1, 2, 3, 4, 5]
/-- what is asked of one order -/
def ok1 (n : Nat) (o : List Nat) : Bool :=
  (ords n).contains (foldO o) && (ords n).contains o.reverse && (pairs n).all (fun t => far (foldO o) t ≤ 2 * ring n o t && ring n o.reverse t == ring n o t && far o t < n && o.contains t.1 && o.contains t.2) &&
  (List.range (n + 2)).all (fun k => (ords n).contains (rot o k) && (pairs n).all fun t => ring n (rot o k) t == ring n o t) && o.length == n && (List.range n).all (fun p => o.contains p && (o.getD p 0 < n))
def okAll : Bool := few.all fun n => (ords n).all fun o => ok1 n o
theorem okAll_true : okAll = true := by decide +kernel
end Q
end

section
set_option Elab.async false
set_option linter.all false
set_option maxRecDepth 100000
set_option maxHeartbeats 800000
/-! N4: drawn webs and orders. -/
namespace Nr
open Q
theorem L24 {T : Tab} {fd : FD} {f24 : Nat} (hT : T.fns f24 = some fd) (hfd : fd = ⟨2, 4, takenB⟩) {M : Nat} (h : 1 ≤ M) (k : Nat) (hk : 0 < k) (hk2 : k < 1000) (ns : List Int) (i x y : Int) (hi : 0 ≤ i) : ∃ (r : Nat) (i' x' y' : Int), r < k ∧ 0 ≤ i' ∧ (callD T M).fn f24 [.loc 0, pI k] [pR ns i x y] = .ok (.val (pI r)) [pR ns i' x' y'] := by
  obtain ⟨m, rfl⟩ : ∃ m, M = m + 1 := ⟨M - 1, by omega⟩
  subst hfd
  rw [fn_eq hT rfl]
  exact taken T (callD T m) k hk hk2 ns i x y hi
/-- less, first by the first place -/
def lexLt (a b : Nat × Nat) : Prop := a.1 < b.1 ∨ (a.1 = b.1 ∧ a.2 < b.2)
/-- ties drawn up to a pair of places -/
structure GoodT (n k j : Nat) (ts : List (Nat × Nat)) : Prop where
  lt : ∀ t ∈ ts, t.1 < t.2 ∧ t.2 < n ∧ (t.1 < k ∨ (t.1 = k ∧ t.2 < j))
  pw : ts.Pairwise lexLt
  len : ts.length ≤ 10 * k + j
theorem GoodT.add {n k j : Nat} {ts : List (Nat × Nat)} (h : GoodT n k j ts) (hkj : k < j) (hj : j < n) : GoodT n k (j + 1) (ts ++ [(k, j)]) := by
  refine ⟨fun t ht => ?_, ?_, ?_⟩
  · rcases List.mem_append.mp ht with e | e
    · have := h.lt t e
      omega
    · rw [List.mem_singleton.mp e]
      exact ⟨hkj, hj, .inr ⟨rfl, Nat.lt_succ_self j⟩⟩
  · rw [List.pairwise_append]
    refine ⟨h.pw, List.pairwise_singleton _ _, fun a ha b hb => ?_⟩
    rw [List.mem_singleton.mp hb]
    have := (h.lt a ha).2.2
    rcases this with e | e
    · exact .inl e
    · exact .inr e
  · have := h.len
    rw [List.length_append]; simp; omega
theorem GoodT.skip {n k j j' : Nat} {ts : List (Nat × Nat)} (h : GoodT n k j ts) (hj : j ≤ j') : GoodT n k j' ts := by
  refine ⟨fun t ht => ?_, h.pw, by have := h.len; omega⟩
  have := h.lt t ht
  omega
theorem GoodT.up {n k : Nat} {ts : List (Nat × Nat)} (h : GoodT n k n ts) (hn : n ≤ 10) : GoodT n (k + 1) 0 ts := by
  refine ⟨fun t ht => ?_, h.pw, by have := h.len; omega⟩
  have := h.lt t ht
  omega
theorem forR_rng {f : PV → St → R Fl} {I : Nat → St → Prop} {a n : Nat} {s : St} (h : ∀ k s, a ≤ k → k < a + n → I k s → ∃ s', f (pI k) s = .ok .nx s' ∧ I (k + 1) s') (h0 : I a s) : ∃ s', forR f ((List.range' a n).map pI) s = .ok .nx s' ∧ I (a + n) s' := by
  have := forR_ix (f := f) (e := pI) (xs := List.range' a n) (I := fun i s => I (a + i) s) (s := s) (fun i hi s hs => by
    rw [List.length_range'] at hi
    rw [List.getElem_range']
    have := h (a + i) s (by omega) (by omega) hs
    rw [Nat.one_mul]
    exact this) h0
  rwa [List.length_range'] at this
/-- the text of _law_web, f: which def draws -/
def webB (f : Nat) : CS := (.seq (.asg (.var 2) (.bin .add (.cst (.int 1)) (.call f (.cons (.var 0) (.cons (.var 1) .nil)))))
    (.seq (.par (.cons (.var 3) (.cons (.var 4) .nil)) (.cons (.bin .add (.cst (.int 1)) (.call f (.cons (.var 0) (.cons (.cst (.int 4)) .nil)))) (.cons (.lst .nil) .nil)))
    (.seq (.for_ true (.var 5) .rng1 (.cons (.var 2) .nil) (.for_ false (.var 6) .rng2 (.cons (.bin .add (.var 5) (.cst (.int 1))) (.cons (.var 2) .nil)) (.ite (.bin .lt (.call f (.cons (.var 0) (.cons (.cst (.int 5)) .nil))) (.var 3)) (.append (.var 4) (.tup (.cons (.var 5) (.cons (.var 6) .nil)))) .skip)))
    (.ret (.tup (.cons (.var 2) (.cons (.una .tuple_ (.var 4)) .nil)))))))
theorem web (T : Tab) (cf : CallF) (f most : Nat) (ns : List Int) (hm : 0 < most) (hm2 : most ≤ 10) (hd : ∀ (k : Nat) (i x y : Int), 0 < k → k < 1000 → 0 ≤ i → ∃ (r : Nat) (i' x' y' : Int), r < k ∧ 0 ≤ i' ∧ cf.fn f [.loc 0, pI k] [pR ns i x y] = .ok (.val (pI r)) [pR ns i' x' y']) (i x y : Int) (hi : 0 ≤ i) :
    ∃ (n : Nat) (ts : List (Nat × Nat)) (i' x' y' : Int), 0 < n ∧ n ≤ most ∧ GoodT n n 0 ts ∧ 0 ≤ i' ∧ endF (execS T cf (webB f) ⟨[.val (.loc 0), .val (pI most), .non, .non, .non, .non, .non], [pR ns i x y], false⟩) = .ok (.val (.tup [pI n, pTs ts])) [pR ns i' x' y'] := by
  obtain ⟨r1, i1, x1, y1, hr1, hi1, e1⟩ := hd most i x y hm (by omega) hi
  obtain ⟨r2, i2, x2, y2, hr2, hi2, e2⟩ := hd 4 i1 x1 y1 (by decide) (by decide) hi1
  have hn : ((1 : Int) + (r1 : Int)) = ((1 + r1 : Nat) : Int) := by omega
  have hh : ((1 : Int) + (r2 : Int)) = ((1 + r2 : Nat) : Int) := by omega
  have e2' : cf.fn f [.loc 0, .int 4] [pR ns i1 x1 y1] = .ok (.val (pI r2)) [pR ns i2 x2 y2] := e2
  generalize hN : 1 + r1 = n at *
  generalize hH : 1 + r2 = heavy at *
  have hr := it_rng1 n (by omega)
  rw [List.range_eq_range'] at hr
  have loop := forR_rng (f := bodyF T cf (.var 5) (.for_ false (.var 6) .rng2 (.cons (.bin .add (.var 5) (.cst (.int 1))) (.cons (.var 2) .nil)) (.ite (.bin .lt (.call f (.cons (.var 0) (.cons (.cst (.int 5)) .nil))) (.var 3)) (.append (.var 4) (.tup (.cons (.var 5) (.cons (.var 6) .nil)))) .skip)))
    (a := 0) (n := n) (I := fun k s => ∃ ts u v i x y, GoodT n k 0 ts ∧ 0 ≤ i ∧ s = ⟨[.val (.loc 0), .val (pI most), .val (pI n), .val (pI heavy), .own (.lst (ts.map pT)), u, v], [pR ns i x y], false⟩) (s := ⟨[.val (.loc 0), .val (pI most), .val (pI n), .val (pI heavy), .own (.lst []), .non, .non], [pR ns i2 x2 y2], false⟩)
    (fun k s hk0 hk hI => by
      obtain ⟨ts, u, v, i, x, y, hg, hi, rfl⟩ := hI
      have hr2 := it_rng2 (k + 1) n (by omega) (by omega)
      have ec : ((k : Int) + 1) = ((k + 1 : Nat) : Int) := by omega
      have hb : ∀ s, s = (⟨[.val (.loc 0), .val (pI most), .val (pI n), .val (pI heavy), .own (.lst (ts.map pT)), u, v], [pR ns i x y], false⟩ : St) → bodyF T cf (.var 5) (.for_ false (.var 6) .rng2 (.cons (.bin .add (.var 5) (.cst (.int 1))) (.cons (.var 2) .nil)) (.ite (.bin .lt (.call f (.cons (.var 0) (.cons (.cst (.int 5)) .nil))) (.var 3)) (.append (.var 4) (.tup (.cons (.var 5) (.cons (.var 6) .nil)))) .skip)) (pI k) s = forR (bodyF T cf (.var 6) (.ite (.bin .lt (.call f (.cons (.var 0) (.cons (.cst (.int 5)) .nil))) (.var 3)) (.append (.var 4) (.tup (.cons (.var 5) (.cons (.var 6) .nil)))) .skip)) ((List.range' (k + 1) (n - (k + 1))).map pI) ⟨[.val (.loc 0), .val (pI most), .val (pI n), .val (pI heavy), .own (.lst (ts.map pT)), .val (pI k), v], [pR ns i x y], false⟩ := by
        rintro s rfl
        simp only [Int.natCast_add, Int.cast_ofNat_Int] at hr2
        simp [bodyF, hr2]
      rw [hb _ rfl]
      obtain ⟨s', es, hs⟩ := forR_rng (f := bodyF T cf (.var 6) (.ite (.bin .lt (.call f (.cons (.var 0) (.cons (.cst (.int 5)) .nil))) (.var 3)) (.append (.var 4) (.tup (.cons (.var 5) (.cons (.var 6) .nil)))) .skip)) (a := k + 1) (n := n - (k + 1))
        (I := fun j s => ∃ ts v i x y, GoodT n k j ts ∧ 0 ≤ i ∧ s = ⟨[.val (.loc 0), .val (pI most), .val (pI n), .val (pI heavy), .own (.lst (ts.map pT)), .val (pI k), v], [pR ns i x y], false⟩)
        (s := ⟨[.val (.loc 0), .val (pI most), .val (pI n), .val (pI heavy), .own (.lst (ts.map pT)), .val (pI k), v], [pR ns i x y], false⟩)
        (fun j s hj1 hj2 hI => by
          obtain ⟨ts, v, i, x, y, hg, hi, rfl⟩ := hI
          obtain ⟨r, i', x', y', hr, hi', e⟩ := hd 5 i x y (by decide) (by decide) hi
          have e' : cf.fn f [.loc 0, .int 5] [pR ns i x y] = .ok (.val (pI r)) [pR ns i' x' y'] := e
          have hz : sizeOk (ts.length + 1) = true := szOk_le (by have := hg.len; omega)
          by_cases hc : r < heavy
          · refine ⟨⟨[.val (.loc 0), .val (pI most), .val (pI n), .val (pI heavy), .own (.lst ((ts ++ [(k, j)]).map pT)), .val (pI k), .val (pI j)], [pR ns i' x' y'], false⟩, ?_, _, _, _, _, _, hg.add (by omega) (by omega), hi', rfl⟩
            simp [bodyF, e', hc, hz]
          · refine ⟨⟨[.val (.loc 0), .val (pI most), .val (pI n), .val (pI heavy), .own (.lst (ts.map pT)), .val (pI k), .val (pI j)], [pR ns i' x' y'], false⟩, ?_, _, _, _, _, _, hg.skip (by omega), hi', rfl⟩
            simp [bodyF, e', hc, hz])
        ⟨ts, v, i, x, y, hg.skip (by omega), hi, rfl⟩
      obtain ⟨ts, v, i, x, y, hg, hi, rfl⟩ := hs
      rw [show k + 1 + (n - (k + 1)) = n by omega] at hg
      exact ⟨_, es, _, _, _, _, _, _, hg.up (by omega), hi, rfl⟩)
    ⟨[], .non, .non, i2, x2, y2, ⟨fun t ht => (by cases ht), List.Pairwise.nil, by simp⟩, hi2, rfl⟩
  obtain ⟨s', es, ts, u, v, i, x, y, hg, hi, rfl⟩ := loop
  rw [Nat.zero_add] at hg
  refine ⟨n, ts, i, x, y, by omega, by omega, hg, hi, ?_⟩
  simp [webB, e1, e2', hn, hh, hr, es]
end Nr
end

section
set_option Elab.async false
set_option linter.all false
set_option maxRecDepth 100000
set_option maxHeartbeats 800000
/-! N5: drawn orders are orders. -/
namespace Nr
open Q
theorem erase_map (l : List Nat) (r : Nat) : (l.map pI).eraseIdx r = (l.eraseIdx r).map pI := by
  rw [List.eraseIdx_eq_take_drop_succ, List.eraseIdx_eq_take_drop_succ, List.map_append, List.map_take, List.map_drop]
theorem erase_perm (l : List Nat) (r : Nat) (h : r < l.length) : (l.getD r 0 :: l.eraseIdx r).Perm l := by
  rw [List.eraseIdx_eq_take_drop_succ]
  have e : l = l.take r ++ (l.getD r 0 :: l.drop (r + 1)) := by
    have : l.getD r 0 = l[r] := by simp [List.getD_eq_getElem?_getD, h]
    rw [this, List.getElem_cons_drop, List.take_append_drop]
  refine List.Perm.trans ?_ (List.Perm.of_eq e.symm)
  exact List.perm_middle.symm
theorem popR_i (env : List Slot) (cells : List PV) (b : Bool) (j : Nat) (l : List Nat) (r : Nat) (h : r < l.length) (hr : r < 1000) : popR ⟨env, cells, b⟩ (.slot j) (.lst (l.map pI)) [.int (r : Int)] = .ok (.val (pI (l.getD r 0))) ⟨env.set j (.own (.lst ((l.eraseIdx r).map pI))), cells, b⟩ := by
  have h1 : rngOk (r : Int) = true := by unfold rngOk; simp; omega
  have h2 := ixOf_nat (l.map pI).length r (by simpa using h)
  have h3 := getD_map_pI l r h
  simp only [popR, h1, if_true, h2, ofOpt_some, R.bind_ok, h3, ← erase_map, setCell_slot]
def orderB (f : Nat) : CS := (.seq (.par (.cons (.var 2) (.cons (.var 3) .nil)) (.cons (.lst .nil) (.cons (.mkseq false .rng1 (.cons (.var 1) .nil)) .nil)))
    (.seq (.whl (.bin .ne (.var 3) (.lst .nil)) (.append (.var 2) (.pop (.var 3) (.cons (.call f (.cons (.var 0) (.cons (.una .len (.var 3)) .nil))) .nil))))
    (.ret (.una .tuple_ (.var 2)))))
theorem order_loop (T : Tab) (cf : CallF) (f n : Nat) (ns : List Int) (hd : ∀ (k : Nat) (i x y : Int), 0 < k → k < 1000 → 0 ≤ i → ∃ (r : Nat) (i' x' y' : Int), r < k ∧ 0 ≤ i' ∧ cf.fn f [.loc 0, pI k] [pR ns i x y] = .ok (.val (pI r)) [pR ns i' x' y']) : ∀ (d fuel : Nat) (left found : List Nat) (i x y : Int), left.length = d → d < fuel → d < 100 → found.length + d < 100 → 0 ≤ i →
    ∃ (o : List Nat) (i' x' y' : Int), o.Perm (found ++ left) ∧ 0 ≤ i' ∧ whileR (testR T cf (.bin .ne (.var 3) (.lst .nil))) (execS T cf (.append (.var 2) (.pop (.var 3) (.cons (.call f (.cons (.var 0) (.cons (.una .len (.var 3)) .nil))) .nil)))) fuel ⟨[.val (.loc 0), .val (pI n), .own (.lst (found.map pI)), .own (.lst (left.map pI))], [pR ns i x y], false⟩ = .ok .nx ⟨[.val (.loc 0), .val (pI n), .own (.lst (o.map pI)), .own (.lst [])], [pR ns i' x' y'], false⟩
  | d, 0, _, _, _, _, _, _, h, _, _, _ => absurd h (Nat.not_lt_zero _)
  | 0, fuel + 1, left, found, i, x, y, hl, _, _, _, hi => by
    have : left = [] := List.length_eq_zero_iff.mp hl
    subst this
    refine ⟨found, i, x, y, by simp, hi, ?_⟩
    have hne := ne_lI [] []
    simp at hne
    rw [whileR]
    simp [hne]
  | d + 1, fuel + 1, left, found, i, x, y, hl, hf, hd1, hd2, hi => by
    obtain ⟨r, i1, x1, y1, hr, hi1, e⟩ := hd (d + 1) i x y (by omega) (by omega) hi
    have hp := erase_perm left r (by omega)
    have hel : (left.eraseIdx r).length = d := by
      have := hp.length_eq
      simp at this
      omega
    obtain ⟨o, i', x', y', ho, hi', e2⟩ := order_loop T cf f n ns hd d fuel (left.eraseIdx r) (found ++ [left.getD r 0]) i1 x1 y1 hel (by omega) (by omega) (by simp; omega) hi1
    refine ⟨o, i', x', y', ?_, hi', ?_⟩
    · refine ho.trans ?_
      rw [List.append_assoc]
      exact hp.append_left found
    · have hne := ne_lI left []
      have hl0 : left ≠ [] := fun z => by rw [z] at hl; cases hl
      simp [hl0] at hne
      have hz : sizeOk (found.length + 1) = true := szOk_le (by omega)
      have hpop := fun env cells => popR_i env cells false 3 left r (by omega) (by omega)
      have e' : cf.fn f [.loc 0, .int ((d : Int) + 1)] [pR ns i x y] = .ok (.val (pI r)) [pR ns i1 x1 y1] := e
      rw [whileR]
      simp [hne, hl, e', hpop, hz]
      simpa using e2
theorem order (T : Tab) (cf : CallF) (f n : Nat) (hn : n ≤ 10) (ns : List Int) (hd : ∀ (k : Nat) (i x y : Int), 0 < k → k < 1000 → 0 ≤ i → ∃ (r : Nat) (i' x' y' : Int), r < k ∧ 0 ≤ i' ∧ cf.fn f [.loc 0, pI k] [pR ns i x y] = .ok (.val (pI r)) [pR ns i' x' y']) (i x y : Int) (hi : 0 ≤ i) :
    ∃ (o : List Nat) (i' x' y' : Int), o.Perm (List.range n) ∧ 0 ≤ i' ∧ endF (execS T cf (orderB f) ⟨[.val (.loc 0), .val (pI n), .non, .non], [pR ns i x y], false⟩) = .ok (.val (pO o)) [pR ns i' x' y'] := by
  obtain ⟨o, i', x', y', ho, hi', e⟩ := order_loop T cf f n ns hd n 1000000 (List.range n) [] i x y (by simp) (by omega) (by omega) (by simp; omega) hi
  refine ⟨o, i', x', y', by simpa using ho, hi', ?_⟩
  have hr := it_rng1 n (by omega)
  have hz : sizeOk n = true := szOk_le (by omega)
  simp only [List.map_nil] at e
  simp [orderB, hr, hz, e]
/-- a permutation of the places is one of all orders -/
theorem mem_ordIter (n : Nat) : ∀ (k : Nat) (o : List Nat), o.length = k → o.Nodup → (∀ p ∈ o, p < n) → o ∈ ordIter n k
  | 0, o, h, _, _ => by
    have : o = [] := List.length_eq_zero_iff.mp h
    subst this
    exact List.mem_singleton.mpr rfl
  | k + 1, o, h, hn, hp => by
    have hne : o ≠ [] := fun z => by rw [z] at h; cases h
    have e := List.dropLast_concat_getLast hne
    rw [← e] at hn hp ⊢
    have ha := List.nodup_append.mp hn
    have hi := mem_ordIter n k o.dropLast (by simp; omega) ha.1 fun p h => hp p (List.mem_append_left _ h)
    rw [ordIter, ordStep, List.mem_flatMap]
    refine ⟨_, hi, List.mem_map.mpr ⟨o.getLast hne, List.mem_filter.mpr ⟨List.mem_range.mpr (hp _ (List.mem_append_right _ (List.mem_singleton.mpr rfl))), ?_⟩, rfl⟩⟩
    have : o.getLast hne ∉ o.dropLast := fun z => ha.2.2 _ z _ (List.mem_singleton.mpr rfl) rfl
    simp only [List.contains_eq_mem, this, decide_false, Bool.not_false]
theorem perm_ords {n : Nat} {o : List Nat} (h : o.Perm (List.range n)) : o ∈ ords n := by
  refine mem_ordIter n n o (by rw [h.length_eq]; simp) (h.nodup_iff.mpr List.nodup_range) fun p hp => ?_
  exact List.mem_range.mp (h.mem_iff.mp hp)
end Nr
end

section
set_option Elab.async false
set_option linter.all false
set_option maxRecDepth 100000
set_option maxHeartbeats 800000
/-! N6: ties as values: in, sorted. -/
namespace Nr
open Q
theorem pvEq_pT (a b : Nat × Nat) : pvEq (pT a) (pT b) = decide (a = b) := by
  show pvEqL [pI a.1, pI a.2] [pI b.1, pI b.2] = _
  rw [pvEqL, pvEqL, pvEqL, pvEq_pI, pvEq_pI]
  by_cases h1 : a.1 = b.1 <;> by_cases h2 : a.2 = b.2 <;> simp [h1, h2, Prod.ext_iff]
theorem plain_pT (t : Nat × Nat) : plain (pT t) = true := by
  show plainL [pI t.1, pI t.2] = true
  rw [plainL, plainL, plainL]; rfl
theorem depLe_pT (k : Nat) (t : Nat × Nat) : depLe (k + 1) (pT t) = true := by
  show depLe (k + 1) (.tup [pI t.1, pI t.2]) = true
  rw [depLe, depLeL, depLeL, depLeL]
  cases k <;> rfl
theorem in_pT (t : Nat × Nat) (l : List (Nat × Nat)) : inB (.tup [pI t.1, pI t.2]) (.lst (l.map pT)) = some (decide (t ∈ l)) := by
  show (if eqOk (pT t) (.lst (l.map pT)) then some ((l.map pT).any fun y => pvEq y (pT t)) else none) = _
  rw [eqOk_of (x := pT t) (y := .lst (l.map pT)) (plain_pT t) (plainL_map fun x _ => plain_pT x) (depLe_pT 39 t), if_pos rfl]
  refine congrArg some ?_
  rw [Bool.eq_iff_iff, List.any_eq_true]
  simp only [decide_eq_true_eq]
  constructor
  · rintro ⟨x, hx, h⟩
    obtain ⟨q, hq, rfl⟩ := List.mem_map.mp hx
    rw [pvEq_pT] at h
    exact of_decide_eq_true h ▸ hq
  · intro h
    exact ⟨pT t, List.mem_map.mpr ⟨t, h, rfl⟩, by rw [pvEq_pT]; simp⟩
theorem toD_pT (t : Nat × Nat) : toD (pT t) = .tuple [.int t.1, .int t.2] := by
  show PySem.PyData.tuple (toDL [pI t.1, pI t.2]) = _
  rw [toDL, toDL, toDL]; rfl
theorem alike_pT (a b : Nat × Nat) : alikeP (pT a) (pT b) = true := by
  unfold alikeP
  rw [toD_pT, toD_pT, PySem.W.alike, PySem.W.alikeAll, PySem.W.alikeAll, PySem.W.alikeAll, PySem.W.alike, PySem.W.alike]; rfl
theorem eqv_int (a b : Nat) : PySem.PyData.eqv (.int a) (.int b) = decide (a = b) := by
  by_cases h : a = b
  · subst h; simp [PySem.PyData.eqv]
  · have : ¬ (a : Int) = (b : Int) := by omega
    simp [PySem.PyData.eqv, this, h]
theorem pvLt_pT_no {a b : Nat × Nat} (h : lexLt a b) : pvLt (pT b) (pT a) = false := by
  unfold pvLt
  rw [toD_pT, toD_pT, PySem.W.dataLt_tuple]
  by_cases c : b.1 = a.1
  · have hc : a.2 < b.2 := by
      rcases h with e | e
      · omega
      · exact e.2
    rw [PySem.W.dataLt_all_yes (by rw [PySem.W.alike]) (by rw [eqv_int]; exact decide_eq_true c), PySem.W.dataLt_all_no (by rw [PySem.W.alike]) (by rw [eqv_int]; exact decide_eq_false (by omega)), PySem.W.dataLt_int]
    exact decide_eq_false (by omega)
  · have hc : a.1 < b.1 := by
      rcases h with e | e
      · exact e
      · omega
    rw [PySem.W.dataLt_all_no (by rw [PySem.W.alike]) (by rw [eqv_int]; exact decide_eq_false c), PySem.W.dataLt_int]
    exact decide_eq_false (by omega)
theorem sorted_pT {l : List (Nat × Nat)} (h : l.Pairwise lexLt) (hl : l.length ≤ 1000) : uop .sorted_ (.lst (l.map pT)) = some (.lst (l.map pT)) := by
  show (if sortable (l.map pT) then some (PV.lst (pvSort (l.map pT))) else none) = _
  have h1 : sortable (l.map pT) = true := by
    unfold sortable
    rw [plainL_map fun x _ => plain_pT x, depLeL_map fun x _ => depLe_pT 29 x, szOk_le (by simpa using by omega)]
    have h2 : alikeAll (l.map pT) = true := by
      unfold alikeAll
      rw [List.all_eq_true]
      intro x hx
      rw [List.all_eq_true]
      intro y hy
      obtain ⟨a, _, rfl⟩ := List.mem_map.mp hx
      obtain ⟨b, _, rfl⟩ := List.mem_map.mp hy
      exact alike_pT a b
    have h3 : (l.map pT).all isTup1 = true := by
      rw [List.all_eq_true]
      intro x hx
      obtain ⟨a, _, rfl⟩ := List.mem_map.mp hx
      rfl
    rw [h2, h3]; rfl
  rw [h1, if_pos rfl]
  have : pvSort (l.map pT) = l.map pT := by
    unfold pvSort
    refine List.mergeSort_of_pairwise ?_
    rw [List.pairwise_map]
    refine h.imp fun hab => ?_
    rw [pvLt_pT_no hab]; rfl
  rw [this]
theorem enumL_map : ∀ (l : List (Nat × Nat)) (k : Nat), enumL k (l.map pT) = (l.zipIdx k).map fun p => .tup [pI p.2, pT p.1]
  | [], k => rfl
  | t :: l, k => by
    rw [List.map_cons, enumL, List.zipIdx_cons, List.map_cons, enumL_map l (k + 1)]
def iniF (r : R Fl) : FR := match r with
  | .ok .nx s => (match s.get 0 with
    | .own o => .ok (.val o) s.cells
    | .val (.obj d fs) => .ok (.val (.obj d fs)) s.cells
    | _ => .bad)
  | .ex e s => .ex e s.cells
  | _ => .bad
theorem mk_eq {T : Tab} {m c f : Nat} {fd : FD} {vs cells : List PV} (h1 : T.ini c = some f) (h2 : T.fns f = some fd) (h3 : vs.length + 1 = fd.ar) (h4 : T.inCell c = false) : (callD T (m + 1)).mkI c vs cells = iniF (execS T (callD T m) fd.body ⟨startEnv fd ((.own (.obj c [])) :: vs.map .val), cells, true⟩) := by
  rw [callD]
  simp only [h1, h2, h3, h4, if_true, if_false, Bool.false_eq_true]
  rfl
theorem iniF_own (o : PV) (env : List Slot) (cells : List PV) : iniF (.ok .nx ⟨.own o :: env, cells, true⟩) = .ok (.val o) cells := rfl
end Nr
end

section
set_option Elab.async false
set_option linter.all false
set_option maxRecDepth 100000
set_option maxHeartbeats 800000
/-! N7: exceptions run by simp; the first of the least. -/
namespace Nr
open Q
@[simp] theorem thenS_ex (e : PV) (s : St) (f : St → R Fl) : thenS (.ex e s) f = .ex e s := id rfl
@[simp] theorem endF_ex (e : PV) (s : St) : endF (.ex e s) = .ex e s.cells := id rfl
@[simp] theorem inSt_ex (e : PV) (cs : List PV) (env : List Slot) (cells : List PV) (f : Bool) : inSt (.ex e cs) ⟨env, cells, f⟩ = .ex e ⟨env, cs, f⟩ := id rfl
section
variable (T : Tab) (cf : CallF)
@[simp] theorem ex_raise (c : Nat) (es : CE) (s : St) : execS T cf (.raise c es) s = if T.noex then .bad else (evalEs T cf es s).bind fun rs s1 => (toVals rs s1).bind fun vs s2 => (ofOpt (T.exc c) s2).bind fun fs _ => if fs.length = vs.length then .ex (.err c (fs.zip vs)) s2 else .bad := id rfl
def tryF (r : R Fl) (h : CS) : R Fl := match r with
  | .ok k s1 => .ok k s1
  | .bad => .bad
  | .ex e s1 => if T.noex then .bad else execS.execH T cf e h s1
@[simp] theorem tryF_ok (k : Fl) (s : St) (h : CS) : tryF T cf (.ok k s) h = .ok k s := id rfl
@[simp] theorem tryF_ex (e : PV) (s : St) (h : CS) : tryF T cf (.ex e s) h = if T.noex then .bad else execS.execH T cf e h s := id rfl
@[simp] theorem ex_try (b h : CS) (s : St) : execS T cf (.try_ b h) s = tryF T cf (execS T cf b s) h := by
  show (match execS T cf b s with
    | .ok k s1 => R.ok k s1
    | .bad => R.bad
    | .ex e s1 => if T.noex then R.bad else execS.execH T cf e h s1) = _
  cases execS T cf b s <;> rfl
@[simp] theorem exH_hnd (d c i : Nat) (fs : List (Nat × PV)) (b rest : CS) (s : St) : execS.execH T cf (.err d fs) (.hnd c (some i) b rest) s = if (T.exc d).isSome then (if T.isExc d c then (if s.free i then clrH i (execS T cf b (s.put i (.val (.err d fs)))) else .bad) else execS.execH T cf (.err d fs) rest s) else .bad := id rfl
def errV (f : Nat) (x : Slot) (s : St) : R RV := match x with
    | .val (.err _ fs) => (ofOpt (fs.lookup f) s).bind fun w s2 => .ok (.val w) s2
    | _ => .bad
@[simp] theorem errV_err (f c : Nat) (fs : List (Nat × PV)) (s : St) : errV f (.val (.err c fs)) s = (ofOpt (fs.lookup f) s).bind fun w s2 => .ok (.val w) s2 := id rfl
@[simp] theorem ev_eattr (i f : Nat) (env : List Slot) (cells : List PV) (b : Bool) : evalE T cf (.eattr i f) ⟨env, cells, b⟩ = errV f (env.getD i .non) ⟨env, cells, b⟩ := id rfl
end
@[simp] theorem clrH_ok (i : Nat) (k : Fl) (env : List Slot) (cells : List PV) (b : Bool) : clrH i (.ok k ⟨env, cells, b⟩) = if noErrK k && (env.set i .non).all noErrS && cells.all noErr then .ok k ⟨env.set i .non, cells, b⟩ else .bad := id rfl
theorem noErr_map {α : Type} {e : α → PV} : ∀ {l : List α}, (∀ x ∈ l, noErr (e x) = true) → noErrL (l.map e) = true
  | [], _ => rfl
  | x :: xs, h => by rw [List.map_cons, noErrL, h x List.mem_cons_self, noErr_map fun y hy => h y (List.mem_cons_of_mem _ hy)]; rfl
theorem noErr_pO (o : List Nat) : noErr (pO o) = true := by
  show noErrL (o.map pI) = true
  exact noErr_map fun x _ => rfl
theorem noErr_pTs (ts : List (Nat × Nat)) : noErr (pTs ts) = true := by
  show noErrL (ts.map pT) = true
  refine noErr_map fun x _ => ?_
  show noErrL [pI x.1, pI x.2] = true
  rfl
theorem pvLt_same (a : Nat) (x y : List Nat) : pvLt (.tup [pI a, pO x]) (.tup [pI a, pO y]) = pvLt (.tup [pI 0, pO x]) (.tup [pI 0, pO y]) := by
  unfold pvLt
  have key : ∀ (a : Nat) (X Y : PySem.PyData), PyProof.Rows.lexLt PyProof.Rows.itemOrd (PySem.W.keyToksAll [.int a, X]) (PySem.W.keyToksAll [.int a, Y]) = PyProof.Rows.lexLt PyProof.Rows.itemOrd (PySem.W.keyToksAll [X]) (PySem.W.keyToksAll [Y]) := fun a X Y =>
    PySem.W.dataLt_all_yes (x := .int a) (y := .int a) (by rw [PySem.W.alike]) (by rw [eqv_int]; simp)
  rw [toD_pP, toD_pP, toD_pP, toD_pP, PySem.W.dataLt_tuple, PySem.W.dataLt_tuple, key, key]
def Rises (l : List (List Nat)) : Prop := l.Pairwise fun x y => pvLt (.tup [pI 0, pO y]) (.tup [pI 0, pO x]) = false
theorem first_min (M : List Nat → Nat) : ∀ (xs : List (List Nat)) (b : List Nat), Rises (b :: xs) → ∃ r l1 l2, b :: xs = l1 ++ r :: l2 ∧ pvMinFrom (pP M b) (xs.map (pP M)) = pP M r ∧ (∀ p ∈ b :: xs, M r ≤ M p) ∧ ∀ p ∈ l1, M r < M p
  | [], b, _ => ⟨b, [], [], rfl, rfl, fun p hp => by rw [List.mem_singleton.mp hp]; exact Nat.le_refl _, fun p hp => by cases hp⟩
  | x :: xs, b, h => by
    obtain ⟨hb, hx⟩ := List.pairwise_cons.mp h
    have hbx := hb x List.mem_cons_self
    rw [List.map_cons, pvMinFrom]
    by_cases c : pvLt (pP M x) (pP M b) = true
    · rw [if_pos c]
      have hlt : M x < M b := by
        by_cases e : M x = M b
        · rw [show pP M x = .tup [pI (M b), pO x] by rw [← e], pvLt_same] at c
          rw [hbx] at c; cases c
        · rw [pvLt_pP e] at c
          exact of_decide_eq_true c
      obtain ⟨r, l1, l2, e1, e2, e3, e4⟩ := first_min M xs x hx
      refine ⟨r, b :: l1, l2, by rw [e1]; rfl, e2, fun p hp => ?_, fun p hp => ?_⟩
      · rcases List.mem_cons.mp hp with e | e
        · have := e3 x List.mem_cons_self
          rw [e]; omega
        · exact e3 p e
      · rcases List.mem_cons.mp hp with e | e
        · have := e3 x List.mem_cons_self
          rw [e]; omega
        · exact e4 p e
    · rw [if_neg c]
      have hle : M b ≤ M x := by
        apply Classical.byContradiction
        intro z
        exact c (by rw [pvLt_pP (by omega)]; exact decide_eq_true (by omega))
      obtain ⟨r, l1, l2, e1, e2, e3, e4⟩ := first_min M xs b (List.pairwise_cons.mpr ⟨fun y hy => hb y (List.mem_cons_of_mem _ hy), (List.pairwise_cons.mp hx).2⟩)
      cases l1 with
      | nil =>
        injection e1 with e5 e6
        subst e5
        refine ⟨b, [], x :: xs, rfl, e2, fun p hp => ?_, fun p hp => by cases hp⟩
        rcases List.mem_cons.mp hp with e | e
        · rw [e]; exact Nat.le_refl _
        · rcases List.mem_cons.mp e with e | e
          · rw [e]; exact hle
          · exact e3 p (List.mem_cons_of_mem _ e)
      | cons y l1 =>
        injection e1 with e5 e6
        subst e5
        have hrb := e4 b List.mem_cons_self
        refine ⟨r, b :: x :: l1, l2, by rw [e6]; rfl, e2, fun p hp => ?_, fun p hp => ?_⟩
        · rcases List.mem_cons.mp hp with e | e
          · rw [e]; omega
          · rcases List.mem_cons.mp e with e | e
            · rw [e]; omega
            · exact e3 p (List.mem_cons_of_mem _ e)
        · rcases List.mem_cons.mp hp with e | e
          · rw [e]; exact hrb
          · rcases List.mem_cons.mp e with e | e
            · rw [e]; omega
            · exact e4 p (List.mem_cons_of_mem _ e)
end Nr
end

section
set_option Elab.async false
set_option linter.all false
set_option maxRecDepth 100000
set_option maxHeartbeats 4000000
/-! P13: cuts, lives and sums of orders, in plain Lean. -/
namespace Q
theorem mem_take {a g : Nat} : ∀ {o : List Nat}, a ∈ o → (a ∈ o.take g ↔ o.idxOf a < g) := by
  intro o
  induction o generalizing g with
  | nil => intro h; cases h
  | cons x xs ih =>
    intro h
    cases g with
    | zero => simp
    | succ g =>
      rw [List.take_succ_cons, List.mem_cons, List.idxOf_cons]
      by_cases c : x = a
      · subst c; simp
      · have hb : (x == a) = false := by simpa using c
        have hm : a ∈ xs := by
          rcases List.mem_cons.mp h with e | e
          · exact absurd e.symm c
          · exact e
        rw [hb, ih hm]
        constructor
        · rintro (e | e)
          · exact absurd e.symm c
          · simpa using e
        · intro e
          exact .inr (by simpa using e)
theorem idx_rev {a : Nat} : ∀ {o : List Nat}, o.Nodup → a ∈ o → o.reverse.idxOf a = o.length - 1 - o.idxOf a := by
  intro o
  induction o with
  | nil => intro _ h; cases h
  | cons x xs ih =>
    intro hn h
    obtain ⟨hx, hn'⟩ := List.nodup_cons.mp hn
    rw [List.reverse_cons, List.idxOf_cons, List.length_cons]
    by_cases c : x = a
    · subst c
      have : x ∉ xs.reverse := by simpa using hx
      rw [List.idxOf_append]
      simp [hx]
    · have hb : (x == a) = false := by simpa using c
      have hm : a ∈ xs := by
        rcases List.mem_cons.mp h with e | e
        · exact absurd e.symm c
        · exact e
      have hl := List.idxOf_lt_length_of_mem hm
      rw [hb, List.idxOf_append]
      have hr : a ∈ xs.reverse := by simpa using hm
      simp only [hr, if_true, Bool.false_eq_true, cond_false]
      rw [ih hn' hm]
      omega
/-- a tie leads over a gap -/
def cross (o : List Nat) (g : Nat) (t : Nat × Nat) : Bool := decide (o.idxOf t.1 < g) != decide (o.idxOf t.2 < g)
def cutN (o : List Nat) (ts : List (Nat × Nat)) (g : Nat) : Nat := (ts.filter (cross o g)).length
def gaps (n : Nat) : List Nat := List.range' 1 (n - 1)
def cutsL (n : Nat) (o : List Nat) (ts : List (Nat × Nat)) : List Nat := (gaps n).map (cutN o ts)
theorem gap_count (i j : Nat) : ∀ (m s : Nat), i < s + m → j < s + m → ((List.range' s m).filter fun g => decide (i < g) != decide (j < g)).length = (max i j + 1 - max s (min i j + 1))
  | 0, s, h1, h2 => by simp; omega
  | m + 1, s, h1, h2 => by
    rw [List.range'_succ, List.filter_cons]
    have ih := gap_count i j m (s + 1) (by omega) (by omega)
    split
    · rename_i h
      rw [List.length_cons, ih]
      have : (decide (i < s) = true) ≠ (decide (j < s) = true) := by
        intro e
        by_cases a : i < s <;> by_cases b : j < s <;> simp [a, b] at h e
      by_cases a : i < s <;> by_cases b : j < s <;> simp [a, b] at h <;> omega
    · rename_i h
      rw [ih]
      by_cases a : i < s <;> by_cases b : j < s <;> simp [a, b] at h <;> omega
theorem gap_far {n : Nat} {o : List Nat} {t : Nat × Nat} (h1 : o.idxOf t.1 < n) (h2 : o.idxOf t.2 < n) : ((gaps n).filter fun g => cross o g t).length = far o t := by
  have := gap_count (o.idxOf t.1) (o.idxOf t.2) (n - 1) 1 (by omega) (by omega)
  unfold gaps cross far
  rw [this]
  omega
theorem sum_ite {α : Type} (p : α → Bool) : ∀ (l : List α), (l.map fun x => if p x then 1 else 0).sum = (l.filter p).length
  | [] => rfl
  | x :: xs => by
    rw [List.map_cons, List.sum_cons, sum_ite p xs, List.filter_cons]
    cases p x <;> simp
    omega
theorem sum_add {α : Type} (f g : α → Nat) : ∀ (l : List α), (l.map fun x => f x + g x).sum = (l.map f).sum + (l.map g).sum
  | [] => rfl
  | x :: xs => by
    rw [List.map_cons, List.sum_cons, sum_add f g xs, List.map_cons, List.sum_cons, List.map_cons, List.sum_cons]
    omega
theorem cutN_cons (o : List Nat) (t : Nat × Nat) (ts : List (Nat × Nat)) (g : Nat) : cutN o (t :: ts) g = (if cross o g t then 1 else 0) + cutN o ts g := by
  unfold cutN
  rw [List.filter_cons]
  cases cross o g t <;> simp
  omega
theorem sum_cuts {n : Nat} {o : List Nat} : ∀ {ts : List (Nat × Nat)}, (∀ t ∈ ts, o.idxOf t.1 < n ∧ o.idxOf t.2 < n) → (cutsL n o ts).sum = (ts.map (far o)).sum
  | [], _ => by
    unfold cutsL
    have : ∀ l : List Nat, (l.map (cutN o [])).sum = 0 := by
      intro l
      induction l with
      | nil => rfl
      | cons x xs ih => rw [List.map_cons, List.sum_cons, ih]; rfl
    rw [this]; rfl
  | t :: ts, h => by
    have ih := sum_cuts (n := n) (o := o) fun q hq => h q (List.mem_cons_of_mem _ hq)
    have ht := h t List.mem_cons_self
    unfold cutsL at ih ⊢
    have e : (gaps n).map (cutN o (t :: ts)) = (gaps n).map fun g => (if cross o g t then 1 else 0) + cutN o ts g := List.map_congr_left fun g _ => cutN_cons o t ts g
    rw [e, sum_add, sum_ite, ih, gap_far ht.1 ht.2, List.map_cons, List.sum_cons]
/-! distinct members -/
def dd (l : List Nat) : Nat := (Nr.onceI (l.map fun (n : Nat) => (n : Int))).length
theorem once_acc : ∀ (l acc : List Int), acc.Nodup → (l.foldl (fun acc x => if acc.any (· == x) then acc else acc ++ [x]) acc).Nodup ∧ (∀ y, y ∈ l.foldl (fun acc x => if acc.any (· == x) then acc else acc ++ [x]) acc ↔ y ∈ acc ∨ y ∈ l) ∧ (l.foldl (fun acc x => if acc.any (· == x) then acc else acc ++ [x]) acc).length ≤ acc.length + l.length
  | [], acc, h => ⟨h, fun y => by simp, by simp⟩
  | x :: xs, acc, h => by
    rw [List.foldl_cons]
    by_cases c : acc.any (· == x) = true
    · rw [if_pos c]
      obtain ⟨a, b, d⟩ := once_acc xs acc h
      obtain ⟨z, hz, e⟩ := List.any_eq_true.mp c
      have e : z = x := by simpa using e
      subst e
      refine ⟨a, fun y => ?_, by rw [List.length_cons]; omega⟩
      rw [b y, List.mem_cons]
      constructor
      · rintro (q | q)
        · exact .inl q
        · exact .inr (.inr q)
      · rintro (q | q | q)
        · exact .inl q
        · rw [q]; exact .inl hz
        · exact .inr q
    · rw [if_neg c]
      have hx : x ∉ acc := fun z => c (List.any_eq_true.mpr ⟨x, z, by simp⟩)
      have hn : (acc ++ [x]).Nodup := List.nodup_append.mpr ⟨h, by simp, fun a ha b hb => by
        rw [List.mem_singleton.mp hb]; exact fun e => hx (e ▸ ha)⟩
      obtain ⟨a, b, d⟩ := once_acc xs (acc ++ [x]) hn
      refine ⟨a, fun y => ?_, by rw [List.length_append] at d; simp only [List.length_cons, List.length_nil] at d ⊢; omega⟩
      rw [b y, List.mem_append, List.mem_singleton, List.mem_cons, or_assoc]
theorem once_nd (l : List Int) : (Nr.onceI l).Nodup := (once_acc l [] List.nodup_nil).1
theorem once_mem (l : List Int) (y : Int) : y ∈ Nr.onceI l ↔ y ∈ l := by
  have := (once_acc l [] List.nodup_nil).2.1 y
  exact ⟨fun h => (this.mp h).resolve_left (by simp), fun h => this.mpr (.inr h)⟩
theorem once_le (l : List Int) : (Nr.onceI l).length ≤ l.length := by
  have := (once_acc l [] List.nodup_nil).2.2
  rw [List.length_nil, Nat.zero_add] at this
  exact this
theorem nodup_len {α : Type} [DecidableEq α] {a b : List α} (ha : a.Nodup) (h : ∀ x ∈ a, x ∈ b) : a.length ≤ b.length := by
  induction a generalizing b with
  | nil => simp
  | cons x xs ih =>
    obtain ⟨hx, hn⟩ := List.nodup_cons.mp ha
    have hm := h x List.mem_cons_self
    have := ih (b := b.erase x) hn fun y hy => by
      have hne : y ≠ x := fun e => hx (e ▸ hy)
      exact (List.mem_erase_of_ne hne).mpr (h y (List.mem_cons_of_mem _ hy))
    rw [List.length_erase_of_mem hm] at this
    have hp := List.length_pos_of_mem hm
    rw [List.length_cons]
    omega
theorem dd_congr {a b : List Nat} (h : ∀ x, x ∈ a ↔ x ∈ b) : dd a = dd b := by
  unfold dd
  have key : ∀ {a b : List Nat}, (∀ x, x ∈ a → x ∈ b) → (Nr.onceI (a.map fun (n : Nat) => (n : Int))).length ≤ (Nr.onceI (b.map fun (n : Nat) => (n : Int))).length := fun {a b} h => nodup_len (once_nd _) fun y hy => by
    rw [once_mem] at hy ⊢
    obtain ⟨n, hn, e⟩ := List.mem_map.mp hy
    exact List.mem_map.mpr ⟨n, h n hn, e⟩
  exact Nat.le_antisymm (key fun x hx => (h x).mp hx) (key fun x hx => (h x).mpr hx)
theorem dd_le (l : List Nat) : dd l ≤ l.length := by
  unfold dd
  have := once_le (l.map fun (n : Nat) => (n : Int))
  simpa using this
theorem dd_pos {l : List Nat} (h : l ≠ []) : 1 ≤ dd l := by
  cases l with
  | nil => exact absurd rfl h
  | cons x xs =>
    have : (x : Int) ∈ Nr.onceI ((x :: xs).map fun (n : Nat) => (n : Int)) := by rw [once_mem]; simp
    exact List.length_pos_of_mem this
/-- places ahead of a gap that are tied to one behind it -/
def liveR (o : List Nat) (ts : List (Nat × Nat)) (g : Nat) : List Nat := (ts.filter (cross o g)).map fun t => if o.idxOf t.1 < g then t.1 else t.2
def liveN (o : List Nat) (ts : List (Nat × Nat)) (g : Nat) : Nat := dd (liveR o ts g)
def livesL (n : Nat) (o : List Nat) (ts : List (Nat × Nat)) : List Nat := (gaps n).map (liveN o ts)
theorem live_le_cut (o : List Nat) (ts : List (Nat × Nat)) (g : Nat) : liveN o ts g ≤ cutN o ts g := by
  unfold liveN cutN
  have := dd_le (liveR o ts g)
  unfold liveR at this ⊢
  simpa using this
/-- so many live places: the first of them stands so far ahead -/
theorem live_le_far {o : List Nat} (hn : o.Nodup) {ts : List (Nat × Nat)} (hm : ∀ t ∈ ts, t.1 ∈ o ∧ t.2 ∈ o) {g c : Nat} (hc : ∀ t ∈ ts, far o t ≤ c) : liveN o ts g ≤ c := by
  unfold liveN
  -- positions of live places lie in [g - c, g)
  have hpos : ∀ x ∈ liveR o ts g, g ≤ o.idxOf x + c ∧ o.idxOf x < g ∧ x ∈ o := by
    intro x hx
    unfold liveR at hx
    obtain ⟨t, ht, rfl⟩ := List.mem_map.mp hx
    obtain ⟨ht, hcr⟩ := List.mem_filter.mp ht
    have hf := hc t ht
    have hmm := hm t ht
    unfold far at hf
    unfold cross at hcr
    by_cases a : o.idxOf t.1 < g
    · rw [if_pos a]
      have : ¬ o.idxOf t.2 < g := by
        intro b
        simp [a, b] at hcr
      exact ⟨by omega, a, hmm.1⟩
    · rw [if_neg a]
      have : o.idxOf t.2 < g := by
        by_cases b : o.idxOf t.2 < g
        · exact b
        · simp [a, b] at hcr
      exact ⟨by omega, this, hmm.2⟩
  have h1 : dd (liveR o ts g) = ((Nr.onceI ((liveR o ts g).map fun (n : Nat) => (n : Int))).map fun z => o.idxOf z.toNat).length := by
    unfold dd; simp
  rw [h1]
  have h2 : ((Nr.onceI ((liveR o ts g).map fun (n : Nat) => (n : Int))).map fun z => o.idxOf z.toNat).Nodup := by
    refine List.Pairwise.map _ ?_ (List.Pairwise.imp_of_mem ?_ (once_nd ((liveR o ts g).map fun (n : Nat) => (n : Int)))) (R := fun a b => o.idxOf a.toNat ≠ o.idxOf b.toNat)
    · intro a b h; exact h
    · intro a b ha hb hab e
      rw [once_mem] at ha hb
      obtain ⟨x, hx, rfl⟩ := List.mem_map.mp ha
      obtain ⟨y, hy, rfl⟩ := List.mem_map.mp hb
      have hx' := (hpos x hx).2.2
      have hy' := (hpos y hy).2.2
      simp only [Int.toNat_natCast] at e
      have e1 := List.getElem_idxOf (List.idxOf_lt_length_of_mem hx')
      have e2 := List.getElem_idxOf (List.idxOf_lt_length_of_mem hy')
      apply hab
      have : x = y := by
        rw [← e1, ← e2]
        simp [e]
      rw [this]
  have h3 := nodup_len (b := List.range' (g - c) (g - (g - c))) h2 fun z hz => by
    obtain ⟨y, hy, rfl⟩ := List.mem_map.mp hz
    rw [once_mem] at hy
    obtain ⟨x, hx, rfl⟩ := List.mem_map.mp hy
    have := hpos x hx
    rw [List.mem_range'_1]
    simp only [Int.toNat_natCast]
    omega
  rw [List.length_range'] at h3
  omega
theorem sum_mono {α : Type} {f g : α → Nat} : ∀ {l : List α}, (∀ x ∈ l, f x ≤ g x) → (l.map f).sum ≤ (l.map g).sum
  | [], _ => Nat.le_refl _
  | x :: xs, h => by
    rw [List.map_cons, List.map_cons, List.sum_cons, List.sum_cons]
    have := h x List.mem_cons_self
    have := sum_mono (l := xs) fun y hy => h y (List.mem_cons_of_mem _ hy)
    omega
theorem wait_le_sum (n : Nat) (o : List Nat) (ts : List (Nat × Nat)) : (livesL n o ts).sum ≤ (cutsL n o ts).sum := sum_mono fun g _ => live_le_cut o ts g
theorem far_le_wait {n : Nat} {o : List Nat} {ts : List (Nat × Nat)} {t : Nat × Nat} (ht : t ∈ ts) (h1 : o.idxOf t.1 < n) (h2 : o.idxOf t.2 < n) : far o t ≤ (livesL n o ts).sum := by
  rw [← gap_far h1 h2, ← sum_ite]
  refine sum_mono fun g _ => ?_
  split
  · rename_i h
    refine dd_pos ?_
    unfold liveR
    intro e
    have : t ∈ ts.filter (cross o g) := List.mem_filter.mpr ⟨ht, h⟩
    rw [List.map_eq_nil_iff] at e
    rw [e] at this
    cases this
  · exact Nat.zero_le _
theorem far_rev {o : List Nat} (hn : o.Nodup) {t : Nat × Nat} (h1 : t.1 ∈ o) (h2 : t.2 ∈ o) : far o.reverse t = far o t := by
  have a := List.idxOf_lt_length_of_mem h1
  have b := List.idxOf_lt_length_of_mem h2
  unfold far
  rw [idx_rev hn h1, idx_rev hn h2]
  omega
end Q
end

section
set_option Elab.async false
set_option linter.all false
set_option maxRecDepth 100000
set_option maxHeartbeats 4000000
/-! P13b: sets as numbers; sorted rows of places; cuts from behind. -/
namespace Q
def maskOf (l : List Nat) : Nat := (l.map fun p => 2 ^ p).sum
/-- so many low signs of a set -/
def low (s : Nat → Bool) : Nat → Nat
  | 0 => 0
  | n + 1 => (if s n then 2 ^ n else 0) + low s n
theorem low_lt (s : Nat → Bool) : ∀ n, low s n < 2 ^ n
  | 0 => by simp [low]
  | n + 1 => by
    have := low_lt s n
    rw [low, Nat.pow_succ]
    split <;> omega
theorem low_bit (s : Nat → Bool) : ∀ (n a : Nat), a < n → (low s n).testBit a = s a
  | 0, a, h => absurd h (Nat.not_lt_zero _)
  | n + 1, a, h => by
    have hl := low_lt s n
    rw [low]
    by_cases c : a = n
    · subst c
      cases hs : s a with
      | true =>
        simp only [if_true]
        rw [Nat.testBit_two_pow_add_eq, Nat.testBit_lt_two_pow hl]; rfl
      | false =>
        simp only [Bool.false_eq_true, if_false, Nat.zero_add]
        exact Nat.testBit_lt_two_pow hl
    · have ha : a < n := by omega
      cases hs : s n with
      | true =>
        simp only [if_true]
        rw [Nat.testBit_two_pow_add_gt ha]
        exact low_bit s n a ha
      | false =>
        simp only [Bool.false_eq_true, if_false, Nat.zero_add]
        exact low_bit s n a ha
theorem low_add (n : Nat) (l : List Nat) (x : Nat) (hx : x ∉ l) : x < n → low (fun p => decide (p ∈ x :: l)) n = 2 ^ x + low (fun p => decide (p ∈ l)) n := by
  induction n with
  | zero => intro h; exact absurd h (Nat.not_lt_zero _)
  | succ n ih =>
    intro h
    rw [low, low]
    by_cases c : x = n
    · subst c
      have e : ∀ m, m ≤ x → low (fun p => decide (p ∈ x :: l)) m = low (fun p => decide (p ∈ l)) m := by
        intro m
        induction m with
        | zero => intro _; rfl
        | succ m ihm =>
          intro hm
          rw [low, low, ihm (by omega)]
          have : m ≠ x := by omega
          simp [this]
      rw [e x (Nat.le_refl _)]
      simp [hx]
    · rw [ih (by omega)]
      have : n ≠ x := fun e => c e.symm
      simp [this]
      omega
theorem mask_low (n : Nat) : ∀ (l : List Nat), l.Nodup → (∀ p ∈ l, p < n) → maskOf l = low (fun p => decide (p ∈ l)) n
  | [], _, _ => by
    have : ∀ m, low (fun p => decide (p ∈ ([] : List Nat))) m = 0 := by
      intro m
      induction m with
      | zero => rfl
      | succ m ih => rw [low, ih]; simp
    rw [this]; rfl
  | x :: l, hn, h => by
    obtain ⟨hx, hn'⟩ := List.nodup_cons.mp hn
    rw [low_add n l x hx (h x List.mem_cons_self), ← mask_low n l hn' fun p hp => h p (List.mem_cons_of_mem _ hp)]
    unfold maskOf
    rw [List.map_cons, List.sum_cons]
theorem mask_bit {l : List Nat} (hn : l.Nodup) {n a : Nat} (h : ∀ p ∈ l, p < n) (ha : a < n) : maskOf l / 2 ^ a % 2 = if a ∈ l then 1 else 0 := by
  have := low_bit (fun p => decide (p ∈ l)) n a ha
  rw [← mask_low n l hn h, Nat.testBit_eq_decide_div_mod_eq] at this
  by_cases c : a ∈ l
  · rw [if_pos c]; simpa [c] using this
  · rw [if_neg c]
    have : ¬ maskOf l / 2 ^ a % 2 = 1 := by simpa [c] using this
    omega
/-- the places of a row, rising -/
def sorted (n : Nat) (l : List Nat) : List Nat := (List.range n).filter fun p => decide (p ∈ l)
theorem sorted_perm {l : List Nat} {n : Nat} (hn : l.Nodup) (h : ∀ p ∈ l, p < n) : (sorted n l).Perm l := by
  refine (List.perm_ext_iff_of_nodup ((List.nodup_range).filter _) hn).mpr fun x => ?_
  rw [List.mem_filter, List.mem_range, decide_eq_true_eq]
  exact ⟨fun z => z.2, fun z => ⟨h x z, z⟩⟩
theorem sorted_pw (n : Nat) (l : List Nat) : (sorted n l).Pairwise (· < ·) := (List.pairwise_lt_range).filter _
theorem gaps_rev (n : Nat) : (gaps n).reverse = (gaps n).map fun g => n - g := by
  unfold gaps
  apply List.ext_getElem
  · simp
  · intro i h1 h2
    simp at h1
    rw [List.getElem_reverse, List.getElem_map, List.getElem_range', List.getElem_range', List.length_range']
    omega
theorem cross_rev {n : Nat} {o : List Nat} (hn : o.Nodup) (hl : o.length = n) {t : Nat × Nat} (h1 : t.1 ∈ o) (h2 : t.2 ∈ o) {g : Nat} (hg : 1 ≤ g ∧ g < n) : cross o.reverse g t = cross o (n - g) t := by
  have a := List.idxOf_lt_length_of_mem h1
  have b := List.idxOf_lt_length_of_mem h2
  unfold cross
  rw [idx_rev hn h1, idx_rev hn h2, hl]
  rw [hl] at a b
  by_cases c1 : o.idxOf t.1 < n - g <;> by_cases c2 : o.idxOf t.2 < n - g
  · have d1 : ¬ n - 1 - o.idxOf t.1 < g := by omega
    have d2 : ¬ n - 1 - o.idxOf t.2 < g := by omega
    simp [c1, c2, d1, d2]
  · have d1 : ¬ n - 1 - o.idxOf t.1 < g := by omega
    have d2 : n - 1 - o.idxOf t.2 < g := by omega
    simp [c1, c2, d1, d2]
  · have d1 : n - 1 - o.idxOf t.1 < g := by omega
    have d2 : ¬ n - 1 - o.idxOf t.2 < g := by omega
    simp [c1, c2, d1, d2]
  · have d1 : n - 1 - o.idxOf t.1 < g := by omega
    have d2 : n - 1 - o.idxOf t.2 < g := by omega
    simp [c1, c2, d1, d2]
theorem cuts_rev {n : Nat} {o : List Nat} (hn : o.Nodup) (hl : o.length = n) {ts : List (Nat × Nat)} (h : ∀ t ∈ ts, t.1 ∈ o ∧ t.2 ∈ o) : cutsL n o.reverse ts = (cutsL n o ts).reverse := by
  unfold cutsL
  rw [← List.map_reverse, gaps_rev, List.map_map]
  refine List.map_congr_left fun g hg => ?_
  have hg := List.mem_range'_1.mp hg
  show cutN o.reverse ts g = cutN o ts (n - g)
  unfold cutN
  have : ts.filter (cross o.reverse g) = ts.filter (cross o (n - g)) := List.filter_congr fun t ht => cross_rev hn hl (h t ht).1 (h t ht).2 ⟨by omega, by omega⟩
  rw [this]
end Q
end

section
set_option Elab.async false
set_option linter.all false
set_option maxRecDepth 100000
set_option maxHeartbeats 2000000
namespace K17
open Nr Q
abbrev pW (n : Nat) (ts : List (Nat × Nat)) : PV := .obj 3 [(2, pI n), (3, pTs ts)]
def wh (o : List Nat) (n : Nat) : List Nat := (List.range n).map o.idxOf
theorem wh_len (o : List Nat) (n : Nat) : (wh o n).length = n := by simp [wh]
theorem wh_get (o : List Nat) (n a : Nat) (h : a < n) : (wh o n).getD a 0 = o.idxOf a := by
  simp [wh, List.getD_eq_getElem?_getD, h]
theorem wh_idx (o : List Nat) (n a : Nat) (h : a < n) : idxV (.tup ((wh o n).map pI)) (.int (a : Int)) = some (.int ((o.idxOf a : Nat) : Int)) := by
  rw [idx_pO _ _ (by rw [wh_len]; exact h), wh_get _ _ _ h]
theorem farI (i j : Nat) : (if (i : Int) - (j : Int) < 0 then -((i : Int) - (j : Int)) else (i : Int) - (j : Int)) = (((i - j) + (j - i) : Nat) : Int) := by
  split <;> omega
theorem ringI0 (n f : Nat) (h : f < n) : (if (n : Int) - (f : Int) < (f : Int) then (n : Int) - (f : Int) else (f : Int)) = ((if n - f < f then n - f else f : Nat) : Int) := by
  split <;> split <;> omega
/-- an order of so many places -/
structure Ord (n : Nat) (o : List Nat) : Prop where
  len : o.length = n
  mem : ∀ p, p < n → p ∈ o
  nd : o.Nodup
  few : n ≤ 10
/-- ties of so many places -/
structure Ties (n : Nat) (ts : List (Nat × Nat)) : Prop where
  len : ts.length ≤ 100
  lt : ∀ t ∈ ts, t.1 < n ∧ t.2 < n
theorem f2 : T17.fld 3 2 = true := rfl
theorem f3 : T17.fld 3 3 = true := rfl
theorem Ord.far {n : Nat} {o : List Nat} (h : Ord n o) {ts : List (Nat × Nat)} (ht : Ties n ts) : ∀ t ∈ ts, far o t < n := by
  intro t hm
  obtain ⟨h1, h2⟩ := ht.lt t hm
  have a := List.idxOf_lt_length_of_mem (h.mem _ h1)
  have b := List.idxOf_lt_length_of_mem (h.mem _ h2)
  rw [h.len] at a b
  unfold Q.far
  omega
theorem up1 {K M : Nat} (h : K + 1 ≤ M) : ∃ m, M = m + 1 ∧ K ≤ m := ⟨M - 1, by omega, by omega⟩
theorem L3t {M : Nat} (h : 1 ≤ M) (xs : List PV) (cells : List PV) : (callD T17 M).fn 3 [.tup xs] cells = .ok (.val (.bl true)) cells := by
  obtain ⟨m, rfl, hm⟩ := up1 h
  rw [fn_eq (fd := c_is_row_3) rfl rfl]; rfl
theorem L3l {M : Nat} (h : 1 ≤ M) (xs : List PV) (cells : List PV) : (callD T17 M).fn 3 [.lst xs] cells = .ok (.val (.bl true)) cells := by
  obtain ⟨m, rfl, hm⟩ := up1 h
  rw [fn_eq (fd := c_is_row_3) rfl rfl]; rfl
theorem L4 {M : Nat} (h : 2 ≤ M) {n : Nat} {o : List Nat} (ho : Ord n o) (cells : List PV) : (callD T17 M).fn 4 [pO o, pI n] cells = .ok (.val (.bl true)) cells := by
  obtain ⟨m, rfl, hm⟩ := up1 h
  rw [fn_eq (fd := c_is_order_4) rfl rfl]
  have h3 := L3t hm (o.map pI)
  have hr := it_rng1 n (by have := ho.few; omega)
  have hz : sizeOk n = true := szOk_le (by have := ho.few; omega)
  have hl := ho.len
  simp [c_is_order_4, startEnv, h3, ne_int, ho.len, hr, hz]
  rw [loopR_map (e := pI) (g := fun p => .bl true)]
  · have h1 := allV_map (List.range n) fun _ => true
    have h2 := allV_map o fun _ => true
    have e1 : (List.range n).all (fun _ => true) = true := by simp
    have e2 : o.all (fun _ => true) = true := by simp
    rw [e1] at h1
    rw [e2] at h2
    simp only [List.nil_append, R.bind_ok, view_tmp, ofOpt_some, up_all, h1, fresh_bl, ifV_t]
    simp [ho.len, hz]
    rw [loopR_map (e := pI) (g := fun p => .bl true)]
    · simp only [List.nil_append, R.bind_ok, view_tmp, ofOpt_some, up_all, h2, fresh_bl]
      simp
    · intro p hp acc
      simp [cmpF, isaOk, isaT, noEx]
  · intro p hp acc
    have hp : p < n := List.mem_range.mp hp
    have hi := in_pO o p
    simp [ho.mem p hp] at hi
    simp [cmpF, noEx, hi]
theorem L5 {M : Nat} (h : 3 ≤ M) {n : Nat} {o : List Nat} (ho : Ord n o) (ts : List (Nat × Nat)) (cells : List PV) : (callD T17 M).fn 5 [pW n ts, pO o] cells = .ok (.val (pO o)) cells := by
  obtain ⟨m, rfl, hm⟩ := up1 h
  rw [fn_eq (fd := c_want_order_5) rfl rfl]
  have h4 := L4 hm ho
  simp [c_want_order_5, startEnv, h4, f2, f3, List.lookup]
/-- a loop that appends, and what is behind it -/
theorem for_app {α : Type} {f : PV → St → R Fl} {e : α → PV} {xs : List α} {s : St} {F : St → R Fl} {X : FR} (g : α → PV) (I : List PV → St → Prop) (k : Nat) (h : ∀ x ∈ xs, ∀ a s, a.length < k → I a s → ∃ s', f (e x) s = .ok .nx s' ∧ I (a ++ [g x]) s') (hk : xs.length ≤ k) (hi : I [] s) (hF : ∀ s', I (xs.map g) s' → endF (F s') = X) : endF (thenS (forR f (xs.map e) s) F) = X := by
  obtain ⟨s', e1, h1⟩ := forR_app h (by simpa using hk) hi
  rw [e1]
  exact hF s' (by simpa using h1)
theorem L1 {M : Nat} (h : 1 ≤ M) (i : Int) (cells : List PV) : (callD T17 M).fn 1 [.int i] cells = .ok (.val (.bl true)) cells := by
  obtain ⟨m, rfl, hm⟩ := up1 h
  rw [fn_eq (fd := c_is_whole_1) rfl rfl]; rfl
theorem L2 {M : Nat} (h : 2 ≤ M) (i lo hi : Int) (cells : List PV) (h1 : lo ≤ i) (h2 : i ≤ hi) : (callD T17 M).fn 2 [.int i, .int lo, .int hi] cells = .ok (.val (.bl true)) cells := by
  obtain ⟨m, rfl, hm⟩ := up1 h
  have h1' := L1 hm
  rw [fn_eq (fd := c_is_number_2) rfl rfl]
  simp [c_is_number_2, startEnv, h1', h1, h2]
theorem L23 {M : Nat} (h : 3 ≤ M) (n : Nat) (t : Nat × Nat) (h1 : t.1 < t.2) (h2 : t.2 < n) (cells : List PV) : (callD T17 M).fn 7 [pT t, pI n] cells = .ok (.val (.bl true)) cells := by
  obtain ⟨m, rfl, hm⟩ := up1 h
  have h3 := L3t (show 1 ≤ m by omega)
  have a1 := fun cells => L2 hm (t.1 : Int) 0 ((n : Int) - 1) cells (by omega) (by omega)
  have a2 := fun cells => L2 hm (t.2 : Int) 0 ((n : Int) - 1) cells (by omega) (by omega)
  have e : allV (.lst [.bl true, .bl true]) = some (.bl true) := rfl
  have ix0 : idxV (pT t) (.int 0) = some (pI t.1) := rfl
  have ix1 : idxV (pT t) (.int 1) = some (pI t.2) := rfl
  have hz : sizeOk 2 = true := rfl
  have h0 := ne_int 2 2
  simp at h0
  rw [fn_eq (fd := c_is_tie_7) rfl rfl]
  simp [c_is_tie_7, startEnv, h3, a1, a2, e, loopR, cmpF, noEx, ix0, ix1, h1, hz, h0]
/-- ties that a web takes -/
structure WebOk (n : Nat) (ts : List (Nat × Nat)) : Prop where
  lt : ∀ t ∈ ts, t.1 < t.2 ∧ t.2 < n
  pw : ts.Pairwise lexLt
  len : ts.length ≤ 100
  pos : 0 < n
  few : n ≤ 10
theorem L34 {M : Nat} (h : 4 ≤ M) {n : Nat} {ts : List (Nat × Nat)} (hw : WebOk n ts) (cells : List PV) : (callD T17 M).mkI 3 [pI n, pTs ts] cells = .ok (.val (pW n ts)) cells := by
  obtain ⟨m, rfl, hm⟩ := up1 h
  have h2 := fun cells => L2 (show 2 ≤ m by omega) (n : Int) 1 10 cells (by have := hw.pos; omega) (by have := hw.few; omega)
  have h3 := L3t (show 1 ≤ m by omega) (ts.map pT)
  have hs := sorted_pT hw.pw (by have := hw.len; omega)
  have key : ∃ s', execS T17 (callD T17 m) c_Web___init___27.body ⟨[.own (.obj 3 []), .val (pI n), .val (pTs ts), .non, .non, .non], cells, true⟩ = .ok .nx s' ∧ ∃ u v w, s' = ⟨[.own (pW n ts), .val (pI n), .val (pTs ts), u, v, w], cells, true⟩ := by
    have hE := enumL_map ts 0
    simp [c_Web___init___27, h2, h3, enumL_map]
    refine for_ixB (fun i s => ∃ v w, s = ⟨[.own (.obj 3 []), .val (pI n), .val (pTs ts), .own (.lst ((ts.take i).map pT)), v, w], cells, true⟩) ?_ ⟨_, _, rfl⟩ ?_
    · rintro i hi s ⟨v, w, rfl⟩
      have hi' : i < ts.length := by simpa using hi
      have ht := hw.lt _ (List.getElem_mem hi')
      have hni : ts[i] ∉ ts.take i := by
        intro z
        obtain ⟨j, hj, e⟩ := List.getElem_of_mem z
        have hj2 : j < i := by simp at hj; omega
        rw [List.getElem_take] at e
        have := List.pairwise_iff_getElem.mp hw.pw j i (by omega) hi' hj2
        rw [e] at this
        rcases this with q | q <;> omega
      have h23 := L23 hm n ts[i] ht.1 ht.2
      have hin := in_pT ts[i] (ts.take i)
      simp [hni] at hin
      have hz : sizeOk (min i ts.length + 1) = true := szOk_le (by have := hw.len; omega)
      rw [List.getElem_zipIdx, Nat.zero_add]
      refine ⟨⟨[.own (.obj 3 []), .val (pI n), .val (pTs ts), .own (.lst ((ts.take (i + 1)).map pT)), .val (pI i), .val (pT ts[i])], cells, true⟩, ?_, _, _, rfl⟩
      rw [List.take_succ_eq_append_getElem hi']
      simp only [pT] at h23
      simp [bodyF, h23, hin, hz]
      rw [List.take_succ_eq_append_getElem (by simpa using hi')]
      simp
    · rintro s ⟨v, w, rfl⟩
      rw [List.length_zipIdx, List.take_length]
      refine ⟨⟨[.own (pW n ts), .val (pI n), .val (pTs ts), .own (.lst (ts.map pT)), v, w], cells, true⟩, ?_, _, _, _, rfl⟩
      simp [f2, f3, hs, fldPut]
  obtain ⟨s', e, u, v, w, rfl⟩ := key
  rw [mk_eq (f := 27) (fd := c_Web___init___27) rfl rfl rfl rfl]
  show iniF (execS T17 (callD T17 m) c_Web___init___27.body ⟨[.own (.obj 3 []), .val (pI n), .val (pTs ts), .non, .non, .non], cells, true⟩) = _
  rw [e, iniF_own]

theorem slc_lo (xs : List PV) (k : Nat) : slcV (.tup xs) (.int (k : Int)) .non = some (.tup (xs.drop k)) := by
  show some (PV.tup (cutL xs (if (k : Int) < 0 then ((k : Int) + xs.length).toNat else min (k : Int).toNat xs.length) xs.length)) = _
  have : ¬ (k : Int) < 0 := by omega
  rw [if_neg this, Int.toNat_natCast]
  unfold cutL
  by_cases c : k ≤ xs.length
  · rw [Nat.min_eq_left c, List.take_of_length_le (by simp)]
  · rw [Nat.min_eq_right (by omega), List.drop_of_length_le (Nat.le_refl _), List.drop_of_length_le (by omega), List.take_nil]
theorem slc_hi (xs : List PV) (k : Nat) : slcV (.tup xs) .non (.int (k : Int)) = some (.tup (xs.take k)) := by
  show some (PV.tup (cutL xs 0 (if (k : Int) < 0 then ((k : Int) + xs.length).toNat else min (k : Int).toNat xs.length))) = _
  have : ¬ (k : Int) < 0 := by omega
  rw [if_neg this, Int.toNat_natCast]
  unfold cutL
  rw [List.drop_zero, Nat.sub_zero]
  by_cases c : k ≤ xs.length
  · rw [Nat.min_eq_left c]
  · rw [Nat.min_eq_right (by omega), List.take_of_length_le (Nat.le_refl _), List.take_of_length_le (by omega)]
theorem slc_pO (o : List Nat) (k : Nat) : slcV (.tup (o.map pI)) .non (.int (k : Int)) = some (.tup ((o.take k).map pI)) := by
  rw [slc_hi, List.map_take]
/-! signs of a set -/
theorem shr_nat (x a : Nat) : bop .shr (.int (x : Int)) (.int (a : Int)) = some (.int ((x / 2 ^ a : Nat) : Int)) := by
  show (if decide (0 ≤ (a : Int)) then some (PV.int ((x : Int) / 2 ^ (a : Int).toNat)) else none) = _
  rw [decide_eq_true (show (0 : Int) ≤ (a : Int) by omega), if_pos rfl, Int.toNat_natCast]
  simp
theorem band_nat (x : Nat) : bop .band (.int (x : Int)) (.int 1) = some (.int ((x % 2 : Nat) : Int)) := by
  show (if decide (0 ≤ (x : Int)) && decide (0 ≤ (1 : Int)) then some (PV.int (((x : Int).toNat &&& (1 : Int).toNat : Nat) : Int)) else none) = _
  rw [decide_eq_true (show (0 : Int) ≤ (x : Int) by omega), Int.toNat_natCast]
  show some (PV.int ((x &&& 1 : Nat) : Int)) = _
  rw [Nat.and_one_is_mod]
def bitI (l : List Nat) (a : Nat) : Nat := if a ∈ l then 1 else 0
/-- a set of places below a number -/
structure SetOk (n : Nat) (l : List Nat) : Prop where
  nd : l.Nodup
  lt : ∀ p ∈ l, p < n
  few : n ≤ 10
theorem bit_of {n : Nat} {l : List Nat} (h : SetOk n l) {a : Nat} (ha : a < n) : bop .band (.int ((maskOf l / 2 ^ a : Nat) : Int)) (.int 1) = some (.int (bitI l a : Int)) := by
  rw [band_nat, mask_bit h.nd h.lt ha]; rfl
def outN (ts : List (Nat × Nat)) (l : List Nat) : Nat := (ts.filter fun t => decide (t.1 ∈ l) != decide (t.2 ∈ l)).length
theorem ne_bl (a b : Bool) : neV (.bl a) (.bl b) = some (.bl (a != b)) := by cases a <;> cases b <;> rfl
theorem forR_fapp {α : Type} {f : PV → St → R Fl} {e : α → PV} {p : α → Bool} {g : α → PV} {I : List PV → St → Prop} {k : Nat} : ∀ {xs : List α} {a : List PV} {s : St}, (∀ x ∈ xs, ∀ a s, a.length < k → I a s → ∃ s', f (e x) s = .ok .nx s' ∧ I (if p x then a ++ [g x] else a) s') → a.length + xs.length ≤ k → I a s → ∃ s', forR f (xs.map e) s = .ok .nx s' ∧ I (a ++ (xs.filter p).map g) s'
  | [], a, s, h, hk, hi => ⟨s, rfl, by simpa using hi⟩
  | x :: xs, a, s, h, hk, hi => by
    have hk' : a.length + (xs.length + 1) ≤ k := by simpa using hk
    obtain ⟨s1, e1, h1⟩ := h x List.mem_cons_self a s (by omega) hi
    obtain ⟨s2, e2, h2⟩ := forR_fapp (fun y hy => h y (List.mem_cons_of_mem _ hy)) (by
      split
      · rw [List.length_append]; simp only [List.length_cons, List.length_nil]; omega
      · omega) h1
    refine ⟨s2, by rw [List.map_cons, forR, e1, R.bind_ok]; exact e2, ?_⟩
    cases hp : p x <;> simp [hp] at h2 ⊢ <;> exact h2
theorem for_fapp {α : Type} {f : PV → St → R Fl} {e : α → PV} {xs : List α} {s : St} {F : St → R Fl} {X : FR} (p : α → Bool) (g : α → PV) (I : List PV → St → Prop) (k : Nat) (h : ∀ x ∈ xs, ∀ a s, a.length < k → I a s → ∃ s', f (e x) s = .ok .nx s' ∧ I (if p x then a ++ [g x] else a) s') (hk : xs.length ≤ k) (hi : I [] s) (hF : ∀ s', I ((xs.filter p).map g) s' → endF (F s') = X) : endF (thenS (forR f (xs.map e) s) F) = X := by
  obtain ⟨s', e1, h1⟩ := forR_fapp h (by simpa using hk) hi
  rw [e1]
  exact hF s' (by simpa using h1)
theorem lenset_pI (l : List Nat) (h : l.length ≤ 4000) : uop .lenset (.lst (l.map pI)) = some (pI (dd l)) := by
  show (asInts (l.map pI)).bind _ = _
  rw [map_pI, asInts_map]
  show (if decide ((l.map fun (n : Nat) => (n : Int)).length ≤ 4000) then some (PV.int ((onceI (l.map fun (n : Nat) => (n : Int))).length : Nat)) else none) = _
  rw [List.length_map, decide_eq_true h]; rfl
theorem Ord.idx {n : Nat} {o : List Nat} (h : Ord n o) {p : Nat} (hp : p < n) : o.idxOf p < n := by
  have := List.idxOf_lt_length_of_mem (h.mem _ hp)
  rwa [h.len] at this
theorem Ord.lt {n : Nat} {o : List Nat} (h : Ord n o) : ∀ p ∈ o, p < n := by
  intro p hp
  apply Classical.byContradiction
  intro c
  have := nodup_len (a := p :: List.range n) (b := o) (List.nodup_cons.mpr ⟨by simpa using c, List.nodup_range⟩) fun x hx => by
    rcases List.mem_cons.mp hx with e | e
    · rw [e]; exact hp
    · exact h.mem x (List.mem_range.mp e)
  rw [h.len, List.length_cons, List.length_range] at this
  omega
theorem Ord.set {n : Nat} {o : List Nat} (h : Ord n o) (g : Nat) : SetOk n (o.take g) := ⟨(List.take_sublist g o).nodup h.nd, fun p hp => h.lt p (List.mem_of_mem_take hp), h.few⟩
theorem cutR (n : Nat) (o : List Nat) (ts : List (Nat × Nat)) : (List.range (n - 1)).map (fun k => cutN o ts (k + 1)) = cutsL n o ts := by
  unfold cutsL gaps
  apply List.ext_getElem
  · simp
  · intro i h1 h2
    rw [List.getElem_map, List.getElem_map, List.getElem_range, List.getElem_range', Nat.one_mul, Nat.add_comm]
theorem L23c {M : Nat} (h : 1 ≤ M) {n : Nat} {o : List Nat} (ho : Ord n o) {ts : List (Nat × Nat)} (ht : Ties n ts) (cells : List PV) : (callD T17 M).fn 20 [pTs ts, pO o] cells = .ok (.tmp (.lst ((cutsL n o ts).map pI))) cells := by
  obtain ⟨m, rfl, hm⟩ := up1 h
  rw [fn_eq (fd := c__law_cuts_20) rfl rfl]
  have hr := it_rng2 1 n (by omega) (by have := ho.few; omega)
  simp only [Int.natCast_one] at hr
  have hz : sizeOk ts.length = true := szOk_le (by have := ht.len; omega)
  simp [c__law_cuts_20, startEnv, ho.len, hr]
  refine for_app (fun k => pI (cutN o ts k)) (fun acc s => ∃ u, s = ⟨[.val (pTs ts), .val (pO o), .own (.lst acc), u, .non, .non], cells, false⟩) 100 ?_ (by have := ho.few; simp; omega) ⟨_, rfl⟩ ?_
  · rintro g hg a s ha ⟨u, rfl⟩
    have hz1 : sizeOk (a.length + 1) = true := szOk_le (by omega)
    refine ⟨_, ?_, .val (pI g), rfl⟩
    simp [bodyF, hz]
    rw [loopR_fmap (e := pT) (p := cross o g) (g := fun _ => pI 1)]
    · have e : (ts.filter (cross o g)).map (fun _ => pI 1) = List.replicate (cutN o ts g) (pI 1) := by
        unfold cutN; rw [List.map_const']
      rw [List.nil_append, e]
      simp [hz1]
    · intro t hm acc
      obtain ⟨a1, a2⟩ := ht.lt t hm
      have sl := slc_pO o g
      have i1 := in_pO (o.take g) t.1
      have i2 := in_pO (o.take g) t.2
      generalize hq : o.take g = q at *
      simp only [pT, cmpF, asgT_2]
      simp [noEx, sl, i1, i2, ne_bl]
      have m1 : t.1 ∈ q ↔ o.idxOf t.1 < g := by rw [← hq]; exact mem_take (ho.mem _ a1)
      have m2 : t.2 ∈ q ↔ o.idxOf t.2 < g := by rw [← hq]; exact mem_take (ho.mem _ a2)
      unfold cross
      by_cases c1 : o.idxOf t.1 < g <;> by_cases c2 : o.idxOf t.2 < g <;> simp [m1, m2, c1, c2]
  · rintro s ⟨u, rfl⟩
    simp [cutsL, gaps]
theorem live_take {n : Nat} {o : List Nat} (ho : Ord n o) {ts : List (Nat × Nat)} (ht : Ties n ts) (g : Nat) : (ts.filter fun t => decide (t.1 ∈ o.take g) != decide (t.2 ∈ o.take g)).map (fun t => if t.1 ∈ o.take g then t.1 else t.2) = liveR o ts g := by
  unfold liveR
  have e : ts.filter (fun t => decide (t.1 ∈ o.take g) != decide (t.2 ∈ o.take g)) = ts.filter (cross o g) := List.filter_congr fun t h => by
    obtain ⟨a1, a2⟩ := ht.lt t h
    have m1 := mem_take (g := g) (ho.mem _ a1)
    have m2 := mem_take (g := g) (ho.mem _ a2)
    unfold cross
    by_cases c1 : o.idxOf t.1 < g <;> by_cases c2 : o.idxOf t.2 < g <;> simp [m1, m2, c1, c2]
  rw [e]
  refine List.map_congr_left fun t h => ?_
  have m1 := mem_take (g := g) (ho.mem _ (ht.lt t (List.mem_filter.mp h).1).1)
  by_cases c1 : o.idxOf t.1 < g
  · rw [if_pos c1, if_pos (m1.mpr c1)]
  · rw [if_neg c1, if_neg fun z => c1 (m1.mp z)]
theorem L28 {M : Nat} (h : 1 ≤ M) {n : Nat} {o : List Nat} (ho : Ord n o) {ts : List (Nat × Nat)} (ht : Ties n ts) (cells : List PV) : (callD T17 M).fn 25 [pTs ts, pO o] cells = .ok (.tmp (.lst ((livesL n o ts).map pI))) cells := by
  obtain ⟨m, rfl, hm⟩ := up1 h
  rw [fn_eq (fd := c__law_lives_25) rfl rfl]
  have hr := it_rng2 1 n (by omega) (by have := ho.few; omega)
  simp only [Int.natCast_one] at hr
  have hz : sizeOk ts.length = true := szOk_le (by have := ht.len; omega)
  simp [c__law_lives_25, startEnv, ho.len, hr]
  refine for_app (fun g => pI (liveN o ts g)) (fun acc s => ∃ u v, s = ⟨[.val (pTs ts), .val (pO o), .own (.lst acc), u, v, .non, .non], cells, false⟩) 100 ?_ (by have := ho.few; simp; omega) ⟨_, _, rfl⟩ ?_
  · rintro g hg a s ha ⟨u, v, rfl⟩
    have hz1 : sizeOk (a.length + 1) = true := szOk_le (by omega)
    have sl := slc_pO o g
    have key : dd (((ts.filter fun t => decide (t.1 ∈ o.take g) && !decide (t.2 ∈ o.take g)).map fun t => t.1) ++ ((ts.filter fun t => decide (t.2 ∈ o.take g) && !decide (t.1 ∈ o.take g)).map fun t => t.2)) = liveN o ts g := by
      unfold liveN
      rw [← live_take ho ht g]
      refine dd_congr fun x => ?_
      simp only [List.mem_append, List.mem_map, List.mem_filter]
      constructor
      · rintro (⟨t, ⟨h1, h2⟩, rfl⟩ | ⟨t, ⟨h1, h2⟩, rfl⟩)
        · simp at h2
          exact ⟨t, ⟨h1, by simp [h2.1, h2.2]⟩, by simp [h2.1]⟩
        · simp at h2
          exact ⟨t, ⟨h1, by simp [h2.1, h2.2]⟩, by simp [h2.2]⟩
      · rintro ⟨t, ⟨h1, h2⟩, rfl⟩
        by_cases c1 : t.1 ∈ o.take g <;> by_cases c2 : t.2 ∈ o.take g
        · simp [c1, c2] at h2
        · exact .inl ⟨t, ⟨h1, by simp [c1, c2]⟩, by simp [c1]⟩
        · exact .inr ⟨t, ⟨h1, by simp [c1, c2]⟩, by simp [c1]⟩
        · simp [c1, c2] at h2
    have hlen : (((ts.filter fun t => decide (t.1 ∈ o.take g) && !decide (t.2 ∈ o.take g)).map fun t => t.1) ++ ((ts.filter fun t => decide (t.2 ∈ o.take g) && !decide (t.1 ∈ o.take g)).map fun t => t.2)).length ≤ 200 := by
      have a1 := List.length_filter_le (fun t : Nat × Nat => decide (t.1 ∈ o.take g) && !decide (t.2 ∈ o.take g)) ts
      have a2 := List.length_filter_le (fun t : Nat × Nat => decide (t.2 ∈ o.take g) && !decide (t.1 ∈ o.take g)) ts
      have := ht.len
      rw [List.length_append, List.length_map, List.length_map]
      omega
    refine ⟨_, ?_, .val (pI g), .val (pO (o.take g)), rfl⟩
    generalize o.take g = q at *
    simp [bodyF, sl, hz]
    rw [loopR_fmap (e := pT) (p := fun t => decide (t.1 ∈ q) && !decide (t.2 ∈ q)) (g := fun t => pI t.1)]
    · simp [hz]
      rw [loopR_fmap (e := pT) (p := fun t => decide (t.2 ∈ q) && !decide (t.1 ∈ q)) (g := fun t => pI t.2)]
      · have e1 : (ts.filter fun t => decide (t.1 ∈ q) && !decide (t.2 ∈ q)).map (fun t => pI t.1) = ((ts.filter fun t => decide (t.1 ∈ q) && !decide (t.2 ∈ q)).map fun t => t.1).map pI := by rw [List.map_map]; rfl
        have e2 : (ts.filter fun t => decide (t.2 ∈ q) && !decide (t.1 ∈ q)).map (fun t => pI t.2) = ((ts.filter fun t => decide (t.2 ∈ q) && !decide (t.1 ∈ q)).map fun t => t.2).map pI := by rw [List.map_map]; rfl
        rw [List.nil_append, e1, e2]
        generalize (ts.filter fun t => decide (t.1 ∈ q) && !decide (t.2 ∈ q)).map (fun t => t.1) = A at *
        generalize (ts.filter fun t => decide (t.2 ∈ q) && !decide (t.1 ∈ q)).map (fun t => t.2) = B at *
        have hls := lenset_pI (A ++ B) (by omega)
        rw [key] at hls
        rw [List.length_append] at hlen
        have hz2 : sizeOk (A.length + B.length) = true := szOk_le (by omega)
        rw [List.map_append] at hls
        simp [addV, hz2, hls, hz1]
      · intro t hm acc
        have i1 := in_pO q t.1
        have i2 := in_pO q t.2
        simp only [pT, cmpF, asgT_2]
        by_cases c1 : t.1 ∈ q <;> by_cases c2 : t.2 ∈ q <;> simp [c1, c2] at i1 i2 <;> simp [noEx, i1, i2, c1, c2]
    · intro t hm acc
      have i1 := in_pO q t.1
      have i2 := in_pO q t.2
      simp only [pT, cmpF, asgT_2]
      by_cases c1 : t.1 ∈ q <;> by_cases c2 : t.2 ∈ q <;> simp [c1, c2] at i1 i2 <;> simp [noEx, i1, i2, c1, c2]
  · rintro s ⟨u, v, rfl⟩
    simp [livesL, gaps]

theorem few1_of {f g : Nat → FR} {n : Nat} : ∀ (l : List Nat), l.map f = l.map g → n ∈ l → f n = g n
  | [], _, h => by cases h
  | x :: xs, e, hm => by
      rw [List.map_cons, List.map_cons] at e
      injection e with e1 e2
      rcases List.mem_cons.mp hm with z | z
      · rw [z]; exact e1
      · exact few1_of xs e2 z
theorem W13 (cells : List PV) (m : Nat) : few.map (fun n => (callD T17 (m + 1)).fn 6 [pI n] cells) = few.map fun n => .ok (.val (.tup ((ords n).map pO))) cells := by kernel_rfl
/-- sizes of the rows of few places -/
def szOk : Bool := few.all fun n => (List.range (n + 1)).all fun k => (ordIter n k).length ≤ 120 && (ordIter n k).all fun r => r.length ≤ 10
theorem szOk_true : szOk = true := by decide +kernel
theorem sz_few {n k : Nat} (hn : n ∈ few) (hk : k ≤ n) : (ordIter n k).length ≤ 120 ∧ ∀ r ∈ ordIter n k, r.length ≤ 10 := by
  have h := szOk_true
  unfold szOk at h
  rw [List.all_eq_true] at h
  have h1 := h n hn
  rw [List.all_eq_true] at h1
  have h2 := h1 k (List.mem_range.mpr (by omega))
  rw [Bool.and_eq_true, List.all_eq_true] at h2
  exact ⟨of_decide_eq_true h2.1, fun r hr => of_decide_eq_true (h2.2 r hr)⟩
theorem few_le {n : Nat} (hn : n ∈ few) : 0 < n ∧ n ≤ 5 := by
  simp only [few, List.mem_cons, List.not_mem_nil, or_false] at hn
  omega
def ext (n : Nat) (r : List Nat) : List (List Nat) := ((List.range n).filter fun p => !r.contains p).map fun p => r ++ [p]
theorem take_flat (n : Nat) (rows : List (List Nat)) (i : Nat) : ((rows.take i).flatMap (ext n)).length ≤ (ordStep n rows).length := by
  have : ordStep n rows = (rows.take i).flatMap (ext n) ++ (rows.drop i).flatMap (ext n) := by
    rw [← List.flatMap_append, List.take_append_drop]; rfl
  rw [this, List.length_append]; omega
theorem flat_succ (n : Nat) (rows : List (List Nat)) (i : Nat) (hi : i < rows.length) : (rows.take (i + 1)).flatMap (ext n) = (rows.take i).flatMap (ext n) ++ ext n rows[i] := by
  rw [List.take_succ_eq_append_getElem hi, List.flatMap_append]; simp
theorem L26 {M : Nat} (h : 1 ≤ M) {n : Nat} (hn : n ∈ few) (cells : List PV) : (callD T17 M).fn 19 [pI n] cells = .ok (.val (.lst ((ords n).map pO))) cells := by
  obtain ⟨m, rfl, hm⟩ := up1 h
  rw [fn_eq (fd := c__law_orders_19) rfl rfl]
  have hn5 := few_le hn
  have hr := it_rng1 n (by omega)
  have hz : sizeOk n = true := szOk_le (by omega)
  simp [c__law_orders_19, startEnv, hr]
  refine for_ixE (fun k s => ∃ u v w, s = ⟨[.val (pI n), if k = 0 then .own (.lst ((ordIter n k).map pO)) else .val (.lst ((ordIter n k).map pO)), u, v, w, .non], cells, false⟩) ?_ ⟨_, _, _, rfl⟩ ?_
  · rintro k hk s ⟨u, v, w, rfl⟩
    have hk : k < n := by simpa using hk
    obtain ⟨z1, z2⟩ := sz_few hn (show k ≤ n by omega)
    obtain ⟨z3, z4⟩ := sz_few hn (show k + 1 ≤ n by omega)
    have key : ∀ sl : Slot, sl = .own (.lst ((ordIter n k).map pO)) ∨ sl = .val (.lst ((ordIter n k).map pO)) → ∃ s', bodyF T17 (callD T17 m) (.var 2) (.seq (.asg (.var 3) (.lst .nil))
    (.seq (.for_ false (.var 4) .seq (.cons (.var 1) .nil) (.asg (.var 3) (.bin .add (.var 3) (.comp false (.var 5) .rng1 (.cons (.var 0) .nil) (.bin .notin (.var 5) (.var 4)) (.bin .add (.var 4) (.tup (.cons (.var 5) .nil)))))))
    (.asg (.var 1) (.var 3)))) (pI k) ⟨[.val (pI n), sl, u, v, w, .non], cells, false⟩ = .ok .nx s' ∧ ∃ u v w, s' = ⟨[.val (pI n), .val (.lst ((ordIter n (k + 1)).map pO)), u, v, w, .non], cells, false⟩ := by
      intro sl hsl
      have inner : ∃ s2, thenS (forR (bodyF T17 (callD T17 m) (.var 4) (.asg (.var 3) (.bin .add (.var 3) (.comp false (.var 5) .rng1 (.cons (.var 0) .nil) (.bin .notin (.var 5) (.var 4)) (.bin .add (.var 4) (.tup (.cons (.var 5) .nil))))))) ((ordIter n k).map pO) ⟨[.val (pI n), .val (.lst ((ordIter n k).map pO)), .val (pI k), .own (.lst []), w, .non], cells, false⟩) (fun s1 => execS T17 (callD T17 m) (.asg (.var 1) (.var 3)) s1) = .ok .nx s2 ∧ ∃ u v w, s2 = ⟨[.val (pI n), .val (.lst ((ordIter n (k + 1)).map pO)), u, v, w, .non], cells, false⟩ := by
        refine for_ixB (fun i s => ∃ w, s = ⟨[.val (pI n), .val (.lst ((ordIter n k).map pO)), .val (pI k), .own (.lst ((((ordIter n k).take i).flatMap (ext n)).map pO)), w, .non], cells, false⟩) ?_ ⟨_, rfl⟩ ?_
        · rintro i hi s ⟨w, rfl⟩
          have hf := flat_succ n (ordIter n k) i hi
          have ht := take_flat n (ordIter n k) (i + 1)
          have hl := z2 _ (List.getElem_mem hi)
          rw [hf, List.length_append] at ht
          have z3' : (ordStep n (ordIter n k)).length ≤ 120 := z3
          generalize hrow : (ordIter n k)[i] = row at *
          have hsz : sizeOk ((((ordIter n k).take i).flatMap (ext n)).length + (ext n row).length) = true := szOk_le (by omega)
          have hsr : sizeOk (row.length + 1) = true := szOk_le (by omega)
          refine ⟨_, ?_, .val (pO row), rfl⟩
          simp [bodyF, hr, hz]
          rw [loopR_fmap (e := pI) (p := fun p => !row.contains p) (g := fun p => pO (row ++ [p]))]
          · rw [hf]
            have hel : (ext n row).length = ((List.range n).filter fun p => !decide (p ∈ row)).length := by simp [ext]
            rw [hel] at hsz
            simp at hsz
            simp [addV, hsz]
            simp [ext]
          · intro p hp acc
            have hin := in_pO row p
            by_cases c : p ∈ row
            · simp [c] at hin
              simp [cmpF, noEx, hin, c]
            · simp [c] at hin
              simp [cmpF, noEx, hin, c, addV, hsr]
        · rintro s ⟨w, rfl⟩
          simp
          rfl
      obtain ⟨s2, e2, h2⟩ := inner
      refine ⟨s2, ?_, h2⟩
      rcases hsl with rfl | rfl
      · simp [bodyF]
        exact e2
      · simp [bodyF]
        exact e2
    rw [show (List.range n)[k] = k by simp]
    have hk1 : k + 1 ≠ 0 := by omega
    simp only [hk1, if_false]
    by_cases hk0 : k = 0
    · rw [if_pos hk0]
      exact key _ (.inl rfl)
    · rw [if_neg hk0]
      exact key _ (.inr rfl)
  · rintro s ⟨u, v, w, rfl⟩
    have : n ≠ 0 := by omega
    simp [this, ords]
theorem L13 {M : Nat} (h : 1 ≤ M) {n : Nat} (hn : n ∈ few) (cells : List PV) : (callD T17 M).fn 6 [pI n] cells = .ok (.val (.tup ((ords n).map pO))) cells := by
  obtain ⟨m, rfl, hm⟩ := up1 h
  exact few1_of (f := fun n => (callD T17 (m + 1)).fn 6 [pI n] cells) (g := fun n => .ok (.val (.tup ((ords n).map pO))) cells) few (W13 cells m) hn
def ndOk : Bool := few.all fun n => (ords n).all fun o => decide o.Nodup
theorem ndOk_true : ndOk = true := by decide +kernel
theorem ok_of {n : Nat} (hn : n ∈ few) {o : List Nat} (ho : o ∈ ords n) : ok1 n o = true := by
  have h := okAll_true
  unfold okAll at h
  rw [List.all_eq_true] at h
  have h1 := h n hn
  rw [List.all_eq_true] at h1
  exact h1 o ho
theorem nd_of {n : Nat} (hn : n ∈ few) {o : List Nat} (ho : o ∈ ords n) : o.Nodup := by
  have h := ndOk_true
  unfold ndOk at h
  rw [List.all_eq_true] at h
  have h1 := h n hn
  rw [List.all_eq_true] at h1
  exact of_decide_eq_true (h1 o ho)
theorem ord_of {n : Nat} (hn : n ∈ few) {o : List Nat} (ho : o ∈ ords n) : Ord n o := by
  have h := ok_of hn ho
  unfold ok1 at h
  simp only [Bool.and_eq_true] at h
  obtain ⟨⟨⟨⟨⟨h1, h2⟩, h3⟩, h4⟩, h5⟩, h6⟩ := h
  refine ⟨by simpa using h5, fun p hp => ?_, nd_of hn ho, by have := few_le hn; omega⟩
  rw [List.all_eq_true] at h6
  have := h6 p (List.mem_range.mpr hp)
  simp only [Bool.and_eq_true] at this
  simpa using this.1
/-- the least of a row -/
def minL : List Nat → Nat
  | [] => 0
  | x :: xs => minFrom x xs
theorem minL_v {l : List Nat} (h : l ≠ []) : minV (.lst (l.map pI)) = some (pI (minL l)) := by
  cases l with
  | nil => exact absurd rfl h
  | cons x xs => exact min_lst x xs
theorem minL_in {l : List Nat} (h : l ≠ []) : minL l ∈ l := by
  cases l with
  | nil => exact absurd rfl h
  | cons x xs =>
    rcases (minFrom_le xs x).2.2 with e | e
    · show minFrom x xs ∈ _
      rw [e]; exact List.mem_cons_self
    · exact List.mem_cons_of_mem _ e
theorem minL_le {l : List Nat} {x : Nat} (h : x ∈ l) : minL l ≤ x := by
  cases l with
  | nil => cases h
  | cons y ys =>
    rcases List.mem_cons.mp h with e | e
    · rw [e]; exact (minFrom_le ys y).1
    · exact (minFrom_le ys y).2.1 x e
theorem neOk : few.all (fun n => !(ords n).isEmpty) = true := by decide +kernel
theorem ords_ne {n : Nat} (hn : n ∈ few) : ords n ≠ [] := by
  have h := neOk
  rw [List.all_eq_true] at h
  have := h n hn
  intro e
  rw [e] at this
  cases this
theorem count_lst (l : List Nat) (k : Int) : bop .count (.lst (l.map pI)) (.int k) = some (.int (((l.map fun (n : Nat) => (n : Int)).count k : Nat) : Int)) := by
  show (asInts (l.map pI)).map _ = _
  rw [map_pI, asInts_map]; rfl
inductive Kd | st | cu | su | li | wa
def ks : Kd → PySem.Str
  | .st => "stretch" | .cu => "cut" | .su => "sum" | .li => "live" | .wa => "wait"
def isSW : Kd → Bool
  | .su => true | .wa => true | _ => false
def isLW : Kd → Bool
  | .li => true | .wa => true | _ => false
def isCu : Kd → Bool
  | .cu => true | _ => false
def rowK (k : Kd) (n : Nat) (o : List Nat) (ts : List (Nat × Nat)) : List Nat := if isLW k then livesL n o ts else if isCu k then cutsL n o ts else ts.map (far o)
def mea (k : Kd) (n : Nat) (o : List Nat) (ts : List (Nat × Nat)) : Nat := if isSW k then (rowK k n o ts).sum else maxFrom 0 (rowK k n o ts)
theorem in_lwk (k : Kd) : inB (.str (ks k)) (.tup [.str "live", .str "wait"]) = some (isLW k) := by cases k <;> kernel_rfl
theorem in_swk (k : Kd) : inB (.str (ks k)) (.tup [.str "sum", .str "wait"]) = some (isSW k) := by cases k <;> kernel_rfl
theorem eq_cutk (k : Kd) : eqV (.str (ks k)) (.str "cut") = some (.bl (isCu k)) := by cases k <;> kernel_rfl
theorem eqk (k : Kd) : eqV (.str (ks k)) (.str "live") = some (.bl (match k with | .li => true | _ => false)) ∧ eqV (.str (ks k)) (.str "wait") = some (.bl (match k with | .wa => true | _ => false)) ∧ eqV (.str (ks k)) (.str "sum") = some (.bl (match k with | .su => true | _ => false)) := by
  cases k <;> exact ⟨by kernel_rfl, by kernel_rfl, by kernel_rfl⟩
theorem row_len {k : Kd} {n : Nat} {o : List Nat} {ts : List (Nat × Nat)} (hn : n ≤ 10) (ht : ts.length ≤ 100) : (rowK k n o ts).length ≤ 100 := by
  cases k <;> simp [rowK, isLW, isCu, livesL, cutsL, gaps] <;> omega
theorem L24 {M : Nat} (h : 2 ≤ M) (k : Kd) {n : Nat} {o : List Nat} (ho : Ord n o) {ts : List (Nat × Nat)} (ht : Ties n ts) (cells : List PV) : (callD T17 M).fn 21 [pTs ts, pO o, .str (ks k)] cells = .ok (.val (pI (mea k n o ts))) cells := by
  obtain ⟨m, rfl, hm⟩ := up1 h
  rw [fn_eq (fd := c__law_measure_21) rfl rfl]
  obtain ⟨k1, k2, k4⟩ := eqk k
  have k3 := eq_cutk k
  have hr := it_rng1 n (by have := ho.few; omega)
  have hz : sizeOk n = true := szOk_le (by have := ho.few; omega)
  have hzt : sizeOk ts.length = true := szOk_le (by have := ht.len; omega)
  have hd := dict_row o ho.nd
  rw [ho.len] at hd
  simp only [pI, pO] at hd
  have h28 := L28 (M := m) (by omega) ho ht
  have h23 := L23c (M := m) (by omega) ho ht
  have hl := row_len (k := k) (o := o) ho.few ht.len
  have hzr : sizeOk ((rowK k n o ts).length + 1) = true := szOk_le (by omega)
  have hmx := max_lst0 (rowK k n o ts)
  have hs := sum_lst (rowK k n o ts)
  simp [c__law_measure_21, startEnv, ho.len, hr, hz]
  rw [loopR_map (e := pI) (g := fun p => .tup [pI (o.getD p 0), pI p])]
  · simp only [List.nil_append, R.bind_ok, view_tmp, ofOpt_some, up_dict, hd]
    simp [hzt]
    rw [loopR_map (e := pT) (g := fun t => pI (far o t))]
    · have e0 : ts.map (fun t => pI (far o t)) = (ts.map (far o)).map pI := by rw [List.map_map]; rfl
      rw [List.nil_append, e0]
      unfold mea
      unfold rowK at hzr hmx hs ⊢
      generalize ks k = kk at *
      generalize livesL n o ts = rA at *
      generalize cutsL n o ts = rB at *
      generalize ts.map (far o) = rC at *
      cases k <;> simp only [isLW, isSW, isCu, if_true, if_false, Bool.false_eq_true] at hzr hmx hs k1 k2 k3 k4 ⊢ <;> simp [k1, k2, k3, k4, h28, h23, addV, hzr, Nat.add_comm 1, hmx, hs]
    · intro t hm acc
      obtain ⟨h1, h2⟩ := ht.lt t hm
      have hf := farI (o.idxOf t.1) (o.idxOf t.2)
      simp only [pT, cmpF, asgT_2]
      simp [noEx, idx_dct o _ (ho.mem _ h1), idx_dct o _ (ho.mem _ h2), -Int.natCast_add]
      exact hf
  · intro p hp acc
    have hp : p < n := List.mem_range.mp hp
    have hi := idx_pO o p (by rw [ho.len]; exact hp)
    simp [cmpF, noEx, hi]
/-- the first of the least -/
def firstK (k : Kd) (n : Nat) (ts : List (Nat × Nat)) : Nat := ((ords n).map fun o => mea k n o ts).idxOf (minL ((ords n).map fun o => mea k n o ts))
theorem L25 {M : Nat} (h : 3 ≤ M) (k : Kd) {n : Nat} (hn : n ∈ few) {ts : List (Nat × Nat)} (ht : Ties n ts) (cells : List PV) : ∃ c : Nat, (callD T17 M).fn 22 [.tup [pI n, pTs ts], .str (ks k)] cells = .ok (.val (.tup [pI (minL ((ords n).map fun o => mea k n o ts)), pO ((ords n).getD (firstK k n ts) []), pI c])) cells := by
  obtain ⟨m, rfl, hm⟩ := up1 h
  have i1 : idxV (.tup [pI n, pTs ts]) (.int 1) = some (pTs ts) := rfl
  have i0 : idxV (.tup [pI n, pTs ts]) (.int 0) = some (pI n) := rfl
  have h26 := L26 (M := m) (by omega) hn
  have hz : sizeOk (ords n).length = true := szOk_le (by have := (sz_few hn (Nat.le_refl n)).1; exact Nat.le_trans this (by decide))
  obtain ⟨rows, hrows⟩ : ∃ rows, rows = (ords n).map fun o => mea k n o ts := ⟨_, rfl⟩
  have hne : rows ≠ [] := by
    intro e
    rw [hrows] at e
    exact ords_ne hn (List.map_eq_nil_iff.mp e)
  have hmin := minL_v hne
  have hmem := minL_in hne
  have hix := ix_lI _ _ hmem
  have hlt := List.idxOf_lt_length_of_mem hmem
  have hlen : rows.length = ((ords n).map pO).length := by rw [hrows]; simp
  rw [hlen] at hlt
  have hid := idx_lst ((ords n).map pO) (rows.idxOf (minL rows)) hlt
  have hv : ((ords n).map pO)[rows.idxOf (minL rows)]'hlt = pO ((ords n).getD (rows.idxOf (minL rows)) []) := by
    rw [List.getElem_map]
    rw [List.length_map] at hlt
    simp [List.getD_eq_getElem?_getD, hlt]
  rw [hv] at hid
  have hc := count_lst rows (minL rows)
  refine ⟨(rows.map fun (n : Nat) => (n : Int)).count (minL rows : Int), ?_⟩
  unfold firstK
  rw [← hrows]
  generalize (ords n).getD (rows.idxOf (minL rows)) [] = fo at *
  rw [fn_eq (fd := c__law_least_22) rfl rfl]
  simp [c__law_least_22, startEnv, i0, i1, h26, hz]
  rw [loopR_map (e := pO) (g := fun o => pI (mea k n o ts))]
  · have e : (ords n).map (fun o => pI (mea k n o ts)) = rows.map pI := by rw [hrows]; simp
    rw [List.nil_append, e]
    simp [hmin, hix, i0, h26, hid, hc]
  · intro o ho acc
    have h28 := L24 (M := m) (by omega) k (ord_of hn ho) ht
    simp [cmpF, noEx, i1, h28]
/-- the orders of few places rise -/
def riseOk : Bool := few.all fun n => n == 5 || (List.range (ords n).length).all fun i => (List.range i).all fun j => !pvLt (pO ((ords n).getD i [])) (pO ((ords n).getD j []))
theorem nx_then (T : Tab) (cf : CallF) {a b : CS} {s s' : St} (h : execS T cf a s = .ok .nx s') : execS T cf (.seq a b) s = execS T cf b s' := by
  show thenS (execS T cf a s) _ = _
  rw [h]; rfl
theorem web7 {M : Nat} (h : 2 ≤ M) (most : Nat) (h0 : 0 < most) (h1 : most ≤ 10) (ns : List Int) (i x y : Int) (hi : 0 ≤ i) : ∃ (n : Nat) (ts : List (Nat × Nat)) (i' x' y' : Int), 0 < n ∧ n ≤ most ∧ GoodT n n 0 ts ∧ 0 ≤ i' ∧ (callD T17 M).fn 18 [.loc 0, pI most] [pR ns i x y] = .ok (.val (.tup [pI n, pTs ts])) [pR ns i' x' y'] := by
  obtain ⟨m, rfl, hm⟩ := up1 h
  obtain ⟨n, ts, i', x', y', h1, h2, h3, h4, e⟩ := web T17 (callD T17 m) 16 most ns h0 h1 (fun k i x y hk hk2 hi => Nr.L24 (fd := c__law_taken_16) (f24 := 16) rfl rfl hm k hk hk2 ns i x y hi) i x y hi
  refine ⟨n, ts, i', x', y', h1, h2, h3, h4, ?_⟩
  rw [fn_eq (fd := c__law_web_18) rfl rfl]
  exact e
theorem ord7 {M : Nat} (h : 2 ≤ M) {n : Nat} (hn : n ≤ 10) (ns : List Int) (i x y : Int) (hi : 0 ≤ i) : ∃ (o : List Nat) (i' x' y' : Int), o.Perm (List.range n) ∧ 0 ≤ i' ∧ (callD T17 M).fn 23 [.loc 0, pI n] [pR ns i x y] = .ok (.val (pO o)) [pR ns i' x' y'] := by
  obtain ⟨m, rfl, hm⟩ := up1 h
  obtain ⟨o, i', x', y', h3, h4, e⟩ := order T17 (callD T17 m) 16 n hn ns (fun k i x y hk hk2 hi => Nr.L24 (fd := c__law_taken_16) (f24 := 16) rfl rfl hm k hk hk2 ns i x y hi) i x y hi
  refine ⟨o, i', x', y', h3, h4, ?_⟩
  rw [fn_eq (fd := c__law_order_23) rfl rfl]
  exact e
theorem goodW {n : Nat} {ts : List (Nat × Nat)} (hg : GoodT n n 0 ts) (h0 : 0 < n) (h7 : n ≤ 7) : WebOk n ts := ⟨fun t ht => ⟨(hg.lt t ht).1, (hg.lt t ht).2.1⟩, hg.pw, by have := hg.len; omega, h0, by omega⟩
theorem goodTies {n : Nat} {ts : List (Nat × Nat)} (hw : WebOk n ts) : Ties n ts := ⟨hw.len, fun t h => by have := hw.lt t h; omega⟩
theorem ordP {n : Nat} {o : List Nat} (h : o.Perm (List.range n)) (hn : n ≤ 10) : Ord n o := ⟨by rw [h.length_eq, List.length_range], fun p hp => h.mem_iff.mpr (List.mem_range.mpr hp), h.nodup_iff.mpr List.nodup_range, hn⟩
theorem ordRev {n : Nat} {o : List Nat} (h : Ord n o) : Ord n o.reverse := ⟨by rw [List.length_reverse, h.len], fun p hp => List.mem_reverse.mpr (h.mem p hp), (List.reverse_perm o).nodup_iff.mpr h.nd, h.few⟩
theorem out_cut {n : Nat} {o : List Nat} (ho : Ord n o) {ts : List (Nat × Nat)} (ht : Ties n ts) (g : Nat) : outN ts (o.take g) = cutN o ts g := by
  unfold outN cutN
  congr 1
  refine List.filter_congr fun t h => ?_
  unfold cross
  have a := mem_take (g := g) (ho.mem _ (ht.lt t h).1)
  have b := mem_take (g := g) (ho.mem _ (ht.lt t h).2)
  rw [decide_eq_decide.mpr a, decide_eq_decide.mpr b]
end K17
end

section
set_option Elab.async false
set_option linter.all false
set_option maxRecDepth 100000
namespace Nr
open Q
section
variable {T : Tab} {cf : CallF}
@[simp] theorem ev_meth (m : Nat) (a es : CE) (s : St) : evalE T cf (.meth m a es) s = (evalE T cf a s).bind fun x s1 => (ofOpt (methOf T m s1 x) s1).bind fun f _ => (evalEs T cf es s1).bind fun rs s2 => (toVals (x :: rs) s2).bind fun vs s3 => inSt (cf.fn f vs s3.cells) s3 := id rfl
theorem aug_add (i : Nat) (e : CE) (a b : Int) (env : List Slot) (cells : List PV) (h : evalE T cf e ⟨env, cells, false⟩ = .ok (.val (.int b)) ⟨env, cells, false⟩) (h2 : env.getD i .non = .val (.int a)) : execS T cf (.aug i .add e) ⟨env, cells, false⟩ = .ok .nx ⟨env.set i (.val (.int (a + b))), cells, false⟩ := by
  have h1 : evalE T cf (.var i) ⟨env, cells, false⟩ = .ok (.val (.int a)) ⟨env, cells, false⟩ := by rw [ev_var, h2]; rfl
  rw [execS, h1, R.bind_ok, h, R.bind_ok]
  rfl
@[simp] theorem asgT_3 (a b c : Tg) (x y z : PV) (s : St) : asgT (.cons a (.cons b (.cons c .nil))) (.tup [x, y, z]) s = (asgT a x s).bind fun _ s1 => (asgT b y s1).bind fun _ s1 => (asgT c z s1).bind fun _ s1 => .ok () s1 := id rfl
end
theorem methOf_obj {T : Tab} {m c : Nat} {fs : List (Nat × PV)} {s : St} {f : Nat} (h1 : T.mth c m = some f) (h2 : fs.all (fun p => T.fld c p.1) = true) : methOf T m s (.val (.obj c fs)) = some f := by
  show (if fs.all (fun p => T.fld c p.1) then T.mth c m else none) = _
  rw [h2, if_pos rfl, h1]
/-- a while whose states are known -/
theorem whileR_to {c : St → R Bool} {f : St → R Fl} (S : Nat → St) (k : Nat) (h1 : ∀ i, i < k → c (S i) = .ok true (S i) ∧ f (S i) = .ok .nx (S (i + 1))) (h2 : c (S k) = .ok false (S k)) : ∀ (d i fuel : Nat), i + d = k → d < fuel → whileR c f fuel (S i) = .ok .nx (S k)
  | 0, i, fuel + 1, hd, _ => by
    have e : i = k := by omega
    subst e
    rw [whileR, h2]; rfl
  | d + 1, i, fuel + 1, hd, hf => by
    obtain ⟨e1, e2⟩ := h1 i (by omega)
    rw [whileR, e1, R.bind_ok, if_pos rfl, e2]
    exact whileR_to S k h1 h2 d (i + 1) fuel (by omega) (by omega)
def findR {α : Type} (r : α → RV) (s : St) : Option α → R Fl
  | some x => .ok (.ret (r x)) s
  | none => .ok .nx s
/-- a loop that returns at the first that fits -/
theorem forR_find {α : Type} {f : PV → St → R Fl} {e : α → PV} (p : α → Bool) (r : α → RV) (S : Slot → St) : ∀ {xs : List α}, (∀ x ∈ xs, ∀ v, f (e x) (S v) = if p x then .ok (.ret (r x)) (S (.val (e x))) else .ok .nx (S (.val (e x)))) → ∀ v, ∃ v', forR f (xs.map e) (S v) = findR r (S v') (xs.find? p)
  | [], _, v => ⟨v, rfl⟩
  | x :: xs, h, v => by
    have hx := h x List.mem_cons_self v
    rw [List.map_cons, List.find?_cons]
    cases hp : p x with
    | true =>
      rw [hp, if_pos rfl] at hx
      refine ⟨.val (e x), ?_⟩
      rw [forR, hx]; rfl
    | false =>
      rw [hp] at hx
      obtain ⟨v', e'⟩ := forR_find p r S (xs := xs) (fun y hy => h y (List.mem_cons_of_mem _ hy)) (.val (e x))
      refine ⟨v', ?_⟩
      rw [forR, hx]
      exact e'
def ov : Option (List Nat) → PV
  | some o => pO o
  | none => .non
theorem ne_ov (x : Option (List Nat)) : neV (ov x) (ov x) = some (.bl false) := by
  cases x with
  | none => rfl
  | some o =>
    show neV (.tup (o.map pI)) (.tup (o.map pI)) = _
    rw [ne_pO]; simp
theorem idx_head (l : List (List Nat)) : idxV (.lst (l.map pO ++ [.non])) (.int 0) = some (ov l.head?) := by
  cases l with
  | nil => rfl
  | cons a l =>
    have := idx_lst ((a :: l).map pO ++ [.non]) 0 (by simp)
    simpa [ov] using this
end Nr
end

section
set_option Elab.async false
set_option linter.all false
set_option maxRecDepth 100000
set_option maxHeartbeats 2000000
namespace K17
open Nr Q
theorem L34l {M : Nat} (h : 4 ≤ M) {n : Nat} {ts : List (Nat × Nat)} (hw : WebOk n ts) (cells : List PV) : (callD T17 M).mkI 3 [pI n, .lst (ts.map pT)] cells = .ok (.val (pW n ts)) cells := by
  obtain ⟨m, rfl, hm⟩ := up1 h
  have h2 := fun cells => L2 (show 2 ≤ m by omega) (n : Int) 1 10 cells (by have := hw.pos; omega) (by have := hw.few; omega)
  have h3 := L3l (show 1 ≤ m by omega) (ts.map pT)
  have hs := sorted_pT hw.pw (by have := hw.len; omega)
  have key : ∃ s', execS T17 (callD T17 m) c_Web___init___27.body ⟨[.own (.obj 3 []), .val (pI n), .val (.lst (ts.map pT)), .non, .non, .non], cells, true⟩ = .ok .nx s' ∧ ∃ u v w, s' = ⟨[.own (pW n ts), .val (pI n), .val (.lst (ts.map pT)), u, v, w], cells, true⟩ := by
    have hE := enumL_map ts 0
    have hit : itemsOf .enum [.lst (ts.map pT)] = some (enumL 0 (ts.map pT)) := rfl
    simp [c_Web___init___27, h2, h3, hit, enumL_map]
    refine for_ixB (fun i s => ∃ v w, s = ⟨[.own (.obj 3 []), .val (pI n), .val (.lst (ts.map pT)), .own (.lst ((ts.take i).map pT)), v, w], cells, true⟩) ?_ ⟨_, _, rfl⟩ ?_
    · rintro i hi s ⟨v, w, rfl⟩
      have hi' : i < ts.length := by simpa using hi
      have ht := hw.lt _ (List.getElem_mem hi')
      have hni : ts[i] ∉ ts.take i := by
        intro z
        obtain ⟨j, hj, e⟩ := List.getElem_of_mem z
        have hj2 : j < i := by simp at hj; omega
        rw [List.getElem_take] at e
        have := List.pairwise_iff_getElem.mp hw.pw j i (by omega) hi' hj2
        rw [e] at this
        rcases this with q | q <;> omega
      have h23 := L23 hm n ts[i] ht.1 ht.2
      have hin := in_pT ts[i] (ts.take i)
      simp [hni] at hin
      have hz : sizeOk (min i ts.length + 1) = true := szOk_le (by have := hw.len; omega)
      rw [List.getElem_zipIdx, Nat.zero_add]
      refine ⟨⟨[.own (.obj 3 []), .val (pI n), .val (.lst (ts.map pT)), .own (.lst ((ts.take (i + 1)).map pT)), .val (pI i), .val (pT ts[i])], cells, true⟩, ?_, _, _, rfl⟩
      rw [List.take_succ_eq_append_getElem hi']
      simp only [pT] at h23
      simp [bodyF, h23, hin, hz]
      rw [List.take_succ_eq_append_getElem (by simpa using hi')]
      simp
    · rintro s ⟨v, w, rfl⟩
      rw [List.length_zipIdx, List.take_length]
      refine ⟨⟨[.own (pW n ts), .val (pI n), .val (.lst (ts.map pT)), .own (.lst (ts.map pT)), v, w], cells, true⟩, ?_, _, _, _, rfl⟩
      simp [f2, f3, hs, fldPut]
  obtain ⟨s', e, u, v, w, rfl⟩ := key
  rw [mk_eq (f := 27) (fd := c_Web___init___27) rfl rfl rfl rfl]
  show iniF (execS T17 (callD T17 m) c_Web___init___27.body ⟨[.own (.obj 3 []), .val (pI n), .val (.lst (ts.map pT)), .non, .non, .non], cells, true⟩) = _
  rw [e, iniF_own]

def bandT (n f : Nat) : List (Nat × Nat) := (pairs n).filter fun t => decide (t.2 ≤ f + t.1)
def nfs : List (Nat × Nat) := [(1, 0), (1, 1), (2, 0), (2, 1), (2, 2), (3, 0), (3, 1), (3, 2), (3, 3), (4, 0), (4, 1), (4, 2), (4, 3), (4, 4), (5, 0), (5, 1), (5, 2), (5, 3), (5, 4), (5, 5)]
theorem nfs_eq : nfs = few.flatMap fun n => (List.range (n + 1)).map fun f => (n, f) := rfl
theorem mem_nfs {n f : Nat} (hn : n ∈ few) (hf : f ≤ n) : (n, f) ∈ nfs := by
  rw [nfs_eq]
  exact List.mem_flatMap.mpr ⟨n, hn, List.mem_map.mpr ⟨f, List.mem_range.mpr (by omega), rfl⟩⟩
theorem of_map {α : Type} {f g : α → FR} {x : α} : ∀ {l : List α}, l.map f = l.map g → x ∈ l → f x = g x
  | a :: l, h, hx => by
    rw [List.map_cons, List.map_cons, List.cons.injEq] at h
    rcases List.mem_cons.mp hx with rfl | q
    · exact h.1
    · exact of_map h.2 q
theorem W8 (cells : List PV) (m : Nat) : ∀ n ∈ few, (callD T17 (m + 4)).fn 8 [pI n] cells = .ok (.val (.tup ((pairs n).map pT))) cells := by
  intro n hn
  simp only [few, List.mem_cons, List.not_mem_nil, or_false] at hn
  rcases hn with rfl | rfl | rfl | rfl | rfl <;> kernel_rfl
theorem L8 {M : Nat} (h : 4 ≤ M) {n : Nat} (hn : n ∈ few) (cells : List PV) : (callD T17 M).fn 8 [pI n] cells = .ok (.val (.tup ((pairs n).map pT))) cells := by
  obtain ⟨m, rfl⟩ : ∃ m, M = m + 4 := ⟨M - 4, by omega⟩
  exact W8 cells m n hn
def lexB (a b : Nat × Nat) : Bool := decide (a.1 < b.1) || (decide (a.1 = b.1) && decide (a.2 < b.2))
def pwB : List (Nat × Nat) → Bool
  | [] => true
  | a :: l => l.all (lexB a) && pwB l
theorem pwB_ok : ∀ {l : List (Nat × Nat)}, pwB l = true → l.Pairwise lexLt
  | [], _ => .nil
  | a :: l, h => by
    rw [pwB, Bool.and_eq_true, List.all_eq_true] at h
    refine .cons (fun b hb => ?_) (pwB_ok h.2)
    have := h.1 b hb
    simp only [lexB, Bool.or_eq_true, Bool.and_eq_true, decide_eq_true_eq] at this
    exact this
theorem pairs_pw {n : Nat} (hn : n ∈ few) : (pairs n).Pairwise lexLt := by
  have : few.all (fun n => pwB (pairs n)) = true := by decide
  exact pwB_ok (List.all_eq_true.mp this n hn)
theorem mem_pairs_iff {n : Nat} {t : Nat × Nat} : t ∈ pairs n ↔ t.1 < t.2 ∧ t.2 < n := by
  unfold pairs
  simp only [List.mem_flatMap, List.mem_range, List.mem_map, List.mem_filter, decide_eq_true_eq]
  constructor
  · rintro ⟨a, ha, b, ⟨hb, hab⟩, rfl⟩
    exact ⟨hab, hb⟩
  · rintro ⟨h1, h2⟩
    exact ⟨t.1, by omega, t.2, ⟨h2, h1⟩, rfl⟩
theorem pairs_len {n : Nat} (hn : n ∈ few) : (pairs n).length ≤ 10 := by
  have : few.all (fun n => decide ((pairs n).length ≤ 10)) = true := by decide
  exact of_decide_eq_true (List.all_eq_true.mp this n hn)
theorem band_ok {n : Nat} (hn : n ∈ few) (f : Nat) : WebOk n (bandT n f) := by
  have h5 := few_le hn
  refine ⟨fun t ht => mem_pairs_iff.mp (List.mem_filter.mp ht).1, (pairs_pw hn).filter _, ?_, h5.1, by omega⟩
  have := List.length_filter_le (fun t : Nat × Nat => decide (t.2 ≤ f + t.1)) (pairs n)
  have := pairs_len hn
  unfold bandT
  omega
theorem L9 {M : Nat} (h : 6 ≤ M) {n f : Nat} (hn : n ∈ few) (hf : f ≤ n) (cells : List PV) : (callD T17 M).fn 9 [pI n, pI f] cells = .ok (.val (pW n (bandT n f))) cells := by
  obtain ⟨m, rfl, hm⟩ := up1 h
  have h2 := L2 (M := m) (by omega) (f : Int) 0 (n : Int) cells (by omega) (by omega)
  have h8 := L8 (M := m) (by omega) hn cells
  have hmk := L34l (M := m) (by omega) (band_ok hn f) cells
  have hz : sizeOk (pairs n).length = true := szOk_le (by have := pairs_len hn; omega)
  rw [fn_eq (fd := c_band_9) rfl rfl]
  simp [c_band_9, startEnv, h2, h8, hz]
  rw [loopR_fmap (e := pT) (p := fun t => decide (t.2 ≤ f + t.1)) (g := pT)]
  · rw [List.nil_append]
    unfold bandT at hmk
    simp [hmk]
    rfl
  · intro t ht acc
    have hlt := mem_pairs_iff.mp ht
    have i0 : idxV (pT t) (.int 0) = some (pI t.1) := rfl
    have i1 : idxV (pT t) (.int 1) = some (pI t.2) := rfl
    have e : ((t.2 : Int) - (t.1 : Int) ≤ (f : Int)) ↔ t.2 ≤ f + t.1 := by omega
    simp only [pT] at i0 i1
    by_cases hq : t.2 ≤ f + t.1 <;> simp [cmpF, noEx, i0, i1, e, hq]
theorem W10 (cells : List PV) (m : Nat) : ∀ p ∈ nfs, (callD T17 (m + 1)).fn 10 [pI p.1, pI p.2] cells = .ok (.val (pI (bandT p.1 p.2).length)) cells := by
  intro p hp
  simp only [nfs, List.mem_cons, List.not_mem_nil, or_false] at hp
  rcases hp with rfl | rfl | rfl | rfl | rfl | rfl | rfl | rfl | rfl | rfl | rfl | rfl | rfl | rfl | rfl | rfl | rfl | rfl | rfl | rfl <;> kernel_rfl
theorem L10 {M : Nat} (h : 1 ≤ M) {n f : Nat} (hn : n ∈ few) (hf : f ≤ n) (cells : List PV) : (callD T17 M).fn 10 [pI n, pI f] cells = .ok (.val (pI (bandT n f).length)) cells := by
  obtain ⟨m, rfl⟩ : ∃ m, M = m + 1 := ⟨M - 1, by omega⟩
  exact W10 cells m (n, f) (mem_nfs hn hf)
def sq (n : Nat) : List (Nat × Nat) := (List.range n).flatMap fun a => (List.range n).map fun b => (a, b)
theorem W17 (cells : List PV) (m : Nat) : ∀ n ∈ few, (callD T17 (m + 1)).fn 17 [pI n, pI n] cells = .ok (.tmp (.lst ((sq n).map pT))) cells := by
  intro n hn
  simp only [few, List.mem_cons, List.not_mem_nil, or_false] at hn
  rcases hn with rfl | rfl | rfl | rfl | rfl <;> kernel_rfl
theorem L17p {M : Nat} (h : 1 ≤ M) {n : Nat} (hn : n ∈ few) (cells : List PV) : (callD T17 M).fn 17 [pI n, pI n] cells = .ok (.tmp (.lst ((sq n).map pT))) cells := by
  obtain ⟨m, rfl⟩ : ∃ m, M = m + 1 := ⟨M - 1, by omega⟩
  exact W17 cells m n hn
abbrev bad0 (cells : List PV) : FR := .ex (.err 1 [(0, .non)]) cells
theorem W9x (cells : List PV) (m : Nat) : ∀ n ∈ few, (callD T17 (m + 3)).fn 9 [pI n, .int (-1)] cells = bad0 cells := by
  intro n hn
  simp only [few, List.mem_cons, List.not_mem_nil, or_false] at hn
  rcases hn with rfl | rfl | rfl | rfl | rfl <;> kernel_rfl
theorem W9y (cells : List PV) (m : Nat) : ∀ n ∈ few, (callD T17 (m + 3)).fn 9 [pI n, .int ((n : Int) + 1)] cells = bad0 cells := by
  intro n hn
  simp only [few, List.mem_cons, List.not_mem_nil, or_false] at hn
  rcases hn with rfl | rfl | rfl | rfl | rfl <;> kernel_rfl
theorem W9z (cells : List PV) (m : Nat) : ∀ n ∈ few, (callD T17 (m + 3)).fn 9 [pI n, .non] cells = bad0 cells := by
  intro n hn
  simp only [few, List.mem_cons, List.not_mem_nil, or_false] at hn
  rcases hn with rfl | rfl | rfl | rfl | rfl <;> kernel_rfl
theorem L9w {M : Nat} (h : 3 ≤ M) {n : Nat} (hn : n ∈ few) (cells : List PV) {w : PV} (hw : w ∈ [PV.int (-1), .int ((n : Int) + 1), .non]) : (callD T17 M).fn 9 [pI n, w] cells = bad0 cells := by
  obtain ⟨m, rfl⟩ : ∃ m, M = m + 3 := ⟨M - 3, by omega⟩
  simp only [List.mem_cons, List.not_mem_nil, or_false] at hw
  rcases hw with rfl | rfl | rfl
  · exact W9x cells m n hn
  · exact W9y cells m n hn
  · exact W9z cells m n hn
-- methods of a web
theorem L30p {M : Nat} (h : 3 ≤ M) {n p : Nat} (hp : p < n) (ts : List (Nat × Nat)) (cells : List PV) : (callD T17 M).fn 30 [pW n ts, pI p] cells = .ok (.val (pI p)) cells := by
  obtain ⟨m, rfl, hm⟩ := up1 h
  have h2 := L2 (M := m) (by omega) (p : Int) 0 ((n : Int) - 1) cells (by omega) (by omega)
  rw [fn_eq (fd := c_Web_want_place_30) rfl rfl]
  simp [c_Web_want_place_30, startEnv, f2, f3, List.lookup, h2]
def tieOf (a b : Nat) : Nat × Nat := (min a b, max a b)
theorem m_want : T17.mth 3 3 = some 30 := rfl
theorem m_tied : T17.mth 3 4 = some 31 := rfl
theorem m_near : T17.mth 3 5 = some 32 := rfl
theorem m_degs : T17.mth 3 6 = some 33 := rfl
theorem meth_W {m f n : Nat} {ts : List (Nat × Nat)} {s : St} (h : T17.mth 3 m = some f) : methOf T17 m s (.val (pW n ts)) = some f := methOf_obj h rfl
theorem in_ts (a b : Nat) (us : List (Nat × Nat)) : inB (.tup [.int (a : Int), .int (b : Int)]) (.tup (us.map pT)) = some (decide ((a, b) ∈ us)) := in_pT (a, b) us
theorem L31 {M : Nat} (h : 4 ≤ M) {n a b : Nat} (ha : a < n) (hb : b < n) (us : List (Nat × Nat)) (cells : List PV) : (callD T17 M).fn 31 [pW n us, pI a, pI b] cells = .ok (.val (.bl (decide (tieOf a b ∈ us)))) cells := by
  obtain ⟨m, rfl, hm⟩ := up1 h
  have w1 := L30p hm ha us cells
  have w2 := L30p hm hb us cells
  have hw : ∀ s, methOf T17 3 s (.val (pW n us)) = some 30 := fun s => meth_W rfl
  have hi := in_ts (min a b) (max a b) us
  rw [fn_eq (fd := c_Web_is_tied_31) rfl rfl]
  have e1 : (if b < a then (b : Int) else (a : Int)) = ((min a b : Nat) : Int) := by split <;> omega
  have e2 : (if a < b then (b : Int) else (a : Int)) = ((max a b : Nat) : Int) := by split <;> omega
  simp only [pW] at hw
  simp [c_Web_is_tied_31, startEnv, f2, f3, List.lookup, hw, w1, w2, e1, e2, hi, tieOf]
  exact decide_eq_decide.mpr Iff.rfl
end K17
end

section
set_option Elab.async false
set_option linter.all false
set_option maxRecDepth 100000
set_option maxHeartbeats 2000000
namespace K17
open Nr Q
/-- a tie, places called by where they stand -/
def lieT (o : List Nat) (t : Nat × Nat) : Nat × Nat := tieOf (o.idxOf t.1) (o.idxOf t.2)
def lies (o : List Nat) (ts us : List (Nat × Nat)) : Bool := ts.all fun t => decide (lieT o t ∈ us)
theorem L11 {M : Nat} (h : 5 ≤ M) {n : Nat} {o : List Nat} (ho : Ord n o) {ts : List (Nat × Nat)} (ht : Ties n ts) (us : List (Nat × Nat)) (cells : List PV) : (callD T17 M).fn 11 [pW n ts, pW n us, pO o] cells = .ok (.val (.bl (lies o ts us))) cells := by
  obtain ⟨m, rfl, hm⟩ := up1 h
  have h5 := L5 (M := m) (by omega) ho ts
  have hz : sizeOk ts.length = true := szOk_le (by have := ht.len; omega)
  have hne := ne_int n n
  simp at hne
  have hal := allV_map ts fun t => decide (lieT o t ∈ us)
  rw [fn_eq (fd := c_lies_in_11) rfl rfl]
  simp [c_lies_in_11, startEnv, h5, f2, f3, List.lookup, hne, hz]
  rw [loopR_map (e := pT) (g := fun t => .bl (decide (lieT o t ∈ us)))]
  · rw [List.nil_append]
    simp [hal, lies]
  · intro t hm' acc
    obtain ⟨h1, h2⟩ := ht.lt t hm'
    have i1 := ix_pO o t.1 (ho.mem _ h1)
    have i2 := ix_pO o t.2 (ho.mem _ h2)
    have hw : ∀ s, methOf T17 4 s (.val (pW n us)) = some 31 := fun s => meth_W rfl
    have h31 := L31 (M := m) (by omega) (ho.idx h1) (ho.idx h2) us cells
    simp only [pW] at hw h31
    simp only [pT, cmpF, asgT_2]
    simp [noEx, hw, i1, i2, h31, lieT]
    exact decide_eq_decide.mpr Iff.rfl
theorem L11x {M : Nat} (h : 4 ≤ M) {n k : Nat} {o : List Nat} (ho : Ord n o) (hk : k ≠ n) (ts us : List (Nat × Nat)) (cells : List PV) : (callD T17 M).fn 11 [pW n ts, pW k us, pO o] cells = bad0 cells := by
  obtain ⟨m, rfl, hm⟩ := up1 h
  have h5 := L5 (M := m) (by omega) ho ts
  have hne := ne_int n k
  have hd : ((n : Int) = (k : Int)) = False := eq_false (by omega)
  rw [fn_eq (fd := c_lies_in_11) rfl rfl]
  have hx : T17.exc 1 = some [0] := rfl
  have hnx : T17.noex = false := rfl
  simp [c_lies_in_11, startEnv, h5, f2, f3, List.lookup, hne, hd, hx, hnx]
def firstL (n : Nat) (ts us : List (Nat × Nat)) : Option (List Nat) := (ords n).find? fun o => lies o ts us
theorem L12 {M : Nat} (h : 6 ≤ M) {n : Nat} (hn : n ∈ few) {ts : List (Nat × Nat)} (ht : Ties n ts) (us : List (Nat × Nat)) (cells : List PV) : (callD T17 M).fn 12 [pW n ts, pW n us] cells = .ok (.val (ov (firstL n ts us))) cells := by
  obtain ⟨m, rfl, hm⟩ := up1 h
  have h6 := L13 (M := m) (by omega) hn cells
  rw [fn_eq (fd := c_first_lying_12) rfl rfl]
  simp only [c_first_lying_12, startEnv]
  simp [f2, f3, List.lookup, h6]
  obtain ⟨v', e⟩ := forR_find (f := bodyF T17 (callD T17 m) (.var 2) (.ite (.call 11 (.cons (.var 0) (.cons (.var 1) (.cons (.var 2) .nil)))) (.ret (.var 2)) .skip)) (e := pO) (xs := ords n) (fun o => lies o ts us) (fun o => .val (pO o)) (fun v => ⟨[.val (pW n ts), .val (pW n us), v], cells, false⟩) (fun o hoo v => by
    have h11 := L11 (M := m) (by omega) (ord_of hn hoo) ht us cells
    generalize lies o ts us = b at *
    simp only [pW] at h11
    cases b <;> simp [bodyF, h11]) .non
  rw [e]
  unfold firstL
  cases (ords n).find? fun o => lies o ts us with
  | some o => simp [findR, ov]
  | none => simp [findR, ov]
theorem L13b {M : Nat} (h : 7 ≤ M) {n : Nat} (hn : n ∈ few) {ts : List (Nat × Nat)} (ht : Ties n ts) (L : Nat) (hL : L ≤ n) (h1 : ∀ f, f < L → firstL n ts (bandT n f) = none) {o : List Nat} (h2 : firstL n ts (bandT n L) = some o) (cells : List PV) : (callD T17 M).fn 13 [pW n ts] cells = .ok (.val (pI L)) cells := by
  obtain ⟨m, rfl, hm⟩ := up1 h
  have h5 := few_le hn
  rw [fn_eq (fd := c_least_band_13) rfl rfl]
  have key := whileR_to (c := testR T17 (callD T17 m) (.una .isNone (.call 12 (.cons (.var 0) (.cons (.call 9 (.cons (.attr (.var 0) 2) (.cons (.var 1) .nil))) .nil))))) (f := execS T17 (callD T17 m) (.aug 1 .add (.cst (.int 1)))) (fun i => ⟨[.val (pW n ts), .val (pI i)], cells, false⟩) L (fun i hi => by
    have h9 := L9 (M := m) (f := i) (by omega) hn (by omega) cells
    have h12 := L12 (M := m) (by omega) hn ht (bandT n i) cells
    rw [h1 i hi] at h12
    have hn1 : uop .isNone .non = some (.bl true) := rfl
    simp only [pW] at h9 h12
    refine ⟨by simp [f2, f3, List.lookup, h9, h12, ov, hn1], ?_⟩
    exact aug_add 1 _ (i : Int) 1 _ _ rfl rfl) (by
    have h9 := L9 (M := m) (f := L) (by omega) hn hL cells
    have h12 := L12 (M := m) (by omega) hn ht (bandT n L) cells
    rw [h2] at h12
    have hn1 : uop .isNone (ov (some o)) = some (.bl false) := rfl
    have hv : ∀ s, view s (.val (ov (some o))) = some (ov (some o)) := fun _ => rfl
    generalize ov (some o) = w at *
    simp only [pW] at h9 h12
    simp [f2, f3, List.lookup, h9, h12, hn1, hv]) L 0 1000000 (by omega) (by omega)
  have hs : ∀ X, startEnv c_least_band_13 ([pW n ts].map .val) = X → endF (execS T17 (callD T17 m) c_least_band_13.body ⟨startEnv c_least_band_13 ([pW n ts].map .val), cells, false⟩) = endF (execS T17 (callD T17 m) c_least_band_13.body ⟨X, cells, false⟩) := fun X h => by rw [h]
  rw [hs [.val (pW n ts), .non] rfl]
  simp only [c_least_band_13, ex_seq, ex_whl]
  rw [show execS T17 (callD T17 m) (.asg (.var 1) (.cst (.int 0))) ⟨[.val (pW n ts), .non], cells, false⟩ = .ok .nx ⟨[.val (pW n ts), .val (pI 0)], cells, false⟩ by simp]
  rw [thenS_nx, key]
  simp
end K17
end

section
set_option Elab.async false
set_option linter.all false
set_option maxRecDepth 100000
set_option maxHeartbeats 2000000
namespace K17
open Nr Q
def bsz (n f : Nat) : Nat := (bandT n f).length
theorem L14 {M : Nat} (h : 2 ≤ M) {n : Nat} (hn : n ∈ few) (ts : List (Nat × Nat)) (hl : ts.length ≤ 100) (t : Nat) (ht : t ≤ n) (h1 : ∀ f, f < t → bsz n f < ts.length) (h2 : ts.length ≤ bsz n t) (cells : List PV) : (callD T17 M).fn 14 [pW n ts] cells = .ok (.val (pI t)) cells := by
  obtain ⟨m, rfl, hm⟩ := up1 h
  have h5 := few_le hn
  have hz : sizeOk ts.length = true := szOk_le (by omega)
  rw [fn_eq (fd := c_tie_bar_14) rfl rfl]
  have key := whileR_to (c := testR T17 (callD T17 m) (.bin .lt (.call 10 (.cons (.attr (.var 0) 2) (.cons (.var 1) .nil))) (.una .len (.attr (.var 0) 3)))) (f := execS T17 (callD T17 m) (.aug 1 .add (.cst (.int 1)))) (fun i => ⟨[.val (pW n ts), .val (pI i)], cells, false⟩) t (fun i hi => by
    have h10 := L10 (M := m) (f := i) (by omega) hn (by omega) cells
    have := h1 i hi
    unfold bsz at this
    have hc : ((bandT n i).length : Int) < (ts.length : Int) := by omega
    generalize (bandT n i).length = b at *
    refine ⟨by simp [f2, f3, List.lookup, h10, hz]; omega, ?_⟩
    exact aug_add 1 _ (i : Int) 1 _ _ rfl rfl) (by
    have h10 := L10 (M := m) (f := t) (by omega) hn ht cells
    unfold bsz at h2
    generalize (bandT n t).length = b at *
    simp [f2, f3, List.lookup, h10, hz]
    omega) t 0 1000000 (by omega) (by omega)
  have hs : ∀ X, startEnv c_tie_bar_14 ([pW n ts].map .val) = X → endF (execS T17 (callD T17 m) c_tie_bar_14.body ⟨startEnv c_tie_bar_14 ([pW n ts].map .val), cells, false⟩) = endF (execS T17 (callD T17 m) c_tie_bar_14.body ⟨X, cells, false⟩) := fun X h => by rw [h]
  rw [hs [.val (pW n ts), .non] rfl]
  simp only [c_tie_bar_14, ex_seq, ex_whl]
  rw [show execS T17 (callD T17 m) (.asg (.var 1) (.cst (.int 0))) ⟨[.val (pW n ts), .non], cells, false⟩ = .ok .nx ⟨[.val (pW n ts), .val (pI 0)], cells, false⟩ by simp]
  rw [thenS_nx, key]
  simp
def nearL (n : Nat) (ts : List (Nat × Nat)) (p : Nat) : List Nat := (List.range n).filter fun q => decide (tieOf p q ∈ ts)
theorem L32 {M : Nat} (h : 5 ≤ M) {n p : Nat} (hn : n ≤ 10) (hp : p < n) (ts : List (Nat × Nat)) (cells : List PV) : (callD T17 M).fn 32 [pW n ts, pI p] cells = .ok (.val (pO (nearL n ts p))) cells := by
  obtain ⟨m, rfl, hm⟩ := up1 h
  have w1 := L30p (M := m) (by omega) hp ts cells
  have hw : ∀ s, methOf T17 3 s (.val (pW n ts)) = some 30 := fun s => meth_W rfl
  have hw4 : ∀ s, methOf T17 4 s (.val (pW n ts)) = some 31 := fun s => meth_W rfl
  have hr := it_rng1 n (by omega)
  have hz : sizeOk n = true := szOk_le (by omega)
  rw [fn_eq (fd := c_Web_near_32) rfl rfl]
  simp only [pW] at hw w1
  simp [c_Web_near_32, startEnv, f2, f3, List.lookup, hw, w1, hr, hz]
  rw [loopR_fmap (e := pI) (p := fun q => decide (tieOf p q ∈ ts)) (g := pI)]
  · simp [nearL]
  · intro q hq acc
    have h31 := L31 (M := m) (by omega) hp (List.mem_range.mp hq) ts cells
    by_cases hb : tieOf p q ∈ ts
    · simp [hb] at h31
      simp only [pW] at hw4 h31
      simp [cmpF, noEx, hw4, h31, hb]
    · simp [hb] at h31
      simp only [pW] at hw4 h31
      simp [cmpF, noEx, hw4, h31, hb]
def degs (n : Nat) (ts : List (Nat × Nat)) : List Nat := (List.range n).map fun p => (nearL n ts p).length
theorem L33 {M : Nat} (h : 6 ≤ M) {n : Nat} (hn : n ≤ 10) (ts : List (Nat × Nat)) (cells : List PV) : (callD T17 M).fn 33 [pW n ts] cells = .ok (.val (pO (degs n ts))) cells := by
  obtain ⟨m, rfl, hm⟩ := up1 h
  have hw : ∀ s, methOf T17 5 s (.val (pW n ts)) = some 32 := fun s => meth_W rfl
  have hr := it_rng1 n (by omega)
  have hz : sizeOk n = true := szOk_le (by omega)
  rw [fn_eq (fd := c_Web_degrees_33) rfl rfl]
  simp [c_Web_degrees_33, startEnv, f2, f3, List.lookup, hr, hz]
  rw [loopR_map (e := pI) (g := fun p => pI (nearL n ts p).length)]
  · simp [degs]
  · intro p hp acc
    have h32 := L32 (M := m) (by omega) hn (List.mem_range.mp hp) ts cells
    have hl : sizeOk (nearL n ts p).length = true := szOk_le (by
      have := List.length_filter_le (fun q => decide (tieOf p q ∈ ts)) (List.range n)
      rw [List.length_range] at this
      unfold nearL; omega)
    generalize nearL n ts p = q at *
    simp only [pW] at hw h32
    simp [cmpF, noEx, hw, h32, hl]
def maxD (n : Nat) (ts : List (Nat × Nat)) : Nat := match degs n ts with
  | [] => 0
  | a :: l => maxFrom a l
theorem max_nat (a : Nat) (l : List Nat) : maxV (.tup ((a :: l).map pI)) = some (pI (maxFrom a l)) := by
  have e : maxV (.tup ((a :: l).map pI)) = if ordOk ((a :: l).map pI) then some (pvMaxFrom (pI a) (l.map pI)) else none := rfl
  rw [e, ordOk_pI, if_pos rfl, pvMaxFrom_pI]
theorem degs_ne {n : Nat} (h : 0 < n) (ts : List (Nat × Nat)) : ∃ a l, degs n ts = a :: l ∧ maxD n ts = maxFrom a l := by
  cases e : degs n ts with
  | nil =>
    have : (degs n ts).length = n := by simp [degs]
    rw [e] at this
    simp at this
    omega
  | cons a l => exact ⟨a, l, rfl, by unfold maxD; rw [e]⟩
theorem L15 {M : Nat} (h : 7 ≤ M) {n : Nat} (h0 : 0 < n) (hn : n ≤ 10) (ts : List (Nat × Nat)) (cells : List PV) : (callD T17 M).fn 15 [pW n ts] cells = .ok (.val (pI ((maxD n ts + 1) / 2))) cells := by
  obtain ⟨m, rfl, hm⟩ := up1 h
  have hw : ∀ s, methOf T17 6 s (.val (pW n ts)) = some 33 := fun s => meth_W rfl
  have h33 := L33 (M := m) (by omega) hn ts cells
  obtain ⟨a, l, e1, e2⟩ := degs_ne h0 ts
  rw [e1] at h33
  have hm := max_nat a l
  rw [← e2] at hm
  have e : ((((maxD n ts + 1) / 2 : Nat)) : Int) = ((maxD n ts : Int) + 1) / 2 := by omega
  have hd : bop .fdiv (.int ((maxD n ts : Int) + 1)) (.int 2) = some (.int (((maxD n ts + 1) / 2 : Nat) : Int)) := by rw [e, dv _ _ (by decide) (by decide)]
  generalize (maxD n ts + 1) / 2 = R at *
  generalize maxD n ts = D at *
  have hv : ∀ s, view s (.val (.tup ((a :: l).map pI))) = some (.tup ((a :: l).map pI)) := fun _ => rfl
  generalize hX : (a :: l).map pI = X at *
  rw [fn_eq (fd := c_degree_bar_15) rfl rfl]
  simp only [pW] at hw h33
  simp [c_degree_bar_15, startEnv, hw, h33, hm, hX, hd, addV, -op_fdiv]
end K17
end

section
set_option Elab.async false
set_option linter.all false
set_option maxRecDepth 100000
set_option maxHeartbeats 2000000
namespace K17
open Nr Q
theorem find_min (f : List Nat → Nat) (m : Nat) : ∀ {l : List (List Nat)}, (∀ x ∈ l, m ≤ f x) → m ∈ l.map f → l.find? (fun o => decide (f o ≤ m)) = some (l.getD ((l.map f).idxOf m) [])
  | a :: l, h, hm => by
    rw [List.find?_cons, List.map_cons]
    have ha := h a List.mem_cons_self
    by_cases q : f a ≤ m
    · have e : f a = m := by omega
      rw [decide_eq_true q, e, List.idxOf_cons_self]; rfl
    · rw [decide_eq_false q]
      have hne : f a ≠ m := by omega
      have hm2 : m ∈ l.map f := by
        rw [List.map_cons] at hm
        rcases List.mem_cons.mp hm with z | z
        · omega
        · exact z
      have hb : (f a == m) = false := by simpa using hne
      rw [List.idxOf_cons, hb, cond_false, List.getD_cons_succ]
      exact find_min f m (fun x hx => h x (List.mem_cons_of_mem _ hx)) hm2
theorem maxFrom_iff (l : List Nat) (f : Nat) : maxFrom 0 l ≤ f ↔ ∀ x ∈ l, x ≤ f := by
  obtain ⟨h1, h2, h3⟩ := le_maxFrom l 0
  constructor
  · intro h x hx
    have := h2 x hx
    omega
  · intro h
    rcases h3 with e | e
    · omega
    · exact h _ e
theorem idx_inj {o : List Nat} {a b : Nat} (ha : a ∈ o) (h : o.idxOf a = o.idxOf b) (hb : b ∈ o) : a = b := by
  have h1 := List.idxOf_lt_length_of_mem ha
  have e1 : o[o.idxOf a] = a := by simp
  have h2 := List.idxOf_lt_length_of_mem hb
  have e2 : o[o.idxOf b] = b := by simp
  have : o[o.idxOf a] = o[o.idxOf b] := by congr 1
  rw [e1, e2] at this
  exact this
theorem mem_band {n f : Nat} {t : Nat × Nat} : t ∈ bandT n f ↔ t.1 < t.2 ∧ t.2 < n ∧ t.2 ≤ f + t.1 := by
  unfold bandT
  rw [List.mem_filter, mem_pairs_iff, decide_eq_true_eq, and_assoc]
theorem lie_band {n f : Nat} {o : List Nat} (ho : Ord n o) {t : Nat × Nat} (ht : t.1 < t.2 ∧ t.2 < n) : lieT o t ∈ bandT n f ↔ far o t ≤ f := by
  have h1 := ho.idx (show t.1 < n by omega)
  have h2 := ho.idx ht.2
  have hne : o.idxOf t.1 ≠ o.idxOf t.2 := fun e => by
    have := idx_inj (ho.mem _ (show t.1 < n by omega)) e (ho.mem _ ht.2)
    omega
  rw [mem_band]
  unfold lieT tieOf far
  simp only
  omega
theorem lies_iff {n : Nat} {o : List Nat} (ho : Ord n o) {ts : List (Nat × Nat)} (hw : WebOk n ts) (f : Nat) : lies o ts (bandT n f) = decide (mea .st n o ts ≤ f) := by
  show (ts.all fun t => decide (lieT o t ∈ bandT n f)) = decide (maxFrom 0 (ts.map (far o)) ≤ f)
  rw [Bool.eq_iff_iff, List.all_eq_true, decide_eq_true_eq, maxFrom_iff]
  constructor
  · intro h x hx
    obtain ⟨t, ht, rfl⟩ := List.mem_map.mp hx
    exact (lie_band ho (hw.lt t ht)).mp (of_decide_eq_true (h t ht))
  · intro h t ht
    exact decide_eq_true ((lie_band ho (hw.lt t ht)).mpr (h _ (List.mem_map.mpr ⟨t, ht, rfl⟩)))
theorem firstL_eq {n : Nat} (hn : n ∈ few) {ts : List (Nat × Nat)} (hw : WebOk n ts) (f : Nat) : firstL n ts (bandT n f) = (ords n).find? fun o => decide (mea .st n o ts ≤ f) := by
  unfold firstL
  have key : ∀ l : List (List Nat), (∀ o ∈ l, Ord n o) → l.find? (fun o => lies o ts (bandT n f)) = l.find? fun o => decide (mea .st n o ts ≤ f) := by
    intro l
    induction l with
    | nil => intro _; rfl
    | cons a l ih =>
      intro h
      rw [List.find?_cons, List.find?_cons, lies_iff (h a List.mem_cons_self) hw, ih fun o ho => h o (List.mem_cons_of_mem _ ho)]
  exact key _ fun o ho => ord_of hn ho
def leaS (n : Nat) (ts : List (Nat × Nat)) : Nat := minL ((ords n).map fun o => mea .st n o ts)
def firS (n : Nat) (ts : List (Nat × Nat)) : List Nat := (ords n).getD (firstK .st n ts) []
theorem map_ne {n : Nat} (hn : n ∈ few) (f : List Nat → Nat) : (ords n).map f ≠ [] := by
  have := ords_ne hn
  intro e
  exact this (List.map_eq_nil_iff.mp e)
theorem firstL_lea {n : Nat} (hn : n ∈ few) {ts : List (Nat × Nat)} (hw : WebOk n ts) : firstL n ts (bandT n (leaS n ts)) = some (firS n ts) := by
  rw [firstL_eq hn hw]
  exact find_min (fun o => mea .st n o ts) _ (fun x hx => minL_le (List.mem_map.mpr ⟨x, hx, rfl⟩)) (minL_in (map_ne hn _))
theorem firstL_low {n : Nat} (hn : n ∈ few) {ts : List (Nat × Nat)} (hw : WebOk n ts) (f : Nat) (hf : f < leaS n ts) : firstL n ts (bandT n f) = none := by
  rw [firstL_eq hn hw, List.find?_eq_none]
  intro o ho
  have : leaS n ts ≤ mea .st n o ts := minL_le (List.mem_map.mpr ⟨o, ho, rfl⟩)
  simp
  omega
/-- an order of the least stretch -/
theorem lea_ord {n : Nat} (hn : n ∈ few) (k : Kd) (ts : List (Nat × Nat)) : ∃ o ∈ ords n, mea k n o ts = minL ((ords n).map fun o => mea k n o ts) := by
  obtain ⟨o, ho, e⟩ := List.mem_map.mp (minL_in (map_ne hn fun o => mea k n o ts))
  exact ⟨o, ho, e⟩
theorem far_lt {n : Nat} {o : List Nat} (ho : Ord n o) {ts : List (Nat × Nat)} (hw : WebOk n ts) : mea .st n o ts ≤ n := by
  show maxFrom 0 (ts.map (far o)) ≤ n
  rw [maxFrom_iff]
  intro x hx
  obtain ⟨t, ht, rfl⟩ := List.mem_map.mp hx
  have := hw.lt t ht
  have h1 := ho.idx (show t.1 < n by omega)
  have h2 := ho.idx this.2
  unfold far
  omega
theorem lea_le {n : Nat} (hn : n ∈ few) {ts : List (Nat × Nat)} (hw : WebOk n ts) : leaS n ts ≤ n := by
  obtain ⟨o, ho, e⟩ := lea_ord hn .st ts
  have := far_lt (ord_of hn ho) hw
  unfold leaS
  omega
theorem lie_inj {n : Nat} {o : List Nat} (ho : Ord n o) {s t : Nat × Nat} (hs : s.1 < s.2 ∧ s.2 < n) (ht : t.1 < t.2 ∧ t.2 < n) (h : lieT o s = lieT o t) : s = t := by
  unfold lieT tieOf at h
  rw [Prod.mk.injEq] at h
  obtain ⟨h1, h2⟩ := h
  have m1 := ho.mem _ (show s.1 < n by omega)
  have m2 := ho.mem _ hs.2
  have m3 := ho.mem _ (show t.1 < n by omega)
  have m4 := ho.mem _ ht.2
  have q : (o.idxOf s.1 = o.idxOf t.1 ∧ o.idxOf s.2 = o.idxOf t.2) ∨ (o.idxOf s.1 = o.idxOf t.2 ∧ o.idxOf s.2 = o.idxOf t.1) := by omega
  rcases q with ⟨a, b⟩ | ⟨a, b⟩
  · exact Prod.ext (idx_inj m1 a m3) (idx_inj m2 b m4)
  · have x := idx_inj m1 a m4
    have y := idx_inj m2 b m3
    omega
theorem ts_nd {n : Nat} {ts : List (Nat × Nat)} (hw : WebOk n ts) : ts.Nodup := hw.pw.imp fun {a b} h e => by
  subst e
  rcases h with h | h
  · omega
  · omega
theorem nodup_map_on {α β : Type} {f : α → β} : ∀ {l : List α}, l.Nodup → (∀ x ∈ l, ∀ y ∈ l, f x = f y → x = y) → (l.map f).Nodup
  | [], _, _ => List.nodup_nil
  | a :: l, h, hi => by
    rw [List.nodup_cons] at h
    rw [List.map_cons, List.nodup_cons]
    refine ⟨fun z => ?_, nodup_map_on h.2 fun x hx y hy => hi x (List.mem_cons_of_mem _ hx) y (List.mem_cons_of_mem _ hy)⟩
    obtain ⟨b, hb, e⟩ := List.mem_map.mp z
    have := hi b (List.mem_cons_of_mem _ hb) a List.mem_cons_self e
    exact h.1 (this ▸ hb)
theorem ties_le {n : Nat} (hn : n ∈ few) {ts : List (Nat × Nat)} (hw : WebOk n ts) : ts.length ≤ bsz n (leaS n ts) := by
  obtain ⟨o, ho, e⟩ := lea_ord hn .st ts
  have hO := ord_of hn ho
  have hm : (ts.map (lieT o)).length ≤ (bandT n (leaS n ts)).length := nodup_len (nodup_map_on (ts_nd hw) fun x hx y hy h => lie_inj hO (hw.lt x hx) (hw.lt y hy) h) fun x hx => by
    obtain ⟨t, ht, rfl⟩ := List.mem_map.mp hx
    have hl := lies_iff hO hw (leaS n ts)
    rw [show decide (mea .st n o ts ≤ leaS n ts) = true from decide_eq_true (by unfold leaS; omega)] at hl
    exact of_decide_eq_true (List.all_eq_true.mp hl t ht)
  simpa [bsz] using hm
theorem least_at (p : Nat → Prop) : ∀ (L : Nat), p L → ∃ t ≤ L, p t ∧ ∀ f < t, ¬ p f
  | L, h => by
    classical
    induction L using Nat.strongRecOn with
    | _ L ih =>
      by_cases q : ∃ f < L, p f
      · obtain ⟨f, hf, hp⟩ := q
        obtain ⟨t, h1, h2, h3⟩ := ih f hf hp
        exact ⟨t, by omega, h2, h3⟩
      · exact ⟨L, Nat.le_refl _, h, fun f hf hp => q ⟨f, hf, hp⟩⟩
-- degrees
def hasP (p : Nat) (t : Nat × Nat) : Bool := decide (p = t.1) || decide (p = t.2)
def degN (ts : List (Nat × Nat)) (p : Nat) : Nat := (ts.filter (hasP p)).length
def oth (p : Nat) (t : Nat × Nat) : Nat := t.1 + t.2 - p
theorem hasP_iff {p : Nat} {t : Nat × Nat} : hasP p t = true ↔ p = t.1 ∨ p = t.2 := by simp [hasP]
theorem oth_nd {n : Nat} {ts : List (Nat × Nat)} (hw : WebOk n ts) (p : Nat) : ((ts.filter (hasP p)).map (oth p)).Nodup := by
  refine nodup_map_on ((List.filter_sublist).nodup (ts_nd hw)) fun s hs t ht h => ?_
  obtain ⟨hs1, hs2⟩ := List.mem_filter.mp hs
  obtain ⟨ht1, ht2⟩ := List.mem_filter.mp ht
  have a := hw.lt s hs1
  have b := hw.lt t ht1
  rw [hasP_iff] at hs2 ht2
  unfold oth at h
  refine Prod.ext ?_ ?_ <;> omega
theorem deg_near {n : Nat} {ts : List (Nat × Nat)} (hw : WebOk n ts) {p : Nat} (hp : p < n) : (nearL n ts p).length = degN ts p := by
  have hm : ∀ q, q ∈ nearL n ts p ↔ q ∈ (ts.filter (hasP p)).map (oth p) := by
    intro q
    unfold nearL
    rw [List.mem_filter, List.mem_range, decide_eq_true_eq, List.mem_map]
    constructor
    · rintro ⟨hq, h⟩
      have hl := hw.lt _ h
      refine ⟨_, List.mem_filter.mpr ⟨h, hasP_iff.mpr ?_⟩, ?_⟩ <;> (unfold tieOf at *; simp only [oth] at *; omega)
    · rintro ⟨t, ht, rfl⟩
      obtain ⟨h1, h2⟩ := List.mem_filter.mp ht
      have hl := hw.lt _ h1
      rw [hasP_iff] at h2
      have e : tieOf p (oth p t) = t := by
        unfold tieOf oth
        refine Prod.ext ?_ ?_ <;> (simp only; omega)
      refine ⟨by unfold oth; omega, by rw [e]; exact h1⟩
  have nd1 : (nearL n ts p).Nodup := (List.filter_sublist).nodup List.nodup_range
  have nd2 := oth_nd hw p
  have a := nodup_len nd1 fun x hx => (hm x).mp hx
  have b := nodup_len nd2 fun x hx => (hm x).mpr hx
  rw [List.length_map] at a b
  unfold degN
  omega
theorem deg_stretch {n : Nat} {o : List Nat} (ho : Ord n o) {ts : List (Nat × Nat)} (hw : WebOk n ts) {p L : Nat} (hp : p < n) (h : mea .st n o ts ≤ L) : degN ts p ≤ 2 * L := by
  have h : maxFrom 0 (ts.map (far o)) ≤ L := h
  rw [maxFrom_iff] at h
  have hb : ∀ t ∈ ts, hasP p t = true → oth p t < n ∧ oth p t ≠ p ∧ (far o t = (o.idxOf p - o.idxOf (oth p t)) + (o.idxOf (oth p t) - o.idxOf p)) := by
    intro t ht hh
    have hl := hw.lt t ht
    rw [hasP_iff] at hh
    rcases hh with e | e
    · have e2 : oth p t = t.2 := by unfold oth; omega
      rw [e2]; exact ⟨hl.2, by omega, by unfold far; rw [← e]⟩
    · have e2 : oth p t = t.1 := by unfold oth; omega
      rw [e2]; exact ⟨by omega, by omega, by unfold far; rw [← e]; omega⟩
  have nd : (((ts.filter (hasP p)).map (oth p)).map o.idxOf).Nodup := by
    refine nodup_map_on (oth_nd hw p) fun x hx y hy e => ?_
    obtain ⟨t, ht, rfl⟩ := List.mem_map.mp hx
    obtain ⟨u, hu, rfl⟩ := List.mem_map.mp hy
    obtain ⟨t1, t2⟩ := List.mem_filter.mp ht
    obtain ⟨u1, u2⟩ := List.mem_filter.mp hu
    exact idx_inj (ho.mem _ (hb t t1 t2).1) e (ho.mem _ (hb u u1 u2).1)
  have := nodup_len (b := List.range' (o.idxOf p - L) L ++ List.range' (o.idxOf p + 1) L) nd fun x hx => by
    obtain ⟨q, hq, rfl⟩ := List.mem_map.mp hx
    obtain ⟨t, ht, rfl⟩ := List.mem_map.mp hq
    obtain ⟨t1, t2⟩ := List.mem_filter.mp ht
    obtain ⟨b1, b2, b3⟩ := hb t t1 t2
    have hf := h _ (List.mem_map.mpr ⟨t, t1, rfl⟩)
    have hne : o.idxOf (oth p t) ≠ o.idxOf p := fun e => b2 (idx_inj (ho.mem _ b1) e (ho.mem _ hp))
    rw [List.mem_append, List.mem_range'_1, List.mem_range'_1]
    omega
  rw [List.length_map, List.length_map, List.length_append, List.length_range', List.length_range'] at this
  unfold degN
  omega
theorem filter_le {α : Type} {p q r : α → Bool} : ∀ {l : List α}, (∀ x ∈ l, p x = true → q x = true ∨ r x = true) → (l.filter p).length ≤ (l.filter q).length + (l.filter r).length
  | [], _ => by simp
  | a :: l, h => by
    have ih := filter_le fun x hx => h x (List.mem_cons_of_mem _ hx)
    have ha := h a List.mem_cons_self
    rw [List.filter_cons, List.filter_cons, List.filter_cons]
    cases hp : p a with
    | true =>
      rcases ha hp with z | z
      · simp only [z]
        cases r a <;> simp <;> omega
      · simp only [z]
        cases q a <;> simp <;> omega
    | false => cases q a <;> cases r a <;> simp <;> omega
theorem deg_cut {n : Nat} {o : List Nat} (ho : Ord n o) {ts : List (Nat × Nat)} (hw : WebOk n ts) {p C : Nat} (hp : p < n) (h : mea .cu n o ts ≤ C) : degN ts p ≤ 2 * C := by
  have h : maxFrom 0 (cutsL n o ts) ≤ C := h
  rw [maxFrom_iff] at h
  have hi := ho.idx hp
  have c0 : ∀ g, cutN o ts g ≤ C := by
    intro g
    by_cases hg : 1 ≤ g ∧ g < n
    · exact h _ (List.mem_map.mpr ⟨g, by unfold gaps; rw [List.mem_range'_1]; omega, rfl⟩)
    · have : cutN o ts g = 0 := by
        unfold cutN
        rw [List.length_eq_zero_iff, List.filter_eq_nil_iff]
        intro t ht
        have hl := hw.lt t ht
        have a := ho.idx (show t.1 < n by omega)
        have b := ho.idx hl.2
        unfold cross
        by_cases g0 : g = 0
        · subst g0; simp
        · have x : o.idxOf t.1 < g := by omega
          have y : o.idxOf t.2 < g := by omega
          simp [x, y]
      omega
  have := filter_le (l := ts) (p := hasP p) (q := cross o (o.idxOf p)) (r := cross o (o.idxOf p + 1)) fun t ht hh => by
    have hl := hw.lt t ht
    rw [hasP_iff] at hh
    have hne : o.idxOf t.1 ≠ o.idxOf t.2 := fun e => by
      have := idx_inj (ho.mem _ (show t.1 < n by omega)) e (ho.mem _ hl.2)
      omega
    unfold cross
    rcases hh with e | e
    · rw [e]
      by_cases q : o.idxOf t.2 < o.idxOf t.1
      · left; simp [q]
      · right
        have : ¬ o.idxOf t.2 < o.idxOf t.1 + 1 := by omega
        simp [this]
    · rw [e]
      by_cases q : o.idxOf t.1 < o.idxOf t.2
      · left; simp [q]
      · right
        have : ¬ o.idxOf t.1 < o.idxOf t.2 + 1 := by omega
        simp [this]
  have a := c0 (o.idxOf p)
  have b := c0 (o.idxOf p + 1)
  unfold cutN at a b
  unfold degN
  omega
end K17
end

section
set_option Elab.async false
set_option linter.all false
set_option maxRecDepth 100000
set_option maxHeartbeats 2000000
namespace K17
open Nr Q
def lw0 : CS := (.asg (.var 1) (.cell (.lst (.cons (.var 0) (.cons (.cst (.int 0)) (.cons (.cst (.int 223)) (.cons (.cst (.int 0)) .nil)))))))
def lw1 : CS := (.asg (.var 2) (.call 18 (.cons (.var 1) (.cons (.cst (.int 5)) .nil))))
def lw2 : CS := (.asg (.cons (.var 3) (.cons (.var 4) .nil)) (.var 2))
def lw3 : CS := (.asg (.var 5) (.mk 3 (.cons (.var 3) (.cons (.var 4) .nil))))
def lw4 : CS := (.asg (.cons (.var 6) (.cons (.var 7) (.cons (.var 8) .nil))) (.call 22 (.cons (.var 2) (.cons (.cst (.str "stretch")) .nil))))
def lw5 : CS := (.ite (.or (.bin .ne (.call 13 (.cons (.var 5) .nil)) (.var 6)) (.bin .ne (.call 12 (.cons (.var 5) (.cons (.call 9 (.cons (.var 3) (.cons (.var 6) .nil))) .nil))) (.var 7))) (.ret (.cst (.bl false))) .skip)
def lw6 : CS := (.for_ false (.var 9) .rng1 (.cons (.bin .add (.var 3) (.cst (.int 1))) .nil) (.seq (.asg (.var 10) (.call 9 (.cons (.var 3) (.cons (.var 9) .nil))))
    (.seq (.ite (.or (.bin .ne (.attr (.var 10) 3) (.una .tuple_ (.comp false (.cons (.var 19) (.cons (.var 13) .nil)) .seq (.cons (.call 17 (.cons (.var 3) (.cons (.var 3) .nil))) .nil) (.cmp2 .lt .le (.cst (.int 0)) (.bin .sub (.var 13) (.var 19)) (.var 9)) (.tup (.cons (.var 19) (.cons (.var 13) .nil)))))) (.bin .ne (.call 10 (.cons (.var 3) (.cons (.var 9) .nil))) (.una .len (.attr (.var 10) 3)))) (.ret (.cst (.bl false))) .skip)
    (.seq (.asg (.var 11) (.comp false (.var 14) .seq (.cons (.call 19 (.cons (.var 3) .nil)) .nil) (.bin .le (.call 21 (.cons (.var 4) (.cons (.var 14) (.cons (.cst (.str "stretch")) .nil)))) (.var 9)) (.var 14)))
    (.ite (.bin .ne (.call 12 (.cons (.var 5) (.cons (.var 10) .nil))) (.bin .idx (.bin .add (.var 11) (.lst (.cons (.cst .non) .nil))) (.cst (.int 0)))) (.ret (.cst (.bl false))) .skip)))))
def lw7 : CS := (.ite (.or (.bin .gt (.una .len (.var 4)) (.call 10 (.cons (.var 3) (.cons (.var 6) .nil)))) (.or (.bin .gt (.call 14 (.cons (.var 5) .nil)) (.var 6)) (.or (.bin .lt (.call 10 (.cons (.var 3) (.cons (.call 14 (.cons (.var 5) .nil)) .nil))) (.una .len (.var 4))) (.and (.bin .gt (.call 14 (.cons (.var 5) .nil)) (.cst (.int 0))) (.bin .ge (.call 10 (.cons (.var 3) (.cons (.bin .sub (.call 14 (.cons (.var 5) .nil)) (.cst (.int 1))) .nil))) (.una .len (.var 4))))))) (.ret (.cst (.bl false))) .skip)
def lw8 : CS := (.asg (.var 12) (.una .max1 (.comp false (.var 20) .rng1 (.cons (.var 3) .nil) (.cst (.bl true)) (.una .len (.call 24 (.cons (.var 4) (.cons (.var 20) .nil)))))))
def lw9 : CS := (.ite (.or (.bin .ne (.call 15 (.cons (.var 5) .nil)) (.bin .sub (.var 12) (.bin .fdiv (.var 12) (.cst (.int 2))))) (.bin .gt (.call 15 (.cons (.var 5) .nil)) (.bin .min2 (.var 6) (.bin .idx (.call 22 (.cons (.var 2) (.cons (.cst (.str "cut")) .nil))) (.cst (.int 0)))))) (.ret (.cst (.bl false))) .skip)
def lw10 : CS := (.par (.cons (.var 13) (.cons (.var 14) .nil)) (.cons (.call 18 (.cons (.var 1) (.cons (.cst (.int 5)) .nil))) (.cons (.call 23 (.cons (.var 1) (.cons (.var 3) .nil))) .nil)))
def lw11 : CS := (.ite (.bin .eq (.bin .idx (.var 13) (.cst (.int 0))) (.var 3)) (.seq (.asg (.var 15) (.una .dict_ (.comp false (.var 21) .rng1 (.cons (.var 3) .nil) (.cst (.bl true)) (.tup (.cons (.bin .idx (.var 14) (.var 21)) (.cons (.var 21) .nil))))))
    (.seq (.asg (.var 16) (.comp false (.cons (.var 19) (.cons (.var 22) .nil)) .seq (.cons (.var 4) .nil) (.cst (.bl true)) (.una .tuple_ (.una .sorted_ (.lst (.cons (.bin .idx (.var 15) (.var 19)) (.cons (.bin .idx (.var 15) (.var 22)) .nil)))))))
    (.ite (.bin .ne (.call 11 (.cons (.var 5) (.cons (.mk 3 (.cons (.var 3) (.cons (.bin .idx (.var 13) (.cst (.int 1))) .nil))) (.cons (.var 14) .nil)))) (.bin .eq (.comp false (.var 23) .seq (.cons (.var 16) .nil) (.bin .notin (.var 23) (.bin .idx (.var 13) (.cst (.int 1)))) (.var 23)) (.lst .nil))) (.ret (.cst (.bl false))) .skip))) (.try_ (.seq (.expr (.call 11 (.cons (.var 5) (.cons (.mk 3 (.cons (.bin .idx (.var 13) (.cst (.int 0))) (.cons (.bin .idx (.var 13) (.cst (.int 1))) .nil))) (.cons (.var 14) .nil)))))
    (.ret (.cst (.bl false)))) (.hnd 1 (some 17) (.ite (.una .notNone (.eattr 17 0)) (.ret (.cst (.bl false))) .skip) .skip)))
def lw12 : CS := (.for_ false (.var 18) .seq (.cons (.lst (.cons (.una .neg (.cst (.int 1))) (.cons (.bin .add (.var 3) (.cst (.int 1))) (.cons (.cst .non) .nil)))) .nil) (.try_ (.seq (.expr (.call 9 (.cons (.var 3) (.cons (.var 18) .nil))))
    (.ret (.cst (.bl false)))) (.hnd 1 (some 17) (.ite (.una .notNone (.eattr 17 0)) (.ret (.cst (.bl false))) .skip) .skip)))
def lw13 : CS := (.ret (.cst (.bl true)))
def lwt13 : CS := lw13
def lwt12 : CS := .seq lw12 lwt13
def lwt11 : CS := .seq lw11 lwt12
def lwt10 : CS := .seq lw10 lwt11
def lwt9 : CS := .seq lw9 lwt10
def lwt8 : CS := .seq lw8 lwt9
def lwt7 : CS := .seq lw7 lwt8
def lwt6 : CS := .seq lw6 lwt7
def lwt5 : CS := .seq lw5 lwt6
def lwt4 : CS := .seq lw4 lwt5
def lwt3 : CS := .seq lw3 lwt4
def lwt2 : CS := .seq lw2 lwt3
def lwt1 : CS := .seq lw1 lwt2
def lwt0 : CS := .seq lw0 lwt1
theorem lw_eq : c_law_26.body = lwt0 := rfl

theorem ne_pTs (a : List (Nat × Nat)) : neV (.tup (a.map pT)) (.tup (a.map pT)) = some (.bl false) := by
  have hd : depLe 40 (.tup (a.map pT)) = true := by
    rw [depLe]
    exact depLeL_map fun x _ => depLe_pT 38 x
  show (if eqOk (.tup (a.map pT)) (.tup (a.map pT)) then some (PV.bl (!pvEqL (a.map pT) (a.map pT))) else none) = _
  rw [eqOk_of (x := .tup (a.map pT)) (y := .tup (a.map pT)) (plainL_map fun x _ => plain_pT x) (plainL_map fun x _ => plain_pT x) hd, if_pos rfl]
  have : pvEqL (a.map pT) (a.map pT) = true := pvEqL_refl fun x _ => by rw [pvEq_pT]; simp
  rw [this]; rfl
theorem noErr_pW (n : Nat) (ts : List (Nat × Nat)) : noErrS (.val (pW n ts)) = true := by
  show noErrF [(2, pI n), (3, pTs ts)] = true
  rw [noErrF, noErrF, noErrF, noErr_pTs]; rfl
theorem noErr_os (l : List (List Nat)) : noErrS (.own (.lst (l.map pO))) = true := noErr_map fun x _ => noErr_pO x
def sqP (f : Nat) (t : Nat × Nat) : Bool := decide (t.1 < t.2) && decide (t.2 ≤ f + t.1)
theorem sq_band {n f : Nat} (hn : n ∈ few) (hf : f ≤ n) : (sq n).filter (sqP f) = bandT n f := by
  have : nfs.all (fun p => decide ((sq p.1).filter (sqP p.2) = bandT p.1 p.2)) = true := by decide +kernel
  exact of_decide_eq_true (List.all_eq_true.mp this _ (mem_nfs hn hf))
theorem sq_len {n : Nat} (hn : n ∈ few) : (sq n).length ≤ 100 := by
  have : few.all (fun n => decide ((sq n).length ≤ 100)) = true := by decide +kernel
  exact of_decide_eq_true (List.all_eq_true.mp this _ hn)
section
variable (cf : CallF) (ns : List Int) (cs : List PV) (n : Nat) (ts : List (Nat × Nat))
/-- the frame of the law's run -/
def fr (v6 v7 v8 v9 v10 v11 v12 v13 v14 v15 v16 v18 : Slot) : St := ⟨[.val (.scr ns), .val (.loc 0), .val (.tup [pI n, pTs ts]), .val (pI n), .val (pTs ts), .val (pW n ts), v6, v7, v8, v9, v10, v11, v12, v13, v14, v15, v16, .non, v18, .non, .non, .non, .non, .non], cs, false⟩
theorem s0 : execS T17 cf lw0 ⟨[.val (.scr ns), .non, .non, .non, .non, .non, .non, .non, .non, .non, .non, .non, .non, .non, .non, .non, .non, .non, .non, .non, .non, .non, .non, .non], [], false⟩ = .ok .nx ⟨[.val (.scr ns), .val (.loc 0), .non, .non, .non, .non, .non, .non, .non, .non, .non, .non, .non, .non, .non, .non, .non, .non, .non, .non, .non, .non, .non, .non], [pR ns 0 223 0], false⟩ := by
  simp [lw0]
theorem s1 (c1 : List PV) (h : cf.fn 18 [.loc 0, .int 5] [pR ns 0 223 0] = .ok (.val (.tup [pI n, pTs ts])) c1) : execS T17 cf lw1 ⟨[.val (.scr ns), .val (.loc 0), .non, .non, .non, .non, .non, .non, .non, .non, .non, .non, .non, .non, .non, .non, .non, .non, .non, .non, .non, .non, .non, .non], [pR ns 0 223 0], false⟩ = .ok .nx ⟨[.val (.scr ns), .val (.loc 0), .val (.tup [pI n, pTs ts]), .non, .non, .non, .non, .non, .non, .non, .non, .non, .non, .non, .non, .non, .non, .non, .non, .non, .non, .non, .non, .non], c1, false⟩ := by
  simp [lw1, h]
theorem s2 : execS T17 cf lw2 ⟨[.val (.scr ns), .val (.loc 0), .val (.tup [pI n, pTs ts]), .non, .non, .non, .non, .non, .non, .non, .non, .non, .non, .non, .non, .non, .non, .non, .non, .non, .non, .non, .non, .non], cs, false⟩ = .ok .nx ⟨[.val (.scr ns), .val (.loc 0), .val (.tup [pI n, pTs ts]), .val (pI n), .val (pTs ts), .non, .non, .non, .non, .non, .non, .non, .non, .non, .non, .non, .non, .non, .non, .non, .non, .non, .non, .non], cs, false⟩ := by
  simp [lw2]
theorem s3 (h : cf.mkI 3 [pI n, pTs ts] cs = .ok (.val (pW n ts)) cs) : execS T17 cf lw3 ⟨[.val (.scr ns), .val (.loc 0), .val (.tup [pI n, pTs ts]), .val (pI n), .val (pTs ts), .non, .non, .non, .non, .non, .non, .non, .non, .non, .non, .non, .non, .non, .non, .non, .non, .non, .non, .non], cs, false⟩ = .ok .nx (fr ns cs n ts .non .non .non .non .non .non .non .non .non .non .non .non) := by
  simp [lw3, h, fr]
theorem s4 (L : Nat) (o : List Nat) (c : Nat) (h : cf.fn 22 [.tup [pI n, pTs ts], .str "stretch"] cs = .ok (.val (.tup [pI L, pO o, pI c])) cs) : execS T17 cf lw4 (fr ns cs n ts .non .non .non .non .non .non .non .non .non .non .non .non) = .ok .nx (fr ns cs n ts (.val (pI L)) (.val (pO o)) (.val (pI c)) .non .non .non .non .non .non .non .non .non) := by
  simp [lw4, h, fr]
theorem s5 (L : Nat) (o : List Nat) (v8 : Slot) (us : List (Nat × Nat)) (h13 : cf.fn 13 [pW n ts] cs = .ok (.val (pI L)) cs) (h9 : cf.fn 9 [pI n, pI L] cs = .ok (.val (pW n us)) cs) (h12 : cf.fn 12 [pW n ts, pW n us] cs = .ok (.val (pO o)) cs) : execS T17 cf lw5 (fr ns cs n ts (.val (pI L)) (.val (pO o)) v8 .non .non .non .non .non .non .non .non .non) = .ok .nx (fr ns cs n ts (.val (pI L)) (.val (pO o)) v8 .non .non .non .non .non .non .non .non .non) := by
  have e1 := ne_int L L
  have e2 := ne_pO o o
  simp at e1 e2
  simp [lw5, h13, h9, h12, fr, e1, e2]
theorem s6 (hn : n ∈ few) (v6 v7 v8 : Slot) (h9 : ∀ f, f ≤ n → cf.fn 9 [pI n, pI f] cs = .ok (.val (pW n (bandT n f))) cs) (h17 : cf.fn 17 [pI n, pI n] cs = .ok (.tmp (.lst ((sq n).map pT))) cs) (h10 : ∀ f, f ≤ n → cf.fn 10 [pI n, pI f] cs = .ok (.val (pI (bandT n f).length)) cs) (h19 : cf.fn 19 [pI n] cs = .ok (.val (.lst ((ords n).map pO))) cs) (h21 : ∀ o ∈ ords n, cf.fn 21 [pTs ts, pO o, .str "stretch"] cs = .ok (.val (pI (mea .st n o ts))) cs)
    (h12 : ∀ f, f ≤ n → cf.fn 12 [pW n ts, pW n (bandT n f)] cs = .ok (.val (ov ((ords n).find? fun o => decide (mea .st n o ts ≤ f)))) cs) : ∃ u v w, noErrS u = true ∧ noErrS v = true ∧ noErrS w = true ∧ execS T17 cf lw6 (fr ns cs n ts v6 v7 v8 .non .non .non .non .non .non .non .non .non) = .ok .nx (fr ns cs n ts v6 v7 v8 u v w .non .non .non .non .non .non) := by
  have h5 := few_le hn
  have hr := it_rng1 (n + 1) (by omega)
  have ec : ((n + 1 : Nat) : Int) = (n : Int) + 1 := by omega
  rw [List.range_eq_range'] at hr
  have hzO : sizeOk (ords n).length = true := szOk_le (by have := (sz_few hn (Nat.le_refl n)).1; exact Nat.le_trans this (by decide))
  have hzs : sizeOk (sq n).length = true := szOk_le (by have := sq_len hn; omega)
  obtain ⟨s', e, u, v, w, ea, eb, ed, hs⟩ := forR_rng (f := bodyF T17 cf (.var 9) (.seq (.asg (.var 10) (.call 9 (.cons (.var 3) (.cons (.var 9) .nil))))
    (.seq (.ite (.or (.bin .ne (.attr (.var 10) 3) (.una .tuple_ (.comp false (.cons (.var 19) (.cons (.var 13) .nil)) .seq (.cons (.call 17 (.cons (.var 3) (.cons (.var 3) .nil))) .nil) (.cmp2 .lt .le (.cst (.int 0)) (.bin .sub (.var 13) (.var 19)) (.var 9)) (.tup (.cons (.var 19) (.cons (.var 13) .nil)))))) (.bin .ne (.call 10 (.cons (.var 3) (.cons (.var 9) .nil))) (.una .len (.attr (.var 10) 3)))) (.ret (.cst (.bl false))) .skip)
    (.seq (.asg (.var 11) (.comp false (.var 14) .seq (.cons (.call 19 (.cons (.var 3) .nil)) .nil) (.bin .le (.call 21 (.cons (.var 4) (.cons (.var 14) (.cons (.cst (.str "stretch")) .nil)))) (.var 9)) (.var 14)))
    (.ite (.bin .ne (.call 12 (.cons (.var 5) (.cons (.var 10) .nil))) (.bin .idx (.bin .add (.var 11) (.lst (.cons (.cst .non) .nil))) (.cst (.int 0)))) (.ret (.cst (.bl false))) .skip)))))
    (a := 0) (n := n + 1) (I := fun k s => ∃ u v w, noErrS u = true ∧ noErrS v = true ∧ noErrS w = true ∧ s = fr ns cs n ts v6 v7 v8 u v w .non .non .non .non .non .non) (s := fr ns cs n ts v6 v7 v8 .non .non .non .non .non .non .non .non .non) (fun f s _ hf hI => by
      obtain ⟨u, v, w, ea, eb, ed, rfl⟩ := hI
      have hf : f ≤ n := by omega
      have h9 := h9 f hf
      have h10 := h10 f hf
      have h12 := h12 f hf
      have hsq := sq_band hn hf
      have hne := ne_pTs (bandT n f)
      have hni := ne_int (bandT n f).length (bandT n f).length
      simp at hni
      have hzb : sizeOk (bandT n f).length = true := szOk_le (by have := (band_ok hn f).len; omega)
      have hfh : ((ords n).filter fun o => decide (mea .st n o ts ≤ f)).head? = (ords n).find? fun o => decide (mea .st n o ts ≤ f) := List.head?_filter
      have hix := idx_head ((ords n).filter fun o => decide (mea .st n o ts ≤ f))
      rw [hfh] at hix
      have hov := ne_ov ((ords n).find? fun o => decide (mea .st n o ts ≤ f))
      generalize hB : bandT n f = B at *
      have hzf : sizeOk (((ords n).filter fun o => decide (mea .st n o ts ≤ f)).length + 1) = true := szOk_le (by
        have := List.length_filter_le (fun o => decide (mea .st n o ts ≤ f)) (ords n)
        have := (sz_few hn (Nat.le_refl n)).1
        have : (ords n).length ≤ 120 := this
        omega)
      refine ⟨_, ?_, .val (pI f), .val (pW n B), .own (.lst (((ords n).filter fun o => decide (mea .st n o ts ≤ f)).map pO)), rfl, noErr_pW n B, noErr_os _, rfl⟩
      simp only [fr]
      simp only [pW] at h9 h12
      simp [bodyF, h9, f2, f3, List.lookup, h17, hzs]
      rw [loopR_fmap (e := pT) (p := sqP f) (g := pT)]
      · rw [List.nil_append, hsq]
        simp [hne, h10, hni, hzb, f2, f3, List.lookup, h19, hzO]
        rw [loopR_fmap (e := pO) (p := fun o => decide (mea .st n o ts ≤ f)) (g := pO)]
        · rw [List.nil_append]
          generalize hY : (ords n).find? (fun o => decide (mea .st n o ts ≤ f)) = Y at *
          generalize hX : (ords n).filter (fun o => decide (mea .st n o ts ≤ f)) = X at *
          cases Y <;> (simp only [ov] at h12 hix hov; simp [h12, addV, hzf, hix, hov])
        · intro o ho acc
          have h21 := h21 o ho
          generalize mea .st n o ts = me at *
          by_cases hq : me ≤ f <;> simp [cmpF, noEx, h21, hq]
      · intro t ht acc
        have e1 : (0 < (t.2 : Int) - (t.1 : Int)) ↔ t.1 < t.2 := by omega
        have e2 : ((t.2 : Int) - (t.1 : Int) ≤ (f : Int)) ↔ t.2 ≤ f + t.1 := by omega
        simp only [pT, cmpF, asgT_2]
        unfold sqP
        by_cases q1 : t.1 < t.2
        · by_cases q2 : t.2 ≤ f + t.1 <;> simp [noEx, e1, e2, q1, q2]
        · simp [noEx, e1, q1]) ⟨_, _, _, rfl, rfl, rfl, rfl⟩
  refine ⟨u, v, w, ea, eb, ed, ?_⟩
  rw [← hs, ← e]
  rw [ec] at hr
  simp only [fr]
  simp [lw6, hr]
end
end K17
end

section
set_option Elab.async false
set_option linter.all false
set_option maxRecDepth 100000
set_option maxHeartbeats 800000
/-! N9: sorted rows of numbers. -/
namespace Nr
open Q
def unlB (x : Slot) (a b : St) : St := match x with
  | .non => a
  | _ => b
@[simp] theorem unlB_non (a b : St) : unlB .non a b = a := id rfl
@[simp] theorem unlB_val (v : PV) (a b : St) : unlB (.val v) a b = b := id rfl
@[simp] theorem unlB_own (v : PV) (a b : St) : unlB (.own v) a b = b := id rfl
@[simp] theorem unlend_slot_f (i : Nat) (rs : List RV) (s0 : St) (env : List Slot) (cells : List PV) (b : Bool) : unlend false s0 (.slot i :: rs) ⟨env, cells, b⟩ = unlB (env.getD i .non) (unlend false s0 rs ⟨env.set i (s0.get i), cells, b⟩) (unlend false s0 rs ⟨env, cells, b⟩) := by
  show (if false then unlend false s0 rs ⟨env, cells, b⟩ else match env.getD i .non with
    | .non => unlend false s0 rs ⟨env.set i (s0.get i), cells, b⟩
    | _ => unlend false s0 rs ⟨env, cells, b⟩) = _
  rw [if_neg (by decide)]
  cases env.getD i .non <;> rfl
@[simp] theorem unlend_slot_t (i : Nat) (rs : List RV) (s0 s : St) : unlend true s0 (.slot i :: rs) s = unlend true s0 rs s := id rfl
theorem dnat (a b : Nat) : decide ((a : Int) = (b : Int)) = decide (a = b) := by
  by_cases h : a = b
  · simp [h]
  · have : ¬ (a : Int) = (b : Int) := by omega
    simp [h, this]
theorem eq_nat (a b : Nat) : eqV (.int (a : Int)) (.int (b : Int)) = some (.bl (decide (a = b))) := by rw [eq_int, dnat]
theorem ne_nat (a b : Nat) : neV (.int (a : Int)) (.int (b : Int)) = some (.bl (!decide (a = b))) := by rw [ne_int, dnat]
def sortN (l : List Nat) : List Nat := l.mergeSort fun a b => decide (a ≤ b)
theorem pvSort_pI (l : List Nat) : pvSort (l.map pI) = (sortN l).map pI := by
  have key : ∀ a b : Nat, (!pvLt (pI b) (pI a)) = decide (a ≤ b) := by
    intro a b
    rw [pvLt_int]
    by_cases h : a ≤ b
    · have : ¬ (b : Int) < (a : Int) := by omega
      simp [h, this]
    · have : (b : Int) < (a : Int) := by omega
      simp [h, this]
  unfold pvSort sortN
  rw [← List.map_mergeSort (r := fun a b => decide (a ≤ b)) fun a _ b _ => (key a b).symm]
theorem sortable_pI (l : List Nat) (hl : l.length ≤ 1000000) : sortable (l.map pI) = true := by
  unfold sortable
  have h3 : (l.map pI).all (fun x => !isTup x && !isNon0 x) = true := by
    rw [List.all_eq_true]
    intro x hx
    obtain ⟨a, _, rfl⟩ := List.mem_map.mp hx
    rfl
  have h4 : alikeAll (l.map pI) = true := by rw [map_pI]; exact alikeAll_int _
  rw [plainL_pI, depLeL_pI, h4, h3, szOk_le (by simpa using hl)]
  simp
theorem sorted_lN (l : List Nat) (hl : l.length ≤ 1000000) : uop .sorted_ (.lst (l.map pI)) = some (.lst ((sortN l).map pI)) := by
  show (if sortable (l.map pI) then some (PV.lst (pvSort (l.map pI))) else none) = _
  rw [sortable_pI l hl, if_pos rfl, pvSort_pI]
theorem sorted_tN (l : List Nat) (hl : l.length ≤ 1000000) : uop .sorted_ (.tup (l.map pI)) = some (.lst ((sortN l).map pI)) := by
  show (if sortable (l.map pI) then some (PV.lst (pvSort (l.map pI))) else none) = _
  rw [sortable_pI l hl, if_pos rfl, pvSort_pI]
theorem sortN_perm (l : List Nat) : (sortN l).Perm l := List.mergeSort_perm _ _
theorem sortN_len (l : List Nat) : (sortN l).length = l.length := (sortN_perm l).length_eq
theorem sortN_two (a b : Nat) : sortN [a, b] = [min a b, max a b] := by
  unfold sortN
  refine List.Perm.eq_of_pairwise (le := fun a b => a ≤ b) (fun a b _ _ h1 h2 => Nat.le_antisymm h1 h2) ?_ ?_ ((List.mergeSort_perm _ _).trans ?_)
  · have := List.pairwise_mergeSort (le := fun a b : Nat => decide (a ≤ b)) (fun a b c h1 h2 => by simp at *; omega) (fun a b => by simp; omega) [a, b]
    exact this.imp fun h => by simpa using h
  · simp; omega
  · by_cases h : a ≤ b
    · rw [Nat.min_eq_left h, Nat.max_eq_right h]
    · rw [Nat.min_eq_right (by omega), Nat.max_eq_left (by omega)]
      exact List.Perm.swap _ _ _
theorem max_natL (a : Nat) (l : List Nat) : maxV (.lst ((a :: l).map pI)) = some (pI (maxFrom a l)) := by
  show (if ordOk ((a :: l).map pI) then some (pvMaxFrom (pI a) (l.map pI)) else none) = _
  rw [ordOk_pI, if_pos rfl, pvMaxFrom_pI]
theorem eq_nilT (l : List (Nat × Nat)) : eqV (.lst (l.map pT)) (.lst []) = some (.bl l.isEmpty) := by
  have hd : depLe 40 (.lst (l.map pT)) = true := by
    rw [depLe]
    exact depLeL_map fun x _ => depLe_pT 38 x
  show (if eqOk (.lst (l.map pT)) (.lst []) then some (PV.bl (pvEqL (l.map pT) [])) else none) = _
  rw [eqOk_of (x := .lst (l.map pT)) (y := .lst []) (plainL_map fun x _ => plain_pT x) rfl hd, if_pos rfl]
  cases l <;> rfl
end Nr
end

section
set_option Elab.async false
set_option linter.all false
set_option maxRecDepth 100000
set_option maxHeartbeats 2000000
namespace K17
open Nr Q
/-- the places tied to one -/
def othL (ts : List (Nat × Nat)) (p : Nat) : List Nat := sortN ((ts.filter (hasP p)).map (oth p))
theorem L24t {M : Nat} (h : 1 ≤ M) {ts : List (Nat × Nat)} (hl : ts.length ≤ 100) (p : Nat) (cells : List PV) : (callD T17 M).fn 24 [pTs ts, pI p] cells = .ok (.tmp (.lst ((othL ts p).map pI))) cells := by
  obtain ⟨m, rfl, hm⟩ := up1 h
  rw [fn_eq (fd := c__law_tied_24) rfl rfl]
  have hz : sizeOk ts.length = true := szOk_le (by omega)
  have hs := sorted_lN ((ts.filter (hasP p)).map (oth p)) (by
    have := List.length_filter_le (hasP p) ts
    rw [List.length_map]; omega)
  simp [c__law_tied_24, startEnv, hz]
  rw [loopR_fmap (e := pT) (p := hasP p) (g := fun t => pI (oth p t))]
  · have e0 : (ts.filter (hasP p)).map (fun t => pI (oth p t)) = ((ts.filter (hasP p)).map (oth p)).map pI := by rw [List.map_map]; rfl
    rw [List.nil_append, e0]
    unfold othL
    generalize (ts.filter (hasP p)).map (oth p) = X at *
    simp [hs]
  · intro t ht acc
    have q1 : eqV (.int (p : Int)) (.int (t.1 : Int)) = some (.bl (decide (p = t.1))) := eq_nat _ _
    have q2 : eqV (.int (p : Int)) (.int (t.2 : Int)) = some (.bl (decide (p = t.2))) := eq_nat _ _
    simp only [pT, cmpF, asgT_2]
    have hb : hasP p t = (decide (p = t.1) || decide (p = t.2)) := rfl
    have ho : hasP p t = true → (t.1 : Int) + (t.2 : Int) - (p : Int) = ((oth p t : Nat) : Int) := fun h => by
      rw [hasP_iff] at h; unfold oth; omega
    generalize oth p t = q at *
    generalize decide (p = t.1) = b1 at *
    generalize decide (p = t.2) = b2 at *
    rw [hb] at ho ⊢
    cases b1
    · cases b2
      · simp [noEx, q1, q2]
      · simp at ho
        simp [noEx, q1, q2, ho]
    · simp at ho
      simp [noEx, q1, ho]
theorem othL_len (ts : List (Nat × Nat)) (p : Nat) : (othL ts p).length = degN ts p := by
  unfold othL degN
  rw [sortN_len, List.length_map]
theorem noErr_kv (f : Nat → PV) (g : Nat → PV) (hg : ∀ i, noErr (g i) = true) : ∀ l : List Nat, noErrD (l.map fun i => (f i, g i)) = true
  | [] => rfl
  | a :: l => by rw [List.map_cons, noErrD, hg, noErr_kv f g hg l]; rfl
theorem noErr_kvL : ∀ (o : List Nat) (k : Nat), noErrD (kvL k o) = true
  | [], k => rfl
  | a :: l, k => by
    show noErrD ((pI a, pI k) :: kvL (k + 1) l) = true
    rw [noErrD, noErr_kvL l (k + 1)]; rfl
section
variable (cf : CallF) (ns : List Int) (cs : List PV) (n : Nat) (ts : List (Nat × Nat))
theorem s7 (L t : Nat) (v7 v8 v9 v10 v11 : Slot) (hl : ts.length ≤ 100) (hLn : L ≤ n) (htn : t ≤ n) (h1 : ts.length ≤ bsz n L) (h2 : t ≤ L) (h3 : ts.length ≤ bsz n t) (h4 : ∀ f, f < t → bsz n f < ts.length) (h14 : cf.fn 14 [pW n ts] cs = .ok (.val (pI t)) cs) (h10 : ∀ f, f ≤ n → cf.fn 10 [pI n, pI f] cs = .ok (.val (pI (bsz n f))) cs) :
    execS T17 cf lw7 (fr ns cs n ts (.val (pI L)) v7 v8 v9 v10 v11 .non .non .non .non .non .non) = .ok .nx (fr ns cs n ts (.val (pI L)) v7 v8 v9 v10 v11 .non .non .non .non .non .non) := by
  have a10 := h10 L hLn
  have b10 := h10 t htn
  have hz : sizeOk ts.length = true := szOk_le (by omega)
  have c1 : ¬ ((bsz n L : Int) < (ts.length : Int)) := by omega
  have c2 : ¬ ((L : Int) < (t : Int)) := by omega
  have c3 : ¬ ((bsz n t : Int) < (ts.length : Int)) := by omega
  by_cases h0 : 0 < t
  · have e : ((t - 1 : Nat) : Int) = (t : Int) - 1 := by omega
    have d10 := h10 (t - 1) (by omega)
    have hd := h4 (t - 1) (by omega)
    have c4 : ¬ ((ts.length : Int) ≤ (bsz n (t - 1) : Int)) := by omega
    unfold pI at d10
    rw [e] at d10
    simp only [fr]
    simp [lw7, a10, b10, h14, d10, hz, c1, c2, c3, c4, h0]
  · have h0 : t = 0 := by omega
    subst h0
    simp only [fr]
    simp at b10 h14 c3
    have c1' : ts.length ≤ bsz n L := h1
    have c3' : ts.length ≤ bsz n 0 := h3
    have c5 : ¬ ((L : Int) < 0) := by omega
    have d1 := Nat.not_lt.mpr h1
    have d3 := Nat.not_lt.mpr h3
    simp [lw7, a10, b10, h14, hz, d1, d3, c5]
theorem s8 (hn0 : 0 < n) (hn : n ≤ 10) (D : Nat) (v6 v7 v8 v9 v10 v11 : Slot) (hl : ts.length ≤ 100) (hD : ∃ a l, (List.range n).map (degN ts) = a :: l ∧ D = maxFrom a l) (h24 : ∀ p, p < n → cf.fn 24 [pTs ts, pI p] cs = .ok (.tmp (.lst ((othL ts p).map pI))) cs) :
    execS T17 cf lw8 (fr ns cs n ts v6 v7 v8 v9 v10 v11 .non .non .non .non .non .non) = .ok .nx (fr ns cs n ts v6 v7 v8 v9 v10 v11 (.val (pI D)) .non .non .non .non .non) := by
  have hr := it_rng1 n (by omega)
  have hz : sizeOk n = true := szOk_le (by omega)
  obtain ⟨a, l, e1, rfl⟩ := hD
  have hm := max_natL a l
  rw [← e1] at hm
  have e0 : (List.range n).map (fun p => pI (degN ts p)) = ((List.range n).map (degN ts)).map pI := by rw [List.map_map]; rfl
  rw [← e0] at hm
  simp only [fr]
  simp [lw8, hr, hz]
  rw [loopR_map (e := pI) (g := fun p => pI (degN ts p))]
  · rw [List.nil_append]
    simp [hm]
  · intro p hp acc
    have h := h24 p (List.mem_range.mp hp)
    have hle := othL_len ts p
    have hzl : sizeOk (othL ts p).length = true := szOk_le (by
      have := List.length_filter_le (hasP p) ts
      rw [hle]; unfold degN; omega)
    generalize othL ts p = q at *
    simp [cmpF, noEx, h, hzl, hle]
theorem s9 (L C D R c : Nat) (o : List Nat) (v7 v8 v9 v10 v11 : Slot) (hR : R = (D + 1) / 2) (h1 : D ≤ 2 * L) (h2 : D ≤ 2 * C) (h15 : cf.fn 15 [pW n ts] cs = .ok (.val (pI R)) cs) (h22 : cf.fn 22 [.tup [pI n, pTs ts], .str "cut"] cs = .ok (.val (.tup [pI C, pO o, pI c])) cs) :
    execS T17 cf lw9 (fr ns cs n ts (.val (pI L)) v7 v8 v9 v10 v11 (.val (pI D)) .non .non .non .non .non) = .ok .nx (fr ns cs n ts (.val (pI L)) v7 v8 v9 v10 v11 (.val (pI D)) .non .non .non .non .non) := by
  have e : (D : Int) - ((D / 2 : Nat) : Int) = (R : Int) := by omega
  have hd : bop .fdiv (.int (D : Int)) (.int 2) = some (.int ((D / 2 : Nat) : Int)) := by rw [dv _ _ (by decide) (by decide)]; congr 2
  have hne := ne_int (R : Int) (R : Int)
  simp at hne
  have i0 : idxV (.tup [pI C, pO o, pI c]) (.int 0) = some (pI C) := rfl
  have c1 : (R : Int) ≤ (if C < L then (C : Int) else (L : Int)) := by split <;> omega
  generalize D / 2 = D2 at *
  simp only [fr]
  simp [lw9, h15, hd, e, hne, h22, i0, c1, -op_fdiv]
theorem s10 (v6 v7 v8 v9 v10 v11 v12 : Slot) (c1 c2 : List PV) (n2 : Nat) (us : List (Nat × Nat)) (o : List Nat) (h18 : cf.fn 18 [.loc 0, .int 5] cs = .ok (.val (.tup [pI n2, pTs us])) c1) (h23 : cf.fn 23 [.loc 0, pI n] c1 = .ok (.val (pO o)) c2) :
    execS T17 cf lw10 (fr ns cs n ts v6 v7 v8 v9 v10 v11 v12 .non .non .non .non .non) = .ok .nx (fr ns c2 n ts v6 v7 v8 v9 v10 v11 v12 (.val (.tup [pI n2, pTs us])) (.val (pO o)) .non .non .non) := by
  simp only [fr]
  simp [lw10, h18, h23]
def nn (x : Slot) : Prop := noErrS x = true
theorem s11a {o : List Nat} (ho : Ord n o) (ht : Ties n ts) {X : List (Nat × Nat)} (hX : X = ts.map (lieT o)) (v6 v7 v8 v9 v10 v11 v12 : Slot) (us : List (Nat × Nat)) (hmk : cf.mkI 3 [pI n, pTs us] cs = .ok (.val (pW n us)) cs) (h11 : cf.fn 11 [pW n ts, pW n us, pO o] cs = .ok (.val (.bl (lies o ts us))) cs) :
    execS T17 cf lw11 (fr ns cs n ts v6 v7 v8 v9 v10 v11 v12 (.val (.tup [pI n, pTs us])) (.val (pO o)) .non .non .non) = .ok .nx (fr ns cs n ts v6 v7 v8 v9 v10 v11 v12 (.val (.tup [pI n, pTs us])) (.val (pO o)) (.own (.dct (kvL 0 o))) (.own (.lst (X.map pT))) .non) := by
  have hr := it_rng1 n (by have := ho.few; omega)
  have hz : sizeOk n = true := szOk_le (by have := ho.few; omega)
  have hzt : sizeOk ts.length = true := szOk_le (by have := ht.len; omega)
  have hd := dict_row o ho.nd
  rw [ho.len] at hd
  simp only [pI, pO] at hd
  have i0 : idxV (.tup [pI n, pTs us]) (.int 0) = some (pI n) := rfl
  have i1 : idxV (.tup [pI n, pTs us]) (.int 1) = some (pTs us) := rfl
  have hq := eq_int (n : Int) (n : Int)
  simp at hq
  have hsl : (fr ns cs n ts v6 v7 v8 v9 v10 v11 v12 (.val (.tup [pI n, pTs us])) (.val (pO o)) .non .non .non) = ⟨[.val (.scr ns), .val (.loc 0), .val (.tup [pI n, pTs ts]), .val (pI n), .val (pTs ts), .val (pW n ts), v6, v7, v8, v9, v10, v11, v12, (.val (.tup [pI n, pTs us])), (.val (pO o)), .non, .non, .non, .non, .non, .non, .non, .non, .non], cs, false⟩ := rfl
  rw [hsl]
  simp [lw11, i0, hq, hr, hz]
  rw [loopR_map (e := pI) (g := fun p => .tup [pI (o.getD p 0), pI p])]
  · simp only [List.nil_append, R.bind_ok, view_tmp, ofOpt_some, up_dict, hd]
    simp [hzt]
    rw [loopR_map (e := pT) (g := fun t => pT (lieT o t))]
    · have e0 : ts.map (fun t => pT (lieT o t)) = X.map pT := by rw [hX, List.map_map]; rfl
      rw [List.nil_append, e0]
      have hl : X.length ≤ 100 := by rw [hX, List.length_map]; exact ht.len
      have hla : lies o ts us = X.all fun t => decide (t ∈ us) := by rw [hX]; unfold lies; rw [List.all_map]; rfl
      rw [hla] at h11
      have hzX : sizeOk X.length = true := szOk_le (by omega)
      have hq2 := eq_nilT (X.filter fun t => !decide (t ∈ us))
      have hb : (X.filter fun t => !decide (t ∈ us)).isEmpty = X.all fun t => decide (t ∈ us) := by
        rw [Bool.eq_iff_iff, List.isEmpty_iff, List.filter_eq_nil_iff, List.all_eq_true]
        exact forall₂_congr fun t ht => by simp
      rw [hb] at hq2
      generalize X.all (fun t => decide (t ∈ us)) = b at *
      have hnb : neV (.bl b) (.bl b) = some (.bl false) := by rw [ne_bl]; simp
      simp only [pW] at hmk h11
      simp [i0, i1, hmk, h11, hzX]
      rw [loopR_fmap (e := pT) (p := fun t => !decide (t ∈ us)) (g := pT)]
      · rw [List.nil_append]
        simp only [R.bind_ok, view_tmp, ofOpt_some, cls_lst]
        simp [hq2, hnb, fr]
      · intro t ht acc
        have hin := in_ts t.1 t.2 us
        by_cases c : t ∈ us <;> (simp [c] at hin; simp [cmpF, noEx, hin, c, i1])
    · intro t hm acc
      obtain ⟨h1, h2⟩ := ht.lt t hm
      have e1 := idx_dct o _ (ho.mem _ h1)
      have e2 := idx_dct o _ (ho.mem _ h2)
      have hs := sorted_lN [o.idxOf t.1, o.idxOf t.2] (by simp)
      rw [sortN_two] at hs
      simp only [List.map_cons, List.map_nil] at hs
      have hle : lieT o t = (min (o.idxOf t.1) (o.idxOf t.2), max (o.idxOf t.1) (o.idxOf t.2)) := rfl
      simp only [pT, cmpF, asgT_2, hle]
      generalize o.idxOf t.1 = a at *
      generalize o.idxOf t.2 = b at *
      generalize min a b = mi at *
      generalize max a b = ma at *
      simp [noEx, e1, e2, hs]
  · intro p hp acc
    have hp : p < n := List.mem_range.mp hp
    have hi := idx_pO o p (by rw [ho.len]; exact hp)
    simp [cmpF, noEx, hi]
end
end K17
end

section
set_option Elab.async false
set_option linter.all false
set_option maxRecDepth 100000
set_option maxHeartbeats 2000000
namespace K17
open Nr Q
theorem hx1 : T17.exc 1 = some [0] := rfl
theorem hnx : T17.noex = false := rfl
theorem his1 : T17.isExc 1 1 = true := rfl
theorem nn_non : uop .notNone .non = some (.bl false) := rfl
theorem noErr_told (n : Nat) (ts : List (Nat × Nat)) : noErrS (.val (.tup [pI n, pTs ts])) = true := by
  show noErrL [pI n, pTs ts] = true
  rw [noErrL, noErrL, noErrL, noErr_pTs]; rfl
theorem noErr_vts (ts : List (Nat × Nat)) : noErrS (.val (pTs ts)) = true := noErr_pTs ts
theorem noErr_vO (o : List Nat) : noErrS (.val (pO o)) = true := noErr_pO o
theorem noErr_vI (i : Int) : noErrS (.val (.int i)) = true := rfl
section
variable (cf : CallF) (ns : List Int) (cs : List PV) (n : Nat) (ts : List (Nat × Nat))
theorem s11b {n2 : Nat} (hn2 : n2 ≠ n) {v6 v7 v8 v9 v10 v11 v12 : Slot} (h6 : noErrS v6 = true) (h7 : noErrS v7 = true) (h8 : noErrS v8 = true) (h9 : noErrS v9 = true) (h10 : noErrS v10 = true) (h11' : noErrS v11 = true) (h12 : noErrS v12 = true) (us : List (Nat × Nat)) (o : List Nat) (hc : cs.all noErr = true) (hmk : cf.mkI 3 [pI n2, pTs us] cs = .ok (.val (pW n2 us)) cs) (h11 : cf.fn 11 [pW n ts, pW n2 us, pO o] cs = bad0 cs) :
    execS T17 cf lw11 (fr ns cs n ts v6 v7 v8 v9 v10 v11 v12 (.val (.tup [pI n2, pTs us])) (.val (pO o)) .non .non .non) = .ok .nx (fr ns cs n ts v6 v7 v8 v9 v10 v11 v12 (.val (.tup [pI n2, pTs us])) (.val (pO o)) .non .non .non) := by
  have i0 : idxV (.tup [pI n2, pTs us]) (.int 0) = some (pI n2) := rfl
  have i1 : idxV (.tup [pI n2, pTs us]) (.int 1) = some (pTs us) := rfl
  have hq := eq_nat n2 n
  simp [hn2] at hq
  have q1 := noErr_told n2 us
  have q2 := noErr_told n ts
  have q3 := noErr_vts ts
  have q4 := noErr_vO o
  have q5 := noErr_pW n ts
  have q6 : noErrS (.val (.scr ns)) = true := rfl
  have q7 : noErrS (.val (.loc 0)) = true := rfl
  have q8 : noErrS (.val (pI n)) = true := rfl
  have q9 : noErrS .non = true := rfl
  have hk : noErrK .nx = true := rfl
  simp only [pW] at hmk h11
  simp only [pW] at q5
  simp only [fr, pW]
  simp [lw11, i0, i1, hq, hmk, h11, bad0, hnx, hx1, his1, List.lookup, nn_non, q1, q2, q3, q4, q5, q6, q7, q8, q9, h6, h7, h8, h9, h10, h11', h12, hc, hk]
theorem s12 {v6 v7 v8 v9 v10 v11 v12 v13 v14 v15 v16 : Slot} (h6 : noErrS v6 = true) (h7 : noErrS v7 = true) (h8 : noErrS v8 = true) (h9 : noErrS v9 = true) (h10 : noErrS v10 = true) (h11' : noErrS v11 = true) (h12 : noErrS v12 = true) (h13 : noErrS v13 = true) (h14 : noErrS v14 = true) (h15 : noErrS v15 = true) (h16 : noErrS v16 = true) (hc : cs.all noErr = true) (hw : ∀ w ∈ [PV.int (-1), .int ((n : Int) + 1), .non], cf.fn 9 [pI n, w] cs = bad0 cs) :
    ∃ v18, execS T17 cf lw12 (fr ns cs n ts v6 v7 v8 v9 v10 v11 v12 v13 v14 v15 v16 .non) = .ok .nx (fr ns cs n ts v6 v7 v8 v9 v10 v11 v12 v13 v14 v15 v16 v18) := by
  have q2 := noErr_told n ts
  have q3 := noErr_vts ts
  have q5 := noErr_pW n ts
  have q6 : noErrS (.val (.scr ns)) = true := rfl
  have q7 : noErrS (.val (.loc 0)) = true := rfl
  have q8 : noErrS (.val (pI n)) = true := rfl
  have q9 : noErrS .non = true := rfl
  have hk : noErrK .nx = true := rfl
  obtain ⟨s', e, v18, hv, hs⟩ := forR_inv (f := bodyF T17 cf (.var 18) (.try_ (.seq (.expr (.call 9 (.cons (.var 3) (.cons (.var 18) .nil))))
    (.ret (.cst (.bl false)))) (.hnd 1 (some 17) (.ite (.una .notNone (.eattr 17 0)) (.ret (.cst (.bl false))) .skip) .skip))) (xs := [PV.int (-1), .int ((n : Int) + 1), .non]) (I := fun (_ : Unit) s => ∃ z, noErrS z = true ∧ s = fr ns cs n ts v6 v7 v8 v9 v10 v11 v12 v13 v14 v15 v16 z) (step := fun _ _ => ()) (a := ()) (s := fr ns cs n ts v6 v7 v8 v9 v10 v11 v12 v13 v14 v15 v16 .non) (by
      rintro w hm _ s ⟨z, hz, rfl⟩
      have hx := hw w hm
      have hnw : noErrS (.val w) = true := by
        simp only [List.mem_cons, List.not_mem_nil, or_false] at hm
        rcases hm with rfl | rfl | rfl <;> rfl
      refine ⟨fr ns cs n ts v6 v7 v8 v9 v10 v11 v12 v13 v14 v15 v16 (.val w), ?_, .val w, hnw, rfl⟩
      simp only [fr]
      simp [bodyF, hx, bad0, hnx, hx1, his1, List.lookup, nn_non, q2, q3, q5, q6, q7, q8, q9, h6, h7, h8, h9, h10, h11', h12, h13, h14, h15, h16, hnw, hc, hk]) ⟨.non, rfl, rfl⟩
  refine ⟨v18, ?_⟩
  have e1 : uop .neg (.int 1) = some (.int (-1)) := rfl
  rw [← hs, ← e]
  simp only [fr]
  simp [lw12, e1]
theorem s13 (v6 v7 v8 v9 v10 v11 v12 v13 v14 v15 v16 v18 : Slot) : execS T17 cf lw13 (fr ns cs n ts v6 v7 v8 v9 v10 v11 v12 v13 v14 v15 v16 v18) = .ok (.ret (.val (.bl true))) (fr ns cs n ts v6 v7 v8 v9 v10 v11 v12 v13 v14 v15 v16 v18) := by
  simp [lw13, fr]
end
theorem law_true (ns : List Int) : ∃ cs, (callD T17 30).fn 26 [.scr ns] [] = .ok (.val (.bl true)) cs := by
  obtain ⟨n, ts, i1, x1, y1, hn0, hn5, hg, hi1, h18⟩ := web7 (M := 29) (by decide) 5 (by decide) (by decide) ns 0 223 0 (Int.le_refl 0)
  obtain ⟨n2, us, i2, x2, y2, hm0, hm5, hg2, hi2, h18b⟩ := web7 (M := 29) (by decide) 5 (by decide) (by decide) ns i1 x1 y1 hi1
  obtain ⟨o, i3, x3, y3, hperm, hi3, h23⟩ := ord7 (M := 29) (by decide) (n := n) (by omega) ns i2 x2 y2 hi2
  have hw := goodW hg hn0 (by omega)
  have ht := goodTies hw
  have hw2 := goodW hg2 hm0 (by omega)
  have ho := ordP hperm (by omega)
  have hf : n ∈ few := by simp only [few, List.mem_cons, List.not_mem_nil, or_false]; omega
  have hcl1 : [pR ns i1 x1 y1].all noErr = true := rfl
  have hcl3 : [pR ns i3 x3 y3].all noErr = true := rfl
  have hfin : ∃ c, c = [pR ns i3 x3 y3] := ⟨_, rfl⟩
  generalize hc1 : [pR ns i1 x1 y1] = c1 at h18 h18b hcl1
  generalize hc2 : [pR ns i2 x2 y2] = c2 at h18b h23
  generalize hc3 : [pR ns i3 x3 y3] = c3 at h23 hcl3
  obtain ⟨c, h22⟩ := L25 (M := 29) (by decide) .st hf ht c1
  obtain ⟨c', h22c⟩ := L25 (M := 29) (by decide) .cu hf ht c1
  rw [show minL ((ords n).map fun o => mea .st n o ts) = leaS n ts from rfl, show (ords n).getD (firstK .st n ts) [] = firS n ts from rfl] at h22
  have hLn := lea_le hf hw
  have h13 := L13b (M := 29) (by decide) hf ht (leaS n ts) hLn (fun f hq => firstL_low hf hw f hq) (firstL_lea hf hw) c1
  have h9 := fun f (hq : f ≤ n) => L9 (M := 29) (by decide) hf hq c1
  have h10 := fun f (hq : f ≤ n) => L10 (M := 29) (by decide) hf hq c1
  have h12 := L12 (M := 29) (by decide) hf ht (bandT n (leaS n ts)) c1
  rw [firstL_lea hf hw] at h12
  have h17 := L17p (M := 29) (by decide) hf c1
  have h19 := L26 (M := 29) (by decide) hf c1
  have h21 := fun o (hoo : o ∈ ords n) => L24 (M := 29) (by decide) .st (ord_of hf hoo) ht c1
  have h12b := fun f (hq : f ≤ n) => L12 (M := 29) (by decide) hf ht (bandT n f) c1
  simp only [firstL_eq hf hw] at h12b
  have htl := ties_le hf hw
  obtain ⟨t, ht1, ht2, ht3⟩ := least_at (fun f => ts.length ≤ bsz n f) (leaS n ts) htl
  have ht3' : ∀ f, f < t → bsz n f < ts.length := fun f hq => by have := ht3 f hq; omega
  have h14 := L14 (M := 29) (by decide) hf ts hw.len t (by omega) ht3' ht2 c1
  have h15 := L15 (M := 29) (by decide) hn0 (by omega) ts c1
  have hD : degs n ts = (List.range n).map (degN ts) := List.map_congr_left fun p hp => deg_near hw (List.mem_range.mp hp)
  obtain ⟨da, dl, hd1, hd2⟩ := degs_ne hn0 ts
  have hmx := le_maxFrom dl da
  have hmem : ∃ p, p < n ∧ degN ts p = maxD n ts := by
    have : maxD n ts ∈ degs n ts := by
      rw [hd1, hd2]
      rcases hmx.2.2 with e | e
      · rw [e]; exact List.mem_cons_self
      · exact List.mem_cons_of_mem _ e
    rw [hD] at this
    obtain ⟨p, hp, e⟩ := List.mem_map.mp this
    exact ⟨p, List.mem_range.mp hp, e⟩
  obtain ⟨p, hp, hpe⟩ := hmem
  obtain ⟨os, hos, eos⟩ := lea_ord hf .st ts
  obtain ⟨oc, hoc, eoc⟩ := lea_ord hf .cu ts
  have b1 : maxD n ts ≤ 2 * leaS n ts := by rw [← hpe]; exact deg_stretch (ord_of hf hos) hw hp (by rw [eos]; exact Nat.le_refl _)
  have b2 : maxD n ts ≤ 2 * minL ((ords n).map fun o => mea .cu n o ts) := by rw [← hpe]; exact deg_cut (ord_of hf hoc) hw hp (by rw [eoc]; exact Nat.le_refl _)
  have h24 := fun p (_ : p < n) => L24t (M := 29) (by decide) hw.len p c1
  have e0 := s0 (callD T17 29) ns
  have e1 := s1 (callD T17 29) ns n ts _ h18
  have e2 := s2 (callD T17 29) ns c1 n ts
  have e3 := s3 (callD T17 29) ns c1 n ts (L34 (by decide) hw _)
  have e4 := s4 (callD T17 29) ns c1 n ts _ _ _ h22
  have e5 := s5 (callD T17 29) ns c1 n ts _ (firS n ts) (.val (pI c)) _ h13 (h9 _ hLn) h12
  obtain ⟨u, v, w, hu, hv, hw', e6⟩ := s6 (callD T17 29) ns c1 n ts hf (.val (pI (leaS n ts))) (.val (pO (firS n ts))) (.val (pI c)) h9 h17 h10 h19 h21 h12b
  have e7 := s7 (callD T17 29) ns c1 n ts (leaS n ts) t (.val (pO (firS n ts))) (.val (pI c)) u v w hw.len hLn (by omega) htl ht1 ht2 ht3' h14 h10
  have e8 := s8 (callD T17 29) ns c1 n ts hn0 (by omega) (maxD n ts) (.val (pI (leaS n ts))) (.val (pO (firS n ts))) (.val (pI c)) u v w hw.len ⟨da, dl, by rw [← hD]; exact hd1, hd2⟩ h24
  have e9 := s9 (callD T17 29) ns c1 n ts (leaS n ts) _ (maxD n ts) _ _ _ (.val (pO (firS n ts))) (.val (pI c)) u v w rfl b1 b2 h15 h22c
  have e10 := s10 (callD T17 29) ns c1 n ts (.val (pI (leaS n ts))) (.val (pO (firS n ts))) (.val (pI c)) u v w (.val (pI (maxD n ts))) c2 c3 n2 us o h18b h23
  have hmk2 := L34 (M := 29) (by decide) hw2 c3
  have e11 : ∃ v15 v16, noErrS v15 = true ∧ noErrS v16 = true ∧ execS T17 (callD T17 29) lw11 (fr ns c3 n ts (.val (pI (leaS n ts))) (.val (pO (firS n ts))) (.val (pI c)) u v w (.val (pI (maxD n ts))) (.val (.tup [pI n2, pTs us])) (.val (pO o)) .non .non .non) = .ok .nx (fr ns c3 n ts (.val (pI (leaS n ts))) (.val (pO (firS n ts))) (.val (pI c)) u v w (.val (pI (maxD n ts))) (.val (.tup [pI n2, pTs us])) (.val (pO o)) v15 v16 .non) := by
    by_cases q : n2 = n
    · subst q
      exact ⟨.own (.dct (kvL 0 o)), .own (.lst ((ts.map (lieT o)).map pT)), noErr_kvL o 0, noErr_map (e := pT) fun x _ => (show noErrL [pI x.1, pI x.2] = true from rfl), s11a (callD T17 29) ns c3 n2 ts ho ht rfl _ _ _ u v w _ us hmk2 (L11 (by decide) ho ht us c3)⟩
    · exact ⟨.non, .non, rfl, rfl, s11b (callD T17 29) ns c3 n ts q rfl (noErr_vO _) rfl hu hv hw' rfl us o hcl3 hmk2 (L11x (by decide) ho q ts us c3)⟩
  obtain ⟨v15, v16, h15', h16', e11⟩ := e11
  obtain ⟨v18, e12⟩ := s12 (callD T17 29) ns c3 n ts (v6 := .val (pI (leaS n ts))) (v8 := .val (pI c)) (v12 := .val (pI (maxD n ts))) rfl (noErr_vO (firS n ts)) rfl hu hv hw' rfl (noErr_told n2 us) (noErr_vO o) h15' h16' hcl3 (fun w hm => L9w (by decide) hf c3 hm)
  have e13 := s13 (callD T17 29) ns c3 n ts (.val (pI (leaS n ts))) (.val (pO (firS n ts))) (.val (pI c)) u v w (.val (pI (maxD n ts))) (.val (.tup [pI n2, pTs us])) (.val (pO o)) v15 v16 v18
  refine ⟨c3, ?_⟩
  rw [fn_eq (fd := c_law_26) rfl rfl, lw_eq]
  have hs : (⟨startEnv c_law_26 ([PV.scr ns].map .val), [], false⟩ : St) = ⟨[.val (.scr ns), .non, .non, .non, .non, .non, .non, .non, .non, .non, .non, .non, .non, .non, .non, .non, .non, .non, .non, .non, .non, .non, .non, .non], [], false⟩ := rfl
  have hrun : execS T17 (callD T17 29) lwt0 ⟨[.val (.scr ns), .non, .non, .non, .non, .non, .non, .non, .non, .non, .non, .non, .non, .non, .non, .non, .non, .non, .non, .non, .non, .non, .non, .non], [], false⟩ = .ok (.ret (.val (.bl true))) (fr ns c3 n ts (.val (pI (leaS n ts))) (.val (pO (firS n ts))) (.val (pI c)) u v w (.val (pI (maxD n ts))) (.val (.tup [pI n2, pTs us])) (.val (pO o)) v15 v16 v18) := by
    rw [lwt0, nx_then _ _ e0, lwt1, nx_then _ _ e1, lwt2, nx_then _ _ e2, lwt3, nx_then _ _ e3, lwt4, nx_then _ _ e4, lwt5, nx_then _ _ e5, lwt6, nx_then _ _ e6, lwt7, nx_then _ _ e7, lwt8, nx_then _ _ e8, lwt9, nx_then _ _ e9, lwt10, nx_then _ _ e10, lwt11, nx_then _ _ e11, lwt12, nx_then _ _ e12, lwt13, e13]
  rw [hs, hrun]
  rfl
end K17
end

section
set_option Elab.async false
set_option linter.all false
set_option maxRecDepth 100000
set_option maxHeartbeats 4000000
/-! E45: the law's end. -/
namespace Nr
open PySem PySem.Spec PyProof.Rows L2 PySem.W
def spLaw (K : PySem.W.Frag) (n : Nat) : Sp := fun vs H Q _ => ∃ (a : Addr) (ns : List Int), vs = [.ref a] ∧ ns.length ≤ n ∧ SqL K H a (ns.map V.int) ∧ ∀ H', Q (.bl true) H'
theorem end_sp {I : Inf} {cf : CallF} {f : Nat} {ns : List Int} {a : Addr} {H : Hp} {Q : VK} {E : XK} (h : ∃ cs, cf.fn f [.scr ns] [] = .ok (.val (.bl true)) cs) (hS : SqL I.K H a (ns.map V.int)) (hQ : ∀ H', Q (.bl true) H') : spF I cf 1 f [.ref a] H Q E := by
  obtain ⟨cs, e⟩ := h
  refine ⟨rfl, fun b => if b = a then H b else none, [], [], [.scr ns], ⟨fun b o q => ?_, rfl, fun m b c q => by simp at q, fun b q => by simp at q, List.nodup_nil⟩, ⟨.ref a, [], rfl, ⟨a, rfl, ?_⟩, rfl⟩, ?_⟩
  · have q : (if b = a then H b else none) = some o := q
    split at q
    · exact .inl q
    · cases q
  · rcases hS with q | q
    · refine .inl ?_
      rcases q with q | ⟨o, q⟩
      · exact .inl (by show (if a = a then H a else none) = _; rw [if_pos rfl]; exact q)
      · exact .inr ⟨o, by show (if a = a then H a else none) = _; rw [if_pos rfl]; exact q⟩
    · exact .inr q
  · rw [e]
    intro F' L' H' v _ o
    have o : v = .bl true := o
    rw [o]
    exact hQ H'
/-- the law's def, called -/
theorem LD.last (D : LD) {f m k n : Nat} {e : DL} {x : Str} (hs : D.stat0 = true) (hs1 : D.stat1 = true) (hd : ∀ p ∈ D.defs, D.defB p.2 = true) (hb : ∀ p ∈ D.defs, LD.Binds0 p.2) (he : D.defs.lookup f = some e) (hx : e.ps = [x]) (h1 : e.fd.ar = 1) (hat : e.d.at_ = (e.d.name, none)) (hk : lv m = k)
    (hev : ∀ ns : List Int, ns.length ≤ n → ∃ cs, (callD D.tab m).fn f [.scr ns] [] = .ok (.val (.bl true)) cs)
    {P : Program} (hpr : D.progB P = true) {w : World} {K : PySem.W.Frag} {h : Heap} {mg : Str → Option Value} {fa : Addr} (X : K.In h) (G : h.Ns mainGlobals mg) (hfa : mg e.d.name = some (.ref fa)) (c : He.SaysX D.fa D.fns [] [] D.ex w h K) :
    ∃ fd : FuncData, (∀ (s : Shared) (v : Value), BindsTo s fd ⟨[v], []⟩ [(x, v)]) ∧ ∀ base : Heap, K.In base → base.Ns mainGlobals mg → FnOk P w K mg base (L2.CX P w) k fa fd [x] (spLaw K n) := by
  have hi : ∀ f g, D.an f = D.an g → f = g := by
    have hs := hs
    unfold LD.stat0 at hs
    obtain ⟨hs, _⟩ := band hs
    obtain ⟨hs, _⟩ := band hs
    obtain ⟨s1, s2⟩ := band hs
    exact an_inj (of_decide_eq_true s1) s2
  have hm := lookup_mem he
  have hdd := hd _ hm
  unfold LD.defB at hdd
  obtain ⟨hdd, d6⟩ := band hdd
  obtain ⟨hdd, d5⟩ := band hdd
  obtain ⟨hdd, d4⟩ := band hdd
  obtain ⟨hdd, d3⟩ := band hdd
  obtain ⟨d1, d2⟩ := band hdd
  obtain ⟨fdata, F⟩ := c.t.d.defs (d := e.d) (List.mem_map.mpr ⟨_, hm, rfl⟩)
  have e1 : e.d.dvs K = [] := by unfold He.DefD.dvs; rw [List.isEmpty_iff.mp d1]; rfl
  have e2 : e.d.kws K = [] := by unfold He.DefD.kws; rw [List.isEmpty_iff.mp d2]; rfl
  rw [e1, e2] at F
  have hfad : He.fAd K e.d.at_ = fa := by
    rw [hat]
    show He.ga K e.d.name = fa
    have f1 : He.Fa.glo e.d.name ∈ D.fa := by
      refine List.mem_append_left _ ?_
      unfold LD.fa0
      simp only [List.mem_append, List.mem_filterMap]
      exact .inl (.inl (.inl (.inl (.inl (.inl (.inr ⟨_, hm, by rw [hat]⟩))))))
    have := He.glo_ok X G (c.t.d.facts f1)
    rw [hfa] at this
    cases this
    rfl
  refine ⟨fdata, fun s v => ?_, fun base KB GB => ?_⟩
  · have := FunD.bindsA F (hb _ hm) s [v] (by rw [hx]; rfl)
    rw [hx] at this
    exact this
  · have Lw : LawTx (D.inf hi P w K mg base) D.nm D.tab D.ar D.nx := lawTx hs hd hb hi X G c.t.d c.more hs1 hpr
    have hf : D.tab.fns f = some e.fd := by
      show (D.defs.lookup f).map (·.fd) = _
      rw [he]; rfl
    -- the def's own object
    cases m with
    | zero =>
      obtain ⟨cs, q⟩ := hev [] (Nat.zero_le _)
      cases q
    | succ m =>
      have ih := defs_ok Lw m
      have S := scB_ok d3
      have ok : FnOk P w K mg base (L2.CX P w) (lv m + 1 + 1) (He.fAd K e.d.at_) fdata e.ps (spF (D.inf hi P w K mg base) (callD D.tab (m + 1)) e.fd.ar f) := by
        refine FunD.ok (k := lv m + 1) F S (fun vs H Q E q => by rw [eq_of_beq d4]; exact q.1) fun cdv A outer s H vs Q E hr hsp => ?_
        exact ⟨_, (s_chkS (eng_of Lw ih.1 ih.2 e.N) Lw.hnx e.fd.body _ _ e.d.body (cxt_of (I := D.inf hi P w K mg base) Lw S hr) d6).1, body_ok hf (eq_of_beq d5) hsp⟩
      rw [hfad, hx, h1] at ok
      have ek : lv m + 1 + 1 = k := by rw [← hk]; unfold lv; omega
      rw [ek] at ok
      refine ok.imp fun vs H Q E q => ?_
      obtain ⟨a, ns, rfl, hl, hS, hQ⟩ := q
      exact end_sp (hev ns hl) hS hQ
end Nr
end

section
set_option Elab.async false
set_option linter.all false
set_option maxRecDepth 100000
set_option maxHeartbeats 4000000
/-! E46: a law's call, whatever the world. -/
namespace Nr
open PySem PySem.Spec PyProof.Rows L2 PySem.W
def CXw (P : Program) : CXT := fun outer H s E u s' => ∃ w, L2.CX P w outer H s E u s'
theorem fnOk_w {P : Program} {w : World} {K : PySem.W.Frag} {mg : Str → Option Value} {base : Heap} {k : Nat} {f : Addr} {fd : FuncData} {ps : List Str} {sp : Sp} (F : FnOk P w K mg base (L2.CX P w) k f fd ps sp) : FnOk P w K mg base (CXw P) k f fd ps sp :=
  ⟨F.len, fun A outer s H args us vs Q E hr he hb hv hs => codeAny_mono (F.run A outer s H args us vs Q E hr he hb hv hs) fun r s' h => by
    cases r with
    | ok z => cases z <;> exact h
    | error e => exact ⟨w, h⟩⟩
theorem cxw_never {P : Program} (H : Hp) (s : Shared) (e : Value) (s' : Shared) : CXw P [] H s (fun _ _ _ => False) e s' → False := by
  rintro ⟨w, h⟩
  unfold L2.CX at h
  obtain ⟨_, _, _, _, _, _, _, _, _, _, _, _, h⟩ := h
  exact h
end Nr
end

section
set_option Elab.async false
set_option linter.all false
set_option maxRecDepth 100000
set_option maxHeartbeats 4000000
/-! EX4: the Hook of a law whose classes ask for the statics too. -/
namespace Nr
open PySem PySem.Spec PyProof.Rows L2 PySem.W He
def obsY (n : Nat) (fa : List Fa) (fn : List DefD) (ex : PySem.W.Frag → Bool) (g : Addr → Option Obj) : AlX := (obsT fa fn [] (frT g (cStatics :: asD g n)), ex (frT g (cStatics :: asD g n)))
theorem saysY_of {n : Nat} {fa : List Fa} {fn : List DefD} {ex : PySem.W.Frag → Bool} {w : World} {h : Heap} (e : obsY n fa fn ex h.get? = valX fn [] w) : SaysX fa fn [] [] ex w h (frT h.get? (cStatics :: asD h.get? n)) :=
  ⟨congrArg (fun z : AlX => z.1) e, congrArg (fun z : AlX => z.2) e, (fun p hp => by cases hp), (fun p hp => by cases hp), (fun p hp => by cases hp)⟩
def hookY (n : Nat) (fa : List Fa) (fn : List DefD) (ex : PySem.W.Frag → Bool) : PySem.W.Hook where
  α := AlX
  obs := fun s => obsY n fa fn ex s.heap.get?
  val := fun w => valX fn [] w
  says := fun w h => ∃ K : PySem.W.Frag, K.In h ∧ SaysX fa fn [] [] ex w h K
  of := fun _ _ e => ⟨_, frT_in, saysY_of e⟩
  keeps := fun _ _ _ ⟨K, hK, c⟩ k => ⟨K, PySem.W.Frag.In.keeps hK k, ⟨c.t, c.more, c.hd, c.out, (fun p hp => by cases hp)⟩⟩
theorem obsY_eq {n : Nat} {fa : List Fa} {fn : List DefD} {ex : PySem.W.Frag → Bool} {g : Addr → Option Obj} {s : Shared} (h : ∀ a, g a = s.heap.get? a) : obsY n fa fn ex g = (hookY n fa fn ex).obs s := by
  have e : g = s.heap.get? := funext h
  rw [e] <;> rfl
end Nr
end

section
set_option Elab.async false
set_option linter.all false
set_option maxRecDepth 100000
set_option maxHeartbeats 0
namespace K17
open PySem PySem.Spec PyProof.Rows L2 PySem.W Nr
def loose0 : List PySem.Str := [("_wall" : PySem.Str), ("__name__" : PySem.Str), ("WebError" : PySem.Str), ("BadItem" : PySem.Str), ("TooMany" : PySem.Str), ("is_whole" : PySem.Str), ("is_number" : PySem.Str), ("is_row" : PySem.Str), ("MOST_TRIED" : PySem.Str), ("is_order" : PySem.Str), ("want_order" : PySem.Str), ("all_orders" : PySem.Str)]
def loose1 : List PySem.Str := [("MOST_PLACES" : PySem.Str), ("is_tie" : PySem.Str), ("Web" : PySem.Str), ("all_ties" : PySem.Str), ("band" : PySem.Str), ("band_size" : PySem.Str), ("lies_in" : PySem.Str), ("first_lying" : PySem.Str), ("least_band" : PySem.Str), ("tie_bar" : PySem.Str), ("degree_bar" : PySem.Str), ("_law_taken" : PySem.Str)]
def loose2 : List PySem.Str := [("_law_pairs" : PySem.Str), ("_law_web" : PySem.Str), ("_law_orders" : PySem.Str), ("_law_cuts" : PySem.Str), ("_law_measure" : PySem.Str), ("_law_least" : PySem.Str), ("_law_order" : PySem.Str), ("_law_tied" : PySem.Str), ("_law_lives" : PySem.Str)]
def loose : List PySem.Str := loose0 ++ loose1 ++ loose2
abbrev R : PySem.W.OpenRow := PySem.W.OpenLaw.row PySem.Challenge.rw_narrowrows_k17_whole_bands
abbrev hk : PySem.W.Hook := Nr.hookY 5 D.fa D.fns D.ex
def ob (s : PySem.W.SharedT) : He.AlX := Nr.obsY 5 D.fa D.fns D.ex (HandSHeadRun.getT s)
theorem ob_eq (s : PySem.W.SharedT) : ob s = hk.obs s.abs := Nr.obsY_eq (HandSHeadRun.getT_eq s)
theorem run (w : World) : HandSHeadRun.RunEq R (PySem.W.view R.prog [38]) hk ob 3000 loose w := by
  intro os
  kernel_rfl
end K17
end

section
set_option Elab.async false
set_option linter.all false
set_option maxRecDepth 100000
set_option maxHeartbeats 0
open PySem PySem.W PySem.Calls PyProof.Rows
theorem k17_of (hev : ∀ ns : List Int, ns.length ≤ 63 → ∃ cs, (Nr.callD K17.D.tab 30).fn K17.lawId [.scr ns] [] = .ok (.val (.bl true)) cs) : PySem.Challenge.rw_narrowrows_k17_whole_bands.Holds := by
  w_on; o_law
  refine HandSHeadRun.head_any (r := OpenLaw.row PySem.Challenge.rw_narrowrows_k17_whole_bands) (q := view (OpenLaw.row PySem.Challenge.rw_narrowrows_k17_whole_bands).prog [38]) (H := K17.hk) (ob := K17.ob) (M := 3000) (loose := K17.loose) (d := HandSHeadRun.topDef (OpenLaw.row PySem.Challenge.rw_narrowrows_k17_whole_bands).prog 38) (kwd := []) K17.ob_eq
    (by kernel_rfl) (fun s => by kernel_rfl) K17.run (by kernel_rfl) (by kernel_rfl) (by kernel_rfl) (by rfl) (by first | assumption | decide +kernel) (by decide +kernel) ⟨rfl, rfl, rfl, rfl, rfl, by decide +kernel⟩ ?hw ?hc
  case hw => w_witness2
  case hc =>
    refine L2.walk_ofE (l := PySem.Challenge.rw_narrowrows_k17_whole_bands) (n := 63) (k := 60) (x := "script") (CX := Nr.CXw PySem.Challenge.rw_narrowrows_k17_whole_bands.prog) rfl (by decide) (by kernel_rfl) ⟨rfl, by decide, by decide⟩ ?F (fun H s e s' z => Nr.cxw_never H s e s' z)
    intro w mg fa h Y G hmg0
    obtain ⟨K, KX, c⟩ := Y
    have hmg : mg ("law" : PySem.Str) = some (.ref fa) := by
      have e : (HandSHeadRun.topDef (OpenLaw.row PySem.Challenge.rw_narrowrows_k17_whole_bands).prog 38).name = ("law" : PySem.Str) := by kernel_rfl
      rw [← e]
      exact hmg0
    obtain ⟨fd, hb, hF⟩ := Nr.LD.last K17.D (f := K17.lawId) (m := 30) (k := 60) (n := 63) (e := K17.e_law_26) (x := "script") (P := PySem.Challenge.rw_narrowrows_k17_whole_bands.prog) (by kernel_rfl) (by kernel_rfl) K17.allD K17.allB (by kernel_rfl) rfl rfl rfl rfl hev (by kernel_rfl) KX G hmg c
    exact ⟨K, fd, Nr.spLaw K 63, KX, hb, fun H a ns hl _ hS => ⟨a, ns, rfl, hl, hS, fun _ => rfl⟩, fun base h1 h2 => Nr.fnOk_w (hF base h1 h2)⟩
end

section
open PySem PySem.W PySem.Calls PyProof.Rows
theorem PySem.Challenge.cw_narrowrows_k17_whole_bands_holds : PySem.Challenge.rw_narrowrows_k17_whole_bands.Holds := by
  exact k17_of fun ns _ => by
    rw [K17.tab_eq]
    exact K17.law_true ns
end
