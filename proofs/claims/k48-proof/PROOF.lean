import PyProof.Rows.All
import HandS.Lambda
import HandS.EndTab
import Wide.All
import OpenK.AllK
import Wide.FinOn
import HandS.ForMost
import HandS.Deep
import HandS.TupAny
import HandS.TupMul
import HandS.Zip
import HandS.Wide
import HandS.Flow
import HandS.ExcOwn
import HandS.WordsExc
import HandS.More
import HandS.Conv
import KE.IntBitsLaws
import KE.DataMinMax
import KE.SortData
import KE.DataIsa
import KE.DataFind
import HandS.IsInst
import KE.KTupSum
import PyProof.TupleOfSeq
import HandS.SortOrd
import KE.KDictPairs
import KE.GoesEnum
import HandS.DictTup
import HandS.Iter
import HandS.Style
import HandS.DictComp
import HandS.SortKw
import KE.SortKeyHeap
import HandS.Nested
import HandS.ExcIs
import HandS.TryMany
import HandS.Small
import HandS.EndBits
import PySem.Challenge.RW_votehouse_k48_whole_issues_in_turn
namespace Ev
/-- the defs that make lambdas -/
def mkNames : List PySem.Str := ["law"]
/-- the module's own tuples are values; then no dict has tuples for keys -/
def kTup : Bool := false
end Ev

set_option Elab.async false
set_option linter.all false
namespace Ev
open PySem

/-- a value: data that nobody changes any more; a mutable object; a def of the module; the script -/
inductive Vl where
  | d (x : PyData)
  | r (i : Nat)
  | g (x : Str)
  | sc (ns : List Int)
  /-- a caught error -/
  | x (a : Nat)
/-- a mutable object -/
inductive MO where
  | lst (xs : List Vl)
  | dct (t : Bool) (kvs : List (PyData × PyData))
  | dead
abbrev MH := List MO
inductive Res (α : Type) where
  | ok (a : α) (h : MH)
  | exc (c : Str) (xs : List PyData) (h : MH)
  | stuck
variable {α β γ : Type}
def Res.bind (x : Res α) (f : α → MH → Res β) : Res β :=
  match x with
  | .ok a h => f a h
  | .exc c xs h => .exc c xs h
  | .stuck => .stuck
/-- no exception: stuck where one comes -/
def Res.calm (x : Res α) : Res α :=
  match x with
  | .ok a h => .ok a h
  | _ => .stuck
theorem Res.bind_ok (a : α) (h : MH) (f : α → MH → Res β) : (Res.ok a h).bind f = f a h := rfl
theorem Res.bind_exc (c : Str) (xs : List PyData) (h : MH) (f : α → MH → Res β) : (Res.exc c xs h : Res α).bind f = .exc c xs h := rfl
theorem Res.bind_stuck (f : α → MH → Res β) : (Res.stuck : Res α).bind f = .stuck := rfl
theorem Res.calm_ok (a : α) (h : MH) : (Res.ok a h).calm = .ok a h := rfl
theorem Res.bind_bind (x : Res α) (f : α → MH → Res β) (g : β → MH → Res γ) : (x.bind f).bind g = x.bind fun a h => (f a h).bind g := by
  cases x <;> rfl
theorem Res.bind_eq_ok {x : Res α} {f : α → MH → Res β} {b : β} {h : MH} (e : x.bind f = .ok b h) : ∃ a h1, x = .ok a h1 ∧ f a h1 = .ok b h := by
  cases x with
  | ok a h1 => exact ⟨a, h1, rfl, e⟩
  | exc c xs h1 => cases e
  | stuck => cases e

abbrev Env := List (Option Vl)
abbrev sz : Nat := 16777216
def ofOpt (o : Option α) (h : MH) : Res α := match o with
  | some a => .ok a h
  | none => .stuck
theorem ofOpt_some (a : α) (h : MH) : ofOpt (some a) h = .ok a h := rfl

/-! ### data -/
/-- data without dicts, nested at most n deep -/
def okN : Nat → PyData → Bool
  | _, .none => true
  | _, .bool _ => true
  | _, .int _ => true
  | _, .str _ => true
  | n + 1, .list xs => xs.all (okN n)
  | n + 1, .tuple xs => xs.all (okN n)
  | _, _ => false
def allD : List Vl → Option (List PyData)
  | [] => some []
  | .d x :: r => (allD r).map (x :: ·)
  | _ :: _ => none
/-- the items of a sequence -/
def items : Vl → MH → Option (List Vl)
  | .d (.list xs), _ => some (xs.map .d)
  | .d (.tuple xs), _ => some (xs.map .d)
  | .r i, h => match h[i]? with
    | some (.lst xs) => some xs
    | _ => none
  | _, _ => none
/-- .. of a list alone -/
def itemsL : Vl → MH → Option (List Vl)
  | .d (.list xs), _ => some (xs.map .d)
  | .r i, h => match h[i]? with
    | some (.lst xs) => some xs
    | _ => none
  | _, _ => none
/-- a value as data -/
def cont : Vl → MH → Option PyData
  | .d x, _ => some x
  | .r i, h => match h[i]? with
    | some (.lst xs) => (allD xs).map .list
    | _ => none
  | _, _ => none
/-- the items of a sequence that is all data -/
def contS (v : Vl) (h : MH) : Option (List PyData) := match cont v h with
  | some (.list xs) => some xs
  | some (.tuple xs) => some xs
  | _ => none
/-- .. of a sequence that is data already -/
def contF : Vl → Option (List PyData)
  | .d (.list xs) => some xs
  | .d (.tuple xs) => some xs
  | _ => none
def below (n : Nat) : Vl → Bool
  | .d _ => true
  | .r j => decide (j < n)
  | _ => false
/-- a new list -/
def mkl (mk : Bool) (xs : List Vl) (h : MH) : Res Vl :=
  if mk = true then (if xs.all (below h.length) = true then .ok (.r h.length) (h ++ [.lst xs]) else .stuck)
  else match allD xs with
    | some ds => .ok (.d (.list ds)) h
    | none => .stuck
def mkt (xs : List Vl) (h : MH) : Res Vl := match allD xs with
  | some ds => .ok (.d (.tuple ds)) h
  | none => .stuck

/-! ### dicts: t: the keys are tuples of numbers and texts, else numbers and texts -/
def keyK : PyData → Option L2.Key
  | .int i => some (.inl i)
  | .str x => some (.inr x)
  | _ => none
def keysK : List PyData → Option (List L2.Key)
  | [] => some []
  | x :: xs => match keyK x, keysK xs with
    | some k, some ks => some (k :: ks)
    | _, _ => none
def keyT : PyData → Option (List L2.Key)
  | .tuple xs => if kTup = true then none else keysK xs
  | _ => none
theorem keyT_some {d : PyData} {cs : List L2.Key} (h : keyT d = some cs) : kTup = false ∧ ∃ xs, d = .tuple xs ∧ keysK xs = some cs := by
  cases d with
  | tuple xs =>
    have h : (if kTup = true then none else keysK xs) = some cs := h
    split at h
    · cases h
    · rename_i hk
      exact ⟨eq_false_of_ne_true hk, xs, rfl, h⟩
  | _ => cases h
def kc (t : Bool) (k : PyData) : Option (List L2.Key) := if t = true then keyT k else (keyK k).map fun x => [x]
def dfind (t : Bool) (kvs : List (PyData × PyData)) (c : List L2.Key) : Option PyData := (kvs.find? fun p => decide (kc t p.1 = some c)).map (·.2)
def dputL (t : Bool) (kvs : List (PyData × PyData)) (k : PyData) (c : List L2.Key) (v : PyData) : List (PyData × PyData) :=
  if (kvs.any fun p => decide (kc t p.1 = some c)) = true then kvs.map fun p => if kc t p.1 = some c then (p.1, v) else p else kvs ++ [(k, v)]
/-- what a dict holds at a key; the first none: no dict, or no key for it -/
def dgetO (o k : Vl) (h : MH) : Option (Option PyData) := match o, k with
  | .r i, .d k => (match h[i]? with
    | some (.dct t kvs) => (match kc t k with
      | some c => some (dfind t kvs c)
      | none => none)
    | _ => none)
  | _, _ => none
def dgetV (o k : Vl) (h : MH) : Option PyData := (dgetO o k h).join
def dputV (o k v : Vl) (h : MH) : Res Unit := match o, k, v with
  | .r i, .d k, .d v => (match h[i]? with
    | some (.dct t kvs) => (match kc t k with
      | some c => if kvs.length < sz then .ok () (h.set i (.dct t (dputL t kvs k c v))) else .stuck
      | none => .stuck)
    | _ => .stuck)
  | _, _, _ => .stuck
def isDct : Vl → MH → Bool
  | .r i, h => match h[i]? with
    | some (.dct _ _) => true
    | _ => false
  | _, _ => false
def dkeys : Vl → MH → Option (List PyData)
  | .r i, h => match h[i]? with
    | some (.dct true kvs) => some (kvs.map (·.1))
    | _ => none
  | _, _ => none
/-! ### operators -/
inductive Bop where
  | add | sub | mul | fdiv | mod | pow | shl | shr | band | bxor | bor
  deriving DecidableEq
inductive Cop where
  | eq | ne | lt | le | gt | ge | is | isnot | in_ | notin
  deriving DecidableEq

def small64 (i : Int) : Bool := decide (-(2 ^ 64) < i ∧ i < 2 ^ 64)
/-- ints alone -/
def binI : Bop → Int → Int → Option Int
  | .add, i, j => some (i + j)
  | .sub, i, j => some (i - j)
  | .mul, i, j => if (small64 i || small64 j || decide (i.natAbs < 2 ^ 250 ∧ j.natAbs < 2 ^ 250)) = true then some (i * j) else none
  | .fdiv, i, j => if j ≠ 0 ∧ j.natAbs < 2 ^ 250 then some (i.fdiv j) else none
  | .mod, i, j => if j ≠ 0 then some (i.fmod j) else none
  | .pow, i, j => if 0 ≤ j ∧ j ≤ 1000000 ∧ i.natAbs < 2 ^ 64 then some (i ^ j.toNat) else none
  | .shl, i, j => if 0 ≤ j ∧ j ≤ 1000000 ∧ i.natAbs < 2 ^ 64 then some (i * 2 ^ j.toNat) else none
  | .shr, i, j => if 0 ≤ j then some (i / 2 ^ j.toNat) else none
  | .band, i, j => some (Builtin.bitAnd i j)
  | .bxor, i, j => some (Builtin.bitXor i j)
  | .bor, i, j => some (Builtin.bitOr i j)
def binV (op : Bop) (mk : Bool) (x y : Vl) (h : MH) : Res Vl :=
  match op, x, y with
  | op, .d (.int i), .d (.int j) => (match binI op i j with
    | some k => .ok (.d (.int k)) h
    | none => .stuck)
  | .add, .d (.tuple xs), .d (.tuple ys) => if xs.length + ys.length ≤ sz then .ok (.d (.tuple (xs ++ ys))) h else .stuck
  | .add, .d (.str a), .d (.str b) => if a.length + b.length ≤ sz then .ok (.d (.str (a ++ b))) h else .stuck
  | .mul, .d (.tuple xs), .d (.int j) => if j = 1 then .ok (.d (.tuple xs)) h else if 2 ≤ j ∧ j ≤ 1000 ∧ xs.length ≤ 1000 ∧ xs.isEmpty = false then .ok (.d (.tuple (List.replicate j.toNat xs).flatten)) h else .stuck
  | .mul, x, .d (.int j) => (match itemsL x h with
    | some xs => if 0 ≤ j ∧ j < 2 ^ 63 ∧ xs.length * j.toNat ≤ sz then mkl mk (List.replicate j.toNat xs).flatten h else .stuck
    | none => .stuck)
  | .add, x, y => (match itemsL x h, itemsL y h with
    | some xs, some ys => if xs.length + ys.length ≤ sz then mkl mk (xs ++ ys) h else .stuck
    | _, _ => .stuck)
  | _, _, _ => .stuck
def isNone : Vl → Bool
  | .d .none => true
  | _ => false
def isNoneD : PyData → Bool
  | .none => true
  | _ => false
open PySem.W in
def ordD (op : Cop) (a b : PyData) : Option Bool :=
  if (alike a b && okN 40 a && okN 40 b && !isNoneD a) = true then
    match op with
    | .lt => some (dataLt a b)
    | .le => some (!dataLt b a)
    | .gt => some (dataLt b a)
    | .ge => some (!dataLt a b)
    | _ => none
  else none
def anyEqv (xs : List PyData) (a : PyData) : Bool := xs.any fun y => PyData.eqv y a
def cmpI : Cop → Int → Int → Option Bool
  | .eq, i, j => some (decide (i = j))
  | .ne, i, j => some (!decide (i = j))
  | .lt, i, j => some (decide (i < j))
  | .le, i, j => some (decide (i ≤ j))
  | .gt, i, j => some (decide (j < i))
  | .ge, i, j => some (decide (j ≤ i))
  | _, _, _ => none
def isNoneL : Vl → MH → Option Bool
  | .r i, h => match h[i]? with
    | some (.lst _) => some false
    | _ => none
  | x, _ => some (isNone x)
def cmpD (op : Cop) (a b : PyData) : Option Bool := match op with
  | .eq => if (okN 40 a && okN 40 b) = true then some (PyData.eqv a b) else none
  | .ne => if (okN 40 a && okN 40 b) = true then some (!PyData.eqv a b) else none
  | op => ordD op a b
def cmpG (op : Cop) (x y : Vl) (h : MH) : Option Bool := match x, y with
  | .d (.int i), .d (.int j) => cmpI op i j
  | x, y => (match cont x h, cont y h with
    | some a, some b => cmpD op a b
    | _, _ => none)
/-- ints, tuples of them, against what may stand there -/
def tEq : Nat → PyData → PyData → Bool
  | _, .int _, _ => true
  | n + 1, .tuple ds, .tuple es => (ds.zip es).all fun p => tEq n p.1 p.2
  | _, _, _ => false
def tIn : Nat → PyData → Bool
  | _, .int _ => true
  | n + 1, .tuple ds => ds.all (tIn n)
  | _, _ => false
/-- anything in a row of such -/
def inT (x : Vl) (ys : List PyData) : Option Bool := match x with
  | .d a => if (ys.all fun y => tIn 4 y && tEq 4 y a) = true then some (anyEqv ys a) else none
  | _ => none
/-- one of True, False is one of True, False -/
def isBl : Vl → Vl → Option Bool
  | .d (.bool a), .d (.bool b) => some (decide (a = b))
  | _, _ => none
def cmpV (op : Cop) (x y : Vl) (h : MH) : Option Bool :=
  match op with
  | .is => if isNone y = true then isNoneL x h else isBl x y
  | .isnot => if isNone y = true then (isNoneL x h).map not else (isBl x y).map not
  | .in_ => (match cont x h, contS y h with
    | some a, some ys => if (okN 40 a && okN 40 (.tuple ys)) = true then some (anyEqv ys a) else inT x ys
    | _, _ => none)
  | .notin => (match cont x h, contS y h with
    | some a, some ys => if (okN 40 a && okN 40 (.tuple ys)) = true then some (!anyEqv ys a) else (inT x ys).map (!·)
    | _, _ => none)
  | op => cmpG op x y h
def truth : Vl → MH → Option Bool
  | .d .none, _ => some false
  | .d (.bool b), _ => some b
  | .d (.int i), _ => some (i != 0)
  | .d (.list xs), _ => some (!xs.isEmpty)
  | .d (.tuple xs), _ => some (!xs.isEmpty)
  | .r i, h => match h[i]? with
    | some (.lst xs) => some (!xs.isEmpty)
    | _ => none
  | _, _ => none

/-! ### items, slices -/
def ixOf (i : Int) (n : Nat) : Option Nat :=
  if 0 ≤ i then (if i < n then some i.toNat else none) else (if 0 ≤ i + n then some (i + n).toNat else none)
def idxV (x i : Vl) (h : MH) : Option Vl :=
  match i with
  | .d (.int i) => (match items x h with
    | some xs => (match ixOf i xs.length with
      | some k => xs[k]?
      | none => none)
    | none => none)
  | _ => none
/-- a slice's end -/
def cutAt (n d : Nat) : Option Int → Nat
  | none => d
  | some i => if 0 ≤ i then min i.toNat n else (i + n).toNat
def cutL {α : Type} (xs : List α) (lo hi : Option Int) : List α := (xs.drop (cutAt xs.length 0 lo)).take (cutAt xs.length xs.length hi - cutAt xs.length 0 lo)
def asI : Vl → Option Int
  | .d (.int i) => some i
  | _ => none
/-- a slice's part: left out, or an int -/
def optI : List Vl → Option (Option Int)
  | [] => some none
  | [.d (.int i)] => some (some i)
  | _ => none
def sliV (mk : Bool) (x : Vl) (lo hi : Option Int) (h : MH) : Res Vl :=
  match x with
  | .d (.tuple xs) => .ok (.d (.tuple (cutL xs lo hi))) h
  | .sc ns => mkl mk ((cutL ns lo hi).map fun n => .d (.int n)) h
  | x => (match itemsL x h with
    | some xs => mkl mk (cutL xs lo hi) h
    | none => .stuck)

/-! ### built-in functions -/
inductive Bi where
  | len | tuple | list | int | abs | all | any | sum | sorted | max | min | max2 | min2 | listRange | tupleRange | dictP
  deriving DecidableEq
def boolsOf : List PyData → Option (List Bool)
  | [] => some []
  | .bool b :: r => (boolsOf r).map (b :: ·)
  | _ :: _ => none
def intsOf : List PyData → Option (List Int)
  | [] => some []
  | .int b :: r => (intsOf r).map (b :: ·)
  | _ :: _ => none
/-- all are of one kind; all are tuples with an item, or none is None or a tuple -/
def sortableB (xs : List PyData) : Bool :=
  (xs.all fun a => xs.all fun b => PySem.W.alike a b) && (xs.all fun a => match a with | .tuple (_ :: _) => true | _ => false) ||
  (xs.all fun a => xs.all fun b => PySem.W.alike a b) && (xs.all fun a => match a with | .tuple _ => false | .none => false | _ => true)
/-- .. or all are tuples -/
def sortTB (xs : List PyData) : Bool := (xs.all fun a => xs.all fun b => PySem.W.alike a b) && (xs.all fun a => match a with | .tuple _ => true | _ => false)
def rangeD (lo : Int) (n : Nat) : List PyData := (List.range n).map fun (k : Nat) => .int (lo + (k : Int))
def b_len : List Vl → MH → Res Vl
  | [x], h => (match items x h with
    | some xs => if xs.length ≤ sz then .ok (.d (.int xs.length)) h else .stuck
    | none => .stuck)
  | _, _ => .stuck
def b_tuple : List Vl → MH → Res Vl
  | [x], h => (match items x h with
    | some xs => mkt xs h
    | none => .stuck)
  | _, _ => .stuck
def b_list (mk : Bool) : List Vl → MH → Res Vl
  | [x], h => (match items x h with
    | some xs => mkl mk xs h
    | none => .stuck)
  | _, _ => .stuck
def b_int : List Vl → MH → Res Vl
  | [.d (.int i)], h => .ok (.d (.int i)) h
  | [.d (.bool b)], h => .ok (.d (.int (if b then 1 else 0))) h
  | _, _ => .stuck
def b_abs : List Vl → MH → Res Vl
  | [.d (.int i)], h => .ok (.d (.int (if i < 0 then -i else i))) h
  | _, _ => .stuck
/-- the data of a list alone -/
def contL (v : Vl) (h : MH) : Option (List PyData) := match cont v h with
  | some (.list xs) => some xs
  | _ => none
def b_all : List Vl → MH → Res Vl
  | [x], h => (match (contL x h).bind boolsOf with
    | some bs => .ok (.d (.bool (bs.all id))) h
    | none => .stuck)
  | _, _ => .stuck
def b_any : List Vl → MH → Res Vl
  | [x], h => (match (contL x h).bind boolsOf with
    | some bs => .ok (.d (.bool (bs.any id))) h
    | none => .stuck)
  | _, _ => .stuck
def b_sum : List Vl → MH → Res Vl
  | [x], h => (match (contS x h).bind intsOf with
    | some ns => .ok (.d (.int ns.sum)) h
    | none => .stuck)
  | _, _ => .stuck
/-- sorted(d), sorted(d, reverse=True) -/
def dsortV (rv mk : Bool) (x : Vl) (h : MH) : Res Vl := match dkeys x h with
  | some xs => if (sortableB xs && okN 40 (.tuple xs) && decide (xs.length ≤ sz)) = true then mkl mk ((xs.mergeSort (PySem.W.dataLe rv id)).map .d) h else .stuck
  | none => .stuck
/-- {k: v} -/
def ddatV (k : Int) (x : Vl) (h : MH) : Res Vl := match x with
  | .d d => .ok (.d (.dict [(.int k, d)])) h
  | _ => .stuck
/-- t[::-1] of a tuple -/
def revV (x : Vl) (h : MH) : Res Vl := match x with
  | .d (.tuple ds) => .ok (.d (.tuple ds.reverse)) h
  | .d (.list ds) => .ok (.d (.list ds.reverse)) h
  | _ => .stuck
/-- [d[k] for k in d] -/
def dvalsV (x : Vl) (h : MH) : Res Vl := match x with
  | .r i => (match h[i]? with
    | some (.dct true kvs) => if kvs.length ≤ sz then mkl false ((kvs.map (·.2)).map .d) h else .stuck
    | _ => .stuck)
  | _ => .stuck
def dvalsF (i : Nat) : Env → MH → Res Vl := fun σ h => (match σ[i]? with
  | some (some v) => (dvalsV v h).calm
  | _ => .stuck)
def b_sorted (mk : Bool) : List Vl → MH → Res Vl
  | [x], h => (match contS x h with
    | some xs => if ((sortableB xs || sortTB xs) && okN 40 (.tuple xs) && decide (xs.length ≤ sz)) = true then mkl mk ((xs.mergeSort (PySem.W.dataLe false id)).map .d) h
      else if (decide (xs.length ≤ 1) && (contL x h).isSome) = true then mkl mk (xs.map .d) h else .stuck
    | none => .stuck)
  | _, _ => .stuck
def alikeB (xs : List PyData) : Bool := (xs.all fun a => xs.all fun b => PySem.W.alike a b) && (xs.all fun a => !isNoneD a)
def b_max : List Vl → MH → Res Vl
  | [x], h => (match contS x h with
    | some (y :: ys) => if (alikeB (y :: ys) && okN 40 (.tuple (y :: ys))) = true then .ok (.d (PySem.W.maxD y ys)) h else .stuck
    | _ => .stuck)
  | _, _ => .stuck
def b_min : List Vl → MH → Res Vl
  | [x], h => (match contS x h with
    | some (y :: ys) => if (alikeB (y :: ys) && okN 40 (.tuple (y :: ys))) = true then .ok (.d (PySem.W.minD y ys)) h else .stuck
    | _ => .stuck)
  | _, _ => .stuck
def b_max2 : List Vl → MH → Res Vl
  | [.d (.int i), .d (.int j)], h => .ok (.d (.int (if j > i then j else i))) h
  | _, _ => .stuck
def b_min2 : List Vl → MH → Res Vl
  | [.d (.int i), .d (.int j)], h => .ok (.d (.int (if j < i then j else i))) h
  | _, _ => .stuck
def rngOk (lo hi : Int) : Bool := decide (-(2 ^ 62) ≤ lo ∧ lo < 2 ^ 62 ∧ -(2 ^ 62) ≤ hi ∧ hi < 2 ^ 62 ∧ (hi - lo).toNat ≤ sz)
def b_listRange (mk : Bool) : List Vl → MH → Res Vl
  | [.d (.int hi)], h => if rngOk 0 hi = true then mkl mk ((rangeD 0 hi.toNat).map .d) h else .stuck
  | [.d (.int lo), .d (.int hi)], h => if rngOk lo hi = true then mkl mk ((rangeD lo (hi - lo).toNat).map .d) h else .stuck
  | _, _ => .stuck
def b_tupleRange : List Vl → MH → Res Vl
  | [.d (.int hi)], h => if rngOk 0 hi = true then mkt ((rangeD 0 hi.toNat).map .d) h else .stuck
  | [.d (.int lo), .d (.int hi)], h => if rngOk lo hi = true then mkt ((rangeD lo (hi - lo).toNat).map .d) h else .stuck
  | _, _ => .stuck
/-- dict(pairs) -/
def pairsT : List PyData → Option (List (PyData × PyData))
  | [] => some []
  | .tuple [k, v] :: r => if (keyT k).isSome = true then (pairsT r).map ((k, v) :: ·) else none
  | _ :: _ => none
def dpairsL (ps : List (PyData × PyData)) : List (PyData × PyData) := ps.foldl (fun acc p => dputL true acc p.1 ((keyT p.1).getD []) p.2) []
/-- .. whose keys are whole numbers or texts -/
def pairsK : List PyData → Option (List (PyData × PyData))
  | [] => some []
  | .tuple [k, v] :: r => if (keyK k).isSome = true then (pairsK r).map ((k, v) :: ·) else none
  | _ :: _ => none
def dpairsK (ps : List (PyData × PyData)) : List (PyData × PyData) := ps.foldl (fun acc p => dputL false acc p.1 ((kc false p.1).getD []) p.2) []
def b_dictP : List Vl → MH → Res Vl
  | [.d (.list ds)], h => (match pairsT ds with
    | some ps => if ps.length < sz then .ok (.r h.length) (h ++ [.dct true (dpairsL ps)]) else .stuck
    | none => (match pairsK ds with
      | some ps => if ps.length < sz then .ok (.r h.length) (h ++ [.dct false (dpairsK ps)]) else .stuck
      | none => .stuck))
  | _, _ => .stuck
def biV (b : Bi) (mk : Bool) (xs : List Vl) (h : MH) : Res Vl :=
  match b with
  | .len => b_len xs h
  | .tuple => b_tuple xs h
  | .list => b_list mk xs h
  | .int => b_int xs h
  | .abs => b_abs xs h
  | .all => b_all xs h
  | .any => b_any xs h
  | .sum => b_sum xs h
  | .sorted => b_sorted mk xs h
  | .max => b_max xs h
  | .min => b_min xs h
  | .max2 => b_max2 xs h
  | .min2 => b_min2 xs h
  | .listRange => b_listRange mk xs h
  | .tupleRange => b_tupleRange xs h
  | .dictP => b_dictP xs h
/-- isinstance(x, T) by the names of the built-in classes -/
inductive Ty where
  | int | bool | str | tuple | list | dict
  deriving DecidableEq
def isTy : Ty → PyData → Bool
  | .int, d => d.isInt
  | .bool, d => d.isBool
  | .str, d => d.isStr
  | .tuple, d => d.isTuple
  | .list, d => d.isList
  | .dict, d => d.isDict
def isiV (ts : List Ty) (x : Vl) (h : MH) : Res Vl := match x with
  | .d d => .ok (.d (.bool (ts.any fun t => isTy t d))) h
  | .r i => (match h[i]? with
    | some (.lst _) => .ok (.d (.bool (ts.any fun t => isTy t (.list [])))) h
    | _ => .stuck)
  | _ => .stuck
/-! ### methods -/
inductive Me where
  | append | extend | pop | popAt | index | count | insert
  deriving DecidableEq
def m_append : Vl → List Vl → MH → Res Vl
  | .r i, [x], h => (match h[i]? with
    | some (.lst ys) => if below i x = true ∧ ys.length < sz then .ok (.d .none) (h.set i (.lst (ys ++ [x]))) else .stuck
    | _ => .stuck)
  | _, _, _ => .stuck
/-- what extend takes: a list's items, a tuple's -/
def itemsX : Vl → MH → Option (List Vl)
  | .d (.tuple xs), _ => some (xs.map .d)
  | x, h => itemsL x h
def m_extend : Vl → List Vl → MH → Res Vl
  | .r i, [x], h => (match h[i]?, itemsX x h with
    | some (.lst ys), some zs => if zs.all (below i) = true ∧ ys.length + zs.length ≤ sz then .ok (.d .none) (h.set i (.lst (ys ++ zs))) else .stuck
    | _, _ => .stuck)
  | _, _, _ => .stuck
def m_pop : Vl → List Vl → MH → Res Vl
  | .r i, [], h => (match h[i]? with
    | some (.lst ys) => (match ys[ys.length - 1]? with
      | some y => .ok y (h.set i (.lst ys.dropLast))
      | none => .stuck)
    | _ => .stuck)
  | _, _, _ => .stuck
def m_popAt : Vl → List Vl → MH → Res Vl
  | .r i, [.d (.int k)], h => (match h[i]? with
    | some (.lst ys) => (match ixOf k ys.length with
      | some j => (match ys[j]? with
        | some y => if -(2 ^ 63) ≤ k ∧ k < 2 ^ 63 then .ok y (h.set i (.lst (ys.eraseIdx j))) else .stuck
        | none => .stuck)
      | none => .stuck)
    | _ => .stuck)
  | _, _, _ => .stuck
def m_index : Vl → List Vl → MH → Res Vl
  | o, [x], h => (match contL o h, cont x h with
    | some ys, some a => if (okN 40 a && okN 40 (.tuple ys) && decide (ys.length ≤ sz)) = true then (match ys.findIdx? (fun y => PyData.eqv y a) with
      | some j => .ok (.d (.int j)) h
      | none => .stuck) else .stuck
    | _, _ => .stuck)
  | _, _, _ => .stuck
def m_count : Vl → List Vl → MH → Res Vl
  | o, [x], h => (match contL o h, cont x h with
    | some ys, some a => if (okN 40 a && okN 40 (.tuple ys)) = true then .ok (.d (.int (ys.countP fun y => PyData.eqv y a : Nat))) h else .stuck
    | _, _ => .stuck)
  | _, _, _ => .stuck
def m_insert : Vl → List Vl → MH → Res Vl
  | .r i, [.d (.int k), x], h => (match h[i]? with
    | some (.lst ys) => if below i x = true ∧ ys.length < sz ∧ 0 ≤ k ∧ k < 2 ^ 63 then .ok (.d .none) (h.set i (.lst (ys.take k.toNat ++ [x] ++ ys.drop k.toNat))) else .stuck
    | _ => .stuck)
  | _, _, _ => .stuck
def metV (m : Me) (o : Vl) (xs : List Vl) (h : MH) : Res Vl :=
  match m with
  | .append => m_append o xs h
  | .extend => m_extend o xs h
  | .pop => m_pop o xs h
  | .popAt => m_popAt o xs h
  | .index => m_index o xs h
  | .count => m_count o xs h
  | .insert => m_insert o xs h

/-! ### the syntax -/
inductive Tg where
  | nm (i : Nat)
  | tp (is : List Nat)
mutual
inductive Ex where
  | var (i : Nat)
  | int (i : Int)
  | bl (b : Bool)
  | non
  | str (s : Str)
  | gc (x : Str)
  | dfn (x : Str)
  | bin (op : Bop) (mk : Bool) (a b : Ex)
  | neg (a : Ex)
  | cmp (op : Cop) (a b : Ex)
  | chain (o1 o2 : Cop) (a b c : Ex)
  | andL (es : Exs)
  | orL (es : Exs)
  | not (a : Ex)
  | ite (c a b : Ex)
  | tup (es : Exs)
  | lst (mk : Bool) (es : Exs)
  | idx (a b : Ex)
  | sli (mk : Bool) (a : Ex) (lo hi : Exs)
  | call (f : Str) (es : Exs)
  | bi (b : Bi) (mk : Bool) (es : Exs)
  | isi (a : Ex) (ts : List Ty)
  | met (m : Me) (o : Ex) (es : Exs)
  | lc (mk : Bool) (elt : Ex) (tg : Tg) (it : Itr) (ifs : Exs) (own : List Nat)
  | frz (a : Ex)
  | rg (tu mk : Bool) (es : Exs)
  | dnew (t : Bool)
  | dget (o k : Ex)
  | dgetD (o k d : Ex)
  | din (neg : Bool) (k o : Ex)
  | dsort (rev mk : Bool) (o : Ex)
  | ddat (k : Int) (e : Ex)
  | rev (o : Ex)
  | dvals (i j : Nat)
  | dset (i : Nat) (it : Itr)
  | dsc (k : Ex) (i : Nat) (it : Itr)
  | tr3 (es : Exs)
  /-- sorted(o, key=lambda x: (0 - y[x], x)) -/
  | skey (mk : Bool) (i : Nat) (o : Ex)
  /-- f(lambda: g(es)) -/
  | word (f g : Str) (es : Exs)
  /-- isinstance(e, C) of a caught error -/
  | isE (i : Nat) (c : Str)
inductive Exs where
  | nil
  | cons (e : Ex) (es : Exs)
inductive Itr where
  | seq (e : Ex)
  | rng (lo hi : Ex)
  | rng0 (hi : Ex)
  | enm (e : Ex)
  | zip (a b : Ex)
end
mutual
inductive St where
  | set (i : Nat) (e : Ex)
  | par (i j : Nat) (a b : Ex)
  | par3 (i j k : Nat) (a b c : Ex)
  | asg (tg : Tg) (e : Ex)
  | aug (i : Nat) (op : Bop) (e : Ex)
  | setI (o i e : Ex)
  | dput (o k e : Ex)
  | augI (o i : Ex) (op : Bop) (e : Ex)
  | exp (e : Ex)
  | ret (e : Ex)
  | retN
  | ite (c : Ex) (a b : Sts)
  | whl (c : Ex) (b : Sts)
  | for_ (tg : Tg) (it : Itr) (b : Sts)
  | pass
  | brk
  | cont
  | raise (c : Str) (es : Exs)
  | bad
inductive Sts where
  | nil
  | cons (s : St) (r : Sts)
end

/-! ### evaluation -/
structure Gs where
  cl : Str → List Vl → MH → Res Vl
  gc : Str → Option PyData
  F : Nat
  /-- a call out of a lambda -/
  cl2 : Str → List Vl → MH → Res Vl := fun _ _ _ => .stuck
  /-- a def that gets a lambda: what the lambda came to, how long the heap was -/
  wd : Str → Res Vl → Nat → Res Vl := fun _ _ _ => .stuck
  ex : Option (Nat × Str) := none
  sub : Str → Str → Option Bool := fun _ _ => none
def putT : Tg → Vl → Env → Option Env
  | .nm i, v, σ => some (σ.set i (some v))
  | .tp is, .d (.tuple xs), σ => if xs.length = is.length then some ((is.zip xs).foldl (fun σ p => σ.set p.1 (some (.d p.2))) σ) else none
  | _, _, _ => none
def wipeE (σ : Env) : List Nat → Env
  | [] => σ
  | v :: vs => (wipeE σ vs).set v none
def lcL (f : Vl → MH → Res (Option Vl)) : List Vl → MH → Res (List Vl)
  | [], h => .ok [] h
  | x :: xs, h => (f x h).bind fun r h1 => (lcL f xs h1).bind fun rs h2 => .ok (r.toList ++ rs) h2
/-- over a mutable list, as it stands at each turn -/
def lcR (f : Vl → MH → Res (Option Vl)) (i : Nat) : Nat → Nat → MH → Res (List Vl)
  | 0, _, _ => .stuck
  | n + 1, k, h => match h[i]? with
    | some (.lst xs) => (match xs[k]? with
      | some x => (f x h).bind fun r h1 => (lcR f i n (k + 1) h1).bind fun rs h2 => .ok (r.toList ++ rs) h2
      | none => .ok [] h)
    | _ => .stuck
inductive Src where
  | l (xs : List Vl)
  | r (i : Nat)
def lcS (F : Nat) (f : Vl → MH → Res (Option Vl)) : Src → MH → Res (List Vl)
  | .l xs, h => if xs.length ≤ sz then lcL f xs h else .stuck
  | .r i, h => if F ≤ sz then lcR f i F 0 h else .stuck
/-- a list's lists are frozen -/
def frzI : List Vl → MH → Option (List PyData × MH)
  | [], h => some ([], h)
  | .r j :: r, h => (match h[j]? with
    | some (.lst xs) => (match allD xs with
      | some ds => (frzI r (h.set j .dead)).map fun q => (.list ds :: q.1, q.2)
      | none => none)
    | _ => none)
  | _ :: _, _ => none
def frzV (v : Vl) (h : MH) : Res Vl := match v with
  | .r i => (match h[i]? with
    | some (.lst xs) => (match allD xs with
      | some ds => .ok (.d (.list ds)) (h.set i .dead)
      | none => (match frzI xs (h.set i .dead) with
        | some q => .ok (.d (.list q.1)) q.2
        | none => .stuck))
    | some (.dct false kvs) => .ok (.d (.dict kvs)) (h.set i .dead)
    | _ => .stuck)
  | .d x => .ok (.d x) h
  | _ => .stuck
def srcOf : Vl → MH → Option Src
  | .r i, h => match h[i]? with
    | some (.lst _) => some (.r i)
    | _ => none
  | v, h => (items v h).bind fun xs => if xs.length ≤ sz then some (.l xs) else none
def enmD : List PyData → Nat → List Vl
  | [], _ => []
  | x :: xs, k => .d (.tuple [.int k, x]) :: enmD xs (k + 1)
def zipD : List PyData → List PyData → List Vl
  | x :: xs, y :: ys => .d (.tuple [x, y]) :: zipD xs ys
  | _, _ => []

def srcRng : Vl → Vl → Option Src
  | .d (.int i), .d (.int j) => if rngOk i j = true then some (.l ((rangeD i (j - i).toNat).map .d)) else none
  | _, _ => none
def srcRng0 : Vl → Option Src
  | .d (.int j) => if rngOk 0 j = true then some (.l ((rangeD 0 j.toNat).map .d)) else none
  | _ => none
def srcEnm : Vl → Option Src
  | .d (.list xs) => if xs.length ≤ sz then some (.l (enmD xs 0)) else none
  | .d (.tuple xs) => if xs.length ≤ sz then some (.l (enmD xs 0)) else none
  | _ => none
def srcZip : Vl → Vl → Option Src
  | .d (.list xs), .d (.list ys) => if xs.length ≤ sz then some (.l (zipD xs ys)) else none
  | .d (.tuple xs), .d (.tuple ys) => if xs.length ≤ sz then some (.l (zipD xs ys)) else none
  | .d (.list xs), .d (.tuple ys) => if xs.length ≤ sz then some (.l (zipD xs ys)) else none
  | .d (.tuple xs), .d (.list ys) => if xs.length ≤ sz then some (.l (zipD xs ys)) else none
  | _, _ => none
def rgN (tu : Bool) : Str := if tu = true then "tuple" else "list"
def rgF (tu mk : Bool) (i j : Int) (h : MH) : Res Vl := if rngOk i j = true then (if tu = true then mkt ((rangeD i (j - i).toNat).map .d) h else mkl mk ((rangeD i (j - i).toNat).map .d) h) else .stuck
def asII : List Vl → Option (Int × Int)
  | [.d (.int j)] => some (0, j)
  | [.d (.int i), .d (.int j)] => some (i, j)
  | _ => none
/-- tuple(range(i, j, c)) -/
def rg3D (i c : Int) (n : Nat) : List PyData := (List.range n).map fun (k : Nat) => .int (i + (k : Int) * c)
def tr3V (xs : List Vl) (h : MH) : Res Vl := match xs with
  | [.d (.int i), .d (.int j), .d (.int c)] => if c ≠ 0 ∧ c.natAbs < 1073741824 ∧ Builtin.Range.small i j c = true ∧ (Builtin.Range.rangeSize i j c).toNat ≤ 16777216 then .ok (.d (.tuple (rg3D i c (Builtin.Range.rangeSize i j c).toNat))) h else .stuck
  | _ => .stuck
/-- a test's default: the value's truth -/
def tru (f : Env → MH → Res Vl) : Env → MH → Res Bool := fun σ h => (f σ h).bind fun x h1 => (match truth x h1 with | some b => .ok b h1 | none => .stuck)
def chV (o1 o2 : Cop) (fa fb fc : Env → MH → Res Vl) : Env → MH → Res Vl := fun σ h => (fa σ h).bind fun x h1 => (fb σ h1).bind fun y h2 => (match cmpV o1 x y h2 with
    | some true => (fc σ h2).bind fun z h3 => (match cmpV o2 y z h3 with
      | some t => .ok (.d (.bool t)) h3
      | none => .stuck)
    | some false => .ok (.d (.bool false)) h2
    | none => .stuck)
def lcF (tg : Tg) (own : List Nat) (fA : Env → MH → Res Bool) (fE : Env → MH → Res Vl) (σ : Env) : Vl → MH → Res (Option Vl) := fun x h2 =>
  match putT tg x (wipeE σ own) with
  | some σ2 => ((fA σ2 h2).bind fun b h3 => if b = true then (fE σ2 h3).bind fun v h4 => .ok (some v) h4 else .ok none h3)
  | none => .stuck
def lcV (F : Nat) (mk : Bool) (tg : Tg) (own : List Nat) (fI : Env → MH → Res Src) (fA : Env → MH → Res Bool) (fE : Env → MH → Res Vl) : Env → MH → Res Vl := fun σ h =>
  (fI σ h).bind fun src h1 => (lcS F (lcF tg own fA fE σ) src h1).calm.bind fun rs h5 => (mkl mk rs h5).calm
/-- {x: True for x in ..} of tuples of ints and texts -/
def dsetL (xs : List PyData) : List (PyData × PyData) := xs.foldl (fun acc d => dputL true acc d ((keyT d).getD []) (.bool true)) []
def dsetV (σ : Env) (i : Nat) (src : Src) (h : MH) : Res Vl := match src with
  | .l xs => (match allD xs with
    | some ds => if (ds.all (fun d => (keyT d).isSome) && decide (ds.length < sz) && decide (i < σ.length)) = true then .ok (.r h.length) (h ++ [.dct true (dsetL ds)]) else .stuck
    | none => .stuck)
  | _ => .stuck
/-- {f(x): True for x in ..}: what the keys came to -/
def dscE (rs : List Vl) (h : MH) : Res Vl := match allD rs with
  | some ds => if (ds.all (fun d => (keyT d).isSome) && decide (ds.length < sz)) = true then .ok (.r h.length) (h ++ [.dct true (dsetL ds)]) else .stuck
  | none => .stuck
/-- the key of one -/
def keyT1 (ts : List Int) (c : Int) : PyData := .tuple [.int (0 - ts.getD c.toNat 0), .int c]
def skeyV (mk : Bool) (t x : Vl) (h : MH) : Res Vl := match t, x with
  | .d (.list ds), .d (.list xs) => (match intsOf ds, intsOf xs with
    | some ts, some cs => if (cs.all (fun c => decide (0 ≤ c ∧ c < (ts.length : Int))) && decide (ts.length ≤ sz) && decide (cs.length ≤ sz)) = true then mkl mk ((cs.mergeSort (PySem.W.dataLe false (keyT1 ts))).map fun c => .d (.int c)) h else .stuck
    | _, _ => .stuck)
  | _, _ => .stuck
def skeyF (mk : Bool) (i : Nat) (σ : Env) (x : Vl) (h : MH) : Res Vl := match σ[i]? with
  | some (some t) => skeyV mk t x h
  | _ => .stuck
def isEF (ex : Option (Nat × Str)) (sub : Str → Str → Option Bool) (i : Nat) (c : Str) : Env → MH → Res Vl := fun σ h => match σ[i]?, ex with
  | some (some (.x a)), some (a0, c0) => if a = a0 then (match sub c0 c with
    | some b => .ok (.d (.bool b)) h
    | none => .stuck) else .stuck
  | _, _ => .stuck
/-- an expression as a value, as a test -/
structure Pr where
  v : Env → MH → Res Vl
  t : Env → MH → Res Bool
def Pr.of (f : Env → MH → Res Vl) : Pr := ⟨f, tru f⟩
section
variable (G : Gs)
mutual
def evB : Ex → Pr
  | .var i => .of fun σ h => (match σ[i]? with
    | some (some v) => .ok v h
    | _ => .stuck)
  | .int i => .of fun _ h => .ok (.d (.int i)) h
  | .bl b => .of fun _ h => .ok (.d (.bool b)) h
  | .non => .of fun _ h => .ok (.d .none) h
  | .str s => .of fun _ h => .ok (.d (.str s)) h
  | .gc x => .of fun _ h => (match G.gc x with
    | some d => .ok (.d d) h
    | none => .stuck)
  | .dfn x => .of fun _ h => .ok (.g x) h
  | .bin op mk a b => .of fun σ h => ((evB a).v σ h).bind fun x h1 => ((evB b).v σ h1).bind fun y h2 => (binV op mk x y h2).calm
  | .neg a => .of fun σ h => ((evB a).v σ h).bind fun x h1 => (match x with
    | .d (.int i) => .ok (.d (.int (-i))) h1
    | _ => .stuck)
  | .cmp op a b => .of fun σ h => ((evB a).v σ h).bind fun x h1 => ((evB b).v σ h1).bind fun y h2 => (match cmpV op x y h2 with
    | some c => .ok (.d (.bool c)) h2
    | none => .stuck)
  | .chain o1 o2 a b c => .of (chV o1 o2 (evB a).v (evB b).v (evB c).v)
  | .andL es => ⟨evAndV es, evAnd es⟩
  | .orL es => ⟨evOrV es, evOr es⟩
  | .not a => ⟨fun σ h => ((evB a).v σ h).bind fun x h1 => (match x with
    | .d (.bool b) => .ok (.d (.bool (!b))) h1
    | _ => .stuck), fun σ h => ((evB a).t σ h).bind fun b h1 => .ok (!b) h1⟩
  | .ite c a b => ⟨fun σ h => ((evB c).t σ h).bind fun t h1 => if t = true then (evB a).v σ h1 else (evB b).v σ h1, fun σ h => ((evB c).t σ h).bind fun t h1 => if t = true then (evB a).t σ h1 else (evB b).t σ h1⟩
  | .tup es => .of fun σ h => (evs es σ h).bind fun xs h1 => if xs.length ≤ sz then (mkt xs h1).calm else .stuck
  | .lst mk es => .of fun σ h => (evs es σ h).bind fun xs h1 => if xs.length ≤ sz then (mkl mk xs h1).calm else .stuck
  | .idx a b => .of fun σ h => ((evB a).v σ h).bind fun x h1 => ((evB b).v σ h1).bind fun y h2 => (match idxV x y h2 with
    | some v => .ok v h2
    | none => .stuck)
  | .sli mk a lo hi => .of fun σ h => ((evB a).v σ h).bind fun x h1 => ((evs lo σ h1).bind fun l h2 => ofOpt (optI l) h2).bind fun l h2 => ((evs hi σ h2).bind fun u h3 => ofOpt (optI u) h3).bind fun u h3 => (sliV mk x l u h3).calm
  | .call f es => .of fun σ h => (evs es σ h).bind fun xs h1 => G.cl f xs h1
  | .bi b mk es => .of fun σ h => (evs es σ h).bind fun xs h1 => (biV b mk xs h1).calm
  | .isi a ts => .of fun σ h => ((evB a).v σ h).bind fun x h1 => isiV ts x h1
  | .met m o es => .of fun σ h => ((evB o).v σ h).bind fun x h1 => if (itemsL x h1).isSome = true then (evs es σ h1).bind fun xs h2 => (metV m x xs h2).calm else .stuck
  | .lc mk elt tg it ifs own => .of (lcV G.F mk tg own (evI it) (evAnd ifs) (evB elt).v)
  | .rg tu mk es => .of fun σ h => ((evs es σ h).bind fun xs h1 => ofOpt (asII xs) h1).bind fun ij h1 => (rgF tu mk ij.1 ij.2 h1).calm
  | .frz a => ⟨fun σ h => ((evB a).v σ h).bind fun x h1 => (frzV x h1).calm, fun _ _ => .stuck⟩
  | .dnew t => .of fun _ h => .ok (.r h.length) (h ++ [.dct t []])
  | .dget o k => .of fun σ h => ((evB o).v σ h).bind fun x h1 => ((evB k).v σ h1).bind fun y h2 => (match dgetV x y h2 with
    | some v => .ok (.d v) h2
    | none => .stuck)
  | .dgetD o k d => .of fun σ h => ((evB o).v σ h).bind fun x h1 => if isDct x h1 = true then ((evB k).v σ h1).bind fun y h2 => ((evB d).v σ h2).bind fun z h3 => (match dgetO x y h3, z with
    | some r, .d z => .ok (.d (r.getD z)) h3
    | _, _ => .stuck) else .stuck
  | .din ng k o => .of fun σ h => ((evB k).v σ h).bind fun y h1 => ((evB o).v σ h1).bind fun x h2 => (match dgetO x y h2 with
    | some r => .ok (.d (.bool (if ng = true then !r.isSome else r.isSome))) h2
    | none => .stuck)
  | .dsort rv mk o => .of fun σ h => ((evB o).v σ h).bind fun x h1 => (dsortV rv mk x h1).calm
  | .ddat k o => .of fun σ h => ((evB o).v σ h).bind fun x h1 => (ddatV k x h1).calm
  | .rev o => .of fun σ h => ((evB o).v σ h).bind fun x h1 => (revV x h1).calm
  | .dvals i _ => .of (dvalsF i)
  | .dset i it => .of fun σ h => (evI it σ h).bind fun src h1 => (dsetV σ i src h1).calm
  | .dsc k i it => .of fun σ h => (evI it σ h).bind fun src h1 => (lcS G.F (lcF (.nm i) [i] (fun _ h => .ok true h) (evB k).v σ) src h1).calm.bind fun rs h5 => (dscE rs h5).calm
  | .tr3 es => .of fun σ h => (evs es σ h).bind fun xs h1 => (tr3V xs h1).calm
  | .skey mk i o => .of fun σ h => ((evB o).v σ h).bind fun x h1 => (skeyF mk i σ x h1).calm
  | .word f g es => .of fun σ h => (G.wd f ((evs es σ h).bind fun xs h1 => G.cl2 g xs h1) h.length).calm
  | .isE i c => .of fun σ h => isEF G.ex G.sub i c σ h
def evs : Exs → Env → MH → Res (List Vl)
  | .nil => fun _ h => .ok [] h
  | .cons e es => fun σ h => ((evB e).v σ h).bind fun x h1 => (evs es σ h1).bind fun xs h2 => .ok (x :: xs) h2
/-- and, or, as values: all but the last truth values -/
def evAndV : Exs → Env → MH → Res Vl
  | .nil => fun _ _ => .stuck
  | .cons e es => match es with
    | .nil => (evB e).v
    | .cons _ _ => fun σ h => ((evB e).v σ h).bind fun x h1 => (match x with
      | .d (.bool true) => evAndV es σ h1
      | .d (.bool false) => .ok (.d (.bool false)) h1
      | _ => .stuck)
def evOrV : Exs → Env → MH → Res Vl
  | .nil => fun _ _ => .stuck
  | .cons e es => match es with
    | .nil => (evB e).v
    | .cons _ _ => fun σ h => ((evB e).v σ h).bind fun x h1 => (match x with
      | .d (.bool true) => .ok (.d (.bool true)) h1
      | .d (.bool false) => evOrV es σ h1
      | _ => .stuck)
/-- and, as tests -/
def evAnd : Exs → Env → MH → Res Bool
  | .nil => fun _ h => .ok true h
  | .cons e es => fun σ h => ((evB e).t σ h).bind fun b h1 => if b = true then evAnd es σ h1 else .ok false h1
def evOr : Exs → Env → MH → Res Bool
  | .nil => fun _ h => .ok false h
  | .cons e es => fun σ h => ((evB e).t σ h).bind fun b h1 => if b = true then .ok true h1 else evOr es σ h1
def evI : Itr → Env → MH → Res Src
  | .seq e => fun σ h => ((evB e).v σ h).bind fun x h1 => ofOpt (srcOf x h1) h1
  | .rng lo hi => fun σ h => ((evB lo).v σ h).bind fun x h1 => ((evB hi).v σ h1).bind fun y h2 => ofOpt (srcRng x y) h2
  | .rng0 hi => fun σ h => ((evB hi).v σ h).bind fun y h2 => ofOpt (srcRng0 y) h2
  | .enm e => fun σ h => ((evB e).v σ h).bind fun x h1 => ofOpt (srcEnm x) h1
  | .zip a b => fun σ h => ((evB a).v σ h).bind fun x h1 => ((evB b).v σ h1).bind fun y h2 => ofOpt (srcZip x y) h2
end
def ev (x : Ex) : Env → MH → Res Vl := (evB G x).v
def evT (x : Ex) : Env → MH → Res Bool := (evB G x).t
end
inductive Fl where
  | nx (σ : Env)
  | bk (σ : Env)
  | ct (σ : Env)
  | rt (v : Vl)
def whileG (c : Env → MH → Res Bool) (b : Env → MH → Res Fl) : Nat → Env → MH → Res Fl
  | 0, _, _ => .stuck
  | n + 1, σ, h => (c σ h).bind fun t h1 => if t = true then (b σ h1).bind fun f h2 => (match f with
      | .nx σ2 => whileG c b n σ2 h2
      | .ct σ2 => whileG c b n σ2 h2
      | .bk σ2 => .ok (.nx σ2) h2
      | .rt v => .ok (.rt v) h2) else .ok (.nx σ) h1
def forL (tg : Tg) (b : Env → MH → Res Fl) : List Vl → Env → MH → Res Fl
  | [], σ, h => .ok (.nx σ) h
  | x :: xs, σ, h => (match putT tg x σ with
    | some σ1 => (b σ1 h).bind fun f h2 => (match f with
      | .nx σ2 => forL tg b xs σ2 h2
      | .ct σ2 => forL tg b xs σ2 h2
      | .bk σ2 => .ok (.nx σ2) h2
      | .rt v => .ok (.rt v) h2)
    | none => .stuck)
def forR (tg : Tg) (b : Env → MH → Res Fl) (i : Nat) : Nat → Nat → Env → MH → Res Fl
  | 0, _, _, _ => .stuck
  | n + 1, k, σ, h => match h[i]? with
    | some (.lst xs) => (match xs[k]? with
      | some x => (match putT tg x σ with
        | some σ1 => (b σ1 h).bind fun f h2 => (match f with
          | .nx σ2 => forR tg b i n (k + 1) σ2 h2
          | .ct σ2 => forR tg b i n (k + 1) σ2 h2
          | .bk σ2 => .ok (.nx σ2) h2
          | .rt v => .ok (.rt v) h2)
        | none => .stuck)
      | none => .ok (.nx σ) h)
    | _ => .stuck
def setItV (o i v : Vl) (h : MH) : Res Unit := match o, i with
  | .r a, .d (.int k) => (match h[a]? with
    | some (.lst xs) => (match ixOf k xs.length with
      | some j => if below a v = true then .ok () (h.set a (.lst (xs.set j v))) else .stuck
      | none => .stuck)
    | _ => .stuck)
  | _, _ => .stuck
section
variable (G : Gs)
mutual
def evS : St → Env → MH → Res Fl
  | .set i e, σ, h => (ev G e σ h).bind fun v h1 => .ok (.nx (σ.set i (some v))) h1
  | .par i j a b, σ, h => (ev G a σ h).bind fun v h1 => (ev G b σ h1).bind fun w h2 => .ok (.nx ((σ.set i (some v)).set j (some w))) h2
  | .par3 i j k a b c, σ, h => (ev G a σ h).bind fun v h1 => (ev G b σ h1).bind fun w h2 => (ev G c σ h2).bind fun x h3 => .ok (.nx (((σ.set i (some v)).set j (some w)).set k (some x))) h3
  | .asg tg e, σ, h => (ev G e σ h).bind fun v h1 => (match putT tg v σ with
    | some σ1 => .ok (.nx σ1) h1
    | none => .stuck)
  | .aug i op e, σ, h => (match σ[i]? with
    | some (some x) => (ev G e σ h).bind fun y h1 => (match x, y with
      | .d (.int a), .d (.int b) => (match op, binI op a b with
        | .add, some k => .ok (.nx (σ.set i (some (.d (.int k))))) h1
        | .sub, some k => .ok (.nx (σ.set i (some (.d (.int k))))) h1
        | _, _ => .stuck)
      | _, _ => .stuck)
    | _ => .stuck)
  | .setI o i e, σ, h => (ev G e σ h).bind fun v h1 => (ev G o σ h1).bind fun x h2 => (ev G i σ h2).bind fun k h3 => (setItV x k v h3).calm.bind fun _ h4 => .ok (.nx σ) h4
  | .augI o i op e, σ, h => (ev G o σ h).bind fun x h1 => (ev G i σ h1).bind fun k h2 => (match idxV x k h2 with
    | some old => (ev G e σ h2).bind fun y h3 => (match old, y with
      | .d (.int a), .d (.int b) => (match op, binI op a b with
        | .add, some z => (setItV x k (.d (.int z)) h3).calm.bind fun _ h4 => .ok (.nx σ) h4
        | .sub, some z => (setItV x k (.d (.int z)) h3).calm.bind fun _ h4 => .ok (.nx σ) h4
        | _, _ => .stuck)
      | _, _ => .stuck)
    | none => .stuck)
  | .dput o k e, σ, h => (ev G e σ h).bind fun v h1 => (ev G o σ h1).bind fun x h2 => (ev G k σ h2).bind fun y h3 => (dputV x y v h3).calm.bind fun _ h4 => .ok (.nx σ) h4
  | .exp e, σ, h => (ev G e σ h).bind fun _ h1 => .ok (.nx σ) h1
  | .ret e, σ, h => (ev G e σ h).bind fun v h1 => .ok (.rt v) h1
  | .retN, _, h => .ok (.rt (.d .none)) h
  | .ite c a b, σ, h => (evT G c σ h).bind fun t h1 => if t = true then evSs a σ h1 else evSs b σ h1
  | .whl c b, σ, h => whileG (fun σ h => evT G c σ h) (fun σ h => evSs b σ h) G.F σ h
  | .for_ tg it b, σ, h => (evI G it σ h).bind fun src h1 => (match src with
    | .l xs => forL tg (fun σ h => evSs b σ h) xs σ h1
    | .r i => forR tg (fun σ h => evSs b σ h) i G.F 0 σ h1)
  | .pass, σ, h => .ok (.nx σ) h
  | .brk, σ, h => .ok (.bk σ) h
  | .cont, σ, h => .ok (.ct σ) h
  | .raise c es, σ, h => (evs G es σ h).bind fun xs h1 => (match allD xs with
    | some ds => .exc c ds h1
    | none => .stuck)
  | .bad, _, _ => .stuck
def evSs : Sts → Env → MH → Res Fl
  | .nil, σ, h => .ok (.nx σ) h
  | .cons s r, σ, h => (evS s σ h).bind fun f h1 => (match f with
    | .nx σ1 => evSs r σ1 h1
    | f => .ok f h1)
end
end
/-- except cls as (slot sl): body -/
structure Hd where
  cls : Str
  sl : Nat
  body : Sts
/-- a def that gets a lambda: y = "..", try: call() except ..: .., rest -/
structure WFn where
  n : Nat
  pre : Option (Nat × Str)
  hs : List Hd
  rest : Sts
  cs : List Str
/-- a def: how many parameters, how many names, its body -/
structure Fn where
  ps : Nat
  n : Nat
  body : Sts
  wd : Option WFn := none
/-- behind a call: what the def made for itself is forgotten -/
def leave (n : Nat) (f : Res Fl) : Res Vl := match f with
  | .ok (.rt (.d x)) h => .ok (.d x) (h.take n)
  | .ok (.rt v) h => .ok v h
  | .ok (.nx _) h => .ok (.d .none) (h.take n)
  | .exc c xs h => .exc c xs (h.take n)
  | _ => .stuck
/-- the program's errors stand beside each other, below VoteError, below ValueError -/
def subF (cs : List Str) (c C : Str) : Option Bool :=
  if (cs.contains c && (cs.contains C || decide (C = "VoteError") || decide (C = "ValueError"))) = true then some (decide (c = C) || decide (C = "VoteError") || decide (C = "ValueError")) else none
def pick (cs : List Str) (c : Str) : List Hd → Option Hd
  | [] => none
  | x :: r => match subF cs c x.cls with
    | some true => some x
    | some false => pick cs c r
    | none => none
def WFn.start (w : WFn) : Env := match w.pre with
  | some (i, s) => (List.replicate w.n none).set i (some (.d (.str s)))
  | none => List.replicate w.n none
def gs0 (gc : Str → Option PyData) (F : Nat) : Gs := { cl := fun _ _ _ => .stuck, gc := gc, F := F }
def gsX (gc : Str → Option PyData) (F : Nat) (cs : List Str) (a : Nat) (c : Str) : Gs := { cl := fun _ _ _ => .stuck, gc := gc, F := F, ex := some (a, c), sub := subF cs }
def hdV (gc : Str → Option PyData) (F : Nat) (w : WFn) (x : Hd) (c : Str) (h : MH) (n : Nat) (a : Nat) : Res Vl :=
  leave n ((evSs (gsX gc F w.cs a c) x.body (w.start.set x.sl (some (.x a))) h).bind fun fl h2 => (match fl with
    | .nx σ1 => evSs (gs0 gc F) w.rest (σ1.set x.sl none) h2
    | .rt v => .ok (.rt v) h2
    | _ => .stuck))
open Classical in
noncomputable def allA (f : Nat → Res Vl) : Res Vl := if ∀ a, f a = f 0 then f 0 else .stuck
noncomputable def wdV (gc : Str → Option PyData) (F : Nat) (w : WFn) (r : Res Vl) (n : Nat) : Res Vl := match r with
  | .ok _ h => leave n (evSs (gs0 gc F) w.rest w.start h)
  | .exc c _ h => (match pick w.cs c w.hs with
    | some x => allA (hdV gc F w x c h n)
    | none => .stuck)
  | .stuck => .stuck
noncomputable def wdT (T : Str → Option Fn) (gc : Str → Option PyData) (F : Nat) (f : Str) (r : Res Vl) (n : Nat) : Res Vl := match T f with
  | some fn => (match fn.wd with
    | some w => wdV gc F w r n
    | none => .stuck)
  | none => .stuck
abbrev Cl := Str → List Vl → MH → Res Vl
noncomputable def gsC (T : Str → Option Fn) (gc : Str → Option PyData) (F : Nat) (c : Cl) (c2 : Option Cl) : Gs :=
  { cl := c, gc := gc, F := F, cl2 := c2.getD (fun _ _ _ => .stuck), wd := if c2.isSome = true then wdT T gc F else fun _ _ _ => .stuck }
noncomputable def stepC (T : Str → Option Fn) (gc : Str → Option PyData) (F : Nat) (c : Cl) (c2 : Option Cl) : Cl := fun f vs h => match T f with
  | some fn => if vs.length = fn.ps then leave h.length (evSs (gsC T gc F c c2) fn.body (vs.map some ++ List.replicate (fn.n - fn.ps) none) h) else .stuck
  | none => .stuck
/-- at each depth: the calls, those one and two depths lower -/
noncomputable def runT (T : Str → Option Fn) (gc : Str → Option PyData) (F : Nat) : Nat → Cl × Option Cl × Option Cl
  | 0 => (fun _ _ _ => .stuck, none, none)
  | k + 1 => (stepC T gc F (runT T gc F k).1 (runT T gc F k).2.2, some (runT T gc F k).1, (runT T gc F k).2.1)
noncomputable def run (T : Str → Option Fn) (gc : Str → Option PyData) (F : Nat) (k : Nat) : Cl := (runT T gc F k).1
noncomputable def gs (T : Str → Option Fn) (gc : Str → Option PyData) (F : Nat) (k : Nat) : Gs := gsC T gc F (run T gc F k) (runT T gc F k).2.2
end Ev

set_option Elab.async false
set_option linter.all false
set_option autoImplicit false
set_option maxRecDepth 100000
set_option maxHeartbeats 1000000
namespace Ev
open PySem PySem.Spec PyProof.Rows L2

/-- the mutable objects' addresses, by number; none: no longer one -/
abbrev Mu := List (Option Addr)
/-- what may change -/
def Mo (μ : Mu) (W : List Addr) (a : Addr) : Prop := some a ∈ μ ∨ a ∈ W
/-- a tuple of the module's own -/
def KTup (K : PySem.W.Frag) (a : Addr) (xs : List V) : Prop := kTup = true ∧ ∃ (o : Obj) (its : Array Value) (n : Nat), K.lookup a = some o ∧ o.cls = .type "tuple" ∧ o.data = .seq its n ∧ its.size ≤ sizeLine ∧ Vals xs its.toList
def TAt (K : PySem.W.Frag) (H : Hp) (a : Addr) (xs : List V) : Prop := H a = some (.tup xs) ∨ KTup K a xs
theorem TAt.mono {K : PySem.W.Frag} {H H' : Hp} {a : Addr} {xs : List V} (h2 : ∀ a xs, H a = some (.tup xs) → H' a = some (.tup xs)) (h : TAt K H a xs) : TAt K H' a xs := h.imp (h2 _ _) id
mutual
/-- a value that stands for data which stays -/
inductive Dz (K : PySem.W.Frag) (H : Hp) (B : Addr → Prop) : V → PyData → Prop
  | non : Dz K H B .non .none
  | bl (b : Bool) : Dz K H B (.bl b) (.bool b)
  | int (i : Int) : Dz K H B (.int i) (.int i)
  | str (x : Str) : Dz K H B (.str x) (.str x)
  | lst {a : Addr} {xs : List V} {ds : List PyData} : H a = some (.lst xs) → ¬ B a → DzA K H B xs ds → Dz K H B (.ref a) (.list ds)
  | tupA {a : Addr} {xs : List V} {ds : List PyData} : TAt K H a xs → DzA K H B xs ds → Dz K H B (.ref a) (.tuple ds)
  | dct {a : Addr} {ks : List (L2.Key × V)} {kvs : List (PyData × PyData)} : H a = some (.dK ks) → ¬ B a → DzK K H B ks kvs → Dz K H B (.ref a) (.dict kvs)
inductive DzA (K : PySem.W.Frag) (H : Hp) (B : Addr → Prop) : List V → List PyData → Prop
  | nil : DzA K H B [] []
  | cons {v : V} {vs : List V} {d : PyData} {ds : List PyData} : Dz K H B v d → DzA K H B vs ds → DzA K H B (v :: vs) (d :: ds)
inductive DzK (K : PySem.W.Frag) (H : Hp) (B : Addr → Prop) : List (L2.Key × V) → List (PyData × PyData) → Prop
  | nil : DzK K H B [] []
  | cons {q : L2.Key} {v : V} {ks : List (L2.Key × V)} {k d : PyData} {kvs : List (PyData × PyData)} : keyK k = some q → Dz K H B v d → DzK K H B ks kvs → DzK K H B ((q, v) :: ks) ((k, d) :: kvs)
end
theorem tsqH {K : PySem.W.Frag} {H : Hp} {a : Addr} {xs : List V} (h : H a = some (.tup xs)) : SqT K H a xs := .inl (.inl h)
theorem tsq {K : PySem.W.Frag} {H : Hp} {a : Addr} {xs : List V} (h : TAt K H a xs) : SqT K H a xs := h.elim tsqH fun h => .inr h.2
theorem Dz.tup {K : PySem.W.Frag} {H : Hp} {B : Addr → Prop} {a : Addr} {xs : List V} {ds : List PyData} (h : H a = some (.tup xs)) (c : DzA K H B xs ds) : Dz K H B (.ref a) (.tuple ds) := .tupA (.inl h) c
/-- objects that may change -/
def MutO : HO → Prop
  | .lst _ => True
  | .dK _ => True
  | .dT _ => True
  | _ => False
section
variable {K : PySem.W.Frag} {H H' : Hp} {B B' : Addr → Prop}
theorem Dz.mono (h1 : ∀ a o, MutO o → H a = some o → ¬ B a → H' a = some o ∧ ¬ B' a) (h2 : ∀ a xs, H a = some (.tup xs) → H' a = some (.tup xs)) (d : PyData) (v : V) (h : Dz K H B v d) : Dz K H' B' v d :=
  Dz.rec (motive_1 := fun v d _ => Dz K H' B' v d) (motive_2 := fun vs ds _ => DzA K H' B' vs ds) (motive_3 := fun ks kvs _ => DzK K H' B' ks kvs) .non .bl .int .str
    (fun {a xs ds} x b _ c => .lst (h1 a (.lst xs) trivial x b).1 (h1 a (.lst xs) trivial x b).2 c) (fun a _ c => .tupA (a.mono h2) c) (fun {a ks kvs} x b _ c => .dct (h1 a (.dK ks) trivial x b).1 (h1 a (.dK ks) trivial x b).2 c) .nil (fun _ _ a b => .cons a b) .nil (fun e _ _ a b => .cons e a b) h
theorem DzA.mono (h1 : ∀ a o, MutO o → H a = some o → ¬ B a → H' a = some o ∧ ¬ B' a) (h2 : ∀ a xs, H a = some (.tup xs) → H' a = some (.tup xs)) : ∀ (ds : List PyData) (vs : List V), DzA K H B vs ds → DzA K H' B' vs ds
  | [], _, h => by cases h; exact .nil
  | d :: ds, _, h => by
    cases h with
    | cons a b => exact .cons (Dz.mono h1 h2 d _ a) (DzA.mono h1 h2 ds _ b)
theorem DzK.of {ks : List (L2.Key × V)} : ∀ {kvs : List (PyData × PyData)}, Paired (fun (p : PyData × PyData) (q : L2.Key × V) => keyK p.1 = some q.1 ∧ Dz K H B q.2 p.2) kvs ks → DzK K H B ks kvs := by
  induction ks with
  | nil => intro kvs h; cases h; exact .nil
  | cons q ks ih =>
    intro kvs h
    cases h with
    | cons r t => exact .cons r.1 r.2 (ih t)
mutual
theorem Dz.dp : ∀ (d : PyData) (v : V) (n : Nat), okN n d = true → Dz K H B v d → Dp K H v d
  | .none, _, _, _, h => by cases h; exact .non
  | .bool b, _, _, _, h => by cases h; exact .bl b
  | .int i, _, _, _, h => by cases h; exact .int i
  | .str x, _, _, _, h => by cases h; exact .str x
  | .list ds, _, 0, e, h => by simp [okN] at e
  | .tuple ds, _, 0, e, h => by simp [okN] at e
  | .list ds, _, n + 1, e, h => by
    cases h with
    | lst a b c => exact .lst (SqL.of a) (DzA.dp ds _ n (by simpa [okN] using e) c)
  | .tuple ds, _, n + 1, e, h => by
    cases h with
    | tupA a c => exact .tup (tsq a) (DzA.dp ds _ n (by simpa [okN] using e) c)
  | .dict _, _, n, e, h => by simp [okN] at e
theorem DzA.dp : ∀ (ds : List PyData) (vs : List V) (n : Nat), (∀ d ∈ ds, okN n d = true) → DzA K H B vs ds → DpAll K H vs ds
  | [], _, _, _, h => by cases h; exact .nil
  | d :: ds, _, n, e, h => by
    cases h with
    | cons a b => exact .cons (Dz.dp d _ n (e d List.mem_cons_self) a) (DzA.dp ds _ n (fun x hx => e x (List.mem_cons_of_mem _ hx)) b)
end
theorem DzA.length : ∀ {vs : List V} {ds : List PyData}, DzA K H B vs ds → vs.length = ds.length
  | _, _, .nil => rfl
  | _, _, .cons _ t => by rw [List.length_cons, List.length_cons, DzA.length t]
theorem DzA.get : ∀ {vs : List V} {ds : List PyData} {i : Nat} {d : PyData}, DzA K H B vs ds → ds[i]? = some d → ∃ v, vs[i]? = some v ∧ Dz K H B v d
  | _, _, _, _, .nil, e => by simp at e
  | _, _, 0, _, .cons r _, e => by simp at e; subst e; exact ⟨_, rfl, r⟩
  | _, _, i + 1, d, .cons _ t, e => by
    obtain ⟨u, h1, h2⟩ := DzA.get (i := i) (d := d) t (by simpa using e)
    exact ⟨u, by simpa using h1, h2⟩
theorem DzA.app : ∀ {vs ws : List V} {ds es : List PyData}, DzA K H B vs ds → DzA K H B ws es → DzA K H B (vs ++ ws) (ds ++ es)
  | _, _, _, _, .nil, s => s
  | _, _, _, _, .cons r t, s => .cons r (DzA.app t s)
theorem DzA.take : ∀ (n : Nat) {vs : List V} {ds : List PyData}, DzA K H B vs ds → DzA K H B (vs.take n) (ds.take n)
  | 0, _, _, _ => .nil
  | _ + 1, _, _, .nil => .nil
  | n + 1, _, _, .cons r t => .cons r (DzA.take n t)
theorem DzA.drop : ∀ (n : Nat) {vs : List V} {ds : List PyData}, DzA K H B vs ds → DzA K H B (vs.drop n) (ds.drop n)
  | 0, _, _, r => r
  | _ + 1, _, _, .nil => .nil
  | n + 1, _, _, .cons _ t => DzA.drop n t
theorem DzA.ints : ∀ ns : List Int, DzA K H B (ns.map V.int) (ns.map PyData.int)
  | [] => .nil
  | n :: ns => .cons (.int n) (DzA.ints ns)
end

/-- a dict: what is tracked of it, its entries -/
def DR (K : PySem.W.Frag) (H : Hp) (B : Addr → Prop) (a : Addr) (t : Bool) (kvs : List (PyData × PyData)) : Prop :=
  (t = false ∧ ∃ ks : List (L2.Key × V), H a = some (.dK ks) ∧ Paired (fun (p : PyData × PyData) (q : L2.Key × V) => keyK p.1 = some q.1 ∧ Dz K H B q.2 p.2) kvs ks) ∨
  (t = true ∧ ∃ ks : List (List L2.Key × V), H a = some (.dT ks) ∧ Paired (fun (p : PyData × PyData) (q : List L2.Key × V) => keyT p.1 = some q.1 ∧ Dz K H B q.2 p.2) kvs ks)
theorem DR.mono {K : PySem.W.Frag} {H H' : Hp} {B B' : Addr → Prop} {a : Addr} {t : Bool} {kvs : List (PyData × PyData)} (h : DR K H B a t kvs) (e : ∀ o, H a = some o → H' a = some o) (m : ∀ v d, Dz K H B v d → Dz K H' B' v d) : DR K H' B' a t kvs := by
  rcases h with ⟨h0, ks, h1, h2⟩ | ⟨h0, ks, h1, h2⟩
  · exact .inl ⟨h0, ks, e _ h1, Paired.mapP h2 fun p q r => ⟨r.1, m _ _ r.2⟩⟩
  · exact .inr ⟨h0, ks, e _ h1, Paired.mapP h2 fun p q r => ⟨r.1, m _ _ r.2⟩⟩
theorem DR.mut {K : PySem.W.Frag} {H : Hp} {B : Addr → Prop} {a : Addr} {t : Bool} {kvs : List (PyData × PyData)} (h : DR K H B a t kvs) : ∃ o, H a = some o ∧ MutO o := by
  rcases h with ⟨_, ks, h1, _⟩ | ⟨_, ks, h1, _⟩
  · exact ⟨_, h1, trivial⟩
  · exact ⟨_, h1, trivial⟩
/-- a list of the module's own -/
def WrL (K : PySem.W.Frag) (a : Addr) (xs : List V) : Prop :=
  ∃ (o : Obj) (its : Array Value) (n : Nat), K.lookup a = some o ∧ o.cls = .type "list" ∧ o.dict = none ∧ o.data = .seq its n ∧ its.size ≤ sizeLine ∧ Vals xs its.toList
section
variable (K : PySem.W.Frag) (mg : Str → Option Value) (W : List Addr) (H : Hp) (μ : Mu)
def RV : Vl → V → Prop
  | .d x, v => Dz K H (Mo μ W) v x
  | .r i, v => i < μ.length ∧ ∀ a, μ[i]? = some (some a) → v = .ref a
  | .g x, v => ∃ a, mg x = some (.ref a) ∧ v = .ref a
  | .x a, v => v = .ref a
  | .sc ns, v => ∃ a, v = .ref a ∧ ((Rd H a (.lst (ns.map V.int)) ∧ ¬ Mo μ W a) ∨ WrL K a (ns.map V.int)) ∧ ns.length ≤ sz
abbrev RVs : List Vl → List V → Prop := Paired (RV K mg W H μ)
structure HR (mh : MH) : Prop where
  len : μ.length = mh.length
  nd : ∀ (i j : Nat) a, μ[i]? = some (some a) → μ[j]? = some (some a) → i = j
  dead : ∀ i : Nat, mh[i]? = some .dead → μ[i]? = some none
  lst : ∀ (i : Nat) xs, mh[i]? = some (.lst xs) → xs.all (below i) = true ∧ ∃ a vs, μ[i]? = some (some a) ∧ H a = some (.lst vs) ∧ RVs K mg W H μ xs vs
  dct : ∀ (i : Nat) t kvs, mh[i]? = some (.dct t kvs) → ∃ a, μ[i]? = some (some a) ∧ DR K H (Mo μ W) a t kvs
  w : ∀ a, a ∈ W → H a ≠ none ∧ some a ∉ μ
  tab : ∀ x, x ∈ mkNames → ∀ c P, PySem.W.tabIn K x = some (c, P) → LamX.TabS H P ((x ++ ".<locals>.") ++ "<lambda>")
structure SR (mσ : Env) (σ : L2.St) : Prop where
  len : σ.length = mσ.length
  at_ : ∀ (i : Nat) x, mσ[i]? = some (some x) → ∃ v, σ[i]? = some (some v) ∧ RV K mg W H μ x v
end
structure Stp (H : Hp) (μ : Mu) (H' : Hp) (μ' : Mu) : Prop where
  keep : ∀ a o, H a = some o → some a ∉ μ → (∀ ps, o ≠ .tbl ps) → H' a = some o
  tab : ∀ x, x ∈ mkNames → ∀ P, LamX.TabS H P ((x ++ ".<locals>.") ++ "<lambda>") → LamX.TabS H' P ((x ++ ".<locals>.") ++ "<lambda>")
  mono : ∀ (i : Nat) e, μ[i]? = some e → μ'[i]? = some e ∨ μ'[i]? = some none
  new : ∀ a, some a ∈ μ' → some a ∈ μ ∨ H a = none
  there : ∀ a, H a ≠ none → H' a ≠ none
theorem Stp.refl (H : Hp) (μ : Mu) : Stp H μ H μ := ⟨fun _ _ h _ _ => h, fun _ _ _ h => h, fun _ _ h => .inl h, fun _ h => .inl h, fun _ h => h⟩
theorem Stp.trans {H H1 H2 : Hp} {μ μ1 μ2 : Mu} (a : Stp H μ H1 μ1) (b : Stp H1 μ1 H2 μ2) : Stp H μ H2 μ2 where
  keep := fun c o h hn nt => b.keep c o (a.keep c o h hn nt) (fun z => (a.new c z).elim hn fun z => by rw [h] at z; cases z) nt
  tab := fun x hx P t => b.tab x hx P (a.tab x hx P t)
  mono := fun i e h => by
    rcases a.mono i e h with q | q
    · exact b.mono i e q
    · rcases b.mono i none q with q | q <;> exact .inr q
  new := fun c h => by
    rcases b.new c h with q | q
    · exact a.new c q
    · by_cases z : H c = none
      · exact .inr z
      · exact absurd q (a.there c z)
  there := fun c h => b.there c (a.there c h)

section
variable {K : PySem.W.Frag} {mg : Str → Option Value} {W : List Addr} {H H' : Hp} {μ μ' : Mu} {mh mh' : MH} {mσ : Env} {σ : L2.St}
theorem HR.some_mu (hr : HR K mg W H μ mh) {a : Addr} (h : some a ∈ μ) : ∃ o, H a = some o ∧ MutO o := by
  obtain ⟨i, hi, e⟩ := List.mem_iff_getElem.mp h
  have e' : μ[i]? = some (some a) := by rw [List.getElem?_eq_getElem hi, e]
  have hl : i < mh.length := by rw [← hr.len]; exact hi
  cases q : mh[i] with
  | dead =>
    have := hr.dead i (by rw [List.getElem?_eq_getElem hl, q])
    rw [e'] at this; cases this
  | lst xs =>
    obtain ⟨_, b, vs, e2, e3, _⟩ := hr.lst i xs (by rw [List.getElem?_eq_getElem hl, q])
    rw [e'] at e2; cases e2
    exact ⟨_, e3, trivial⟩
  | dct t kvs =>
    obtain ⟨b, e2, e3⟩ := hr.dct i t kvs (by rw [List.getElem?_eq_getElem hl, q])
    rw [e'] at e2; cases e2
    exact e3.mut
theorem Stp.sqT (st : Stp H μ H' μ') {W0 : List Addr} (hr : HR K mg W0 H μ mh) {a : Addr} {xs : List V} (h : SqT K H a xs) : SqT K H' a xs := by
  rcases h with (h | ⟨o, h⟩) | h
  · refine .inl (.inl (st.keep a _ h (fun z => ?_) fun _ z => nomatch z))
    obtain ⟨o, e, mo⟩ := hr.some_mu z
    rw [h] at e; cases e; exact mo.elim
  · refine .inl (.inr ⟨o, st.keep a _ h (fun z => ?_) fun _ z => nomatch z⟩)
    obtain ⟨o, e, mo⟩ := hr.some_mu z
    rw [h] at e; cases e; exact mo.elim
  · exact .inr h
theorem Stp.tupT (st : Stp H μ H' μ') {W0 : List Addr} (hr : HR K mg W0 H μ mh) {a : Addr} {xs : List V} (h : H a = some (.tup xs)) : H' a = some (.tup xs) :=
  st.keep a _ h (fun z => by
    obtain ⟨o, e, mo⟩ := hr.some_mu z
    rw [h] at e; cases e; exact mo.elim) fun _ z => nomatch z
theorem Rd.ne {H : Hp} {a : Addr} {u : HO} (h : Rd H a u) : H a ≠ none := by
  rcases h with h | ⟨o, h⟩ <;> rw [h] <;> simp
theorem Stp.rdL (st : Stp H μ H' μ') {a : Addr} {xs : List V} (h : Rd H a (.lst xs)) (hb : ¬ Mo μ W a) : Rd H' a (.lst xs) ∧ ¬ Mo μ' W a := by
  have ne := Rd.ne h
  refine ⟨?_, fun z => ?_⟩
  · rcases h with h | ⟨o, h⟩
    · exact .inl (st.keep a _ h (fun z => hb (.inl z)) fun _ z => nomatch z)
    · exact .inr ⟨o, st.keep a _ h (fun z => hb (.inl z)) fun _ z => nomatch z⟩
  · rcases z with z | z
    · rcases st.new a z with q | q
      · exact hb (.inl q)
      · exact ne q
    · exact hb (.inr z)
theorem MutO.nt {o : HO} (h : MutO o) : ∀ ps, o ≠ .tbl ps := fun ps z => by
  subst z; exact h
theorem Stp.rdH (st : Stp H μ H' μ') {a : Addr} {o : HO} (h : H a = some o) (hb : ¬ Mo μ W a) (mo : MutO o := by trivial) : H' a = some o ∧ ¬ Mo μ' W a := by
  refine ⟨st.keep a _ h (fun z => hb (.inl z)) mo.nt, fun z => ?_⟩
  rcases z with z | z
  · rcases st.new a z with q | q
    · exact hb (.inl q)
    · rw [h] at q; cases q
  · exact hb (.inr z)
theorem Stp.dz (st : Stp H μ H' μ') {W0 : List Addr} (hr : HR K mg W0 H μ mh) {v : V} {d : PyData} (h : Dz K H (Mo μ W) v d) : Dz K H' (Mo μ' W) v d :=
  Dz.mono (fun _ _ m a b => st.rdH a b m) (fun _ _ a => st.tupT hr a) d v h
theorem Stp.dzA (st : Stp H μ H' μ') {W0 : List Addr} (hr : HR K mg W0 H μ mh) {vs : List V} {ds : List PyData} (h : DzA K H (Mo μ W) vs ds) : DzA K H' (Mo μ' W) vs ds :=
  DzA.mono (fun _ _ m a b => st.rdH a b m) (fun _ _ a => st.tupT hr a) ds vs h
theorem Stp.rv (st : Stp H μ H' μ') {W0 : List Addr} (hr : HR K mg W0 H μ mh) {x : Vl} {v : V} (h : RV K mg W H μ x v) : RV K mg W H' μ' x v := by
  cases x with
  | d x => exact st.dz hr h
  | r i =>
    obtain ⟨hi, h⟩ := h
    have e : μ[i]? = some μ[i] := List.getElem?_eq_getElem hi
    refine ⟨?_, fun a ea => ?_⟩
    · rcases st.mono i _ e with q | q <;> exact (List.getElem?_eq_some_iff.mp q).1
    · rcases st.mono i _ e with q | q
      · rw [q] at ea
        exact h a (by rw [e, ea])
      · rw [q] at ea; cases ea
  | g x => exact h
  | x a => exact h
  | sc ns =>
    obtain ⟨a, e, hs, hz⟩ := h
    exact ⟨a, e, hs.imp (fun q => st.rdL q.1 q.2) id, hz⟩
end
theorem tabs_fresh {H : Hp} {p P : Addr} {o : HO} {q : Str} (hp : H p = none) (t : LamX.TabS H P q) : LamX.TabS (upd H p o) P q :=
  t.ext fun b ob h => by rw [upd_ne (ne_of_none h hp)]; exact h
theorem tabs_mut {H : Hp} {a P : Addr} {o o' : HO} {q : Str} (ha : H a = some o') (m : MutO o') (t : LamX.TabS H P q) : LamX.TabS (upd H a o) P q := by
  obtain ⟨ps, h1, h2, h3⟩ := t
  refine ⟨ps, ?_, h2, fun pos cv hc => ?_⟩
  · rw [upd_ne (fun z => by
      rw [z, ha] at h1
      exact m.nt ps (Option.some.inj h1))]
    exact h1
  · obtain ⟨c, e1, e2⟩ := h3 pos cv hc
    refine ⟨c, e1, ?_⟩
    rw [upd_ne (fun z => by
      rw [z, ha] at e2
      have e3 := Option.some.inj e2
      rw [e3] at m
      exact m)]
    exact e2
theorem tabs_but {H H' : Hp} {a P : Addr} {o' : HO} {q : Str} (ha : H a = some o') (m : MutO o') (e : ∀ b, b ≠ a → H' b = H b) (t : LamX.TabS H P q) : LamX.TabS H' P q := by
  obtain ⟨ps, h1, h2, h3⟩ := t
  refine ⟨ps, ?_, h2, fun pos cv hc => ?_⟩
  · rw [e P (fun z => by
      rw [z, ha] at h1
      exact m.nt ps (Option.some.inj h1))]
    exact h1
  · obtain ⟨c, e1, e2⟩ := h3 pos cv hc
    refine ⟨c, e1, ?_⟩
    rw [e c (fun z => by
      rw [z, ha] at e2
      have e3 := Option.some.inj e2
      rw [e3] at m
      exact m)]
    exact e2
end Ev

set_option Elab.async false
set_option linter.all false
set_option autoImplicit false
set_option maxRecDepth 100000
set_option maxHeartbeats 1000000
namespace Ev
open PySem PySem.Spec PyProof.Rows L2

/-- an exception as the layer has it -/
def ExV (X : Cx) (c : Str) (xs : List PyData) (u : Value) (d : Option Addr) (H : Hp) : Prop :=
  ∃ C, X.mg c = some (.ref C) ∧ u = .ref C ∧ xs = [] ∧ d = none
section
variable (X : Cx) (W : List Addr) (Wx : WX)
abbrev hR (H : Hp) (μ : Mu) (mh : MH) : Prop := HR X.K X.mg W H μ mh
abbrev sR (H : Hp) (μ : Mu) (mσ : Env) (σ : L2.St) : Prop := SR X.K X.mg W H μ mσ σ
abbrev rV : Hp → Mu → Vl → V → Prop := fun H μ x v => RV X.K X.mg W H μ x v
abbrev rVs : Hp → Mu → List Vl → List V → Prop := fun H μ xs vs => RVs X.K X.mg W H μ xs vs
abbrev rB : List Addr → Hp → Mu → Bool → Bool → Prop := fun _ _ _ b c => b = c
/-- what is wanted of an outcome -/
def Post {α ρ : Type} (R : Hp → Mu → α → ρ → Prop) (res : Res α) (σ : L2.St) (H : Hp) (μ : Mu) (Q : ρ → Hp → Prop) : Prop :=
  match res with
  | .ok a mh' => ∀ v H' μ', Stp H μ H' μ' → hR X W H' μ' mh' → R H' μ' a v → Q v H'
  | .exc c xs mh' => ∀ u d H' μ', Stp H μ H' μ' → hR X W H' μ' mh' → ExV X c xs u d H' → Wx u d σ H'
  | .stuck => False
end
def Rg (X : Cx) (Wx : WX) {α ρ : Type} (R : List Addr → Hp → Mu → α → ρ → Prop) (f : Env → MH → Res α) : L2.St → Hp → (ρ → Hp → Prop) → Prop := fun σ H Q =>
  ∃ W μ mσ mh, hR X W H μ mh ∧ sR X W H μ mσ σ ∧ Post X W Wx (R W) (f mσ mh) σ H μ Q
section
variable {X : Cx} {W : List Addr} {Wx : WX} {α β ρ ρ' : Type} {R : Hp → Mu → α → ρ → Prop} {R' : Hp → Mu → β → ρ' → Prop}
theorem SR.step {K : PySem.W.Frag} {mg : Str → Option Value} {H H' : Hp} {μ μ' : Mu} {mh : MH} {mσ : Env} {σ : L2.St} (sr : SR K mg W H μ mσ σ) (st : Stp H μ H' μ') (hr : HR K mg W H μ mh) : SR K mg W H' μ' mσ σ :=
  ⟨sr.len, fun i x e => let ⟨v, e', r⟩ := sr.at_ i x e; ⟨v, e', st.rv hr r⟩⟩
theorem Post.mono {res : Res α} {σ : L2.St} {H : Hp} {μ : Mu} {Q Q' : ρ → Hp → Prop} (h : Post X W Wx R res σ H μ Q) (q : ∀ v H', Q v H' → Q' v H') : Post X W Wx R res σ H μ Q' := by
  cases res with
  | ok a mh => exact fun v H' μ' a b c => q _ _ (h v H' μ' a b c)
  | exc c xs mh => exact h
  | stuck => exact h
theorem Post.step {res : Res α} {σ : L2.St} {H H1 : Hp} {μ μ1 : Mu} {Q : ρ → Hp → Prop} (h : Post X W Wx R res σ H μ Q) (st : Stp H μ H1 μ1) : Post X W Wx R res σ H1 μ1 Q := by
  cases res with
  | ok a mh => exact fun v H' μ' a b c => h v H' μ' (st.trans a) b c
  | exc c xs mh => exact fun u d H' μ' a b c => h u d H' μ' (st.trans a) b c
  | stuck => exact h
theorem Rg.mono {R : List Addr → Hp → Mu → α → ρ → Prop} {f : Env → MH → Res α} {σ : L2.St} {H : Hp} {Q Q' : ρ → Hp → Prop} (h : Rg X Wx R f σ H Q) (q : ∀ v H', Q v H' → Q' v H') : Rg X Wx R f σ H Q' :=
  let ⟨W, μ, mσ, mh, a, b, c⟩ := h; ⟨W, μ, mσ, mh, a, b, c.mono q⟩
/-- behind a first part -/
def Beh (X : Cx) (W : List Addr) (Wx : WX) (R : Hp → Mu → α → ρ → Prop) (g : α → MH → Res β) (R' : Hp → Mu → β → ρ' → Prop) (mσ : Env) (σ : L2.St) (H : Hp) (μ : Mu) (Q : ρ' → Hp → Prop) (v : ρ) (H1 : Hp) : Prop :=
  ∃ a μ1 mh1, Stp H μ H1 μ1 ∧ hR X W H1 μ1 mh1 ∧ sR X W H1 μ1 mσ σ ∧ R H1 μ1 a v ∧ Post X W Wx R' (g a mh1) σ H1 μ1 Q
theorem Post.bind {res : Res α} {g : α → MH → Res β} {σ : L2.St} {H : Hp} {μ : Mu} {mσ : Env} {mh : MH} {Q : ρ' → Hp → Prop} (hr : hR X W H μ mh) (sr : sR X W H μ mσ σ) (h : Post X W Wx R' (res.bind g) σ H μ Q) :
    Post X W Wx R res σ H μ (Beh X W Wx R g R' mσ σ H μ Q) := by
  cases res with
  | ok a mh1 => exact fun v H1 μ1 st hr1 r => ⟨a, μ1, mh1, st, hr1, sr.step st hr, r, Post.step (res := g a mh1) h st⟩
  | exc c xs mh1 => exact h
  | stuck => exact h
theorem Rg.bind {R : List Addr → Hp → Mu → α → ρ → Prop} {R' : List Addr → Hp → Mu → β → ρ' → Prop} {f : Env → MH → Res α} {g : Env → α → MH → Res β} {σ : L2.St} {H : Hp} {Q : ρ' → Hp → Prop} (h : Rg X Wx R' (fun σ h => (f σ h).bind (g σ)) σ H Q) :
    Rg X Wx R f σ H (fun v H1 => ∃ W mσ μ, Beh X W Wx (R W) (g mσ) (R' W) mσ σ H μ Q v H1) :=
  let ⟨W, μ, mσ, mh, a, b, c⟩ := h
  ⟨W, μ, mσ, mh, a, b, (Post.bind (R := R W) a b c).mono fun _ _ z => ⟨W, mσ, μ, z⟩⟩
theorem Post.ok {a : α} {mh : MH} {σ : L2.St} {H : Hp} {μ : Mu} {Q : ρ → Hp → Prop} (h : Post X W Wx R (.ok a mh) σ H μ Q) (hr : hR X W H μ mh) {v : ρ} (r : R H μ a v) : Q v H := h v H μ (Stp.refl H μ) hr r
theorem Post.calm {res : Res α} {σ : L2.St} {H : Hp} {μ : Mu} {Q : ρ → Hp → Prop} (h : Post X W Wx R res.calm σ H μ Q) : ∃ a mh, res = .ok a mh ∧ ∀ v H' μ', Stp H μ H' μ' → hR X W H' μ' mh → R H' μ' a v → Q v H' := by
  cases res with
  | ok a mh => exact ⟨a, mh, rfl, h⟩
  | exc c xs mh => exact False.elim h
  | stuck => exact False.elim h

theorem Post.ofOpt {o : Option α} {mh : MH} {σ : L2.St} {H : Hp} {μ : Mu} {Q : ρ → Hp → Prop} (h : Post X W Wx R (ofOpt o mh) σ H μ Q) (hr : hR X W H μ mh) : ∃ a, o = some a ∧ ∀ v, R H μ a v → Q v H := by
  cases o with
  | some a => exact ⟨a, rfl, fun v r => h v H μ (Stp.refl H μ) hr r⟩
  | none => exact False.elim h

/-! ### the judgements -/
abbrev tE (X : Cx) (Wx : WX) (f : Env → MH → Res Vl) : TE := Rg X Wx (rV X) f
abbrev tT (X : Cx) (Wx : WX) (f : Env → MH → Res Bool) : TT := Rg X Wx rB f
abbrev tA (X : Cx) (Wx : WX) (f : Env → MH → Res (List Vl)) : TA := Rg X Wx (rVs X) f
theorem pe_imp {e : Expr} {t t' : TE} (h : PE X e t) (i : ∀ σ H Q, t' σ H Q → t σ H Q) : PE X e t' := ⟨fun pins s σ H Q I w => h.run pins s σ H Q I (i σ H Q w)⟩
theorem pt_imp {e : Expr} {t t' : TT} (h : PT X e t) (i : ∀ σ H Q, t' σ H Q → t σ H Q) : PT X e t' := ⟨fun pins s σ H Q I w => h.run pins s σ H Q I (i σ H Q w)⟩
theorem pw_imp {e : Expr} {t t' : TT} (h : PW X e t) (i : ∀ σ H Q, t' σ H Q → t σ H Q) : PW X e t' := ⟨fun wh pins s σ H Q I w => h.run wh pins s σ H Q I (i σ H Q w)⟩
theorem pa_imp {es : List Expr} {t t' : TA} (h : PA X es t) (i : ∀ σ H Q, t' σ H Q → t σ H Q) : PA X es t' := ⟨fun pos pins s σ H Q I w => h.run pos pins s σ H Q I (i σ H Q w)⟩
theorem ps_imp {st : Stmt} {t t' : TS} (h : PS X st t) (i : ∀ D σ H, t' D σ H → t D σ H) : PS X st t' := ⟨fun pins s σ H D I w => h.run pins s σ H D I (i D σ H w)⟩
theorem pss_imp {st : List Stmt} {t t' : TS} (h : PSs X st t) (i : ∀ D σ H, t' D σ H → t D σ H) : PSs X st t' := ⟨fun pins s σ H D I w => h.run pins s σ H D I (i D σ H w)⟩
theorem pe_stuck {e : Expr} : PE X e (tE X Wx fun _ _ => .stuck) := ⟨fun _ _ _ _ _ _ ⟨_, _, _, _, _, _, z⟩ => z.elim⟩

/-! ### new objects -/
theorem HR.fresh {K : PySem.W.Frag} {mg : Str → Option Value} {H : Hp} {μ : Mu} {mh : MH} {p : Addr} {o : HO} (hr : HR K mg W H μ mh) (hp : H p = none) : Stp H μ (upd H p o) μ ∧ HR K mg W (upd H p o) μ mh := by
  have st : Stp H μ (upd H p o) μ := ⟨fun a ob h _ _ => by rw [upd_ne (ne_of_none h hp)]; exact h, fun _ _ _ t => tabs_fresh hp t, fun _ _ h => .inl h, fun _ h => .inl h, fun a h => by
    by_cases e : a = p
    · rw [e, upd_same]; simp
    · rw [upd_ne e]; exact h⟩
  refine ⟨st, hr.len, hr.nd, hr.dead, fun i xs h => ?_, fun i t kvs h => ?_, fun a ha => ?_, fun x hx c P e => st.tab x hx P (hr.tab x hx c P e)⟩
  · obtain ⟨b, a, vs, e1, e2, e3⟩ := hr.lst i xs h
    exact ⟨b, a, vs, e1, by rw [upd_ne (ne_of_none e2 hp)]; exact e2, Paired.mapP e3 fun _ _ r => st.rv hr r⟩
  · obtain ⟨a, e1, e2⟩ := hr.dct i t kvs h
    exact ⟨a, e1, e2.mono (fun ob e => by rw [upd_ne (ne_of_none e hp)]; exact e) fun _ _ r => st.dz hr r⟩
  · obtain ⟨h1, h2⟩ := hr.w a ha
    exact ⟨st.there a h1, h2⟩
end
section
variable {K : PySem.W.Frag} {mg : Str → Option Value} {W : List Addr} {H : Hp} {μ : Mu} {mh : MH}
theorem below_mono {n m : Nat} (h : n ≤ m) : ∀ v : Vl, below n v = true → below m v = true
  | .d _, _ => rfl
  | .r j, q => by
    have q' : j < n := of_decide_eq_true q
    exact decide_eq_true (by omega)
  | .g _, q => q
  | .sc _, q => q
  | .x _, q => q
theorem all_below_mono {n m : Nat} (h : n ≤ m) {xs : List Vl} (q : xs.all (below n) = true) : xs.all (below m) = true := by
  rw [List.all_eq_true] at q ⊢
  exact fun v hv => below_mono h v (q v hv)
theorem HR.notin (hr : HR K mg W H μ mh) {p : Addr} (hp : H p = none) : some p ∉ μ := fun z => by
  obtain ⟨o, e, _⟩ := hr.some_mu z
  rw [hp] at e; cases e
theorem HR.notw (hr : HR K mg W H μ mh) {p : Addr} (hp : H p = none) : p ∉ W := fun z => (hr.w p z).1 hp
/-- a new mutable list -/
theorem HR.grow {p : Addr} {xs : List Vl} {vs : List V} (hr : HR K mg W H μ mh) (hp : H p = none) (rv : RVs K mg W H μ xs vs) (hb : xs.all (below mh.length) = true) :
    Stp H μ (upd H p (.lst vs)) (μ ++ [some p]) ∧ HR K mg W (upd H p (.lst vs)) (μ ++ [some p]) (mh ++ [.lst xs]) := by
  have st : Stp H μ (upd H p (.lst vs)) (μ ++ [some p]) := by
    refine ⟨fun a ob h _ _ => by rw [upd_ne (ne_of_none h hp)]; exact h, fun _ _ _ t => tabs_fresh hp t, fun i e h => .inl ?_, fun a h => ?_, fun a h => ?_⟩
    · rw [List.getElem?_append_left (List.getElem?_eq_some_iff.mp h).1]; exact h
    · rcases List.mem_append.mp h with q | q
      · exact .inl q
      · have : a = p := by simpa using q
        subst this
        exact .inr hp
    · by_cases e : a = p
      · rw [e, upd_same]; simp
      · rw [upd_ne e]; exact h
  have get : ∀ (i : Nat) (o : MO), (mh ++ [.lst xs])[i]? = some o → mh[i]? = some o ∨ (i = mh.length ∧ o = .lst xs) := fun i o h => by
    by_cases hi : i < mh.length
    · rw [List.getElem?_append_left hi] at h; exact .inl h
    · rw [List.getElem?_append_right (by omega)] at h
      by_cases e : i = mh.length
      · subst e
        simp at h
        exact .inr ⟨rfl, h.symm⟩
      · rw [List.getElem?_eq_none (by simp; omega)] at h; cases h
  have old : ∀ {i : Nat} {e : Option Addr}, μ[i]? = some e → (μ ++ [some p])[i]? = some e := fun {i e} h => by
    rw [List.getElem?_append_left (List.getElem?_eq_some_iff.mp h).1]; exact h
  have last : (μ ++ [some p])[mh.length]? = some (some p) := by rw [← hr.len]; simp
  refine ⟨st, by rw [List.length_append, List.length_append, hr.len]; rfl, fun i j a h1 h2 => ?_, fun i h => ?_, fun i ys h => ?_, fun i t kvs h => ?_, fun a ha => ?_, fun x hx c P e => st.tab x hx P (hr.tab x hx c P e)⟩
  · have key : ∀ k : Nat, (μ ++ [some p])[k]? = some (some a) → (μ[k]? = some (some a)) ∨ (k = μ.length ∧ a = p) := fun k h => by
      by_cases hk : k < μ.length
      · rw [List.getElem?_append_left hk] at h; exact .inl h
      · rw [List.getElem?_append_right (by omega)] at h
        by_cases e : k = μ.length
        · subst e; simp at h; exact .inr ⟨rfl, h.symm⟩
        · rw [List.getElem?_eq_none (by simp; omega)] at h; cases h
    rcases key i h1 with q1 | ⟨q1, r1⟩ <;> rcases key j h2 with q2 | ⟨q2, r2⟩
    · exact hr.nd i j a q1 q2
    · subst r2; exact absurd (List.mem_of_getElem? q1) (hr.notin hp)
    · subst r1; exact absurd (List.mem_of_getElem? q2) (hr.notin hp)
    · rw [q1, q2]
  · rcases get i _ h with q | ⟨_, q⟩
    · exact old (hr.dead i q)
    · cases q
  · rcases get i _ h with q | ⟨q1, q2⟩
    · obtain ⟨b, a, ws, e1, e2, e3⟩ := hr.lst i ys q
      exact ⟨b, a, ws, old e1, by rw [upd_ne (ne_of_none e2 hp)]; exact e2, Paired.mapP e3 fun _ _ r => st.rv hr r⟩
    · cases q2
      subst q1
      exact ⟨hb, p, vs, last, upd_same, Paired.mapP rv fun _ _ r => st.rv hr r⟩
  · rcases get i _ h with q | ⟨_, q⟩
    · obtain ⟨a, e1, e2⟩ := hr.dct i t kvs q
      exact ⟨a, old e1, e2.mono (fun ob e => by rw [upd_ne (ne_of_none e hp)]; exact e) fun _ _ r => st.dz hr r⟩
    · cases q
  · obtain ⟨h1, h2⟩ := hr.w a ha
    refine ⟨st.there a h1, fun z => ?_⟩
    rcases List.mem_append.mp z with q | q
    · exact h2 q
    · have : a = p := by simpa using q
      subst this
      exact h1 hp
/-- a mutable list written -/
theorem HR.write {i : Nat} {a : Addr} {xs ys : List Vl} {vs ws : List V} (hr : HR K mg W H μ mh) (hi : mh[i]? = some (.lst xs)) (ha : μ[i]? = some (some a)) (hv : H a = some (.lst vs)) (rv : RVs K mg W H μ ys ws) (hb : ys.all (below i) = true) :
    Stp H μ (upd H a (.lst ws)) μ ∧ HR K mg W (upd H a (.lst ws)) μ (mh.set i (.lst ys)) := by
  have am : some a ∈ μ := List.mem_of_getElem? ha
  have il : i < mh.length := (List.getElem?_eq_some_iff.mp hi).1
  have st : Stp H μ (upd H a (.lst ws)) μ := by
    refine ⟨fun b ob h hn _ => by rw [upd_ne (fun z => hn (by rw [z]; exact am))]; exact h, fun _ _ _ t => tabs_mut hv trivial t, fun _ _ h => .inl h, fun _ h => .inl h, fun b h => ?_⟩
    by_cases e : b = a
    · rw [e, upd_same]; simp
    · rw [upd_ne e]; exact h
  refine ⟨st, by rw [List.length_set]; exact hr.len, hr.nd, fun j h => ?_, fun j zs h => ?_, fun j t kvs h => ?_, fun b hb' => ?_, fun x hx c P e => st.tab x hx P (hr.tab x hx c P e)⟩
  · by_cases e : j = i
    · subst e; rw [List.getElem?_set_self il] at h; cases h
    · rw [List.getElem?_set_ne (Ne.symm e)] at h; exact hr.dead j h
  · by_cases e : j = i
    · subst e
      rw [List.getElem?_set_self il] at h; cases h
      exact ⟨hb, a, ws, ha, upd_same, Paired.mapP rv fun _ _ r => st.rv hr r⟩
    · rw [List.getElem?_set_ne (Ne.symm e)] at h
      obtain ⟨b, c, us, e1, e2, e3⟩ := hr.lst j zs h
      have ne : c ≠ a := fun z => e (hr.nd j i a (by rw [e1, z]) ha)
      exact ⟨b, c, us, e1, by rw [upd_ne ne]; exact e2, Paired.mapP e3 fun _ _ r => st.rv hr r⟩
  · by_cases e : j = i
    · subst e; rw [List.getElem?_set_self il] at h; cases h
    · rw [List.getElem?_set_ne (Ne.symm e)] at h
      obtain ⟨c, e1, e2⟩ := hr.dct j t kvs h
      have ne : c ≠ a := fun z => e (hr.nd j i a (by rw [e1, z]) ha)
      exact ⟨c, e1, e2.mono (fun ob e => by rw [upd_ne ne]; exact e) fun _ _ r => st.dz hr r⟩
  · obtain ⟨h1, h2⟩ := hr.w b hb'
    exact ⟨st.there b h1, h2⟩
theorem allD_dz : ∀ {xs : List Vl} {vs : List V} {ds : List PyData}, RVs K mg W H μ xs vs → allD xs = some ds → DzA K H (Mo μ W) vs ds
  | _, _, _, .nil, e => by cases e; exact .nil
  | _, _, ds, .cons (a := x) (l₁ := xs) r t, e => by
    cases x with
    | d x =>
      simp only [allD, Option.map_eq_some_iff] at e
      obtain ⟨es, h1, h2⟩ := e
      subst h2
      exact .cons r (allD_dz t h1)
    | r i => simp [allD] at e
    | g x => simp [allD] at e
    | sc ns => simp [allD] at e
    | x a => simp [allD] at e
theorem rvs_dz : ∀ {ds : List PyData} {vs : List V}, DzA K H (Mo μ W) vs ds → RVs K mg W H μ (ds.map .d) vs
  | _, _, .nil => .nil
  | _, _, .cons r t => .cons r (rvs_dz t)
theorem dz_rvs : ∀ {ds : List PyData} {vs : List V}, RVs K mg W H μ (ds.map .d) vs → DzA K H (Mo μ W) vs ds
  | [], _, h => by cases h; exact .nil
  | d :: ds, _, h => by
    rw [List.map_cons] at h
    cases h with
    | cons r t => exact .cons r (dz_rvs t)
theorem allD_map (ds : List PyData) : allD (ds.map .d) = some ds := by
  induction ds with
  | nil => rfl
  | cons d ds ih => simp [allD, ih]
/-- the list is frozen -/
theorem HR.kill {i : Nat} {xs : List Vl} {ds : List PyData} {a : Addr} (hr : HR K mg W H μ mh) (hi : mh[i]? = some (.lst xs)) (ha : μ[i]? = some (some a)) (hd : allD xs = some ds) :
    Stp H μ H (μ.set i none) ∧ HR K mg W H (μ.set i none) (mh.set i .dead) ∧ RV K mg W H (μ.set i none) (.d (.list ds)) (.ref a) := by
  have il : i < mh.length := (List.getElem?_eq_some_iff.mp hi).1
  have im : i < μ.length := (List.getElem?_eq_some_iff.mp ha).1
  have sub : ∀ b, some b ∈ μ.set i none → some b ∈ μ := fun b h => by
    rcases List.mem_or_eq_of_mem_set h with q | q
    · exact q
    · cases q
  have st : Stp H μ H (μ.set i none) := by
    refine ⟨fun _ _ h _ _ => h, fun _ _ _ t => t, fun j e h => ?_, fun b h => .inl (sub b h), fun _ h => h⟩
    by_cases q : i = j
    · subst q; exact .inr (by rw [List.getElem?_set_self im])
    · exact .inl (by rw [List.getElem?_set_ne q]; exact h)
  have gt : ∀ {j : Nat} {b : Addr}, (μ.set i none)[j]? = some (some b) → j ≠ i ∧ μ[j]? = some (some b) := fun {j b} h => by
    by_cases q : i = j
    · subst q; rw [List.getElem?_set_self im] at h; cases h
    · rw [List.getElem?_set_ne q] at h; exact ⟨fun z => q z.symm, h⟩
  obtain ⟨_, a', vs, e1, e2, e3⟩ := hr.lst i xs hi
  rw [ha] at e1; cases e1
  refine ⟨st, ⟨by rw [List.length_set, List.length_set]; exact hr.len, fun j k b h1 h2 => hr.nd j k b (gt h1).2 (gt h2).2, fun j h => ?_, fun j zs h => ?_, fun j t kvs h => ?_, fun b hb => ?_, fun x hx c P e => st.tab x hx P (hr.tab x hx c P e)⟩, ?_⟩
  · by_cases q : i = j
    · subst q; rw [List.getElem?_set_self im]
    · rw [List.getElem?_set_ne q] at h ⊢
      exact hr.dead j h
  · by_cases q : i = j
    · subst q; rw [List.getElem?_set_self il] at h; cases h
    · rw [List.getElem?_set_ne q] at h
      obtain ⟨b, c, us, k1, k2, k3⟩ := hr.lst j zs h
      exact ⟨b, c, us, by rw [List.getElem?_set_ne q]; exact k1, k2, Paired.mapP k3 fun _ _ r => st.rv hr r⟩
  · by_cases q : i = j
    · subst q; rw [List.getElem?_set_self il] at h; cases h
    · rw [List.getElem?_set_ne q] at h
      obtain ⟨c, k1, k2⟩ := hr.dct j t kvs h
      exact ⟨c, by rw [List.getElem?_set_ne q]; exact k1, k2.mono (fun _ e => e) fun _ _ r => st.dz hr r⟩
  · obtain ⟨h1, h2⟩ := hr.w b hb
    exact ⟨h1, fun z => h2 (sub b z)⟩
  · refine .lst e2 (fun z => ?_) (st.dzA hr (allD_dz e3 hd))
    rcases z with z | z
    · obtain ⟨j, hj, e⟩ := List.mem_iff_getElem.mp z
      obtain ⟨n1, n2⟩ := gt (j := j) (b := a) (by rw [List.getElem?_eq_getElem hj, e])
      exact n1 (hr.nd j i a n2 ha)
    · exact (hr.w a z).2 (List.mem_of_getElem? ha)
theorem HR.drop {i : Nat} {xs : List Vl} {a : Addr} (hr : HR K mg W H μ mh) (hi : mh[i]? = some (.lst xs)) (ha : μ[i]? = some (some a)) :
    Stp H μ H (μ.set i none) ∧ HR K mg W H (μ.set i none) (mh.set i .dead) ∧ (∀ {j : Nat} {b : Addr}, (μ.set i none)[j]? = some (some b) → j ≠ i ∧ μ[j]? = some (some b)) := by
  have il : i < mh.length := (List.getElem?_eq_some_iff.mp hi).1
  have im : i < μ.length := (List.getElem?_eq_some_iff.mp ha).1
  have sub : ∀ b, some b ∈ μ.set i none → some b ∈ μ := fun b h => by
    rcases List.mem_or_eq_of_mem_set h with q | q
    · exact q
    · cases q
  have st : Stp H μ H (μ.set i none) := by
    refine ⟨fun _ _ h _ _ => h, fun _ _ _ t => t, fun j e h => ?_, fun b h => .inl (sub b h), fun _ h => h⟩
    by_cases q : i = j
    · subst q; exact .inr (by rw [List.getElem?_set_self im])
    · exact .inl (by rw [List.getElem?_set_ne q]; exact h)
  have gt : ∀ {j : Nat} {b : Addr}, (μ.set i none)[j]? = some (some b) → j ≠ i ∧ μ[j]? = some (some b) := fun {j b} h => by
    by_cases q : i = j
    · subst q; rw [List.getElem?_set_self im] at h; cases h
    · rw [List.getElem?_set_ne q] at h; exact ⟨fun z => q z.symm, h⟩
  obtain ⟨_, a', vs, e1, e2, e3⟩ := hr.lst i xs hi
  rw [ha] at e1; cases e1
  refine ⟨st, ⟨by rw [List.length_set, List.length_set]; exact hr.len, fun j k b h1 h2 => hr.nd j k b (gt h1).2 (gt h2).2, fun j h => ?_, fun j zs h => ?_, fun j t kvs h => ?_, fun b hb => ?_, fun x hx c P e => st.tab x hx P (hr.tab x hx c P e)⟩, ?_⟩
  · by_cases q : i = j
    · subst q; rw [List.getElem?_set_self im]
    · rw [List.getElem?_set_ne q] at h ⊢
      exact hr.dead j h
  · by_cases q : i = j
    · subst q; rw [List.getElem?_set_self il] at h; cases h
    · rw [List.getElem?_set_ne q] at h
      obtain ⟨b, c, us, k1, k2, k3⟩ := hr.lst j zs h
      exact ⟨b, c, us, by rw [List.getElem?_set_ne q]; exact k1, k2, Paired.mapP k3 fun _ _ r => st.rv hr r⟩
  · by_cases q : i = j
    · subst q; rw [List.getElem?_set_self il] at h; cases h
    · rw [List.getElem?_set_ne q] at h
      obtain ⟨c, k1, k2⟩ := hr.dct j t kvs h
      exact ⟨c, by rw [List.getElem?_set_ne q]; exact k1, k2.mono (fun _ e => e) fun _ _ r => st.dz hr r⟩
  · obtain ⟨h1, h2⟩ := hr.w b hb
    exact ⟨h1, fun z => h2 (sub b z)⟩
  · exact fun {j b} h => gt h
theorem HR.killD {i : Nat} {kvs0 : List (PyData × PyData)} {a : Addr} (hr : HR K mg W H μ mh) (hi : mh[i]? = some (.dct false kvs0)) (ha : μ[i]? = some (some a)) :
    Stp H μ H (μ.set i none) ∧ HR K mg W H (μ.set i none) (mh.set i .dead) ∧ RV K mg W H (μ.set i none) (.d (.dict kvs0)) (.ref a) := by
  have il : i < mh.length := (List.getElem?_eq_some_iff.mp hi).1
  have im : i < μ.length := (List.getElem?_eq_some_iff.mp ha).1
  have sub : ∀ b, some b ∈ μ.set i none → some b ∈ μ := fun b h => by
    rcases List.mem_or_eq_of_mem_set h with q | q
    · exact q
    · cases q
  have st : Stp H μ H (μ.set i none) := by
    refine ⟨fun _ _ h _ _ => h, fun _ _ _ t => t, fun j e h => ?_, fun b h => .inl (sub b h), fun _ h => h⟩
    by_cases q : i = j
    · subst q; exact .inr (by rw [List.getElem?_set_self im])
    · exact .inl (by rw [List.getElem?_set_ne q]; exact h)
  have gt : ∀ {j : Nat} {b : Addr}, (μ.set i none)[j]? = some (some b) → j ≠ i ∧ μ[j]? = some (some b) := fun {j b} h => by
    by_cases q : i = j
    · subst q; rw [List.getElem?_set_self im] at h; cases h
    · rw [List.getElem?_set_ne q] at h; exact ⟨fun z => q z.symm, h⟩
  obtain ⟨a', e1, e2⟩ := hr.dct i false kvs0 hi
  rw [ha] at e1; cases e1
  obtain ⟨ks0, e2, e3⟩ : ∃ ks : List (L2.Key × V), H a = some (.dK ks) ∧ Paired (fun (p : PyData × PyData) (q : L2.Key × V) => keyK p.1 = some q.1 ∧ Dz K H (Mo μ W) q.2 p.2) kvs0 ks := by
    rcases e2 with ⟨_, ks, q1, q2⟩ | ⟨z, _⟩
    · exact ⟨ks, q1, q2⟩
    · cases z
  refine ⟨st, ⟨by rw [List.length_set, List.length_set]; exact hr.len, fun j k b h1 h2 => hr.nd j k b (gt h1).2 (gt h2).2, fun j h => ?_, fun j zs h => ?_, fun j t kvs h => ?_, fun b hb => ?_, fun x hx c P e => st.tab x hx P (hr.tab x hx c P e)⟩, ?_⟩
  · by_cases q : i = j
    · subst q; rw [List.getElem?_set_self im]
    · rw [List.getElem?_set_ne q] at h ⊢
      exact hr.dead j h
  · by_cases q : i = j
    · subst q; rw [List.getElem?_set_self il] at h; cases h
    · rw [List.getElem?_set_ne q] at h
      obtain ⟨b, c, us, k1, k2, k3⟩ := hr.lst j zs h
      exact ⟨b, c, us, by rw [List.getElem?_set_ne q]; exact k1, k2, Paired.mapP k3 fun _ _ r => st.rv hr r⟩
  · by_cases q : i = j
    · subst q; rw [List.getElem?_set_self il] at h; cases h
    · rw [List.getElem?_set_ne q] at h
      obtain ⟨c, k1, k2⟩ := hr.dct j t kvs h
      exact ⟨c, by rw [List.getElem?_set_ne q]; exact k1, k2.mono (fun _ e => e) fun _ _ r => st.dz hr r⟩
  · obtain ⟨h1, h2⟩ := hr.w b hb
    exact ⟨h1, fun z => h2 (sub b z)⟩
  · refine .dct e2 (fun z => ?_) (DzK.of (Paired.mapP e3 fun p q r => ⟨r.1, st.dz hr r.2⟩))
    rcases z with z | z
    · obtain ⟨j, hj, e⟩ := List.mem_iff_getElem.mp z
      obtain ⟨n1, n2⟩ := gt (j := j) (b := a) (by rw [List.getElem?_eq_getElem hj, e])
      exact n1 (hr.nd j i a n2 ha)
    · exact (hr.w a z).2 (List.mem_of_getElem? ha)
theorem RV.ref (hr : HR K mg W H μ mh) {i : Nat} {xs : List Vl} {v : V} (r : RV K mg W H μ (.r i) v) (h : mh[i]? = some (.lst xs)) : xs.all (below i) = true ∧ ∃ a vs, v = .ref a ∧ μ[i]? = some (some a) ∧ H a = some (.lst vs) ∧ RVs K mg W H μ xs vs := by
  obtain ⟨b, a, vs, e1, e2, e3⟩ := hr.lst i xs h
  exact ⟨b, a, vs, r.2 a e1, e1, e2, e3⟩
theorem itemsL_ok (hr : HR K mg W H μ mh) {x : Vl} {v : V} {xs : List Vl} (r : RV K mg W H μ x v) (h : itemsL x mh = some xs) : ∃ a vs, v = .ref a ∧ H a = some (.lst vs) ∧ RVs K mg W H μ xs vs := by
  cases x with
  | d x =>
    cases x with
    | list ds =>
      cases h
      cases r with
      | lst a b c => exact ⟨_, _, rfl, a, rvs_dz c⟩
    | _ => cases h
  | r i =>
    simp only [itemsL] at h
    split at h
    · rename_i ys e
      cases h
      obtain ⟨_, a, vs, e1, e2, e3, e4⟩ := RV.ref hr r e
      exact ⟨a, vs, e1, e3, e4⟩
    · cases h
  | g x => cases h
  | sc ns => cases h
  | x a => cases h
theorem items_ok (hr : HR K mg W H μ mh) {x : Vl} {v : V} {xs : List Vl} (r : RV K mg W H μ x v) (h : items x mh = some xs) : ∃ a vs, v = .ref a ∧ (SqL K H a vs ∨ SqT K H a vs) ∧ RVs K mg W H μ xs vs := by
  cases x with
  | d x =>
    cases x with
    | list ds =>
      cases h
      cases r with
      | lst a b c => exact ⟨_, _, rfl, .inl (SqL.of a), rvs_dz c⟩
    | tuple ds =>
      cases h
      cases r with
      | tupA a c => exact ⟨_, _, rfl, .inr (tsq a), rvs_dz c⟩
    | _ => cases h
  | r i =>
    simp only [items] at h
    split at h
    · rename_i ys e
      cases h
      obtain ⟨_, a, vs, e1, e2, e3, e4⟩ := RV.ref hr r e
      exact ⟨a, vs, e1, .inl (SqL.of e3), e4⟩
    · cases h
  | g x => cases h
  | sc ns => cases h
  | x a => cases h
theorem items_okT (hr : HR K mg W H μ mh) {x : Vl} {v : V} {xs : List Vl} (r : RV K mg W H μ x v) (h : items x mh = some xs) : ∃ a vs, v = .ref a ∧ (SqL K H a vs ∨ TAt K H a vs) ∧ RVs K mg W H μ xs vs := by
  cases x with
  | d x =>
    cases x with
    | list ds =>
      cases h
      cases r with
      | lst a b c => exact ⟨_, _, rfl, .inl (SqL.of a), rvs_dz c⟩
    | tuple ds =>
      cases h
      cases r with
      | tupA a c => exact ⟨_, _, rfl, .inr a, rvs_dz c⟩
    | _ => cases h
  | r i =>
    simp only [items] at h
    split at h
    · rename_i ys e
      cases h
      obtain ⟨_, a, vs, e1, e2, e3, e4⟩ := RV.ref hr r e
      exact ⟨a, vs, e1, .inl (SqL.of e3), e4⟩
    · cases h
  | g x => cases h
  | sc ns => cases h
  | x a => cases h
theorem cont_dp (hr : HR K mg W H μ mh) {x : Vl} {v : V} {d : PyData} (r : RV K mg W H μ x v) (h : cont x mh = some d) {n : Nat} (hk : okN n d = true) : Dp K H v d := by
  cases x with
  | d x => cases h; exact Dz.dp _ _ n hk r
  | r i =>
    simp only [cont] at h
    split at h
    · rename_i ys e
      obtain ⟨ds, h1, h2⟩ := Option.map_eq_some_iff.mp h
      subst h2
      obtain ⟨_, a, vs, e1, e2, e3, e4⟩ := RV.ref hr r e
      subst e1
      cases n with
      | zero => simp [okN] at hk
      | succ n => exact .lst (SqL.of e3) (DzA.dp _ _ n (by simpa [okN] using hk) (allD_dz e4 h1))
    · cases h
  | g x => cases h
  | sc ns => cases h
  | x a => cases h
theorem contS_dp (hr : HR K mg W H μ mh) {x : Vl} {v : V} {ds : List PyData} (r : RV K mg W H μ x v) (h : contS x mh = some ds) {n : Nat} (hk : ds.all (okN n) = true) : Dp K H v (.list ds) ∨ Dp K H v (.tuple ds) := by
  unfold contS at h
  split at h
  · rename_i e; cases h; exact .inl (cont_dp hr r e (n := n + 1) (by simpa [okN] using hk))
  · rename_i e; cases h; exact .inr (cont_dp hr r e (n := n + 1) (by simpa [okN] using hk))
  · cases h
theorem contS_dz (hr : HR K mg W H μ mh) {x : Vl} {v : V} {ds : List PyData} (r : RV K mg W H μ x v) (h : contS x mh = some ds) : ∃ a vs, v = .ref a ∧ (SqL K H a vs ∨ SqT K H a vs) ∧ DzA K H (Mo μ W) vs ds := by
  have q : ∃ xs, items x mh = some xs ∧ allD xs = some ds := by
    cases x with
    | d x =>
      cases x with
      | list es => cases h; exact ⟨_, rfl, allD_map _⟩
      | tuple es => cases h; exact ⟨_, rfl, allD_map _⟩
      | _ => cases h
    | r i =>
      simp only [contS, cont] at h
      split at h
      · rename_i ys e
        split at e
        · rename_i zs e2
          obtain ⟨es, h1, h2⟩ := Option.map_eq_some_iff.mp e
          cases h2; cases h
          exact ⟨zs, by simp only [items, e2], h1⟩
        · cases e
      · rename_i ys e
        split at e
        · obtain ⟨es, h1, h2⟩ := Option.map_eq_some_iff.mp e
          cases h2
        · cases e
      · cases h
    | g x => cases h
    | sc ns => cases h
    | x a => cases h
  obtain ⟨xs, h1, h2⟩ := q
  obtain ⟨a, vs, e1, e2, e3⟩ := items_ok hr r h1
  exact ⟨a, vs, e1, e2, allD_dz e3 h2⟩
end
end Ev

set_option Elab.async false
set_option linter.all false
set_option autoImplicit false
set_option maxRecDepth 100000
set_option maxHeartbeats 2000000
namespace Ev
open PySem PySem.Spec PyProof.Rows L2
open AutoSeq1 (wpAny_loadPart')
theorem int_declines_dict (b : Int) (u : Tok) (l : Addr) (es : Array DictEntry) (ep : Nat) (dd : Option Addr) (sl : Array (Option Value)) :
    Meets (Builtin.«int.__eq__» ⟨[.int b u, .ref l], []⟩) (fun _ R s => s.heap.get? l = some { cls := .type "dict", dict := dd, data := .dict es ep, slots := sl } ∧ R (.ok (.ret .notImplemented)) s) :=
  .of_wp fun prog w A R s h => by obtain ⟨hp, g, d, tk, os⟩ := s; obtain ⟨hl, h⟩ := h; wp_walk using wpAny_loadPart' hl, wpAny_load hl; exact ⟨_, rfl, h⟩
theorem dict_declines_int (b : Int) (u : Tok) (l : Addr) (es : Array DictEntry) (ep : Nat) (dd : Option Addr) (sl : Array (Option Value)) :
    Meets (Builtin.«dict.__eq__» ⟨[.ref l, .int b u], []⟩) (fun _ R s => s.heap.get? l = some { cls := .type "dict", dict := dd, data := .dict es ep, slots := sl } ∧ R (.ok (.ret .notImplemented)) s) :=
  .of_wp fun prog w A R s h => by obtain ⟨hp, g, d, tk, os⟩ := s; obtain ⟨hl, h⟩ := h; have f1 : isSubtype (.type "int") (.type "dict") = pure false := F.sub_int_dict; wp_walk using wpAny_loadPart' hl, wpAny_load hl; exact ⟨_, rfl, h⟩
section
variable {A : Around} {s : Shared}
open PySem.SeqAt
theorem rc_int_dict {l : Addr} {o : Obj} {es : Array DictEntry} {ep : Nat} (b : Int) (u : Tok) (ho : s.heap.get? l = some o) (hc : o.cls = .type "dict") (hd : o.data = .dict es ep) (hu : A.units < cLine) : RcAt A s (.int b u) (.ref l) false := fun prog w E Q h => by
  obtain ⟨cls, dd, data, sl⟩ := o
  simp only at hc hd
  subst hc hd
  exact rc_eq_decline_or (k := false) (typeIs_int s b u) ⟨_, ho, rfl⟩ (by decide) F.sub_dict_int F.slot_int_eq F.slot_dict_eq_refl
    (fun _ hq => call_meets F.slot_int_eq (typeIs_int s b u) F.entry_int_eq (F.args_int_eq_2 _ _) (int_declines_dict b u l es ep dd sl) ⟨ho, hq⟩)
    (fun _ hq => call_meets F.slot_dict_eq_refl ⟨_, ho, rfl⟩ F.entry_dict_eq (F.args_dict_eq_2 _ _) (dict_declines_int b u l es ep dd sl) ⟨ho, hq⟩)
    (fun _ hq => wpAny_of_eq (rfl : isSame (.int b u) (.ref l) = pure false) hq) (.inr hu) h
theorem eq_int_dict {l : Addr} {o : Obj} {es : Array DictEntry} {ep : Nat} (b : Int) (u : Tok) (ho : s.heap.get? l = some o) (hc : o.cls = .type "dict") (hd : o.data = .dict es ep) (hu : A.units < cLine) : EqAt A s (.int b u) (.ref l) false := fun prog w E Q h => by
  unfold eqBool
  refine wpAny_holding ?_
  refine wpAny_ite_split (fun hab => absurd (eq_of_beq hab) nofun) (fun _ => ?_)
  exact wpAny_bind (rc_int_dict b u ho hc hd hu prog w E _ (wpAny_truthy_bool h))
end
section
variable {X : Cx} {pins : List (Addr × Obj)} {σ : L2.St} {H : Hp} {s : Shared} {A : Around}
open PySem.SeqAt
theorem dzA_len {K : PySem.W.Frag} {B : Addr → Prop} : ∀ {vs : List V} {ds : List PyData}, DzA K H B vs ds → ds.length = vs.length
  | _, _, .nil => rfl
  | _, _, .cons _ t => by rw [List.length_cons, List.length_cons, dzA_len t]
theorem dzA_get {K : PySem.W.Frag} {B : Addr → Prop} : ∀ {vs : List V} {ds : List PyData} {j : Nat} {d : PyData}, DzA K H B vs ds → ds[j]? = some d → ∃ v, vs[j]? = some v ∧ Dz K H B v d
  | _, _, _, _, .nil, h => by simp at h
  | _, _, 0, _, .cons r _, h => by simp at h; subst h; exact ⟨_, rfl, r⟩
  | _, _, j + 1, _, .cons _ t, h => by
    obtain ⟨v, e, r⟩ := dzA_get t (by simpa using h)
    exact ⟨v, by simpa using e, r⟩
theorem eqvAll_range : ∀ ds es : List PyData, PyData.eqvAll ds es = ((List.range (min ds.length es.length)).all (fun j => PyData.eqv (ds.getD j .none) (es.getD j .none)) && ds.length == es.length)
  | [], [] => rfl
  | [], _ :: _ => rfl
  | _ :: _, [] => rfl
  | d :: ds, e :: es => by
    rw [PySem.W.eqv_all_cons, eqvAll_range ds es]
    have e1 : min (d :: ds).length (e :: es).length = min ds.length es.length + 1 := by simp only [List.length_cons]; omega
    rw [e1, List.range_succ_eq_map, List.all_cons, List.all_map, Bool.and_assoc]
    have e2 : ((d :: ds).length == (e :: es).length) = (ds.length == es.length) := by
      rw [List.length_cons, List.length_cons]
      by_cases h : ds.length = es.length <;> simp [h]
    rw [e2]
    rfl
theorem vals_inj : ∀ {xs ys : List V} {us : List Value}, Vals xs us → Vals ys us → xs = ys
  | _, _, _, .nil, .nil => rfl
  | _, _, _, .cons r t, .cons r2 t2 => by rw [r.inj r2, vals_inj t t2]
/-- the module's own objects are not tracked -/
def KFree (K : PySem.W.Frag) (H : Hp) : Prop := ∀ a o, K.lookup a = some o → H a = none
theorem TAt.uniq {K : PySem.W.Frag} {H : Hp} {a : Addr} {xs ys : List V} (hK : KFree K H) (h1 : TAt K H a xs) (h2 : TAt K H a ys) : xs = ys := by
  rcases h1 with h1 | ⟨_, o, its, n, l, _, d, _, v⟩ <;> rcases h2 with h2 | ⟨_, o2, its2, n2, l2, _, d2, _, v2⟩
  · rw [h1] at h2; cases h2; rfl
  · rw [hK _ _ l2] at h1; cases h1
  · rw [hK _ _ l] at h2; cases h2
  · rw [l] at l2; cases l2
    rw [d] at d2; cases d2
    exact vals_inj v v2
theorem Inv.kfree {X : Cx} {pins : List (Addr × Obj)} {σ : L2.St} {H : Hp} {s : Shared} (I : L2.Inv X pins σ H s) : KFree X.K H := fun a o l => (I.bs a o (I.mod.kin a o l)).2
theorem same_tint {K : PySem.W.Frag} {B B' : Addr → Prop} (hK : KFree K H) : ∀ (n : Nat) (d1 d2 : PyData) (v : V), tEq n d1 d2 = true → Dz K H B v d1 → Dz K H B' v d2 → PyData.eqv d1 d2 = true := by
  intro n
  induction n with
  | zero =>
    intro d1 d2 v ht h1 h2
    cases h1 with
    | int i => cases h2; simp [PyData.eqv]
    | _ => cases ht
  | succ n ih =>
    have key : ∀ (ds es : List PyData) (xs : List V), (∀ p ∈ ds.zip es, tEq n p.1 p.2 = true) → DzA K H B xs ds → DzA K H B' xs es → PyData.eqvAll ds es = true := by
      intro ds
      induction ds with
      | nil => intro es xs _ c1 c2; cases c1; cases c2; rfl
      | cons d ds ih2 =>
        intro es xs ht c1 c2
        cases c1 with
        | cons r t =>
          cases c2 with
          | cons r2 t2 =>
            rw [PySem.W.eqv_all_cons, ih _ _ _ (ht _ List.mem_cons_self) r r2, ih2 _ _ (fun p hp => ht p (List.mem_cons_of_mem _ hp)) t t2]
            rfl
    intro d1 d2 v ht h1 h2
    cases h1 with
    | int i => cases h2; simp [PyData.eqv]
    | @tupA a xs ds e1 c1 =>
      cases h2 with
      | @tupA _ ys es e2 c2 =>
        have e3 := e1.uniq hK e2
        cases e3
        simp only [tEq, List.all_eq_true] at ht
        show PyData.eqvAll ds es = true
        exact key ds es xs ht c1 c2
      | _ => cases ht
    | _ => cases ht
theorem eqv_int_dict (i : Int) (kvs : List (PyData × PyData)) : PyData.eqv (.int i) (.dict kvs) = false := rfl
theorem eq_tint (I : Inv X pins σ H s) {B B' : Addr → Prop} : ∀ (n : Nat) (A : Around) (d1 d2 : PyData) (v1 v2 : V) (u1 u2 : Value), tEq n d1 d2 = true → Dz X.K H B v1 d1 → Dz X.K H B' v2 d2 → RelV v1 u1 → RelV v2 u2 → A.units + n < cLine → EqAt A s u1 u2 (PyData.eqv d1 d2) := by
  have int : ∀ (A : Around) (i : Int) (d2 : PyData) (t : Tok) (v2 : V) (u2 : Value), Dz X.K H B' v2 d2 → RelV v2 u2 → A.units < cLine → EqAt A s (.int i t) u2 (PyData.eqv (.int i) d2) := by
    intro A i d2 t v2 u2 h2 r2 hu
    cases h2 with
    | non => cases r2; exact EqAt.int_none i t
    | bl b => cases r2; exact EqAt.int_bool i t b
    | int j => obtain ⟨t', rfl⟩ := r2; exact EqAt.int_int i t j t'
    | str x => obtain ⟨t', rfl⟩ := r2; exact EqAt.int_str i t x t'
    | lst a b c =>
      cases r2
      obtain ⟨its, rv, pl, hz⟩ := I.list (SqL.of a)
      exact EqAt.int_list i t pl.isList hu
    | tupA a c =>
      cases r2
      obtain ⟨its, rv, pl, hz⟩ := I.tuple (tsq a)
      exact EqAt.int_tuple i t pl hu
    | dct a b c =>
      cases r2
      obtain ⟨z, lo, vs, rk, hd⟩ := (show ObjOk X.prog X.w H s.heap _ (.dK _) from I.hok _ _ a)
      obtain ⟨ep, hat⟩ := hd.dictAt
      obtain ⟨o, es, ho, hx, hdt, _⟩ := hat
      exact eq_int_dict i t ho hx.1 hdt hu
  intro n
  induction n with
  | zero =>
    intro A d1 d2 v1 v2 u1 u2 ht h1 h2 r1 r2 hu
    cases h1 with
    | int i => obtain ⟨t, rfl⟩ := r1; exact int A i d2 t v2 u2 h2 r2 (by omega)
    | _ => cases ht
  | succ n ih =>
    intro A d1 d2 v1 v2 u1 u2 ht h1 h2 r1 r2 hu
    cases h1 with
    | int i => obtain ⟨t, rfl⟩ := r1; exact int A i d2 t v2 u2 h2 r2 (by omega)
    | @tupA a xs ds e1 c1 =>
      cases h2 with
      | @tupA b ys es e2 c2 =>
        cases r1
        cases r2
        by_cases hab : a = b
        · subst hab
          have e3 := e1.uniq (Inv.kfree I) e2
          cases e3
          rw [same_tint (Inv.kfree I) (n + 1) (.tuple ds) (.tuple es) (.ref a) ht (Dz.tupA e1 c1) (Dz.tupA e2 c2)]
          exact EqAt.same _
        · refine EqAt.of_refs hab ?_
          obtain ⟨its, rv, pl, hz⟩ := I.tuple (tsq e1)
          obtain ⟨its2, rv2, pl2, hz2⟩ := I.tuple (tsq e2)
          have l1 := dzA_len c1
          have l2 := dzA_len c2
          have m1 := rv.length
          have m2 := rv2.length
          have ee : PyData.eqv (.tuple ds) (.tuple es) = ((List.range (min its.toArray.size its2.toArray.size)).all (fun j => PyData.eqv (ds.getD j .none) (es.getD j .none)) && its.toArray.size == its2.toArray.size) := by
            show PyData.eqvAll ds es = _
            rw [eqvAll_range, List.size_toArray, List.size_toArray, ← m1, ← m2, ← l1, ← l2]
          rw [ee]
          refine RcAt.tuples pl pl2 (by omega) fun j h1 h2 => ?_
          rw [List.size_toArray] at h1 h2
          have g1 : ds[j]? = some (ds[j]'(by omega)) := List.getElem?_eq_getElem _
          have g2 : es[j]? = some (es[j]'(by omega)) := List.getElem?_eq_getElem _
          obtain ⟨x, gx, dx⟩ := dzA_get c1 g1
          obtain ⟨y, gy, dy⟩ := dzA_get c2 g2
          obtain ⟨ux, qx, rx⟩ := rv.get gx
          obtain ⟨uy, qy, ry⟩ := rv2.get gy
          have k1 : its.toArray[j] = ux := by
            rw [List.getElem_toArray]
            rw [List.getElem?_eq_getElem h1] at qx; exact Option.some.inj qx
          have k2 : its2.toArray[j] = uy := by
            rw [List.getElem_toArray]
            rw [List.getElem?_eq_getElem h2] at qy; exact Option.some.inj qy
          have k3 : ds.getD j .none = ds[j]'(by omega) := by rw [List.getD_eq_getElem?_getD, g1]; rfl
          have k4 : es.getD j .none = es[j]'(by omega) := by rw [List.getD_eq_getElem?_getD, g2]; rfl
          rw [k1, k2, k3, k4]
          refine ih A.in1 _ _ _ _ _ _ ?_ dx dy rx ry (by show A.units + 1 + n < cLine; omega)
          simp only [tEq, List.all_eq_true] at ht
          refine ht (ds[j]'(by omega), es[j]'(by omega)) ?_
          have : (ds.zip es)[j]? = some (ds[j]'(by omega), es[j]'(by omega)) := by
            rw [List.getElem?_zip_eq_some]; exact ⟨g1, g2⟩
          exact List.mem_of_getElem? this
      | _ => cases ht
    | _ => cases ht
theorem tint_fun {K : PySem.W.Frag} {B B' : Addr → Prop} (hK : KFree K H) : ∀ (n : Nat) (d1 d2 : PyData) (v : V), tIn n d1 = true → Dz K H B v d1 → Dz K H B' v d2 → d1 = d2 := by
  intro n
  induction n with
  | zero =>
    intro d1 d2 v ht h1 h2
    cases h1 with
    | int i => cases h2; rfl
    | _ => cases ht
  | succ n ih =>
    have key : ∀ (ds es : List PyData) (xs : List V), (∀ d ∈ ds, tIn n d = true) → DzA K H B xs ds → DzA K H B' xs es → ds = es := by
      intro ds
      induction ds with
      | nil => intro es xs _ c1 c2; cases c1; cases c2; rfl
      | cons d ds ih2 =>
        intro es xs ht c1 c2
        cases c1 with
        | cons r t =>
          cases c2 with
          | cons r2 t2 => rw [ih _ _ _ (ht d List.mem_cons_self) r r2, ih2 _ _ (fun p hp => ht p (List.mem_cons_of_mem _ hp)) t t2]
    intro d1 d2 v ht h1 h2
    cases h1 with
    | int i => cases h2; rfl
    | @tupA a xs ds e1 c1 =>
      simp only [tIn, List.all_eq_true] at ht
      cases h2 with
      | tupA e2 c2 =>
        have e3 := e1.uniq hK e2
        cases e3
        rw [key _ _ _ ht c1 c2]
      | lst e2 _ _ =>
        rcases e1 with e1 | ⟨_, o, its, n, l, _⟩
        · rw [e1] at e2; cases e2
        · rw [hK _ _ l] at e2; cases e2
      | dct e2 _ _ =>
        rcases e1 with e1 | ⟨_, o, its, n, l, _⟩
        · rw [e1] at e2; cases e2
        · rw [hK _ _ l] at e2; cases e2
    | _ => cases ht
open Classical in
theorem in_tint (I : Inv X pins σ H s) {B B' : Addr → Prop} {n : Nat} {a : Addr} {vs : List V} {ys : List PyData} {x : V} {da : PyData} {ux : Value} (hl : SqL X.K H a vs ∨ SqT X.K H a vs) (hd : DzA X.K H B vs ys) (hx : Dz X.K H B' x da) (rx : RelV x ux) (hi : ∀ y ∈ ys, tIn n y = true ∧ tEq n y da = true) (hu : X.A.units + 1 + n < cLine) {Q : Value → Shared → Prop} {E : Value → Shared → Prop} :
    (Q (.bool (anyEqv ys da)) s → wpAny (model X.prog X.w) X.A (compareOp .In ux (.ref a)) Q E s) ∧ (Q (.bool (!anyEqv ys da)) s → wpAny (model X.prog X.w) X.A (compareOp .NotIn ux (.ref a)) Q E s) := by
  obtain ⟨its, rv, pl⟩ : ∃ its : List Value, Vals vs its ∧ (s.heap.IsList a its.toArray ∨ s.heap.IsTuple a its.toArray) := by
    rcases hl with hl | hl
    · obtain ⟨its, rv, pl, _⟩ := I.list hl
      exact ⟨its, rv, .inl pl.isList⟩
    · obtain ⟨its, rv, pl, _⟩ := I.tuple hl
      exact ⟨its, rv, .inr pl⟩
  have at_ : ∀ {j : Nat} {u : Value}, its[j]? = some u → ∃ v d, ys[j]? = some d ∧ Dz X.K H B v d ∧ RelV v u := fun {j u} e => by
    have hj : j < its.length := (List.getElem?_eq_some_iff.mp e).1
    have hy : ys[j]? = some (ys[j]'(by have := rv.length; have := dzA_len hd; omega)) := List.getElem?_eq_getElem _
    obtain ⟨v, gv, dv⟩ := dzA_get hd hy
    obtain ⟨u', gu, ru⟩ := rv.get gv
    rw [e] at gu; cases gu
    exact ⟨v, _, hy, dv, ru⟩
  let e : Value → Bool := fun u => decide (∃ (j : Nat) (d : PyData), its[j]? = some u ∧ ys[j]? = some d ∧ PyData.eqv d da = true)
  have he : ∀ y, y ∈ its.toArray → EqAt X.A.in1 s y ux (e y) := fun u hu' => by
    obtain ⟨j, hj⟩ := List.mem_iff_getElem?.mp (List.mem_toArray.mp hu')
    obtain ⟨v, d, gd, dv, ru⟩ := at_ hj
    obtain ⟨i1, i2⟩ := hi d (List.mem_of_getElem? gd)
    have q := eq_tint I n X.A.in1 d da v x u ux i2 dv hx ru rx (by show X.A.units + 1 + n < cLine; exact hu)
    have ee : e u = PyData.eqv d da := by
      cases h : PyData.eqv d da with
      | true => exact decide_eq_true ⟨j, d, hj, gd, h⟩
      | false =>
        refine decide_eq_false ?_
        rintro ⟨j2, d2, hj2, gd2, h2⟩
        obtain ⟨v2, d2', gd2', dv2, ru2⟩ := at_ hj2
        rw [gd2] at gd2'; cases gd2'
        have ev := ru.inj ru2
        subst ev
        rw [tint_fun (Inv.kfree I) n d d2 v i1 dv dv2, h2] at h
        cases h
    rw [ee]; exact q
  have ea : its.toArray.any e = anyEqv ys da := by
    rw [List.any_toArray]
    unfold anyEqv
    rw [Bool.eq_iff_iff, List.any_eq_true, List.any_eq_true]
    constructor
    · rintro ⟨u, hu', h⟩
      obtain ⟨j, d, _, gd, h2⟩ := of_decide_eq_true h
      exact ⟨d, List.mem_of_getElem? gd, h2⟩
    · rintro ⟨d, hd', h2⟩
      obtain ⟨j, gj⟩ := List.mem_iff_getElem?.mp hd'
      have hj : j < ys.length := (List.getElem?_eq_some_iff.mp gj).1
      have gi : its[j]? = some (its[j]'(by have := rv.length; have := dzA_len hd; omega)) := List.getElem?_eq_getElem _
      exact ⟨_, List.mem_of_getElem? gi, decide_eq_true ⟨j, d, gi, gj, h2⟩⟩
  rcases pl with pl | pl
  · exact ⟨fun q => in_listAt e pl he (by rw [ea]; exact q), fun q => notIn_listAt e pl he (by rw [ea]; exact q)⟩
  · exact ⟨fun q => in_tupleAt e pl he (by rw [ea]; exact q), fun q => notIn_tupleAt e pl he (by rw [ea]; exact q)⟩
end
end Ev

set_option Elab.async false
set_option linter.all false
set_option autoImplicit false
set_option maxRecDepth 100000
set_option maxHeartbeats 2000000
namespace Ev
open PySem PySem.Spec PyProof.Rows L2

/-! ### t * 1 -/
theorem tuple_mul1 (l : Addr) (items : Array Value) (n : Nat) (dd : Option Addr) (sl : Array (Option Value)) (u : Tok) :
    Meets (Builtin.«tuple.__mul__» ⟨[.ref l, .int 1 u], []⟩) (fun _ R s => s.heap.get? l = some { cls := .type "tuple", dict := dd, data := .seq items n, slots := sl } ∧ R (.ok (.ret (Value.ref l))) s) :=
  .of_wp fun prog w A R s h => by
    obtain ⟨hp, g, d, tk, os⟩ := s
    obtain ⟨hl, h⟩ := h
    have f1 := AutoSeq1.idx_int
    have c1 : (items.isEmpty || (1 : Int) == 1) = true := by rw [show ((1 : Int) == 1) = true from rfl, Bool.or_true]
    wp_walk using wpAny_loadPart' hl
    exact ⟨_, rfl, h⟩
def rRep1 (K : PySem.W.Frag) : R2 := fun x y H Q => ∃ l xs, x = .ref l ∧ y = .int 1 ∧ SqT K H l xs ∧ Q (.ref l) H
theorem op_rep1 {X : Cx} : OpR X (binaryOp .Mult) (rRep1 X.K) := by
  intro pins s σ H x y v u Q I rx ry h
  obtain ⟨l, xs, rfl, rfl, hT, q⟩ := h
  cases rx
  obtain ⟨t, rfl⟩ := ry
  obtain ⟨its, r, ⟨⟨cls, dd, data, sl⟩, ho, hc, n, hd⟩, hs⟩ := I.tuple hT
  simp only at hc hd
  subst hc hd
  exact wpAny_binaryOp_repeat_ref (T := "tuple") (U := "int") (by decide) ⟨_, ho, rfl⟩ (fun s' => typeIs_int s' 1 t) noFill_tuple_mul F.fills_int_mul F.slot_int_rmul repeat_tuple F.slot_int_index.lookup
    (call_meets F.slot_int_rmul (typeIs_int s 1 t) F.entry_int_rmul (F.args_int_rmul_2 _ _) (int_rmul_tuple 1 t l its.toArray n dd sl)
      ⟨ho, rfl, ⟨_, ho, rfl⟩, call_meets F.slot_tuple_mul ⟨_, ho, rfl⟩ F.entry_tuple_mul (F.args_tuple_mul_2 _ _) (tuple_mul1 l its.toArray n dd sl t) ⟨ho, .ref l, H, I, rfl, q⟩⟩)
/-! ### data: depth -/
mutual
theorem okN_plain : ∀ (d : PyData) (n : Nat), okN n d = true → d.plain = true ∧ d.depth ≤ n
  | .none, n, _ => by simp [PyData.plain, PyData.depth]
  | .bool b, n, _ => by simp [PyData.plain, PyData.depth]
  | .int i, n, _ => by simp [PyData.plain, PyData.depth]
  | .str x, n, _ => by simp [PyData.plain, PyData.depth]
  | .list xs, 0, h => by simp [okN] at h
  | .tuple xs, 0, h => by simp [okN] at h
  | .list xs, n + 1, h => by
    have q := okN_plainAll xs n (by rw [okN] at h; exact h)
    simp only [PyData.plain, PyData.depth]
    exact ⟨q.1, by omega⟩
  | .tuple xs, n + 1, h => by
    have q := okN_plainAll xs n (by rw [okN] at h; exact h)
    simp only [PyData.plain, PyData.depth]
    exact ⟨q.1, by omega⟩
  | .dict kvs, n, h => by cases n <;> simp [okN] at h
theorem okN_plainAll : ∀ (xs : List PyData) (n : Nat), xs.all (okN n) = true → PyData.plainAll xs = true ∧ PyData.depthAll xs ≤ n
  | [], n, _ => by simp [PyData.plainAll, PyData.depthAll]
  | x :: xs, n, h => by
    rw [List.all_cons, Bool.and_eq_true] at h
    have q1 := okN_plain x n h.1
    have q2 := okN_plainAll xs n h.2
    simp only [PyData.plainAll, PyData.depthAll]
    exact ⟨by rw [q1.1, q2.1]; rfl, by omega⟩
end
theorem okN_tuple {n : Nat} {xs : List PyData} (h : okN (n + 1) (.tuple xs) = true) : xs.all (okN n) = true := by rw [okN] at h; exact h

section
variable (X : Cx)
/-- two values, by the evaluator -/
def rOf2 (opv : Vl → Vl → MH → Res Vl) : R2 := fun v u H Q => ∃ W μ mh x y z mh', hR X W H μ mh ∧ rV X W H μ x v ∧ rV X W H μ y u ∧ opv x y mh = .ok z mh' ∧
  ∀ w H' μ', Stp H μ H' μ' → hR X W H' μ' mh' → rV X W H' μ' z w → Q w H'
def rOfC (op : Cop) : R2 := fun v u H Q => ∃ W μ mh x y c, hR X W H μ mh ∧ rV X W H μ x v ∧ rV X W H μ y u ∧ cmpV op x y mh = some c ∧ Q (.bl c) H
/-- values in, a value out -/
def rOfL (opv : List Vl → MH → Res Vl) : List V → Hp → VK → Prop := fun vs H Q => ∃ W μ mh xs z mh', hR X W H μ mh ∧ rVs X W H μ xs vs ∧ opv xs mh = .ok z mh' ∧
  ∀ w H' μ', Stp H μ H' μ' → hR X W H' μ' mh' → rV X W H' μ' z w → Q w H'
def rOfM (opv : Vl → List Vl → MH → Res Vl) : V → List V → Hp → VK → Prop := fun v vs H Q => ∃ W μ mh x xs z mh', hR X W H μ mh ∧ rV X W H μ x v ∧ rVs X W H μ xs vs ∧ opv x xs mh = .ok z mh' ∧
  ∀ w H' μ', Stp H μ H' μ' → hR X W H' μ' mh' → rV X W H' μ' z w → Q w H'
end
/-- how much room the data want -/
structure Rm (X : Cx) : Prop where
  un : X.A.units + 200 < cLine
  hd : X.calm = true → X.A.handled = none
section
variable {X : Cx} {W : List Addr} {H : Hp} {μ : Mu} {mh mh' : MH} {z : Vl} {Q : VK}
theorem new_tup {vs : List V} {ds : List PyData} {p : Addr} (hr : hR X W H μ mh) (hp : H p = none) (hd : DzA X.K H (Mo μ W) vs ds) (q : ∀ w H' μ', Stp H μ H' μ' → hR X W H' μ' mh → rV X W H' μ' (.d (.tuple ds)) w → Q w H') : Q (.ref p) (upd H p (.tup vs)) := by
  obtain ⟨st, hr'⟩ := HR.fresh (o := .tup vs) hr hp
  exact q _ _ μ st hr' (.tup upd_same (st.dzA hr hd))
theorem notMo (hr : hR X W H μ mh) {p : Addr} (hp : H p = none) : ¬ Mo μ W p := fun z => z.elim (hr.notin hp) (hr.notw hp)
theorem new_lst {vs : List V} {ds : List PyData} {p : Addr} (hr : hR X W H μ mh) (hp : H p = none) (hd : DzA X.K H (Mo μ W) vs ds) (q : ∀ w H' μ', Stp H μ H' μ' → hR X W H' μ' mh → rV X W H' μ' (.d (.list ds)) w → Q w H') : Q (.ref p) (upd H p (.lst vs)) := by
  obtain ⟨st, hr'⟩ := HR.fresh (o := .lst vs) hr hp
  exact q _ _ μ st hr' (.lst upd_same (notMo hr hp) (st.dzA hr hd))
/-- a new list as the evaluator makes it -/
theorem new_mkl {mk : Bool} {xs : List Vl} {vs : List V} {p : Addr} (hr : hR X W H μ mh) (hp : H p = none) (rv : rVs X W H μ xs vs) (e : mkl mk xs mh = .ok z mh') (q : ∀ w H' μ', Stp H μ H' μ' → hR X W H' μ' mh' → rV X W H' μ' z w → Q w H') :
    Q (.ref p) (upd H p (.lst vs)) := by
  unfold mkl at e
  split at e
  · split at e
    · rename_i hb
      cases e
      obtain ⟨st, hr'⟩ := HR.grow hr hp rv hb
      refine q _ _ _ st hr' ⟨by rw [List.length_append, hr.len]; simp, fun a ea => ?_⟩
      rw [← hr.len] at ea
      simp at ea
      rw [ea]
    · cases e
  · split at e
    · rename_i ds hd
      cases e
      exact new_lst hr hp (allD_dz rv hd) q
    · cases e
theorem mkt_ok {xs : List Vl} {vs : List V} (rv : rVs X W H μ xs vs) (e : mkt xs mh = .ok z mh') : ∃ ds, z = .d (.tuple ds) ∧ mh' = mh ∧ DzA X.K H (Mo μ W) vs ds := by
  unfold mkt at e
  split at e
  · rename_i ds hd
    cases e
    exact ⟨ds, rfl, rfl, allD_dz rv hd⟩
  · cases e
theorem DzA.rep {K : PySem.W.Frag} {B : Addr → Prop} {vs : List V} {ds : List PyData} (h : DzA K H B vs ds) : ∀ k : Nat, DzA K H B (List.replicate k vs).flatten (List.replicate k ds).flatten
  | 0 => .nil
  | k + 1 => by
    rw [List.replicate_succ, List.replicate_succ, List.flatten_cons, List.flatten_cons]
    exact DzA.app h (DzA.rep h k)
theorem RVs.rep {vs : List V} {ds : List Vl} (h : rVs X W H μ ds vs) : ∀ k : Nat, rVs X W H μ (List.replicate k ds).flatten (List.replicate k vs).flatten
  | 0 => .nil
  | k + 1 => by
    rw [List.replicate_succ, List.replicate_succ, List.flatten_cons, List.flatten_cons]
    exact RVs.app h (RVs.rep h k)
where
  RVs.app {X : Cx} {W : List Addr} {H : Hp} {μ : Mu} : ∀ {xs ys : List Vl} {us ws : List V}, rVs X W H μ xs us → rVs X W H μ ys ws → rVs X W H μ (xs ++ ys) (us ++ ws)
  | _, _, _, _, .nil, s => s
  | _, _, _, _, .cons r t, s => .cons r (RVs.app t s)
theorem RVs.app : ∀ {xs ys : List Vl} {us ws : List V}, rVs X W H μ xs us → rVs X W H μ ys ws → rVs X W H μ (xs ++ ys) (us ++ ws)
  | _, _, _, _, .nil, s => s
  | _, _, _, _, .cons r t, s => .cons r (RVs.app t s)
theorem szLine : sz = sizeLine := by rw [sizeLine_eq]

theorem small_iff {i : Int} : small64 i = true ↔ (-(2 ^ 64) < i ∧ i < 2 ^ 64) := by unfold small64; exact decide_eq_true_iff
theorem op_fdivB {X : Cx} : OpR X (binaryOp .FloorDiv) (rI (fun _ j => j ≠ 0 ∧ j.natAbs < 2 ^ 250) fun i j => .int (i.fdiv j)) := opI fun _ _ _ _ _ _ _ hc q => floordiv_int hc.1 q (.inl (PyProof.noPylong_of_log2 (Nat.lt_trans (PySem.Flt.log2_lt_of (by decide) hc.2) (by decide))))
/-- an operator of the syntax -/
def opOf : Bop → Operator
  | .add => .Add | .sub => .Sub | .mul => .Mult | .fdiv => .FloorDiv | .mod => .Mod | .pow => .Pow | .shl => .LShift | .shr => .RShift | .band => .BitAnd | .bxor => .BitXor | .bor => .BitOr
theorem fst_int {x : Vl} {v : V} {i : Int} (e : x = .d (.int i)) (r : rV X W H μ x v) : v = .int i := by subst e; cases r; rfl
theorem mulOk_bits {i j : Int} (h1 : i.natAbs < 2 ^ 250) (h2 : j.natAbs < 2 ^ 250) : IntMulOk i j := by
  have b1 : Builtin.Int.intBits i ≤ 250 := intBits_le_iff.mpr h1
  have b2 : Builtin.Int.intBits j ≤ 250 := intBits_le_iff.mpr h2
  have b3 : Builtin.Int.intTooBig (Builtin.Int.intBits i + Builtin.Int.intBits j) = false := by
    unfold Builtin.Int.intTooBig
    have : (bitsLine : Nat) = 2 ^ 27 := rfl
    rw [this]
    exact decide_eq_false (by omega)
  unfold IntMulOk
  rw [b3]
  simp
theorem op_mulW : OpR X (binaryOp .Mult) (rI IntMulOk fun i j => .int (i * j)) := opI fun _ _ _ _ _ _ _ hc q => mul_int q hc
theorem op_bin (op : Bop) (mk : Bool) : OpR X (binaryOp (opOf op)) (rOf2 X (binV op mk)) := by
  intro pins s σ H x y v u Q I rx ry h
  obtain ⟨W, μ, mh, a, b, z, mh', hr, ra, rb, e, q⟩ := h
  unfold binV at e
  split at e
  · rename_i i j
    split at e
    · rename_i k hk
      cases e
      cases ra; cases rb
      have fin : ∀ w, w = V.int k → Q w H := fun w ew => q w H μ (Stp.refl H μ) hr (by rw [ew]; exact Dz.int k)
      cases op with
      | add => cases hk; exact op_add pins s σ H _ _ v u Q I rx ry ⟨i, j, rfl, rfl, fin _ rfl⟩
      | sub => cases hk; exact op_sub pins s σ H _ _ v u Q I rx ry ⟨i, j, rfl, rfl, fin _ rfl⟩
      | mul =>
        simp only [binI] at hk
        split at hk
        · rename_i hc
          cases hk
          refine op_mulW pins s σ H _ _ v u Q I rx ry ⟨i, j, rfl, rfl, ?_, fin _ rfl⟩
          rw [Bool.or_eq_true, Bool.or_eq_true] at hc
          rcases hc with (hc | hc) | hc
          · exact CMul.ok (.inl (small_iff.mp hc))
          · exact CMul.ok (.inr (small_iff.mp hc))
          · exact mulOk_bits (of_decide_eq_true hc).1 (of_decide_eq_true hc).2
        · cases hk
      | fdiv =>
        simp only [binI] at hk
        split at hk
        · rename_i hc
          cases hk
          exact op_fdivB pins s σ H _ _ v u Q I rx ry ⟨i, j, rfl, rfl, hc, fin _ rfl⟩
        · cases hk
      | mod =>
        simp only [binI] at hk
        split at hk
        · rename_i hc
          cases hk
          exact op_modN pins s σ H _ _ v u Q I rx ry ⟨i, j, rfl, rfl, hc, fin _ rfl⟩
        · cases hk
      | pow =>
        simp only [binI] at hk
        split at hk
        · rename_i hc
          cases hk
          exact op_pow pins s σ H _ _ v u Q I rx ry ⟨i, j, rfl, rfl, hc, fin _ rfl⟩
        · cases hk
      | shl =>
        simp only [binI] at hk
        split at hk
        · rename_i hc
          cases hk
          exact op_shl pins s σ H _ _ v u Q I rx ry ⟨i, j, rfl, rfl, hc, fin _ rfl⟩
        · cases hk
      | shr =>
        simp only [binI] at hk
        split at hk
        · rename_i hc
          cases hk
          exact op_shr pins s σ H _ _ v u Q I rx ry ⟨i, j, rfl, rfl, hc, fin _ rfl⟩
        · cases hk
      | band => cases hk; exact op_and pins s σ H _ _ v u Q I rx ry ⟨i, j, rfl, rfl, fin _ rfl⟩
      | bxor => cases hk; exact op_xor pins s σ H _ _ v u Q I rx ry ⟨i, j, rfl, rfl, fin _ rfl⟩
      | bor => cases hk; exact op_or pins s σ H _ _ v u Q I rx ry ⟨i, j, rfl, rfl, fin _ rfl⟩
    · cases e
  · rename_i xs ys
    split at e
    · rename_i hz
      cases e
      cases ra with
      | tupA sa da =>
        cases rb with
        | tupA sb db =>
          have la := da.length
          have lb := db.length
          refine op_catA pins s σ H _ _ v u Q I rx ry ⟨_, _, _, _, rfl, rfl, tsq sa, tsq sb, by rw [la, lb, ← szLine]; exact hz, fun e0 => ?_, fun e0 e1 => ?_, fun _ _ p hp => new_tup hr hp (da.app db) q⟩
          · subst e0
            cases da
            exact q _ H μ (Stp.refl H μ) hr (.tupA sb db)
          · subst e1
            cases db
            refine q _ H μ (Stp.refl H μ) hr ?_
            rw [List.append_nil]
            exact .tupA sa da
    · cases e
  · rename_i a b
    split at e
    · rename_i hz
      cases e
      cases ra; cases rb
      exact op_add_str pins s σ H _ _ v u Q I rx ry ⟨a, b, rfl, rfl, by rw [← szLine]; exact hz, q _ H μ (Stp.refl H μ) hr (.str _)⟩
    · cases e
  · rename_i xs j
    split at e
    · rename_i h1
      subst h1
      cases e
      cases rb
      cases ra with
      | tupA sa da => exact op_rep1 pins s σ H _ _ v u Q I rx ry ⟨_, _, rfl, rfl, tsq sa, q _ H μ (Stp.refl H μ) hr (.tupA sa da)⟩
    split at e
    · rename_i hc
      obtain ⟨h1, h2, h3, h4⟩ := hc
      cases e
      cases rb
      cases ra with
      | tupA sa da =>
        have la := da.length
        refine op_repT pins s σ H _ _ v u Q I rx ry ⟨_, j, _, rfl, rfl, tsq sa, fun e0 => ?_, h1, h2, by rw [la]; exact h3, fun p hp => new_tup hr hp (DzA.rep da _) q⟩
        subst e0
        cases da
        simp at h4
    · cases e
  · rename_i j _ _
    split at e
    · rename_i xs hx
      split at e
      · rename_i hc
        obtain ⟨h1, h2, h3⟩ := hc
        cases rb
        obtain ⟨a, vs, e1, e2, e3⟩ := itemsL_ok hr ra hx
        subst e1
        have ln := Paired.length e3
        exact op_rep pins s σ H _ _ v u Q I rx ry ⟨a, j, vs, rfl, rfl, e2, by omega, h2, by rw [← ln, ← szLine]; exact h3, fun p hp => new_mkl hr hp (RVs.rep e3 _) e q⟩
      · cases e
    · cases e
  · split at e
    · rename_i xs ys hx hy
      split at e
      · rename_i hz
        obtain ⟨a, vs, e1, e2, e3⟩ := itemsL_ok hr ra hx
        obtain ⟨b, ws, k1, k2, k3⟩ := itemsL_ok hr rb hy
        subst e1; subst k1
        have l1 := Paired.length e3
        have l2 := Paired.length k3
        exact op_cat pins s σ H _ _ v u Q I rx ry ⟨a, b, vs, ws, rfl, rfl, e2, k2, by rw [← l1, ← l2, ← szLine]; exact hz, fun p hp => new_mkl hr hp (RVs.app e3 k3) e q⟩
      · cases e
    · cases e
  · cases e

/-! ### comparisons -/
def copOf : Cop → CmpOp
  | .eq => .Eq | .ne => .NotEq | .lt => .Lt | .le => .LtE | .gt => .Gt | .ge => .GtE | .is => .Is | .isnot => .IsNot | .in_ => .In | .notin => .NotIn
theorem isNone_v {x : Vl} {v : V} {k : Bool} (r : rV X W H μ x v) (hr : hR X W H μ mh) (e : isNoneL x mh = some k) : k = decide (v = .non) := by
  cases x with
  | d x => cases e; cases r <;> rfl
  | r i =>
    simp only [isNoneL] at e
    split at e
    · rename_i xs e2
      cases e
      obtain ⟨_, a, vs, e1, _⟩ := RV.ref hr r e2
      subst e1
      rfl
    · cases e
  | g x => cases e; obtain ⟨a, _, e⟩ := r; subst e; rfl
  | sc ns => cases e; obtain ⟨a, e, _⟩ := r; subst e; rfl
  | x a =>
    cases e
    have r : v = .ref a := r
    subst r; rfl
theorem inT_some {x : Vl} {ys : List PyData} {c : Bool} (h : inT x ys = some c) : ∃ da, x = .d da ∧ (∀ y ∈ ys, tIn 4 y = true ∧ tEq 4 y da = true) ∧ c = anyEqv ys da := by
  unfold inT at h
  split at h
  · rename_i a
    split at h
    · rename_i hc
      cases h
      refine ⟨a, rfl, fun y hy => ?_, rfl⟩
      have := List.all_eq_true.mp hc y hy
      rw [Bool.and_eq_true] at this
      exact this
    · cases h
  · cases h
theorem op_isb : OpR X (compareOp .Is) (fun x y H Q => ∃ p r : Bool, x = .bl p ∧ y = .bl r ∧ Q (.bl (decide (p = r))) H) := fun pins s σ H x y v u Q I rx ry ⟨p, r, hx, hy, q⟩ => by
  rw [hx] at rx
  rw [hy] at ry
  rw [show v = Value.bool p from rx, show u = Value.bool r from ry]
  cases p <;> cases r <;> first
    | exact wpAny_is_self rfl ⟨.bl true, H, I, rfl, q⟩
    | exact wpAny_is_other rfl (by intro z; cases z) ⟨.bl false, H, I, rfl, q⟩
theorem op_isnotb : OpR X (compareOp .IsNot) (fun x y H Q => ∃ p r : Bool, x = .bl p ∧ y = .bl r ∧ Q (.bl (!decide (p = r))) H) := fun pins s σ H x y v u Q I rx ry ⟨p, r, hx, hy, q⟩ => by
  rw [hx] at rx
  rw [hy] at ry
  rw [show v = Value.bool p from rx, show u = Value.bool r from ry]
  cases p <;> cases r <;> first
    | exact wpAny_isNot_self rfl ⟨.bl false, H, I, rfl, q⟩
    | exact wpAny_isNot_other rfl (by intro z; cases z) ⟨.bl true, H, I, rfl, q⟩
theorem op_cmp (op : Cop) (rm : Rm X) : OpR X (compareOp (copOf op)) (rOfC X op) := by
  intro pins s σ H x y v u Q I rx ry h
  obtain ⟨W, μ, mh, a, b, c, hr, ra, rb, e, q⟩ := h
  have un := rm.un
  have fin : ∀ s', Inv X pins σ H s' → EP X pins σ Q (.bool c) s' := fun s' I' => ⟨.bl c, H, I', rfl, q⟩
  have gen : ∀ (da db : PyData), cont a mh = some da → cont b mh = some db → okN 40 da = true → okN 40 db = true → (∃ as, Reads s.heap v da as) ∧ ∃ bs, Reads s.heap u db bs := fun da db h1 h2 h3 h4 =>
    ⟨Dp.reads I da _ _ (cont_dp hr ra h1 h3) rx, Dp.reads I db _ _ (cont_dp hr rb h2 h4) ry⟩
  have ord : ∀ (da db : PyData), cont a mh = some da → cont b mh = some db → ordD op da db = some c → wpAny (model X.prog X.w) X.A (compareOp (copOf op) v u) (EP X pins σ Q) X.xe s := fun da db h1 h2 ho => by
    unfold ordD at ho
    split at ho
    · rename_i hc
      simp only [Bool.and_eq_true, Bool.not_eq_true'] at hc
      obtain ⟨⟨⟨k1, k2⟩, k3⟩, k4⟩ := hc
      obtain ⟨⟨as, r1⟩, ⟨bs, r2⟩⟩ := gen da db h1 h2 k2 k3
      have hn : da ≠ .none := fun z => by subst z; simp [isNoneD] at k4
      have d1 := (okN_plain da 40 k2).2
      have hu : X.A.units + min da.depth db.depth < cLine := by omega
      cases op with
      | lt => cases ho; exact PySem.W.lt_data r1 r2 k1 hn hu (fin s I)
      | le => cases ho; exact PySem.W.le_data r1 r2 k1 hn hu (fin s I)
      | gt => cases ho; exact PySem.W.gt_data r1 r2 k1 hn hu (fin s I)
      | ge => cases ho; exact PySem.W.ge_data r1 r2 k1 hn hu (fin s I)
      | _ => cases ho
    · cases ho
  have eqs : ∀ (da db : PyData) (op : Cop) (k : Bool), op = .eq ∨ op = .ne → cont a mh = some da → cont b mh = some db → (okN 40 da && okN 40 db) = true → c = (if op = .eq then PyData.eqv da db else !PyData.eqv da db) → wpAny (model X.prog X.w) X.A (compareOp (copOf op) v u) (EP X pins σ Q) X.xe s := fun da db op k ho h1 h2 hk hc => by
    rw [Bool.and_eq_true] at hk
    obtain ⟨⟨as, r1⟩, ⟨bs, r2⟩⟩ := gen da db h1 h2 hk.1 hk.2
    have p1 := okN_plain da 40 hk.1
    have p2 := okN_plain db 40 hk.2
    have hu : X.A.units + min da.depth db.depth < cLine := by omega
    rcases ho with rfl | rfl
    · exact SeqAt.eq_plain r1 r2 p1.1 p2.1 hu (by rw [if_pos rfl] at hc; rw [← hc]; exact fin s I)
    · exact SeqAt.ne_plain r1 r2 p1.1 p2.1 hu (by rw [if_neg (by decide)] at hc; rw [← hc]; exact fin s I)
  have int : ∀ i j : Int, a = .d (.int i) → b = .d (.int j) → cmpI op i j = some c → wpAny (model X.prog X.w) X.A (compareOp (copOf op) v u) (EP X pins σ Q) X.xe s := fun i j h1 h2 hk => by
    subst h1; subst h2
    cases ra; cases rb
    cases op with
    | eq => cases hk; exact op_eq pins s σ H _ _ v u Q I rx ry ⟨rfl, by simpa using q⟩
    | ne => cases hk; exact op_ne pins s σ H _ _ v u Q I rx ry ⟨rfl, by simpa using q⟩
    | lt => cases hk; exact op_lt pins s σ H _ _ v u Q I rx ry ⟨i, j, rfl, rfl, q⟩
    | le => cases hk; exact op_le pins s σ H _ _ v u Q I rx ry ⟨i, j, rfl, rfl, q⟩
    | gt => cases hk; exact op_gt pins s σ H _ _ v u Q I rx ry ⟨i, j, rfl, rfl, q⟩
    | ge => cases hk; exact op_ge pins s σ H _ _ v u Q I rx ry ⟨i, j, rfl, rfl, q⟩
    | _ => cases hk
  have inn : ∀ (da : PyData) (ys : List PyData), cont a mh = some da → contS b mh = some ys → (okN 40 da && okN 40 (.tuple ys)) = true → 
      (op = .in_ ∧ c = anyEqv ys da) ∨ (op = .notin ∧ c = !anyEqv ys da) → wpAny (model X.prog X.w) X.A (compareOp (copOf op) v u) (EP X pins σ Q) X.xe s := fun da ys h1 h2 hk ho => by
    rw [Bool.and_eq_true] at hk
    have p1 := okN_plain da 40 hk.1
    have p2 := okN_plainAll ys 39 (okN_tuple hk.2)
    have hu : X.A.units + 1 + min (PyData.depthAll ys) da.depth < cLine := by omega
    obtain ⟨as, r1⟩ := Dp.reads I da _ _ (cont_dp hr ra h1 hk.1) rx
    rcases contS_dp hr rb h2 (okN_tuple hk.2) with k | k
    · obtain ⟨bs, r2⟩ := Dp.reads I _ _ _ k ry
      rcases ho with ⟨rfl, hc⟩ | ⟨rfl, hc⟩
      · exact SeqAt.in_list_data r2 r1 p2.1 p1.1 hu (by unfold anyEqv at hc; rw [← hc]; exact fin s I)
      · exact SeqAt.notIn_list_data r2 r1 p2.1 p1.1 hu (by unfold anyEqv at hc; rw [← hc]; exact fin s I)
    · obtain ⟨bs, r2⟩ := Dp.reads I _ _ _ k ry
      rcases ho with ⟨rfl, hc⟩ | ⟨rfl, hc⟩
      · exact SeqAt.in_tuple_data r2 r1 p2.1 p1.1 hu (by unfold anyEqv at hc; rw [← hc]; exact fin s I)
      · exact SeqAt.notIn_tuple_data r2 r1 p2.1 p1.1 hu (by unfold anyEqv at hc; rw [← hc]; exact fin s I)
  have isn : ∀ k : Bool, isNone b = true → k = decide (x = .non) → (op = .is ∧ c = k) ∨ (op = .isnot ∧ c = !k) → wpAny (model X.prog X.w) X.A (compareOp (copOf op) v u) (EP X pins σ Q) X.xe s := fun k hb hk ho => by
    have hy : y = .non := by
      cases b with
      | d b => cases b <;> first | (cases rb; rfl) | cases hb
      | _ => cases hb
    subst hy
    rcases ho with ⟨rfl, hc⟩ | ⟨rfl, hc⟩
    · exact op_isN pins s σ H _ _ v u Q I rx ry ⟨rfl, by rw [← hk, ← hc]; exact q⟩
    · exact op_notN pins s σ H _ _ v u Q I rx ry ⟨rfl, by rw [← hk, ← hc]; exact q⟩
  have isb : ∀ k : Bool, isBl a b = some k → (op = .is ∧ c = k) ∨ (op = .isnot ∧ c = !k) → wpAny (model X.prog X.w) X.A (compareOp (copOf op) v u) (EP X pins σ Q) X.xe s := fun k hk ho => by
    unfold isBl at hk
    split at hk
    · rename_i p r
      cases hk
      cases ra
      cases rb
      rcases ho with ⟨rfl, hc⟩ | ⟨rfl, hc⟩
      · exact op_isb pins s σ H _ _ v u Q I rx ry ⟨p, r, rfl, rfl, by rw [← hc]; exact q⟩
      · exact op_isnotb pins s σ H _ _ v u Q I rx ry ⟨p, r, rfl, rfl, by rw [← hc]; exact q⟩
    · cases hk
  have rest : cmpG op a b mh = some c → wpAny (model X.prog X.w) X.A (compareOp (copOf op) v u) (EP X pins σ Q) X.xe s := fun e => by
    unfold cmpG at e
    split at e
    · exact int _ _ rfl rfl e
    · split at e
      · rename_i da db h1 h2
        unfold cmpD at e
        split at e
        · split at e
          · rename_i hk
            cases e
            exact eqs da db .eq true (.inl rfl) h1 h2 hk (by simp)
          · cases e
        · split at e
          · rename_i hk
            cases e
            exact eqs da db .ne true (.inr rfl) h1 h2 hk (by simp)
          · cases e
        · exact ord da db h1 h2 e
      · cases e
  cases op with
  | is =>
    simp only [cmpV] at e
    split at e
    · rename_i hb
      exact isn c hb (isNone_v ra hr e) (.inl ⟨rfl, rfl⟩)
    · exact isb c e (.inl ⟨rfl, rfl⟩)
  | isnot =>
    simp only [cmpV] at e
    split at e
    · rename_i hb
      obtain ⟨k, h1, h2⟩ := Option.map_eq_some_iff.mp e
      exact isn k hb (isNone_v ra hr h1) (.inr ⟨rfl, h2.symm⟩)
    · obtain ⟨k, h1, h2⟩ := Option.map_eq_some_iff.mp e
      exact isb k h1 (.inr ⟨rfl, h2.symm⟩)
  | in_ =>
    simp only [cmpV] at e
    split at e
    · rename_i da ys h1 h2
      split at e
      · rename_i hk
        cases e
        exact inn da ys h1 h2 hk (.inl ⟨rfl, rfl⟩)
      · obtain ⟨da', ha, hi, ec⟩ := inT_some e
        subst ha; subst ec
        obtain ⟨p, vs, rfl, hl, hd⟩ := contS_dz hr rb h2
        cases ry
        exact (in_tint I hl hd ra rx hi (by omega)).1 (fin s I)
    · cases e
  | notin =>
    simp only [cmpV] at e
    split at e
    · rename_i da ys h1 h2
      split at e
      · rename_i hk
        cases e
        exact inn da ys h1 h2 hk (.inr ⟨rfl, rfl⟩)
      · obtain ⟨c', e', ec'⟩ := Option.map_eq_some_iff.mp e
        obtain ⟨da', ha, hi, ec⟩ := inT_some e'
        subst ha; subst ec; subst ec'
        obtain ⟨p, vs, rfl, hl, hd⟩ := contS_dz hr rb h2
        cases ry
        exact (in_tint I hl hd ra rx hi (by omega)).2 (fin s I)
    · cases e
  | _ => exact rest e

/-! ### truth -/
theorem truth_ok {x : Vl} {v : V} {k : Bool} (hr : hR X W H μ mh) (r : rV X W H μ x v) (e : truth x mh = some k) : TruV X.K v H k := by
  cases x with
  | d x =>
    cases x with
    | none => cases e; cases r; rfl
    | bool b => cases e; cases r; rfl
    | int i => cases e; cases r; rfl
    | list xs =>
      cases e
      cases r with
      | lst a b c =>
        refine .inl ⟨_, SqL.of a, ?_⟩
        cases c <;> rfl
    | tuple xs =>
      cases e
      cases r with
      | tupA a c =>
        refine .inr (.inl ⟨_, tsq a, ?_⟩)
        cases c <;> rfl
    | _ => cases e
  | r i =>
    simp only [truth] at e
    split at e
    · rename_i xs e2
      cases e
      obtain ⟨_, a, vs, e1, _, e3, e4⟩ := RV.ref hr r e2
      subst e1
      refine .inl ⟨_, SqL.of e3, ?_⟩
      cases e4 <;> rfl
    · cases e
  | g x => cases e
  | sc ns => cases e
  | x a => cases e

/-! ### items, slices -/
theorem RVs.get : ∀ {xs : List Vl} {vs : List V} {i : Nat} {x : Vl}, rVs X W H μ xs vs → xs[i]? = some x → ∃ v, vs[i]? = some v ∧ rV X W H μ x v
  | _, _, _, _, .nil, e => by simp at e
  | _, _, 0, _, .cons r _, e => by simp at e; subst e; exact ⟨_, rfl, r⟩
  | _, _, i + 1, x, .cons _ t, e => by
    obtain ⟨u, h1, h2⟩ := RVs.get (i := i) (x := x) t (by simpa using e)
    exact ⟨u, by simpa using h1, h2⟩
theorem ixOf_ixN {i : Int} {n k : Nat} (h : ixOf i n = some k) : ixN n i = some k ∧ k < n := by
  unfold ixOf at h
  unfold ixN
  by_cases h0 : 0 ≤ i
  · rw [if_pos h0] at h ⊢
    by_cases h1 : i < n
    · rw [if_pos h1] at h ⊢
      cases h
      exact ⟨rfl, by omega⟩
    · rw [if_neg h1] at h; cases h
  · rw [if_neg h0] at h ⊢
    by_cases h1 : 0 ≤ i + n
    · rw [if_pos h1] at h
      rw [if_pos (by omega)]
      cases h
      exact ⟨rfl, by omega⟩
    · rw [if_neg h1] at h; cases h
def rIdx (X : Cx) : R2 := fun v u H Q => ∃ W μ mh x y z, hR X W H μ mh ∧ rV X W H μ x v ∧ rV X W H μ y u ∧ idxV x y mh = some z ∧ ∀ w, rV X W H μ z w → Q w H
theorem idx_get {x y z : Vl} {v u : V} (hr : hR X W H μ mh) (ra : rV X W H μ x v) (rb : rV X W H μ y u) (e : idxV x y mh = some z) :
    ∃ p vs i w, v = .ref p ∧ u = .int i ∧ (SqL X.K H p vs ∨ SqT X.K H p vs) ∧ atI vs i = some w ∧ rV X W H μ z w := by
  unfold idxV at e
  split at e
  · rename_i i
    cases rb
    split at e
    · rename_i xs hx
      split at e
      · rename_i k hk
        obtain ⟨p, vs, e1, e2, e3⟩ := items_ok hr ra hx
        obtain ⟨w, h1, h2⟩ := RVs.get e3 e
        have ln := Paired.length e3
        refine ⟨p, vs, i, w, e1, rfl, e2, ?_, h2⟩
        unfold atI
        rw [← ln, (ixOf_ixN hk).1]
        exact h1
      · cases e
    · cases e
  · cases e
theorem ix_ev : IxR X (rIdx X) := by
  intro value slice pins s σ H x y v u Q I rx ry h hs
  obtain ⟨W, μ, mh, a, b, z, hr, ra, rb, e, q⟩ := h
  obtain ⟨p, vs, i, w, e1, e2, e3, e4, e5⟩ := idx_get hr ra rb e
  rcases e3 with e3 | e3
  · exact ix_list value slice pins s σ H x y v u Q I rx ry ⟨p, vs, i, w, e1, e2, e3, e4, q w e5⟩ hs
  · exact ix_tup value slice pins s σ H x y v u Q I rx ry ⟨p, vs, i, w, e1, e2, e3, e4, q w e5⟩ hs
theorem cutAt_sIx (n d : Nat) (o : Option Int) : cutAt n d o = HT.sIx n d o := by
  cases o with
  | none => rfl
  | some i =>
    show (if 0 ≤ i then min i.toNat n else (i + n).toNat) = (if i < 0 then (i + (n : Int)).toNat else min i.toNat n)
    by_cases h : 0 ≤ i
    · rw [if_pos h, if_neg (by omega)]
    · rw [if_neg h, if_pos (by omega)]
theorem cutL_cutV {α : Type} (xs : List α) (lo hi : Option Int) : cutL xs lo hi = (xs.drop (HT.sIx xs.length 0 lo)).take (HT.sIx xs.length xs.length hi - HT.sIx xs.length 0 lo) := by
  unfold cutL; rw [cutAt_sIx, cutAt_sIx]
theorem RVs.take : ∀ (n : Nat) {xs : List Vl} {vs : List V}, rVs X W H μ xs vs → rVs X W H μ (xs.take n) (vs.take n)
  | 0, _, _, _ => .nil
  | _ + 1, _, _, .nil => .nil
  | n + 1, _, _, .cons r t => .cons r (RVs.take n t)
theorem RVs.drop : ∀ (n : Nat) {xs : List Vl} {vs : List V}, rVs X W H μ xs vs → rVs X W H μ (xs.drop n) (vs.drop n)
  | 0, _, _, r => r
  | _ + 1, _, _, .nil => .nil
  | n + 1, _, _, .cons _ t => RVs.drop n t
theorem rvs_ints : ∀ ns : List Int, rVs X W H μ (ns.map fun n => .d (.int n)) (ns.map V.int)
  | [] => .nil
  | n :: ns => .cons (Dz.int n) (rvs_ints ns)
def rSli (X : Cx) (mk : Bool) : V → Option Int → Option Int → Hp → VK → Prop := fun v lo hi H Q => ∃ W μ mh x z mh', hR X W H μ mh ∧ rV X W H μ x v ∧ sliV mk x lo hi mh = .ok z mh' ∧
  ∀ w H' μ', Stp H μ H' μ' → hR X W H' μ' mh' → rV X W H' μ' z w → Q w H'
theorem sl_ev (mk : Bool) : SlR X (rSli X mk) := by
  intro pins s σ H x v vl vu lo hi sl Q I rx hs pl pu h
  obtain ⟨W, μ, mh, a, z, mh', hr, ra, e, q⟩ := h
  unfold sliV at e
  split at e
  · rename_i xs
    cases e
    cases ra with
    | tupA sa da =>
      have ln := da.length
      refine sl_tupA pins s σ H _ v vl vu lo hi sl Q I rx hs pl pu ⟨_, _, rfl, tsq sa, fun hw => ?_, fun hw p hp => new_tup hr hp ?_ q⟩
      · have : cutL xs lo hi = xs := by
          rw [cutL_cutV, ← ln, hw.1, hw.2, List.drop_zero, Nat.sub_zero, ln, List.take_length]
        rw [this] at q
        exact q _ H μ (Stp.refl H μ) hr (.tupA sa da)
      · rw [cutL_cutV, ← ln]
        exact DzA.take _ (DzA.drop _ da)
  · rename_i ns
    obtain ⟨b, e1, e2, e3⟩ := ra
    subst e1
    have sq : SqL X.K H b (ns.map V.int) := e2.imp (fun z => z.1) id
    refine sl_list pins s σ H _ v vl vu lo hi sl Q I rx hs pl pu ⟨b, _, rfl, sq, fun p hp => new_mkl hr hp ?_ e q⟩
    have : cutV (ns.map V.int) lo hi = (cutL ns lo hi).map V.int := by
      unfold cutV
      rw [cutL_cutV, List.length_map, List.map_take, List.map_drop]
    rw [this]
    exact rvs_ints _
  · split at e
    · rename_i xs hx
      obtain ⟨b, vs, e1, e2, e3⟩ := itemsL_ok hr ra hx
      subst e1
      have ln := Paired.length e3
      refine sl_list pins s σ H _ v vl vu lo hi sl Q I rx hs pl pu ⟨b, _, rfl, SqL.of e2, fun p hp => new_mkl hr hp ?_ e q⟩
      unfold cutV
      rw [cutL_cutV, ← ln]
      exact RVs.take _ (RVs.drop _ e3)
    · cases e
end
end Ev

set_option Elab.async false
set_option linter.all false
set_option autoImplicit false
set_option maxRecDepth 100000
set_option maxHeartbeats 2000000
namespace Ev
open PySem PySem.Spec PyProof.Rows L2

namespace SortT
open PySem.W PySem.SeqAt
section
variable {prog : Program} {w : World} {A : Around} {E : Value → Shared → Prop} {s : Shared}
theorem call_tuple_lt {Q : Value → Shared → Prop} {l b : Addr} {items items2 : Array Value} {e r : Nat → Bool} (hl : s.heap.IsTuple l items) (hb : s.heap.IsTuple b items2)
    (he : ∀ j (h1 : j < items.size) (h2 : j < items2.size), EqAt A.in1 s items[j] items2[j] (e j)) (hr : ∀ j (h1 : j < items.size) (h2 : j < items2.size), e j = false → RcLt A.in1 s items[j] items2[j] (r j))
    (h : Q (.bool (firstLt e r (decide (items.size < items2.size)) (List.range (min items.size items2.size)))) s) : wpAny (model prog w) A (call (.builtin "tuple.__lt__") [.ref l, .ref b]) Q E s := by
  obtain ⟨⟨cls, dd, data, sl⟩, ho, hc, n, hd⟩ := id hl
  obtain ⟨⟨cls2, dd2, data2, sl2⟩, ho2, hc2, n2, hd2⟩ := id hb
  simp only at hc hd hc2 hd2
  subst hc hd hc2 hd2
  exact call_meets F.slot_tuple_lt ⟨_, ho, rfl⟩ F.entry_tuple_lt (F.args_tuple_lt_2 _ _) (tuple_ltAt l b items items2 n n2 dd dd2 sl sl2 e r) ⟨ho, ho2, he, hr, h⟩
/-- one tuple against another -/
theorem oneLt_tup {f : Bool} {xs ys : List PyData} {a b : Value} {as bs : List Addr} {Q : Bool → Shared → Prop} (ra : Reads s.heap a (.tuple xs) as) (rb : Reads s.heap b (.tuple ys) bs) (h : alike (.tuple xs) (.tuple ys) = true)
    (hu : A.units + min (PyData.tuple xs).depth (PyData.tuple ys).depth < cLine) (hq : Q (dataLt (.tuple xs) (.tuple ys)) s) : wpAny (model prog w) A (oneLt' f a b) Q E s := by
  cases f with
  | false =>
    rw [oneLt'_eq]
    simp only [Bool.false_eq_true, if_false]
    exact wpAny_bind (rcLt_alike _ _ A s a b as bs ra rb h (fun z => nomatch z) hu prog w E _ (wpAny_truthy_bool hq))
  | true =>
    have hal : alikeAll xs ys = true := by simpa [alike] using h
    cases ra with
    | @tuple l o vs n _ as₁ h1 h2 h3 h4 =>
      cases rb with
      | @tuple l' o' vs' n' _ bs₁ k1 k2 k3 k4 =>
        have n1 : vs.size = xs.length := by simpa using ReadsAll.length _ _ _ h4
        have n2 : vs'.size = ys.length := by simpa using ReadsAll.length _ _ _ k4
        rw [dataLt_tuple, ← firstLt_toks xs ys hal, ← n1, ← n2] at hq
        rw [oneLt'_eq]
        simp only [if_true]
        refine wpAny_bind (wpAny_cRoomFor (room_here hu) ?_)
        refine wpAny_bind (wpAny_callSpecialIfBound?_slot (T := "tuple") ⟨_, h1, h2⟩ F.slot_tuple_lt (call_tuple_lt (e := pairEq xs ys) (r := fun j => dataLt (xs.getD j .none) (ys.getD j .none)) ⟨_, h1, h2, _, h3⟩ ⟨_, k1, k2, _, k3⟩ (fun j j1 j2 => ?_) (fun j j1 j2 hj => ?_) ?_))
        · have := eqAt_alikeAll xs ys A.in1 s vs.toList vs'.toList _ _ h4 k4 hal (room_in hu) j (by simpa using j1) (by simpa using j2)
          simpa using this
        · have := rcLt_alikeAll xs ys A.in1 s vs.toList vs'.toList _ _ h4 k4 hal (room_in hu) j (by simpa using j1) (by simpa using j2) hj
          simpa using this
        · exact wpAny_truthy_bool hq
def full : PyData → Bool
  | .tuple (_ :: _) => true
  | _ => false
/-- the first items of tuples, where there are some -/
theorem firsts_t : ∀ {vs : List Value} {ds : List PyData}, EachIs (fun v d => ∃ as, Reads s.heap v d as) vs ds → (∀ d, d ∈ ds → ∃ xs, d = .tuple xs) → ∃ os : List (Option Value), os.map Option.isSome = ds.map full ∧ ∀ {M : Model} {Q : List (Option Value) → Shared → Prop}, Q os s → wpAny M A (vs.mapM firstOfTuple') Q E s
  | _, _, .nil, _ => ⟨[], rfl, fun h => by rw [List.mapM_nil]; exact wpAny_pure h⟩
  | _, _, .cons (b := d) ⟨as, r⟩ t, ht => by
    obtain ⟨os, h1, h2⟩ := firsts_t t fun d hd => ht d (List.mem_cons_of_mem _ hd)
    obtain ⟨xs, rfl⟩ := ht d (List.mem_cons_self ..)
    cases r with
    | @tuple a o vs n _ _ ho hc hd hr =>
      refine ⟨vs[0]? :: os, ?_, fun {M Q} hq => ?_⟩
      · rw [List.map_cons, List.map_cons, h1]
        congr 1
        have hl : vs.size = xs.length := by simpa using ReadsAll.length _ _ _ hr
        cases xs with
        | nil =>
          have : vs[0]? = none := Array.getElem?_eq_none (by rw [hl]; exact Nat.le_refl _)
          rw [this]; rfl
        | cons x xs =>
          have h0 : 0 < vs.size := by rw [hl]; exact Nat.succ_pos _
          rw [Array.getElem?_eq_getElem h0]; rfl
      · rw [List.mapM_cons]
        refine wpAny_bind ?_
        rw [kas_first_eq]
        refine wpAny_bind (Looks.here (show Looks M s.heap (typeOf (.ref a)) o.cls from (Looks.ld ho).andThen .now) ?_)
        rw [hc, if_neg (by first | decide | simp)]
        refine wpAny_bind (listItems_at ho hd (wpAny_pure ?_))
        exact wpAny_bind (h2 (Q := fun bs s' => wpAny M A (pure (vs[0]? :: bs)) Q E s') (wpAny_pure hq))
end
section
variable {prog : Program} {w : World} {A : Around} {s : Shared}
/-- tuples that are alike can be sorted, empty ones too -/
theorem sorts_t {vs : List Value} {ds : List PyData} (e : EachIs (fun v d => ∃ as, Reads s.heap v d as) vs ds) (hal : AllAlike ds) (ht : ∀ d, d ∈ ds → ∃ xs, d = .tuple xs) (hu : ∀ d, d ∈ ds → A.units + d.depth < cLine) : SortsAt prog w A s (dataKind s.heap ds) vs := by
  by_cases hf : ∀ d, d ∈ ds → full d = true
  · exact SortsAt.data e hal (.inl fun d hd => by
      have := hf d hd
      unfold full at this
      split at this
      · exact ⟨_, _, rfl⟩
      · cases this) hu
  have room : ∀ {d d' : PyData}, d ∈ ds → A.units + min d.depth d'.depth < cLine := fun {d d'} hd => Nat.lt_of_le_of_lt (Nat.add_le_add_left (Nat.min_le_left _ _) _) (hu d hd)
  have hall : (ds.map full).all id = false := by
    cases h : (ds.map full).all id with
    | false => rfl
    | true =>
      rw [List.all_eq_true] at h
      exact absurd (fun d hd => h (full d) (List.mem_map.mpr ⟨d, hd, rfl⟩)) hf
  have ltAt : ∀ f : Bool, ∀ (E : Value → Shared → Prop) (x y : Value) (a b : (dataKind s.heap ds).α) {Q : Bool → Shared → Prop}, (dataKind s.heap ds).keyOf x = some a → (dataKind s.heap ds).keyOf y = some b → Q ((dataKind s.heap ds).blt a b) s → wpAny (model prog w) A (oneLt' f x y) Q E s := by
    intro f E x y a b Q ha hb hq
    obtain ⟨d, as, hd, ra, rfl⟩ := dataKind_inv ha
    obtain ⟨d', as', hd', rb, rfl⟩ := dataKind_inv hb
    have hdd := hal d hd d' hd'
    have hroom := room (d' := d') hd
    obtain ⟨xs, rfl⟩ := ht d hd
    obtain ⟨ys, rfl⟩ := ht d' hd'
    exact oneLt_tup ra rb hdd hroom hq
  refine ⟨fun v hv => ?_, ?_⟩
  · obtain ⟨d, hd, as, r⟩ := e.left v hv
    exact ⟨_, dataKind_some hal hd r⟩
  by_cases hh : ds.head?.map full = some true
  · refine ⟨general', fun E x y a b Q ha hb hq => ltAt false E x y a b ha hb hq, fun h2 E Q hq => ?_⟩
    obtain ⟨os, h1, h3⟩ := firsts_t (E := E) (A := A) e ht
    rw [kat_kind_eq, List.mapM_toArray, map_eq_pure_bind]
    refine wpAny_bind (wpAny_bind (h3 (wpAny_pure ?_)))
    have ho : (os.toArray.all fun x => x.isSome) = false := by
      rw [List.all_toArray]
      have : os.all (fun x => x.isSome) = (os.map Option.isSome).all id := by rw [List.all_map]; rfl
      rw [this, h1, hall]
    rw [if_neg (by rw [ho]; simp)]
    have h0 : (os.toArray[0]?.bind id).isSome = true := by
      cases ds with
      | nil => cases hh
      | cons d ds =>
        cases os with
        | nil => simp at h1
        | cons o os =>
          rw [List.map_cons, List.map_cons] at h1
          have h1 := (List.cons.inj h1).1
          have hh : full d = true := by simpa using hh
          rw [hh] at h1
          simpa using h1
    rw [if_pos h0]
    exact wpAny_pure hq
  · refine ⟨oneType', fun E x y a b Q ha hb hq => by rw [keyLt'_oneType]; exact ltAt true E x y a b ha hb hq, fun h2 E Q hq => ?_⟩
    obtain ⟨os, h1, h3⟩ := firsts_t (E := E) (A := A) e ht
    rw [kat_kind_eq, List.mapM_toArray, map_eq_pure_bind]
    refine wpAny_bind (wpAny_bind (h3 (wpAny_pure ?_)))
    have ho : (os.toArray.all fun x => x.isSome) = false := by
      rw [List.all_toArray]
      have : os.all (fun x => x.isSome) = (os.map Option.isSome).all id := by rw [List.all_map]; rfl
      rw [this, h1, hall]
    rw [if_neg (by rw [ho]; simp)]
    have h0 : ¬ (os.toArray[0]?.bind id).isSome = true := by
      intro z
      apply hh
      cases ds with
      | nil => simp at h1; subst h1; simp at z
      | cons d ds =>
        cases os with
        | nil => simp at h1
        | cons o os =>
          rw [List.map_cons, List.map_cons] at h1
          have h1 := (List.cons.inj h1).1
          have z : o.isSome = true := by simpa using z
          rw [z] at h1
          simp [← h1]
    rw [if_neg h0]
    have hT : ∀ v ∈ vs, Looks (model prog w) s.heap (typeOf v) (Value.type "tuple") := fun v hv => by
      obtain ⟨d, hd, as, r⟩ := e.left v hv
      obtain ⟨xs, rfl⟩ := ht d hd
      exact looks_reads r
    rw [oneTypeOnly'_eq, List.mapM_toArray, map_eq_pure_bind]
    refine wpAny_bind (wpAny_bind (wpAny_bind (kas_mapM (r := Value.type "tuple") _ (fun v hv Q' hq => (hT v hv).here hq) (wpAny_pure ?_))))
    have hall2 : ((List.map (fun _ => Value.type "tuple") vs).toArray.all fun x => x == Value.type "tuple") = true := by
      simp only [List.all_toArray, List.all_map, List.all_eq_true]
      intro _ _
      exact beq_self_eq_true _
    have h0' : (List.map (fun _ => Value.type "tuple") vs).toArray[0]? = some (Value.type "tuple") := by
      cases vs with
      | nil => simp at h2
      | cons v vs => simp
    rw [h0']
    simp only [hall2, if_true]
    exact wpAny_pure (wpAny_pure hq)
end
end SortT
/-- data that can be sorted: tuples, too, any of which may be empty -/
def SortableT (ds : List PyData) : Prop := PySem.W.Sortable ds ∨ ∀ d, d ∈ ds → ∃ xs, d = .tuple xs
section
variable {prog : Program} {w : World} {A : Around} {E : Value → Shared → Prop} {s : Shared}
open PySem.W in
/-- sorted(x), x a list or a tuple of data -/
theorem sorted_seq {it : Addr} {T : String} {o : Obj} {items : Array Value} {n : Nat} {ds : List PyData} {Q : Value → Shared → Prop} (hT : T = "list" ∨ T = "tuple") (ho : s.heap.get? it = some o) (hc : o.cls = .type T) (hd : o.data = .seq items n)
    (er : EachIs (fun v d => ∃ as, Reads s.heap v d as) items.toList ds) (hal : AllAlike ds) (hk : SortableT ds) (hL : ds.length ≤ sizeLine) (hu : ∀ d, d ∈ ds → A.units + 2 + d.depth < cLine)
    (h : ∀ (h1 h2 : Heap) e out, (∀ b o', s.heap.get? b = some o' → h1.get? b = some o') → (∀ b o', h1.get? b = some o' → h2.get? b = some o') → h2.get? h1.objs.size = some (seqObj "list" out.toArray e) → out.length = ds.length → (∀ R : Value → PyData → Prop, EachIs R items.toList ds → EachIs R out (ds.mergeSort (dataLe false id))) → Q (.ref h1.objs.size) { s with heap := h2 }) :
    wpAny (model prog w) A (call (.builtin "sorted") [.ref it]) Q E s := by
  have hl : items.toList.length = ds.length := er.length
  have hz : items.size ≤ sizeLine := by rw [← Array.length_toList, hl]; exact hL
  refine Calls.call_function_entry kind_sorted plain_sorted entry_sorted (args_sorted1 _) ?_
  unfold Builtin.«sorted»
  refine wpAny_bind (m := checkCount "sorted" 1 1 _) (wpAny_pure ?_)
  refine wpAny_bind (wpAny_collect_seq it hT ho hc hd (fun h' hk' => ?_) hz)
  refine wpAny_bind (wpAny_newList ?_ (by rw [hl]; exact hL))
  have hat : (h'.push (seqObj "list" items.toList.toArray 0)).get? h'.objs.size = some (seqObj "list" items.toList.toArray 0) := Heap.get?_push_size _ rfl
  have old1 : ∀ b o', h'.get? b = some o' → (h'.push (seqObj "list" items.toList.toArray 0)).get? b = some o' := fun b o' e => Heap.get?_push_of_some _ e
  have er' : EachIs (fun v d => ∃ as, Reads (sortingHeap (h'.push (seqObj "list" items.toList.toArray 0)) h'.objs.size items.toList) v d as) items.toList ds := er.mono fun _ _ ⟨as, r⟩ =>
    ⟨as, PyProof.Rows.Reads.keeps (fun b o' e => sortingHeap_old (Nat.ne_of_lt (Heap.lt_size (hk' b o' e))) (old1 b o' (hk' b o' e))) r⟩
  refine wpAny_bind (wpAny_holding (wpAny_call_entry slot_list_sort ⟨_, hat, rfl⟩ entry_list_sort (list_sort_vals (κ := dataKind (sortingHeap (h'.push (seqObj "list" items.toList.toArray 0)) h'.objs.size items.toList) ds) (s := { s with heap := h'.push (seqObj "list" items.toList.toArray 0) }) hat
    (hk.elim (fun hk => SortsAt.data (s := { s with heap := sortingHeap (h'.push (seqObj "list" items.toList.toArray 0)) h'.objs.size items.toList }) er' hal hk hu) fun ht => SortT.sorts_t (s := { s with heap := sortingHeap (h'.push (seqObj "list" items.toList.toArray 0)) h'.objs.size items.toList }) er' hal ht hu) (by rw [hl]; exact hL) ⟨_, rfl, wpAny_pure ⟨_, rfl, ?_⟩⟩) (args_list_sort _)))
  obtain ⟨e, he⟩ := sortedHeap_at (out := (sortVals (dataKind (sortingHeap (h'.push (seqObj "list" items.toList.toArray 0)) h'.objs.size items.toList) ds) false items.toList items.toList).toArray) hat
  refine h h' _ e (sortVals (dataKind (sortingHeap (h'.push (seqObj "list" items.toList.toArray 0)) h'.objs.size items.toList) ds) false items.toList items.toList) hk' (fun b o' q => ?_) he ?_ fun R eR => ?_
  · rw [sortedHeap_old (Nat.ne_of_lt (Heap.lt_size q)) (Heap.lt_size (old1 b o' q))]
    exact old1 b o' q
  · rw [sortVals_length false rfl]; exact hl
  · have z := sortVals_data (R := R) (enc := id) (bs := ds) (vs := items.toList) (h' := sortingHeap (h'.push (seqObj "list" items.toList.toArray 0)) h'.objs.size items.toList) false eR er' (by rw [List.map_id]; exact hal)
    rw [List.map_id] at z
    exact z
end

section
variable {X : Cx} {W : List Addr} {H : Hp} {μ : Mu} {mh mh' : MH} {z : Vl} {Q : VK}
theorem sortableB_ok {xs : List PyData} (h : sortableB xs = true) : PySem.W.AllAlike xs ∧ PySem.W.Sortable xs := by
  unfold sortableB at h
  rw [Bool.or_eq_true, Bool.and_eq_true, Bool.and_eq_true] at h
  have al : (xs.all fun a => xs.all fun b => PySem.W.alike a b) = true → PySem.W.AllAlike xs := fun h d hd d' hd' => by
    rw [List.all_eq_true] at h
    have := h d hd
    rw [List.all_eq_true] at this
    exact this d' hd'
  rcases h with ⟨h1, h2⟩ | ⟨h1, h2⟩
  · refine ⟨al h1, .inl fun d hd => ?_⟩
    rw [List.all_eq_true] at h2
    have := h2 d hd
    split at this
    · exact ⟨_, _, rfl⟩
    · cases this
  · refine ⟨al h1, .inr fun d hd => ?_⟩
    rw [List.all_eq_true] at h2
    have := h2 d hd
    split at this
    · cases this
    · cases this
    · rename_i n1 n2
      exact ⟨n2, n1⟩
theorem sortTB_ok {xs : List PyData} (h : (sortableB xs || sortTB xs) = true) : PySem.W.AllAlike xs ∧ SortableT xs := by
  rw [Bool.or_eq_true] at h
  rcases h with h | h
  · exact ⟨(sortableB_ok h).1, .inl (sortableB_ok h).2⟩
  · unfold sortTB at h
    rw [Bool.and_eq_true] at h
    refine ⟨fun d hd d' hd' => ?_, .inr fun d hd => ?_⟩
    · have := h.1
      rw [List.all_eq_true] at this
      have := this d hd
      rw [List.all_eq_true] at this
      exact this d' hd'
    · have := h.2
      rw [List.all_eq_true] at this
      have := this d hd
      split at this
      · exact ⟨_, rfl⟩
      · cases this
/-- values and data, side by side: what they are in the heap -/
theorem dz_each {s : Shared} {pins : List (Addr × Obj)} {σ : L2.St} (I : Inv X pins σ H s) {B : Addr → Prop} {n : Nat} : ∀ {vs : List V} {ds : List PyData} {us : List Value}, ds.all (okN n) = true → DzA X.K H B vs ds → Vals vs us → PySem.W.EachIs (fun u d => ∃ as, Reads s.heap u d as) us ds
  | _, _, _, _, .nil, .nil => .nil
  | _, _, _, e, .cons a t, .cons r rr => by
    rw [List.all_cons, Bool.and_eq_true] at e
    exact .cons (Dp.reads I _ _ _ (Dz.dp _ _ n e.1 a) r) (dz_each I e.2 t rr)
theorem dz_eachV {B : Addr → Prop} : ∀ {vs : List V} {ds : List PyData} {us : List Value}, DzA X.K H B vs ds → Vals vs us → PySem.W.EachIs (fun u d => ∃ v, RelV v u ∧ Dz X.K H B v d) us ds
  | _, _, _, .nil, .nil => .nil
  | _, _, _, .cons a t, .cons r rr => .cons ⟨_, r, a⟩ (dz_eachV t rr)
theorem each_dz {B : Addr → Prop} : ∀ {us : List Value} {ds : List PyData}, PySem.W.EachIs (fun u d => ∃ v, RelV v u ∧ Dz X.K H B v d) us ds → ∃ vs, Vals vs us ∧ DzA X.K H B vs ds
  | _, _, .nil => ⟨[], .nil, .nil⟩
  | _, _, .cons ⟨v, r, a⟩ t => let ⟨vs, h1, h2⟩ := each_dz t; ⟨v :: vs, .cons r h1, .cons a h2⟩
theorem rvs1 {x : Vl} {vs : List V} (h : rVs X W H μ [x] vs) : ∃ v, vs = [v] ∧ rV X W H μ x v := by
  cases h with
  | cons r t => cases t; exact ⟨_, rfl, r⟩
theorem rvs2 {x y : Vl} {vs : List V} (h : rVs X W H μ [x, y] vs) : ∃ v w, vs = [v, w] ∧ rV X W H μ x v ∧ rV X W H μ y w := by
  cases h with
  | cons r t => obtain ⟨w, e, q⟩ := rvs1 t; subst e; exact ⟨_, w, rfl, r, q⟩
theorem boolsOf_ok : ∀ {xs : List PyData} {bs : List Bool}, boolsOf xs = some bs → xs = bs.map PyData.bool
  | [], _, h => by cases h; rfl
  | x :: xs, bs, h => by
    cases x with
    | bool b =>
      simp only [boolsOf, Option.map_eq_some_iff] at h
      obtain ⟨cs, h1, h2⟩ := h
      subst h2
      rw [boolsOf_ok h1]; rfl
    | _ => simp [boolsOf] at h
theorem intsOf_ok : ∀ {xs : List PyData} {bs : List Int}, intsOf xs = some bs → xs = bs.map PyData.int
  | [], _, h => by cases h; rfl
  | x :: xs, bs, h => by
    cases x with
    | int b =>
      simp only [intsOf, Option.map_eq_some_iff] at h
      obtain ⟨cs, h1, h2⟩ := h
      subst h2
      rw [intsOf_ok h1]; rfl
    | _ => simp [intsOf] at h
theorem dz_bools {B : Addr → Prop} : ∀ {bs : List Bool} {vs : List V}, DzA X.K H B vs (bs.map PyData.bool) → vs = bs.map V.bl
  | [], _, h => by cases h; rfl
  | b :: bs, _, h => by
    rw [List.map_cons] at h
    cases h with
    | cons r t => cases r; rw [dz_bools t]; rfl
theorem dz_ints {B : Addr → Prop} : ∀ {bs : List Int} {vs : List V}, DzA X.K H B vs (bs.map PyData.int) → vs = bs.map V.int
  | [], _, h => by cases h; rfl
  | b :: bs, _, h => by
    rw [List.map_cons] at h
    cases h with
    | cons r t => cases r; rw [dz_ints t]; rfl
end
end Ev

set_option Elab.async false
set_option linter.all false
set_option autoImplicit false
set_option maxRecDepth 100000
set_option maxHeartbeats 2000000
namespace Ev
open PySem PySem.Spec PyProof.Rows L2
section
variable {X : Cx} {W : List Addr}
theorem cr_len : CallR X (.builtin "len") (rOfL X b_len) := by
  intro pins s σ H vs us Q I r h
  obtain ⟨W, μ, mh, xs, z, mh', hr, ra, e, q⟩ := h
  unfold b_len at e
  split at e
  · rename_i x
    obtain ⟨v, rfl, rv⟩ := rvs1 ra
    split at e
    · rename_i ys hy
      split at e
      · cases e
        obtain ⟨a, ws, e1, e2, e3⟩ := items_ok hr rv hy
        subst e1
        refine call_len_seq pins s σ H _ us Q I r ⟨a, ws, rfl, e2, ?_⟩
        rw [← Paired.length e3]
        exact q _ H μ (Stp.refl H μ) hr (Dz.int _)
      · cases e
    · cases e
  · cases e
theorem cr_tuple : CallR X (.type "tuple") (rOfL X b_tuple) := by
  intro pins s σ H vs us Q I r h
  obtain ⟨W, μ, mh, xs, z, mh', hr, ra, e, q⟩ := h
  unfold b_tuple at e
  split at e
  · rename_i x
    obtain ⟨v, rfl, rv⟩ := rvs1 ra
    split at e
    · rename_i ys hy
      obtain ⟨a, ws, e1, e2, e3⟩ := items_okT hr rv hy
      subst e1
      obtain ⟨ds, rfl, rfl, hd⟩ := mkt_ok e3 e
      rcases e2 with e2 | e2
      · exact call_tuple_of pins s σ H _ us Q I r ⟨a, ws, rfl, .inl ⟨e2, fun l hl => new_tup hr hl hd q⟩⟩
      · exact call_tuple_of pins s σ H _ us Q I r ⟨a, ws, rfl, .inr ⟨tsq e2, q _ H μ (Stp.refl H μ) hr (.tupA e2 hd)⟩⟩
    · cases e
  · cases e
theorem cr_list (mk : Bool) : CallR X (.type "list") (rOfL X (b_list mk)) := by
  intro pins s σ H vs us Q I r h
  obtain ⟨W, μ, mh, xs, z, mh', hr, ra, e, q⟩ := h
  unfold b_list at e
  split at e
  · rename_i x
    obtain ⟨v, rfl, rv⟩ := rvs1 ra
    split at e
    · rename_i ys hy
      obtain ⟨a, ws, e1, e2, e3⟩ := items_ok hr rv hy
      subst e1
      exact call_list_of pins s σ H _ us Q I r ⟨a, ws, rfl, e2, fun l hl => new_mkl hr hl e3 e q⟩
    · cases e
  · cases e
theorem cr_int : CallR X (.type "int") (rOfL X b_int) := by
  intro pins s σ H vs us Q I r h
  obtain ⟨W, μ, mh, xs, z, mh', hr, ra, e, q⟩ := h
  unfold b_int at e
  split at e
  · rename_i i
    cases e
    obtain ⟨v, rfl, rv⟩ := rvs1 ra
    cases rv
    exact call_int1 pins s σ H _ us Q I r (.inl ⟨i, rfl, q _ H μ (Stp.refl H μ) hr (Dz.int _)⟩)
  · rename_i b
    cases e
    obtain ⟨v, rfl, rv⟩ := rvs1 ra
    cases rv
    exact call_int1 pins s σ H _ us Q I r (.inr ⟨b, rfl, q _ H μ (Stp.refl H μ) hr (Dz.int _)⟩)
  · cases e
theorem cr_abs : CallR X (.builtin "abs") (rOfL X b_abs) := by
  intro pins s σ H vs us Q I r h
  obtain ⟨W, μ, mh, xs, z, mh', hr, ra, e, q⟩ := h
  unfold b_abs at e
  split at e
  · rename_i i
    cases e
    obtain ⟨v, rfl, rv⟩ := rvs1 ra
    cases rv
    exact call_abs pins s σ H _ us Q I r ⟨i, rfl, q _ H μ (Stp.refl H μ) hr (Dz.int _)⟩
  · cases e
theorem contL_dz {H : Hp} {μ : Mu} {mh : MH} (hr : hR X W H μ mh) {x : Vl} {v : V} {ds : List PyData} (r : rV X W H μ x v) (h : contL x mh = some ds) : ∃ a vs, v = .ref a ∧ SqL X.K H a vs ∧ DzA X.K H (Mo μ W) vs ds := by
  unfold contL at h
  split at h
  · rename_i ys e
    cases h
    cases x with
    | d x =>
      cases e
      cases r with
      | lst a b c => exact ⟨_, _, rfl, SqL.of a, c⟩
    | r i =>
      simp only [cont] at e
      split at e
      · rename_i zs e2
        obtain ⟨es, h1, h2⟩ := Option.map_eq_some_iff.mp e
        cases h2
        obtain ⟨_, a, vs, e1, _, e3, e4⟩ := RV.ref hr r e2
        exact ⟨a, vs, e1, SqL.of e3, allD_dz e4 h1⟩
      · cases e
    | g x => cases e
    | sc ns => cases e
    | x a => cases e
  · cases h
theorem cr_all' (hc : X.calm = true) : CallR X (.builtin "all") (rOfL X b_all) := by
  intro pins s σ H vs us Q I r h
  obtain ⟨W, μ, mh, xs, z, mh', hr, ra, e, q⟩ := h
  unfold b_all at e
  split at e
  · rename_i x
    obtain ⟨v, rfl, rv⟩ := rvs1 ra
    split at e
    · rename_i bs hb
      cases e
      obtain ⟨ds, h1, h2⟩ := Option.bind_eq_some_iff.mp hb
      obtain ⟨a, ws, e1, e2, e3⟩ := contL_dz hr rv h1
      subst e1
      have e4 := boolsOf_ok h2
      subst e4
      have e5 := dz_bools e3
      subst e5
      exact cr_all hc pins s σ H _ us Q I r ⟨a, bs, rfl, e2, q _ H μ (Stp.refl H μ) hr (Dz.bl _)⟩
    · cases e
  · cases e
theorem cr_any' (hc : X.calm = true) : CallR X (.builtin "any") (rOfL X b_any) := by
  intro pins s σ H vs us Q I r h
  obtain ⟨W, μ, mh, xs, z, mh', hr, ra, e, q⟩ := h
  unfold b_any at e
  split at e
  · rename_i x
    obtain ⟨v, rfl, rv⟩ := rvs1 ra
    split at e
    · rename_i bs hb
      cases e
      obtain ⟨ds, h1, h2⟩ := Option.bind_eq_some_iff.mp hb
      obtain ⟨a, ws, e1, e2, e3⟩ := contL_dz hr rv h1
      subst e1
      have e4 := boolsOf_ok h2
      subst e4
      have e5 := dz_bools e3
      subst e5
      exact cr_any hc pins s σ H _ us Q I r ⟨a, bs, rfl, e2, q _ H μ (Stp.refl H μ) hr (Dz.bl _)⟩
    · cases e
  · cases e
theorem sum_tup {prog : Program} {w : World} {A : Around} {E : Value → Shared → Prop} {s : Shared} {t : Addr} {vs : List Value} {ns : List Int} {Q : Value → Shared → Prop} (hh : A.handled = none) (ht : IsTup s.heap t vs.toArray) (hi : IntsAre vs ns)
    (h : ∀ h' tk t', (∀ b o, s.heap.get? b = some o → h'.get? b = some o) → Q (.int ns.sum t') { s with heap := h', toks := tk }) :
    wpAny (model prog w) A (call (.builtin "sum") [.ref t]) Q E s := by
  have hl : s.heap.IsTuple t vs.toArray := ht
  obtain ⟨xs, hx⟩ := hi.allInts.items
  have hn : numsOf vs.toArray.toList = ns := by rw [show vs.toArray.toList = vs from rfl, hi.numsOf]
  rw [hx] at hl hn
  rw [nums_intItems] at hn
  refine PySem.W.ktm_sumG hh hl fun h' tk t' hk => ?_
  rw [preSum_eq, List.take_of_length_le (by simp), hn]
  exact h h' tk t' hk
theorem cr_sum' (hc : X.calm = true) : CallR X (.builtin "sum") (rOfL X b_sum) := by
  intro pins s σ H vs us Q I r h
  obtain ⟨W, μ, mh, xs, z, mh', hr, ra, e, q⟩ := h
  unfold b_sum at e
  split at e
  · rename_i x
    obtain ⟨v, rfl, rv⟩ := rvs1 ra
    split at e
    · rename_i ns hb
      cases e
      obtain ⟨ds, h1, h2⟩ := Option.bind_eq_some_iff.mp hb
      obtain ⟨a, ws, e1, e2, e3⟩ := contS_dz hr rv h1
      subst e1
      have e4 := intsOf_ok h2
      subst e4
      have e5 := dz_ints e3
      subst e5
      rcases e2 with e2 | e2
      · exact cr_sum hc pins s σ H _ us Q I r ⟨a, ns, rfl, e2, q _ H μ (Stp.refl H μ) hr (Dz.int _)⟩
      · obtain ⟨its, rv2, pl, hz⟩ := I.tuple e2
        rw [Vals.ref1 r]
        exact sum_tup (I.ok.hd hc) pl (intsAre_of rv2) fun h' tk t' hk => ⟨.int _, H, I.kept hk, ⟨_, rfl⟩, q _ H μ (Stp.refl H μ) hr (Dz.int _)⟩
    · cases e
  · cases e
theorem max_le {m n k : Nat} (h : m ≤ n) (h2 : k + 200 < cLine) (hn : n ≤ 40) : k + 2 + m < cLine := by omega
theorem cr_sorted' (mk : Bool) (rm : Rm X) : CallR X (.builtin "sorted") (rOfL X (b_sorted mk)) := by
  intro pins s σ H vs us Q I r h
  obtain ⟨W, μ, mh, xs, z, mh', hr, ra, e, q⟩ := h
  unfold b_sorted at e
  split at e
  · rename_i x
    obtain ⟨v, rfl, rv⟩ := rvs1 ra
    split at e
    · rename_i ds hd
      split at e
      · rename_i hc
        rw [Bool.and_eq_true, Bool.and_eq_true, decide_eq_true_eq] at hc
        obtain ⟨⟨c1, c2⟩, c3⟩ := hc
        obtain ⟨hal, hso⟩ := sortTB_ok c1
        obtain ⟨a, ws, e1, e2, e3⟩ := contS_dz hr rv hd
        subst e1
        have dep := (okN_plainAll ds 39 (okN_tuple c2)).2
        have un := rm.un
        have hu : ∀ d, d ∈ ds → X.A.units + 2 + d.depth < cLine := fun d hm => by
          have := okN_tuple c2
          rw [List.all_eq_true] at this
          have := (okN_plain d 39 (this d hm)).2
          omega
        have key : ∀ {T : String} {o : Obj} {items : Array Value} {n : Nat}, (T = "list" ∨ T = "tuple") → s.heap.get? a = some o → o.cls = .type T → o.data = .seq items n → Vals ws items.toList → wpAny (model X.prog X.w) X.A (call (.builtin "sorted") us) (EP X pins σ Q) X.xe s := fun {T o items n} hT ho hcl hdt rv2 => by
          rw [Vals.ref1 r]
          refine sorted_seq hT ho hcl hdt (dz_each I (okN_tuple c2) e3 rv2) hal hso (by rw [← szLine]; exact c3) hu fun h1 h2 ep out k1 k2 k3 k4 k5 => ?_
          obtain ⟨vs', r1, r2⟩ := each_dz (k5 _ (dz_eachV e3 rv2))
          have I1 : Inv X pins σ H { s with heap := h1 } := I.kept (t' := s.toks) k1
          have hp : H h1.objs.size = none := I1.hok.fresh (Nat.le_refl _)
          have ln : vs'.length ≤ sizeLine := by rw [r1.length, k4, ← szLine]; exact c3
          refine ⟨.ref _, upd H h1.objs.size (.lst vs'), I1.laid (t' := s.toks) (h' := h2) k2 (Nat.le_refl _) ⟨ln, out, ep, r1, k3⟩, rfl, ?_⟩
          exact new_mkl hr hp (rvs_dz r2) e q
        rcases e2 with e2 | e2
        · obtain ⟨its, rv2, ⟨o, n, k1, k2, _, k4⟩, _⟩ := I.list e2
          exact key (.inl rfl) k1 k2 k4 (by simpa using rv2)
        · obtain ⟨its, rv2, ⟨o, k1, k2, n, k4⟩, _⟩ := I.tuple e2
          exact key (.inr rfl) k1 k2 k4 (by simpa using rv2)
      · split at e
        · rename_i hc
          rw [Bool.and_eq_true, decide_eq_true_eq] at hc
          obtain ⟨c1, c2⟩ := hc
          obtain ⟨ys, hy⟩ := Option.isSome_iff_exists.mp c2
          have eys : ys = ds := by
            have h1 : contS x mh = some ys := by
              unfold contL at hy
              unfold contS
              split at hy
              · rename_i q
                cases hy
                rw [q]
              · cases hy
            rw [hd] at h1
            exact (Option.some.inj h1).symm
          subst eys
          obtain ⟨a, ws, e1, e2, e3⟩ := contL_dz hr rv hy
          subst e1
          obtain ⟨its, rv2, hl, hz⟩ := I.list e2
          have lw : ws.length = ys.length := e3.length
          have li : its.length = ws.length := (rv2.length).symm
          rw [Vals.ref1 r]
          refine SrtO.sorted_ord (ltv := fun _ _ => false) ⟨fun _ _ _ => rfl, fun _ _ _ _ _ => rfl⟩ hl.isList (by rw [li]; exact hz) (fun h2 => by omega) fun out h1 h2 => ?_
          have ho : out = its := by
            have hp := h2.perm
            match its, out, hp, li with
            | [], out, hp, _ => exact List.perm_nil.mp hp
            | [x], out, hp, _ => exact List.perm_singleton.mp hp
            | x :: y :: r, _, _, li => simp only [List.length_cons] at li; omega
          subst ho
          obtain ⟨ep, he'⟩ := PyProof.Rows.sortedAll_at s.heap out out.toArray
          have hp : H (s.heap.objs.size + 1) = none := I.hok.fresh (Nat.le_succ _)
          refine ⟨.ref _, upd H (s.heap.objs.size + 1) (.lst ws), I.laid (t' := s.toks) (fun _ _ => PyProof.Rows.sortedAll_old) (Nat.le_succ _) ⟨hz, out, ep, rv2, he'⟩, rfl, ?_⟩
          exact new_mkl hr hp (rvs_dz e3) e q
        · cases e
    · cases e
  · cases e
theorem alikeB_ok {xs : List PyData} (h : alikeB xs = true) : PySem.W.AlikeAll xs := by
  unfold alikeB at h
  rw [Bool.and_eq_true, List.all_eq_true, List.all_eq_true] at h
  refine ⟨fun d hd d' hd' => ?_, fun d hd z => ?_⟩
  · have := h.1 d hd
    rw [List.all_eq_true] at this
    exact this d' hd'
  · have := h.2 d hd
    subst z
    simp [isNoneD] at this
/-- a value among some that reads as a datum is related to it -/
theorem mm_fin {H : Hp} {μ : Mu} {s : Shared} {h' : Heap} {pins : List (Addr × Obj)} {σ : L2.St} (I : Inv X pins σ H s) {ws : List V} {its : List Value} {ds : List PyData} {i : Nat} {v : Value} {m : PyData} {bs : List Addr}
    (e3 : DzA X.K H (Mo μ W) ws ds) (rv : Vals ws its) (hi : its[i]? = some v) (hr : Reads h' v m bs) (hk : ∀ b o, s.heap.get? b = some o → h'.get? b = some o) (hp : ds.all (okN 39) = true) : ∃ w, RelV w v ∧ Dz X.K H (Mo μ W) w m := by
  have hl : i < its.length := (List.getElem?_eq_some_iff.mp hi).1
  have hl2 : i < ds.length := by rw [← e3.length, rv.length]; exact hl
  obtain ⟨w, h1, h2⟩ := e3.get (i := i) (List.getElem?_eq_getElem hl2)
  obtain ⟨u, h3, h4⟩ := rv.get h1
  rw [hi] at h3
  cases h3
  obtain ⟨as, h5⟩ := Dp.reads I _ _ _ (Dz.dp _ _ 39 (by rw [List.all_eq_true] at hp; exact hp _ (List.getElem_mem hl2)) h2) h4
  have h6 := PyProof.Rows.Reads.keeps hk h5
  rw [List.all_eq_true] at hp
  have pl := (okN_plain _ 39 (hp _ (List.getElem_mem hl2))).1
  have e := SeqAt.plain_unique _ _ _ _ _ pl h6 hr
  rw [← e]
  exact ⟨w, h4, h2⟩
theorem cr_max' (rm : Rm X) (hcm : X.calm = true) : CallR X (.builtin "max") (rOfL X b_max) := by
  intro pins s σ H vs us Q I r h
  obtain ⟨W, μ, mh, xs, z, mh', hr, ra, e, q⟩ := h
  unfold b_max at e
  split at e
  · rename_i x
    obtain ⟨v, rfl, rv⟩ := rvs1 ra
    split at e
    · rename_i y ys hd
      split at e
      · rename_i hc
        cases e
        rw [Bool.and_eq_true] at hc
        obtain ⟨a, ws, e1, e2, e3⟩ := contS_dz hr rv hd
        subst e1
        have un := rm.un
        have ok39 := okN_tuple hc.2
        have dep := (okN_plainAll (y :: ys) 39 ok39).2
        have hu : X.A.units + 1 + PyData.depthAll (y :: ys) < cLine := by omega
        have fin : ∀ {its : List Value}, Vals ws its → ∀ (i : Nat) (v : Value) (h' : Heap) (tk : Nat) (bs : List Addr), its.toArray[i]? = some v → Reads h' v (PySem.W.maxD y ys) bs → (∀ b o, s.heap.get? b = some o → h'.get? b = some o) →
            EP X pins σ Q v { heap := h', gens := s.gens, drawn := s.drawn, toks := tk, os := s.os } := fun {its} rv2 i v h' tk bs k1 k2 k3 => by
          obtain ⟨w, r1, r2⟩ := mm_fin I e3 rv2 (by simpa using k1) k2 k3 ok39
          exact ⟨w, H, I.kept k3, r1, q _ H μ (Stp.refl H μ) hr r2⟩
        rw [Vals.ref1 r]
        rcases e2 with e2 | e2
        · obtain ⟨its, rv2, pl, _⟩ := I.list e2
          obtain ⟨as, ra2⟩ := Dp.readsAll I _ _ _ (DzA.dp _ _ 39 (List.all_eq_true.mp ok39) e3) rv2
          exact PySem.W.max_list_data (rm.hd hcm) pl.isList (by simpa using ra2) (alikeB_ok hc.1) hu (fin rv2)
        · obtain ⟨its, rv2, pl, _⟩ := I.tuple e2
          obtain ⟨as, ra2⟩ := Dp.readsAll I _ _ _ (DzA.dp _ _ 39 (List.all_eq_true.mp ok39) e3) rv2
          exact PySem.W.max_tuple_data (rm.hd hcm) pl (by simpa using ra2) (alikeB_ok hc.1) hu (fin rv2)
      · cases e
    · cases e
  · cases e
theorem cr_min' (rm : Rm X) (hcm : X.calm = true) : CallR X (.builtin "min") (rOfL X b_min) := by
  intro pins s σ H vs us Q I r h
  obtain ⟨W, μ, mh, xs, z, mh', hr, ra, e, q⟩ := h
  unfold b_min at e
  split at e
  · rename_i x
    obtain ⟨v, rfl, rv⟩ := rvs1 ra
    split at e
    · rename_i y ys hd
      split at e
      · rename_i hc
        cases e
        rw [Bool.and_eq_true] at hc
        obtain ⟨a, ws, e1, e2, e3⟩ := contS_dz hr rv hd
        subst e1
        have un := rm.un
        have ok39 := okN_tuple hc.2
        have dep := (okN_plainAll (y :: ys) 39 ok39).2
        have hu : X.A.units + 1 + PyData.depthAll (y :: ys) < cLine := by omega
        have fin : ∀ {its : List Value}, Vals ws its → ∀ (i : Nat) (v : Value) (h' : Heap) (tk : Nat) (bs : List Addr), its.toArray[i]? = some v → Reads h' v (PySem.W.minD y ys) bs → (∀ b o, s.heap.get? b = some o → h'.get? b = some o) →
            EP X pins σ Q v { heap := h', gens := s.gens, drawn := s.drawn, toks := tk, os := s.os } := fun {its} rv2 i v h' tk bs k1 k2 k3 => by
          obtain ⟨w, r1, r2⟩ := mm_fin I e3 rv2 (by simpa using k1) k2 k3 ok39
          exact ⟨w, H, I.kept k3, r1, q _ H μ (Stp.refl H μ) hr r2⟩
        rw [Vals.ref1 r]
        rcases e2 with e2 | e2
        · obtain ⟨its, rv2, pl, _⟩ := I.list e2
          obtain ⟨as, ra2⟩ := Dp.readsAll I _ _ _ (DzA.dp _ _ 39 (List.all_eq_true.mp ok39) e3) rv2
          exact PySem.W.min_list_data (rm.hd hcm) pl.isList (by simpa using ra2) (alikeB_ok hc.1) hu (fin rv2)
        · obtain ⟨its, rv2, pl, _⟩ := I.tuple e2
          obtain ⟨as, ra2⟩ := Dp.readsAll I _ _ _ (DzA.dp _ _ 39 (List.all_eq_true.mp ok39) e3) rv2
          exact PySem.W.min_tuple_data (rm.hd hcm) pl (by simpa using ra2) (alikeB_ok hc.1) hu (fin rv2)
      · cases e
    · cases e
  · cases e
theorem cr_max2 (hc : X.calm = true) : CallR X (.builtin "max") (rOfL X b_max2) := by
  intro pins s σ H vs us Q I r h
  obtain ⟨W, μ, mh, xs, z, mh', hr, ra, e, q⟩ := h
  unfold b_max2 at e
  split at e
  · rename_i i j
    cases e
    obtain ⟨v, w, rfl, rv, rw⟩ := rvs2 ra
    cases rv; cases rw
    exact call_max2 hc pins s σ H _ us Q I r ⟨i, j, rfl, q _ H μ (Stp.refl H μ) hr (Dz.int _)⟩
  · cases e
theorem cr_min2 (hc : X.calm = true) : CallR X (.builtin "min") (rOfL X b_min2) := by
  intro pins s σ H vs us Q I r h
  obtain ⟨W, μ, mh, xs, z, mh', hr, ra, e, q⟩ := h
  unfold b_min2 at e
  split at e
  · rename_i i j
    cases e
    obtain ⟨v, w, rfl, rv, rw⟩ := rvs2 ra
    cases rv; cases rw
    exact call_min2 hc pins s σ H _ us Q I r ⟨i, j, rfl, q _ H μ (Stp.refl H μ) hr (Dz.int _)⟩
  · cases e
end
end Ev

set_option Elab.async false
set_option linter.all false
set_option autoImplicit false
set_option maxRecDepth 100000
set_option maxHeartbeats 4000000
namespace L2
open PySem PySem.Spec PyProof.Rows
section
variable {X : Cx}
/-- the dict that dict(pairs) makes -/
def mergeT (kvs : List (List Key × V)) : List (List Key × V) := kvs.foldl (fun acc p => putK acc p.1 p.2) []
theorem mergeT_len (kvs : List (List Key × V)) : (mergeT kvs).length ≤ kvs.length := by
  have : ∀ (kvs acc : List (List Key × V)), (kvs.foldl (fun acc p => putK acc p.1 p.2) acc).length ≤ acc.length + kvs.length := by
    intro kvs
    induction kvs with
    | nil => intro acc; simp
    | cons d ds ih =>
      intro acc
      rw [List.foldl_cons, List.length_cons]
      have h1 := ih (putK acc d.1 d.2)
      have h2 := length_putK acc d.1 d.2
      omega
  have h := this kvs []
  rw [List.length_nil, Nat.zero_add] at h
  exact h
abbrev PrT (X : Cx) (H : Hp) (p : Addr) (kv : List Key × V) : Prop := ∃ b, SqT X.K H p [.ref b, kv.2] ∧ H b = some (.tup (kv.1.map kV))
theorem pairsT_of {pins : List (Addr × Obj)} {σ : St} {H : Hp} {s : Shared} (I : Inv X pins σ H s) : ∀ {ps : List Addr} {kvs : List (List Key × V)}, Paired (PrT X H) ps kvs →
    ∃ prs : List (List Key × Addr × Value), KT H kvs prs ∧ prs.length = ps.length ∧ ∀ (j : Nat) (q : List Key × Addr × Value), prs[j]? = some q → ∃ b : Addr, ps[j]? = some b ∧ IsTup s.heap b #[.ref q.2.1, q.2.2] ∧ H q.2.1 = some (.tup (q.1.map kV))
  | _, _, .nil => ⟨[], .nil, rfl, fun j q e => by simp at e⟩
  | _, _, .cons (a := p) (b := kv) h t => by
    obtain ⟨prs, r, hl, hp⟩ := pairsT_of I t
    obtain ⟨b, hs, hb⟩ := h
    obtain ⟨its, rv, ht, _⟩ := I.tuple hs
    obtain ⟨u, y, ei, ru, ry⟩ := vals2 rv
    subst ei
    cases ru
    refine ⟨(kv.1, b, y) :: prs, .cons ⟨rfl, hb, ry⟩ r, by rw [List.length_cons, List.length_cons, hl], fun j q e => ?_⟩
    cases j with
    | zero =>
      have e' : (kv.1, b, y) = q := Option.some.inj e
      subst e'
      exact ⟨p, rfl, ht, hb⟩
    | succ j =>
      obtain ⟨c, e1, e2, e3⟩ := hp j q (by simpa using e)
      exact ⟨c, by simpa using e1, e2, e3⟩
theorem kt_merge {H : Hp} : ∀ (kvs : List (List Key × V)) (prs acc2 : List (List Key × Addr × Value)) (acc : List (List Key × V)), KT H kvs prs → KT H acc acc2 → KT H (kvs.foldl (fun acc p => putK acc p.1 p.2) acc) (storedAllH acc2 prs) := by
  intro kvs
  induction kvs with
  | nil =>
    intro prs acc2 acc h r
    cases h
    exact r
  | cons a kvs ih =>
    intro prs acc2 acc h r
    cases h with
    | cons h t =>
      rename_i b prs
      obtain ⟨k, v⟩ := a
      obtain ⟨k2, c, u⟩ := b
      obtain ⟨h1, h2, h3⟩ := h
      have h1 : k = k2 := h1
      subst h1
      exact ih prs _ _ t (r.put k h2 h3)
/-- dict(xs) of a list of pairs (key, value), the keys tracked tuples -/
theorem call_dictT (un : X.A.units + 10 < cLine) (hcalm : X.calm = true) : CallR X (.type "dict") (fun xs H Q => ∃ (a : Addr) (ps : List Addr) (kvs : List (List Key × V)), xs = [.ref a] ∧ SqL X.K H a (ps.map V.ref) ∧ Paired (PrT X H) ps kvs ∧
    ∀ p, H p = none → Q (.ref p) (upd H p (.dT (mergeT kvs)))) := by
  intro pins s σ H xs us Q I r q
  obtain ⟨a, ps, kvs, ex, hq, hp, q⟩ := q
  subst ex
  obtain ⟨u, eu, rx⟩ := vals1 r
  subst eu
  cases rx
  obtain ⟨its, rv, pl, hz⟩ := I.list hq
  have ei := refs_at rv
  subst ei
  rw [List.length_map] at hz
  obtain ⟨prs, rel, hl, hpr⟩ := pairsT_of I hp
  obtain ⟨o, n, ho, hc, hd, hdat⟩ := pl
  have hps : ∀ j k v, (prs.map fun x => ((Value.ref x.2.1 : Value), x.2.2))[j]? = some (k, v) → ∃ q : List Key × Addr × Value, prs[j]? = some q ∧ k = Value.ref q.2.1 ∧ v = q.2.2 := fun j k v e => by
    rw [List.getElem?_map, Option.map_eq_some_iff] at e
    obtain ⟨q, e1, e2⟩ := e
    cases e2
    exact ⟨q, e1, rfl, rfl⟩
  have hm : (s.heap.objs.size == sysModules) = false := beq_eq_false_iff_ne.mpr (Nat.ne_of_gt I.big)
  refine call_dict_pairsH (knd := tupleKind (mixKind X.prog X.w)) (ps := prs) (PairArg.list a (ps.map Value.ref).toArray (fun j => ps.getD j 0) (prs.map fun x => ((Value.ref x.2.1 : Value), x.2.2))) (I.ok.hd hcalm) (show X.A.units + 1 + 1 < cLine by omega)
    ⟨⟨o, n, ho, hc, hd, hdat⟩, by simp [hl], fun j k v e => ?_⟩ ⟨by rw [List.length_map], fun i k v e => ?_⟩ (fun h' hk x hx => ?_) (by rw [List.length_map, hl]; exact hz) fun h' tk hd' k => ?_
  · obtain ⟨q', e1, rfl, rfl⟩ := hps j k v e
    obtain ⟨b, e2, e3, _⟩ := hpr j q' e1
    refine ⟨by simp [e2], .inl ?_⟩
    have eb : ps.getD j 0 = b := by rw [List.getD_eq_getElem?_getD, e2]; rfl
    show s.heap.IsTuple (ps.getD j 0) _
    rw [eb]
    obtain ⟨ob, g1, g2, m, g3⟩ := e3
    exact ⟨ob, g1, g2, m, g3⟩
  · obtain ⟨q', e1, rfl, rfl⟩ := hps i k v e
    exact ⟨q'.1, q'.2.1, e1, rfl⟩
  · obtain ⟨j, hj, e⟩ := List.mem_iff_getElem.mp hx
    obtain ⟨b, _, _, e3⟩ := hpr j x (by rw [List.getElem?_eq_getElem hj, e])
    obtain ⟨o', its', n', h1, h2, h3, h4⟩ := key_of I.hok e3
    exact ⟨o', its', n', hk _ _ (Nat.ne_of_lt (Heap.lt_size h1)) (fun z => nomatch z) h1, h2, h3, h4⟩
  · obtain ⟨q', es, ep, hq', h2, h3, h4, _, h5⟩ := hd'
    have hlen : (mergeT kvs).length ≤ sizeLine := by
      refine Nat.le_trans (mergeT_len kvs) ?_
      rw [Paired.length rel, hl]
      exact hz
    have hf : H s.heap.objs.size = none := I.hok.fresh (Nat.le_refl _)
    have kt := kt_merge kvs prs [] [] rel .nil
    exact ⟨.ref s.heap.objs.size, upd H s.heap.objs.size (.dT (mergeT kvs)), I.laid (t' := tk) (fun b o e => k b o (fun z => nomatch z) e) (Nat.le_refl _) ⟨hlen, hm, storedAllH [] prs, kt.keeps fun c ys ec => by rw [upd_ne (ne_of_none ec hf)]; exact ec, q', es, ep, hq', h2, h3, h4, h5⟩, rfl, q _ hf⟩
end
end L2
namespace Ev
open PySem PySem.Spec PyProof.Rows L2
section
variable {K : PySem.W.Frag} {mg : Str → Option Value} {W : List Addr} {H : Hp} {μ : Mu} {mh : MH} {B : Addr → Prop}
theorem dz_keyK {v : V} {d : PyData} {c : L2.Key} (h : Dz K H B v d) (e : keyK d = some c) : v = kV c := by
  cases h with
  | int i => cases e; rfl
  | str x => cases e; rfl
  | _ => cases e
theorem dz_keysK : ∀ {vs : List V} {ds : List PyData} {cs : List L2.Key}, DzA K H B vs ds → keysK ds = some cs → vs = cs.map kV
  | _, _, cs, .nil, e => by cases e; rfl
  | _, _, cs, .cons (d := d) (ds := ds) r t, e => by
    unfold keysK at e
    split at e
    · rename_i k ks e1 e2
      cases e
      rw [List.map_cons, dz_keyK r e1, dz_keysK t e2]
    · cases e
theorem dz_keyT {v : V} {d : PyData} {cs : List L2.Key} (h : Dz K H B v d) (e : keyT d = some cs) : ∃ b, v = .ref b ∧ H b = some (.tup (cs.map kV)) := by
  obtain ⟨hk, xs, rfl, e9⟩ := keyT_some e
  cases h with
  | tupA a c =>
    rcases a with a | a
    · exact ⟨_, rfl, by rw [← dz_keysK c e9]; exact a⟩
    · rw [a.1] at hk; cases hk
theorem kc_f {d : PyData} {q : L2.Key} (h : keyK d = some q) (c : L2.Key) : (kc false d = some [c]) ↔ q = c := by
  have e : kc false d = (keyK d).map fun x => [x] := rfl
  rw [e, h]
  simp
theorem kc_t {d : PyData} {q : List L2.Key} (h : keyT d = some q) (c : List L2.Key) : (kc true d = some c) ↔ q = c := by
  have e : kc true d = keyT d := rfl
  rw [e, h]
  simp
theorem kc_f1 {d : PyData} {c : List L2.Key} (h : kc false d = some c) : ∃ q, keyK d = some q ∧ c = [q] := by
  have e : kc false d = (keyK d).map fun x => [x] := rfl
  rw [e, Option.map_eq_some_iff] at h
  obtain ⟨q, h1, h2⟩ := h
  exact ⟨q, h1, h2.symm⟩
/-- what the two say at a key -/
def FR (K : PySem.W.Frag) (H : Hp) (B : Addr → Prop) (o : Option PyData) (r : Option V) : Prop := match o with
  | some d => ∃ u, r = some u ∧ Dz K H B u d
  | none => r = none
theorem find_f {c : L2.Key} : ∀ {kvs : List (PyData × PyData)} {ks : List (L2.Key × V)}, Paired (fun (p : PyData × PyData) (q : L2.Key × V) => keyK p.1 = some q.1 ∧ Dz K H B q.2 p.2) kvs ks → FR K H B (dfind false kvs [c]) (valV ks c)
  | _, _, .nil => rfl
  | _, _, .cons (a := p) (b := q) (l₁ := kvs) (l₂ := ks) r t => by
    by_cases h : q.1 = c
    · have e1 : dfind false (p :: kvs) [c] = some p.2 := by
        unfold dfind
        rw [List.find?_cons, decide_eq_true ((kc_f r.1 c).mpr h)]; rfl
      rw [e1, valV_pos h]
      exact ⟨_, rfl, r.2⟩
    · have e1 : dfind false (p :: kvs) [c] = dfind false kvs [c] := by
        unfold dfind
        rw [List.find?_cons, decide_eq_false (fun z => h ((kc_f r.1 c).mp z))]
      rw [e1, valV_neg h]
      exact find_f t
theorem find_t {c : List L2.Key} : ∀ {kvs : List (PyData × PyData)} {ks : List (List L2.Key × V)}, Paired (fun (p : PyData × PyData) (q : List L2.Key × V) => keyT p.1 = some q.1 ∧ Dz K H B q.2 p.2) kvs ks → FR K H B (dfind true kvs c) (valV ks c)
  | _, _, .nil => rfl
  | _, _, .cons (a := p) (b := q) (l₁ := kvs) (l₂ := ks) r t => by
    by_cases h : q.1 = c
    · have e1 : dfind true (p :: kvs) c = some p.2 := by
        unfold dfind
        rw [List.find?_cons, decide_eq_true ((kc_t r.1 c).mpr h)]; rfl
      rw [e1, valV_pos h]
      exact ⟨_, rfl, r.2⟩
    · have e1 : dfind true (p :: kvs) c = dfind true kvs c := by
        unfold dfind
        rw [List.find?_cons, decide_eq_false (fun z => h ((kc_t r.1 c).mp z))]
      rw [e1, valV_neg h]
      exact find_t t
theorem DR.get {a : Addr} {t : Bool} {kvs : List (PyData × PyData)} {k : PyData} {c : List L2.Key} {v : V} (h : DR K H B a t kvs) (r : Dz K H B v k) (e : kc t k = some c) : ∃ o, DGet H a v o ∧ FR K H B (dfind t kvs c) o := by
  rcases h with ⟨rfl, ks, h1, h2⟩ | ⟨rfl, ks, h1, h2⟩
  · obtain ⟨q, k1, rfl⟩ := kc_f1 e
    rw [dz_keyK r k1]
    exact ⟨_, DGet.k h1, find_f h2⟩
  · obtain ⟨b, rfl, hb⟩ := dz_keyT r e
    exact ⟨_, DGet.t h1 hb, find_t h2⟩
theorem DR.isD {a : Addr} {t : Bool} {kvs : List (PyData × PyData)} (h : DR K H B a t kvs) : IsD H a := by
  rcases h with ⟨_, ks, h1, _⟩ | ⟨_, ks, h1, _⟩
  · exact .inl ⟨ks, .inl h1⟩
  · exact .inr ⟨ks, .inl h1⟩
theorem DR.len {a : Addr} {t : Bool} {kvs : List (PyData × PyData)} (h : DR K H B a t kvs) : (t = false ∧ ∃ ks : List (L2.Key × V), H a = some (.dK ks) ∧ ks.length = kvs.length) ∨ (t = true ∧ ∃ ks : List (List L2.Key × V), H a = some (.dT ks) ∧ ks.length = kvs.length) := by
  rcases h with ⟨e, ks, h1, h2⟩ | ⟨e, ks, h1, h2⟩
  · exact .inl ⟨e, ks, h1, (Paired.length h2).symm⟩
  · exact .inr ⟨e, ks, h1, (Paired.length h2).symm⟩
theorem any_f {c : L2.Key} : ∀ {kvs : List (PyData × PyData)} {ks : List (L2.Key × V)}, Paired (fun (p : PyData × PyData) (q : L2.Key × V) => keyK p.1 = some q.1 ∧ Dz K H B q.2 p.2) kvs ks → (kvs.any fun p => decide (kc false p.1 = some [c])) = ks.any fun q => decide (q.1 = c)
  | _, _, .nil => rfl
  | _, _, .cons r t => by
    rw [List.any_cons, List.any_cons, any_f t]
    congr 1
    exact decide_eq_decide.mpr (kc_f r.1 c)
theorem any_t {c : List L2.Key} : ∀ {kvs : List (PyData × PyData)} {ks : List (List L2.Key × V)}, Paired (fun (p : PyData × PyData) (q : List L2.Key × V) => keyT p.1 = some q.1 ∧ Dz K H B q.2 p.2) kvs ks → (kvs.any fun p => decide (kc true p.1 = some c)) = ks.any fun q => decide (q.1 = c)
  | _, _, .nil => rfl
  | _, _, .cons r t => by
    rw [List.any_cons, List.any_cons, any_t t]
    congr 1
    exact decide_eq_decide.mpr (kc_t r.1 c)
theorem map_f {c : L2.Key} {w : V} {d : PyData} (rd : Dz K H B w d) : ∀ {kvs : List (PyData × PyData)} {ks : List (L2.Key × V)}, Paired (fun (p : PyData × PyData) (q : L2.Key × V) => keyK p.1 = some q.1 ∧ Dz K H B q.2 p.2) kvs ks →
    Paired (fun (p : PyData × PyData) (q : L2.Key × V) => keyK p.1 = some q.1 ∧ Dz K H B q.2 p.2) (kvs.map fun p => if kc false p.1 = some [c] then (p.1, d) else p) (ks.map fun q => if q.1 = c then (q.1, w) else q)
  | _, _, .nil => .nil
  | _, _, .cons (a := p) (b := q) r t => by
    rw [List.map_cons, List.map_cons]
    refine .cons ?_ (map_f rd t)
    by_cases h : q.1 = c
    · rw [if_pos ((kc_f r.1 c).mpr h), if_pos h]; exact ⟨r.1, rd⟩
    · rw [if_neg (fun z => h ((kc_f r.1 c).mp z)), if_neg h]; exact r
theorem map_t {c : List L2.Key} {w : V} {d : PyData} (rd : Dz K H B w d) : ∀ {kvs : List (PyData × PyData)} {ks : List (List L2.Key × V)}, Paired (fun (p : PyData × PyData) (q : List L2.Key × V) => keyT p.1 = some q.1 ∧ Dz K H B q.2 p.2) kvs ks →
    Paired (fun (p : PyData × PyData) (q : List L2.Key × V) => keyT p.1 = some q.1 ∧ Dz K H B q.2 p.2) (kvs.map fun p => if kc true p.1 = some c then (p.1, d) else p) (ks.map fun q => if q.1 = c then (q.1, w) else q)
  | _, _, .nil => .nil
  | _, _, .cons (a := p) (b := q) r t => by
    rw [List.map_cons, List.map_cons]
    refine .cons ?_ (map_t rd t)
    by_cases h : q.1 = c
    · rw [if_pos ((kc_t r.1 c).mpr h), if_pos h]; exact ⟨r.1, rd⟩
    · rw [if_neg (fun z => h ((kc_t r.1 c).mp z)), if_neg h]; exact r
theorem paired_snoc {α β : Type} {F : α → β → Prop} {a : α} {b : β} (r : F a b) : ∀ {l : List α} {m : List β}, Paired F l m → Paired F (l ++ [a]) (m ++ [b])
  | _, _, .nil => .cons r .nil
  | _, _, .cons r' t => .cons r' (paired_snoc r t)
/-- the mutable object i is written -/
theorem HR.writeD {i : Nat} {a : Addr} {t : Bool} {kvs kvs' : List (PyData × PyData)} {o : HO} (hr : HR K mg W H μ mh) (hi : mh[i]? = some (.dct t kvs)) (ha : μ[i]? = some (some a)) (mo : ∃ o', H a = some o' ∧ ∀ xs, o' ≠ .lst xs ∧ o' ≠ .tup xs) (hd : (∀ v d, Dz K H (Mo μ W) v d → Dz K (upd H a o) (Mo μ W) v d) → DR K (upd H a o) (Mo μ W) a t kvs') :
    Stp H μ (upd H a o) μ ∧ HR K mg W (upd H a o) μ (mh.set i (.dct t kvs')) := by
  have am : some a ∈ μ := List.mem_of_getElem? ha
  have il : i < mh.length := (List.getElem?_eq_some_iff.mp hi).1
  have st : Stp H μ (upd H a o) μ := by
    refine ⟨fun b ob h hn _ => by rw [upd_ne (fun z => hn (by rw [z]; exact am))]; exact h, fun _ _ _ t => (hr.some_mu am).elim fun o' w => tabs_mut w.1 w.2 t, fun _ _ h => .inl h, fun _ h => .inl h, fun b h => ?_⟩
    by_cases e : b = a
    · rw [e, upd_same]; simp
    · rw [upd_ne e]; exact h
  refine ⟨st, by rw [List.length_set]; exact hr.len, hr.nd, fun j h => ?_, fun j zs h => ?_, fun j t2 kv2 h => ?_, fun b hb' => ?_, fun x hx c P e => st.tab x hx P (hr.tab x hx c P e)⟩
  · by_cases e : j = i
    · subst e; rw [List.getElem?_set_self il] at h; cases h
    · rw [List.getElem?_set_ne (Ne.symm e)] at h; exact hr.dead j h
  · by_cases e : j = i
    · subst e
      rw [List.getElem?_set_self il] at h; cases h
    · rw [List.getElem?_set_ne (Ne.symm e)] at h
      obtain ⟨b, c, us, e1, e2, e3⟩ := hr.lst j zs h
      have ne : c ≠ a := fun z => e (hr.nd j i a (by rw [e1, z]) ha)
      exact ⟨b, c, us, e1, by rw [upd_ne ne]; exact e2, Paired.mapP e3 fun _ _ r => st.rv hr r⟩
  · by_cases e : j = i
    · subst e
      rw [List.getElem?_set_self il] at h
      cases h
      exact ⟨a, ha, hd fun v d r => st.dz hr r⟩
    · rw [List.getElem?_set_ne (Ne.symm e)] at h
      obtain ⟨c, e1, e2⟩ := hr.dct j t2 kv2 h
      have ne : c ≠ a := fun z => e (hr.nd j i a (by rw [e1, z]) ha)
      exact ⟨c, e1, e2.mono (fun ob e => by rw [upd_ne ne]; exact e) fun _ _ r => st.dz hr r⟩
  · obtain ⟨h1, h2⟩ := hr.w b hb'
    exact ⟨st.there b h1, h2⟩
theorem HR.put {i : Nat} {a : Addr} {t : Bool} {kvs : List (PyData × PyData)} {k d : PyData} {c : List L2.Key} {v w : V} (hr : HR K mg W H μ mh) (hi : mh[i]? = some (.dct t kvs)) (ha : μ[i]? = some (some a)) (rk : Dz K H (Mo μ W) v k) (rd : Dz K H (Mo μ W) w d) (e : kc t k = some c) (hl : kvs.length < sz) :
    ∃ H', DPut H a v w H' ∧ Stp H μ H' μ ∧ HR K mg W H' μ (mh.set i (.dct t (dputL t kvs k c d))) := by
  obtain ⟨a', e1, e2⟩ := hr.dct i t kvs hi
  rw [ha] at e1; cases e1
  have hl' : kvs.length < sizeLine := by rw [sizeLine_eq]; exact hl
  rcases e2 with ⟨rfl, ks, h1, h2⟩ | ⟨rfl, ks, h1, h2⟩
  · obtain ⟨q, k1, rfl⟩ := kc_f1 e
    have hv := dz_keyK rk k1
    subst hv
    refine ⟨_, DPut.k h1 (by rw [← Paired.length h2]; exact hl'), hr.writeD hi ha ⟨_, h1, fun xs => ⟨by simp, by simp⟩⟩ fun m => .inl ⟨rfl, _, upd_same, ?_⟩⟩
    unfold dputL putK
    rw [any_f h2]
    split
    · rename_i hc
      have h4 := map_f (c := q) rd h2
      exact Paired.mapP h4 fun p r z => ⟨z.1, by have := m _ _ z.2; unfold putK at this; rw [if_pos hc] at this; exact this⟩
    · rename_i hc
      have h4 := paired_snoc (a := (k, d)) (b := (q, w)) (F := fun (p : PyData × PyData) (q : L2.Key × V) => keyK p.1 = some q.1 ∧ Dz K H (Mo μ W) q.2 p.2) ⟨k1, rd⟩ h2
      exact Paired.mapP h4 fun p r z => ⟨z.1, by have := m _ _ z.2; unfold putK at this; rw [if_neg hc] at this; exact this⟩
  · obtain ⟨b, rfl, hb⟩ := dz_keyT rk e
    refine ⟨_, DPut.t h1 hb (by rw [← Paired.length h2]; exact hl'), hr.writeD hi ha ⟨_, h1, fun xs => ⟨by simp, by simp⟩⟩ fun m => .inr ⟨rfl, _, upd_same, ?_⟩⟩
    unfold dputL putK
    rw [any_t h2]
    split
    · rename_i hc
      have h4 := map_t (c := c) rd h2
      exact Paired.mapP h4 fun p r z => ⟨z.1, by have := m _ _ z.2; unfold putK at this; rw [if_pos hc] at this; exact this⟩
    · rename_i hc
      have h4 := paired_snoc (a := (k, d)) (b := (c, w)) (F := fun (p : PyData × PyData) (q : List L2.Key × V) => keyT p.1 = some q.1 ∧ Dz K H (Mo μ W) q.2 p.2) ⟨e, rd⟩ h2
      exact Paired.mapP h4 fun p r z => ⟨z.1, by have := m _ _ z.2; unfold putK at this; rw [if_neg hc] at this; exact this⟩
/-- a new dict -/
theorem HR.growD {p : Addr} (t : Bool) (hr : HR K mg W H μ mh) (hp : H p = none) : Stp H μ (upd H p (if t = true then .dT [] else .dK [])) (μ ++ [some p]) ∧ HR K mg W (upd H p (if t = true then .dT [] else .dK [])) (μ ++ [some p]) (mh ++ [.dct t []]) := by
  generalize hob : (if t = true then HO.dT [] else HO.dK []) = ob
  have st : Stp H μ (upd H p ob) (μ ++ [some p]) := by
    refine ⟨fun a o h _ _ => by rw [upd_ne (ne_of_none h hp)]; exact h, fun _ _ _ t => tabs_fresh hp t, fun i e h => .inl ?_, fun a h => ?_, fun a h => ?_⟩
    · rw [List.getElem?_append_left (List.getElem?_eq_some_iff.mp h).1]; exact h
    · rcases List.mem_append.mp h with q | q
      · exact .inl q
      · have : a = p := by simpa using q
        subst this
        exact .inr hp
    · by_cases e : a = p
      · rw [e, upd_same]; simp
      · rw [upd_ne e]; exact h
  have get : ∀ (i : Nat) (o : MO), (mh ++ [.dct t []])[i]? = some o → mh[i]? = some o ∨ (i = mh.length ∧ o = .dct t []) := fun i o h => by
    by_cases hi : i < mh.length
    · rw [List.getElem?_append_left hi] at h; exact .inl h
    · rw [List.getElem?_append_right (by omega)] at h
      by_cases e : i = mh.length
      · subst e
        simp at h
        exact .inr ⟨rfl, h.symm⟩
      · rw [List.getElem?_eq_none (by simp; omega)] at h; cases h
  have old : ∀ {i : Nat} {e : Option Addr}, μ[i]? = some e → (μ ++ [some p])[i]? = some e := fun {i e} h => by
    rw [List.getElem?_append_left (List.getElem?_eq_some_iff.mp h).1]; exact h
  have last : (μ ++ [some p])[mh.length]? = some (some p) := by rw [← hr.len]; simp
  refine ⟨st, by rw [List.length_append, List.length_append, hr.len]; rfl, fun i j a h1 h2 => ?_, fun i h => ?_, fun i ys h => ?_, fun i t2 kvs h => ?_, fun a ha => ?_, fun x hx c P e => st.tab x hx P (hr.tab x hx c P e)⟩
  · have key : ∀ k : Nat, (μ ++ [some p])[k]? = some (some a) → (μ[k]? = some (some a)) ∨ (k = μ.length ∧ a = p) := fun k h => by
      by_cases hk : k < μ.length
      · rw [List.getElem?_append_left hk] at h; exact .inl h
      · rw [List.getElem?_append_right (by omega)] at h
        by_cases e : k = μ.length
        · subst e; simp at h; exact .inr ⟨rfl, h.symm⟩
        · rw [List.getElem?_eq_none (by simp; omega)] at h; cases h
    rcases key i h1 with q1 | ⟨q1, r1⟩ <;> rcases key j h2 with q2 | ⟨q2, r2⟩
    · exact hr.nd i j a q1 q2
    · subst r2; exact absurd (List.mem_of_getElem? q1) (hr.notin hp)
    · subst r1; exact absurd (List.mem_of_getElem? q2) (hr.notin hp)
    · rw [q1, q2]
  · rcases get i _ h with q | ⟨_, q⟩
    · exact old (hr.dead i q)
    · cases q
  · rcases get i _ h with q | ⟨q1, q2⟩
    · obtain ⟨b, a, ws, e1, e2, e3⟩ := hr.lst i ys q
      exact ⟨b, a, ws, old e1, by rw [upd_ne (ne_of_none e2 hp)]; exact e2, Paired.mapP e3 fun _ _ r => st.rv hr r⟩
    · cases q2
  · rcases get i _ h with q | ⟨q1, q2⟩
    · obtain ⟨a, e1, e2⟩ := hr.dct i t2 kvs q
      exact ⟨a, old e1, e2.mono (fun o e => by rw [upd_ne (ne_of_none e hp)]; exact e) fun _ _ r => st.dz hr r⟩
    · cases q2
      subst q1
      refine ⟨p, last, ?_⟩
      cases t with
      | false => exact .inl ⟨rfl, [], by rw [upd_same, ← hob]; rfl, .nil⟩
      | true => exact .inr ⟨rfl, [], by rw [upd_same, ← hob]; rfl, .nil⟩
  · obtain ⟨h1, h2⟩ := hr.w a ha
    refine ⟨st.there a h1, fun z => ?_⟩
    rcases List.mem_append.mp z with q | q
    · exact h2 q
    · have : a = p := by simpa using q
      subst this
      exact h1 hp
end
section
variable {K : PySem.W.Frag} {mg : Str → Option Value} {W : List Addr} {H : Hp} {μ : Mu} {mh : MH} {B : Addr → Prop}
abbrev RlG (K : PySem.W.Frag) (H : Hp) (B : Addr → Prop) (p : PyData × PyData) (q : List L2.Key × V) : Prop := keyT p.1 = some q.1 ∧ Dz K H B q.2 p.2
theorem rlg_put {kvs : List (PyData × PyData)} {ks : List (List L2.Key × V)} {k d : PyData} {c : List L2.Key} {w : V} (h2 : Paired (RlG K H B) kvs ks) (e : keyT k = some c) (rd : Dz K H B w d) : Paired (RlG K H B) (dputL true kvs k c d) (putK ks c w) := by
  unfold dputL putK
  rw [any_t h2]
  split
  · exact map_t (c := c) rd h2
  · exact paired_snoc (a := (k, d)) (b := (c, w)) (F := RlG K H B) ⟨e, rd⟩ h2
theorem rlg_fold : ∀ {ps : List (PyData × PyData)} {kvs : List (List L2.Key × V)} {acc : List (PyData × PyData)} {acc2 : List (List L2.Key × V)}, Paired (RlG K H B) ps kvs → Paired (RlG K H B) acc acc2 →
    Paired (RlG K H B) (ps.foldl (fun acc p => dputL true acc p.1 ((keyT p.1).getD []) p.2) acc) (kvs.foldl (fun acc p => putK acc p.1 p.2) acc2)
  | _, _, _, _, .nil, r => r
  | _, _, _, _, .cons (a := a) (b := b) h t, r => by
    rw [List.foldl_cons, List.foldl_cons]
    refine rlg_fold t ?_
    rw [h.1]
    exact rlg_put r h.1 h.2
theorem pairsT_ok : ∀ {ds : List PyData} {ps : List (PyData × PyData)} {vs : List V}, DzA K H B vs ds → pairsT ds = some ps → ∃ (as : List Addr) (kvs : List (List L2.Key × V)), vs = as.map V.ref ∧
    Paired (fun p kv => ∃ b, SqT K H p [.ref b, kv.2] ∧ H b = some (.tup (kv.1.map kV))) as kvs ∧ Paired (RlG K H B) ps kvs
  | [], ps, vs, h, e => by
    cases h; cases e
    exact ⟨[], [], rfl, .nil, .nil⟩
  | d :: ds, ps, vs, h, e => by
    cases h with
    | cons r t =>
      unfold pairsT at e
      split at e
      · rename_i heq
        cases heq
      · rename_i heq
        cases heq
        split at e
        · rename_i hk
          rw [Option.map_eq_some_iff] at e
          obtain ⟨ps', e1, e2⟩ := e
          subst e2
          obtain ⟨as, kvs, h1, h2, h3⟩ := pairsT_ok t e1
          subst h1
          obtain ⟨c, hc⟩ := Option.isSome_iff_exists.mp hk
          cases r with
          | tupA a q =>
            cases q with
            | cons r1 q =>
              cases q with
              | cons r2 q =>
                cases q
                obtain ⟨b, rfl, hb⟩ := dz_keyT r1 hc
                exact ⟨_ :: as, (c, _) :: kvs, rfl, .cons ⟨b, tsq a, hb⟩ h2, .cons ⟨hc, r2⟩ h3⟩
        · cases e
      · cases e
end
section
variable {K : PySem.W.Frag} {H : Hp} {B : Addr → Prop}
abbrev RlK (K : PySem.W.Frag) (H : Hp) (B : Addr → Prop) (p : PyData × PyData) (q : L2.Key × V) : Prop := keyK p.1 = some q.1 ∧ Dz K H B q.2 p.2
theorem kc_fK {k : PyData} {c : L2.Key} (e : keyK k = some c) : kc false k = some [c] := by
  unfold kc
  simp [e]
theorem rlk_put {kvs : List (PyData × PyData)} {ks : List (L2.Key × V)} {k d : PyData} {c : L2.Key} {w : V} (h2 : Paired (RlK K H B) kvs ks) (e : keyK k = some c) (rd : Dz K H B w d) : Paired (RlK K H B) (dputL false kvs k [c] d) (putK ks c w) := by
  unfold dputL putK
  rw [any_f h2]
  split
  · exact map_f (c := c) rd h2
  · exact paired_snoc (a := (k, d)) (b := (c, w)) (F := RlK K H B) ⟨e, rd⟩ h2
theorem rlk_fold : ∀ {ps : List (PyData × PyData)} {kvs : List (L2.Key × V)} {acc : List (PyData × PyData)} {acc2 : List (L2.Key × V)}, Paired (RlK K H B) ps kvs → Paired (RlK K H B) acc acc2 →
    Paired (RlK K H B) (ps.foldl (fun acc p => dputL false acc p.1 ((kc false p.1).getD []) p.2) acc) (kvs.foldl (fun acc p => putK acc p.1 p.2) acc2)
  | _, _, _, _, .nil, r => r
  | _, _, _, _, .cons (a := a) (b := b) h t, r => by
    rw [List.foldl_cons, List.foldl_cons]
    refine rlk_fold t ?_
    rw [kc_fK h.1]
    exact rlk_put r h.1 h.2
theorem pairsK_ok : ∀ {ds : List PyData} {ps : List (PyData × PyData)} {vs : List V}, DzA K H B vs ds → pairsK ds = some ps → ∃ (as : List Addr) (kvs : List (L2.Key × V)), vs = as.map V.ref ∧
    Paired (fun p kv => SqT K H p [kV kv.1, kv.2]) as kvs ∧ Paired (RlK K H B) ps kvs
  | [], ps, vs, h, e => by
    cases h; cases e
    exact ⟨[], [], rfl, .nil, .nil⟩
  | d :: ds, ps, vs, h, e => by
    cases h with
    | cons r t =>
      unfold pairsK at e
      split at e
      · rename_i heq
        cases heq
      · rename_i heq
        cases heq
        split at e
        · rename_i hk
          rw [Option.map_eq_some_iff] at e
          obtain ⟨ps', e1, e2⟩ := e
          subst e2
          obtain ⟨as, kvs, h1, h2, h3⟩ := pairsK_ok t e1
          subst h1
          obtain ⟨c, hc⟩ := Option.isSome_iff_exists.mp hk
          cases r with
          | tupA a q =>
            cases q with
            | cons r1 q =>
              cases q with
              | cons r2 q =>
                cases q
                have ev := dz_keyK r1 hc
                subst ev
                exact ⟨_ :: as, (c, _) :: kvs, rfl, .cons (tsq a) h2, .cons ⟨hc, r2⟩ h3⟩
        · cases e
      · cases e
end
section
variable {X : Cx}
theorem cr_dictP (rm : Rm X) (hc : X.calm = true) : CallR X (.type "dict") (rOfL X b_dictP) := by
  intro pins s σ H vs us Q I r h
  obtain ⟨W, μ, mh, xs, z, mh', hr, ra, e, q⟩ := h
  unfold b_dictP at e
  split at e
  · rename_i ds
    obtain ⟨v, rfl, rv⟩ := rvs1 ra
    · split at e
      · rename_i ps hps
        split at e
        · rename_i hz
          cases e
          cases rv with
          | lst a nb c =>
            obtain ⟨as, kvs, h1, h2, h3⟩ := pairsT_ok c hps
            subst h1
            have un := rm.un
            refine call_dictT (by omega) hc pins s σ H _ us Q I r ⟨_, as, kvs, rfl, SqL.of a, h2, fun p hp => ?_⟩
            obtain ⟨s1, g1⟩ := HR.growD (p := p) true hr hp
            have e0 : upd H p (if true = true then HO.dT [] else .dK []) = upd H p (.dT []) := by rw [if_pos rfl]
            rw [e0] at s1 g1
            have hi : (mh ++ [MO.dct true []])[mh.length]? = some (.dct true []) := by simp
            have ha : (μ ++ [some p])[mh.length]? = some (some p) := by rw [← hr.len]; simp
            obtain ⟨s2, g2⟩ := HR.writeD (o := .dT (mergeT kvs)) (kvs' := dpairsL ps) g1 hi ha ⟨_, upd_same, fun xs => ⟨by simp, by simp⟩⟩ (fun m => .inr ⟨rfl, mergeT kvs, upd_same, Paired.mapP (rlg_fold h3 .nil) fun p q z => ⟨z.1, m _ _ (s1.dz hr z.2)⟩⟩)
            rw [L2.upd_upd] at s2 g2
            have e2 : (mh ++ [MO.dct true []]).set mh.length (.dct true (dpairsL ps)) = mh ++ [.dct true (dpairsL ps)] := by simp
            rw [e2] at g2
            refine q _ _ _ (s1.trans s2) g2 ⟨by rw [List.length_append, hr.len]; simp, fun a e => ?_⟩
            rw [← hr.len] at e
            simp at e
            rw [e]
        · cases e
      · split at e
        · rename_i ps hps
          split at e
          · rename_i hz
            cases e
            cases rv with
            | lst a nb c =>
              obtain ⟨as, kvs, h1, h2, h3⟩ := pairsK_ok c hps
              subst h1
              refine call_dictP hc pins s σ H _ us Q I r ⟨_, as, kvs, rfl, SqL.of a, h2, fun p hp => ?_⟩
              obtain ⟨s1, g1⟩ := HR.growD (p := p) false hr hp
              have e0 : upd H p (if false = true then HO.dT [] else .dK []) = upd H p (.dK []) := by rw [if_neg (by decide)]
              rw [e0] at s1 g1
              have hi : (mh ++ [MO.dct false []])[mh.length]? = some (.dct false []) := by simp
              have ha : (μ ++ [some p])[mh.length]? = some (some p) := by rw [← hr.len]; simp
              obtain ⟨s2, g2⟩ := HR.writeD (o := .dK (mergeK [] kvs)) (kvs' := dpairsK ps) g1 hi ha ⟨_, upd_same, fun xs => ⟨by simp, by simp⟩⟩ (fun m => .inl ⟨rfl, mergeK [] kvs, upd_same, Paired.mapP (rlk_fold h3 .nil) fun p q z => ⟨z.1, m _ _ (s1.dz hr z.2)⟩⟩)
              rw [L2.upd_upd] at s2 g2
              have e2 : (mh ++ [MO.dct false []]).set mh.length (.dct false (dpairsK ps)) = mh ++ [.dct false (dpairsK ps)] := by simp
              rw [e2] at g2
              refine q _ _ _ (s1.trans s2) g2 ⟨by rw [List.length_append, hr.len]; simp, fun a e => ?_⟩
              rw [← hr.len] at e
              simp at e
              rw [e]
          · cases e
        · cases e
  · cases e
end
end Ev

set_option Elab.async false
set_option linter.all false
set_option autoImplicit false
set_option maxRecDepth 100000
set_option maxHeartbeats 2000000
namespace Ev
open PySem PySem.Spec PyProof.Rows L2
section
variable {X : Cx} {W : List Addr}
theorem mm_append : MtR X "list.append" (rOfM X m_append) := by
  intro pins s σ H x vs v us Q I rx rv h
  obtain ⟨W, μ, mh, a, xs, z, mh', hr, ra, rvs, e, q⟩ := h
  unfold m_append at e
  split at e
  · rename_i i y
    obtain ⟨w, rfl, rw⟩ := rvs1 rvs
    split at e
    · rename_i ys hy
      split at e
      · rename_i hc
        cases e
        obtain ⟨hb, l, ws, e1, e2, e3, e4⟩ := RV.ref hr ra hy
        subst e1
        have ln := Paired.length e4
        refine mt_append pins s σ H _ _ v us Q I rx rv ⟨l, ws, w, rfl, rfl, e3, by rw [← ln, ← szLine]; exact hc.2, ?_⟩
        obtain ⟨st, hr'⟩ := HR.write (ys := ys ++ [y]) hr hy e2 e3 (RVs.app e4 (.cons rw .nil)) (by rw [List.all_append, hb]; simp [hc.1])
        exact q _ _ _ st hr' Dz.non
      · cases e
    · cases e
  · cases e
theorem mm_insert : MtR X "list.insert" (rOfM X m_insert) := by
  intro pins s σ H x vs v us Q I rx rv h
  obtain ⟨W, μ, mh, a, xs, z, mh', hr, ra, rvs, e, q⟩ := h
  unfold m_insert at e
  split at e
  · rename_i i k y
    obtain ⟨w1, w2, rfl, rw1, rw2⟩ := rvs2 rvs
    split at e
    · rename_i ys hy
      split at e
      · rename_i hc
        cases e
        cases rw1
        obtain ⟨hb, l, ws, e1, e2, e3, e4⟩ := RV.ref hr ra hy
        subst e1
        have ln := Paired.length e4
        refine mt_insert pins s σ H _ _ v us Q I rx rv ⟨l, ws, k, w2, rfl, rfl, e3, by rw [← ln, ← szLine]; exact hc.2.1, hc.2.2.1, hc.2.2.2, ?_⟩
        obtain ⟨st, hr'⟩ := HR.write (ys := ys.take k.toNat ++ [y] ++ ys.drop k.toNat) hr hy e2 e3 (RVs.app (RVs.app (RVs.take _ e4) (.cons rw2 .nil)) (RVs.drop _ e4)) (by
          have h1 : ∀ v ∈ ys, below i v = true := fun v hv => List.all_eq_true.mp hb v hv
          rw [List.all_eq_true]
          intro v hv
          simp only [List.mem_append, List.mem_singleton] at hv
          rcases hv with (hv | rfl) | hv
          · exact h1 v (List.mem_of_mem_take hv)
          · exact hc.1
          · exact h1 v (List.mem_of_mem_drop hv))
        exact q _ _ _ st hr' Dz.non
      · cases e
    · cases e
  · cases e
theorem meets_extT (l : Addr) (items : Array Value) (n : Nat) (b : Addr) (o2 : Obj) (items2 : Array Value) (n2 : Nat) (hc : o2.cls = .type "tuple") (hd : o2.data = .seq items2 n2) (hs0 : ¬(!items.isEmpty && Builtin.List.listTooLong (items.size + items2.size)) = true) (hs1 : items.size ≤ sizeLine) (hs2 : items.size + items2.size ≤ sizeLine + 1) :
    Meets (Builtin.«list.extend» ⟨[.ref l, .ref b], []⟩) (fun _ R s => s.heap.get? l = some { cls := .type "list", dict := none, data := .seq items n, slots := #[] } ∧ s.heap.get? b = some o2 ∧ R (.ok (.ret Value.none)) { s with heap := s.heap.update l (Obj.mapSeq fun x => x ++ items2), toks := s.toks }) := by
  obtain ⟨oc, od, oo, os⟩ := o2
  cases hc
  cases hd
  exact .of_wp fun prog w A R s h => by
    obtain ⟨hp, g, d, tk, os⟩ := s; obtain ⟨hl, hb, h⟩ := h; have f1 := AutoSeq1.idx_int; have f2 := AutoSeq1.sub_tuple_tuple; have f3 := AutoSeq1.sub_list_list; have f4 := AutoSeq1.sub_tuple_list; have f5 := AutoSeq1.sub_list_tuple;
    have hz' : (items ++ items2).size ≤ sizeLine + 1 := by rw [Array.size_append]; exact hs2
    wp_walk using (wpAny_updateSeq hl rfl (hz := hs1) (_hz' := hz')), AutoSeq1.wpAny_loadPart' hl, AutoSeq1.wpAny_loadPart' hb; exact ⟨_, rfl, h⟩
def rExtT (K : PySem.W.Frag) : V → List V → Hp → VK → Prop := fun x vs H Q => ∃ l b xs zs, x = .ref l ∧ vs = [.ref b] ∧ H l = some (.lst xs) ∧ SqT K H b zs ∧ xs.length + zs.length ≤ sizeLine ∧ Q .non (upd H l (.lst (xs ++ zs)))
theorem mt_extT : MtM X "list.extend" (rExtT X.K) := by
  intro pins s σ H x vs v us Q I rx rv h
  obtain ⟨l, b, xs, zs, rfl, rfl, hH, hB, hz, q⟩ := h
  cases rx
  obtain ⟨u, rfl, ru⟩ := rv.one
  cases ru
  obtain ⟨z, its, n, r, hl, e⟩ := I.lstM hH
  obtain ⟨its2, r2, ⟨o2, e2, c2, n2, d2⟩, z2⟩ := I.tuple hB
  have hl2 := r2.length
  have hsz : its.toArray.size + its2.toArray.size ≤ sizeLine := by rw [List.size_toArray, List.size_toArray]; omega
  have hlong : ¬ (!its.toArray.isEmpty && Builtin.List.listTooLong (its.toArray.size + its2.toArray.size)) = true := by
    rw [notLongL hsz, Bool.and_false]
    exact Bool.false_ne_true
  refine call_meets F.slot_list_extend ⟨_, e, rfl⟩ F.entry_list_extend (F.args_list_extend_2 _ _)
    (meets_extT l its.toArray n b o2 its2.toArray n2 c2 d2 hlong (by rw [List.size_toArray]; omega) (by omega)) ⟨e, e2, ?_⟩
  refine ⟨.non, _, I.lset (its' := its ++ its2) hH e (by simp) (r.append r2) ?_, rfl, q⟩
  rw [List.length_append]
  omega
theorem itemsX_ok {H : Hp} {μ : Mu} {mh : MH} (hr : hR X W H μ mh) {x : Vl} {v : V} {xs : List Vl} (r : rV X W H μ x v) (h : itemsX x mh = some xs) : ∃ a vs, v = .ref a ∧ (H a = some (.lst vs) ∨ SqT X.K H a vs) ∧ rVs X W H μ xs vs := by
  unfold itemsX at h
  split at h
  · cases h
    cases r with
    | tupA a c => exact ⟨_, _, rfl, .inr (tsq a), rvs_dz c⟩
  · obtain ⟨a, vs, e1, e2, e3⟩ := itemsL_ok hr r h
    exact ⟨a, vs, e1, .inl e2, e3⟩
theorem mm_extend : MtR X "list.extend" (rOfM X m_extend) := by
  intro pins s σ H x vs v us Q I rx rv h
  obtain ⟨W, μ, mh, a, xs, z, mh', hr, ra, rvs, e, q⟩ := h
  unfold m_extend at e
  split at e
  · rename_i i y
    obtain ⟨w, rfl, rw⟩ := rvs1 rvs
    split at e
    · rename_i ys zs hy hz
      split at e
      · rename_i hc
        cases e
        obtain ⟨hb, l, ws, e1, e2, e3, e4⟩ := RV.ref hr ra hy
        subst e1
        obtain ⟨b, us', k1, k2, k3⟩ := itemsX_ok hr rw hz
        subst k1
        have ln := Paired.length e4
        have ln2 := Paired.length k3
        obtain ⟨st, hr'⟩ := HR.write (ys := ys ++ zs) hr hy e2 e3 (RVs.app e4 k3) (by rw [List.all_append, hb, hc.1]; rfl)
        rcases k2 with k2 | k2
        · exact mt_extend pins s σ H _ _ v us Q I rx rv ⟨l, b, ws, us', rfl, rfl, e3, k2, by rw [← ln, ← ln2, ← szLine]; exact hc.2, q _ _ _ st hr' Dz.non⟩
        · exact mt_extT pins s σ H _ _ v us Q I rx rv ⟨l, b, ws, us', rfl, rfl, e3, k2, by rw [← ln, ← ln2, ← szLine]; exact hc.2, q _ _ _ st hr' Dz.non⟩
      · cases e
    · cases e
  · cases e
theorem RVs.dropLast {H : Hp} {μ : Mu} {xs : List Vl} {vs : List V} (h : rVs X W H μ xs vs) : rVs X W H μ xs.dropLast vs.dropLast := by
  rw [List.dropLast_eq_take, List.dropLast_eq_take, Paired.length h]
  exact RVs.take _ h
theorem RVs.eraseIdx {H : Hp} {μ : Mu} : ∀ {xs : List Vl} {vs : List V} (i : Nat), rVs X W H μ xs vs → rVs X W H μ (xs.eraseIdx i) (vs.eraseIdx i)
  | _, _, _, .nil => .nil
  | _, _, 0, .cons _ t => t
  | _, _, i + 1, .cons r t => .cons r (RVs.eraseIdx i t)
theorem RVs.set {H : Hp} {μ : Mu} {y : Vl} {w : V} (r : rV X W H μ y w) : ∀ {xs : List Vl} {vs : List V} (i : Nat), rVs X W H μ xs vs → rVs X W H μ (xs.set i y) (vs.set i w)
  | _, _, _, .nil => .nil
  | _, _, 0, .cons _ t => .cons r t
  | _, _, i + 1, .cons q t => .cons q (RVs.set r i t)
theorem all_sub {p : Vl → Bool} {xs ys : List Vl} (h : xs.all p = true) (s : ∀ v ∈ ys, v ∈ xs) : ys.all p = true := by
  rw [List.all_eq_true] at h ⊢
  exact fun v hv => h v (s v hv)
theorem rv_get_mono {H : Hp} {μ : Mu} {mh : MH} {H' : Hp} {μ' : Mu} (st : Stp H μ H' μ') (hr : hR X W H μ mh) {x : Vl} {v : V} (r : rV X W H μ x v) : rV X W H' μ' x v := st.rv hr r
theorem mm_pop : MtR X "list.pop" (rOfM X m_pop) := by
  intro pins s σ H x vs v us Q I rx rv h
  obtain ⟨W, μ, mh, a, xs, z, mh', hr, ra, rvs, e, q⟩ := h
  unfold m_pop at e
  split at e
  · rename_i i
    cases rvs
    split at e
    · rename_i ys hy
      split at e
      · rename_i y hl
        cases e
        obtain ⟨hb, l, ws, e1, e2, e3, e4⟩ := RV.ref hr ra hy
        subst e1
        obtain ⟨w, h1, h2⟩ := RVs.get e4 hl
        rw [Paired.length e4] at h1
        obtain ⟨st, hr'⟩ := HR.write (ys := ys.dropLast) hr hy e2 e3 (RVs.dropLast e4) (all_sub hb fun v hv => (List.dropLast_sublist _).subset hv)
        exact mt_pop pins s σ H _ _ v us Q I rx rv ⟨l, ws, w, rfl, rfl, e3, h1, q _ _ _ st hr' (st.rv hr h2)⟩
      · cases e
    · cases e
  · cases e
theorem mm_popAt : MtR X "list.pop" (rOfM X m_popAt) := by
  intro pins s σ H x vs v us Q I rx rv h
  obtain ⟨W, μ, mh, a, xs, z, mh', hr, ra, rvs, e, q⟩ := h
  unfold m_popAt at e
  split at e
  · rename_i i k
    obtain ⟨w, rfl, rw⟩ := rvs1 rvs
    cases rw
    split at e
    · rename_i ys hy
      split at e
      · rename_i j hj
        split at e
        · rename_i y hl
          split at e
          · rename_i hc
            cases e
            obtain ⟨hb, l, ws, e1, e2, e3, e4⟩ := RV.ref hr ra hy
            subst e1
            obtain ⟨w, h1, h2⟩ := RVs.get e4 hl
            obtain ⟨st, hr'⟩ := HR.write (ys := ys.eraseIdx j) hr hy e2 e3 (RVs.eraseIdx j e4) (all_sub hb fun v hv => List.mem_of_mem_eraseIdx hv)
            refine mt_popAt pins s σ H _ _ v us Q I rx rv ⟨l, ws, k, j, w, rfl, rfl, e3, hc.1, hc.2, ?_, h1, q _ _ _ st hr' (st.rv hr h2)⟩
            rw [← Paired.length e4]
            exact (ixN_seq (ixOf_ixN hj).1).1
          · cases e
        · cases e
      · cases e
    · cases e
  · cases e
theorem mm_count (rm : Rm X) : MtR X "list.count" (rOfM X m_count) := by
  intro pins s σ H x vs v us Q I rx rv h
  obtain ⟨W, μ, mh, a, xs, z, mh', hr, ra, rvs, e, q⟩ := h
  unfold m_count at e
  split at e
  · rename_i o y
    obtain ⟨w, rfl, rw'⟩ := rvs1 rvs
    split at e
    · rename_i ys d hy hd
      split at e
      · rename_i hc
        cases e
        rw [Bool.and_eq_true] at hc
        obtain ⟨l, ws, e1, e2, e3⟩ := contL_dz hr ra hy
        subst e1
        cases rx
        obtain ⟨u, rfl, ru⟩ := rv.one
        have p1 := okN_plain d 40 hc.1
        have p2 := okN_plainAll ys 39 (okN_tuple hc.2)
        have un := rm.un
        have hu : X.A.units + 1 + min (PyData.depthAll ys) d.depth < cLine := by omega
        obtain ⟨as, r1⟩ := Dp.reads I d _ _ (cont_dp hr rw' hd hc.1) ru
        obtain ⟨its, rv2, pl, _⟩ := I.list e2
        obtain ⟨bs, r2⟩ := Dp.readsAll I _ _ _ (DzA.dp _ _ 39 (List.all_eq_true.mp (okN_tuple hc.2)) e3) rv2
        exact SeqAt.count_list_data pl.isList (by simpa using r2) r1 p2.1 p1.1 hu ⟨.int _, H, I.tok _, ⟨_, rfl⟩, q _ H μ (Stp.refl H μ) hr (Dz.int _)⟩
      · cases e
    · cases e
  · cases e
theorem idx_facts {ds : List PyData} {d : PyData} {j : Nat} (h : ds.findIdx? (fun y => PyData.eqv y d) = some j) : ∃ hj : j < ds.length, PyData.eqv ds[j] d = true ∧ ∀ m (hm : m < ds.length), m < j → PyData.eqv ds[m] d = false := by
  obtain ⟨h1, h2, h3⟩ := List.findIdx?_eq_some_iff_getElem.mp h
  exact ⟨h1, h2, fun m hm hlt => by simpa using h3 m hlt⟩
theorem mm_index (rm : Rm X) : MtR X "list.index" (rOfM X m_index) := by
  intro pins s σ H x vs v us Q I rx rv h
  obtain ⟨W, μ, mh, a, xs, z, mh', hr, ra, rvs, e, q⟩ := h
  unfold m_index at e
  split at e
  · rename_i o y
    obtain ⟨w, rfl, rw'⟩ := rvs1 rvs
    split at e
    · rename_i ys d hy hd
      split at e
      · rename_i hc
        split at e
        · rename_i j hj
          cases e
          rw [Bool.and_eq_true, Bool.and_eq_true, decide_eq_true_eq] at hc
          obtain ⟨⟨c1, c2⟩, c3⟩ := hc
          obtain ⟨l, ws, e1, e2, e3⟩ := contL_dz hr ra hy
          subst e1
          cases rx
          obtain ⟨u, rfl, ru⟩ := rv.one
          have p1 := okN_plain d 40 c1
          have p2 := okN_plainAll ys 39 (okN_tuple c2)
          have un := rm.un
          have hu : X.A.units + 1 + min (PyData.depthAll ys) d.depth < cLine := by omega
          obtain ⟨as, r1⟩ := Dp.reads I d _ _ (cont_dp hr rw' hd c1) ru
          obtain ⟨its, rv2, pl, _⟩ := I.list e2
          obtain ⟨bs, r2⟩ := Dp.readsAll I _ _ _ (DzA.dp _ _ 39 (List.all_eq_true.mp (okN_tuple c2)) e3) rv2
          obtain ⟨⟨cls, dd, data, sl⟩, n, ho, hcl, hdd, hdt⟩ := id pl
          simp only at hcl hdd hdt
          subst hcl hdd hdt
          have eqs := SeqAt.items_plain (A := X.A) (vs := its.toArray) (by simpa using r2) r1 p2.1 p1.1 hu
          have rds := SeqAt.readsAll_map_plain ys its bs p2.1 r2
          have ln : its.length = ys.length := by rw [← rds, List.length_map]
          have at_ : ∀ m (hm : m < its.toArray.size) (hm2 : m < ys.length), SeqAt.readOf s.heap its.toArray[m] = ys[m] := fun m hm hm2 => by
            have : (its.map (SeqAt.readOf s.heap))[m]? = ys[m]? := by rw [rds]
            rw [List.getElem?_map, List.getElem?_eq_getElem (by simpa using hm), List.getElem?_eq_getElem hm2] at this
            simpa using this
          obtain ⟨k1, k2, k3⟩ := idx_facts hj
          have hsz : j < its.toArray.size := by rw [List.size_toArray, ln]; exact k1
          refine call_meets F.slot_list_index ⟨_, ho, rfl⟩ F.entry_list_index (F.args_list_index_2 _ _) (SeqAt.list_indexAt l its.toArray n none sl u (fun y => PyData.eqv (SeqAt.readOf s.heap y) d) j hsz (by have c4 : ys.length ≤ 16777216 := c3; omega) ?_ (fun m hm hlt => ?_)) ⟨ho, eqs, ?_⟩
          · show PyData.eqv (SeqAt.readOf s.heap its.toArray[j]) d = true
            rw [at_ j hsz k1]; exact k2
          · have hm2 : m < ys.length := by rw [← ln]; simpa using hm
            show PyData.eqv (SeqAt.readOf s.heap its.toArray[m]) d = false
            rw [at_ m hm hm2]; exact k3 m hm2 hlt
          · exact ⟨.int j, H, I.tok _, ⟨_, rfl⟩, q _ H μ (Stp.refl H μ) hr (Dz.int _)⟩
        · cases e
      · cases e
    · cases e
  · cases e
/-- o[i] = v -/
def rOfS (X : Cx) : TSet := fun o i v H Q => ∃ W μ mh x k y mh', hR X W H μ mh ∧ rV X W H μ x o ∧ rV X W H μ k i ∧ rV X W H μ y v ∧ setItV x k y mh = .ok () mh' ∧ ∀ H' μ', Stp H μ H' μ' → hR X W H' μ' mh' → Q H'
theorem set_ev : PSet X (rOfS X) := by
  intro pins s σ H o i v ov iv u Q I ro ri rv h
  obtain ⟨W, μ, mh, x, k, y, mh', hr, rx, rk, ry, e, q⟩ := h
  unfold setItV at e
  split at e
  · rename_i a j
    cases rk
    split at e
    · rename_i xs hx
      split at e
      · rename_i n hn
        split at e
        · rename_i hb
          cases e
          obtain ⟨hb', l, ws, e1, e2, e3, e4⟩ := RV.ref hr rx hx
          subst e1
          obtain ⟨st, hr'⟩ := HR.write (ys := xs.set n y) hr hx e2 e3 (RVs.set ry n e4) (by
            rw [List.all_eq_true] at hb' ⊢
            intro z hz
            rcases List.mem_or_eq_of_mem_set hz with h | h
            · exact hb' z h
            · rw [h]; exact hb)
          refine set_list pins s σ H _ _ v ov iv u Q I ro ri rv ⟨l, ws, j, n, rfl, rfl, e3, ?_, q _ _ st hr'⟩
          rw [← Paired.length e4]
          exact (ixOf_ixN hn).1
        · cases e
      · cases e
    · cases e
  · cases e
end
end Ev

set_option Elab.async false
set_option linter.all false
set_option autoImplicit false
set_option maxRecDepth 100000
set_option maxHeartbeats 4000000
namespace Ev
open PySem PySem.Spec PyProof.Rows L2
theorem meets_enm {w0 : Value} {ob : Obj} {P0 : Heap → Prop} (B : Begins w0 ob P0) :
    Meets (Builtin.«enumerate.__new__» ⟨[.type "enumerate", w0], []⟩) (fun _ R st =>
      P0 st.heap ∧ R (.ok (.ret (.ref (st.heap.push ob).objs.size))) { st with heap := (st.heap.push ob).push { cls := .type "enumerate", data := .fields #[.none, .bool false, .ref st.heap.objs.size, rawInt 0, .none, .none] } }) :=
  .of_wp fun prog w A R st hh => by
    obtain ⟨hp, g, d, tk, os⟩ := st
    obtain ⟨hP, hR⟩ := hh
    have hsub := sub_enumerate
    have beg : ∀ {A' : Around} {E : Value → Shared → Prop} {Q : Value → Shared → Prop}, Q (.ref hp.objs.size) ⟨hp.push ob, g, d, tk, os⟩ → wpAny (model prog w) A' (pyIter w0) Q E ⟨hp, g, d, tk, os⟩ :=
      fun q => B.iter prog w _ _ ⟨hp, g, d, tk, os⟩ _ hP q
    wp_walk using beg
    refine wpAny_stack_any fun fr => wpAny_pure ?_
    split
    · rename_i cc _ _ _ _ _
      cases (cc == Value.type "enumerate")
      · wp_walk using beg
        exact ⟨_, rfl, hR⟩
      · wp_walk using beg
        exact ⟨_, rfl, hR⟩
    · wp_walk using beg
      exact ⟨_, rfl, hR⟩
section
variable {prog : Program} {w : World} {A : Around} {E : Value → Shared → Prop} {st : Shared}
theorem call_enm {w0 : Value} {ob : Obj} {P0 : Heap → Prop} {Q : Value → Shared → Prop} (B : Begins w0 ob P0) (hP : P0 st.heap)
    (hQ : ∀ h2, IsEnum h2 (st.heap.objs.size + 1) st.heap.objs.size 0 .none → h2.get? st.heap.objs.size = some ob → (∀ b o, st.heap.get? b = some o → h2.get? b = some o) → Q (.ref (st.heap.objs.size + 1)) { st with heap := h2 }) :
    wpAny (model prog w) A (call (.type "enumerate") [w0]) Q E st := by
  refine callType_new F.called_enumerate (by decide) (F.typeCall_enumerate_1 _) (F.newCall_enumerate_1 _) (fun obj => F.args_object_init_2 obj _) F.entry_enumerate_new (meets_enm B) ⟨hP, ?_⟩
  have e0 : (st.heap.push ob).objs.size = st.heap.objs.size + 1 := Heap.size_push ..
  show _ ∧ _
  rw [e0]
  have en : IsEnum ((st.heap.push ob).push { cls := .type "enumerate", data := .fields #[.none, .bool false, .ref st.heap.objs.size, rawInt 0, .none, .none] }) (st.heap.objs.size + 1) st.heap.objs.size 0 .none := by
    have e1 := Heap.get?_push_size (st.heap.push ob) (o := { cls := .type "enumerate", data := .fields #[.none, .bool false, .ref st.heap.objs.size, rawInt 0, .none, .none] }) rfl
    rw [e0] at e1
    exact e1
  exact ⟨⟨_, en, rfl⟩, hQ _ en (Heap.get?_push_of_some _ (Heap.get?_push_size _ B.free)) fun b o x => Heap.get?_push_of_some _ (Heap.get?_push_of_some _ x)⟩
end
section
variable {prog : Program} {w : World} {A : Around} {E : Value → Shared → Prop} {st : Shared}
theorem enm_end {e it a : Addr} {i : Nat} {its : Array Value} {old : Value} {Q : Option Value → Shared → Prop} (hh : A.handled = none)
    (he : IsEnum st.heap e it i old) (hit : st.heap.IsTupleIter it a i) (ht : st.heap.IsTuple a its) (hx : its[i]? = none)
    (hQ : ∀ h', Heap.ExtBut it st.heap h' → Q none { st with heap := h' }) : wpAny (model prog w) A (pyNext (.ref e)) Q E st := by
  have ty : st.TypeIs (.ref e) "enumerate" := ⟨_, he, rfl⟩
  unfold pyNext
  refine wpAny_bind (wpAny_attempt (wpAny_callSpecial?_slot (name := Str.ofString "__next__") ty F.slot_enumerate_next (wpAny_call_entry F.slot_enumerate_next ty F.entry_enumerate_next ?_ (F.args_enumerate_next_1 _))))
  show wpAny _ _ (field (.ref e) 2 >>= _) _ _ _
  refine wpAny_bind (wpAny_field he rfl (x := .ref it) rfl ?_)
  refine wpAny_bind (wpAny_nextOf_tuple_end (A := A.in1) (show A.in1.handled = none from hh) hit ht hx fun h' x eb hx' => ?_)
  obtain ⟨o, ho, hc⟩ := hx'
  exact wpAny_bind (wpAny_isInstance (T := "StopIteration") (b := true) ⟨o, ho, hc⟩ isSubtype_stop (wpAny_pure (hQ _ eb)))
end
/-- the tuple at a, each item in a new pair -/
def IteT (K : PySem.W.Frag) (a : Addr) : It :=
  ⟨fun i H => ∃ (xs : List V) (x : V), SqT K H a xs ∧ xs[i]? = some x, fun i H v H' => ∃ T x, v = .ref T ∧ H T = none ∧ H' = upd H T (.tup [.int (i : Nat), x]) ∧ ∀ xs, SqT K H a xs → xs[i]? = some x, fun i H => ∃ xs : List V, SqT K H a xs ∧ xs.length ≤ i⟩
theorem turn_enmT {P : Program} {w : World} {K : PySem.W.Frag} {elts : List Expr} {kk : Nat} {tpos : Pos} (a e it : Addr) (hat : a ≠ it) (hae : e ≠ a) :
    Turn P w K (.Tuple elts kk tpos) (IteT K a) [e, it] e (fun i h => (∃ old, IsEnum h e it ((i : Nat) : Int) old) ∧ h.IsTupleIter it a i ∧ e ≠ it) where
  mem := by simp
  obj := fun i h sg b hb => by
    obtain ⟨⟨old, he⟩, ⟨o, ho, hc, hd⟩, _⟩ := sg
    have e' : b = e ∨ b = it := by simpa using hb
    rcases e' with q | q
    · rw [q]; exact ⟨_, he, fun v r => nomatch r⟩
    · rw [q]; exact ⟨o, ho, fun v r => by rw [hd] at r; cases r⟩
  keep := fun i h h' sg k => let ⟨⟨old, he⟩, hi, hne⟩ := sg; ⟨⟨old, k e (by simp) _ he⟩, hi.at fun o q => k it (by simp) o q, hne⟩
  item := by
    intro X hP hw hK hc i pins s σ H E I hf sg hg
    subst hP hw hK
    obtain ⟨⟨old, he⟩, hit, hne⟩ := sg
    obtain ⟨xs, x, hq, hx⟩ := hg
    obtain ⟨its, rv, p, hz⟩ := I.tuple hq
    obtain ⟨u, hu, ru⟩ := rv.get hx
    have l0 : e < s.heap.objs.size := Heap.lt_size he
    have l1 : it < s.heap.objs.size := by obtain ⟨_, q, _⟩ := hit; exact Heap.lt_size q
    have il : i < its.toArray.size := by
      have := (List.getElem?_eq_some_iff.mp hu).1
      simpa using this
    refine wpAny_pyNext_enum_itemD (Draws.tuple (A := X.A.in1) (show X.A.in1.handled = none from I.ok.hd hc) it a hat its.toArray) he (St := fun i h => h.IsTupleIter it a i ∧ h.IsTuple a its.toArray) ⟨hit, p⟩ il hne (by simp [hne, hae]) fun y h' tk hy ho hit' hT hsz hk => ?_
    have hy2 : y = u := by
      have e2 : its.toArray[i]? = some u := by simpa using hu
      rw [e2] at hy
      exact (Option.some.inj hy).symm
    subst hy2
    refine ⟨_, rfl, wpAny_letOwnedTupleGo_enum (s := { s with heap := h', toks := tk + 1 }) ho fun h2 he2 sb => ?_⟩
    have hT2 : h2.get? s.heap.objs.size = some { cls := .type "tuple", data := .seq #[.int i tk, y] } := (sb.2 _ (Nat.ne_of_gt l0)).trans hT
    have nw : ObjOk X.prog X.w (upd H s.heap.objs.size (.tup [.int (i : Nat), x])) h2 s.heap.objs.size (.tup [.int (i : Nat), x]) :=
      ⟨by show 2 ≤ sizeLine; decide, [.int i tk, y], .cons ⟨_, rfl⟩ (.cons ru .nil), ⟨_, hT2, rfl, _, rfl⟩⟩
    have I1 : Inv X pins σ (upd H s.heap.objs.size (.tup [.int (i : Nat), x])) { s with heap := h2, toks := tk + 1 } :=
      I.turnedNew (ch := [e, it]) (fun b ob hb q => (sb.2 b (fun z => hb (by simp [z]))).trans (hk b ob (fun z => hb (by simp [z])) (fun z => hb (by simp [z])) q)) hf (Nat.le_refl _) nw
    refine ⟨.ref s.heap.objs.size, _, I1, rfl, ⟨_, x, rfl, I.hok.fresh (Nat.le_refl _), rfl, fun ys hy => by rw [I.tuple_inj hy hq]; exact hx⟩, ⟨⟨y, ?_⟩, hit'.1.at fun o q => (sb.2 it (Ne.symm hne)).trans q, hne⟩, fun b hb => ?_⟩
    · have e1 : ((i + 1 : Nat) : Int) = (i : Int) + 1 := by omega
      rw [e1]; exact he2
    · have hb' : b < s.heap.objs.size := by
        have e' : b = e ∨ b = it := by simpa using hb
        rcases e' with q | q
        · rw [q]; exact l0
        · rw [q]; exact l1
      rw [upd_ne (Nat.ne_of_lt hb')]
      exact (hf b hb).1
  done := by
    intro X hP hw hK hc i pins s σ H E I hf sg hg
    subst hP hw hK
    obtain ⟨⟨old, he⟩, hit, hne⟩ := sg
    obtain ⟨xs, hq, hx⟩ := hg
    obtain ⟨its, rv, p, hz⟩ := I.tuple hq
    obtain ⟨f0, f1, f2, f3, f4, f5⟩ := hf it (by simp)
    have hl := rv.length
    exact enm_end (I.ok.hd hc) he hit p (by simp; omega) fun h' eb => ⟨rfl, I.turned (t' := s.toks) (fun b o hb q => eb b o hb q) f0 f1 f3 f4 f5⟩
  self := fun A i s Q E sg h => let ⟨⟨_, he⟩, _⟩ := sg; wpAny_pyIter_enum he h
def iEnmA (K : PySem.W.Frag) (ta : TA) : TI := fun σ H R => ta σ H fun vs H1 => ∃ a xs, vs = [.ref a] ∧ ((SqL K H1 a xs ∧ R (Ite K a) H1) ∨ (SqT K H1 a xs ∧ R (IteT K a) H1))
theorem pi_enmA {X : Cx} {e : Expr} {ta : TA} {p pos tpos : Pos} {elts : List Expr} {kk : Nat} (hg : Gl X "enumerate") (hm : X.mg "enumerate" = none) (ha : PA X [e] ta) (hs : starEach [e] X.env = [(false, eval e X.env)] := by rfl) :
    PI X (.Tuple elts kk tpos) (.Call (.Name "enumerate" p) [e] [] pos) (iEnmA X.K ta) := by
  refine ⟨fun pins s σ H R I hw => ?_⟩
  refine Call_ (ld_blt I hg hm boot_enumerate (PyProof.Rows.callWith_type1 (thn (ha.run pos pins s σ H _ I hw) fun us s1 ⟨vs, H1, I1, r1, q1⟩ => ?_) hs rfl))
  obtain ⟨a, xs, ex, q⟩ := q1
  subst ex
  cases r1 with
  | cons r rr =>
    cases rr
    cases r
    have fresh2 : ∀ b, b ∈ [s1.heap.objs.size + 1, s1.heap.objs.size] → FpOk X pins H1 b := fun b hb => by
      have e' : b = s1.heap.objs.size + 1 ∨ b = s1.heap.objs.size := by simpa using hb
      have hle : s1.heap.objs.size ≤ b := by
        rcases e' with q | q
        · rw [q]; exact Nat.le_add_right _ _
        · rw [q]; exact Nat.le_refl _
      exact I1.fpOk hle (I1.hok.fresh hle)
    rcases q with ⟨hq, q⟩ | ⟨hq, q⟩
    · obtain ⟨its, rv, p', hz⟩ := I1.list hq
      refine call_enumerate_list p'.isList fun h' he hit hsz hk => wpAny_pyIter_enum he ?_
      have I2 : Inv X pins σ H1 { s1 with heap := h' } := I1.kept (t' := s1.toks) hk
      exact ⟨s1.heap.objs.size + 1, [s1.heap.objs.size + 1, s1.heap.objs.size], _, _, H1, rfl, I2, turn_enum a (s1.heap.objs.size + 1) s1.heap.objs.size, ⟨⟨.none, he⟩, hit, Nat.succ_ne_self _⟩, fresh2, q⟩
    · obtain ⟨its, rv, p', hz⟩ := I1.tuple hq
      obtain ⟨ot, hot, _⟩ := id p'
      have hlt : a < s1.heap.objs.size := Heap.lt_size hot
      refine call_enm (begins_tuple a its.toArray) p' fun h' he hit hk => wpAny_pyIter_enum he ?_
      have I2 : Inv X pins σ H1 { s1 with heap := h' } := I1.kept (t' := s1.toks) hk
      exact ⟨s1.heap.objs.size + 1, [s1.heap.objs.size + 1, s1.heap.objs.size], _, _, H1, rfl, I2, turn_enmT a (s1.heap.objs.size + 1) s1.heap.objs.size (Nat.ne_of_lt hlt) (Nat.ne_of_gt (Nat.lt_succ_of_lt hlt)), ⟨⟨.none, he⟩, ⟨_, hit, rfl, rfl⟩, Nat.succ_ne_self _⟩, fresh2, q⟩
end Ev

set_option Elab.async false
set_option linter.all false
set_option autoImplicit false
set_option maxRecDepth 100000
set_option maxHeartbeats 2000000
namespace Ev.Zm
open PySem PySem.Spec PyProof.Rows L2
open PySem.Sem (wp)
def KIt (k : Bool) (h : Heap) (it l : Addr) (i : Nat) : Prop := if k = true then h.IsTupleIter it l i else h.IsListIter it l i
def KSq (k : Bool) (h : Heap) (l : Addr) (xs : Array Value) : Prop := if k = true then h.IsTuple l xs else h.IsList l xs
theorem KIt.at {k : Bool} {h h' : Heap} {it l : Addr} {i : Nat} (x : KIt k h it l i) (e : ∀ o, h.get? it = some o → h'.get? it = some o) : KIt k h' it l i := by
  cases k
  · exact Heap.IsListIter.at x e
  · exact Heap.IsTupleIter.at x e
theorem KIt.eb {k : Bool} {h h' : Heap} {it b l : Addr} {i : Nat} (x : KIt k h it l i) (hs : Heap.ExtBut b h h') (hab : it ≠ b) : KIt k h' it l i := x.at fun o q => hs _ _ hab q
theorem KSq.eb {k : Bool} {h h' : Heap} {b l : Addr} {xs : Array Value} (x : KSq k h l xs) (hs : Heap.ExtBut b h h') (hab : l ≠ b) : KSq k h' l xs := by
  cases k
  · exact Heap.IsList.extBut x hs hab
  · exact Heap.IsTuple.extBut x hs hab
theorem KIt.ob {k : Bool} {h : Heap} {it l : Addr} {i : Nat} (x : KIt k h it l i) : ∃ o, h.get? it = some o ∧ ∀ v, o.data ≠ .cell v := by
  cases k
  · obtain ⟨o, e, _, d⟩ := (x : h.IsListIter it l i)
    exact ⟨o, e, fun v q => by rw [d] at q; cases q⟩
  · obtain ⟨o, e, _, d⟩ := (x : h.IsTupleIter it l i)
    exact ⟨o, e, fun v q => by rw [d] at q; cases q⟩
theorem KSq.lt {k : Bool} {h : Heap} {l : Addr} {xs : Array Value} (x : KSq k h l xs) : l < h.objs.size := by
  cases k
  · obtain ⟨o, e, _⟩ := (x : h.IsList l xs)
    exact Heap.lt_size e
  · obtain ⟨o, e, _⟩ := (x : h.IsTuple l xs)
    exact Heap.lt_size e
section
variable {prog : Program} {w : World} {A : Around} {E : Value → Shared → Prop} {s : Shared}
theorem nx_item {k : Bool} {it l : Addr} {i : Nat} {xs : Array Value} {x : Value} {Q : Value → Shared → Prop} (hit : KIt k s.heap it l i) (hl : KSq k s.heap l xs) (hx : xs[i]? = some x)
    (hQ : ∀ h', KIt k h' it l (i + 1) → Heap.SameBut it s.heap h' → Q x { s with heap := h' }) : wpAny (model prog w) A (Builtin.SmallTypes.nextOf (.ref it)) Q E s := by
  cases k
  · exact wpAny_nextOf_list_item hit hl hx hQ
  · exact RZ.nextOf_tuple_item hit hl hx hQ
theorem nx_end {k : Bool} {it l : Addr} {i : Nat} {xs : Array Value} {Q : Value → Shared → Prop} (hh : A.handled = none) (hit : KIt k s.heap it l i) (hl : KSq k s.heap l xs) (hx : xs[i]? = none)
    (hE : ∀ h' e, Heap.ExtBut it s.heap h' → (∃ o, h'.get? e = some o ∧ o.cls = .type "StopIteration") → E (.ref e) { s with heap := h' }) : wpAny (model prog w) A (Builtin.SmallTypes.nextOf (.ref it)) Q E s := by
  cases k
  · exact wpAny_nextOf_list_end hh hit hl hx hE
  · exact RZ.nextOf_tuple_end hh hit hl hx hE
/-- what stands apart of the zip's own objects stays -/
def Kept (h h' : Heap) (z TO i1 i2 : Addr) : Prop := ∀ c o, c ≠ z → c ≠ TO → c ≠ i1 → c ≠ i2 → h.get? c = some o → h'.get? c = some o
variable {k1 k2 : Bool} {z TI TO i1 i2 l1 l2 : Addr} {n1 n2 : Nat} {xs ys : Array Value} {x y a b : Value}
theorem zip_item {Q : Value → Shared → Prop} (D : ZipApart z TI TO i1 i2 l1 l2) (hz : IsZip s.heap z TI TO .none) (hTI : IsPair s.heap TI (.ref i1) (.ref i2)) (hTO : IsPair s.heap TO a b)
    (h1 : KIt k1 s.heap i1 l1 n1) (h2 : KIt k2 s.heap i2 l2 n2) (hl1 : KSq k1 s.heap l1 xs) (hl2 : KSq k2 s.heap l2 ys) (hx : xs[n1]? = some x) (hy : ys[n2]? = some y)
    (hQ : ∀ h', IsZip h' z TI TO (rawInt s.heap.objs.size) → IsPair h' TO x y → KIt k1 h' i1 l1 (n1 + 1) → KIt k2 h' i2 l2 (n2 + 1) → IsPair h' s.heap.objs.size x y → h'.objs.size = s.heap.objs.size + 1 → Kept s.heap h' z TO i1 i2 → Q (.ref s.heap.objs.size) { s with heap := h' }) :
    wpAny (model prog w) A (Builtin.«zip.__next__» ⟨[.ref z], []⟩) (fun fin s' => ∃ v, fin = .done (.ret v) ∧ Q v s') E s := by
  show wpAny _ _ (field (.ref z) 2 >>= _) _ _ _
  refine wpAny_bind (wpAny_field hz rfl (x := .bool false) rfl ?_)
  show wpAny _ _ (field (.ref z) 3 >>= _) _ _ _
  refine wpAny_bind (wpAny_field hz rfl (x := .ref TI) rfl (wpAny_bind (wpAny_seqItems hTI rfl ?_)))
  show wpAny _ _ (Builtin.SmallTypes.ownedTupleIsFree (.ref z) >>= _) _ _ _
  unfold Builtin.SmallTypes.ownedTupleIsFree
  refine wpAny_bind (wpAny_bind (wpAny_field hz rfl (x := .none) rfl (wpAny_pure ?_)))
  simp only [if_true]
  refine wpAny_bind (wpAny_rule (wpAny_bind (wpAny_field hz rfl (x := .ref TO) rfl (wpAny_bind (wpAny_setField_rec hz (by simp) fun ha za sa => ?_)))))
  replace za : IsZip ha z TI TO .ellipsis := za
  have A1 := h1.eb sa.extBut D.i1z
  have A2 := h2.eb sa.extBut D.i2z
  have B1 := hl1.eb sa.extBut D.l1z
  have B2 := hl2.eb sa.extBut D.l2z
  have Ca : IsPair ha TO a b := sa.extBut _ _ D.TOz hTO
  simp only [List.zipIdx_cons, List.zipIdx_nil, List.forIn_cons, List.forIn_nil]
  refine wpAny_bind (wpAny_bind (wpAny_bind (wpAny_onRaise ?_)))
  show wpAny _ _ (Builtin.SmallTypes.nextOf (.ref i1) >>= _) _ _ _
  refine wpAny_bind (nx_item A1 B1 hx fun hb Ab sb => wpAny_pure ?_)
  have Cb : IsPair hb TO a b := sb.extBut _ _ D.TOi1 Ca
  refine wpAny_bind (wpAny_seqItems Cb rfl (wpAny_bind (wpAny_updateSeq_pair Cb fun hc Cc sc => ?_)))
  replace Cc : IsPair hc TO x b := Cc
  refine wpAny_bind (wpAny_letGo (wpAny_pure (wpAny_bind (wpAny_bind (wpAny_onRaise ?_)))))
  show wpAny _ _ (Builtin.SmallTypes.nextOf (.ref i2) >>= _) _ _ _
  refine wpAny_bind (nx_item ((A2.eb sb.extBut D.i12.symm).eb sc.extBut D.TOi2.symm) ((B2.eb sb.extBut D.l2i1).eb sc.extBut D.l2TO) hy fun hd Ad sd => wpAny_pure ?_)
  have Cd : IsPair hd TO x b := sd.extBut _ _ D.TOi2 Cc
  refine wpAny_bind (wpAny_seqItems Cd rfl (wpAny_bind (wpAny_updateSeq_pair Cd fun he Ce se => ?_)))
  replace Ce : IsPair he TO x y := Ce
  refine wpAny_bind (wpAny_letGo (wpAny_pure (wpAny_pure (wpAny_bind (wpAny_seqItems Ce rfl (wpAny_bind (wpAny_newTuple ?_)))))))
  have hsz : he.objs.size = s.heap.objs.size := by rw [se.1, sd.1, sc.1, sb.1, sa.1]
  have ze : IsZip he z TI TO .ellipsis := se.extBut _ _ D.TOz.symm (sd.extBut _ _ D.i2z.symm (sc.extBut _ _ D.TOz.symm (sb.extBut _ _ D.i1z.symm za)))
  have ke : Kept s.heap he z TO i1 i2 := fun c o c1 c2 c3 c4 e => se.extBut _ _ c2 (sd.extBut _ _ c4 (sc.extBut _ _ c2 (sb.extBut _ _ c3 (sa.extBut _ _ c1 e))))
  have A1e : KIt k1 he i1 l1 (n1 + 1) := ((Ab.eb sc.extBut D.TOi1.symm).eb sd.extBut D.i12).eb se.extBut D.TOi1.symm
  have A2e : KIt k2 he i2 l2 (n2 + 1) := Ad.eb se.extBut D.TOi2.symm
  have zlt : z < he.objs.size := Heap.lt_size ze
  show wpAny _ _ (Builtin.SmallTypes.ownedTupleHandOut (.ref z) (.ref he.objs.size) >>= _) _ _ _
  unfold Builtin.SmallTypes.ownedTupleHandOut
  have zf : IsZip (he.push { cls := .type "tuple", data := .seq #[x, y] }) z TI TO .ellipsis := Heap.get?_push_of_some _ ze
  refine wpAny_bind (wpAny_bind (wpAny_setField_rec zf (by simp) fun hg zg sg => ?_))
  replace zg : IsZip hg z TI TO (rawInt he.objs.size) := zg
  refine wpAny_setField_rec zg (by simp) fun hk zk sk => ?_
  replace zk : IsZip hk z TI TO (rawInt he.objs.size) := zk
  have up : ∀ c o, c ≠ z → he.get? c = some o → hk.get? c = some o := fun c o c1 e => sk.extBut _ _ c1 (sg.extBut _ _ c1 (Heap.get?_push_of_some _ e))
  have T : IsPair hk he.objs.size x y := sk.extBut _ _ (Nat.ne_of_gt zlt) (sg.extBut _ _ (Nat.ne_of_gt zlt) (Heap.get?_push_size _ rfl))
  have sz2 : hk.objs.size = he.objs.size + 1 := by rw [sk.1, sg.1, Heap.size_push]
  rw [hsz] at zk T sz2
  refine wpAny_pure ⟨_, rfl, ?_⟩
  show Q (.ref he.objs.size) _
  rw [hsz]
  exact hQ hk zk (up _ _ D.TOz Ce) (A1e.at fun o e => up _ o D.i1z e) (A2e.at fun o e => up _ o D.i2z e) T sz2 fun c o c1 c2 c3 c4 e => up c o c1 (ke c o c1 c2 c3 c4 e)
theorem zip_end {Q : Fin → Shared → Prop} (hh : A.handled = none) (D : ZipApart z TI TO i1 i2 l1 l2) (hz : IsZip s.heap z TI TO .none) (hTI : IsPair s.heap TI (.ref i1) (.ref i2)) (hTO : IsPair s.heap TO a b)
    (h1 : KIt k1 s.heap i1 l1 n1) (h2 : KIt k2 s.heap i2 l2 n2) (hl1 : KSq k1 s.heap l1 xs) (hl2 : KSq k2 s.heap l2 ys) (hend : xs[n1]? = none ∨ ys[n2]? = none)
    (hE : ∀ h' e, Kept s.heap h' z TO i1 i2 → (∃ o, h'.get? e = some o ∧ o.cls = .type "StopIteration") → E (.ref e) { s with heap := h' }) :
    wpAny (model prog w) A (Builtin.«zip.__next__» ⟨[.ref z], []⟩) Q E s := by
  show wpAny _ _ (field (.ref z) 2 >>= _) _ _ _
  refine wpAny_bind (wpAny_field hz rfl (x := .bool false) rfl ?_)
  show wpAny _ _ (field (.ref z) 3 >>= _) _ _ _
  refine wpAny_bind (wpAny_field hz rfl (x := .ref TI) rfl (wpAny_bind (wpAny_seqItems hTI rfl ?_)))
  show wpAny _ _ (Builtin.SmallTypes.ownedTupleIsFree (.ref z) >>= _) _ _ _
  unfold Builtin.SmallTypes.ownedTupleIsFree
  refine wpAny_bind (wpAny_bind (wpAny_field hz rfl (x := .none) rfl (wpAny_pure ?_)))
  simp only [if_true]
  refine wpAny_bind (wpAny_rule (wpAny_bind (wpAny_field hz rfl (x := .ref TO) rfl (wpAny_bind (wpAny_setField_rec hz (by simp) fun ha za sa => ?_)))))
  replace za : IsZip ha z TI TO .ellipsis := za
  have A1 := h1.eb sa.extBut D.i1z
  have A2 := h2.eb sa.extBut D.i2z
  have B1 := hl1.eb sa.extBut D.l1z
  have B2 := hl2.eb sa.extBut D.l2z
  have Ca : IsPair ha TO a b := sa.extBut _ _ D.TOz hTO
  have notz : ∀ {h : Heap} {e : Addr} {oe : Obj}, IsZip h z TI TO .ellipsis → h.get? e = some oe → oe.cls = .type "StopIteration" → e ≠ z := fun {h e oe} hzz hoe hce q => by
    subst q
    rw [hzz] at hoe; cases hoe; simp at hce
  simp only [List.zipIdx_cons, List.zipIdx_nil, List.forIn_cons, List.forIn_nil]
  refine wpAny_bind (wpAny_bind (wpAny_bind (wpAny_onRaise ?_)))
  show wpAny _ _ (Builtin.SmallTypes.nextOf (.ref i1) >>= _) _ _ _
  cases hx : xs[n1]? with
  | none =>
    refine wpAny_bind (nx_end hh A1 B1 hx fun hb e sb ⟨oe, hoe, hce⟩ => ?_)
    have zb : IsZip hb z TI TO .ellipsis := sb _ _ D.i1z.symm za
    exact wpAny_setField_rec zb (by simp) fun hc _ sc => hE hc e (fun c o c1 _ c3 _ x => sc.extBut _ _ c1 (sb _ _ c3 (sa.extBut _ _ c1 x))) ⟨oe, sc.extBut _ _ (notz zb hoe hce) hoe, hce⟩
  | some x =>
    have hy : ys[n2]? = none := hend.resolve_left fun h => by rw [hx] at h; cases h
    refine wpAny_bind (nx_item A1 B1 hx fun hb Ab sb => wpAny_pure ?_)
    have Cb : IsPair hb TO a b := sb.extBut _ _ D.TOi1 Ca
    refine wpAny_bind (wpAny_seqItems Cb rfl (wpAny_bind (wpAny_updateSeq_pair Cb fun hc Cc sc => ?_)))
    refine wpAny_bind (wpAny_letGo (wpAny_pure (wpAny_bind (wpAny_bind (wpAny_onRaise ?_)))))
    show wpAny _ _ (Builtin.SmallTypes.nextOf (.ref i2) >>= _) _ _ _
    refine wpAny_bind (nx_end hh ((A2.eb sb.extBut D.i12.symm).eb sc.extBut D.TOi2.symm) ((B2.eb sb.extBut D.l2i1).eb sc.extBut D.l2TO) hy fun hd e sd ⟨oe, hoe, hce⟩ => ?_)
    have zd : IsZip hd z TI TO .ellipsis := sd _ _ D.i2z.symm (sc.extBut _ _ D.TOz.symm (sb.extBut _ _ D.i1z.symm za))
    exact wpAny_setField_rec zd (by simp) fun hf _ sf => hE hf e (fun c o c1 c2 c3 c4 x => sf.extBut _ _ c1 (sd _ _ c4 (sc.extBut _ _ c2 (sb.extBut _ _ c3 (sa.extBut _ _ c1 x))))) ⟨oe, sf.extBut _ _ (notz zd hoe hce) hoe, hce⟩
theorem py_item {Q : Option Value → Shared → Prop} (D : ZipApart z TI TO i1 i2 l1 l2) (hz : IsZip s.heap z TI TO .none) (hTI : IsPair s.heap TI (.ref i1) (.ref i2)) (hTO : IsPair s.heap TO a b)
    (h1 : KIt k1 s.heap i1 l1 n1) (h2 : KIt k2 s.heap i2 l2 n2) (hl1 : KSq k1 s.heap l1 xs) (hl2 : KSq k2 s.heap l2 ys) (hx : xs[n1]? = some x) (hy : ys[n2]? = some y)
    (hQ : ∀ h', IsZip h' z TI TO (rawInt s.heap.objs.size) → IsPair h' TO x y → KIt k1 h' i1 l1 (n1 + 1) → KIt k2 h' i2 l2 (n2 + 1) → IsPair h' s.heap.objs.size x y → h'.objs.size = s.heap.objs.size + 1 → Kept s.heap h' z TO i1 i2 → Q (some (.ref s.heap.objs.size)) { s with heap := h' }) :
    wpAny (model prog w) A (pyNext (.ref z)) Q E s := by
  have hT : s.TypeIs (.ref z) "zip" := ⟨_, hz, rfl⟩
  unfold pyNext
  exact wpAny_bind (wpAny_attempt (wpAny_callSpecial?_slot (name := Str.ofString "__next__") hT F.slot_zip_next
    (wpAny_call_entry F.slot_zip_next hT F.entry_zip_next (zip_item D hz hTI hTO h1 h2 hl1 hl2 hx hy fun h' a1 a2 a3 a4 a5 a6 a7 => wpAny_pure (hQ h' a1 a2 a3 a4 a5 a6 a7)) (F.args_zip_next_1 _))))
theorem py_end {Q : Option Value → Shared → Prop} (hh : A.handled = none) (D : ZipApart z TI TO i1 i2 l1 l2) (hz : IsZip s.heap z TI TO .none) (hTI : IsPair s.heap TI (.ref i1) (.ref i2)) (hTO : IsPair s.heap TO a b)
    (h1 : KIt k1 s.heap i1 l1 n1) (h2 : KIt k2 s.heap i2 l2 n2) (hl1 : KSq k1 s.heap l1 xs) (hl2 : KSq k2 s.heap l2 ys) (hend : xs[n1]? = none ∨ ys[n2]? = none)
    (hQ : ∀ h', Kept s.heap h' z TO i1 i2 → Q none { s with heap := h' }) : wpAny (model prog w) A (pyNext (.ref z)) Q E s := by
  have hT : s.TypeIs (.ref z) "zip" := ⟨_, hz, rfl⟩
  unfold pyNext
  refine wpAny_bind (wpAny_attempt (wpAny_callSpecial?_slot (name := Str.ofString "__next__") hT F.slot_zip_next
    (wpAny_call_entry F.slot_zip_next hT F.entry_zip_next (zip_end hh D hz hTI hTO h1 h2 hl1 hl2 hend fun h' e hk ⟨o, ho, hc⟩ => ?_) (F.args_zip_next_1 _))))
  exact wpAny_bind (wpAny_isInstance (T := "StopIteration") (b := true) ⟨o, ho, hc⟩ isSubtype_stop (wpAny_pure (hQ _ hk)))
end
end Ev.Zm

set_option Elab.async false
set_option linter.all false
set_option autoImplicit false
set_option maxRecDepth 100000
set_option maxHeartbeats 2000000
namespace Ev.Zm
open PySem PySem.Spec PyProof.Rows L2
open PySem.Sem (wp)
def itN (k : Bool) : String := if k = true then "tuple_iterator" else "list_iterator"
abbrev H1 (k : Bool) (h : Heap) (l : Addr) : Heap := h.push { cls := .type (itN k), data := .fields #[.ref l, .int 0 0] }
abbrev H2 (k1 k2 : Bool) (h : Heap) (l1 l2 : Addr) : Heap := (H1 k1 h l1).push { cls := .type (itN k2), data := .fields #[.ref l2, .int 0 0] }
abbrev H3 (k1 k2 : Bool) (h : Heap) (l1 l2 : Addr) : Heap := (H2 k1 k2 h l1 l2).push { cls := .type "tuple", data := .seq #[.ref h.objs.size, .ref (H1 k1 h l1).objs.size] }
abbrev H4 (k1 k2 : Bool) (h : Heap) (l1 l2 : Addr) : Heap := (H3 k1 k2 h l1 l2).push { cls := .type "tuple", data := .seq #[.none, .none] }
abbrev H5 (k1 k2 : Bool) (h : Heap) (l1 l2 : Addr) : Heap := (H4 k1 k2 h l1 l2).push { cls := .type "zip", data := .fields #[.none, .bool false, .bool false, .ref (H2 k1 k2 h l1 l2).objs.size, .ref (H3 k1 k2 h l1 l2).objs.size] }
theorem meets_new (k1 k2 : Bool) (l1 l2 : Addr) (xs ys : Array Value) :
    Meets (Builtin.«zip.__new__» ⟨[.type "zip", .ref l1, .ref l2], []⟩) (fun _ R s => KSq k1 s.heap l1 xs ∧ KSq k2 s.heap l2 ys ∧
      R (.ok (.ret (.ref (H4 k1 k2 s.heap l1 l2).objs.size))) { s with heap := H5 k1 k2 s.heap l1 l2 }) := by
  cases k1 <;> cases k2
  · exact meets_zip_new l1 l2 xs ys
  · exact .of_wp fun prog w A R s h => by
      obtain ⟨hp, g, d, tk, os⟩ := s; obtain ⟨hl1, hl2, h⟩ := h
      have hsub := sub_zip
      have hL1 : Heap.IsList (Shared.heap ⟨hp, g, d, tk, os⟩) l1 xs := hl1
      have hL2 : Heap.IsTuple (Shared.heap ⟨hp.push { cls := .type "list_iterator", data := .fields #[.ref l1, .int 0 0] }, g, d, tk, os⟩) l2 ys := Heap.IsTuple.push hl2 _
      wp_walk using wpAny_pyIter_list hL1, wpAny_pyIter_tuple hL2
      exact ⟨_, rfl, h⟩
  · exact .of_wp fun prog w A R s h => by
      obtain ⟨hp, g, d, tk, os⟩ := s; obtain ⟨hl1, hl2, h⟩ := h
      have hsub := sub_zip
      have hL1 : Heap.IsTuple (Shared.heap ⟨hp, g, d, tk, os⟩) l1 xs := hl1
      have hL2 : Heap.IsList (Shared.heap ⟨hp.push { cls := .type "tuple_iterator", data := .fields #[.ref l1, .int 0 0] }, g, d, tk, os⟩) l2 ys := Heap.IsList.push hl2 _
      wp_walk using wpAny_pyIter_tuple hL1, wpAny_pyIter_list hL2
      exact ⟨_, rfl, h⟩
  · exact RZ.meets_zipT_new l1 l2 xs ys
theorem KIt.new (k : Bool) {h : Heap} {it l : Addr} (e : h.get? it = some { cls := .type (itN k), data := .fields #[.ref l, .int 0 0] }) : KIt k h it l 0 := by
  cases k
  · exact ⟨_, e, rfl, rfl⟩
  · exact ⟨_, e, rfl, rfl⟩
section
variable {prog : Program} {w : World} {A : Around} {E : Value → Shared → Prop} {s : Shared}
theorem call_zip {k1 k2 : Bool} {l1 l2 : Addr} {xs ys : Array Value} {Q : Value → Shared → Prop} (hl1 : KSq k1 s.heap l1 xs) (hl2 : KSq k2 s.heap l2 ys)
    (h : ∀ h', IsZip h' (s.heap.objs.size + 4) (s.heap.objs.size + 2) (s.heap.objs.size + 3) .none → IsPair h' (s.heap.objs.size + 2) (.ref s.heap.objs.size) (.ref (s.heap.objs.size + 1)) →
      IsPair h' (s.heap.objs.size + 3) .none .none → KIt k1 h' s.heap.objs.size l1 0 → KIt k2 h' (s.heap.objs.size + 1) l2 0 → h'.objs.size = s.heap.objs.size + 5 →
      (∀ c o, s.heap.get? c = some o → h'.get? c = some o) → Q (.ref (s.heap.objs.size + 4)) { s with heap := h' }) :
    wpAny (model prog w) A (call (.type "zip") [.ref l1, .ref l2]) Q E s := by
  refine callType_new F.called_zip (by decide) (F.typeCall_zip_2 _ _) (F.newCall_zip_2 _ _) (fun obj => F.args_object_init_3 obj _ _) F.entry_zip_new (meets_new k1 k2 l1 l2 xs ys) ⟨hl1, hl2, ?_⟩
  have z1 : (H1 k1 s.heap l1).objs.size = s.heap.objs.size + 1 := Heap.size_push ..
  have z2 : (H2 k1 k2 s.heap l1 l2).objs.size = s.heap.objs.size + 2 := by rw [Heap.size_push, z1]
  have z3 : (H3 k1 k2 s.heap l1 l2).objs.size = s.heap.objs.size + 3 := by rw [Heap.size_push, z2]
  have z4 : (H4 k1 k2 s.heap l1 l2).objs.size = s.heap.objs.size + 4 := by rw [Heap.size_push, z3]
  have z5 : (H5 k1 k2 s.heap l1 l2).objs.size = s.heap.objs.size + 5 := by rw [Heap.size_push, z4]
  have up : ∀ {h : Heap} {o o' : Obj} {c : Addr}, h.get? c = some o → (h.push o').get? c = some o := fun e => Heap.get?_push_of_some _ e
  have g5 : (H5 k1 k2 s.heap l1 l2).get? (H4 k1 k2 s.heap l1 l2).objs.size = some _ := Heap.get?_push_size _ rfl
  have g4 : (H5 k1 k2 s.heap l1 l2).get? (H3 k1 k2 s.heap l1 l2).objs.size = some _ := up (Heap.get?_push_size _ rfl)
  have g3 : (H5 k1 k2 s.heap l1 l2).get? (H2 k1 k2 s.heap l1 l2).objs.size = some _ := up (up (Heap.get?_push_size _ rfl))
  have g2 : (H5 k1 k2 s.heap l1 l2).get? (H1 k1 s.heap l1).objs.size = some _ := up (up (up (Heap.get?_push_size _ rfl)))
  have g1 : (H5 k1 k2 s.heap l1 l2).get? s.heap.objs.size = some _ := up (up (up (up (Heap.get?_push_size _ rfl))))
  show _ ∧ _
  rw [z2, z3, z4] at g5
  rw [z1, z2] at g3
  rw [z3] at g4
  rw [z1] at g2
  rw [z4]
  exact ⟨⟨_, g5, rfl⟩, h _ g5 g3 g4 (KIt.new k1 g1) (KIt.new k2 g2) z5 fun c o x => up (up (up (up (up x))))⟩
end
/-- what is walked: a tuple (k) or a list -/
def SqK (k : Bool) (K : PySem.W.Frag) (H : Hp) (a : Addr) (xs : List V) : Prop := if k = true then SqT K H a xs else SqL K H a xs
theorem sqK_has {k : Bool} {X : Cx} {pins : List (Addr × Obj)} {σ : List (Option V)} {H : Hp} {s : Shared} {a : Addr} {xs : List V} (I : Inv X pins σ H s) (h : SqK k X.K H a xs) : ∃ its, Vals xs its ∧ KSq k s.heap a its.toArray := by
  cases k
  · obtain ⟨its, rv, p, _⟩ := I.list (h : SqL X.K H a xs)
    exact ⟨its, rv, p.isList⟩
  · obtain ⟨its, rv, p, _⟩ := I.tuple (h : SqT X.K H a xs)
    exact ⟨its, rv, p⟩
theorem sqK_inj {k : Bool} {X : Cx} {pins : List (Addr × Obj)} {σ : List (Option V)} {H : Hp} {s : Shared} {a : Addr} {xs ys : List V} (I : Inv X pins σ H s) (h : SqK k X.K H a xs) (h2 : SqK k X.K H a ys) : xs = ys := by
  cases k
  · exact I.list_inj (h : SqL X.K H a xs) h2
  · exact I.tuple_inj (h : SqT X.K H a xs) h2
def ItK (k1 k2 : Bool) (K : PySem.W.Frag) (a b : Addr) : It :=
  ⟨fun i H => ∃ (xs ys : List V) (x y : V), SqK k1 K H a xs ∧ SqK k2 K H b ys ∧ xs[i]? = some x ∧ ys[i]? = some y,
    fun i H v H' => ∃ T x y, v = .ref T ∧ H T = none ∧ H' = upd H T (.tup [x, y]) ∧ (∀ xs, SqK k1 K H a xs → xs[i]? = some x) ∧ ∀ ys, SqK k2 K H b ys → ys[i]? = some y,
    fun i H => ∃ xs ys : List V, SqK k1 K H a xs ∧ SqK k2 K H b ys ∧ (xs.length ≤ i ∨ ys.length ≤ i)⟩
theorem turn_zip {k1 k2 : Bool} {P : Program} {w : World} {K : PySem.W.Frag} {elts : List Expr} {kk : Nat} {tpos : Pos} {a b z TI TO i1 i2 : Addr} (D : ZipApart z TI TO i1 i2 a b) :
    Turn P w K (.Tuple elts kk tpos) (ItK k1 k2 K a b) [z, TI, TO, i1, i2] z (fun i h => IsZip h z TI TO .none ∧ IsPair h TI (.ref i1) (.ref i2) ∧ (∃ x y, IsPair h TO x y) ∧ KIt k1 h i1 a i ∧ KIt k2 h i2 b i) := by
  have five : ∀ {c : Addr}, c ∈ [z, TI, TO, i1, i2] → c = z ∨ c = TI ∨ c = TO ∨ c = i1 ∨ c = i2 := fun h => by simpa using h
  have off : ∀ {c : Addr}, c ∉ [z, TI, TO, i1, i2] → c ≠ z ∧ c ≠ TO ∧ c ≠ i1 ∧ c ≠ i2 := fun h => by simp at h; exact ⟨h.1, h.2.2.1, h.2.2.2.1, h.2.2.2.2⟩
  refine { mem := by simp, obj := fun i h st c hc => ?_, keep := fun i h h' st k => ?_, item := ?_, done := ?_, self := fun A i s Q E st h => wpAny_pyIter_zip st.1 h }
  · obtain ⟨hz, hTI, ⟨x, y, hTO⟩, q1, q2⟩ := st
    rcases five hc with q | q | q | q | q
    · rw [q]; exact ⟨_, hz, fun v q => nomatch q⟩
    · rw [q]; exact ⟨_, hTI, fun v q => nomatch q⟩
    · rw [q]; exact ⟨_, hTO, fun v q => nomatch q⟩
    · rw [q]; exact q1.ob
    · rw [q]; exact q2.ob
  · obtain ⟨hz, hTI, ⟨x, y, hTO⟩, q1, q2⟩ := st
    exact ⟨k z (by simp) _ hz, k TI (by simp) _ hTI, ⟨x, y, k TO (by simp) _ hTO⟩, q1.at fun o q => k i1 (by simp) o q, q2.at fun o q => k i2 (by simp) o q⟩
  · intro X hP hw hK hc i pins s σ H E I hf st hg
    subst hP hw hK
    obtain ⟨hz, hTI, ⟨x0, y0, hTO⟩, q1, q2⟩ := st
    obtain ⟨xs, ys, x, y, hqx, hqy, hx, hy⟩ := hg
    obtain ⟨its, rv, p⟩ := sqK_has I hqx
    obtain ⟨its2, rv2, p2⟩ := sqK_has I hqy
    obtain ⟨u, hu, ru⟩ := rv.get hx
    obtain ⟨u2, hu2, ru2⟩ := rv2.get hy
    have hzl : z < s.heap.objs.size := Heap.lt_size hz
    refine py_item D hz hTI hTO q1 q2 p p2 (x := u) (y := u2) (by simpa using hu) (by simpa using hu2) fun h' z' TO' a1 a2 hT hsz hk => ?_
    refine ⟨_, rfl, wpAny_letOwnedTupleGo_zip (s := { s with heap := h' }) z' fun h'' z'' sb => ?_⟩
    have hT2 : h''.get? s.heap.objs.size = some { cls := .type "tuple", data := .seq #[u, u2] } := (sb.2 _ (Nat.ne_of_gt hzl)).trans hT
    have new : ObjOk X.prog X.w (upd H s.heap.objs.size (.tup [x, y])) h'' s.heap.objs.size (.tup [x, y]) :=
      ⟨by show 2 ≤ sizeLine; decide, [u, u2], .cons ru (.cons ru2 .nil), ⟨_, hT2, rfl, _, rfl⟩⟩
    have I1 : Inv X pins σ (upd H s.heap.objs.size (.tup [x, y])) { s with heap := h'' } :=
      I.turnedNew (t' := s.toks) (ch := [z, TI, TO, i1, i2]) (fun c o hb q => (sb.2 c (off hb).1).trans (hk c o (off hb).1 (off hb).2.1 (off hb).2.2.1 (off hb).2.2.2 q)) hf (Nat.le_refl _) new
    refine ⟨.ref s.heap.objs.size, _, I1, rfl, ⟨_, x, y, rfl, I.hok.fresh (Nat.le_refl _), rfl, fun l hl => by rw [sqK_inj I hl hqx]; exact hx, fun l hl => by rw [sqK_inj I hl hqy]; exact hy⟩, ⟨z'', ?_, ⟨u, u2, ?_⟩, ?_, ?_⟩, fun c hcm => ?_⟩
    · exact (sb.2 _ D.TIz).trans (hk _ _ D.TIz D.TITO D.TIi1 D.TIi2 hTI)
    · exact (sb.2 _ D.TOz).trans TO'
    · exact a1.at fun o q => (sb.2 _ D.i1z).trans q
    · exact a2.at fun o q => (sb.2 _ D.i2z).trans q
    · have hlt : c < s.heap.objs.size := by
        rcases five hcm with q | q | q | q | q
        · rw [q]; exact hzl
        · rw [q]; exact Heap.lt_size hTI
        · rw [q]; exact Heap.lt_size hTO
        · rw [q]; obtain ⟨_, e, _⟩ := q1.ob; exact Heap.lt_size e
        · rw [q]; obtain ⟨_, e, _⟩ := q2.ob; exact Heap.lt_size e
      rw [upd_ne (Nat.ne_of_lt hlt)]
      exact (hf c hcm).1
  · intro X hP hw hK hc i pins s σ H E I hf st hg
    subst hP hw hK
    obtain ⟨hz, hTI, ⟨x0, y0, hTO⟩, q1, q2⟩ := st
    obtain ⟨xs, ys, hqx, hqy, hend⟩ := hg
    obtain ⟨its, rv, p⟩ := sqK_has I hqx
    obtain ⟨its2, rv2, p2⟩ := sqK_has I hqy
    have l1 := rv.length
    have l2 := rv2.length
    have he : its.toArray[i]? = none ∨ its2.toArray[i]? = none := by
      rcases hend with q | q
      · exact .inl (by simp; omega)
      · exact .inr (by simp; omega)
    exact py_end (I.ok.hd hc) D hz hTI hTO q1 q2 p p2 he fun h' hk => ⟨rfl, I.turnedL (t' := s.toks) (ch := [z, TI, TO, i1, i2]) (fun c o hb q => hk c o (off hb).1 (off hb).2.1 (off hb).2.2.1 (off hb).2.2.2 q) hf⟩
def iZipK (K : PySem.W.Frag) (ta : TA) : TI := fun σ H R => ta σ H fun vs H1 => ∃ k1 k2 a b xs ys, vs = [.ref a, .ref b] ∧ SqK k1 K H1 a xs ∧ SqK k2 K H1 b ys ∧ R (ItK k1 k2 K a b) H1
theorem pi_zipK {X : Cx} {e e2 : Expr} {ta : TA} {p pos tpos : Pos} {elts : List Expr} {kk : Nat} (hg : Gl X "zip") (hm : X.mg "zip" = none) (ha : PA X [e, e2] ta)
    (hs : starEach [e, e2] X.env = (false, eval e X.env) :: starEach [e2] X.env) (hpl : (backTo pos (starEach [e2] X.env)).any (·.1) = false) :
    PI X (.Tuple elts kk tpos) (.Call (.Name "zip" p) [e, e2] [] pos) (iZipK X.K ta) := by
  refine ⟨fun pins s σ H R I h => ?_⟩
  refine Call_ (ld_blt I hg hm PyProof.Rows.boot_zip (PyProof.Rows.callWith_type1 (thn (ha.run pos pins s σ H _ I h) fun us s1 ⟨vs, H1, I1, r1, q1⟩ => ?_) hs hpl))
  obtain ⟨k1, k2, a, b, xs, ys, ex, hqx, hqy, q⟩ := q1
  subst ex
  cases r1 with
  | cons r rr =>
    cases rr with
    | cons r' rr =>
      cases rr
      cases r
      cases r'
      obtain ⟨its, rv, p1⟩ := sqK_has I1 hqx
      obtain ⟨its2, rv2, p2⟩ := sqK_has I1 hqy
      refine call_zip p1 p2 fun h' hz hTI hTO a1 a2 hsz hk => wpAny_pyIter_zip hz ?_
      have I2 : Inv X pins σ H1 { s1 with heap := h' } := I1.kept (t' := s1.toks) hk
      refine ⟨s1.heap.objs.size + 4, [s1.heap.objs.size + 4, s1.heap.objs.size + 2, s1.heap.objs.size + 3, s1.heap.objs.size, s1.heap.objs.size + 1], _, _, H1, rfl, I2, turn_zip (PySem.W.ktu_apart s1.heap.objs.size a b p1.lt p2.lt), ⟨hz, hTI, ⟨_, _, hTO⟩, a1, a2⟩, fun c hcm => ?_, q⟩
      have hle : s1.heap.objs.size ≤ c := by
        have : c = s1.heap.objs.size + 4 ∨ c = s1.heap.objs.size + 2 ∨ c = s1.heap.objs.size + 3 ∨ c = s1.heap.objs.size ∨ c = s1.heap.objs.size + 1 := by simpa using hcm
        rcases this with z | z | z | z | z <;> rw [z] <;> first | exact Nat.le_add_right _ _ | exact Nat.le_refl _
      exact I1.fpOk hle (I1.hok.fresh hle)
end Ev.Zm

set_option Elab.async false
set_option linter.all false
set_option autoImplicit false
set_option maxRecDepth 100000
set_option maxHeartbeats 2000000
namespace Ev
open PySem PySem.Spec PyProof.Rows L2
section
variable (X : Cx) (W : List Addr)
/-- the iterator J gives what src says, while F stands -/
structure SrcOk (src : Src) (J : It) (F : Hp → Mu → Prop) : Prop where
  st : ∀ W0 H μ H' μ' mh, F H μ → hR X W0 H μ mh → Stp H μ H' μ' → F H' μ'
  go : ∀ (xs : List Vl) (i : Nat) (y : Vl) H μ mh, (src = .l xs ∨ ∃ k, src = .r k ∧ mh[k]? = some (.lst xs)) → F H μ → hR X W H μ mh → xs[i]? = some y →
    J.go i H ∧ ∀ x H', J.yld i H x H' → Stp H μ H' μ ∧ hR X W H' μ mh ∧ rV X W H' μ y x
  stop : ∀ (xs : List Vl) (i : Nat) H μ mh, (src = .l xs ∨ ∃ k, src = .r k ∧ mh[k]? = some (.lst xs)) → F H μ → hR X W H μ mh → xs[i]? = none → J.stop i H
def SrcR : Hp → Mu → Src → It → Prop := fun H μ src J => ∀ W', (∀ a, a ∈ W' → a ∈ W ∨ H a = none) → ∃ F, SrcOk X W' src J F ∧ F H μ
theorem Mo.wid {W W' : List Addr} {H : Hp} {μ : Mu} {a : Addr} (hw : ∀ a, a ∈ W' → a ∈ W ∨ H a = none) (h : H a ≠ none) (b : ¬ Mo μ W a) : ¬ Mo μ W' a := fun z => z.elim (fun z => b (.inl z)) fun z => (hw a z).elim (fun z => b (.inr z)) h
theorem Dz.wid {K : PySem.W.Frag} {W W' : List Addr} {H : Hp} {μ : Mu} {d : PyData} {v : V} (hw : ∀ a, a ∈ W' → a ∈ W ∨ H a = none) (h : Dz K H (Mo μ W) v d) : Dz K H (Mo μ W') v d := Dz.mono (fun _ _ _ e b => ⟨e, Mo.wid hw (by rw [e]; simp) b⟩) (fun _ _ q => q) d v h
theorem DzA.wid {K : PySem.W.Frag} {W W' : List Addr} {H : Hp} {μ : Mu} {ds : List PyData} {vs : List V} (hw : ∀ a, a ∈ W' → a ∈ W ∨ H a = none) (h : DzA K H (Mo μ W) vs ds) : DzA K H (Mo μ W') vs ds := DzA.mono (fun _ _ _ e b => ⟨e, Mo.wid hw (by rw [e]; simp) b⟩) (fun _ _ q => q) ds vs h
theorem Mo.wid' {W W' : List Addr} {H : Hp} {μ : Mu} {a : Addr} {xs : List V} (hw : ∀ a, a ∈ W' → a ∈ W ∨ H a = none) (h : H a = some (.lst xs)) (b : ¬ Mo μ W a) : ¬ Mo μ W' a := Mo.wid hw (by rw [h]; simp) b
end
section
variable {X : Cx} {W : List Addr} {Wx : WX} {tg : Expr}
abbrev tI (X : Cx) (Wx : WX) (f : Env → MH → Res Src) : TI := Rg X Wx (SrcR X) f
theorem pi_imp {e : Expr} {t t' : TI} (h : PI X tg e t) (i : ∀ σ H R, t' σ H R → t σ H R) : PI X tg e t' := ⟨fun pins s σ H R I w => h.run pins s σ H R I (i σ H R w)⟩
/-- a list or a tuple -/
def iSeq (K : PySem.W.Frag) (tl : TE) : TI := fun σ H R => tl σ H fun x H1 => ∃ a, x = .ref a ∧ (((∃ xs, SqL K H1 a xs) ∧ R (Itl K a) H1) ∨ ((∃ xs, SqT K H1 a xs) ∧ R (Itt K a) H1))
theorem pi_seq {l : Expr} {tl : TE} (hl : PE X l tl) : PI X tg l (iSeq X.K tl) := by
  refine ⟨fun pins s σ H R I h => ?_⟩
  refine thn (hl.run pins s σ H _ I h) fun v s1 ⟨x, H1, I1, r1, q1⟩ => ?_
  obtain ⟨a, e, q1⟩ := q1
  subst e
  cases r1
  rcases q1 with ⟨⟨xs, hq⟩, q⟩ | ⟨⟨xs, hq⟩, q⟩
  · obtain ⟨its, rv, p, hz⟩ := I1.list hq
    refine wpAny_pyIter_list p.isList ?_
    refine ⟨s1.heap.objs.size, [s1.heap.objs.size], _, _, H1, rfl, I1.kept (t' := s1.toks) fun b o e => Heap.get?_push_of_some _ e, turn_list a _, ⟨_, Heap.get?_push_size _ rfl, rfl, rfl⟩, fun b hb => ?_, q⟩
    have e : b = s1.heap.objs.size := by simpa using hb
    subst e
    exact I1.fpOk (Nat.le_refl _) (I1.hok.fresh (Nat.le_refl _))
  · obtain ⟨its, rv, p, hz⟩ := I1.tuple hq
    refine wpAny_pyIter_tuple (show s1.heap.IsTuple a its.toArray from p) ?_
    refine ⟨s1.heap.objs.size, [s1.heap.objs.size], _, _, H1, rfl, I1.kept (t' := s1.toks) fun b o e => Heap.get?_push_of_some _ e, turn_tuple a _, ⟨_, Heap.get?_push_size _ rfl, rfl, rfl⟩, fun b hb => ?_, q⟩
    have e : b = s1.heap.objs.size := by simpa using hb
    subst e
    exact I1.fpOk (Nat.le_refl _) (I1.hok.fresh (Nat.le_refl _))
theorem map_get {α β : Type} {f : α → β} {xs : List α} {i : Nat} {y : β} (h : (xs.map f)[i]? = some y) : ∃ x, xs[i]? = some x ∧ y = f x := by
  rw [List.getElem?_map] at h
  obtain ⟨x, h1, h2⟩ := Option.map_eq_some_iff.mp h
  exact ⟨x, h1, h2.symm⟩
theorem map_none {α β : Type} {f : α → β} {xs : List α} {i : Nat} (h : (xs.map f)[i]? = none) : xs.length ≤ i := by
  have := List.getElem?_eq_none_iff.mp h
  simpa using this
/-- over a frozen list -/
theorem src_list {a : Addr} {ds : List PyData} : SrcOk X W (.l (ds.map .d)) (Itl X.K a) (fun H μ => ∃ vs, H a = some (.lst vs) ∧ ¬ Mo μ W a ∧ DzA X.K H (Mo μ W) vs ds) where
  st := fun _ H μ H' μ' mh ⟨vs, h1, h2, h3⟩ hr st => ⟨vs, (st.rdH h1 h2).1, (st.rdH h1 h2).2, st.dzA hr h3⟩
  go := fun xs i y H μ mh hx ⟨vs, h1, h2, h3⟩ hr hy => by
    rcases hx with hx | ⟨k, hx, _⟩
    · cases hx
      obtain ⟨d, e1, rfl⟩ := map_get hy
      obtain ⟨v, e2, r⟩ := h3.get e1
      refine ⟨⟨vs, v, SqL.of h1, e2⟩, fun x H' ⟨eH, hq⟩ => ?_⟩
      subst eH
      have := hq vs (SqL.of h1)
      rw [e2] at this; cases this
      exact ⟨Stp.refl _ _, hr, r⟩
    · cases hx
  stop := fun xs i H μ mh hx ⟨vs, h1, h2, h3⟩ hr hy => by
    rcases hx with hx | ⟨k, hx, _⟩
    · cases hx
      exact ⟨vs, SqL.of h1, by rw [h3.length]; exact map_none hy⟩
    · cases hx
theorem src_tup {a : Addr} {ds : List PyData} : SrcOk X W (.l (ds.map .d)) (Itt X.K a) (fun H μ => ∃ vs, SqT X.K H a vs ∧ DzA X.K H (Mo μ W) vs ds) where
  st := fun _ H μ H' μ' mh ⟨vs, h1, h3⟩ hr st => ⟨vs, st.sqT hr h1, st.dzA hr h3⟩
  go := fun xs i y H μ mh hx ⟨vs, h1, h3⟩ hr hy => by
    rcases hx with hx | ⟨k, hx, _⟩
    · cases hx
      obtain ⟨d, e1, rfl⟩ := map_get hy
      obtain ⟨v, e2, r⟩ := h3.get e1
      refine ⟨⟨vs, v, h1, e2⟩, fun x H' ⟨eH, hq⟩ => ?_⟩
      subst eH
      have := hq vs h1
      rw [e2] at this; cases this
      exact ⟨Stp.refl _ _, hr, r⟩
    · cases hx
  stop := fun xs i H μ mh hx ⟨vs, h1, h3⟩ hr hy => by
    rcases hx with hx | ⟨k, hx, _⟩
    · cases hx
      exact ⟨vs, h1, by rw [h3.length]; exact map_none hy⟩
    · cases hx
/-- over a mutable list, as it stands at each turn -/
theorem src_ref {a : Addr} {k : Nat} : SrcOk X W (.r k) (Itl X.K a) (fun H μ => rV X W H μ (.r k) (.ref a)) where
  st := fun _ H μ H' μ' mh r hr st => st.rv hr r
  go := fun xs i y H μ mh hx r hr hy => by
    rcases hx with hx | ⟨k', hx, hm⟩
    · cases hx
    · cases hx
      obtain ⟨_, b, vs, e1, e2, e3, e4⟩ := RV.ref hr r hm
      cases e1
      obtain ⟨v, h1, h2⟩ := RVs.get e4 hy
      refine ⟨⟨vs, v, SqL.of e3, h1⟩, fun x H' ⟨eH, hq⟩ => ?_⟩
      subst eH
      have := hq vs (SqL.of e3)
      rw [h1] at this; cases this
      exact ⟨Stp.refl _ _, hr, h2⟩
  stop := fun xs i H μ mh hx r hr hy => by
    rcases hx with hx | ⟨k', hx, hm⟩
    · cases hx
    · cases hx
      obtain ⟨_, b, vs, e1, e2, e3, e4⟩ := RV.ref hr r hm
      cases e1
      exact ⟨vs, SqL.of e3, by rw [← Paired.length e4]; exact List.getElem?_eq_none_iff.mp hy⟩
theorem rangeD_get {lo : Int} {n i : Nat} {d : PyData} (h : (rangeD lo n)[i]? = some d) : i < n ∧ d = .int (lo + i) := by
  unfold rangeD at h
  obtain ⟨x, h1, rfl⟩ := map_get h
  obtain ⟨h2, h3⟩ := List.getElem?_eq_some_iff.mp h1
  simp at h2 h3
  subst h3
  exact ⟨h2, rfl⟩
theorem rangeD_length (lo : Int) (n : Nat) : (rangeD lo n).length = n := by unfold rangeD; simp
theorem src_rng {lo : Int} {n : Nat} : SrcOk X W (.l ((rangeD lo n).map .d)) (L2.Itr lo n) (fun _ _ => True) where
  st := fun _ _ _ _ _ _ _ _ _ => trivial
  go := fun xs i y H μ mh hx _ hr hy => by
    rcases hx with hx | ⟨k, hx, _⟩
    · cases hx
      obtain ⟨d, e1, rfl⟩ := map_get hy
      obtain ⟨hi, rfl⟩ := rangeD_get e1
      refine ⟨hi, fun x H' ⟨eH, ex⟩ => ?_⟩
      subst eH; subst ex
      exact ⟨Stp.refl _ _, hr, Dz.int _⟩
    · cases hx
  stop := fun xs i H μ mh hx _ hr hy => by
    rcases hx with hx | ⟨k, hx, _⟩
    · cases hx
      have := map_none hy
      rw [rangeD_length] at this
      exact this
    · cases hx
theorem enmD_get : ∀ {ds : List PyData} {k i : Nat} {y : Vl}, (enmD ds k)[i]? = some y → ∃ d, ds[i]? = some d ∧ y = .d (.tuple [.int ((k + i : Nat) : Int), d])
  | [], k, i, y, h => by simp [enmD] at h
  | d :: ds, k, 0, y, h => by simp [enmD] at h; exact ⟨d, rfl, h.symm⟩
  | d :: ds, k, i + 1, y, h => by
    simp only [enmD, List.getElem?_cons_succ] at h
    obtain ⟨e, h1, h2⟩ := enmD_get h
    refine ⟨e, by simpa using h1, ?_⟩
    rw [h2]
    have : k + 1 + i = k + (i + 1) := by omega
    rw [this]
theorem enmD_none : ∀ {ds : List PyData} {k i : Nat}, (enmD ds k)[i]? = none → ds.length ≤ i
  | [], k, i, h => Nat.zero_le _
  | d :: ds, k, 0, h => by simp [enmD] at h
  | d :: ds, k, i + 1, h => by
    simp only [enmD, List.getElem?_cons_succ] at h
    have := enmD_none h
    rw [List.length_cons]; omega
theorem src_enm {a : Addr} {ds : List PyData} : SrcOk X W (.l (enmD ds 0)) (Ite X.K a) (fun H μ => ∃ vs, H a = some (.lst vs) ∧ ¬ Mo μ W a ∧ DzA X.K H (Mo μ W) vs ds) where
  st := fun _ H μ H' μ' mh ⟨vs, h1, h2, h3⟩ hr st => ⟨vs, (st.rdH h1 h2).1, (st.rdH h1 h2).2, st.dzA hr h3⟩
  go := fun xs i y H μ mh hx ⟨vs, h1, h2, h3⟩ hr hy => by
    rcases hx with hx | ⟨k, hx, _⟩
    · cases hx
      obtain ⟨d, e1, rfl⟩ := enmD_get hy
      obtain ⟨v, e2, r⟩ := h3.get e1
      refine ⟨⟨vs, v, SqL.of h1, e2⟩, fun x H' ⟨T, z, ex, hT, eH, hq⟩ => ?_⟩
      subst eH; subst ex
      have := hq vs (SqL.of h1)
      rw [e2] at this; cases this
      obtain ⟨st, hr'⟩ := HR.fresh (o := .tup [.int ((i : Nat) : Int), v]) hr hT
      refine ⟨st, hr', ?_⟩
      rw [Nat.zero_add]
      exact .tup upd_same (.cons (.int _) (.cons (st.dz hr r) .nil))
    · cases hx
  stop := fun xs i H μ mh hx ⟨vs, h1, h2, h3⟩ hr hy => by
    rcases hx with hx | ⟨k, hx, _⟩
    · cases hx
      exact ⟨vs, SqL.of h1, by rw [h3.length]; exact enmD_none hy⟩
    · cases hx
theorem src_enmT {a : Addr} {ds : List PyData} : SrcOk X W (.l (enmD ds 0)) (IteT X.K a) (fun H μ => ∃ vs, SqT X.K H a vs ∧ DzA X.K H (Mo μ W) vs ds) where
  st := fun _ H μ H' μ' mh ⟨vs, h1, h3⟩ hr st => ⟨vs, st.sqT hr h1, st.dzA hr h3⟩
  go := fun xs i y H μ mh hx ⟨vs, h1, h3⟩ hr hy => by
    rcases hx with hx | ⟨k, hx, _⟩
    · cases hx
      obtain ⟨d, e1, rfl⟩ := enmD_get hy
      obtain ⟨v, e2, r⟩ := h3.get e1
      refine ⟨⟨vs, v, h1, e2⟩, fun x H' ⟨T, z, ex, hT, eH, hq⟩ => ?_⟩
      subst eH; subst ex
      have := hq vs (h1)
      rw [e2] at this; cases this
      obtain ⟨st, hr'⟩ := HR.fresh (o := .tup [.int ((i : Nat) : Int), v]) hr hT
      refine ⟨st, hr', ?_⟩
      rw [Nat.zero_add]
      exact .tup upd_same (.cons (.int _) (.cons (st.dz hr r) .nil))
    · cases hx
  stop := fun xs i H μ mh hx ⟨vs, h1, h3⟩ hr hy => by
    rcases hx with hx | ⟨k, hx, _⟩
    · cases hx
      exact ⟨vs, h1, by rw [h3.length]; exact enmD_none hy⟩
    · cases hx
theorem zipD_get : ∀ {ds es : List PyData} {i : Nat} {y : Vl}, (zipD ds es)[i]? = some y → ∃ d e, ds[i]? = some d ∧ es[i]? = some e ∧ y = .d (.tuple [d, e])
  | [], _, i, y, h => by simp [zipD] at h
  | _ :: _, [], i, y, h => by simp [zipD] at h
  | d :: ds, e :: es, 0, y, h => by simp [zipD] at h; exact ⟨d, e, rfl, rfl, h.symm⟩
  | d :: ds, e :: es, i + 1, y, h => by
    simp only [zipD, List.getElem?_cons_succ] at h
    obtain ⟨d', e', h1, h2, h3⟩ := zipD_get h
    exact ⟨d', e', by simpa using h1, by simpa using h2, h3⟩
theorem zipD_none : ∀ {ds es : List PyData} {i : Nat}, (zipD ds es)[i]? = none → ds.length ≤ i ∨ es.length ≤ i
  | [], _, i, h => .inl (Nat.zero_le _)
  | _ :: _, [], i, h => .inr (Nat.zero_le _)
  | d :: ds, e :: es, 0, h => by simp [zipD] at h
  | d :: ds, e :: es, i + 1, h => by
    simp only [zipD, List.getElem?_cons_succ] at h
    have := zipD_none h
    rw [List.length_cons, List.length_cons]; omega
/-- data that stand behind a list or a tuple (k) -/
def SqF (k : Bool) (K : PySem.W.Frag) (W : List Addr) (H : Hp) (μ : Mu) (a : Addr) (vs : List V) : Prop := if k = true then SqT K H a vs else (H a = some (.lst vs) ∧ ¬ Mo μ W a)
theorem SqF.sq {k : Bool} {K : PySem.W.Frag} {W : List Addr} {H : Hp} {μ : Mu} {a : Addr} {vs : List V} (h : SqF k K W H μ a vs) : Zm.SqK k K H a vs := by
  cases k
  · exact SqL.of (h : H a = some (.lst vs) ∧ ¬ Mo μ W a).1
  · exact h
theorem src_zipK {k1 k2 : Bool} {a b : Addr} {ds es : List PyData} : SrcOk X W (.l (zipD ds es)) (Zm.ItK k1 k2 X.K a b) (fun H μ => ∃ vs ws, SqF k1 X.K W H μ a vs ∧ DzA X.K H (Mo μ W) vs ds ∧ SqF k2 X.K W H μ b ws ∧ DzA X.K H (Mo μ W) ws es) where
  st := fun _ H μ H' μ' mh ⟨vs, ws, h1, h3, k1', k3⟩ hr st => by
    refine ⟨vs, ws, ?_, st.dzA hr h3, ?_, st.dzA hr k3⟩
    · cases k1
      · have h1 : H a = some (.lst vs) ∧ ¬ Mo μ W a := h1
        exact ⟨(st.rdH h1.1 h1.2).1, (st.rdH h1.1 h1.2).2⟩
      · exact st.sqT hr (h1 : SqT X.K H a vs)
    · cases k2
      · have h1 : H b = some (.lst ws) ∧ ¬ Mo μ W b := k1'
        exact ⟨(st.rdH h1.1 h1.2).1, (st.rdH h1.1 h1.2).2⟩
      · exact st.sqT hr (k1' : SqT X.K H b ws)
  go := fun xs i y H μ mh hx ⟨vs, ws, h1, h3, k1', k3⟩ hr hy => by
    rcases hx with hx | ⟨k, hx, _⟩
    · cases hx
      obtain ⟨d, e, e1, f1, rfl⟩ := zipD_get hy
      obtain ⟨v, e2, r⟩ := h3.get e1
      obtain ⟨w, f2, r'⟩ := k3.get f1
      refine ⟨⟨vs, ws, v, w, h1.sq, k1'.sq, e2, f2⟩, fun x H' ⟨T, z, z', ex, hT, eH, hq, hq'⟩ => ?_⟩
      subst eH; subst ex
      have := hq vs h1.sq
      rw [e2] at this; cases this
      have := hq' ws k1'.sq
      rw [f2] at this; cases this
      obtain ⟨st, hr'⟩ := HR.fresh (o := .tup [v, w]) hr hT
      exact ⟨st, hr', .tup upd_same (.cons (st.dz hr r) (.cons (st.dz hr r') .nil))⟩
    · cases hx
  stop := fun xs i H μ mh hx ⟨vs, ws, h1, h3, k1', k3⟩ hr hy => by
    rcases hx with hx | ⟨k, hx, _⟩
    · cases hx
      exact ⟨vs, ws, h1.sq, k1'.sq, by rw [h3.length, k3.length]; exact zipD_none hy⟩
    · cases hx

/-! ### the rules -/
/-- a value's own items -/
theorem srcR_val {H : Hp} {μ : Mu} {mh : MH} {x : Vl} {v : V} {src : Src} (hr : hR X W H μ mh) (r : rV X W H μ x v) (e : srcOf x mh = some src) :
    ∃ a, v = .ref a ∧ (((∃ xs, SqL X.K H a xs) ∧ SrcR X W H μ src (Itl X.K a)) ∨ ((∃ xs, SqT X.K H a xs) ∧ SrcR X W H μ src (Itt X.K a))) := by
  cases x with
  | d x =>
    cases x with
    | list ds =>
      cases r with
      | lst a b c =>
        simp only [srcOf, items, Option.bind_some] at e
        split at e
        · cases e
          exact ⟨_, rfl, .inl ⟨⟨_, SqL.of a⟩, fun W' hw => ⟨_, src_list, _, a, Mo.wid' hw a b, c.wid hw⟩⟩⟩
        · cases e
    | tuple ds =>
      cases r with
      | tupA a c =>
        simp only [srcOf, items, Option.bind_some] at e
        split at e
        · cases e
          exact ⟨_, rfl, .inr ⟨⟨_, tsq a⟩, fun W' hw => ⟨_, src_tup, _, tsq a, c.wid hw⟩⟩⟩
        · cases e
    | _ => simp [srcOf, items] at e
  | r i =>
    simp only [srcOf] at e
    split at e
    · rename_i xs hx
      cases e
      obtain ⟨_, a, vs, e1, e2, e3, e4⟩ := RV.ref hr r hx
      subst e1
      exact ⟨a, rfl, .inl ⟨⟨vs, SqL.of e3⟩, fun W' hw => ⟨_, src_ref, r⟩⟩⟩
    · cases e
  | g x => simp [srcOf, items] at e
  | sc ns => simp [srcOf, items] at e
  | x a => simp [srcOf, items] at e
/-- what stands behind an evaluation that walks its own value -/
theorem pi_ev_seq {e : Expr} {f : Env → MH → Res Vl} (he : PE X e (tE X Wx f)) : PI X tg e (tI X Wx fun σ h => (f σ h).bind fun x h1 => ofOpt (srcOf x h1) h1) := by
  refine pi_imp (pi_seq he) fun σ H R h => ?_
  refine (Rg.bind (R := rV X) h).mono fun v H1 ⟨W, mσ, μ, x, μ1, mh1, st, hr, sr, rv, p⟩ => ?_
  obtain ⟨src, hs, q1⟩ := Post.ofOpt p hr
  obtain ⟨a, ea, q⟩ := srcR_val hr rv hs
  exact ⟨a, ea, q.imp (fun z => ⟨z.1, q1 _ z.2⟩) (fun z => ⟨z.1, q1 _ z.2⟩)⟩
theorem rngOk_ok {i j : Int} (h : rngOk i j = true) : -(2 ^ 62) ≤ i ∧ i < 2 ^ 62 ∧ -(2 ^ 62) ≤ j ∧ j < 2 ^ 62 ∧ (j - i).toNat ≤ sz := of_decide_eq_true h
theorem pi_ev_rng {a b : Expr} {p pos : Pos} {fa fb : Env → MH → Res Vl} (hg : Gl X "range") (hm : X.mg "range" = none) (hs : starEach [a, b] X.env = [(false, eval a X.env), (false, eval b X.env)]) (hs2 : starEach [b] X.env = [(false, eval b X.env)]) (ha : PE X a (tE X Wx fa)) (hb : PE X b (tE X Wx fb)) :
    PI X tg (.Call (.Name "range" p) [a, b] [] pos) (tI X Wx fun σ h => (fa σ h).bind fun x h1 => (fb σ h1).bind fun y h2 => ofOpt (srcRng x y) h2) := by
  have h0 : starEach ([] : List Expr) X.env = [] := rfl
  refine pi_imp (pi_range2 hg hm (pa_cons ha (pa_cons hb pa_nil (by rw [hs2, h0])) (by rw [hs, hs2])) hs hs2) fun σ H R h => ?_
  refine (Rg.bind (R := rV X) h).mono fun v H1 ⟨W, mσ, μ, x, μ1, mh1, st, hr, sr, rv, p⟩ => ?_
  refine ⟨W, μ1, mσ, mh1, hr, sr, (Post.bind (R := rV X W) hr sr p).mono fun u H2 ⟨y, μ2, mh2, st2, hr2, sr2, ru, p2⟩ => ?_⟩
  obtain ⟨src, hs, q1⟩ := Post.ofOpt p2 hr2
  unfold srcRng at hs
  split at hs
  · rename_i i j
    split at hs
    · rename_i hc
      cases hs
      cases rv
      cases ru
      have hc := rngOk_ok hc
      exact ⟨_, _, rfl, ⟨hc.1, hc.2.1, hc.2.2.1, hc.2.2.2.1⟩, q1 _ fun W' hw => ⟨_, src_rng, trivial⟩⟩
    · cases hs
  · cases hs
theorem pi_ev_rng0 {b : Expr} {p pos : Pos} {fb : Env → MH → Res Vl} (hg : Gl X "range") (hm : X.mg "range" = none) (hs2 : starEach [b] X.env = [(false, eval b X.env)]) (hb : PE X b (tE X Wx fb)) :
    PI X tg (.Call (.Name "range" p) [b] [] pos) (tI X Wx fun σ h => (fb σ h).bind fun y h2 => ofOpt (srcRng0 y) h2) := by
  have h0 : starEach ([] : List Expr) X.env = [] := rfl
  refine pi_imp (pi_range1 hg hm (pa_cons hb pa_nil (by rw [hs2, h0])) hs2) fun σ H R h => ?_
  refine (Rg.bind (R := rV X) h).mono fun u H2 ⟨W, mσ, μ, y, μ2, mh2, st, hr2, sr2, ru, p2⟩ => ?_
  obtain ⟨src, hs, q1⟩ := Post.ofOpt p2 hr2
  unfold srcRng0 at hs
  split at hs
  · rename_i j
    split at hs
    · rename_i hc
      cases hs
      cases ru
      have hc := rngOk_ok hc
      exact ⟨_, rfl, hc.2.2.1, hc.2.2.2.1, q1 _ fun W' hw => ⟨_, src_rng, trivial⟩⟩
    · cases hs
  · cases hs
theorem pi_ev_enm {e : Expr} {p pos tpos : Pos} {elts : List Expr} {kk : Nat} {f : Env → MH → Res Vl} (hg : Gl X "enumerate") (hm : X.mg "enumerate" = none) (hs2 : starEach [e] X.env = [(false, eval e X.env)]) (he : PE X e (tE X Wx f)) :
    PI X (.Tuple elts kk tpos) (.Call (.Name "enumerate" p) [e] [] pos) (tI X Wx fun σ h => (f σ h).bind fun x h1 => ofOpt (srcEnm x) h1) := by
  have h0 : starEach ([] : List Expr) X.env = [] := rfl
  refine pi_imp (pi_enmA hg hm (pa_cons he pa_nil (by rw [hs2, h0])) hs2) fun σ H R h => ?_
  refine (Rg.bind (R := rV X) h).mono fun u H2 ⟨W, mσ, μ, y, μ2, mh2, st, hr2, sr2, ru, p2⟩ => ?_
  obtain ⟨src, hs, q1⟩ := Post.ofOpt p2 hr2
  unfold srcEnm at hs
  split at hs
  · split at hs
    · cases hs
      cases ru with
      | lst a b c => exact ⟨_, _, rfl, .inl ⟨SqL.of a, q1 _ fun W' hw => ⟨_, src_enm, _, a, Mo.wid' hw a b, c.wid hw⟩⟩⟩
    · cases hs
  · split at hs
    · cases hs
      cases ru with
      | tupA a c => exact ⟨_, _, rfl, .inr ⟨tsq a, q1 _ fun W' hw => ⟨_, src_enmT, _, tsq a, c.wid hw⟩⟩⟩
    · cases hs
  · cases hs
theorem pi_ev_zip {a b : Expr} {p pos tpos : Pos} {elts : List Expr} {kk : Nat} {fa fb : Env → MH → Res Vl} (hg : Gl X "zip") (hm : X.mg "zip" = none) (hs : starEach [a, b] X.env = [(false, eval a X.env), (false, eval b X.env)]) (hs2 : starEach [b] X.env = [(false, eval b X.env)]) (ha : PE X a (tE X Wx fa)) (hb : PE X b (tE X Wx fb)) :
    PI X (.Tuple elts kk tpos) (.Call (.Name "zip" p) [a, b] [] pos) (tI X Wx fun σ h => (fa σ h).bind fun x h1 => (fb σ h1).bind fun y h2 => ofOpt (srcZip x y) h2) := by
  have h0 : starEach ([] : List Expr) X.env = [] := rfl
  refine pi_imp (Zm.pi_zipK hg hm (pa_cons ha (pa_cons hb pa_nil (by rw [hs2, h0])) (by rw [hs, hs2])) (by rw [hs, hs2]) (by rw [hs2]; rfl)) fun σ H R h => ?_
  refine (Rg.bind (R := rV X) h).mono fun v H1 ⟨W, mσ, μ, x, μ1, mh1, st, hr, sr, rv, p⟩ => ?_
  refine ⟨W, μ1, mσ, mh1, hr, sr, (Post.bind (R := rV X W) hr sr p).mono fun u H2 ⟨y, μ2, mh2, st2, hr2, sr2, ru, p2⟩ => ?_⟩
  obtain ⟨src, hs, q1⟩ := Post.ofOpt p2 hr2
  have rv2 := st2.rv hr rv
  have fin : ∀ {k1 k2 : Bool} {a b : Addr} {ds es : List PyData} {vs ws : List V}, v = .ref a → u = .ref b → src = .l (zipD ds es) →
      (∀ W', (∀ c, c ∈ W' → c ∈ W ∨ H2 c = none) → SqF k1 X.K W' H2 μ2 a vs) → DzA X.K H2 (Mo μ2 W) vs ds → (∀ W', (∀ c, c ∈ W' → c ∈ W ∨ H2 c = none) → SqF k2 X.K W' H2 μ2 b ws) → DzA X.K H2 (Mo μ2 W) ws es →
      ∃ k1 k2 a b xs ys, [v, u] = [V.ref a, .ref b] ∧ Zm.SqK k1 X.K H2 a xs ∧ Zm.SqK k2 X.K H2 b ys ∧ R (Zm.ItK k1 k2 X.K a b) H2 := by
    intro k1 k2 a b ds es vs ws ev eu es' f1 c1 f2 c2
    subst ev eu es'
    exact ⟨k1, k2, a, b, vs, ws, rfl, (f1 W fun c h => .inl h).sq, (f2 W fun c h => .inl h).sq, q1 _ fun W' hw => ⟨_, src_zipK, vs, ws, f1 W' hw, c1.wid hw, f2 W' hw, c2.wid hw⟩⟩
  unfold srcZip at hs
  split at hs
  · split at hs
    · cases hs
      cases rv2 with
      | lst a1 b1 c1 =>
        cases ru with
        | lst a2 b2 c2 => exact fin (k1 := false) (k2 := false) rfl rfl rfl (fun W' hw => ⟨a1, Mo.wid' hw a1 b1⟩) c1 (fun W' hw => ⟨a2, Mo.wid' hw a2 b2⟩) c2
    · cases hs
  · split at hs
    · cases hs
      cases rv2 with
      | tupA a1 c1 =>
        cases ru with
        | tupA a2 c2 => exact fin (k1 := true) (k2 := true) rfl rfl rfl (fun W' hw => tsq a1) c1 (fun W' hw => tsq a2) c2
    · cases hs
  · split at hs
    · cases hs
      cases rv2 with
      | lst a1 b1 c1 =>
        cases ru with
        | tupA a2 c2 => exact fin (k1 := false) (k2 := true) rfl rfl rfl (fun W' hw => ⟨a1, Mo.wid' hw a1 b1⟩) c1 (fun W' hw => tsq a2) c2
    · cases hs
  · split at hs
    · cases hs
      cases rv2 with
      | tupA a1 c1 =>
        cases ru with
        | lst a2 b2 c2 => exact fin (k1 := true) (k2 := false) rfl rfl rfl (fun W' hw => tsq a1) c1 (fun W' hw => ⟨a2, Mo.wid' hw a2 b2⟩) c2
    · cases hs
  · cases hs
end
end Ev

set_option Elab.async false
set_option linter.all false
set_option autoImplicit false
set_option maxRecDepth 100000
set_option maxHeartbeats 2000000
namespace Ev
open PySem PySem.Spec PyProof.Rows L2

/-! ### targets -/
section
variable {X : Cx} {W : List Addr} {Wx : WX}
theorem SR.set {K : PySem.W.Frag} {mg : Str → Option Value} {H : Hp} {μ : Mu} {mσ : Env} {σ : L2.St} {x : Vl} {v : V} (sr : SR K mg W H μ mσ σ) (r : RV K mg W H μ x v) (i : Nat) : SR K mg W H μ (mσ.set i (some x)) (σ.set i (some v)) := by
  refine ⟨by rw [List.length_set, List.length_set]; exact sr.len, fun j y e => ?_⟩
  by_cases hj : i = j
  · subst hj
    by_cases hl : i < mσ.length
    · rw [List.getElem?_set_self hl] at e
      cases e
      exact ⟨v, by rw [List.getElem?_set_self (by rw [sr.len]; exact hl)], r⟩
    · rw [List.getElem?_eq_none (by rw [List.length_set]; omega)] at e; cases e
  · rw [List.getElem?_set_ne hj] at e ⊢
    exact sr.at_ j y e
theorem SR.unset {K : PySem.W.Frag} {mg : Str → Option Value} {H : Hp} {μ : Mu} {mσ : Env} {σ : L2.St} (sr : SR K mg W H μ mσ σ) (i : Nat) : SR K mg W H μ (mσ.set i none) (σ.set i none) := by
  refine ⟨by rw [List.length_set, List.length_set]; exact sr.len, fun j y e => ?_⟩
  by_cases hj : i = j
  · subst hj
    by_cases hl : i < mσ.length
    · rw [List.getElem?_set_self hl] at e; cases e
    · rw [List.getElem?_eq_none (by rw [List.length_set]; omega)] at e; cases e
  · rw [List.getElem?_set_ne hj] at e ⊢
    exact sr.at_ j y e
theorem SR.wipe {K : PySem.W.Frag} {mg : Str → Option Value} {H : Hp} {μ : Mu} {mσ : Env} {σ : L2.St} (sr : SR K mg W H μ mσ σ) : ∀ vs : List Nat, SR K mg W H μ (wipeE mσ vs) (wipe σ vs)
  | [] => sr
  | v :: vs => (SR.wipe sr vs).unset v
/-- many slots -/
def setsM (σ : Env) (is : List Nat) (xs : List PyData) : Env := (is.zip xs).foldl (fun σ p => σ.set p.1 (some (.d p.2))) σ
def setsV (σ : L2.St) (is : List Nat) (vs : List V) : L2.St := (is.zip vs).foldl (fun σ p => σ.set p.1 (some p.2)) σ
theorem SR.sets {H : Hp} {μ : Mu} : ∀ {is : List Nat} {xs : List PyData} {vs : List V} {mσ : Env} {σ : L2.St}, sR X W H μ mσ σ → DzA X.K H (Mo μ W) vs xs → sR X W H μ (setsM mσ is xs) (setsV σ is vs)
  | [], _, _, _, _, sr, _ => sr
  | _ :: _, _, _, _, _, sr, .nil => sr
  | i :: is, _, _, _, _, sr, .cons r t => SR.sets (is := is) (sr.set (x := .d _) r i) t
/-- a target: the heap stays -/
def tG (X : Cx) (tg : Tg) : TG := fun v σ H Q => ∃ W μ mσ mh x mσ', hR X W H μ mh ∧ sR X W H μ mσ σ ∧ rV X W H μ x v ∧ putT tg x mσ = some mσ' ∧ ∀ σ', sR X W H μ mσ' σ' → (∀ vs, (∀ i, i ∈ (match tg with | .nm i => [i] | .tp is => is) → i ∈ vs) → wipe σ' vs = wipe σ vs) → Q σ' H
theorem pg_imp {target : Expr} {t t' : TG} (h : PG X target t) (i : ∀ v σ H Q, t' v σ H Q → t v σ H Q) : PG X target t' := ⟨fun pins s σ H v u Q I r w => h.run pins s σ H v u Q I r (i v σ H Q w)⟩
theorem wipe_set {σ : L2.St} {i : Nat} {x : Option V} : ∀ {vs : List Nat}, i ∈ vs → wipe (σ.set i x) vs = wipe σ vs
  | v :: vs, h => by
    show (wipe (σ.set i x) vs).set v none = (wipe σ vs).set v none
    by_cases hv : i ∈ vs
    · rw [wipe_set hv]
    · rcases List.mem_cons.mp h with rfl | h
      · have e : ∀ ws : List Nat, i ∉ ws → wipe (σ.set i x) ws = (wipe σ ws).set i x := by
          intro ws
          induction ws with
          | nil => intro _; rfl
          | cons w ws ih =>
            intro hn
            rw [List.mem_cons, not_or] at hn
            show (wipe (σ.set i x) ws).set w none = ((wipe σ ws).set w none).set i x
            rw [ih hn.2, List.set_comm _ _ hn.1]
        rw [e vs hv, List.set_set]
      · exact absurd h hv
theorem wipe_sets {vs : List Nat} : ∀ {is : List Nat} {ws : List V} {σ : L2.St}, (∀ i, i ∈ is → i ∈ vs) → wipe (setsV σ is ws) vs = wipe σ vs
  | [], _, _, _ => rfl
  | _ :: _, [], _, _ => rfl
  | i :: is, w :: ws, σ, h => by
    show wipe (setsV (σ.set i (some w)) is ws) vs = _
    rw [wipe_sets (fun j hj => h j (List.mem_cons_of_mem _ hj)), wipe_set (h i List.mem_cons_self)]
theorem pg_ev_nm {i : Nat} {x : Str} {pos : Pos} (hN : X.N.Nodup) (hi : X.N[i]? = some x) (hx : Loc X.env.scope x) (hf : X.fn x = true ∨ X.env.scope.names.lookup x = some .local) : PG X (.Name x pos) (tG X (.nm i)) := by
  refine pg_imp (pg_name hN hi hx hf) fun v σ H Q h => ?_
  obtain ⟨W, μ, mσ, mh, x, mσ', hr, sr, rv, e, q⟩ := h
  cases e
  exact q _ (sr.set rv i) fun vs hv => wipe_set (hv i (List.mem_singleton.mpr rfl))
/-- names, one after another -/
def namesOk (X : Cx) : List Nat → List Expr → Prop
  | [], [] => True
  | i :: is, .Name x _ :: es => X.N[i]? = some x ∧ Loc X.env.scope x ∧ (X.fn x = true ∨ X.env.scope.names.lookup x = some .local) ∧ namesOk X is es
  | _, _ => False
theorem namesOk_len : ∀ {is : List Nat} {es : List Expr}, namesOk X is es → is.length = es.length ∧ (assignEach es X.env).length = is.length ∧ (assignEach es X.env).findIdx? (·.1) = none
  | [], [], _ => ⟨rfl, rfl, rfl⟩
  | i :: is, .Name x p :: es, h => by
    obtain ⟨h1, h2, h3⟩ := namesOk_len h.2.2.2
    refine ⟨by rw [List.length_cons, List.length_cons, h1], ?_, ?_⟩
    · show ((false, assign (.Name x p) X.env) :: assignEach es X.env).length = _
      rw [List.length_cons, List.length_cons, h2]
    · show ((false, assign (.Name x p) X.env) :: assignEach es X.env).findIdx? (·.1) = none
      rw [List.findIdx?_cons]
      simp only [Bool.false_eq_true, if_false, h3]
      rfl
theorem pgs_ev (hN : X.N.Nodup) : ∀ {is : List Nat} {es : List Expr}, namesOk X is es → PGs X es (fun vs σ H Q => vs.length = is.length ∧ Q (setsV σ is vs) H)
  | [], [], _ => ⟨fun pins s σ H vs us Q I r h => by
      obtain ⟨e, h⟩ := h
      have e' : vs = [] := by cases vs with | nil => rfl | cons _ _ => simp at e
      exact pgs_nil.run pins s σ H vs us Q I r ⟨e', by subst e'; exact h⟩⟩
  | i :: is, .Name x p :: es, h => ⟨fun pins s σ H vs us Q I r hw => by
      obtain ⟨h1, h2, h3, h4⟩ := h
      obtain ⟨e, q⟩ := hw
      cases vs with
      | nil => simp at e
      | cons v vs =>
        exact (pgs_cons (pg_name hN h1 h2 h3) (pgs_ev hN h4) rfl).run pins s σ H (v :: vs) us Q I r ⟨v, vs, rfl, by simpa using e, q⟩⟩
theorem pg_ev_tp {is : List Nat} {es : List Expr} {k : Nat} {pos : Pos} (hN : X.N.Nodup) (hc : X.calm = true) (h : namesOk X is es) : PG X (.Tuple es k pos) (tG X (.tp is)) := by
  obtain ⟨l1, l2, l3⟩ := namesOk_len h
  refine pg_imp (pg_tup (n := is.length) hc (pgs_ev hN h) l2 l3) fun v σ H Q hw => ?_
  obtain ⟨W, μ, mσ, mh, x, mσ', hr, sr, rv, e, q⟩ := hw
  unfold putT at e
  split at e
  · cases ‹Tg.tp is = Tg.nm _›
  · rename_i is' xs σ' et
    cases et
    split at e
    · rename_i hl
      cases e
      cases rv with
      | tupA a c =>
        refine ⟨_, _, rfl, tsq a, by rw [c.length]; exact hl, by rw [c.length]; exact hl, ?_⟩
        exact q _ (SR.sets sr c) fun vs hv => wipe_sets hv
    · cases e
  · cases e
end
end Ev

set_option Elab.async false
set_option linter.all false
set_option autoImplicit false
set_option maxRecDepth 100000
set_option maxHeartbeats 2000000
namespace Ev
open PySem PySem.Spec PyProof.Rows L2
section
variable {K : PySem.W.Frag} {mg : Str → Option Value} {W W' : List Addr} {H : Hp} {μ : Mu} {mh : MH}
theorem RV.wid {x : Vl} {v : V} (hw : ∀ a, a ∈ W' → a ∈ W ∨ H a = none) (h : RV K mg W H μ x v) : RV K mg W' H μ x v := by
  cases x with
  | d x => exact Dz.wid hw h
  | r i => exact h
  | g x => exact h
  | x a => exact h
  | sc ns =>
    obtain ⟨a, e, hs, hz⟩ := h
    exact ⟨a, e, hs.imp (fun q => ⟨q.1, Mo.wid hw (Rd.ne q.1) q.2⟩) id, hz⟩
/-- the heap without D -/
def hole (H : Hp) (D : Addr) : Hp := fun b => if b = D then none else H b
theorem hole_same {D : Addr} : hole H D D = none := by unfold hole; rw [if_pos rfl]
theorem hole_ne {D a : Addr} (h : a ≠ D) : hole H D a = H a := by unfold hole; rw [if_neg h]
theorem upd_hole {D : Addr} {o : HO} : upd (hole H D) D o = upd H D o := by
  funext b; unfold upd hole; split <;> simp_all
theorem upd_self {D : Addr} {o : HO} (h : H D = some o) : upd H D o = H := by
  funext b; unfold upd; split
  · rename_i e; rw [e, h]
  · rfl
theorem Stp.hole {H0 : Hp} {μ0 : Mu} {D : Addr} {o' : HO} (st : Stp H0 μ0 H μ) (h0 : H0 D = none) (hD : H D = some o') (mo : MutO o') : Stp H0 μ0 (hole H D) μ :=
  ⟨fun a o h hn nt => by rw [hole_ne (fun z => by rw [z, h0] at h; cases h)]; exact st.keep a o h hn nt, fun x hx P t => tabs_but hD mo (fun b hb => hole_ne hb) (st.tab x hx P t), st.mono, st.new, fun a h => by
    rw [hole_ne (fun z => h (by rw [z]; exact h0))]; exact st.there a h⟩
theorem RV.hole {D : Addr} {ws : List V} {x : Vl} {v : V} (hD : H D = some (.lst ws)) (h : RV K mg (D :: W) H μ x v) : RV K mg W (hole H D) μ x v := by
  have nm : ∀ a, ¬ Mo μ (D :: W) a → a ≠ D ∧ ¬ Mo μ W a := fun a z => ⟨fun e => z (.inr (by rw [e]; exact List.mem_cons_self)), fun q => z (q.imp id (List.mem_cons_of_mem _))⟩
  have rd : ∀ a o, Rd H a o → a ≠ D → Rd (Ev.hole H D) a o := fun a o h ne => by
    rcases h with h | ⟨u, h⟩
    · exact .inl (by rw [hole_ne ne]; exact h)
    · exact .inr ⟨u, by rw [hole_ne ne]; exact h⟩
  have nt : ∀ a xs, Rd H a (.tup xs) → a ≠ D := fun a xs q e => by
    rw [e] at q
    rcases q with q | ⟨u, q⟩ <;> rw [hD] at q <;> cases q
  cases x with
  | d x =>
    refine Dz.mono (fun a xs _ e b => ?_) (fun a xs q => ?_) _ _ h
    · obtain ⟨n1, n2⟩ := nm a b
      exact ⟨by rw [hole_ne n1]; exact e, n2⟩
    · rw [hole_ne (nt _ _ (.inl q))]; exact q
  | r i => exact h
  | g x => exact h
  | x a => exact h
  | sc ns =>
    obtain ⟨a, e, hs, hz⟩ := h
    exact ⟨a, e, hs.imp (fun q => ⟨rd _ _ q.1 (nm a q.2).1, (nm a q.2).2⟩) id, hz⟩
theorem HR.hole {D : Addr} {ws : List V} (hr : HR K mg (D :: W) H μ mh) (hD : H D = some (.lst ws)) (hW : D ∉ W) : HR K mg W (hole H D) μ mh := by
  have dn := (hr.w D List.mem_cons_self).2
  refine ⟨hr.len, hr.nd, hr.dead, fun i xs h => ?_, fun i t kvs h => ?_, fun a ha => ?_, fun x hx c P e => tabs_but hD trivial (fun b hb => hole_ne hb) (hr.tab x hx c P e)⟩
  · obtain ⟨b, a, vs, e1, e2, e3⟩ := hr.lst i xs h
    refine ⟨b, a, vs, e1, ?_, Paired.mapP e3 fun _ _ r => RV.hole hD r⟩
    rw [hole_ne (fun z => dn (by rw [← z]; exact List.mem_of_getElem? e1))]; exact e2
  · obtain ⟨a, e1, e2⟩ := hr.dct i t kvs h
    exact ⟨a, e1, e2.mono (fun ob e => by rw [hole_ne (fun z => dn (by rw [← z]; exact List.mem_of_getElem? e1))]; exact e) fun v d r => RV.hole (mg := mg) (x := .d d) hD r⟩
  · have q := hr.w a (List.mem_cons_of_mem _ ha)
    exact ⟨by rw [hole_ne (fun z => hW (by rw [← z]; exact ha))]; exact q.1, q.2⟩
theorem RV.lay {D : Addr} {o : HO} {x : Vl} {v : V} (hr : HR K mg W H μ mh) (hD : H D = none) (h : RV K mg W H μ x v) : RV K mg (D :: W) (upd H D o) μ x v :=
  (HR.fresh (o := o) hr hD).1.rv hr (RV.wid (fun a ha => by
    rcases List.mem_cons.mp ha with e | e
    · exact .inr (e ▸ hD)
    · exact .inl e) h)
theorem HR.lay {D : Addr} {o : HO} (hr : HR K mg W H μ mh) (hD : H D = none) : HR K mg (D :: W) (upd H D o) μ mh := by
  refine ⟨hr.len, hr.nd, hr.dead, fun i xs h => ?_, fun i t kvs h => ?_, fun a ha => ?_, fun x hx c P e => tabs_fresh hD (hr.tab x hx c P e)⟩
  · obtain ⟨b, a, vs, e1, e2, e3⟩ := hr.lst i xs h
    exact ⟨b, a, vs, e1, by rw [upd_ne (ne_of_none e2 hD)]; exact e2, Paired.mapP e3 fun _ _ r => RV.lay hr hD r⟩
  · obtain ⟨a, e1, e2⟩ := hr.dct i t kvs h
    exact ⟨a, e1, e2.mono (fun ob e => by rw [upd_ne (ne_of_none e hD)]; exact e) fun v d r => RV.lay (mg := mg) (x := .d d) hr hD r⟩
  · rcases List.mem_cons.mp ha with e | e
    · subst e
      exact ⟨by rw [upd_same]; simp, hr.notin hD⟩
    · have q := hr.w a e
      exact ⟨by rw [upd_ne (fun z => q.1 (by rw [z]; exact hD))]; exact q.1, q.2⟩
theorem RV.mine {D : Addr} {ws us : List V} {x : Vl} {v : V} (hr : HR K mg (D :: W) H μ mh) (hD : H D = some (.lst ws)) (hW : D ∉ W) (h : RV K mg (D :: W) H μ x v) : RV K mg (D :: W) (upd H D (.lst us)) μ x v := by
  rw [← upd_hole]
  exact RV.lay (hr.hole hD hW) hole_same (RV.hole hD h)
theorem HR.mine {D : Addr} {ws us : List V} (hr : HR K mg (D :: W) H μ mh) (hD : H D = some (.lst ws)) (hW : D ∉ W) : HR K mg (D :: W) (upd H D (.lst us)) μ mh := by
  rw [← upd_hole]
  exact HR.lay (hr.hole hD hW) hole_same
theorem Stp.mine {H0 : Hp} {μ0 : Mu} {D : Addr} {o o' : HO} (st : Stp H0 μ0 H μ) (h0 : H0 D = none) (hD : H D = some o') (mo : MutO o') : Stp H0 μ0 (upd H D o) μ :=
  ⟨fun a u h hn nt => by rw [upd_ne (fun z => by rw [z, h0] at h; cases h)]; exact st.keep a u h hn nt, fun x hx P t => tabs_mut hD mo (st.tab x hx P t), st.mono, st.new, fun a h => by
    rw [upd_ne (fun z => h (by rw [z]; exact h0))]; exact st.there a h⟩
end

/-! ### the walk over a source -/
def Rest (f : Vl → MH → Res (Option Vl)) (F : Nat) (src : Src) (h5 : MH) (i m : Nat) (mh : MH) (rs : List Vl) : Prop :=
  match src with
  | .l xs => i + m = xs.length ∧ xs.length ≤ sz ∧ lcL f (xs.drop i) mh = .ok rs h5
  | .r k => i + m = F ∧ F ≤ sz ∧ lcR f k m i mh = .ok rs h5
theorem Rest.start {f : Vl → MH → Res (Option Vl)} {F : Nat} {src : Src} {h5 mh : MH} {rs : List Vl} (h : lcS F f src mh = .ok rs h5) : ∃ m, Rest f F src h5 0 m mh rs := by
  cases src with
  | l xs =>
    simp only [lcS] at h
    split at h
    · rename_i hz
      exact ⟨xs.length, by omega, hz, h⟩
    · cases h
  | r k =>
    simp only [lcS] at h
    split at h
    · rename_i hz
      exact ⟨F, by omega, hz, h⟩
    · cases h
theorem Rest.step {f : Vl → MH → Res (Option Vl)} {F : Nat} {src : Src} {h5 mh : MH} {i m : Nat} {rs : List Vl} (h : Rest f F src h5 i m mh rs) :
    ∃ xs : List Vl, (src = .l xs ∨ ∃ k, src = .r k ∧ mh[k]? = some (.lst xs)) ∧
      ((xs[i]? = none ∧ rs = [] ∧ mh = h5) ∨ (i < sz ∧ ∃ x r h1 rs', xs[i]? = some x ∧ f x mh = .ok r h1 ∧ rs = r.toList ++ rs' ∧ ∃ m', m' < m ∧ Rest f F src h5 (i + 1) m' h1 rs')) := by
  cases src with
  | l xs =>
    obtain ⟨h1, h2, h3⟩ := h
    refine ⟨xs, .inl rfl, ?_⟩
    by_cases hi : i < xs.length
    · rw [List.drop_eq_getElem_cons hi] at h3
      simp only [lcL] at h3
      obtain ⟨r, h4, e1, e2⟩ := Res.bind_eq_ok h3
      obtain ⟨rs', h6, e3, e4⟩ := Res.bind_eq_ok e2
      cases e4
      exact .inr ⟨by omega, xs[i], r, h4, rs', List.getElem?_eq_getElem hi, e1, rfl, m - 1, by omega, by omega, h2, e3⟩
    · rw [List.drop_eq_nil_of_le (by omega)] at h3
      cases h3
      exact .inl ⟨List.getElem?_eq_none (by omega), rfl, rfl⟩
  | r k =>
    obtain ⟨h1, h2, h3⟩ := h
    cases m with
    | zero => cases h3
    | succ n =>
      simp only [lcR] at h3
      split at h3
      · rename_i xs hx
        refine ⟨xs, .inr ⟨k, rfl, hx⟩, ?_⟩
        split at h3
        · rename_i x hxi
          obtain ⟨r, h4, e1, e2⟩ := Res.bind_eq_ok h3
          obtain ⟨rs', h6, e3, e4⟩ := Res.bind_eq_ok e2
          cases e4
          exact .inr ⟨by omega, x, r, h4, rs', hxi, e1, rfl, n, by omega, by omega, h2, e3⟩
        · rename_i hn
          cases h3
          exact .inl ⟨hn, rfl, rfl⟩
      · cases h3

theorem lcF_ok {tg : Tg} {own : List Nat} {fA : Env → MH → Res Bool} {fE : Env → MH → Res Vl} {σ : Env} {x : Vl} {mh h1 : MH} {r : Option Vl} (h : lcF tg own fA fE σ x mh = .ok r h1) :
    ∃ σ2 b h3, putT tg x (wipeE σ own) = some σ2 ∧ fA σ2 mh = .ok b h3 ∧ ((b = true ∧ ∃ v, fE σ2 h3 = .ok v h1 ∧ r = some v) ∨ (b = false ∧ r = none ∧ h3 = h1)) := by
  unfold lcF at h
  split at h
  · rename_i σ2 e
    obtain ⟨b, h3, e1, e2⟩ := Res.bind_eq_ok h
    refine ⟨σ2, b, h3, e, e1, ?_⟩
    cases b with
    | true =>
      rw [if_pos rfl] at e2
      obtain ⟨v, h4, e3, e4⟩ := Res.bind_eq_ok e2
      cases e4
      exact .inl ⟨rfl, v, e3, rfl⟩
    | false =>
      rw [if_neg (by simp)] at e2
      cases e2
      exact .inr ⟨rfl, rfl, rfl⟩
  · cases h
/-- in a comprehension's block nothing is raised -/
abbrev Wn : WX := fun _ _ _ _ => False
section
variable {X : Cx} {Wx : WX}
theorem RVs.snoc {W : List Addr} {H : Hp} {μ : Mu} {xs : List Vl} {vs : List V} {x : Vl} {v : V} (h : rVs X W H μ xs vs) (r : rV X W H μ x v) : rVs X W H μ (xs ++ [x]) (vs ++ [v]) := RVs.app h (.cons r .nil)
theorem Post.calmB {W : List Addr} {α β ρ : Type} {R : Hp → Mu → β → ρ → Prop} {res : Res α} {g : α → MH → Res β} {σ : L2.St} {H : Hp} {μ : Mu} {Q : ρ → Hp → Prop} (h : Post X W Wx R (res.calm.bind g) σ H μ Q) : ∃ a mh, res = .ok a mh ∧ Post X W Wx R (g a mh) σ H μ Q := by
  cases res with
  | ok a mh => exact ⟨a, mh, rfl, h⟩
  | exc c xs mh => exact False.elim h
  | stuck => exact False.elim h
theorem wipe_get {σ : L2.St} {j : Nat} : ∀ {vs : List Nat}, (wipe σ vs)[j]? = if j ∈ vs then σ[j]?.map (fun _ => none) else σ[j]?
  | [] => by rw [if_neg (by simp)]; rfl
  | v :: vs => by
    show ((wipe σ vs).set v none)[j]? = _
    by_cases h : v = j
    · subst h
      rw [if_pos List.mem_cons_self]
      by_cases hl : v < σ.length
      · rw [List.getElem?_set_self (by rw [wipe_length]; exact hl), List.getElem?_eq_getElem hl]; rfl
      · rw [List.getElem?_eq_none (by rw [List.length_set, wipe_length]; omega), List.getElem?_eq_none (by omega)]; rfl
    · rw [List.getElem?_set_ne h, wipe_get]
      by_cases q : j ∈ vs
      · rw [if_pos q, if_pos (List.mem_cons_of_mem _ q)]
      · rw [if_neg q, if_neg (fun z => (List.mem_cons.mp z).elim (fun e => h e.symm) q)]
theorem wipe_wipe (σ : L2.St) (vs : List Nat) : wipe (wipe σ vs) vs = wipe σ vs := by
  apply List.ext_getElem?
  intro j
  rw [wipe_get, wipe_get]
  by_cases q : j ∈ vs
  · rw [if_pos q, if_pos q]; cases σ[j]? <;> rfl
  · rw [if_neg q, if_neg q]
theorem lc_imp {F : Nat} {mk : Bool} {tg : Tg} {own : List Nat} {fI : Env → MH → Res Src} {fA : Env → MH → Res Bool} {fE : Env → MH → Res Vl} {σ : L2.St} {H : Hp} {Q : VK} (ho : ∀ i, i ∈ (match tg with | .nm i => [i] | .tp is => is) → i ∈ own) (h : tE X Wx (lcV F mk tg own fI fA fE) σ H Q) :
    tLc (tI X Wx fI) (tG X tg) (tT X Wn fA) (tE X Wn fE) own σ H Q := by
  refine (Rg.bind (R := SrcR X) h).mono fun J H1 ⟨W, mσ, μ, src, μ1, mh1, st, hr, sr, sj, p⟩ D hD => ?_
  obtain ⟨rsAll, h5, e1, p⟩ := Post.calmB p
  obtain ⟨z, mhz, e2, fin⟩ := Post.calm p
  have hDW : D ∉ W := hr.notw hD
  obtain ⟨F1, sok, hF1⟩ := sj (D :: W) (fun a ha => by
    rcases List.mem_cons.mp ha with e | e
    · exact .inr (e ▸ hD)
    · exact .inl e)
  refine ⟨fun i m H => ∃ μ mh ys acc rs, hR X (D :: W) H μ mh ∧ sR X (D :: W) H μ mσ σ ∧ Stp H1 μ1 H μ ∧ H D = some (.lst acc) ∧ acc.length ≤ i ∧ rVs X (D :: W) H μ ys acc ∧ rsAll = ys ++ rs ∧ Rest (lcF tg own fA fE mσ) F src h5 i m mh rs, ?_, ?_⟩
  · obtain ⟨m, rest⟩ := Rest.start e1
    exact ⟨m, μ1, mh1, [], [], rsAll, HR.lay hr hD, ⟨sr.len, fun i x e => let ⟨v, e', r⟩ := sr.at_ i x e; ⟨v, e', RV.lay hr hD r⟩⟩, (HR.fresh hr hD).1, upd_same, Nat.le_refl _, .nil, rfl, rest⟩
  · rintro i m H2 ⟨μ2, mh2, ys, acc, rs, hr2, sr2, st2, hD2, hl, rv2, eall, rest⟩
    have hF2 : F1 H2 μ2 := sok.st _ _ _ _ _ _ hF1 hr st2
    obtain ⟨xs, hsrc, alt⟩ := rest.step
    rcases alt with ⟨hn, rfl, rfl⟩ | ⟨hz, x, r, mh3, rs', hx, ef, rfl, m', hm, rest'⟩
    · refine .inl ⟨sok.stop xs i H2 μ2 mh2 hsrc hF2 hr2 hn, ?_⟩
      rw [List.append_nil] at eall
      subst eall
      have := new_mkl (Q := fun v H' => Stp H1 μ1 H' μ2 → Q v H') (p := D) (vs := acc) (hr2.hole hD2 hDW) hole_same (Paired.mapP rv2 fun _ _ r => RV.hole hD2 r) e2 (fun w H' μ' a b c _ => ?_)
      · rw [upd_hole, upd_self hD2] at this
        exact this st2
      · exact fin w H' μ' ((st2.hole hD hD2 trivial).trans a) b c
    · obtain ⟨go, yl⟩ := sok.go xs i x H2 μ2 mh2 hsrc hF2 hr2 hx
      refine .inr ⟨go, fun H' => ∃ m', m' < m ∧ ∃ μ mh ys acc rs, hR X (D :: W) H' μ mh ∧ sR X (D :: W) H' μ mσ σ ∧ Stp H1 μ1 H' μ ∧ H' D = some (.lst acc) ∧ acc.length ≤ i + 1 ∧ rVs X (D :: W) H' μ ys acc ∧ rsAll = ys ++ rs ∧ Rest (lcF tg own fA fE mσ) F src h5 (i + 1) m' mh rs, fun _ h => h, ?_⟩
      intro v H3 hy
      obtain ⟨st3, hr3, rx⟩ := yl v H3 hy
      obtain ⟨mσ2, b, mh4, ep, eA, alt⟩ := lcF_ok ef
      have sr3 := sr2.step st3 hr2
      have hD3 : H3 D = some (.lst acc) := st3.keep D _ hD2 (hr2.w D List.mem_cons_self).2 (fun _ z => nomatch z)
      refine ⟨D :: W, μ2, _, mh2, x, mσ2, hr3, sr3.wipe own, rx, ep, fun σ2 sr4 hw => ⟨?_, ?_⟩⟩
      · rw [hw own ho, wipe_wipe]
      · refine ⟨D :: W, μ2, mσ2, mh2, hr3, sr4, ?_⟩
        rw [eA]
        intro b' H4 μ4 st4 hr4 eb
        subst eb
        have hD4 : H4 D = some (.lst acc) := st4.keep D _ hD3 (hr3.w D List.mem_cons_self).2 (fun _ z => nomatch z)
        have st14 : Stp H1 μ1 H4 μ4 := (st2.trans st3).trans st4
        rcases alt with ⟨rfl, w, eE, rfl⟩ | ⟨rfl, rfl, rfl⟩
        · rw [if_pos rfl]
          refine ⟨D :: W, μ4, mσ2, mh4, hr4, sr4.step st4 hr3, ?_⟩
          rw [eE]
          intro y H5 μ5 st5 hr5 ry
          have hD5 : H5 D = some (.lst acc) := st5.keep D _ hD4 (hr4.w D List.mem_cons_self).2 (fun _ z => nomatch z)
          refine ⟨acc, hD5, by rw [← szLine]; omega, m', hm, μ5, mh3, ys ++ [w], acc ++ [y], rs', HR.mine hr5 hD5 hDW, ?_, (st14.trans st5).mine hD hD5 trivial, upd_same, by rw [List.length_append, List.length_singleton]; omega, ?_, by rw [eall]; simp, rest'⟩
          · have := ((sr3.step st4 hr3).step st5 hr4)
            exact ⟨this.len, fun j q e => let ⟨u, e', r⟩ := this.at_ j q e; ⟨u, e', RV.mine hr5 hD5 hDW r⟩⟩
          · exact Paired.mapP (RVs.snoc (Paired.mapP (Paired.mapP (Paired.mapP rv2 fun _ _ r => st3.rv hr2 r) fun _ _ r => st4.rv hr3 r) fun _ _ r => st5.rv hr4 r) ry) fun _ _ r => RV.mine hr5 hD5 hDW r
        · rw [if_neg (by simp)]
          exact ⟨m', hm, μ4, mh4, ys, acc, rs', hr4, sr3.step st4 hr3, st14, hD4, by omega, Paired.mapP (Paired.mapP rv2 fun _ _ r => st3.rv hr2 r) fun _ _ r => st4.rv hr3 r, eall, rest'⟩
/-- a block's tests -/
theorem pts_ev0 {X : Cx} : PTs X [] (tT X Wn fun _ h => .ok true h) := by
  refine ⟨fun pins s σ H Q I h => pts_nil.run pins s σ H Q I ?_⟩
  obtain ⟨W, μ, mσ, mh, hr, sr, p⟩ := h
  exact Post.ok (R := fun _ _ (b c : Bool) => b = c) p hr rfl
theorem pts_ev1 {X : Cx} {c : Expr} {f : Env → MH → Res Bool} (hc : PT X c (tT X Wn f)) : PTs X [c] (tT X Wn fun σ h => (f σ h).bind fun b h1 => if b = true then .ok true h1 else .ok false h1) := by
  refine ⟨fun pins s σ H Q I h => (pts_one hc).run pins s σ H Q I ?_⟩
  refine (Rg.bind (R := rB) h).mono fun v H1 ⟨W, mσ, μ, x, μ1, mh1, st, hr, sr, rv, p⟩ => ?_
  cases rv
  cases v with
  | true => exact Post.ok (R := fun _ _ (b c : Bool) => b = c) p hr rfl
  | false => exact Post.ok (R := fun _ _ (b c : Bool) => b = c) p hr rfl
end
end Ev

set_option Elab.async false
set_option linter.all false
set_option autoImplicit false
set_option maxRecDepth 100000
set_option maxHeartbeats 2000000
namespace Ev
open PySem PySem.Spec PyProof.Rows L2
section
variable {X : Cx} {Wx : WX} {α β γ δ ρ1 ρ2 ρ3 : Type}
/-- one part, then the rest -/
theorem Rg.one {R : List Addr → Hp → Mu → α → ρ1 → Prop} {R' : List Addr → Hp → Mu → β → ρ2 → Prop} {f : Env → MH → Res α} {g : Env → α → MH → Res β} {σ : L2.St} {H : Hp} {Q : ρ2 → Hp → Prop} (h : Rg X Wx R' (fun σ h => (f σ h).bind (g σ)) σ H Q) {Q1 : ρ1 → Hp → Prop}
    (k : ∀ v H1 W mσ μ x mh, hR X W H1 μ mh → sR X W H1 μ mσ σ → R W H1 μ x v → Post X W Wx (R' W) (g mσ x mh) σ H1 μ Q → Q1 v H1) : Rg X Wx R f σ H Q1 :=
  (Rg.bind (R := R) h).mono fun v H1 ⟨W, mσ, μ, x, μ1, mh1, st, hr, sr, rv, p⟩ => k v H1 W mσ μ1 x mh1 hr sr rv p
/-- two values, then the rest -/
theorem Rg.two {R' : List Addr → Hp → Mu → β → ρ2 → Prop} {R1 : List Addr → Hp → Mu → α → ρ1 → Prop} {R2 : List Addr → Hp → Mu → γ → ρ3 → Prop} (m1 : ∀ W H μ H' μ' mh a v, Stp H μ H' μ' → hR X W H μ mh → R1 W H μ a v → R1 W H' μ' a v)
    {fa : Env → MH → Res α} {fb : Env → MH → Res γ} {g : Env → α → γ → MH → Res β} {σ : L2.St} {H : Hp} {Q : ρ2 → Hp → Prop} (h : Rg X Wx R' (fun σ h => (fa σ h).bind fun x h1 => (fb σ h1).bind fun y h2 => g σ x y h2) σ H Q) {Q1 : ρ1 → ρ3 → Hp → Prop}
    (k : ∀ v u H1 W mσ μ x y mh, hR X W H1 μ mh → sR X W H1 μ mσ σ → R1 W H1 μ x v → R2 W H1 μ y u → Post X W Wx (R' W) (g mσ x y mh) σ H1 μ Q → Q1 v u H1) : Rg X Wx R1 fa σ H fun v H1 => Rg X Wx R2 fb σ H1 fun u H2 => Q1 v u H2 :=
  Rg.one (R := R1) h fun v H1 W mσ μ x mh hr sr rv p => ⟨W, μ, mσ, mh, hr, sr, (Post.bind (R := R2 W) hr sr p).mono fun u H2 ⟨y, μ2, mh2, st2, hr2, sr2, ru, p2⟩ => k v u H2 W mσ μ2 x y mh2 hr2 sr2 (m1 _ _ _ _ _ _ _ _ st2 hr rv) ru p2⟩
theorem mV : ∀ W H μ H' μ' mh a v, Stp H μ H' μ' → hR X W H μ mh → rV X W H μ a v → rV X W H' μ' a v := fun _ _ _ _ _ _ _ _ st hr r => st.rv hr r
theorem mVs : ∀ W H μ H' μ' mh a v, Stp H μ H' μ' → hR X W H μ mh → rVs X W H μ a v → rVs X W H' μ' a v := fun _ _ _ _ _ _ _ _ st hr r => Paired.mapP r fun _ _ r => st.rv hr r
/-! ### constants, names -/
theorem ev_at {f : Env → MH → Res Vl} {d : Vl} {v : V} (e : ∀ σ h, f σ h = .ok d h) (r : ∀ W H μ, rV X W H μ d v) {σ : L2.St} {H : Hp} {Q : VK} (h : tE X Wx f σ H Q) : Q v H := by
  obtain ⟨W, μ, mσ, mh, hr, sr, p⟩ := h
  rw [e] at p
  exact p.ok hr (r _ _ _)
theorem pe_ev_var {i : Nat} {x : Str} {pos : Pos} (hN : X.N[i]? = some x) (hv : Vis X.env.scope x) (hd : (x == ("__debug__" : Str)) = false) (hcd : (x == ("__classdict__" : Str)) = false) :
    PE X (.Name x pos) (tE X Wx fun σ h => (match σ[i]? with | some (some v) => .ok v h | _ => .stuck)) := by
  refine pe_imp (pe_var hN hv hd hcd) fun σ H Q ⟨W, μ, mσ, mh, hr, sr, p⟩ => ?_
  revert p
  dsimp only
  split
  · rename_i v e
    intro p
    obtain ⟨u, e', r⟩ := sr.at_ i v e
    exact ⟨u, e', p.ok hr r⟩
  · exact fun z => z.elim
/-! ### operators -/
variable {a b c : Expr} {pos : Pos} {fa fb fc : Env → MH → Res Vl}
theorem pe_ev_bin {op : Bop} {mk : Bool} (ha : PE X a (tE X Wx fa)) (hb : PE X b (tE X Wx fb)) :
    PE X (.BinOp a (opOf op) b pos) (tE X Wx fun σ h => (fa σ h).bind fun x h1 => (fb σ h1).bind fun y h2 => (binV op mk x y h2).calm) :=
  pe_imp (pe_op (op_bin op mk) ha hb) fun σ H Q h => Rg.two (R1 := rV X) (R2 := rV X) mV h fun v u H1 W mσ μ x y mh hr sr rx ry p =>
    let ⟨z, mhz, e, fin⟩ := Post.calm p; ⟨W, μ, mh, x, y, z, mhz, hr, rx, ry, e, fin⟩
theorem pe_ev_neg (ha : PE X a (tE X Wx fa)) : PE X (.UnaryOp .USub a pos) (tE X Wx fun σ h => (fa σ h).bind fun x h1 => (match x with | .d (.int i) => .ok (.d (.int (-i))) h1 | _ => .stuck)) := by
  refine pe_imp (pe_un un_neg ha) fun σ H Q h => Rg.one (R := rV X) h fun v H1 W mσ μ x mh hr sr rx p => ?_
  revert p
  split
  · intro p
    cases rx
    exact ⟨_, rfl, p.ok hr (Dz.int _)⟩
  · exact fun z => z.elim
theorem cmp_two {op : Cop} {σ : L2.St} {H : Hp} {Q : VK} (h : tE X Wx (fun σ h => (fa σ h).bind fun x h1 => (fb σ h1).bind fun y h2 => (match cmpV op x y h2 with | some c => .ok (.d (.bool c)) h2 | none => .stuck)) σ H Q) : tOp (rOfC X op) (tE X Wx fa) (tE X Wx fb) σ H Q := by
  refine Rg.two (R1 := rV X) (R2 := rV X) mV h fun v u H1 W mσ μ x y mh hr sr rx ry p => ?_
  revert p
  split
  · rename_i c e
    intro p
    exact ⟨W, μ, mh, x, y, c, hr, rx, ry, e, p.ok hr (Dz.bl _)⟩
  · exact fun z => z.elim
theorem pe_ev_cmp {op : Cop} (rm : Rm X) (hm : behindInMarks (copOf op) b = false) (ha : PE X a (tE X Wx fa)) (hb : PE X b (tE X Wx fb)) :
    PE X (.Compare a [copOf op] [b] pos) (tE X Wx fun σ h => (fa σ h).bind fun x h1 => (fb σ h1).bind fun y h2 => (match cmpV op x y h2 with | some c => .ok (.d (.bool c)) h2 | none => .stuck)) :=
  pe_imp (pe_cmpR (op_cmp op rm) ha hb hm) fun σ H Q h => cmp_two h
theorem pt_ev (he : ∀ whole, isTrue a X.env whole = (do let v ← whole; standAt a.pos; holding [v] (truthy v))) (ha : PE X a (tE X Wx fa)) : PT X a (tT X Wx (tru fa)) := by
  refine pt_imp (pt_truth ha he) fun σ H Q h => Rg.one (R := rV X) h fun v H1 W mσ μ x mh hr sr rx p => ?_
  revert p
  split
  · rename_i k e
    intro p
    exact ⟨k, truth_ok hr rx e, p.ok (R := fun _ _ (b c : Bool) => b = c) hr rfl⟩
  · exact fun z => z.elim
/-- a value that is a truth value, as a test -/
theorem tru_bool {σ : L2.St} {H : Hp} {Q : Bool → Hp → Prop} {f : Env → MH → Res Vl} (hb : ∀ σ h x h1, f σ h = .ok x h1 → ∃ k, x = .d (.bool k)) (h : tT X Wx (tru f) σ H Q) : tE X Wx f σ H (fun x H' => ∃ k, x = .bl k ∧ Q k H') := by
  obtain ⟨W, μ, mσ, mh, hr, sr, p⟩ := h
  refine ⟨W, μ, mσ, mh, hr, sr, ?_⟩
  unfold tru at p
  cases e : f mσ mh with
  | ok x h1 =>
    obtain ⟨k, rfl⟩ := hb _ _ _ _ e
    rw [e] at p
    intro v H' μ' st hr' r
    cases r
    exact ⟨k, rfl, p _ H' μ' st hr' rfl⟩
  | exc c xs h1 => rw [e] at p; exact p
  | stuck => rw [e] at p; exact p
theorem pt_ev_cmp {op : Cop} (rm : Rm X) (hm : behindInMarks (copOf op) b = false) (ha : PE X a (tE X Wx fa)) (hb : PE X b (tE X Wx fb)) :
    PT X (.Compare a [copOf op] [b] pos) (tT X Wx (tru fun σ h => (fa σ h).bind fun x h1 => (fb σ h1).bind fun y h2 => (match cmpV op x y h2 with | some c => .ok (.d (.bool c)) h2 | none => .stuck))) := by
  refine pt_imp (pt_cmpR (op_cmp op rm) ha hb hm) fun σ H Q h => cmp_two (tru_bool (fun σ h x h1 e => ?_) h)
  obtain ⟨x1, h2, e1, e2⟩ := Res.bind_eq_ok e
  obtain ⟨x2, h3, e3, e4⟩ := Res.bind_eq_ok e2
  split at e4
  · cases e4; exact ⟨_, rfl⟩
  · cases e4
theorem chV_bool {o1 o2 : Cop} {σ : Env} {h : MH} {x : Vl} {h1 : MH} (e : chV o1 o2 fa fb fc σ h = .ok x h1) : ∃ k, x = .d (.bool k) := by
  obtain ⟨x1, h2, e1, e2⟩ := Res.bind_eq_ok e
  obtain ⟨x2, h3, e3, e4⟩ := Res.bind_eq_ok e2
  split at e4
  · obtain ⟨x5, h5, e5, e6⟩ := Res.bind_eq_ok e4
    split at e6
    · cases e6; exact ⟨_, rfl⟩
    · cases e6
  · cases e4; exact ⟨_, rfl⟩
  · cases e4
theorem ch_imp {o1 o2 : Cop} {σ : L2.St} {H : Hp} {Q : VK} (h : tE X Wx (chV o1 o2 fa fb fc) σ H Q) : tChain (rOfC X o1) (rOfC X o2) (tE X Wx fa) (tE X Wx fb) (tE X Wx fc) σ H Q := by
  refine Rg.two (R1 := rV X) (R2 := rV X) mV h fun v u H1 W mσ μ x y mh hr sr rx ry p => ?_
  revert p
  split
  · rename_i e
    intro p
    refine ⟨W, μ, mh, x, y, true, hr, rx, ry, e, true, rfl, ?_⟩
    rw [if_pos rfl]
    refine ⟨W, μ, mσ, mh, hr, sr, (Post.bind (R := rV X W) hr sr p).mono fun w H2 ⟨z, μ2, mh2, st2, hr2, sr2, rz, p2⟩ => ?_⟩
    revert p2
    dsimp only
    split
    · rename_i t e2
      intro p2
      exact ⟨W, μ2, mh2, y, z, t, hr2, st2.rv hr ry, rz, e2, p2.ok hr2 (Dz.bl _)⟩
    · exact fun z => z.elim
  · rename_i e
    intro p
    refine ⟨W, μ, mh, x, y, false, hr, rx, ry, e, false, rfl, ?_⟩
    rw [if_neg (by simp)]
    exact p.ok hr (Dz.bl _)
  · exact fun z => z.elim
theorem pe_ev_chain {o1 o2 : Cop} (rm : Rm X) (hm : lastMarks [copOf o1, copOf o2] [b, c] = false) (ha : PE X a (tE X Wx fa)) (hb : PE X b (tE X Wx fb)) (hc : PE X c (tE X Wx fc)) :
    PE X (.Compare a [copOf o1, copOf o2] [b, c] pos) (tE X Wx (chV o1 o2 fa fb fc)) := pe_imp (pe_chain (op_cmp o1 rm) (op_cmp o2 rm) ha hb hc hm) fun σ H Q h => ch_imp h
theorem pt_ev_chain {o1 o2 : Cop} (rm : Rm X) (hm : lastMarks [copOf o1, copOf o2] [b, c] = false) (ha : PE X a (tE X Wx fa)) (hb : PE X b (tE X Wx fb)) (hc : PE X c (tE X Wx fc)) :
    PT X (.Compare a [copOf o1, copOf o2] [b, c] pos) (tT X Wx (tru (chV o1 o2 fa fb fc))) := pt_imp (pt_chain (op_cmp o1 rm) (op_cmp o2 rm) ha hb hc hm) fun σ H Q h => ch_imp (tru_bool (fun _ _ _ _ e => chV_bool e) h)
/-! ### and, or, not -/
variable {rest : List Expr} {ga gb : Env → MH → Res Bool}
theorem pe_ev_and (ha : PE X a (tE X Wx fa)) (hb : PE X (.BoolOp .And (b :: rest) pos) (tE X Wx fb)) :
    PE X (.BoolOp .And (a :: b :: rest) pos) (tE X Wx fun σ h => (fa σ h).bind fun x h1 => (match x with | .d (.bool true) => fb σ h1 | .d (.bool false) => .ok (.d (.bool false)) h1 | _ => .stuck)) := by
  refine pe_imp (pe_and ha hb) fun σ H Q h => Rg.one (R := rV X) h fun v H1 W mσ μ x mh hr sr rx p => ?_
  revert p
  split
  · intro p
    cases rx
    exact ⟨true, rfl, by rw [if_pos rfl]; exact ⟨W, μ, mσ, mh, hr, sr, p⟩⟩
  · intro p
    cases rx
    exact ⟨false, rfl, by rw [if_neg (by simp)]; exact p.ok hr (Dz.bl _)⟩
  · exact fun z => z.elim
theorem pe_ev_or (ha : PE X a (tE X Wx fa)) (hb : PE X (.BoolOp .Or (b :: rest) pos) (tE X Wx fb)) :
    PE X (.BoolOp .Or (a :: b :: rest) pos) (tE X Wx fun σ h => (fa σ h).bind fun x h1 => (match x with | .d (.bool true) => .ok (.d (.bool true)) h1 | .d (.bool false) => fb σ h1 | _ => .stuck)) := by
  refine pe_imp (pe_or ha hb) fun σ H Q h => Rg.one (R := rV X) h fun v H1 W mσ μ x mh hr sr rx p => ?_
  revert p
  split
  · intro p
    cases rx
    exact ⟨true, rfl, by rw [if_pos rfl]; exact p.ok hr (Dz.bl _)⟩
  · intro p
    cases rx
    exact ⟨false, rfl, by rw [if_neg (by simp)]; exact ⟨W, μ, mσ, mh, hr, sr, p⟩⟩
  · exact fun z => z.elim
theorem pe_ev_not (ha : PE X a (tE X Wx fa)) : PE X (.UnaryOp .Not a pos) (tE X Wx fun σ h => (fa σ h).bind fun x h1 => (match x with | .d (.bool b) => .ok (.d (.bool (!b))) h1 | _ => .stuck)) := by
  refine pe_imp (pe_not ha) fun σ H Q h => Rg.one (R := rV X) h fun v H1 W mσ μ x mh hr sr rx p => ?_
  revert p
  split
  · intro p
    cases rx
    exact ⟨_, rfl, p.ok hr (Dz.bl _)⟩
  · exact fun z => z.elim
theorem pt_ev_not (ha : PT X a (tT X Wx ga)) : PT X (.UnaryOp .Not a pos) (tT X Wx fun σ h => (ga σ h).bind fun b h1 => .ok (!b) h1) :=
  pt_imp (pt_not ha) fun σ H Q h => Rg.one (R := rB) h fun v H1 W mσ μ x mh hr sr rx p => by cases rx; exact p.ok (R := fun _ _ (b c : Bool) => b = c) hr rfl
/-- a test, then one of two -/
theorem if_imp {R' : List Addr → Hp → Mu → β → ρ2 → Prop} {f1 f2 : Env → MH → Res β} {σ : L2.St} {H : Hp} {Q : ρ2 → Hp → Prop} (h : Rg X Wx R' (fun σ h => (ga σ h).bind fun t h1 => if t = true then f1 σ h1 else f2 σ h1) σ H Q) :
    tT X Wx ga σ H fun t H1 => if t = true then Rg X Wx R' f1 σ H1 Q else Rg X Wx R' f2 σ H1 Q := by
  refine Rg.one (R := rB) h fun v H1 W mσ μ x mh hr sr rx p => ?_
  cases rx
  cases v with
  | true => rw [if_pos rfl] at p ⊢; exact ⟨W, μ, mσ, mh, hr, sr, p⟩
  | false => rw [if_neg (by simp)] at p ⊢; exact ⟨W, μ, mσ, mh, hr, sr, p⟩
theorem pe_ev_ite (hc : PT X c (tT X Wx ga)) (ha : PE X a (tE X Wx fa)) (hb : PE X b (tE X Wx fb)) : PE X (.IfExp c a b pos) (tE X Wx fun σ h => (ga σ h).bind fun t h1 => if t = true then fa σ h1 else fb σ h1) :=
  pe_imp (pe_ifExp hc ha hb) fun σ H Q h => if_imp h
theorem pt_ev_ite {ga1 ga2 : Env → MH → Res Bool} (hc : PT X c (tT X Wx ga)) (ha : PT X a (tT X Wx ga1)) (hb : PT X b (tT X Wx ga2)) : PT X (.IfExp c a b pos) (tT X Wx fun σ h => (ga σ h).bind fun t h1 => if t = true then ga1 σ h1 else ga2 σ h1) := by
  refine ⟨fun pins s σ H Q I h => ?_⟩
  show wpAny (model X.prog X.w) X.A (do if ← isTrue c X.env (eval c X.env) then isTrue a X.env (eval a X.env) else isTrue b X.env (eval b X.env)) _ _ _
  refine wpAny_bind (thn (hc.run pins s σ H _ I (if_imp h)) fun d s1 ⟨H1, I1, q1⟩ => ?_)
  cases d with
  | true => exact ha.run pins s1 σ H1 Q I1 q1
  | false => exact hb.run pins s1 σ H1 Q I1 q1
theorem pw_ev_and1 (ha : PT X a (tT X Wx ga)) : PW X (.BoolOp .And [a] pos) (tT X Wx fun σ h => (ga σ h).bind fun b h1 => if b = true then .ok true h1 else .ok false h1) :=
  pw_imp (pw_and1 ha) fun σ H Q h => Rg.one (R := rB) h fun v H1 W mσ μ x mh hr sr rx p => by
    cases rx
    cases v <;> exact p.ok (R := fun _ _ (b c : Bool) => b = c) hr rfl
theorem pw_ev_or1 (ha : PT X a (tT X Wx ga)) : PW X (.BoolOp .Or [a] pos) (tT X Wx fun σ h => (ga σ h).bind fun b h1 => if b = true then .ok true h1 else .ok false h1) :=
  pw_imp (pw_or1 ha) fun σ H Q h => Rg.one (R := rB) h fun v H1 W mσ μ x mh hr sr rx p => by
    cases rx
    cases v <;> exact p.ok (R := fun _ _ (b c : Bool) => b = c) hr rfl
theorem pw_ev_and (ha : PT X a (tT X Wx ga)) (hb : PW X (.BoolOp .And (b :: rest) pos) (tT X Wx gb)) : PW X (.BoolOp .And (a :: b :: rest) pos) (tT X Wx fun σ h => (ga σ h).bind fun b h1 => if b = true then gb σ h1 else .ok false h1) :=
  pw_imp (pw_and ha hb) fun σ H Q h => Rg.one (R := rB) h fun v H1 W mσ μ x mh hr sr rx p => by
    cases rx
    cases v with
    | true => exact ⟨W, μ, mσ, mh, hr, sr, p⟩
    | false => exact p.ok (R := fun _ _ (b c : Bool) => b = c) hr rfl
theorem pw_ev_or (ha : PT X a (tT X Wx ga)) (hb : PW X (.BoolOp .Or (b :: rest) pos) (tT X Wx gb)) : PW X (.BoolOp .Or (a :: b :: rest) pos) (tT X Wx fun σ h => (ga σ h).bind fun b h1 => if b = true then .ok true h1 else gb σ h1) :=
  pw_imp (pw_or ha hb) fun σ H Q h => Rg.one (R := rB) h fun v H1 W mσ μ x mh hr sr rx p => by
    cases rx
    cases v with
    | true => exact p.ok (R := fun _ _ (b c : Bool) => b = c) hr rfl
    | false => exact ⟨W, μ, mσ, mh, hr, sr, p⟩
theorem pt_of_pw {e : Expr} {t : TT} (h : PW X e t) : PT X e t := ⟨fun pins s σ H Q I q => h.run _ pins s σ H Q I q⟩
/-! ### lists of expressions -/
/-- no expression of another kind: not starred, no slice, no set -/
def plain : Expr → Bool
  | .Starred .. => false
  | .Slice .. => false
  | .Set .. => false
  | _ => true
theorem star_cons {e : Expr} {es : List Expr} {env : PySem.Env} (h : plain e = true) : starEach (e :: es) env = (false, eval e env) :: starEach es env := by
  cases e <;> first | rfl | (exact absurd h (by simp [plain]))
theorem plainIx {e : Expr} (h : plain e = true) : PlainIx e := fun o i => by
  cases e <;> first | rfl | (exact absurd h (by simp [plain]))
theorem fold_plain {e : Expr} {env : PySem.Env} (h : plain e = true) : ∀ x, foldedSetIterable e env x = pure x := fun x => by
  cases e <;> first | rfl | (exact absurd h (by simp [plain]))
variable {es : List Expr} {f : Env → MH → Res (List Vl)}
theorem pa_ev_nil : PA X [] (tA X Wx fun _ h => .ok [] h) := pa_imp pa_nil fun σ H Q ⟨W, μ, mσ, mh, hr, sr, p⟩ => p.ok hr .nil
theorem pa_ev_cons (hp : plain a = true) (ha : PE X a (tE X Wx fa)) (hr : PA X es (tA X Wx f)) : PA X (a :: es) (tA X Wx fun σ h => (fa σ h).bind fun x h1 => (f σ h1).bind fun xs h2 => .ok (x :: xs) h2) :=
  pa_imp (pa_cons ha hr (star_cons hp)) fun σ H Q h => Rg.two (R1 := rV X) (R2 := rVs X) mV h fun v u H1 W mσ μ x y mh hr sr rx ry p => p.ok hr (.cons rx ry)
theorem pe_ev_tup {k : Nat} (h : PA X es (tA X Wx f)) : PE X (.Tuple es k pos) (tE X Wx fun σ h => (f σ h).bind fun xs h1 => if xs.length ≤ sz then (mkt xs h1).calm else .stuck) := by
  refine pe_imp (pe_tup h) fun σ H Q h => Rg.one (R := rVs X) h fun v H1 W mσ μ x mh hr sr rx p => ?_
  revert p
  split
  · rename_i hz
    intro p
    obtain ⟨z, mhz, e, fin⟩ := Post.calm p
    obtain ⟨ds, rfl, rfl, dz⟩ := mkt_ok rx e
    refine ⟨by rw [← szLine, ← Paired.length rx]; exact hz, fun q hq => new_tup hr hq dz fin⟩
  · exact fun z => z.elim
theorem pe_ev_lst {mk : Bool} (h : PA X es (tA X Wx f)) : PE X (.List es pos) (tE X Wx fun σ h => (f σ h).bind fun xs h1 => if xs.length ≤ sz then (mkl mk xs h1).calm else .stuck) := by
  refine pe_imp (pe_lst h) fun σ H Q h => Rg.one (R := rVs X) h fun v H1 W mσ μ x mh hr sr rx p => ?_
  revert p
  split
  · rename_i hz
    intro p
    obtain ⟨z, mhz, e, fin⟩ := Post.calm p
    exact ⟨by rw [← szLine, ← Paired.length rx]; exact hz, fun q hq => new_mkl hr hq rx e fin⟩
  · exact fun z => z.elim
/-! ### items, slices -/
theorem pe_ev_idx (hp : plain b = true) (ha : PE X a (tE X Wx fa)) (hb : PE X b (tE X Wx fb)) : PE X (.Subscript a b pos) (tE X Wx fun σ h => (fa σ h).bind fun x h1 => (fb σ h1).bind fun y h2 => (match idxV x y h2 with | some v => .ok v h2 | none => .stuck)) := by
  refine pe_imp (pe_ix ix_ev ha hb (plainIx hp)) fun σ H Q h => Rg.two (R1 := rV X) (R2 := rV X) mV h fun v u H1 W mσ μ x y mh hr sr rx ry p => ?_
  revert p
  split
  · rename_i z e
    intro p
    exact ⟨W, μ, mh, x, y, z, hr, rx, ry, e, fun w rw => p.ok hr rw⟩
  · exact fun z => z.elim
abbrev rO : List Addr → Hp → Mu → Option Int → Option Int → Prop := fun _ _ _ b c => b = c
abbrev tO (X : Cx) (Wx : WX) (f : Env → MH → Res (Option Int)) : TO := Rg X Wx rO f
theorem po_imp {e : Option Expr} {t t' : TO} (h : PO X e t) (i : ∀ σ H Q, t' σ H Q → t σ H Q) : PO X e t' := ⟨fun pins s σ H Q I w => h.run pins s σ H Q I (i σ H Q w)⟩
theorem po_ev0 : PO X none (tO X Wx fun σ h => (Res.ok [] h).bind fun l h2 => ofOpt (optI l) h2) := po_imp po_none fun σ H Q ⟨W, μ, mσ, mh, hr, sr, p⟩ => p.ok (R := fun _ _ (b c : Option Int) => b = c) hr rfl
theorem po_ev1 (ha : PE X a (tE X Wx fa)) : PO X (some a) (tO X Wx fun σ h => ((fa σ h).bind fun x h1 => (Res.ok [] h1).bind fun xs h2 => .ok (x :: xs) h2).bind fun l h2 => ofOpt (optI l) h2) := by
  refine po_imp (po_some ha) fun σ H Q h => ?_
  have h : Rg X Wx rO (fun σ h => (fa σ h).bind fun x h1 => ofOpt (optI [x]) h1) σ H Q := by
    have e : (fun (σ : Env) h => ((fa σ h).bind fun x h1 => (Res.ok [] h1).bind fun xs h2 => .ok (x :: xs) h2).bind fun l h2 => ofOpt (optI l) h2) = fun σ h => (fa σ h).bind fun x h1 => ofOpt (optI [x]) h1 := by
      funext σ h; rw [Res.bind_bind]; rfl
    rw [e] at h; exact h
  refine Rg.one (R := rV X) h fun v H1 W mσ μ x mh hr sr rx p => ?_
  obtain ⟨o, e, q⟩ := Post.ofOpt p hr
  unfold optI at e
  split at e
  · rename_i e2; cases e2
  · rename_i e2; cases e2; cases e; cases rx; exact ⟨_, rfl, q _ rfl⟩
  · cases e
theorem pe_ev_sli {mk : Bool} {lo hi : Option Expr} {p2 : Pos} {fl fh : Env → MH → Res (Option Int)} (ha : PE X a (tE X Wx fa)) (hl : PO X lo (tO X Wx fl)) (hh : PO X hi (tO X Wx fh)) :
    PE X (.Subscript a (.Slice lo hi none p2) pos) (tE X Wx fun σ h => (fa σ h).bind fun x h1 => (fl σ h1).bind fun l h2 => (fh σ h2).bind fun u h3 => (sliV mk x l u h3).calm) := by
  refine pe_imp (pe_slice (sl_ev mk) ha hl hh) fun σ H Q h => Rg.one (R := rV X) h fun v H1 W mσ μ x mh hr sr rx p => ?_
  refine ⟨W, μ, mσ, mh, hr, sr, (Post.bind (R := rO W) hr sr p).mono fun l H2 ⟨l', μ2, mh2, st2, hr2, sr2, el, p2⟩ => ?_⟩
  refine ⟨W, μ2, mσ, mh2, hr2, sr2, (Post.bind (R := rO W) hr2 sr2 p2).mono fun u H3 ⟨u', μ3, mh3, st3, hr3, sr3, eu, p3⟩ => ?_⟩
  cases el
  cases eu
  obtain ⟨z, mhz, e, fin⟩ := Post.calm p3
  exact ⟨W, μ3, mh3, x, z, mhz, hr3, st3.rv hr2 (st2.rv hr rx), e, fin⟩
section
variable {K : PySem.W.Frag} {mg : Str → Option Value} {W : List Addr} {H : Hp}
theorem frzI_ok : ∀ {xs : List Vl} {vs : List V} {ds : List PyData} {mh mh' : MH} {μ : Mu}, HR K mg W H μ mh → RVs K mg W H μ xs vs → frzI xs mh = some (ds, mh') → ∃ μ', Stp H μ H μ' ∧ HR K mg W H μ' mh' ∧ DzA K H (Mo μ' W) vs ds
  | [], _, _, mh, mh', μ, hr, r, e => by
    cases r
    unfold frzI at e
    cases e
    exact ⟨μ, Stp.refl _ _, hr, .nil⟩
  | x :: xs, _, ds, mh, mh', μ, hr, r, e => by
    cases r with
    | cons rx rs =>
      unfold frzI at e
      split at e
      · rename_i heq; cases heq
      · rename_i heq
        cases heq
        split at e
        · rename_i ys hy
          split at e
          · rename_i ds0 hd
            rw [Option.map_eq_some_iff] at e
            obtain ⟨⟨q1, q2⟩, e1, e2⟩ := e
            cases e2
            obtain ⟨_, a, us, k1, k2, k3, k4⟩ := RV.ref hr rx hy
            subst k1
            obtain ⟨st1, hr1, rv1⟩ := HR.kill hr hy k2 hd
            obtain ⟨μ2, st2, hr2, dz⟩ := frzI_ok hr1 (Paired.mapP rs fun _ _ r => st1.rv hr r) e1
            exact ⟨μ2, st1.trans st2, hr2, .cons (st2.dz hr1 rv1) dz⟩
          · cases e
        · cases e
      · cases e
end
theorem pe_ev_frz (ha : PE X a (tE X Wx fa)) : PE X a (tE X Wx fun σ h => (fa σ h).bind fun x h1 => (frzV x h1).calm) := by
  refine pe_imp ha fun σ H Q h => Rg.one (R := rV X) h fun v H1 W mσ μ x mh hr sr rx p => ?_
  obtain ⟨z, mhz, e, fin⟩ := Post.calm p
  unfold frzV at e
  split at e
  · split at e
    · rename_i i xs hx
      split at e
      · rename_i ds hd
        cases e
        obtain ⟨_, a, vs, e1, e2, e3, e4⟩ := RV.ref hr rx hx
        subst e1
        obtain ⟨st, hr', rv⟩ := HR.kill hr hx e2 hd
        exact fin _ _ _ st hr' rv
      · split at e
        · rename_i q hq
          cases e
          obtain ⟨_, a, vs, e1, e2, e3, e4⟩ := RV.ref hr rx hx
          subst e1
          obtain ⟨_, a', us, u1, u2, u3⟩ := hr.lst _ xs hx
          rw [e2] at u1; cases u1
          obtain ⟨st, hr1, gt⟩ := HR.drop hr hx e2
          obtain ⟨μ2, st2, hr2, dz⟩ := frzI_ok hr1 (Paired.mapP u3 fun _ _ r => st.rv hr r) hq
          refine fin _ _ _ (st.trans st2) hr2 (.lst u2 (fun z => ?_) dz)
          rcases z with z | z
          · rcases st2.new a z with z | z
            · obtain ⟨j, hj, e⟩ := List.mem_iff_getElem.mp z
              obtain ⟨n1, n2⟩ := gt (j := j) (b := a) (by rw [List.getElem?_eq_getElem hj, e])
              exact n1 (hr.nd j _ a n2 e2)
            · rw [u2] at z; cases z
          · exact (hr.w a z).2 (List.mem_of_getElem? e2)
        · cases e
    · rename_i kvs hx
      cases e
      obtain ⟨a, e1, e2⟩ := hr.dct _ false kvs hx
      have e3 := rx.2 a e1
      subst e3
      obtain ⟨st, hr', rv⟩ := HR.killD hr hx e1
      exact fin _ _ _ st hr' rv
    · cases e
  · cases e
    exact fin _ _ _ (Stp.refl _ _) hr rx
  · cases e
end
end Ev

set_option Elab.async false
set_option linter.all false
set_option autoImplicit false
set_option maxRecDepth 100000
set_option maxHeartbeats 2000000
namespace Ev
open PySem PySem.Spec PyProof.Rows L2
/-! ### what a def promises -/
def PostC (K : PySem.W.Frag) (mg : Str → Option Value) (W : List Addr) (res : Res Vl) (H : Hp) (μ : Mu) (Q : VK) (E : XK) : Prop :=
  match res with
  | .ok z mh' => ∀ v H' μ', Stp H μ H' μ' → HR K mg W H' μ' mh' → RV K mg W H' μ' z v → Q v H'
  | .exc c xs mh' => ∀ u d H' μ', Stp H μ H' μ' → HR K mg W H' μ' mh' → (∃ C, mg c = some (.ref C) ∧ u = .ref C ∧ xs = [] ∧ d = none) → E u d H'
  | .stuck => False
def spC (K : PySem.W.Frag) (mg : Str → Option Value) (c : List Vl → MH → Res Vl) : Sp := fun vs H Q E => ∃ W μ mh xs, HR K mg W H μ mh ∧ RVs K mg W H μ xs vs ∧ PostC K mg W (c xs mh) H μ Q E
/-- a def that may be called -/
structure CallOk (X : Cx) (cl : Str → List Vl → MH → Res Vl) (f : Str) : Prop where
  ex : ∃ (CX : CXT) (fa : Addr) (fd : FuncData) (ps : List Str) (k : Nat), FnOk X.prog X.w X.K X.mg X.base CX k fa fd ps (spC X.K X.mg (cl f)) ∧ Room k X.A ∧ X.mg f = some (.ref fa) ∧ PySem.W.keepIn X.K (.ref fa) = true ∧ L2.Binds X.K fd ps [] ∧
    ∀ (X' : Cx) (W' : WX), X'.prog = X.prog → X'.w = X.w → Takes X' W' → ∀ σ, PassesAt CX X' σ (WE W' σ)
theorem PostC.of {X : Cx} {W : List Addr} {Wx : WX} {res : Res Vl} {σ : L2.St} {H : Hp} {μ : Mu} {Q : VK} (p : Post X W Wx (rV X W) res σ H μ Q) : PostC X.K X.mg W res H μ Q (WE Wx σ) := by
  cases res with
  | ok a mh => exact p
  | exc c xs mh => exact p
  | stuck => exact p
section
variable {X : Cx} {Wx : WX} {a b c e : Expr} {es : List Expr} {p pos : Pos} {x : Str} {fa fb : Env → MH → Res Vl} {f : Env → MH → Res (List Vl)}
theorem star_map {env : PySem.Env} : ∀ {es : List Expr}, es.all plain = true → starEach es env = es.map fun e => (false, eval e env)
  | [], _ => rfl
  | e :: es, h => by
    rw [List.all_cons, Bool.and_eq_true] at h
    rw [star_cons h.1, star_map h.2, List.map_cons]
theorem back_any {env : PySem.Env} {es : List Expr} (h : es.all plain = true) : (backTo pos (starEach es env)).any (·.1) = false := by
  rw [star_map h]
  unfold backTo
  rw [List.map_map, List.any_map]
  induction es with
  | nil => rfl
  | cons e es ih =>
    rw [List.all_cons, Bool.and_eq_true] at h
    rw [List.any_cons, ih h.2]
    rfl
theorem few {env : PySem.Env} {es : List Expr} (h : es.all plain = true) (hl : es.length < 29) : ((backTo pos (starEach es env)).all (fun x => !x.1) && (backToKw pos (keywordEach [] env)).all (fun x => x.1.isSome)
      && decide (es.length + ([] : List Keyword).length + (if ([] : List Keyword).isEmpty then 0 else 1) < 30)) = true := by
  have e1 : (backTo pos (starEach es env)).all (fun x => !x.1) = true := by
    have := back_any (pos := pos) (env := env) h
    rw [List.all_eq_true]
    intro y hy
    cases q : y.1 with
    | false => rfl
    | true => rw [List.any_eq_false] at this; exact absurd q (this y hy)
  rw [e1]
  have e2 : (backToKw pos (keywordEach [] env)).all (fun x => x.1.isSome) = true := rfl
  rw [e2]
  simp
  omega
theorem pe_ev_call {cl : Str → List Vl → MH → Res Vl} (ok : CallOk X cl x) (tk : Takes X Wx) (hg : Gl X x) (hd : (x == ("__debug__" : Str)) = false) (hp : (e :: es).all plain = true) (ha : PA X (e :: es) (tA X Wx f)) :
    PE X (.Call (.Name x p) (e :: es) [] pos) (tE X Wx fun σ h => (f σ h).bind fun xs h1 => cl x xs h1) := by
  obtain ⟨CX, fa, fd, ps, k, F, hr, hm, hk, hb, pass⟩ := ok.ex
  have hp' := hp
  rw [List.all_cons, Bool.and_eq_true] at hp'
  refine pe_imp (pe_callS F hr hg hm hk hb (pass X Wx rfl rfl tk) ha hd (star_cons hp'.1) (back_any hp'.2)) fun σ H Q h => Rg.one (R := rVs X) h fun v H1 W mσ μ x mh hr sr rx q => ?_
  exact ⟨W, μ, mh, x, hr, rx, PostC.of q⟩
/-! ### built-in functions -/
def biN : Bi → Option (Str × Bool × String)
  | .len => some ("len", false, "len")
  | .tuple => some ("tuple", true, "tuple")
  | .list => some ("list", true, "list")
  | .int => some ("int", true, "int")
  | .abs => some ("abs", false, "abs")
  | .all => some ("all", false, "all")
  | .any => some ("any", false, "any")
  | .sum => some ("sum", false, "sum")
  | .sorted => some ("sorted", false, "sorted")
  | .max => some ("max", false, "max")
  | .min => some ("min", false, "min")
  | .max2 => some ("max", false, "max")
  | .min2 => some ("min", false, "min")
  | .dictP => some ("dict", true, "dict")
  | _ => none
def biFn (ty : Bool) (id : String) : Value := if ty = true then .type id else .builtin id
theorem biN_boot {b : Bi} {x : Str} {ty : Bool} {id : String} (h : biN b = some (x, ty, id)) : bootBuiltins x = some (biFn ty id) ∧ x ≠ "__name__" ∧ (x == ("__debug__" : Str)) = false := by
  cases b <;> cases h <;> exact ⟨by rfl, by decide, by decide⟩
theorem cr_bi (rm : Rm X) (hc : X.calm = true) {b : Bi} {mk : Bool} {x : Str} {ty : Bool} {id : String} (h : biN b = some (x, ty, id)) : CallR X (biFn ty id) (rOfL X (biV b mk)) := by
  cases b <;> cases h
  · exact cr_len
  · exact cr_tuple
  · exact cr_list mk
  · exact cr_int
  · exact cr_abs
  · exact cr_all' hc
  · exact cr_any' hc
  · exact cr_sum' hc
  · exact cr_sorted' mk rm
  · exact cr_max' rm hc
  · exact cr_min' rm hc
  · exact cr_max2 hc
  · exact cr_min2 hc
  · exact cr_dictP rm hc
theorem pe_ev_bi (rm : Rm X) (hc : X.calm = true) {b : Bi} {mk : Bool} {x : Str} {ty : Bool} {id : String} (h : biN b = some (x, ty, id)) (hg : Gl X x) (hm : X.mg x = none) (hp : (e :: es).all plain = true) (ha : PA X (e :: es) (tA X Wx f)) :
    PE X (.Call (.Name x p) (e :: es) [] pos) (tE X Wx fun σ h => (f σ h).bind fun xs h1 => (biV b mk xs h1).calm) := by
  have hp' := hp
  rw [List.all_cons, Bool.and_eq_true] at hp'
  obtain ⟨hb, hn, hd⟩ := biN_boot h
  have cr := cr_bi (X := X) rm hc (mk := mk) h
  have imp : ∀ σ H Q, tE X Wx (fun σ h => (f σ h).bind fun xs h1 => (biV b mk xs h1).calm) σ H Q → tCB (rOfL X (biV b mk)) (tA X Wx f) σ H Q := fun σ H Q h => Rg.one (R := rVs X) h fun v H1 W mσ μ xs mh hr sr rx q => by
    obtain ⟨z, mhz, e, fin⟩ := Post.calm q
    exact ⟨W, μ, mh, xs, z, mhz, hr, rx, e, fin⟩
  cases ty with
  | true => exact pe_imp (pe_callTy cr hg hm hb ha hn hd (star_cons hp'.1) (back_any hp'.2)) imp
  | false => exact pe_imp (pe_callB cr hg hm hb ha hn hd (star_cons hp'.1) (back_any hp'.2)) imp
/-! ### isinstance -/
def tyS : Ty → Str
  | .int => "int" | .bool => "bool" | .str => "str" | .tuple => "tuple" | .list => "list" | .dict => "dict"
def tyN : Ty → String
  | .int => "int" | .bool => "bool" | .str => "str" | .tuple => "tuple" | .list => "list" | .dict => "dict"
theorem tyS_boot (t : Ty) : bootBuiltins (tyS t) = some (.type (tyN t)) ∧ tyS t ≠ "__name__" ∧ (tyS t == ("__debug__" : Str)) = false := by
  cases t <;> exact ⟨by rfl, by decide, by decide⟩
/-- isinstance by the classes' names -/
def tyB (n : String) (t : Ty) : Bool := n == tyN t || (n == "bool" && tyN t == "int")
theorem tab_non : ∀ t, kitB "NoneType" (tyN t) = some (tyB "NoneType" t) := by intro t; cases t <;> decide +kernel
theorem tab_bool : ∀ t, kitB "bool" (tyN t) = some (tyB "bool" t) := by intro t; cases t <;> decide +kernel
theorem tab_int : ∀ t, kitB "int" (tyN t) = some (tyB "int" t) := by intro t; cases t <;> decide +kernel
theorem tab_str : ∀ t, kitB "str" (tyN t) = some (tyB "str" t) := by intro t; cases t <;> decide +kernel
theorem tab_list : ∀ t, kitB "list" (tyN t) = some (tyB "list" t) := by intro t; cases t <;> decide +kernel
theorem tab_dict : ∀ t, kitB "dict" (tyN t) = some (tyB "dict" t) := by intro t; cases t <;> decide +kernel
theorem tab_tuple : ∀ t, kitB "tuple" (tyN t) = some (tyB "tuple" t) := by intro t; cases t <;> decide +kernel
theorem dz_ty {W : List Addr} {H : Hp} {μ : Mu} {d : PyData} {v : V} (h : Dz X.K H (Mo μ W) v d) : ∃ n, TyX X.K H v (.type n) ∧ ∀ t, PySem.W.kitOne X.K (.type n) (.type (tyN t)) = some (isTy t d) := by
  cases h with
  | non => exact ⟨_, .base .non, fun t => kit_ty ((tab_non t).trans (by cases t <;> rfl))⟩
  | bl b => exact ⟨_, .base (.bl b), fun t => kit_ty ((tab_bool t).trans (by cases t <;> rfl))⟩
  | int i => exact ⟨_, .base (.int i), fun t => kit_ty ((tab_int t).trans (by cases t <;> rfl))⟩
  | str s => exact ⟨_, .base (.str s), fun t => kit_ty ((tab_str t).trans (by cases t <;> rfl))⟩
  | lst a b c => exact ⟨_, .base (.lst a), fun t => kit_ty ((tab_list t).trans (by cases t <;> rfl))⟩
  | tupA a c =>
    refine ⟨"tuple", ?_, fun t => kit_ty ((tab_tuple t).trans (by cases t <;> rfl))⟩
    rcases a with a | ⟨_, o, its, n, e, e2, _⟩
    · exact .base (.tup a)
    · exact .kTuple e e2
  | dct a b c => exact ⟨"dict", .base (.dK a), fun t => kit_ty ((tab_dict t).trans (by cases t <;> rfl))⟩
theorem kit_any {K : PySem.W.Frag} {n : String} {d : PyData} (h : ∀ t, PySem.W.kitOne K (.type n) (.type (tyN t)) = some (isTy t d)) : ∀ ts : List Ty, PySem.W.kitAny K (.type n) (ts.map fun t => .type (tyN t)) = some (ts.any fun t => isTy t d)
  | [] => kitAny_nil
  | t :: ts => by
    rw [List.map_cons, List.any_cons]
    refine kitAny_cons (h t) (fun e => ?_) (fun e => by rw [e]; rfl)
    rw [e, Bool.false_or]
    exact kit_any h ts
/-- the classes as written -/
def clsB (gl : Str → Bool) : List Ty → List Expr → Bool
  | [], [] => true
  | t :: ts, .Name x _ :: es => decide (x = tyS t) && gl x && clsB gl ts es
  | _, _ => false
def tysB (gl : Str → Bool) (ts : List Ty) : Expr → Bool
  | .Name x _ => (match ts with | [t] => decide (x = tyS t) && gl x | _ => false)
  | .Tuple es _ _ => decide (ts.length ≤ 100) && clsB gl ts es
  | _ => false
def tK (vs : List V) : TA := fun _ H Q => Q vs H
theorem pa_cls {gl : Str → Bool} (hgl : ∀ x, gl x = true → Gl X x) (hbl : ∀ t, X.mg (tyS t) = none) : ∀ {ts : List Ty} {es : List Expr}, clsB gl ts es = true → PA X es (tK (ts.map fun t => .ty (tyN t)))
  | [], [], _ => pa_nil
  | [], _ :: _, h => by simp [clsB] at h
  | t :: ts, [], h => by simp [clsB] at h
  | t :: ts, e :: es, h => by
    unfold clsB at h
    split at h
    · rename_i e1 _; cases e1
    · rename_i e1 e2
      cases e1; cases e2
      simp only [Bool.and_eq_true, decide_eq_true_eq] at h
      obtain ⟨⟨rfl, h2⟩, h3⟩ := h
      obtain ⟨b1, b2, b3⟩ := tyS_boot t
      exact pa_imp (pa_cons (pe_bltn (v := .ty (tyN t)) (hgl _ h2) (hbl t) b1 rfl b2 b3) (pa_cls hgl hbl h3) rfl) fun σ H Q q => q
    · cases h
theorem cls_ty : ∀ ts : List Ty, Paired ClsV (ts.map fun t => V.ty (tyN t)) (ts.map fun t => Value.type (tyN t))
  | [] => .nil
  | t :: ts => .cons (.ty _) (cls_ty ts)
theorem isi_ty {W : List Addr} {H : Hp} {μ : Mu} {mh mh' : MH} {ts : List Ty} {x z : Vl} {v : V} (hr : hR X W H μ mh) (r : rV X W H μ x v) (e : isiV ts x mh = .ok z mh') :
    ∃ n d, TyX X.K H v (.type n) ∧ (∀ t, PySem.W.kitOne X.K (.type n) (.type (tyN t)) = some (isTy t d)) ∧ z = .d (.bool (ts.any fun t => isTy t d)) ∧ mh' = mh := by
  unfold isiV at e
  split at e
  · cases e
    obtain ⟨n, ty, k⟩ := dz_ty r
    exact ⟨n, _, ty, k, rfl, rfl⟩
  · split at e
    · rename_i i xs hx
      cases e
      obtain ⟨_, a, vs, e1, e2, e3, e4⟩ := RV.ref hr r hx
      subst e1
      exact ⟨_, _, .base (.lst e3), fun t => kit_ty ((tab_list t).trans (by cases t <;> rfl)), rfl, rfl⟩
    · cases e
  · cases e
theorem pe_ev_isi {gl : Str → Bool} (hgl : ∀ x, gl x = true → Gl X x) (hbl : ∀ t, X.mg (tyS t) = none) (hi : X.mg "isinstance" = none) (hg : Gl X "isinstance") {ts : List Ty} {t : Expr} (ht : tysB gl ts t = true) (hp : plain a = true) (ha : PE X a (tE X Wx fa)) :
    PE X (.Call (.Name "isinstance" p) [a, t] [] pos) (tE X Wx fun σ h => (fa σ h).bind fun x h1 => (isiV ts x h1)) := by
  have boot : bootBuiltins ("isinstance" : Str) = some (.builtin "isinstance") := by rfl
  have pt : plain t = true := by
    cases t <;> first | rfl | (exact absurd ht (by simp [tysB]))
  have s1 : starEach [a, t] X.env = (false, eval a X.env) :: starEach [t] X.env := star_cons hp
  have s2 : (backTo pos (starEach [t] X.env)).any (·.1) = false := back_any (by rw [List.all_cons, pt]; rfl)
  have noex : ∀ {W : List Addr} {x : Vl} {mh : MH} {σ : L2.St} {H : Hp} {μ : Mu} {Q : VK}, Post X W Wx (rV X W) (isiV ts x mh) σ H μ Q → ∃ z mh', isiV ts x mh = .ok z mh' := fun {W x mh σ H μ Q} p => by
    unfold isiV at p ⊢
    split at p
    · exact ⟨_, _, rfl⟩
    · split at p
      · exact ⟨_, _, rfl⟩
      · exact p.elim
    · exact p.elim
  unfold tysB at ht
  split at ht
  · split at ht
    · rename_i x q ts' t'
      simp only [Bool.and_eq_true, decide_eq_true_eq] at ht
      obtain ⟨rfl, h2⟩ := ht
      obtain ⟨b1, b2, b3⟩ := tyS_boot t'
      refine pe_imp (pe_callB call_isi hg hi boot (pa_cons ha (pa_cons (pe_bltn (v := .ty (tyN t')) (hgl _ h2) (hbl t') b1 rfl b2 b3) pa_nil rfl) s1) (by decide) (by decide) s1 s2) fun σ H Q h => Rg.one (R := rV X) h fun v H1 W mσ μ x mh hr sr rx q => ?_
      obtain ⟨z, mh', e⟩ := noex q
      obtain ⟨n, d, ty, k, rfl, rfl⟩ := isi_ty hr rx e
      rw [e] at q
      refine ⟨v, .ty (tyN t'), .type n, _, _, rfl, .ty _, ty, k t', ?_⟩
      have := q.ok hr (Dz.bl _)
      simpa using this
    · cases ht
  · rename_i es kk tp
    simp only [Bool.and_eq_true, decide_eq_true_eq] at ht
    obtain ⟨hz, ht⟩ := ht
    refine pe_imp (pe_callB call_isiT hg hi boot (pa_cons ha (pa_cons (pe_tup (pa_cls hgl hbl ht)) pa_nil rfl) s1) (by decide) (by decide) s1 s2) fun σ H Q h => Rg.one (R := rV X) h fun v H1 W mσ μ x mh hr sr rx q => ?_
    refine ⟨?_, fun q2 hq2 => ?_⟩
    · rw [List.length_map, sizeLine_eq]; omega
    · obtain ⟨z, mh', e⟩ := noex q
      obtain ⟨st, hr'⟩ := HR.fresh (o := .tup (ts.map fun t => .ty (tyN t))) hr hq2
      obtain ⟨n, d, ty, k, rfl, rfl⟩ := isi_ty hr' (st.rv hr rx) e
      rw [e] at q
      exact ⟨v, q2, ts.map fun t => .ty (tyN t), .type n, ts.map fun t => .type (tyN t), _, rfl, upd_same, cls_ty ts, ty, kit_any k ts, q _ _ _ st hr' (Dz.bl _)⟩
  · cases ht
/-! ### list(range(..)), tuple(range(..)) -/
theorem rgV_dz {K : PySem.W.Frag} {H : Hp} {B : Addr → Prop} (a b : Int) : DzA K H B (rgV a b) (rangeD a (b - a).toNat) := by
  have := DzA.ints (K := K) (H := H) (B := B) ((List.range (b - a).toNat).map fun (i : Nat) => a + (i : Int))
  rw [List.map_map, List.map_map] at this
  exact this
theorem rngOk_rg {i j : Int} (h : rngOk i j = true) : RgOk i j := by
  have h := rngOk_ok h
  exact ⟨h.1, h.2.1, h.2.2.1, h.2.2.2.1, h.2.2.2.2⟩
theorem pe_ev_rg {tu mk : Bool} {e : Expr} {f : Env → MH → Res (Int × Int)} (hc : X.calm = true) (hg : Gl X (rgN tu)) (hm : X.mg (rgN tu) = none) (pl : plain e = true)
    (he : PRg X e (fun σ H Q => Rg X Wx (fun _ _ _ (a b : Int × Int) => a = b) f σ H fun p H1 => Q p.1 p.2 H1)) :
    PE X (.Call (.Name (rgN tu) p) [e] [] pos) (tE X Wx fun σ h => (f σ h).bind fun ij h1 => (rgF tu mk ij.1 ij.2 h1).calm) := by
  have key : ∀ {W : List Addr} {H : Hp} {μ : Mu} {mh : MH} {mσ : Env} {σ : L2.St} {i j : Int} {Q : VK}, hR X W H μ mh → Post X W Wx (rV X W) ((rgF tu mk i j mh).calm) σ H μ Q → RgOk i j ∧ ∀ q, H q = none → Q (.ref q) (upd H q (if tu = true then .tup (rgV i j) else .lst (rgV i j))) := fun {W H μ mh mσ σ i j Q} hr p => by
    obtain ⟨z, mhz, e, fin⟩ := Post.calm p
    unfold rgF at e
    split at e
    · rename_i hrg
      refine ⟨rngOk_rg hrg, fun q hq => ?_⟩
      cases tu with
      | true =>
        rw [if_pos rfl] at e ⊢
        obtain ⟨ds, rfl, rfl, dz⟩ := mkt_ok (rvs_dz (rgV_dz i j)) e
        exact new_tup hr hq dz fin
      | false =>
        rw [if_neg (by simp)] at e ⊢
        exact new_mkl hr hq (rvs_dz (rgV_dz i j)) e fin
    · cases e
  cases tu with
  | true =>
    exact pe_imp (pe_tupRg hc hg hm he (star_cons pl)) fun σ H Q h => Rg.one (R := fun _ _ _ (a b : Int × Int) => a = b) h fun v H1 W mσ μ x mh hr sr rx q => by
      cases rx
      exact key (mσ := mσ) hr q
  | false =>
    exact pe_imp (pe_listRg hc hg hm he (star_cons pl)) fun σ H Q h => Rg.one (R := fun _ _ _ (a b : Int × Int) => a = b) h fun v H1 W mσ μ x mh hr sr rx q => by
      cases rx
      exact key (mσ := mσ) hr q
theorem prg_imp {e : Expr} {t t' : L2.St → Hp → (Int → Int → Hp → Prop) → Prop} (h : PRg X e t) (i : ∀ σ H Q, t' σ H Q → t σ H Q) : PRg X e t' := fun pins s σ H Q I w => h pins s σ H Q I (i σ H Q w)
theorem prg_ev1 (hg : Gl X "range") (hm : X.mg "range" = none) (pl : plain a = true) (ha : PE X a (tE X Wx fa)) :
    PRg X (.Call (.Name "range" p) [a] [] pos) (fun σ H Q => Rg X Wx (fun _ _ _ (a b : Int × Int) => a = b) (fun σ h => ((fa σ h).bind fun x h1 => (Res.ok [] h1).bind fun xs h2 => .ok (x :: xs) h2).bind fun xs h1 => ofOpt (asII xs) h1) σ H fun p H1 => Q p.1 p.2 H1) := by
  refine prg_imp (prg_1 hg hm ha (star_cons pl)) fun σ H Q h => ?_
  have e : (fun (σ : Env) h => ((fa σ h).bind fun x h1 => (Res.ok [] h1).bind fun xs h2 => .ok (x :: xs) h2).bind fun xs h1 => ofOpt (asII xs) h1) = fun σ h => (fa σ h).bind fun x h1 => ofOpt (asII [x]) h1 := by
    funext σ h; rw [Res.bind_bind]; rfl
  rw [e] at h
  refine Rg.one (R := rV X) h fun v H1 W mσ μ x mh hr sr rx q => ?_
  obtain ⟨ij, ei, k⟩ := Post.ofOpt q hr
  unfold asII at ei
  split at ei
  · rename_i e2; cases e2; cases ei; cases rx; exact ⟨_, rfl, k _ rfl⟩
  · rename_i e2; cases e2
  · cases ei
theorem prg_ev2 (hg : Gl X "range") (hm : X.mg "range" = none) (pl : plain a = true) (pl2 : plain b = true) (ha : PE X a (tE X Wx fa)) (hb : PE X b (tE X Wx fb)) :
    PRg X (.Call (.Name "range" p) [a, b] [] pos) (fun σ H Q => Rg X Wx (fun _ _ _ (a b : Int × Int) => a = b) (fun σ h => ((fa σ h).bind fun x h1 => ((fb σ h1).bind fun x h1 => (Res.ok [] h1).bind fun xs h2 => .ok (x :: xs) h2).bind fun xs h2 => .ok (x :: xs) h2).bind fun xs h1 => ofOpt (asII xs) h1) σ H fun p H1 => Q p.1 p.2 H1) := by
  refine prg_imp (prg_2 hg hm ha hb (by rw [star_cons pl]) (star_cons pl2) (back_any (by rw [List.all_cons, pl2]; rfl))) fun σ H Q h => ?_
  have e : (fun (σ : Env) h => ((fa σ h).bind fun x h1 => ((fb σ h1).bind fun x h1 => (Res.ok [] h1).bind fun xs h2 => .ok (x :: xs) h2).bind fun xs h2 => .ok (x :: xs) h2).bind fun xs h1 => ofOpt (asII xs) h1) = fun σ h => (fa σ h).bind fun x h1 => (fb σ h1).bind fun y h2 => ofOpt (asII [x, y]) h2 := by
    funext σ h
    rw [Res.bind_bind]
    congr 1
    funext x h1
    rw [Res.bind_bind, Res.bind_bind]
    rfl
  rw [e] at h
  refine Rg.two (R1 := rV X) (R2 := rV X) mV h fun v u H1 W mσ μ x y mh hr sr rx ry q => ?_
  obtain ⟨ij, ei, k⟩ := Post.ofOpt q hr
  unfold asII at ei
  split at ei
  · rename_i e2; cases e2
  · rename_i e2; cases e2; cases ei; cases rx; cases ry; exact ⟨_, _, rfl, rfl, k _ rfl⟩
  · cases ei
/-! ### methods -/
def meN : Me → Str × String
  | .append => ("append", "list.append")
  | .extend => ("extend", "list.extend")
  | .pop => ("pop", "list.pop")
  | .popAt => ("pop", "list.pop")
  | .index => ("index", "list.index")
  | .count => ("count", "list.count")
  | .insert => ("insert", "list.insert")
theorem me_slot (m : Me) : Slot "list" (meN m).1 (meN m).2 ∧ typeOf (.builtin (meN m).2) = pure (.type "method_descriptor") := by
  cases m
  · exact ⟨PySem.F.slot_list_append, rfl⟩
  · exact ⟨PySem.F.slot_list_extend, rfl⟩
  · exact ⟨PySem.F.slot_list_pop, rfl⟩
  · exact ⟨PySem.F.slot_list_pop, rfl⟩
  · exact ⟨PySem.F.slot_list_index, rfl⟩
  · exact ⟨PySem.F.slot_list_count, rfl⟩
  · exact ⟨PySem.F.slot_list_insert, rfl⟩
theorem me_ok (rm : Rm X) (m : Me) : MtR X (meN m).2 (rOfM X (metV m)) := by
  cases m
  · exact mm_append
  · exact mm_extend
  · exact mm_pop
  · exact mm_popAt
  · exact mm_index rm
  · exact mm_count rm
  · exact mm_insert
theorem contL_items {v : Vl} {h : MH} {ys : List PyData} (e : contL v h = some ys) : ∃ xs, itemsL v h = some xs := by
  cases v with
  | d x => cases x <;> first | exact ⟨_, rfl⟩ | (simp [contL, cont] at e)
  | r i =>
    unfold contL cont at e
    cases q : h[i]? with
    | none => simp [q] at e
    | some o =>
      cases o with
      | lst xs => exact ⟨xs, by unfold itemsL; simp [q]⟩
      | dct t kvs => simp [q] at e
      | dead => simp [q] at e
  | g x => simp [contL, cont] at e
  | sc ns => simp [contL, cont] at e
  | x a => simp [contL, cont] at e
theorem met_items {m : Me} {o : Vl} {xs : List Vl} {h h' : MH} {z : Vl} (e : metV m o xs h = .ok z h') : ∃ ys, itemsL o h = some ys := by
  have ref : ∀ {i : Nat} {ys : List Vl}, h[i]? = some (.lst ys) → ∃ ys, itemsL (.r i) h = some ys := fun {i ys} q => ⟨ys, by unfold itemsL; simp [q]⟩
  cases m
  · unfold metV m_append at e
    dsimp only at e
    split at e
    · split at e
      · exact ref (by assumption)
      · cases e
    · cases e
  · unfold metV m_extend at e
    dsimp only at e
    split at e
    · split at e
      · exact ref (by assumption)
      · cases e
    · cases e
  · unfold metV m_pop at e
    dsimp only at e
    split at e
    · split at e
      · exact ref (by assumption)
      · cases e
    · cases e
  · unfold metV m_popAt at e
    dsimp only at e
    split at e
    · split at e
      · exact ref (by assumption)
      · cases e
    · cases e
  · unfold metV m_index at e
    dsimp only at e
    split at e
    · split at e
      · exact contL_items (by assumption)
      · cases e
    · cases e
  · unfold metV m_count at e
    dsimp only at e
    split at e
    · split at e
      · exact contL_items (by assumption)
      · cases e
    · cases e
  · unfold metV m_insert at e
    dsimp only at e
    split at e
    · split at e
      · exact ref (by assumption)
      · cases e
    · cases e
/-- what a method is taken of -/
def attrOk : Expr → Bool
  | .Name .. => true
  | .Subscript .. => true
  | .ListComp .. => true
  | .List .. => true
  | _ => false
theorem attr_base {o : Expr} {name : Str} {env : PySem.Env} (h : attrOk o = true) : attributeBase o name env (eval o env) = eval o env := by
  cases o <;> first | rfl | (exact absurd h (by simp [attrOk]))
theorem ty_now {W : List Addr} {H : Hp} {μ : Mu} {mh : MH} {x : Vl} {v : V} (hr : hR X W H μ mh) (r : rV X W H μ x v) (e : (itemsL x mh).isSome = true) : tyV X.K "list" v H := by
  obtain ⟨ys, h⟩ := Option.isSome_iff_exists.mp e
  obtain ⟨a, vs, e1, e2, _⟩ := itemsL_ok hr r h
  subst e1
  exact .inl ⟨rfl, vs, SqL.of e2⟩
theorem pe_ev_met0 (rm : Rm X) {m : Me} {o : Expr} {name : Str} {apos cpos : Pos} (hn : name = (meN m).1) (hat : attrOk o = true) (hline : (apos.endLine == cpos.line) = true) (ho : PE X o (tE X Wx fa)) :
    PE X (.Call (.Attribute o name apos) [] [] cpos) (tE X Wx fun σ h => (fa σ h).bind fun x h1 => if (itemsL x h1).isSome = true then (Res.ok [] h1).bind fun xs h2 => (metV m x xs h2).calm else .stuck) := by
  subst hn
  obtain ⟨sl, ty⟩ := me_slot m
  refine pe_imp (pe_bm0 PySem.F.plainAttrs_list sl ty (me_ok rm m) ho (attr_base hat) hline) fun σ H Q h => Rg.one (R := rV X) h fun v H1 W mσ μ x mh hr sr rx q => ?_
  revert q
  split
  · rename_i hs
    intro q
    obtain ⟨z, mhz, e, fin⟩ := Post.calm (res := metV m x [] mh) q
    exact ⟨ty_now hr rx hs, W, μ, mh, x, [], z, mhz, hr, rx, .nil, e, fin⟩
  · exact fun z => z.elim
theorem pe_ev_met (rm : Rm X) {m : Me} {o : Expr} {name : Str} {apos cpos : Pos} (hn : name = (meN m).1) (hat : attrOk o = true) (hline : (apos.endLine == cpos.line) = true) (hp : (e :: es).all plain = true) (hl : (e :: es).length < 29) (ho : PE X o (tE X Wx fa)) (ha : PA X (e :: es) (tA X Wx f)) :
    PE X (.Call (.Attribute o name apos) (e :: es) [] cpos) (tE X Wx fun σ h => (fa σ h).bind fun x h1 => if (itemsL x h1).isSome = true then (f σ h1).bind fun xs h2 => (metV m x xs h2).calm else .stuck) := by
  subst hn
  obtain ⟨sl, ty⟩ := me_slot m
  have hp' := hp
  rw [List.all_cons, Bool.and_eq_true] at hp'
  refine pe_imp (pe_bm PySem.F.plainAttrs_list sl ty (me_ok rm m) ho ha (attr_base hat) (few hp hl) hline (star_cons hp'.1) (back_any hp'.2)) fun σ H Q h => Rg.one (R := rV X) h fun v H1 W mσ μ x mh hr sr rx q => ?_
  revert q
  split
  · rename_i hs
    intro q
    refine ⟨ty_now hr rx hs, W, μ, mσ, mh, hr, sr, (Post.bind (R := rVs X W) hr sr q).mono fun u H2 ⟨y, μ2, mh2, st2, hr2, sr2, ru, p2⟩ => ?_⟩
    obtain ⟨z, mhz, e, fin⟩ := Post.calm p2
    exact ⟨W, μ2, mh2, x, y, z, mhz, hr2, st2.rv hr rx, ru, e, fin⟩
  · exact fun z => z.elim
/-! ### comprehensions -/
theorem pe_ev_lc {elt tg iter : Expr} {ifs : List Expr} {scope : Scope} {own : List (Str × Nat)} {F : Nat} {mk : Bool} {t : Tg} {fI : Env → MH → Res Src} {fA : Env → MH → Res Bool} {fE : Env → MH → Res Vl} (hc : X.calm = true) (hN : X.N.Nodup) (hi : PI X tg iter (tI X Wx fI)) (ok : BlkOk X.N X.env.scope scope own)
    (ho : ∀ i, i ∈ (match t with | .nm i => [i] | .tp is => is) → i ∈ own.map (·.2))
    (hg : ∀ (s : Shared) (H : Hp) (C : Addr) (cl : List (Str × Addr)) (fp : List Addr), PG (X.blk s H scope (compEnvC scope cl C X.env) fp) tg (tG X t)) (ht : ∀ (s : Shared) (H : Hp) (C : Addr) (cl : List (Str × Addr)) (fp : List Addr), PTs (X.blk s H scope (compEnvC scope cl C X.env) fp) ifs (tT X Wn fA))
    (he : ∀ (s : Shared) (H : Hp) (C : Addr) (cl : List (Str × Addr)) (fp : List Addr), PE (X.blk s H scope (compEnvC scope cl C X.env) fp) elt (tE X Wn fE)) (hp : plain iter = true) :
    PE X (.ListComp elt [⟨tg, iter, ifs, 0⟩] scope pos) (tE X Wx (lcV F mk t (own.map (·.2)) fI fA fE)) :=
  pe_imp (pe_lc hc hN hi ok hg ht he (fold_plain hp)) fun σ H Q h => lc_imp ho h
theorem ps_ev_lc {i : Nat} {y : Str} {py spos : Pos} {elt tg iter : Expr} {ifs : List Expr} {scope : Scope} {own : List (Str × Nat)} {F : Nat} {mk : Bool} {t : Tg} {fI : Env → MH → Res Src} {fA : Env → MH → Res Bool} {fE : Env → MH → Res Vl} (hc : X.calm = true) (hN : X.N.Nodup) (hy : X.N[i]? = some y) (hyl : X.env.scope.names.lookup y = some .local)
    (hsw : swapsWith (.ListComp elt [⟨tg, iter, ifs, 0⟩] scope pos) (some (.Name y py)) spos.line X.env = pure true) (hi : PI X tg iter (tI X Wx fI)) (ok : BlkOk X.N X.env.scope scope own)
    (ho : ∀ i, i ∈ (match t with | .nm i => [i] | .tp is => is) → i ∈ own.map (·.2))
    (hg : ∀ (s : Shared) (H : Hp) (C : Addr) (cl : List (Str × Addr)) (fp : List Addr), PG (X.blk s H scope (compEnvC scope cl C X.env) fp) tg (tG X t)) (ht : ∀ (s : Shared) (H : Hp) (C : Addr) (cl : List (Str × Addr)) (fp : List Addr), PTs (X.blk s H scope (compEnvC scope cl C X.env) fp) ifs (tT X Wn fA))
    (he : ∀ (s : Shared) (H : Hp) (C : Addr) (cl : List (Str × Addr)) (fp : List Addr), PE (X.blk s H scope (compEnvC scope cl C X.env) fp) elt (tE X Wn fE)) (hp : plain iter = true) :
    PS X (.Assign [.Name y py] (.ListComp elt [⟨tg, iter, ifs, 0⟩] scope pos) spos) (tAsg (tE X Wx (lcV F mk t (own.map (·.2)) fI fA fE)) (gName i)) :=
  ps_imp (ps_setLc hc hN hy hyl hsw hi ok hg ht he (fold_plain hp)) fun D σ H h => lc_imp ho h
end
end Ev

set_option Elab.async false
set_option linter.all false
set_option autoImplicit false
set_option maxRecDepth 100000
set_option maxHeartbeats 4000000
namespace Ev
open PySem PySem.Spec PyProof.Rows L2
section
variable {X : Cx} {Wx : WX} {pos : Pos} {o k d e : Expr} {fo fk fd fa : Env → MH → Res Vl}
theorem noSl {i : Expr} (h : plain i = true) : NoSl i := fun ov iv => by
  cases i <;> first | rfl | (exact absurd h (by simp [plain]))
theorem RV.dct {W : List Addr} {H : Hp} {μ : Mu} {mh : MH} {i : Nat} {t : Bool} {kvs : List (PyData × PyData)} {v : V} (hr : hR X W H μ mh) (r : rV X W H μ (.r i) v) (h : mh[i]? = some (.dct t kvs)) : ∃ a, v = .ref a ∧ μ[i]? = some (some a) ∧ DR X.K H (Mo μ W) a t kvs := by
  obtain ⟨a, e1, e2⟩ := hr.dct i t kvs h
  exact ⟨a, r.2 a e1, e1, e2⟩
theorem dgetO_ok {W : List Addr} {H : Hp} {μ : Mu} {mh : MH} {x y : Vl} {v u : V} {r : Option PyData} (hr : hR X W H μ mh) (rx : rV X W H μ x v) (ry : rV X W H μ y u) (h : dgetO x y mh = some r) : ∃ a p, v = .ref a ∧ DGet H a u p ∧ FR X.K H (Mo μ W) r p := by
  unfold dgetO at h
  split at h
  · split at h
    · rename_i hx
      split at h
      · rename_i hc
        cases h
        obtain ⟨a, e1, e2, e3⟩ := RV.dct hr rx hx
        obtain ⟨p, g, f⟩ := e3.get ry hc
        exact ⟨a, p, e1, g, f⟩
      · cases h
    · cases h
  · cases h
theorem isDct_ok {W : List Addr} {H : Hp} {μ : Mu} {mh : MH} {x : Vl} {v : V} (hr : hR X W H μ mh) (rx : rV X W H μ x v) (h : isDct x mh = true) : ∃ a, v = .ref a ∧ IsD H a := by
  unfold isDct at h
  split at h
  · split at h
    · rename_i hx
      obtain ⟨a, e1, e2, e3⟩ := RV.dct hr rx hx
      exact ⟨a, e1, e3.isD⟩
    · cases h
  · cases h
theorem pe_ev_dnew (t : Bool) : PE X (.Dict [] [] pos) (tE X Wx fun _ h => .ok (.r h.length) (h ++ [.dct t []])) := by
  cases t with
  | false =>
    refine pe_imp pe_dnewK fun σ H Q ⟨W, μ, mσ, mh, hr, sr, p⟩ q hq => ?_
    obtain ⟨st, hr'⟩ := hr.growD false hq
    exact p _ _ _ st hr' ⟨by rw [List.length_append, hr.len]; simp, fun a e => by
      rw [← hr.len] at e
      simp at e
      rw [e]⟩
  | true =>
    refine pe_imp pe_dnewT fun σ H Q ⟨W, μ, mσ, mh, hr, sr, p⟩ q hq => ?_
    obtain ⟨st, hr'⟩ := hr.growD true hq
    exact p _ _ _ st hr' ⟨by rw [List.length_append, hr.len]; simp, fun a e => by
      rw [← hr.len] at e
      simp at e
      rw [e]⟩
theorem pe_ev_dget (rm : Rm X) (hp : plain k = true) (ho : PE X o (tE X Wx fo)) (hk : PE X k (tE X Wx fk)) : PE X (.Subscript o k pos) (tE X Wx fun σ h => (fo σ h).bind fun x h1 => (fk σ h1).bind fun y h2 => (match dgetV x y h2 with | some v => .ok (.d v) h2 | none => .stuck)) := by
  have un := rm.un
  refine pe_imp (pe_dget (by omega) ho hk (noSl hp)) fun σ H Q h => ?_
  refine (Rg.bind (R := rV X) h).mono fun v H1 ⟨W, mσ, μ, x, μ1, mh1, st, hr, sr, rx, p⟩ => ?_
  refine ⟨W, μ1, mσ, mh1, hr, sr, (Post.bind (R := rV X W) hr sr p).mono fun u H2 ⟨y, μ2, mh2, st2, hr2, sr2, ry, p2⟩ => ?_⟩
  revert p2
  dsimp only
  split
  · rename_i z hz
    intro p2
    unfold dgetV at hz
    obtain ⟨r, h1, h2⟩ := Option.join_eq_some_iff.mp hz |> fun q => (⟨_, q, rfl⟩ : ∃ r, dgetO x y mh2 = some r ∧ r = some z)
    subst h2
    obtain ⟨a, q, e1, g, w, e2, rw'⟩ := dgetO_ok hr2 (st2.rv hr rx) ry h1
    subst e2
    exact ⟨a, w, e1, g, p2.ok hr2 rw'⟩
  · exact fun z => z.elim
theorem pe_ev_dgetD (rm : Rm X) {apos cpos : Pos} (hat : attrOk o = true) (hline : (apos.endLine == cpos.line) = true) (hp1 : plain k = true) (hp2 : plain d = true) (ho : PE X o (tE X Wx fo)) (hk : PE X k (tE X Wx fk)) (hd : PE X d (tE X Wx fd)) :
    PE X (.Call (.Attribute o "get" apos) [k, d] [] cpos) (tE X Wx fun σ h => (fo σ h).bind fun x h1 => if isDct x h1 = true then (fk σ h1).bind fun y h2 => (fd σ h2).bind fun z h3 => (match dgetO x y h3, z with
    | some r, .d z => .ok (.d (r.getD z)) h3
    | _, _ => .stuck) else .stuck) := by
  have un := rm.un
  have hpl : ([k, d] : List Expr).all plain = true := by rw [List.all_cons, List.all_cons, hp1, hp2]; rfl
  refine pe_imp (pe_dget2 (by omega) ho hk hd ⟨attr_base hat, few hpl (by simp), hline, by rw [star_cons hp1, star_cons hp2]; rfl⟩) fun σ H Q h => ?_
  refine (Rg.bind (R := rV X) h).mono fun v H1 ⟨W, mσ, μ, x, μ1, mh1, st, hr, sr, rx, p⟩ => ?_
  revert p
  dsimp only
  split
  · rename_i hi
    intro p
    obtain ⟨a, e1, isd⟩ := isDct_ok hr rx hi
    subst e1
    refine ⟨a, rfl, isd, W, μ1, mσ, mh1, hr, sr, (Post.bind (R := rV X W) hr sr p).mono fun u H2 ⟨y, μ2, mh2, st2, hr2, sr2, ry, p2⟩ => ?_⟩
    refine ⟨W, μ2, mσ, mh2, hr2, sr2, (Post.bind (R := rV X W) hr2 sr2 p2).mono fun w H3 ⟨z, μ3, mh3, st3, hr3, sr3, rz, p3⟩ => ?_⟩
    revert p3
    dsimp only
    split
    · rename_i r z hr0
      intro p3
      obtain ⟨a', q, e1, g, fr⟩ := dgetO_ok hr3 (st3.rv hr2 (st2.rv hr rx)) (st3.rv hr2 ry) hr0
      cases e1
      cases r with
      | some r =>
        obtain ⟨u', e2, rw'⟩ := fr
        subst e2
        exact ⟨_, g, p3.ok hr3 rw'⟩
      | none =>
        have e2 : q = none := fr
        subst e2
        exact ⟨_, g, p3.ok hr3 rz⟩
    · exact fun z => z.elim
  · exact fun z => z.elim
def dinF (ng : Bool) (fk fo : Env → MH → Res Vl) : Env → MH → Res Vl := fun σ h => (fk σ h).bind fun y h1 => (fo σ h1).bind fun x h2 => (match dgetO x y h2 with
    | some r => .ok (.d (.bool (if ng = true then !r.isSome else r.isSome))) h2
    | none => .stuck)
theorem din_key {W : List Addr} {H : Hp} {μ : Mu} {mh : MH} {x y : Vl} {v u : V} {r : Option PyData} (hr : hR X W H μ mh) (rx : rV X W H μ x v) (ry : rV X W H μ y u) (h : dgetO x y mh = some r) : ∃ a p, v = .ref a ∧ DGet H a u p ∧ p.isSome = r.isSome := by
  obtain ⟨a, p, e1, g, fr⟩ := dgetO_ok hr rx ry h
  refine ⟨a, p, e1, g, ?_⟩
  cases r with
  | some r => obtain ⟨w, e2, _⟩ := fr; rw [e2]; rfl
  | none => have e2 : p = none := fr; rw [e2]; rfl
def dinT : Bool → TE → TE → TE
  | true, td, ty => tDNotIn ty td
  | false, td, ty => tDIn ty td
theorem din_imp (ng : Bool) {σ : L2.St} {H : Hp} {Q : VK} (h : tE X Wx (dinF ng fk fo) σ H Q) : dinT ng (tE X Wx fo) (tE X Wx fk) σ H Q := by
  cases ng with
  | false =>
    show tDIn (tE X Wx fk) (tE X Wx fo) σ H Q
    refine (Rg.bind (R := rV X) h).mono fun u H1 ⟨W, mσ, μ, y, μ1, mh1, st, hr, sr, ry, p⟩ => ?_
    refine ⟨W, μ1, mσ, mh1, hr, sr, (Post.bind (R := rV X W) hr sr p).mono fun v H2 ⟨x, μ2, mh2, st2, hr2, sr2, rx, p2⟩ => ?_⟩
    revert p2
    dsimp only
    split
    · rename_i r h1
      intro p2
      obtain ⟨a, q, e1, g, e2⟩ := din_key hr2 rx (st2.rv hr ry) h1
      exact ⟨a, q, e1, g, by rw [e2]; exact p2.ok hr2 (Dz.bl _)⟩
    · exact fun z => z.elim
  | true =>
    show tDNotIn (tE X Wx fk) (tE X Wx fo) σ H Q
    refine (Rg.bind (R := rV X) h).mono fun u H1 ⟨W, mσ, μ, y, μ1, mh1, st, hr, sr, ry, p⟩ => ?_
    refine ⟨W, μ1, mσ, mh1, hr, sr, (Post.bind (R := rV X W) hr sr p).mono fun v H2 ⟨x, μ2, mh2, st2, hr2, sr2, rx, p2⟩ => ?_⟩
    revert p2
    dsimp only
    split
    · rename_i r h1
      intro p2
      obtain ⟨a, q, e1, g, e2⟩ := din_key hr2 rx (st2.rv hr ry) h1
      exact ⟨a, q, e1, g, by rw [e2]; exact p2.ok hr2 (Dz.bl _)⟩
    · exact fun z => z.elim
theorem pc_ev_din (rm : Rm X) (ng : Bool) (ho : PE X o (tE X Wx fo)) (hk : PE X k (tE X Wx fk)) : PC X (if ng = true then CmpOp.NotIn else .In) k o (dinT ng (tE X Wx fo) (tE X Wx fk)) := by
  have un := rm.un
  cases ng with
  | false => exact (pc_din (by omega) hk ho : PC X .In k o (tDIn (tE X Wx fk) (tE X Wx fo)))
  | true => exact (pc_dnotin (by omega) hk ho : PC X .NotIn k o (tDNotIn (tE X Wx fk) (tE X Wx fo)))
theorem pe_ev_din (rm : Rm X) (ng : Bool) (hm : behindInMarks (if ng = true then CmpOp.NotIn else .In) o = false) (ho : PE X o (tE X Wx fo)) (hk : PE X k (tE X Wx fk)) : PE X (.Compare k [if ng = true then CmpOp.NotIn else .In] [o] pos) (tE X Wx (dinF ng fk fo)) :=
  pe_imp (pe_cmp (pc_ev_din rm ng ho hk) hm) fun σ H Q h => din_imp ng h
theorem pt_ev_din (rm : Rm X) (ng : Bool) (hm : behindInMarks (if ng = true then CmpOp.NotIn else .In) o = false) (ho : PE X o (tE X Wx fo)) (hk : PE X k (tE X Wx fk)) : PT X (.Compare k [if ng = true then CmpOp.NotIn else .In] [o] pos) (tT X Wx (tru (dinF ng fk fo))) :=
  pt_imp (pt_cmp (pc_ev_din rm ng ho hk) hm) fun σ H Q h => din_imp ng (tru_bool (fun σ h x h1 e => by
    obtain ⟨x1, h2, e1, e2⟩ := Res.bind_eq_ok e
    obtain ⟨x2, h3, e3, e4⟩ := Res.bind_eq_ok e2
    split at e4
    · cases e4; exact ⟨_, rfl⟩
    · cases e4) h)
end
end Ev

set_option Elab.async false
set_option linter.all false
set_option autoImplicit false
set_option maxRecDepth 100000
set_option maxHeartbeats 4000000
namespace Ev
open PySem PySem.W PySem.Spec PyProof.Rows L2
section
variable {prog : Program} {w : World} {A : Around} {E : Value → Shared → Prop} {s : Shared} {T : String} {r d : Addr} {n : Nat} {P : Nat → Value → Prop} {OK : Heap → Prop}
theorem collect_src {R : List Value → Shared → Prop} (KS : KdlSrc prog w T r d n P OK) (hh : A.handled = none) (hok : OK s.heap) (hn : n ≤ sizeLine)
    (hR : ∀ (h2 : Heap) (tk : Nat) (acc : Array Value), (∀ b o, s.heap.get? b = some o → h2.get? b = some o) → ItemsOf P acc n → R acc.toList { s with heap := h2, toks := tk }) :
    wpAny (model prog w) A (collect (.ref r)) R E s := by
  obtain ⟨lr, ld⟩ := KS.there _ hok
  unfold collect
  refine wpAny_bind (wpAny_runValue (codeAny_builtin entry_proto_collect' ?_))
  rw [Around.under_plainId PySem.F.plain_proto_collect _]
  show wpAny _ A.in1 (newList [] >>= fun q => again (.builtin "list.__iadd__" ⟨[q, .ref r], []⟩)) _ _ s
  refine wpAny_bind (wpAny_newObj_type ?_)
  refine wpAny_pure ⟨plainId_quiet PySem.F.plain_list_iadd _, codeAny_builtin entry_list_iadd' ?_⟩
  rw [Around.under_plainId PySem.F.plain_list_iadd _]
  have at0 : (s.heap.push { cls := .type "list", data := .seq ([] : List Value).toArray }).get? s.heap.objs.size = some { cls := .type "list", data := .seq #[] } := Heap.get?_push_size _ rfl
  show wpAny _ A.in1 (Builtin.List.listExtendWith (.ref s.heap.objs.size) (.ref r) (.ref s.heap.objs.size)) _ _ _
  have ext := kdl_extend (prog := prog) (w := w) (A := A) (s := { s with heap := s.heap.push { cls := .type "list", data := .seq ([] : List Value).toArray } }) (r := r) (d := d) (n := n) (P := P)
    (R := fun (q : Result) (s2 : Shared) => ∃ (h2 : Heap) (tk : Nat) (acc : Array Value) (c2 : Nat), q = .ok (.ret (.ref s.heap.objs.size)) ∧ s2 = { s with heap := h2, toks := tk } ∧
      (∀ b o, s.heap.get? b = some o → h2.get? b = some o) ∧ h2.get? s.heap.objs.size = some { cls := .type "list", dict := none, data := .seq acc c2, slots := #[] } ∧ ItemsOf P acc n)
    KS hh (KS.keep _ _ hok fun b _ o e => Heap.get?_push_of_some _ e) s.heap.objs.size (Nat.ne_of_gt lr) (Nat.ne_of_gt ld) (.ref s.heap.objs.size) 0 at0
    (fun h2 tk acc c2 hk hS hacc => ⟨h2, tk, acc, c2, rfl, rfl, fun b o e => hk b o (Nat.ne_of_lt (Heap.lt_size e)) (Heap.get?_push_of_some _ e), hS, hacc⟩) hn
  refine wpAny_mono ext (fun fin s2 x => ?_) fun e s2 x => ?_
  · cases fin with
    | done f =>
      obtain ⟨h2, tk, acc, c2, e, rfl, hk, hS, hacc⟩ := x
      cases e
      show wpAny _ A (load s.heap.objs.size >>= _) _ _ _
      refine wpAny_bind (wpAny_load hS ?_)
      exact wpAny_pure (hR h2 tk acc hk hacc)
    | again c1 =>
      refine ⟨x.1, codeAny_mono x.2 fun q s3 y => ?_⟩
      obtain ⟨h2, tk, acc, c2, rfl, rfl, hk, hS, hacc⟩ := y
      show wpAny _ A (load s.heap.objs.size >>= _) _ _ _
      refine wpAny_bind (wpAny_load hS ?_)
      exact wpAny_pure (hR h2 tk acc hk hacc)
  · obtain ⟨_, _, _, _, e', _⟩ := x
    cases e'
theorem sorted_src {us : List Value} {ds : List PyData} {Q : Value → Shared → Prop} (KS : KdlSrc prog w T r d n P OK) (hh : A.handled = none) (hok : OK s.heap) (hus : ∀ acc, ItemsOf P acc n → acc.toList = us)
    (er : EachIs (fun v d => ∃ as, Reads s.heap v d as) us ds) (hal : AllAlike ds) (hk : Sortable ds) (hL : ds.length ≤ sizeLine) (hn : n ≤ sizeLine) (hu : ∀ d, d ∈ ds → A.units + 2 + d.depth < cLine)
    (h : ∀ (h1 h2 : Heap) tk e out, (∀ b o', s.heap.get? b = some o' → h1.get? b = some o') → (∀ b o', h1.get? b = some o' → h2.get? b = some o') → h2.get? h1.objs.size = some (seqObj "list" out.toArray e) → out.length = ds.length → (∀ R : Value → PyData → Prop, EachIs R us ds → EachIs R out (ds.mergeSort (dataLe false id))) → Q (.ref h1.objs.size) { s with heap := h2, toks := tk }) :
    wpAny (model prog w) A (call (.builtin "sorted") [.ref r]) Q E s := by
  have hl : us.length = ds.length := er.length
  refine Calls.call_function_entry kind_sorted plain_sorted entry_sorted (args_sorted1 _) ?_
  unfold Builtin.«sorted»
  refine wpAny_bind (m := checkCount "sorted" 1 1 _) (wpAny_pure ?_)
  refine wpAny_bind (collect_src (A := A.in1) KS hh hok hn fun h' tk acc hk' hacc => ?_)
  rw [hus acc hacc]
  refine wpAny_bind (wpAny_newList ?_ (by rw [hl]; exact hL))
  have hat : (h'.push (seqObj "list" us.toArray 0)).get? h'.objs.size = some (seqObj "list" us.toArray 0) := Heap.get?_push_size _ rfl
  have old1 : ∀ b o', h'.get? b = some o' → (h'.push (seqObj "list" us.toArray 0)).get? b = some o' := fun b o' e => Heap.get?_push_of_some _ e
  have er' : EachIs (fun v d => ∃ as, Reads (sortingHeap (h'.push (seqObj "list" us.toArray 0)) h'.objs.size us) v d as) us ds := er.mono fun _ _ ⟨as, r⟩ =>
    ⟨as, PyProof.Rows.Reads.keeps (fun b o' e => sortingHeap_old (Nat.ne_of_lt (Heap.lt_size (hk' b o' e))) (old1 b o' (hk' b o' e))) r⟩
  refine wpAny_bind (wpAny_holding (wpAny_call_entry slot_list_sort ⟨_, hat, rfl⟩ entry_list_sort (list_sort_vals (κ := dataKind (sortingHeap (h'.push (seqObj "list" us.toArray 0)) h'.objs.size us) ds) (s := { s with heap := h'.push (seqObj "list" us.toArray 0), toks := tk }) hat
    (SortsAt.data (s := { s with heap := sortingHeap (h'.push (seqObj "list" us.toArray 0)) h'.objs.size us, toks := tk }) er' hal hk hu) (by rw [hl]; exact hL) ⟨_, rfl, wpAny_pure ⟨_, rfl, ?_⟩⟩) (args_list_sort _)))
  obtain ⟨e, he⟩ := sortedHeap_at (out := (sortVals (dataKind (sortingHeap (h'.push (seqObj "list" us.toArray 0)) h'.objs.size us) ds) false us us).toArray) hat
  refine h h' _ tk e (sortVals (dataKind (sortingHeap (h'.push (seqObj "list" us.toArray 0)) h'.objs.size us) ds) false us us) hk' (fun b o' q => ?_) he ?_ fun R eR => ?_
  · rw [sortedHeap_old (Nat.ne_of_lt (Heap.lt_size q)) (Heap.lt_size (old1 b o' q))]
    exact old1 b o' q
  · rw [sortVals_length false rfl]; exact hl
  · have z := sortVals_data (R := R) (enc := id) (bs := ds) (vs := us) (h' := sortingHeap (h'.push (seqObj "list" us.toArray 0)) h'.objs.size us) false eR er' (by rw [List.map_id]; exact hal)
    rw [List.map_id] at z
    exact z
end
section
variable {K : PySem.W.Frag} {H : Hp} {B : Addr → Prop}
theorem dzA_ofKeys : ∀ {ds : List PyData} {cs : List L2.Key}, keysK ds = some cs → DzA K H B (cs.map kV) ds
  | [], cs, e => by cases e; exact .nil
  | d :: ds, cs, e => by
    unfold keysK at e
    split at e
    · rename_i k ks e1 e2
      cases e
      refine .cons ?_ (dzA_ofKeys e2)
      cases d with
      | int i => cases e1; exact .int i
      | str x => cases e1; exact .str x
      | _ => cases e1
    · cases e
theorem dz_ofKeyT {d : PyData} {cs : List L2.Key} {b : Addr} (e : keyT d = some cs) (hb : H b = some (.tup (cs.map kV))) : Dz K H B (.ref b) d := by
  obtain ⟨_, xs, rfl, e9⟩ := keyT_some e
  exact .tup hb (dzA_ofKeys e9)
theorem dzA_keys : ∀ {kvs : List (PyData × PyData)} {ks : List (List L2.Key × V)} {xs : List (List L2.Key × Addr × Value)}, Paired (fun (p : PyData × PyData) (q : List L2.Key × V) => keyT p.1 = some q.1 ∧ Dz K H B q.2 p.2) kvs ks →
    Paired (fun (p : List L2.Key × V) (q : List L2.Key × Addr × Value) => p.1 = q.1 ∧ H q.2.1 = some (.tup (p.1.map kV)) ∧ RelV p.2 q.2.2) ks xs → DzA K H B ((xs.map fun x => x.2.1).map V.ref) (kvs.map (·.1))
  | _, _, _, .nil, .nil => .nil
  | _, _, _, .cons r t, .cons r' t' => .cons (dz_ofKeyT r.1 r'.2.1) (dzA_keys t t')
end
def b_dsort (mk : Bool) : List Vl → MH → Res Vl
  | [x], h => dsortV false mk x h
  | _, _ => .stuck
section
variable {X : Cx} {Wx : WX}
theorem cr_dsort (mk : Bool) (rm : Rm X) (hc : X.calm = true) : CallR X (.builtin "sorted") (rOfL X (b_dsort mk)) := by
  intro pins s σ H vs us Q I r h
  obtain ⟨W, μ, mh, xs, z, mh', hr, ra, e, q⟩ := h
  unfold b_dsort at e
  split at e
  · rename_i x
    obtain ⟨v, rfl, rv⟩ := rvs1 ra
    unfold dsortV at e
    split at e
    · rename_i ds hd
      split at e
      · rename_i hc'
        rw [Bool.and_eq_true, Bool.and_eq_true, decide_eq_true_eq] at hc'
        obtain ⟨⟨c1, c2⟩, c3⟩ := hc'
        obtain ⟨hal, hso⟩ := sortableB_ok c1
        have un := rm.un
        have hu : ∀ d, d ∈ ds → X.A.units + 2 + d.depth < cLine := fun d hm => by
          have := okN_tuple c2
          rw [List.all_eq_true] at this
          have := (okN_plain d 39 (this d hm)).2
          omega
        unfold dkeys at hd
        split at hd
        · split at hd
          · rename_i i h0 kvs hx
            cases hd
            obtain ⟨a, e1, e2, e3⟩ := RV.dct hr rv hx
            subst e1
            rcases e3 with ⟨ht, ks, k1, k2⟩ | ⟨ht, ks, k1, k2⟩
            · cases ht
            obtain ⟨z1, hs, xs', pr, o, es, ep, ho, hex, hdt, he, hnd⟩ := (show ObjOk X.prog X.w H s.heap a (.dT ks) from I.hok _ _ k1)
            have l1 : es.size = xs'.length := size_of_entries he
            have l2 : ks.length = xs'.length := Paired.length pr
            have l3 : kvs.length = ks.length := Paired.length k2
            have dz := dzA_keys (B := Mo μ W) k2 pr
            have rv2 : Vals ((xs'.map fun x => x.2.1).map V.ref) ((xs'.map fun x => x.2.1).map Value.ref) := vals_refs _
            rw [Vals.ref1 r]
            refine sorted_src (us := (xs'.map fun x => x.2.1).map Value.ref) (kdl_raw hs hex hdt) (I.ok.hd hc) ho (fun acc it => ?_) (dz_each I (okN_tuple c2) dz rv2) hal hso (by rw [← szLine]; exact c3) (by omega) hu fun h1 h2 tk ep out q1 q2 q3 q4 q5 => ?_
            · apply List.ext_getElem?
              intro j
              rw [List.getElem?_map, List.getElem?_map]
              cases hj : acc.toList[j]? with
              | none =>
                have g1 := List.getElem?_eq_none_iff.mp hj
                rw [Array.length_toList, it.1] at g1
                rw [List.getElem?_eq_none (by omega)]
                rfl
              | some v =>
                obtain ⟨en, hen, hv⟩ := it.2 j v (by rw [← Array.getElem?_toList]; exact hj)
                have qe := entry_at he j
                rw [hen] at qe
                cases hb : xs'[j]? with
                | none => rw [hb] at qe; exact nomatch (show some en = none from qe)
                | some b =>
                  rw [hb] at qe
                  have g2 : en = entryOfKey (tupleKind (mixKind X.prog X.w)) b := Option.some.inj qe
                  rw [hv, g2]; rfl
            · obtain ⟨vs', r1, r2⟩ := each_dz (q5 _ (dz_eachV dz rv2))
              have I1 : Inv X pins σ H { s with heap := h1, toks := tk } := I.kept (t' := tk) q1
              have hp : H h1.objs.size = none := I1.hok.fresh (Nat.le_refl _)
              have ln : vs'.length ≤ sizeLine := by rw [r1.length, q4, ← szLine]; exact c3
              refine ⟨.ref _, upd H h1.objs.size (.lst vs'), I1.laid (t' := tk) (h' := h2) q2 (Nat.le_refl _) ⟨ln, out, ep, r1, q3⟩, rfl, ?_⟩
              exact new_mkl hr hp (rvs_dz r2) e q
          · cases hd
        · cases hd
      · cases e
    · cases e
  · cases e
theorem pe_ev_dsort {mk : Bool} {o : Expr} {p pos : Pos} {fo : Env → MH → Res Vl} (rm : Rm X) (hc : X.calm = true) (hg : Gl X "sorted") (hm : X.mg "sorted" = none) (hp : plain o = true) (ho : PE X o (tE X Wx fo)) :
    PE X (.Call (.Name "sorted" p) [o] [] pos) (tE X Wx fun σ h => (fo σ h).bind fun x h1 => (dsortV false mk x h1).calm) := by
  obtain ⟨hb, hn, hd⟩ := biN_boot (b := .sorted) (x := "sorted") (ty := false) (id := "sorted") rfl
  have ha : PA X [o] (tA X Wx fun σ h => (fo σ h).bind fun x h1 => (Res.ok [] h1).bind fun xs h2 => .ok (x :: xs) h2) := pa_ev_cons hp ho pa_ev_nil
  refine pe_imp (pe_callB (cr_dsort mk rm hc) hg hm hb ha hn hd (star_cons hp) (back_any (es := []) rfl)) fun σ H Q h => ?_
  have h' : tE X Wx (fun σ h => ((fo σ h).bind fun x h1 => (Res.ok [] h1).bind fun xs h2 => .ok (x :: xs) h2).bind fun xs h1 => (b_dsort mk xs h1).calm) σ H Q := by
    have e : (fun σ h => (fo σ h).bind fun x h1 => (dsortV false mk x h1).calm) = (fun σ h => ((fo σ h).bind fun x h1 => (Res.ok [] h1).bind fun xs h2 => .ok (x :: xs) h2).bind fun xs h1 => (b_dsort mk xs h1).calm) := by
      funext σ h
      cases fo σ h <;> rfl
    rw [← e]
    exact h
  exact Rg.one (R := rVs X) h' fun v H1 W mσ μ xs mh hr sr rx q => by
    obtain ⟨z, mhz, e, fin⟩ := Post.calm q
    exact ⟨W, μ, mh, xs, z, mhz, hr, rx, e, fin⟩
end
end Ev

set_option Elab.async false
set_option linter.all false
set_option autoImplicit false
set_option maxRecDepth 100000
set_option maxHeartbeats 4000000
namespace Ev
open PySem PySem.Spec PyProof.Rows L2
/-! ### t[::-1] -/
section
variable {prog : Program} {w : World} {A : Around} {E : Value → Shared → Prop} {s : Shared}
theorem adjust_rev (n : Nat) : Builtin.Slice.sliceAdjust none none (-1) (n : Int) = ((n : Int) - 1, -1) := by
  unfold Builtin.Slice.sliceAdjust
  rfl
theorem places_rev (n : Nat) : Builtin.Slice.slicePlaces ((n : Int) - 1) (-1) (-1) = n := by
  unfold Builtin.Slice.slicePlaces
  have h1 : ¬ ((-1 : Int) > 0) := by omega
  rw [if_neg h1]
  by_cases h : (n : Int) - 1 > -1
  · rw [if_pos h, show (- -1 : Int) = 1 by decide, Int.ediv_one]
    omega
  · rw [if_neg h]
    omega
theorem pick_rev (xs : Array Value) : ((List.range xs.size).filterMap fun (k : Nat) => xs[((xs.size : Int) - 1 + (k : Int) * -1).toNat]?).toArray = xs.toList.reverse.toArray := by
  have e : (fun (k : Nat) => xs[((xs.size : Int) - 1 + (k : Int) * -1).toNat]?) = (fun j => xs[j]?) ∘ fun k => xs.size - 1 - k := by
    funext k
    have : ((xs.size : Int) - 1 + (k : Int) * -1).toNat = xs.size - 1 - k := by omega
    show _ = xs[xs.size - 1 - k]?
    rw [this]
  rw [e, ← List.filterMap_map, PySem.W.krv_range, List.filterMap_reverse]
  have := PySem.W.krv_all xs
  rw [this]
theorem sliceApplied_rev {sl : Addr} {vl vu vs : Value} {n : Nat} {Q : Int × Int × Nat → Shared → Prop} (hs : s.heap.IsSliceOf sl vl vu vs) (pl : IsPart vl none) (pu : IsPart vu none) (ps : IsPart vs (some (-1)))
    (h : Q ((n : Int) - 1, -1, n) s) : wpAny (model prog w) A (Builtin.Slice.sliceApplied (.ref sl) (pure (n : Int))) Q E s := by
  obtain ⟨os, hos, hcs, hds⟩ := id hs
  unfold Builtin.Slice.sliceApplied Builtin.Slice.sliceFields
  refine wpAny_bind (wpAny_bind (wpAny_field hos hds (x := vl) rfl (wpAny_bind (wpAny_field hos hds (x := vu) rfl (wpAny_bind (wpAny_field hos hds (x := vs) rfl (wpAny_pure ?_)))))))
  refine wpAny_bind (HT.slicePart_ ps ?_)
  show wpAny _ _ (if ((-1 : Int) == 0) = true then _ else _) _ _ s
  rw [if_neg (by decide)]
  refine wpAny_bind (HT.slicePart_ pl (wpAny_bind (HT.slicePart_ pu (wpAny_bind (wpAny_pure ?_)))))
  show wpAny _ _ (match Builtin.Slice.sliceAdjust none none (-1) (n : Int) with | (lo, hi) => pure (lo, (-1 : Int), Builtin.Slice.slicePlaces lo hi (-1))) _ _ s
  rw [adjust_rev n]
  show wpAny _ _ (pure ((n : Int) - 1, (-1 : Int), Builtin.Slice.slicePlaces ((n : Int) - 1) (-1) (-1))) _ _ s
  rw [places_rev]
  exact wpAny_pure h
theorem getItem_tuple_rev {t sl : Addr} {items : Array Value} {vl vu vs : Value} {Q : Value → Shared → Prop} (ht : IsTup s.heap t items) (hs : s.heap.IsSliceOf sl vl vu vs) (pl : IsPart vl none) (pu : IsPart vu none) (ps : IsPart vs (some (-1)))
    (h : Q (.ref s.heap.objs.size) { s with heap := s.heap.push { cls := .type "tuple", data := .seq items.toList.reverse.toArray } })
    (hsz : items.size ≤ sizeLine) : wpAny (model prog w) A (getItem (.ref t) (.ref sl)) Q E s := by
  have htake : sizeOk (.seq items.toList.reverse.toArray) := by
    show items.toList.reverse.toArray.size ≤ sizeLine
    rw [List.size_toArray, List.length_reverse, Array.length_toList]
    exact hsz
  obtain ⟨os, hos, hcs, hds⟩ := id hs
  have hTs : s.TypeIs (.ref sl) "slice" := ⟨os, hos, hcs⟩
  unfold getItem
  try with_reducible refine wpAny_holding ?_
  first | refine wpAny_bind (wpAny_pure ?_) | skip
  refine wpAny_bind (wpAny_sequenceKey ht.typeIs (by decide) ?_)
  refine wpAny_bind (wpAny_callSpecial?_slot (name := Str.ofString "__getitem__") ht.typeIs PyProof.Rows.slot_tuple_getitem
    (wpAny_call_entry PyProof.Rows.slot_tuple_getitem ht.typeIs entry_tuple_getitem ?_ (args_tuple_getitem _ _)))
  show wpAny _ _ (Builtin.Tuple.tupleItemsOf (.ref t) >>= _) _ _ s
  refine wpAny_bind (tupleItemsOf_ ht ?_)
  refine wpAny_bind (wpAny_typeOf hTs ?_)
  rw [if_pos (by decide)]
  refine wpAny_bind (sliceApplied_rev hs pl pu ps ?_)
  show wpAny _ _ (if (((items.size : Int) - 1) == 0 && (-1 : Int) == 1 && items.size == items.size) = true then _ else _) _ _ s
  rw [if_neg (by rw [show ((-1 : Int) == 1) = false from rfl, Bool.and_false, Bool.false_and]; exact Bool.false_ne_true), pick_rev]
  first
    | exact wpAny_bind (m := Builtin.Tuple.tupleExact _) (wpAny_newObj_type (wpAny_pure ⟨_, rfl, wpAny_pure h⟩) htake)
    | exact wpAny_bind (m := Builtin.Tuple.tupleExact _) (wpAny_newObj_type (wpAny_bind (wpAny_pure (wpAny_pure ⟨_, rfl, wpAny_pure h⟩))) htake)
    | exact wpAny_bind (wpAny_bind (m := Builtin.Tuple.tupleExact _) (wpAny_newObj_type (wpAny_pure (wpAny_pure ⟨_, rfl, wpAny_pure h⟩)) htake))
    | exact wpAny_bind (wpAny_bind (m := Builtin.Tuple.tupleExact _) (wpAny_newObj_type (wpAny_pure ⟨_, rfl, wpAny_pure h⟩) htake))
end
def tRevT (K : PySem.W.Frag) (te : TE) : TE := fun σ H Q => te σ H fun x H1 => (∃ a xs, x = .ref a ∧ SqT K H1 a xs ∧ ∀ p, H1 p = none → Q (.ref p) (upd H1 p (.tup xs.reverse))) ∨ (∃ a xs, x = .ref a ∧ SqL K H1 a xs ∧ ∀ p, H1 p = none → Q (.ref p) (upd H1 p (.lst xs.reverse)))
section
variable {X : Cx} {Wx : WX}
theorem pe_revT {e : Expr} {te : TE} {k : Nat} {p1 p2 p3 pos : Pos} (he : PE X e te) : PE X (.Subscript e (.Slice none none (some (.UnaryOp .USub (.Constant (.int 1) k p1) p2)) p3) pos) (tRevT X.K te) := by
  refine ⟨fun pins s σ H Q I h => ?_⟩
  refine Subscript_ (thn (he.run pins s σ H _ I h) fun v s1 ⟨x, H1, I1, r1, q1⟩ => ?_)
  rcases q1 with q1 | q1
  · obtain ⟨a, xs, ex, hx, q⟩ := q1
    subst ex
    cases r1
    have hst : PO X (some (.UnaryOp .USub (.Constant (.int 1) k p1) p2)) (tPart (tUn (rU fun i => .int (-i)) (tC (.int 1)))) := po_some (pe_un un_neg pe_int)
    refine wpAny_Slice (thn (po_none.run pins s1 σ H1 (fun o H2 => o = none ∧ H2 = H1) I1 ⟨rfl, rfl⟩) fun vl s2 ⟨l, H2, I2, pl, el, e2⟩ => ?_)
    subst el e2
    refine thn (po_none.run pins s2 σ H2 (fun o H3 => o = none ∧ H3 = H2) I2 ⟨rfl, rfl⟩) fun vu s3 ⟨u, H3, I3, pu, eu, e3⟩ => ?_
    subst eu e3
    refine thn (hst.run pins s3 σ H3 (fun o H4 => o = some (-1) ∧ H4 = H3) I3 ⟨1, rfl, -1, rfl, rfl, rfl⟩) fun vs s4 ⟨o, H4, I4, ps, eo, e4⟩ => ?_
    subst eo e4
    have I5 : Inv X pins σ H4 { s4 with heap := s4.heap.push { cls := .type "slice", data := .fields #[vl, vu, vs] } } := I4.kept (t' := s4.toks) fun b ob q => Heap.get?_push_of_some _ q
    obtain ⟨its, r, ht, hz⟩ := I5.tuple hx
    have hlen := r.length
    show wpAny (model X.prog X.w) X.A (subscriptTail e (.Slice none none (some (.UnaryOp .USub (.Constant (.int 1) k p1) p2)) p3) (.ref a) (.ref s4.heap.objs.size)) (EP X pins σ Q) X.xe { s4 with heap := s4.heap.push { cls := .type "slice", data := .fields #[vl, vu, vs] } }
    refine tail_any (ops := [.ref a, .ref s4.heap.objs.size]) ht.typeIs (PyProof.Rows.slot_tuple_getitem.lookup) ?_ (by with_unfolding_all rfl)
    refine getItem_tuple_rev ht (Heap.IsSliceOf.new _ vl vu vs) pl pu ps ?_ (by rw [List.size_toArray]; omega)
    refine ⟨.ref _, _, I5.laid (t' := s4.toks) (o := .tup xs.reverse) (fun b ob q => Heap.get?_push_of_some _ q) (Nat.le_refl _) ?_, rfl, q _ (I5.hok.fresh (Nat.le_refl _))⟩
    exact ⟨by rw [List.length_reverse]; exact hz, _, r.reverse, IsTup.new _ _⟩
  · obtain ⟨a, xs, ex, hx, q⟩ := q1
    subst ex
    cases r1
    have hst : PO X (some (.UnaryOp .USub (.Constant (.int 1) k p1) p2)) (tPart (tUn (rU fun i => .int (-i)) (tC (.int 1)))) := po_some (pe_un un_neg pe_int)
    refine wpAny_Slice (thn (po_none.run pins s1 σ H1 (fun o H2 => o = none ∧ H2 = H1) I1 ⟨rfl, rfl⟩) fun vl s2 ⟨l, H2, I2, pl, el, e2⟩ => ?_)
    subst el e2
    refine thn (po_none.run pins s2 σ H2 (fun o H3 => o = none ∧ H3 = H2) I2 ⟨rfl, rfl⟩) fun vu s3 ⟨u, H3, I3, pu, eu, e3⟩ => ?_
    subst eu e3
    refine thn (hst.run pins s3 σ H3 (fun o H4 => o = some (-1) ∧ H4 = H3) I3 ⟨1, rfl, -1, rfl, rfl, rfl⟩) fun vs s4 ⟨o, H4, I4, ps, eo, e4⟩ => ?_
    subst eo e4
    have I5 : Inv X pins σ H4 { s4 with heap := s4.heap.push { cls := .type "slice", data := .fields #[vl, vu, vs] } } := I4.kept (t' := s4.toks) fun b ob q => Heap.get?_push_of_some _ q
    obtain ⟨its, r, ht, hz⟩ := I5.list hx
    have hlen := r.length
    show wpAny (model X.prog X.w) X.A (subscriptTail e (.Slice none none (some (.UnaryOp .USub (.Constant (.int 1) k p1) p2)) p3) (.ref a) (.ref s4.heap.objs.size)) (EP X pins σ Q) X.xe { s4 with heap := s4.heap.push { cls := .type "slice", data := .fields #[vl, vu, vs] } }
    refine tail_any (ops := [.ref a, .ref s4.heap.objs.size]) ht.isList.typeIs (PySem.slot_list_getitem.lookup) ?_ (by with_unfolding_all rfl)
    refine wpAny_getItem_list_slice ht.isList (Heap.IsSliceOf.new _ vl vu vs) pl pu ps (by decide) ?_ (by rw [List.size_toArray]; omega)
    rw [PySem.W.krv_pick]
    refine ⟨.ref _, _, I5.laid (t' := s4.toks) (o := .lst xs.reverse) (fun b ob q => Heap.get?_push_of_some _ q) (Nat.le_refl _) ?_, rfl, q _ (I5.hok.fresh (Nat.le_refl _))⟩
    exact ⟨by rw [List.length_reverse]; exact hz, _, 0, r.reverse, Heap.get?_push_size _ rfl⟩
theorem dzA_snoc {K : PySem.W.Frag} {H : Hp} {B : Addr → Prop} {vs : List V} {ds : List PyData} {v : V} {d : PyData} (h : DzA K H B vs ds) (r : Dz K H B v d) : DzA K H B (vs ++ [v]) (ds ++ [d]) := DzA.app h (.cons r .nil)
theorem dzA_rev {K : PySem.W.Frag} {H : Hp} {B : Addr → Prop} : ∀ {ds : List PyData} {vs : List V}, DzA K H B vs ds → DzA K H B vs.reverse ds.reverse
  | [], _, h => by cases h; exact .nil
  | d :: ds, _, h => by
    cases h with
    | cons r t =>
      rw [List.reverse_cons, List.reverse_cons]
      exact dzA_snoc (dzA_rev t) r
theorem pe_ev_rev {e : Expr} {fe : Env → MH → Res Vl} {k : Nat} {p1 p2 p3 pos : Pos} (he : PE X e (tE X Wx fe)) : PE X (.Subscript e (.Slice none none (some (.UnaryOp .USub (.Constant (.int 1) k p1) p2)) p3) pos) (tE X Wx fun σ h => (fe σ h).bind fun x h1 => (revV x h1).calm) := by
  refine pe_imp (pe_revT he) fun σ H Q h => Rg.one (R := rV X) h fun v H1 W mσ μ x mh hr sr rx p => ?_
  obtain ⟨z, mhz, e, fin⟩ := Post.calm p
  unfold revV at e
  split at e
  · rename_i ds
    cases e
    cases rx with
    | tupA a c =>
      refine .inl ⟨_, _, rfl, tsq a, fun q hq => ?_⟩
      obtain ⟨st, hr'⟩ := HR.fresh (o := .tup _) hr hq
      exact fin _ _ _ st hr' (.tup upd_same (st.dzA hr (dzA_rev c)))
  · rename_i ds
    cases e
    cases rx with
    | lst a nb c =>
      refine .inr ⟨_, _, rfl, SqL.of a, fun q hq => ?_⟩
      obtain ⟨st, hr'⟩ := HR.fresh (o := .lst _) hr hq
      exact fin _ _ _ st hr' (.lst upd_same (fun z => z.elim (fun z => hr.notin hq z) fun z => (hr.w q z).1 hq) (st.dzA hr (dzA_rev c)))
  · cases e
/-! ### {k: v} -/
theorem RV.holeM {K : PySem.W.Frag} {mg : Str → Option Value} {W : List Addr} {H : Hp} {μ : Mu} {D : Addr} {o : HO} {x : Vl} {v : V} (hD : H D = some o) (hm : MutO o) (h : RV K mg (D :: W) H μ x v) : RV K mg W (Ev.hole H D) μ x v := by
  have nm : ∀ a, ¬ Mo μ (D :: W) a → a ≠ D ∧ ¬ Mo μ W a := fun a b => ⟨fun e => b (.inr (by rw [e]; exact List.mem_cons_self)), fun z => b (z.imp id (List.mem_cons_of_mem _))⟩
  have rd : ∀ a xs, Rd H a (.lst xs) → a ≠ D → Rd (Ev.hole H D) a (.lst xs) := fun a xs h ne => by
    rcases h with h | ⟨u, h⟩
    · exact .inl (by rw [hole_ne ne]; exact h)
    · exact .inr ⟨u, by rw [hole_ne ne]; exact h⟩
  have nt : ∀ a xs, H a = some (.tup xs) → a ≠ D := fun a xs q e => by
    rw [e, hD] at q
    cases q
    exact hm.elim
  cases x with
  | d x =>
    refine Dz.mono (fun a xs _ e b => ?_) (fun a xs q => ?_) _ _ h
    · obtain ⟨n1, n2⟩ := nm a b
      exact ⟨by rw [hole_ne n1]; exact e, n2⟩
    · rw [hole_ne (nt _ _ q)]; exact q
  | r i => exact h
  | g x => exact h
  | x a => exact h
  | sc ns =>
    obtain ⟨a, e, hs, hz⟩ := h
    exact ⟨a, e, hs.imp (fun q => ⟨rd _ _ q.1 (nm a q.2).1, (nm a q.2).2⟩) id, hz⟩
theorem HR.holeM {K : PySem.W.Frag} {mg : Str → Option Value} {W : List Addr} {H : Hp} {μ : Mu} {mh : MH} {D : Addr} {o : HO} (hr : HR K mg (D :: W) H μ mh) (hD : H D = some o) (hm : MutO o) (hW : D ∉ W) : HR K mg W (Ev.hole H D) μ mh := by
  have dn := (hr.w D List.mem_cons_self).2
  refine ⟨hr.len, hr.nd, hr.dead, fun i xs h => ?_, fun i t kvs h => ?_, fun a ha => ?_, fun x hx c P e => tabs_but hD hm (fun b hb => hole_ne hb) (hr.tab x hx c P e)⟩
  · obtain ⟨b, a, vs, e1, e2, e3⟩ := hr.lst i xs h
    refine ⟨b, a, vs, e1, ?_, Paired.mapP e3 fun _ _ r => RV.holeM hD hm r⟩
    rw [hole_ne (fun z => dn (by rw [← z]; exact List.mem_of_getElem? e1))]; exact e2
  · obtain ⟨a, e1, e2⟩ := hr.dct i t kvs h
    exact ⟨a, e1, e2.mono (fun ob e => by rw [hole_ne (fun z => dn (by rw [← z]; exact List.mem_of_getElem? e1))]; exact e) fun v d r => RV.holeM (mg := mg) (x := .d d) hD hm r⟩
  · have q := hr.w a (List.mem_cons_of_mem _ ha)
    exact ⟨by rw [hole_ne (fun z => hW (by rw [← z]; exact ha))]; exact q.1, q.2⟩
theorem HR.less {K : PySem.W.Frag} {mg : Str → Option Value} {W W' : List Addr} {H : Hp} {μ : Mu} {mh : MH} (hr : HR K mg W H μ mh) (hw : ∀ a, a ∈ W' → a ∈ W) : HR K mg W' H μ mh := by
  refine ⟨hr.len, hr.nd, hr.dead, fun i xs h => ?_, fun i t kvs h => ?_, fun a ha => hr.w a (hw a ha), hr.tab⟩
  · obtain ⟨b, a, vs, e1, e2, e3⟩ := hr.lst i xs h
    exact ⟨b, a, vs, e1, e2, Paired.mapP e3 fun _ _ r => RV.wid (fun a ha => .inl (hw a ha)) r⟩
  · obtain ⟨a, e1, e2⟩ := hr.dct i t kvs h
    exact ⟨a, e1, e2.mono (fun ob e => e) fun v d r => Dz.wid (fun a ha => .inl (hw a ha)) r⟩
theorem pe_ev_ddat {e : Expr} {fe : Env → MH → Res Vl} {k : Int} {j : Nat} {p1 pos : Pos} (he : PE X e (tE X Wx fe)) : PE X (.Dict [some (.Constant (.int k) j p1)] [e] pos) (tE X Wx fun σ h => (fe σ h).bind fun x h1 => (ddatV k x h1).calm) := by
  refine pe_imp (pe_disp (pps_cons (pe_int (i := k)) he pps_nil) rfl rfl (by simp) (by simp)) fun σ H Q h => ?_
  intro D hD
  obtain ⟨W, μ, mσ, mh, hr, sr, p⟩ := h
  have hDW : D ∉ W := hr.notw hD
  show tE X Wx fe σ (upd H D (.dK [])) fun y H2 => H2 D = some (.dK []) ∧ ∃ kvs : List (L2.Key × V), [(V.int k, y)] = kvs.map (fun kv => (kV kv.1, kv.2)) ∧ kvs.length ≤ 15 ∧ Q (.ref D) (upd H2 D (.dK (mergeK [] kvs)))
  have hr0 : hR X (D :: W) (upd H D (.dK [])) μ mh := HR.lay hr hD
  refine ⟨D :: W, μ, mσ, mh, hr0, ⟨sr.len, fun i x e => let ⟨v, e', r⟩ := sr.at_ i x e; ⟨v, e', RV.lay hr hD r⟩⟩, ?_⟩
  have st0 : Stp H μ (upd H D (.dK [])) μ := (HR.fresh (o := .dK []) hr hD).1
  revert p
  dsimp only
  cases fe mσ mh with
  | ok x mh1 =>
    intro p
    obtain ⟨z, mhz, e, fin⟩ := Post.calm (res := ddatV k x mh1) p
    unfold ddatV at e
    split at e
    · rename_i d
      cases e
      intro y H2 μ2 st2 hr2 ry
      have hD2 : H2 D = some (.dK []) := st2.keep D _ upd_same (hr0.w D List.mem_cons_self).2 (fun _ z => nomatch z)
      refine ⟨hD2, [(.inl k, y)], rfl, by simp, ?_⟩
      have h1 := HR.holeM hr2 hD2 trivial hDW
      have h2 := RV.holeM (x := .d d) hD2 (o := .dK []) trivial ry
      obtain ⟨h3, h4⟩ := HR.fresh (o := .dK [(.inl k, y)]) h1 hole_same
      rw [upd_hole] at h3 h4
      have st : Stp H μ (upd H2 D (.dK [(.inl k, y)])) μ2 := (st0.trans st2).mine hD hD2 trivial
      refine fin _ _ μ2 st h4 (Dz.dct upd_same (fun z => ?_) (DzK.cons rfl (h3.dz h1 h2) DzK.nil))
      rcases z with z | z
      · exact (hr2.w D List.mem_cons_self).2 z
      · exact hDW z
    · cases e
  | exc c xs mh1 =>
    intro p u d H' μ' st1 hr1 ex
    exact p u d H' μ' (st0.trans st1) (hr1.less fun a ha => List.mem_cons_of_mem _ ha) ex
  | stuck => exact fun p => p
/-! ### [d[k] for k in d] -/
theorem valV_at {ks : List (List L2.Key × V)} (nd : (ks.map (·.1)).Nodup) {i : Nat} {k : List L2.Key} {v : V} (h : ks[i]? = some (k, v)) : valV ks k = some v := by
  induction ks generalizing i with
  | nil => simp at h
  | cons p r ih =>
    rw [List.map_cons, List.nodup_cons] at nd
    cases i with
    | zero =>
      have e : p = (k, v) := by simpa using h
      subst e
      exact valV_pos rfl
    | succ i =>
      have h' : r[i]? = some (k, v) := by simpa using h
      have hm : k ∈ r.map (·.1) := List.mem_map.mpr ⟨(k, v), List.mem_of_getElem? h', rfl⟩
      rw [valV_neg (fun z => nd.1 (z ▸ hm))]
      exact ih nd.2 h'
theorem keys_same {H : Hp} : ∀ {ks : List (List L2.Key × V)} {xs : List (List L2.Key × Addr × Value)}, Paired (fun (p : List L2.Key × V) (q : List L2.Key × Addr × Value) => p.1 = q.1 ∧ H q.2.1 = some (.tup (p.1.map kV)) ∧ L2.RelV p.2 q.2.2) ks xs → ks.map (·.1) = xs.map (·.1)
  | _, _, .nil => rfl
  | _, _, .cons r t => by rw [List.map_cons, List.map_cons, r.1, keys_same t]
theorem rvals_of {W : List Addr} {H : Hp} {μ : Mu} : ∀ {kvs : List (PyData × PyData)} {ks : List (List L2.Key × V)}, Paired (fun (p : PyData × PyData) (q : List L2.Key × V) => keyT p.1 = some q.1 ∧ Dz X.K H (Mo μ W) q.2 p.2) kvs ks → rVs X W H μ ((kvs.map (·.2)).map .d) (ks.map (·.2))
  | _, _, .nil => .nil
  | _, _, .cons r t => .cons r.2 (rvals_of t)
theorem pe_ev_dvals {i j : Nat} {x y : Str} {p1 p2 p3 p4 p5 pos : Pos} {scope : Scope} {own : List (Str × Nat)} (hc : X.calm = true) (hN : X.N.Nodup) (hij : i ≠ j) (hj : X.N[j]? = some y) (hown : own.map (·.2) = [j]) (ok : BlkOk X.N X.env.scope scope own)
    (hx : PE X (.Name x p5) (tVar i)) (hg : ∀ (s : Shared) (H : Hp) (C : Addr) (cl : List (Str × Addr)) (fp : List Addr), PG (X.blk s H scope (compEnvC scope cl C X.env) fp) (.Name y p4) (gName j))
    (he : ∀ (s : Shared) (H : Hp) (C : Addr) (cl : List (Str × Addr)) (fp : List Addr), PE (X.blk s H scope (compEnvC scope cl C X.env) fp) (.Subscript (.Name x p1) (.Name y p2) p3) (tDGet (tVar i) (tVar j))) :
    PE X (.ListComp (.Subscript (.Name x p1) (.Name y p2) p3) [⟨.Name y p4, .Name x p5, [], 0⟩] scope pos) (tE X Wx (dvalsF i)) := by
  refine ⟨fun pins s σ H Q I h => ?_⟩
  obtain ⟨W, μ, mσ, mh, hr, sr, p⟩ := h
  revert p
  unfold dvalsF
  split
  · rename_i v ev
    intro p
    obtain ⟨z, mhz, e, fin⟩ := Post.calm p
    obtain ⟨u, eu, ru⟩ := sr.at_ i v ev
    unfold dvalsV at e
    split at e
    · rename_i n
      split at e
      · rename_i kvs hk
        split at e
        · rename_i hz
          obtain ⟨a, e1, e2, e3⟩ := RV.dct hr ru hk
          subst e1
          rcases e3 with ⟨z0, _⟩ | ⟨_, ks, k1, k2⟩
          · cases z0
          have ob : ObjOk X.prog X.w H s.heap a (.dT ks) := I.hok _ _ k1
          obtain ⟨z1, hs, xs', pr, _, _, _, _, _, _, _, hnd⟩ := ob
          have nd : (ks.map (·.1)).Nodup := by
            have e : ks.map (·.1) = xs'.map (·.1) := keys_same pr
            rw [e]; exact hnd
          have ln : ks.length ≤ sz := by rw [← Paired.length k2]; exact hz
          refine (pe_lock (pe_lc hc hN (pi_keys hx) ok hg (fun _ _ _ _ _ => pts_nil) he (fold_plain rfl))).run pins s σ H Q I ?_
          refine ⟨a, .dT ks, k1, trivial, fun od => ?_⟩
          rw [hown]
          refine ⟨_, eu, a, od, rfl, .inr ⟨ks, upd_same, fun D hD => ?_⟩⟩
          have hDa : D ≠ a := fun z => by rw [z, upd_same] at hD; cases hD
          have hD0 : H D = none := by rw [upd_ne hDa] at hD; exact hD
          refine ⟨fun i m H1 => m = ks.length - i ∧ i ≤ ks.length ∧ H1 = upd (upd H a (.frz od (.dT ks))) D (.lst ((ks.take i).map (·.2))), ⟨ks.length, rfl, Nat.zero_le _, rfl⟩, ?_⟩
          rintro i1 m H1 ⟨rfl, hi1, rfl⟩
          have ha1 : ∀ l, (upd (upd H a (.frz od (.dT ks))) D (.lst l)) a = some (.frz od (.dT ks)) := fun l => by rw [upd_ne (Ne.symm hDa), upd_same]
          by_cases hl : i1 < ks.length
          · refine .inr ⟨⟨ha1 _, hl⟩, fun H' => ∃ m', m' < ks.length - i1 ∧ m' = ks.length - (i1 + 1) ∧ i1 + 1 ≤ ks.length ∧ H' = upd (upd H a (.frz od (.dT ks))) D (.lst ((ks.take (i1 + 1)).map (·.2))), fun _ h => h, ?_⟩
            rintro v' H2 ⟨rfl, kk, vv, q, hkk, rfl, hq⟩
            refine ⟨by rw [wipe_set (List.mem_singleton.mpr rfl), wipe_wipe], ?_⟩
            unfold tYes
            dsimp only
            rw [if_pos rfl]
            have gi : ((wipe σ [j]).set j (some (V.ref q)))[i]? = some (some (.ref a)) := by
              rw [List.getElem?_set_ne (Ne.symm hij), wipe_get, if_neg (by simpa using hij)]
              exact eu
            have gj : ((wipe σ [j]).set j (some (V.ref q)))[j]? = some (some (.ref q)) := by
              rw [List.getElem?_set_self]
              rw [wipe_length, I.len]
              exact (List.getElem?_eq_some_iff.mp hj).1
            refine ⟨_, gi, _, gj, a, vv, rfl, .inr ⟨ks, kk, q, .inr ⟨od, ha1 _⟩, rfl, hq, (valV_at nd hkk).symm⟩, _, upd_same, ?_, ks.length - (i1 + 1), by omega, rfl, hl, ?_⟩
            · rw [List.length_map, List.length_take, ← szLine]; omega
            · rw [upd_upd, List.take_add_one, hkk]
              rw [List.map_append]
              rfl
          · have ei : i1 = ks.length := by omega
            subst ei
            refine .inl ⟨⟨ha1 _, Nat.le_refl _⟩, ha1 _, ?_⟩
            rw [List.take_length]
            have eH : upd (upd (upd H a (.frz od (.dT ks))) D (.lst (ks.map (·.2)))) a (.dT ks) = upd H D (.lst (ks.map (·.2))) := by
              funext b
              unfold upd
              by_cases hb : b = a
              · rw [if_pos hb, hb, if_neg (Ne.symm hDa), k1]
              · rw [if_neg hb]
                by_cases hd : b = D
                · rw [if_pos hd, if_pos hd]
                · rw [if_neg hd, if_neg hd, if_neg hb]
            rw [eH]
            exact new_mkl hr hD0 (rvals_of k2) e fin
        · cases e
      · cases e
    · cases e
  · exact fun z => z.elim
end
end Ev

set_option Elab.async false
set_option linter.all false
set_option autoImplicit false
set_option maxRecDepth 100000
set_option maxHeartbeats 4000000
namespace L2
open PySem PySem.Spec PyProof.Rows
/-- d[k] = v by a comprehension, k a tracked tuple -/
theorem d_dictSetT {X : Cx} {pins : List (Addr × Obj)} {σ : St} {H : Hp} {s : Shared} {E : Value → Shared → Prop} {D b : Addr} {kvs : List (List Key × V)} {k : List Key} {v : V} {r : Value} {Q : Unit → Shared → Prop} (hu : X.A.units + 1 < cLine) (I : Inv X pins σ H s) (hD : H D = some (.dT kvs)) (hz : kvs.length < sizeLine)
    (hb : H b = some (.tup (k.map kV))) (rv : RelV v r) (h : ∀ s', Inv X pins σ (upd H D (.dT (putK kvs k v))) s' → Q () s') : wpAny (model X.prog X.w) X.A (dictSet D (.ref b) r) Q E s := by
  obtain ⟨z, hd, xs, rel, dd⟩ := dt_of I.hok hD
  have hzx : xs.length ≤ sizeLine := by rw [← Paired.length rel]; exact z
  have hl : (putK kvs k v).length ≤ sizeLine := by have := length_putK kvs k v; omega
  refine wpAny_dictSet_heap (hsz := hzx) (show X.A.units < cLine by omega) (key_of I.hok hb) dd fun h' dd' hs => h _ ?_
  obtain ⟨q, es, ep, hq, h2, h3, h4, _, h5⟩ := dd'
  refine d_write I (by rw [hD]; exact True.intro) hs ⟨q, hq⟩ ⟨hl, hd, _, (rel.put k hb rv).keeps fun c ys ec => ?_, q, es, ep, hq, h2, h3, h4, h5⟩
  rw [upd_ne (ne_of ec hD (fun z => nomatch z))]
  exact ec
section
variable {X : Cx}
/-- {k: v for target in iter if ..}, keys tuples: D the new dict -/
def tDcT (wi : TI) (g : TG) (tt : TT) (tk tv : TE) (vs : List Nat) : TE := fun σ H Q => wi σ H fun J H1 => ∀ D, H1 D = none → ∃ W : Nat → Nat → Hp → Prop, (∃ m, W 0 m (upd H1 D (.dT []))) ∧ ∀ i m H, W i m H →
  (J.stop i H ∧ Q (.ref D) H) ∨ (J.go i H ∧ ∃ Nx : Hp → Prop, (∀ H', Nx H' → ∃ m', m' < m ∧ W (i + 1) m' H') ∧ ∀ x H', J.yld i H x H' → g x (wipe σ vs) H' fun σ2 H2 => wipe σ2 vs = wipe σ vs ∧ tt σ2 H2 fun b H3 =>
    if b = true then tk σ2 H3 fun y H4 => tv σ2 H4 fun z H5 => ∃ kvs k b, y = .ref b ∧ H5 b = some (.tup (k.map kV)) ∧ H5 D = some (.dT kvs) ∧ kvs.length < sizeLine ∧ Nx (upd H5 D (.dT (putK kvs k z))) else Nx H3)
theorem dcT_core {pins : List (Addr × Obj)} {s : Shared} {σ : St} {H : Hp} {Q : VK} {kx vx tg iter : Expr} {ifs : List Expr} {scope : Scope} {own : List (Str × Nat)} {pos pos' : Pos} {wi : TI} {g : TG} {tt : TT} {tk tv : TE} {use : Option (Value → Sem Unit)} {Qf : Value → Shared → Prop}
    (hu : X.A.units + 1 < cLine) (hc : X.calm = true) (hN : X.N.Nodup) (I : Inv X pins σ H s) (hi : PI X tg iter wi) (ok : BlkOk X.N X.env.scope scope own)
    (hg : ∀ (s : Shared) (H : Hp) (C : Addr) (cl : List (Str × Addr)) (fp : List Addr), PG (X.blk s H scope (compEnvC scope cl C X.env) fp) tg g) (ht : ∀ (s : Shared) (H : Hp) (C : Addr) (cl : List (Str × Addr)) (fp : List Addr), PTs (X.blk s H scope (compEnvC scope cl C X.env) fp) ifs tt)
    (hk : ∀ (s : Shared) (H : Hp) (C : Addr) (cl : List (Str × Addr)) (fp : List Addr), PE (X.blk s H scope (compEnvC scope cl C X.env) fp) kx tk)
    (he : ∀ (s : Shared) (H : Hp) (C : Addr) (cl : List (Str × Addr)) (fp : List Addr), PE (X.blk s H scope (compEnvC scope cl C X.env) fp) vx tv) (hs : ∀ x, foldedSetIterable iter X.env x = pure x)
    (h : tDcT wi g tt tk tv (own.map (·.2)) σ H Q)
    (hRR : ∀ D C s' m H', Inv X pins σ H' s' → Q (.ref D) H' → s'.heap.Ns C m → FpOk X pins H' C → compPost (model X.prog X.w) X.A X.xe use Qf (.ref D) C (.ok .next) s') :
    wpAny (model X.prog X.w) X.A (comprehension (.DictComp kx vx [⟨tg, iter, ifs, 0⟩] scope pos) scope X.env pos' newDict false (eval iter X.env) use) Qf X.xe s := by
  have hfree : ∀ y ∈ scope.names, y.2 = .free → ∃ c, X.env.cells.lookup y.1 = some c := fun y hy e => by
    rcases ok.free y hy e with k | k
    · exact I.ok.has _ (.inl k)
    · exact I.ok.has _ (.inr k)
  refine wpAny_comprehension_free (use := use) rfl hs (closure_ok hfree) ok.kind (fun y hy e => by rw [ok.uniq y hy, e])
    (thn (hi.run pins s σ H _ I h) fun xv s1 hx => thn hx fun itv s2 h2 => ?_)
  obtain ⟨it, fp, tn, J, H2, e, I2, T, st2, f2, q⟩ := h2
  subst e
  refine wpAny_newObj_type (newEnv_comp ?_)
  generalize hD : s2.heap.objs.size = D
  have hDn : H2 D = none := I2.hok.fresh (Nat.le_of_eq hD)
  obtain ⟨W, ⟨m0, w0⟩, turn⟩ := q D hDn
  -- the new list
  generalize hs3 : ({ s2 with heap := s2.heap.push { cls := .type "dict", data := .dict #[] } } : Shared) = s3
  have I3 : Inv X pins σ (upd H2 D (.dT [])) s3 := by
    rw [← hs3]
    refine I2.laid (t' := s2.toks) (fun b o e => Heap.get?_push_of_some _ e) (Nat.le_of_eq hD) ?_
    rw [← hD]
    exact dt_empty s2.heap I2.big
  have h3 : s3.heap = s2.heap.push { cls := .type "dict", data := .dict #[] } := by rw [← hs3]
  have sz : ∀ b ∈ fp, b < s2.heap.objs.size := fun b hb => by
    obtain ⟨o, e, _⟩ := T.obj _ _ st2 b hb
    exact Heap.lt_size e
  have f3 : ∀ b ∈ fp, FpOk X pins (upd H2 D (.dT [])) b ∧ b < s3.heap.objs.size := fun b hb => by
    have hlt := sz b hb
    refine ⟨⟨?_, (f2 b hb).2⟩, by rw [h3, Heap.size_push]; exact Nat.lt_succ_of_lt hlt⟩
    rw [upd_ne (by rw [← hD]; exact Nat.ne_of_lt hlt)]
    exact (f2 b hb).1
  have st3 : tn 0 s3.heap := T.keep _ _ _ st2 fun b _ o e => by rw [h3]; exact Heap.get?_push_of_some _ e
  have I4 := block_start I3 ok hN f3
  have pg := hg s3 (upd H2 D (.dT [])) s3.heap.objs.size (cellsFrom (s3.heap.objs.size + 1) scope.names (cloFrom X.env.cells scope.names [])) fp
  have pt := ht s3 (upd H2 D (.dT [])) s3.heap.objs.size (cellsFrom (s3.heap.objs.size + 1) scope.names (cloFrom X.env.cells scope.names [])) fp
  have pk := hk s3 (upd H2 D (.dT [])) s3.heap.objs.size (cellsFrom (s3.heap.objs.size + 1) scope.names (cloFrom X.env.cells scope.names [])) fp
  have pe := he s3 (upd H2 D (.dT [])) s3.heap.objs.size (cellsFrom (s3.heap.objs.size + 1) scope.names (cloFrom X.env.cells scope.names [])) fp
  show codeAny _ _ (.compStart (.DictComp kx vx [⟨tg, iter, ifs, 0⟩] scope pos) 0 (.ref it) (.ref D) (compEnvC scope (cellsFrom (s3.heap.objs.size + 1) scope.names (cloFrom X.env.cells scope.names [])) s3.heap.objs.size X.env)) (compPost (model X.prog X.w) X.A X.xe use Qf (.ref D) s3.heap.objs.size) { s3 with heap := pushCells (s3.heap.push { cls := .type "dict", data := .dict #[] }) scope.names }
  have nfp : ∀ b ∈ fp, (upd H2 D (.dT [])) b = none := fun b hb => (f3 b hb).1.1
  generalize hce : compEnvC scope (cellsFrom (s3.heap.objs.size + 1) scope.names (cloFrom X.env.cells scope.names [])) s3.heap.objs.size X.env = ce at I4 pg pt pk pe ⊢
  have cL : ce.locals = s3.heap.objs.size := by subst hce; rfl
  generalize hH3 : upd H2 D (.dT []) = H3 at I3 I4 pg pt pk pe w0 nfp f3
  generalize hs4 : ({ s3 with heap := pushCells (s3.heap.push { cls := .type "dict", data := .dict #[] }) scope.names } : Shared) = s4 at I4 ⊢
  have st4 : tn 0 s4.heap := T.keep _ _ _ st3 fun b _ o e => by rw [← hs4]; exact pushCells_keeps _ _ _ _ (Heap.get?_push_of_some _ e)
  have stat : ∀ {σ' : St} {H' : Hp} {s' : Shared}, Inv (X.blk s3 H3 scope ce fp) [] σ' H' s' → (∀ b ∈ fp, H' b = none) → ∀ b ∈ fp, FpOk (X.blk s3 H3 scope ce fp) [] H' b := fun {σ' H' s'} I' hn b hb =>
    ⟨hn b hb, (I'.ok.exf b hb).1, I'.ok.exfs b hb, .inl hb, fun x c e => (I'.ok.exf b hb).2 x c e, fun p hp => absurd (show p ∈ ([] : List (Addr × Obj)) ++ [] from hp) (by simp)⟩
  have loop : codeAny (model X.prog X.w) X.A (.compLoop (.DictComp kx vx [⟨tg, iter, ifs, 0⟩] scope pos) 0 (.ref it) (.ref D) ce) (compPost (model X.prog X.w) X.A X.xe use Qf (.ref D) s3.heap.objs.size) s4 := by
    refine compLoop_anyD (fun n s' => ∃ i H', Inv (X.blk s3 H3 scope ce fp) [] (wipe σ (own.map (·.2))) H' s' ∧ tn i s'.heap ∧ (∀ b ∈ fp, H' b = none) ∧ W i n H') ?_ m0 ⟨0, H3, I4, st4, nfp, w0⟩
    rintro n s5 ⟨i, H5, I5, st5, n5, w5⟩
    rcases turn i n H5 w5 with ⟨stop, qq⟩ | ⟨go, Nx, hNx, step⟩
    · have td := T.done (X.blk s3 H3 scope ce fp) rfl rfl rfl hc i [] s5 _ H5 (fun _ _ => False) I5 (stat I5 n5) st5 stop
      refine thnF td fun r s6 ⟨hr, I6⟩ => ?_
      subst hr
      -- back in the def's context
      have I7 : Inv X pins σ H5 s6 := I3.call' (ch := fp) I6.os I6.base I6.hok I6.bare fun b hb => ⟨(f3 b hb).1.2.2.2.1, (f3 b hb).1.2.1, (f3 b hb).1.2.2.2.2.1, (f3 b hb).1.2.2.2.2.2⟩
      have nC : H5 s3.heap.objs.size = none := by
        have z : H5 ce.locals = none := I6.free
        rw [cL] at z
        exact z
      obtain ⟨m, hn, _⟩ := I6.loc
      have hn : s6.heap.Ns ce.locals m := hn
      rw [cL] at hn
      exact hRR D s3.heap.objs.size s6 m H5 I7 qq hn (I3.fpOk (Nat.le_refl _) nC)
    · have ti := T.item (X.blk s3 H3 scope ce fp) rfl rfl rfl hc i [] s5 _ H5 (fun _ _ => False) I5 (stat I5 n5) st5 go
      refine thnF ti fun r s6 ⟨u, hr, h6⟩ => ?_
      subst hr
      refine thnF h6 fun _ s7 ⟨x, H7, I7, r7, y7, st7, n7⟩ => ?_
      have I7' := I7.pinned (stat I7 n7) (T.obj _ _ st7)
      refine thnF (pg.run _ s7 _ H7 x u _ I7' r7 (step x H7 y7)) fun _ s8 ⟨σ8, H8, I8, hw8, q8⟩ => ?_
      refine thnF (pt.run _ s8 σ8 H8 _ I8 q8) fun b s9 ⟨H9, I9, q9⟩ => ?_
      -- the turn's end
      have fin : ∀ {s' : Shared} {H' : Hp}, Inv (X.blk s3 H3 scope ce fp) ([] ++ pinsAt fp s7.heap) σ8 H' s' → Nx H' → ∃ m, m < n ∧ ∃ i H', Inv (X.blk s3 H3 scope ce fp) [] (wipe σ (own.map (·.2))) H' s' ∧ tn i s'.heap ∧ (∀ b ∈ fp, H' b = none) ∧ W i m H' := fun {s' H'} I' nx => by
        obtain ⟨m', hm, w'⟩ := hNx H' nx
        have pin' : ∀ b ∈ fp, ∀ o, s7.heap.get? b = some o → s'.heap.get? b = some o ∧ H' b = none := fun b hb o e =>
          let z := I'.pin (b, o) (List.mem_append_right _ (List.mem_append_right _ (mem_pinsAt hb e)))
          ⟨z.1, z.2.1⟩
        have hl : (wipe σ (own.map (·.2))).length = σ8.length := by rw [← hw8, wipe_length]
        refine ⟨m', hm, i + 1, H', (I'.unpinned (pins := [])).weak hl (fun j v e => ?_), T.keep _ _ _ st7 fun b hb o e => (pin' b hb o e).1, fun b hb => ?_, w'⟩
        · rw [← hw8] at e
          exact (wipe_some e).1
        · obtain ⟨o, e, _⟩ := T.obj _ _ st7 b hb
          exact (pin' b hb o e).2
      cases b with
      | false =>
        simp only [Bool.false_eq_true, if_false] at q9 ⊢
        exact fin I9 q9
      | true =>
        simp only [if_true] at q9 ⊢
        refine thnF (pk.run _ s9 σ8 H9 _ I9 q9) fun z s10 ⟨yk, H10, I10, r10, q10⟩ => ?_
        refine thnF (pe.run _ s10 σ8 H10 _ I10 q10) fun z2 s11 ⟨yv, H11, I11, r11, kvs, k, b, ek, hb11, hD11, hz11, nx⟩ => ?_
        subst ek
        cases r10
        exact d_dictSetT (X := X.blk s3 H3 scope ce fp) hu I11 hD11 hz11 hb11 r11 fun s12 I12 => fin I12 nx
  exact codeAny_compStart_dict loop (T.self X.A 0 _ _ _ st4 loop)
/-- as a value -/
theorem pe_dcT {kx vx tg iter : Expr} {ifs : List Expr} {scope : Scope} {own : List (Str × Nat)} {pos : Pos} {wi : TI} {g : TG} {tt : TT} {tk tv : TE} (hu : X.A.units + 1 < cLine) (hc : X.calm = true) (hN : X.N.Nodup) (hi : PI X tg iter wi) (ok : BlkOk X.N X.env.scope scope own)
    (hg : ∀ (s : Shared) (H : Hp) (C : Addr) (cl : List (Str × Addr)) (fp : List Addr), PG (X.blk s H scope (compEnvC scope cl C X.env) fp) tg g) (ht : ∀ (s : Shared) (H : Hp) (C : Addr) (cl : List (Str × Addr)) (fp : List Addr), PTs (X.blk s H scope (compEnvC scope cl C X.env) fp) ifs tt)
    (hk : ∀ (s : Shared) (H : Hp) (C : Addr) (cl : List (Str × Addr)) (fp : List Addr), PE (X.blk s H scope (compEnvC scope cl C X.env) fp) kx tk)
    (he : ∀ (s : Shared) (H : Hp) (C : Addr) (cl : List (Str × Addr)) (fp : List Addr), PE (X.blk s H scope (compEnvC scope cl C X.env) fp) vx tv) (hs : ∀ x, foldedSetIterable iter X.env x = pure x := by intro _; rfl) :
    PE X (.DictComp kx vx [⟨tg, iter, ifs, 0⟩] scope pos) (tDcT wi g tt tk tv (own.map (·.2))) := by
  refine ⟨fun pins s σ H Q I h => ?_⟩
  rw [arm_eval_DictComp]
  refine dcT_core hu hc hN I hi ok hg ht hk he hs h fun D C s' m H' I' q hn f => ⟨m, hn, fun h'' sb => ?_⟩
  obtain ⟨f0, f1, f2, f3, f4, f5⟩ := f
  exact ⟨.ref D, H', I'.turned (t' := s'.toks) (fun b o hb e => (sb.2 b hb).trans e) f0 f1 f3 f4 f5, rfl, q⟩
end
end L2
namespace Ev
open PySem PySem.Spec PyProof.Rows L2
section
variable {X : Cx} {Wx : WX}
/-- a key of the set, on both sides -/
abbrev Rl (p : PyData × PyData) (q : List L2.Key × V) : Prop := keyT p.1 = some q.1 ∧ p.2 = .bool true ∧ q.2 = .bl true
theorem rl_any {c : List L2.Key} : ∀ {kvs : List (PyData × PyData)} {ks : List (List L2.Key × V)}, Paired Rl kvs ks → (kvs.any fun p => decide (kc true p.1 = some c)) = ks.any fun q => decide (q.1 = c)
  | _, _, .nil => rfl
  | _, _, .cons (a := p) (b := q) r t => by
    have e : decide (kc true p.1 = some c) = decide (q.1 = c) := by
      by_cases h : q.1 = c
      · rw [decide_eq_true h, decide_eq_true ((kc_t r.1 c).mpr h)]
      · rw [decide_eq_false h, decide_eq_false (fun z => h ((kc_t r.1 c).mp z))]
    rw [List.any_cons, List.any_cons, rl_any t, e]
theorem rl_map {c : List L2.Key} : ∀ {kvs : List (PyData × PyData)} {ks : List (List L2.Key × V)}, Paired Rl kvs ks → Paired Rl (kvs.map fun p => if kc true p.1 = some c then (p.1, PyData.bool true) else p) (ks.map fun q => if q.1 = c then (q.1, V.bl true) else q)
  | _, _, .nil => .nil
  | _, _, .cons (a := p) (b := q) r t => by
    rw [List.map_cons, List.map_cons]
    refine .cons ?_ (rl_map t)
    split <;> split <;> exact ⟨r.1, by first | rfl | exact r.2.1, by first | rfl | exact r.2.2⟩
theorem rl_put {kvs : List (PyData × PyData)} {ks : List (List L2.Key × V)} {d : PyData} {c : List L2.Key} (r : Paired Rl kvs ks) (e : keyT d = some c) : Paired Rl (dputL true kvs d c (.bool true)) (putK ks c (.bl true)) := by
  unfold dputL putK
  rw [rl_any r]
  split
  · exact rl_map r
  · exact paired_snoc ⟨e, rfl, rfl⟩ r
theorem HR.mineM {K : PySem.W.Frag} {mg : Str → Option Value} {W : List Addr} {H : Hp} {μ : Mu} {mh : MH} {D : Addr} {o u : HO} (hr : HR K mg (D :: W) H μ mh) (hD : H D = some o) (hm : MutO o) (hW : D ∉ W) : HR K mg (D :: W) (upd H D u) μ mh := by
  rw [← upd_hole]
  exact HR.lay (hr.holeM hD hm hW) hole_same
theorem RV.mineM {K : PySem.W.Frag} {mg : Str → Option Value} {W : List Addr} {H : Hp} {μ : Mu} {mh : MH} {D : Addr} {o u : HO} {x : Vl} {v : V} (hr : HR K mg (D :: W) H μ mh) (hD : H D = some o) (hm : MutO o) (hW : D ∉ W) (h : RV K mg (D :: W) H μ x v) : RV K mg (D :: W) (upd H D u) μ x v := by
  rw [← upd_hole]
  exact RV.lay (hr.holeM hD hm hW) hole_same (RV.holeM hD hm h)
theorem dset_snoc (ds : List PyData) (d : PyData) : dsetL (ds ++ [d]) = dputL true (dsetL ds) d ((keyT d).getD []) (.bool true) := by
  unfold dsetL
  rw [List.foldl_append]; rfl
theorem dput_len (kvs : List (PyData × PyData)) (d : PyData) (c : List L2.Key) (v : PyData) : (dputL true kvs d c v).length ≤ kvs.length + 1 := by
  unfold dputL
  split
  · rw [List.length_map]; omega
  · rw [List.length_append, List.length_singleton]; omega
theorem dset_len (ds : List PyData) : (dsetL ds).length ≤ ds.length := by
  have : ∀ (ds : List PyData) (acc : List (PyData × PyData)), (ds.foldl (fun acc d => dputL true acc d ((keyT d).getD []) (.bool true)) acc).length ≤ acc.length + ds.length := by
    intro ds
    induction ds with
    | nil => intro acc; simp
    | cons d ds ih =>
      intro acc
      rw [List.foldl_cons, List.length_cons]
      have h1 := ih (dputL true acc d ((keyT d).getD []) (.bool true))
      have h2 := dput_len acc d ((keyT d).getD []) (.bool true)
      omega
  have h := this ds []
  rw [List.length_nil, Nat.zero_add] at h
  exact h
theorem allD_get : ∀ {xs : List Vl} {ds : List PyData}, allD xs = some ds → xs = ds.map .d
  | [], ds, h => by cases h; rfl
  | x :: xs, ds, h => by
    cases x with
    | d x =>
      rw [allD, Option.map_eq_some_iff] at h
      obtain ⟨ds', h1, h2⟩ := h
      subst h2
      rw [List.map_cons, ← allD_get h1]
    | _ => cases h
/-- the dict is full -/
theorem grow_full {W : List Addr} {H : Hp} {μ : Mu} {mh : MH} {D : Addr} {kvs : List (PyData × PyData)} {ks : List (List L2.Key × V)} (hr : hR X (D :: W) H μ mh) (hD : H D = some (.dT ks)) (hW : D ∉ W) (r : Paired Rl kvs ks) :
    Stp (hole H D) μ H (μ ++ [some D]) ∧ hR X W H (μ ++ [some D]) (mh ++ [.dct true kvs]) := by
  have h1 := hr.holeM hD trivial hW
  obtain ⟨s1, g1⟩ := HR.growD (p := D) true h1 hole_same
  have e0 : upd (hole H D) D (if true = true then HO.dT [] else .dK []) = upd H D (.dT []) := by rw [if_pos rfl, upd_hole]
  rw [e0] at s1 g1
  have hi : (mh ++ [MO.dct true []])[mh.length]? = some (.dct true []) := by simp
  have ha : (μ ++ [some D])[mh.length]? = some (some D) := by rw [← hr.len]; simp
  obtain ⟨s2, g2⟩ := HR.writeD (o := .dT ks) (kvs' := kvs) g1 hi ha ⟨_, upd_same, fun xs => ⟨by simp, by simp⟩⟩ (fun m => .inr ⟨rfl, ks, upd_same, Paired.mapP r fun p q z => ⟨z.1, by rw [z.2.1, z.2.2]; exact Dz.bl true⟩⟩)
  have e1 : upd (upd H D (.dT [])) D (.dT ks) = H := by rw [L2.upd_upd, upd_self hD]
  rw [e1] at s2 g2
  have e2 : (mh ++ [MO.dct true []]).set mh.length (.dct true kvs) = mh ++ [.dct true kvs] := by simp
  rw [e2] at g2
  exact ⟨s1.trans s2, g2⟩
theorem dset_imp {i : Nat} {fI : Env → MH → Res Src} {σ : L2.St} {H : Hp} {Q : VK} (h : tE X Wx (fun σ h => (fI σ h).bind fun src h1 => (dsetV σ i src h1).calm) σ H Q) :
    tDcT (tI X Wx fI) (tG X (.nm i)) tYes (tVar i) (tC (.bl true)) [i] σ H Q := by
  refine (Rg.bind (R := SrcR X) h).mono fun J H1 ⟨W, mσ, μ, src, μ1, mh1, st, hr, sr, sj, p⟩ D hD => ?_
  obtain ⟨z, mhz, e, fin⟩ := Post.calm p
  have hDW : D ∉ W := hr.notw hD
  obtain ⟨F1, sok, hF1⟩ := sj (D :: W) (fun a ha => by
    rcases List.mem_cons.mp ha with e | e
    · exact .inr (e ▸ hD)
    · exact .inl e)
  unfold dsetV at e
  split at e
  · rename_i xs
    split at e
    · rename_i ds hds
      split at e
      · rename_i hc
        cases e
        simp only [Bool.and_eq_true, decide_eq_true_eq, List.all_eq_true] at hc
        obtain ⟨⟨hk, hz⟩, hi⟩ := hc
        have ex := allD_get hds
        have lx : xs.length = ds.length := by rw [ex, List.length_map]
        refine ⟨fun k m H => m = ds.length - k ∧ k ≤ ds.length ∧ ∃ μ ks, hR X (D :: W) H μ mh1 ∧ sR X (D :: W) H μ mσ σ ∧ Stp H1 μ1 H μ ∧ H D = some (.dT ks) ∧ Paired Rl (dsetL (ds.take k)) ks, ?_, ?_⟩
        · have h0 := HR.lay (o := .dT []) hr hD
          have s0 : Stp H1 μ1 (upd H1 D (.dT [])) μ1 := (HR.fresh (o := .dT []) hr hD).1
          exact ⟨ds.length, rfl, Nat.zero_le _, μ1, [], h0, ⟨sr.len, fun j x e => let ⟨v, e', r⟩ := sr.at_ j x e; ⟨v, e', RV.lay hr hD r⟩⟩, s0, upd_same, .nil⟩
        · rintro k m H2 ⟨rfl, hk2, μ2, ks, hr2, sr2, st2, hD2, pr⟩
          have hF2 : F1 H2 μ2 := sok.st _ _ _ _ _ _ hF1 hr st2
          by_cases hl : k < ds.length
          · have hd : ds[k]? = some ds[k] := List.getElem?_eq_getElem hl
            have hx : xs[k]? = some (.d ds[k]) := by rw [ex, List.getElem?_map, hd]; rfl
            obtain ⟨go, yl⟩ := sok.go xs k (.d ds[k]) H2 μ2 mh1 (.inl rfl) hF2 hr2 hx
            obtain ⟨c, hkey⟩ := Option.isSome_iff_exists.mp (hk ds[k] (List.getElem_mem hl))
            refine .inr ⟨go, fun H' => ∃ m', m' < ds.length - k ∧ m' = ds.length - (k + 1) ∧ k + 1 ≤ ds.length ∧ ∃ μ ks, hR X (D :: W) H' μ mh1 ∧ sR X (D :: W) H' μ mσ σ ∧ Stp H1 μ1 H' μ ∧ H' D = some (.dT ks) ∧ Paired Rl (dsetL (ds.take (k + 1))) ks, fun _ h => h, ?_⟩
            intro v H3 hy
            obtain ⟨st3, hr3, rx⟩ := yl v H3 hy
            have sr3 := sr2.step st3 hr2
            have hD3 : H3 D = some (.dT ks) := st3.keep D _ hD2 (hr2.w D List.mem_cons_self).2 (fun _ z => nomatch z)
            refine ⟨D :: W, μ2, _, mh1, .d ds[k], _, hr3, sr3.wipe [i], rx, rfl, fun σ2 sr4 hw => ⟨?_, ?_⟩⟩
            · rw [hw [i] (fun j hj => hj), wipe_wipe]
            · unfold tYes
              dsimp only
              rw [if_pos rfl]
              have hl4 : i < (wipeE mσ [i]).length := by
                show i < ((wipeE mσ []).set i none).length
                rw [List.length_set]; exact hi
              obtain ⟨y, ey, ry⟩ := sr4.at_ i (.d ds[k]) (by rw [List.getElem?_set_self hl4])
              obtain ⟨b, rfl, hb⟩ := dz_keyT ry hkey
              have lk : ks.length < sizeLine := by
                rw [← Paired.length pr]
                have h1 := dset_len (ds.take k)
                have h2 : (ds.take k).length ≤ ds.length := by rw [List.length_take]; omega
                have h3 : ds.length < sizeLine := by rw [← szLine]; exact hz
                omega
              refine ⟨_, ey, ks, c, b, rfl, hb, hD3, lk, ds.length - (k + 1), by omega, rfl, hl, μ2, _, HR.mineM hr3 hD3 trivial hDW, ⟨sr3.len, fun j q e => let ⟨u, e', r⟩ := sr3.at_ j q e; ⟨u, e', RV.mineM hr3 hD3 trivial hDW r⟩⟩, (st2.trans st3).mine hD hD3 trivial, upd_same, ?_⟩
              · have e2 : ds.take (k + 1) = ds.take k ++ [ds[k]] := by rw [List.take_add_one, hd]; rfl
                rw [e2, dset_snoc, hkey]
                exact rl_put pr hkey
          · have ek : k = ds.length := by omega
            subst ek
            refine .inl ⟨sok.stop xs _ H2 μ2 mh1 (.inl rfl) hF2 hr2 (List.getElem?_eq_none (by omega)), ?_⟩
            rw [List.take_length] at pr
            obtain ⟨g1, g2⟩ := grow_full hr2 hD2 hDW pr
            refine fin _ _ _ ((st2.hole hD hD2 trivial).trans g1) g2 ⟨by rw [List.length_append, hr2.len]; simp, fun a e => ?_⟩
            rw [← hr2.len] at e
            simp at e
            rw [e]
      · cases e
    · cases e
  · cases e
theorem pe_ev_dset {i : Nat} {x : Str} {p1 p2 p3 pos : Pos} {k2 : Nat} {iter : Expr} {scope : Scope} {own : List (Str × Nat)} {fI : Env → MH → Res Src} (rm : Rm X) (hc : X.calm = true) (hN : X.N.Nodup) (hown : own.map (·.2) = [i]) (ok : BlkOk X.N X.env.scope scope own) (hp : plain iter = true)
    (hi : PI X (.Name x p1) iter (tI X Wx fI)) (hl : X.N[i]? = some x)
    (hg : ∀ (s : Shared) (H : Hp) (C : Addr) (cl : List (Str × Addr)) (fp : List Addr), PG (X.blk s H scope (compEnvC scope cl C X.env) fp) (.Name x p1) (tG X (.nm i)))
    (hk : ∀ (s : Shared) (H : Hp) (C : Addr) (cl : List (Str × Addr)) (fp : List Addr), PE (X.blk s H scope (compEnvC scope cl C X.env) fp) (.Name x p2) (tVar i)) :
    PE X (.DictComp (.Name x p2) (.Constant (.bool true) k2 p3) [⟨.Name x p1, iter, [], 0⟩] scope pos) (tE X Wx fun σ h => (fI σ h).bind fun src h1 => (dsetV σ i src h1).calm) := by
  have un := rm.un
  refine ⟨fun pins s σ H Q I h => ?_⟩
  refine (pe_dcT (by omega) hc hN hi ok hg (fun _ _ _ _ _ => pts_nil) hk (fun _ _ _ _ _ => pe_bl) (fold_plain hp)).run pins s σ H Q I ?_
  rw [hown]
  exact dset_imp h
/-- {f(x): True for x in ..} -/
theorem dsc_imp {F : Nat} {i : Nat} {fI : Env → MH → Res Src} {fK : Env → MH → Res Vl} {σ : L2.St} {H : Hp} {Q : VK} (h : tE X Wx (fun σ h => (fI σ h).bind fun src h1 => (lcS F (lcF (.nm i) [i] (fun _ h => .ok true h) fK σ) src h1).calm.bind fun rs h5 => (dscE rs h5).calm) σ H Q) :
    tDcT (tI X Wx fI) (tG X (.nm i)) tYes (tE X Wn fK) (tC (.bl true)) [i] σ H Q := by
  refine (Rg.bind (R := SrcR X) h).mono fun J H1 ⟨W, mσ, μ, src, μ1, mh1, st, hr, sr, sj, p⟩ D hD => ?_
  obtain ⟨rsAll, h5, e1, p⟩ := Post.calmB p
  obtain ⟨z, mhz, e2, fin⟩ := Post.calm p
  have hDW : D ∉ W := hr.notw hD
  obtain ⟨F1, sok, hF1⟩ := sj (D :: W) (fun a ha => by
    rcases List.mem_cons.mp ha with e | e
    · exact .inr (e ▸ hD)
    · exact .inl e)
  unfold dscE at e2
  split at e2
  · rename_i dsA hdsA
    split at e2
    · rename_i hc
      cases e2
      simp only [Bool.and_eq_true, decide_eq_true_eq, List.all_eq_true] at hc
      obtain ⟨hk, hz⟩ := hc
      have exA := allD_get hdsA
      refine ⟨fun k m H => ∃ μ mh ds rs ks, hR X (D :: W) H μ mh ∧ sR X (D :: W) H μ mσ σ ∧ Stp H1 μ1 H μ ∧ H D = some (.dT ks) ∧ Paired Rl (dsetL ds) ks ∧ rsAll = ds.map .d ++ rs ∧ Rest (lcF (.nm i) [i] (fun _ h => .ok true h) fK mσ) F src h5 k m mh rs, ?_, ?_⟩
      · obtain ⟨m, rest⟩ := Rest.start e1
        exact ⟨m, μ1, mh1, [], rsAll, [], HR.lay (o := .dT []) hr hD, ⟨sr.len, fun i x e => let ⟨v, e', r⟩ := sr.at_ i x e; ⟨v, e', RV.lay hr hD r⟩⟩, (HR.fresh (o := .dT []) hr hD).1, upd_same, .nil, rfl, rest⟩
      · rintro k m H2 ⟨μ2, mh2, ds, rs, ks, hr2, sr2, st2, hD2, pr, eall, rest⟩
        have hF2 : F1 H2 μ2 := sok.st _ _ _ _ _ _ hF1 hr st2
        obtain ⟨xs, hsrc, alt⟩ := rest.step
        rcases alt with ⟨hn, rfl, rfl⟩ | ⟨hz2, x, r, mh3, rs', hx, ef, rfl, m', hm, rest'⟩
        · refine .inl ⟨sok.stop xs k H2 μ2 mh2 hsrc hF2 hr2 hn, ?_⟩
          have ed : dsA = ds := by
            rw [List.append_nil, exA] at eall
            exact (List.map_inj_right (fun a b e => by cases e; rfl)).mp eall
          subst ed
          obtain ⟨g1, g2⟩ := grow_full hr2 hD2 hDW pr
          refine fin _ _ _ ((st2.hole hD hD2 trivial).trans g1) g2 ⟨by rw [List.length_append, hr2.len]; simp, fun a e => ?_⟩
          rw [← hr2.len] at e
          simp at e
          rw [e]
        · obtain ⟨go, yl⟩ := sok.go xs k x H2 μ2 mh2 hsrc hF2 hr2 hx
          refine .inr ⟨go, fun H' => ∃ m', m' < m ∧ ∃ μ mh ds rs ks, hR X (D :: W) H' μ mh ∧ sR X (D :: W) H' μ mσ σ ∧ Stp H1 μ1 H' μ ∧ H' D = some (.dT ks) ∧ Paired Rl (dsetL ds) ks ∧ rsAll = ds.map .d ++ rs ∧ Rest (lcF (.nm i) [i] (fun _ h => .ok true h) fK mσ) F src h5 (k + 1) m' mh rs, fun _ h => h, ?_⟩
          intro v H3 hy
          obtain ⟨st3, hr3, rx⟩ := yl v H3 hy
          obtain ⟨mσ2, b, mh4, ep, eA, alt⟩ := lcF_ok ef
          cases eA
          have sr3 := sr2.step st3 hr2
          have hD3 : H3 D = some (.dT ks) := st3.keep D _ hD2 (hr2.w D List.mem_cons_self).2 (fun _ z => nomatch z)
          refine ⟨D :: W, μ2, _, mh2, x, mσ2, hr3, sr3.wipe [i], rx, ep, fun σ2 sr4 hw => ⟨?_, ?_⟩⟩
          · rw [hw [i] (fun j hj => hj), wipe_wipe]
          · unfold tYes
            dsimp only
            rw [if_pos rfl]
            rcases alt with ⟨_, w, eE, rfl⟩ | ⟨hf, _, _⟩
            · refine ⟨D :: W, μ2, mσ2, mh2, hr3, sr4, ?_⟩
              rw [eE]
              intro y H5 μ5 st5 hr5 ry
              have hD5 : H5 D = some (.dT ks) := st5.keep D _ hD3 (hr3.w D List.mem_cons_self).2 (fun _ z => nomatch z)
              -- the key
              have hmem : w ∈ dsA.map Vl.d := by rw [← exA, eall]; simp
              obtain ⟨d, hdm, rfl⟩ := List.mem_map.mp hmem
              obtain ⟨c, hkey⟩ := Option.isSome_iff_exists.mp (hk d hdm)
              obtain ⟨b, rfl, hb⟩ := dz_keyT ry hkey
              have lk : ks.length < sizeLine := by
                rw [← Paired.length pr]
                have h1 := dset_len ds
                have h2 : ds.length ≤ dsA.length := by
                  have := congrArg List.length eall
                  rw [exA] at this
                  simp at this; omega
                have h3 : dsA.length < sizeLine := by rw [← szLine]; exact hz
                omega
              refine ⟨ks, c, b, rfl, hb, hD5, lk, m', hm, μ5, mh3, ds ++ [d], rs', _, HR.mineM hr5 hD5 trivial hDW, ?_, ((st2.trans st3).trans st5).mine hD hD5 trivial, upd_same, ?_, by rw [eall]; simp, rest'⟩
              · have := sr3.step st5 hr3
                exact ⟨this.len, fun j q e => let ⟨u, e', r⟩ := this.at_ j q e; ⟨u, e', RV.mineM hr5 hD5 trivial hDW r⟩⟩
              · rw [dset_snoc, hkey]
                exact rl_put pr hkey
            · cases hf
    · cases e2
  · cases e2
theorem pe_ev_dsc {F : Nat} {i : Nat} {x : Str} {p1 p3 pos : Pos} {k2 : Nat} {ke iter : Expr} {scope : Scope} {own : List (Str × Nat)} {fI : Env → MH → Res Src} {fK : Env → MH → Res Vl} (rm : Rm X) (hc : X.calm = true) (hN : X.N.Nodup) (hown : own.map (·.2) = [i]) (ok : BlkOk X.N X.env.scope scope own) (hp : plain iter = true)
    (hi : PI X (.Name x p1) iter (tI X Wx fI))
    (hg : ∀ (s : Shared) (H : Hp) (C : Addr) (cl : List (Str × Addr)) (fp : List Addr), PG (X.blk s H scope (compEnvC scope cl C X.env) fp) (.Name x p1) (tG X (.nm i)))
    (hk : ∀ (s : Shared) (H : Hp) (C : Addr) (cl : List (Str × Addr)) (fp : List Addr), PE (X.blk s H scope (compEnvC scope cl C X.env) fp) ke (tE X Wn fK)) :
    PE X (.DictComp ke (.Constant (.bool true) k2 p3) [⟨.Name x p1, iter, [], 0⟩] scope pos) (tE X Wx fun σ h => (fI σ h).bind fun src h1 => (lcS F (lcF (.nm i) [i] (fun _ h => .ok true h) fK σ) src h1).calm.bind fun rs h5 => (dscE rs h5).calm) := by
  have un := rm.un
  refine ⟨fun pins s σ H Q I h => ?_⟩
  refine (pe_dcT (by omega) hc hN hi ok hg (fun _ _ _ _ _ => pts_nil) hk (fun _ _ _ _ _ => pe_bl) (fold_plain hp)).run pins s σ H Q I ?_
  rw [hown]
  exact dsc_imp h
end
end Ev

set_option Elab.async false
set_option linter.all false
set_option autoImplicit false
set_option maxRecDepth 100000
set_option maxHeartbeats 4000000
namespace Ev
open PySem PySem.W PySem.Spec PyProof.Rows L2
section
variable {prog : Program} {w : World} {A : Around} {E : Value → Shared → Prop} {s : Shared} {T : String} {r d : Addr} {n : Nat} {P : Nat → Value → Prop} {OK : Heap → Prop}
theorem sorted_srcR {b : Bool} {us : List Value} {ds : List PyData} {Q : Value → Shared → Prop} (KS : KdlSrc prog w T r d n P OK) (hh : A.handled = none) (hok : OK s.heap) (hus : ∀ acc, ItemsOf P acc n → acc.toList = us)
    (er : EachIs (fun v d => ∃ as, Reads s.heap v d as) us ds) (hal : AllAlike ds) (hk : Sortable ds) (hL : ds.length ≤ sizeLine) (hn : n ≤ sizeLine) (hu : ∀ d, d ∈ ds → A.units + 2 + d.depth < cLine)
    (h : ∀ (h1 h2 : Heap) tk e out, (∀ b o', s.heap.get? b = some o' → h1.get? b = some o') → (∀ b o', h1.get? b = some o' → h2.get? b = some o') → h2.get? h1.objs.size = some (seqObj "list" out.toArray e) → out.length = ds.length → (∀ R : Value → PyData → Prop, EachIs R us ds → EachIs R out (ds.mergeSort (dataLe b id))) → Q (.ref h1.objs.size) { s with heap := h2, toks := tk }) :
    wpAny (model prog w) A (call (.builtin "sorted") [.ref r] [(Str.ofString "reverse", .bool b)]) Q E s := by
  have hl : us.length = ds.length := er.length
  refine call_function_entry_kw kind_sorted plain_sorted entry_sorted (args_sorted_rev _ _) ?_
  unfold Builtin.«sorted»
  refine wpAny_bind (m := checkCount "sorted" 1 1 _) (wpAny_pure ?_)
  refine wpAny_bind (collect_src (A := A.in1) KS hh hok hn fun h' tk acc hk' hacc => ?_)
  rw [hus acc hacc]
  refine wpAny_bind (wpAny_newList ?_ (by rw [hl]; exact hL))
  have hat : (h'.push (seqObj "list" us.toArray 0)).get? h'.objs.size = some (seqObj "list" us.toArray 0) := Heap.get?_push_size _ rfl
  have old1 : ∀ b o', h'.get? b = some o' → (h'.push (seqObj "list" us.toArray 0)).get? b = some o' := fun b o' e => Heap.get?_push_of_some _ e
  have er' : EachIs (fun v d => ∃ as, Reads (sortingHeap (h'.push (seqObj "list" us.toArray 0)) h'.objs.size us) v d as) us ds := er.mono fun _ _ ⟨as, r⟩ =>
    ⟨as, PyProof.Rows.Reads.keeps (fun b o' e => sortingHeap_old (Nat.ne_of_lt (Heap.lt_size (hk' b o' e))) (old1 b o' (hk' b o' e))) r⟩
  refine wpAny_bind (wpAny_holding (wpAny_call_entry_kw slot_list_sort ⟨_, hat, rfl⟩ entry_list_sort (list_sort_rev_vals (b := b) (κ := dataKind (sortingHeap (h'.push (seqObj "list" us.toArray 0)) h'.objs.size us) ds) (s := { s with heap := h'.push (seqObj "list" us.toArray 0), toks := tk }) hat
    (SortsAt.data (s := { s with heap := sortingHeap (h'.push (seqObj "list" us.toArray 0)) h'.objs.size us, toks := tk }) er' hal hk hu) (by rw [hl]; exact hL) ⟨_, rfl, wpAny_pure ⟨_, rfl, ?_⟩⟩) (args_list_sort_rev _ _)))
  obtain ⟨e, he⟩ := sortedHeap_at (out := (sortVals (dataKind (sortingHeap (h'.push (seqObj "list" us.toArray 0)) h'.objs.size us) ds) b us us).toArray) hat
  refine h h' _ tk e (sortVals (dataKind (sortingHeap (h'.push (seqObj "list" us.toArray 0)) h'.objs.size us) ds) b us us) hk' (fun b o' q => ?_) he ?_ fun R eR => ?_
  · rw [sortedHeap_old (Nat.ne_of_lt (Heap.lt_size q)) (Heap.lt_size (old1 b o' q))]
    exact old1 b o' q
  · rw [sortVals_length b rfl]; exact hl
  · have z := sortVals_data (R := R) (enc := id) (bs := ds) (vs := us) (h' := sortingHeap (h'.push (seqObj "list" us.toArray 0)) h'.objs.size us) b eR er' (by rw [List.map_id]; exact hal)
    rw [List.map_id] at z
    exact z
end
def b_dsortR (mk : Bool) : List Vl → MH → Res Vl
  | [x], h => dsortV true mk x h
  | _, _ => .stuck
section
variable {X : Cx} {Wx : WX}
theorem cr_dsortR (mk : Bool) (rm : Rm X) (hc : X.calm = true) : CallRK X (.builtin "sorted") [Str.ofString "reverse"] (fun vs zs H Q => zs = [.bl true] ∧ rOfL X (b_dsortR mk) vs H Q) := by
  intro pins s σ H vs zs us ws Q I r rz h
  obtain ⟨ez, W, μ, mh, xs, z, mh', hr, ra, e, q⟩ := h
  subst ez
  obtain ⟨w1, rfl, ew⟩ := vals1 rz
  obtain rfl : w1 = Value.bool true := ew
  unfold b_dsortR at e
  split at e
  · rename_i x
    obtain ⟨v, rfl, rv⟩ := rvs1 ra
    unfold dsortV at e
    split at e
    · rename_i ds hd
      split at e
      · rename_i hc'
        rw [Bool.and_eq_true, Bool.and_eq_true, decide_eq_true_eq] at hc'
        obtain ⟨⟨c1, c2⟩, c3⟩ := hc'
        obtain ⟨hal, hso⟩ := sortableB_ok c1
        have un := rm.un
        have hu : ∀ d, d ∈ ds → X.A.units + 2 + d.depth < cLine := fun d hm => by
          have := okN_tuple c2
          rw [List.all_eq_true] at this
          have := (okN_plain d 39 (this d hm)).2
          omega
        unfold dkeys at hd
        split at hd
        · split at hd
          · rename_i i h0 kvs hx
            cases hd
            obtain ⟨a, e1, e2, e3⟩ := RV.dct hr rv hx
            subst e1
            rcases e3 with ⟨ht, ks, k1, k2⟩ | ⟨ht, ks, k1, k2⟩
            · cases ht
            obtain ⟨z1, hs, xs', pr, o, es, ep, ho, hex, hdt, he, hnd⟩ := (show ObjOk X.prog X.w H s.heap a (.dT ks) from I.hok _ _ k1)
            have l1 : es.size = xs'.length := size_of_entries he
            have l2 : ks.length = xs'.length := Paired.length pr
            have l3 : kvs.length = ks.length := Paired.length k2
            have dz := dzA_keys (B := Mo μ W) k2 pr
            have rv2 : Vals ((xs'.map fun x => x.2.1).map V.ref) ((xs'.map fun x => x.2.1).map Value.ref) := vals_refs _
            rw [Vals.ref1 r]
            refine sorted_srcR (b := true) (us := (xs'.map fun x => x.2.1).map Value.ref) (kdl_raw hs hex hdt) (I.ok.hd hc) ho (fun acc it => ?_) (dz_each I (okN_tuple c2) dz rv2) hal hso (by rw [← szLine]; exact c3) (by omega) hu fun h1 h2 tk ep out q1 q2 q3 q4 q5 => ?_
            · apply List.ext_getElem?
              intro j
              rw [List.getElem?_map, List.getElem?_map]
              cases hj : acc.toList[j]? with
              | none =>
                have g1 := List.getElem?_eq_none_iff.mp hj
                rw [Array.length_toList, it.1] at g1
                rw [List.getElem?_eq_none (by omega)]
                rfl
              | some v =>
                obtain ⟨en, hen, hv⟩ := it.2 j v (by rw [← Array.getElem?_toList]; exact hj)
                have qe := entry_at he j
                rw [hen] at qe
                cases hb : xs'[j]? with
                | none => rw [hb] at qe; exact nomatch (show some en = none from qe)
                | some b =>
                  rw [hb] at qe
                  have g2 : en = entryOfKey (tupleKind (mixKind X.prog X.w)) b := Option.some.inj qe
                  rw [hv, g2]; rfl
            · obtain ⟨vs', r1, r2⟩ := each_dz (q5 _ (dz_eachV dz rv2))
              have I1 : Inv X pins σ H { s with heap := h1, toks := tk } := I.kept (t' := tk) q1
              have hp : H h1.objs.size = none := I1.hok.fresh (Nat.le_refl _)
              have ln : vs'.length ≤ sizeLine := by rw [r1.length, q4, ← szLine]; exact c3
              refine ⟨.ref _, upd H h1.objs.size (.lst vs'), I1.laid (t' := tk) (h' := h2) q2 (Nat.le_refl _) ⟨ln, out, ep, r1, q3⟩, rfl, ?_⟩
              exact new_mkl hr hp (rvs_dz r2) e q
          · cases hd
        · cases hd
      · cases e
    · cases e
  · cases e
theorem pe_ev_dsortR {mk : Bool} {o : Expr} {p pos kpos p2 : Pos} {j : Nat} {fo : Env → MH → Res Vl} (rm : Rm X) (hc : X.calm = true) (hg : Gl X "sorted") (hm : X.mg "sorted" = none) (hp : plain o = true) (ho : PE X o (tE X Wx fo)) :
    PE X (.Call (.Name "sorted" p) [o] [⟨some "reverse", .Constant (.bool true) j p2, kpos⟩] pos) (tE X Wx fun σ h => (fo σ h).bind fun x h1 => (dsortV true mk x h1).calm) := by
  obtain ⟨hb, hn, hd⟩ := biN_boot (b := .sorted) (x := "sorted") (ty := false) (id := "sorted") rfl
  have ha : PA X [o] (tA X Wx fun σ h => (fo σ h).bind fun x h1 => (Res.ok [] h1).bind fun xs h2 => .ok (x :: xs) h2) := pa_ev_cons hp ho pa_ev_nil
  refine pe_imp (pe_callBK (cr_dsortR mk rm hc) hg hm hb ha (pk_cons pe_bl pk_nil) hn hd (by rw [star_cons hp]; rfl) (by rw [star_cons hp]; rfl)) fun σ H Q h => ?_
  have h' : tE X Wx (fun σ h => ((fo σ h).bind fun x h1 => (Res.ok [] h1).bind fun xs h2 => .ok (x :: xs) h2).bind fun xs h1 => (b_dsortR mk xs h1).calm) σ H Q := by
    have e : (fun σ h => (fo σ h).bind fun x h1 => (dsortV true mk x h1).calm) = (fun σ h => ((fo σ h).bind fun x h1 => (Res.ok [] h1).bind fun xs h2 => .ok (x :: xs) h2).bind fun xs h1 => (b_dsortR mk xs h1).calm) := by
      funext σ h
      cases fo σ h <;> rfl
    rw [← e]
    exact h
  exact Rg.one (R := rVs X) h' fun v H1 W mσ μ xs mh hr sr rx q => by
    obtain ⟨z, mhz, e, fin⟩ := Post.calm q
    exact ⟨rfl, W, μ, mh, xs, z, mhz, hr, rx, e, fin⟩
end
/-! ### tuple(range(i, j, c)) -/
section
variable {X : Cx} {Wx : WX} {p p2 pos pos2 : Pos}
theorem vals_rgC {i c : Int} {n : Nat} {acc : Array Value} (h : ItemsOf (fun k v => ∃ t, v = .int (i + k * c) t) acc n) : L2.Vals ((List.range n).map fun (k : Nat) => V.int (i + (k : Int) * c)) acc.toList := by
  have e : acc.toList.length = n := by rw [Array.length_toList]; exact h.1
  rw [← e]
  refine vals_of_get acc.toList _ fun j u hj => ?_
  obtain ⟨t, rfl⟩ := h.2 j u (by rw [← hj, Array.getElem?_toList])
  exact ⟨t, rfl⟩
theorem rg3_dz {K : PySem.W.Frag} {H : Hp} {B : Addr → Prop} (i c : Int) (n : Nat) : DzA K H B ((List.range n).map fun (k : Nat) => V.int (i + (k : Int) * c)) (rg3D i c n) := by
  have := DzA.ints (K := K) (H := H) (B := B) ((List.range n).map fun (k : Nat) => i + (k : Int) * c)
  rw [List.map_map, List.map_map] at this
  exact this
theorem pe_ev_tr3 {a b c : Expr} {f : Env → MH → Res (List Vl)} (hc : X.calm = true) (hg : Gl X "tuple") (hm : X.mg "tuple" = none) (hg2 : Gl X "range") (hm2 : X.mg "range" = none) (pl1 : plain a = true) (pl2 : plain b = true) (pl3 : plain c = true)
    (ha : PA X [a, b, c] (tA X Wx f)) :
    PE X (.Call (.Name "tuple" p) [.Call (.Name "range" p2) [a, b, c] [] pos2] [] pos) (tE X Wx fun σ h => (f σ h).bind fun xs h1 => (tr3V xs h1).calm) := by
  have hs : starEach [a, b, c] X.env = (false, eval a X.env) :: starEach [b, c] X.env := star_cons pl1
  have hpl : (backTo pos2 (starEach [b, c] X.env)).any (·.1) = false := back_any (by rw [List.all_cons, pl2, List.all_cons, pl3]; rfl)
  have na : starEach [(.Call (.Name "range" p2) [a, b, c] [] pos2 : Expr)] X.env = (false, eval (.Call (.Name "range" p2) [a, b, c] [] pos2) X.env) :: starEach [] X.env := rfl
  refine ⟨fun pins s σ H Q I h => ?_⟩
  have h2 : tA X Wx f σ H fun vs H1 => ∃ (i j k : Int) (n : Nat), vs = [.int i, .int j, .int k] ∧ (k ≠ 0 ∧ k.natAbs < 1073741824 ∧ Builtin.Range.small i j k = true ∧ Builtin.Range.rangeSize i j k = n ∧ n ≤ 2 ^ 24) ∧ ∀ q, H1 q = none → Q (.ref q) (upd H1 q (.tup ((List.range n).map fun (m : Nat) => V.int (i + (m : Int) * k)))) := by
    refine Rg.one (R := rVs X) h fun v H1 W mσ μ x mh hr sr rx q => ?_
    obtain ⟨z, mhz, e, fin⟩ := Post.calm q
    unfold tr3V at e
    split at e
    · rename_i i j k
      split at e
      · rename_i hk
        cases e
        cases rx with
        | cons r rr =>
          cases rr with
          | cons r' rr =>
            cases rr with
            | cons r'' rr =>
              cases rr
              cases r; cases r'; cases r''
              exact ⟨i, j, k, _, rfl, ⟨hk.1, hk.2.1, hk.2.2.1, PyProof.Rows.rangeSize_toNat i j k, hk.2.2.2⟩, fun q hq => new_tup hr hq (rg3_dz i k _) fin⟩
      · cases e
    · cases e
  refine Call_ (ld_blt I hg hm boot_tuple (PyProof.Rows.callWith_type1 (args_cons ?_ na) na))
  refine thn (Q := fun x s' => ∃ r i j k t u v n H1, x = .ref r ∧ IsRange s'.heap r i j k t u v ∧ Builtin.Range.small i j k = true ∧ Builtin.Range.rangeSize i j k = (n : Nat) ∧ n ≤ 2 ^ 24 ∧ Inv X pins σ H1 s' ∧ ∀ q, H1 q = none → Q (.ref q) (upd H1 q (.tup ((List.range n).map fun (m : Nat) => V.int (i + (m : Int) * k))))) ?_ fun x s1 hx => args_nil ?_
  · refine Call_ (ld_blt I hg2 hm2 boot_range (PyProof.Rows.callWith_type1 (thn (ha.run pos2 pins s σ H _ I h2) fun us s1 ⟨vs, H1, I1, r1, q1⟩ => ?_) hs hpl))
    obtain ⟨i, j, k, n, e, ⟨c0, c1, c2, c3, c4⟩, q⟩ := q1
    subst e
    cases r1 with
    | cons r rr =>
      cases rr with
      | cons r' rr =>
        cases rr with
        | cons r'' rr =>
          cases rr
          obtain ⟨t, rfl⟩ := r
          obtain ⟨t', rfl⟩ := r'
          obtain ⟨t'', rfl⟩ := r''
          refine call_range_3 c0 ?_ (.inl (PyProof.noPylong_small c1))
          exact ⟨_, i, j, k, _, _, _, n, H1, rfl, IsRange.new .., c2, c3, c4, I1.kept (t' := s1.toks) fun b o e => Heap.get?_push_of_some _ e, q⟩
  · obtain ⟨r, i, j, k, t, u, v, n, H1, rfl, hr, h3, h4, h5, I1, q⟩ := hx
    refine call_tuple_range (n := n) (I1.ok.hd hc) hr h3 h4 h5 fun h' tk acc hk hi => ?_
    have I2 : Inv X pins σ H1 { s1 with heap := h', toks := tk } := I1.kept hk
    refine ⟨.ref h'.objs.size, _, I2.laid (t' := tk) (o := .tup ((List.range n).map fun (m : Nat) => V.int (i + (m : Int) * k))) (fun c o e => Heap.get?_push_of_some _ e) (Nat.le_refl _) ⟨?_, acc.toList, vals_rgC hi, ?_⟩, rfl, q _ (I2.hok.fresh (Nat.le_refl _))⟩
    · rw [List.length_map, List.length_range, sizeLine_eq]; omega
    · rw [Array.toArray_toList]; exact IsTup.new _ _
end
end Ev

set_option Elab.async false
set_option linter.all false
set_option autoImplicit false
set_option maxRecDepth 100000
set_option maxHeartbeats 4000000
namespace Ev
open PySem PySem.Spec PyProof.Rows L2
section
variable {X : Cx} {pins : List (Addr × Obj)} {σ : L2.St} {H : Hp} {s : Shared}
open LamX in
/-- the heap behind a lambda's making: as it was, or with a code object more -/
def Made (H : Hp) (P : Addr) (q : Str) (H1 : Hp) : Prop := H1 = H ∨ ∃ (c' : Addr) (ps : Array Value), H c' = none ∧ H1 = upd (upd H P (.tbl ps)) c' (CodeO c' q)
open LamX in
theorem lam_own {c P : Addr} {q : Str} {params : Arguments} {body : Expr} {scope : Scope} {pos : Pos} {E Q : Value → Shared → Prop} (I : Inv X pins σ H s) (B : TabB X.base X.mg c P) (hcd : X.env.code = .ref c) (hq : X.env.qual ++ "<lambda>" = q) (t : TabS H P q)
    (nd : defaultsOf params X.env = ([], [])) (fr : ∀ y ∈ scope.names, y.2 = .free → ∃ a, X.env.cells.lookup y.1 = some a)
    (k : ∀ (f c' : Addr) (pm tv : Value) (H1 : Hp) (s' : Shared), Inv X pins σ H1 s' → Made H P q H1 → TabS H1 P q → s'.heap.get? f = some (PySem.W.kla_obj "<lambda>" q params body scope (cloFrom X.env.cells scope.names []) pm c' tv) → s'.heap.CodeRec (.ref c') q → H1 f = none → f ∉ frs X.stack → H1 c' = some (CodeO c' q) → Q (.ref f) s') :
    wpAny (model X.prog X.w) X.A (eval (.Lambda params body scope pos) X.env) Q E s := by
  subst hq
  obtain ⟨ps, e1, e2, e3⟩ := id t
  have at1 : s.heap.get? P = some { cls := .none, data := .fields ps } := I.hok P _ e1
  have bm : s.heap.BuiltinsAt X.mg P := B.bm.keeps I.bk
  refine PySem.W.kla_eval nd ?_
  have nofr : ∀ f, s.heap.objs.size ≤ f → f ∉ frs X.stack := fun f hf z => by
    rcases List.mem_cons.mp (I.stkSub _ z) with e | e
    · have h1 := I.lt
      rw [← e] at h1
      exact absurd hf (Nat.not_le_of_lt h1)
    · exact I.nofs hf e
  cases hc : codeAmong pos ps.toList with
  | some cv =>
    obtain ⟨d, rfl, hd⟩ := e3 pos cv hc
    refine PySem.W.kla_makeFunctionHit (mg := X.mg) (c := c) (P := P) (ps := ps) (closure_ok fr) I.ok.glob (I.mod.glob.keeps I.bk) hcd (B.code.keeps I.bk) at1 e2 hc bm fun tv h' tk up le => ?_
    have J : Inv X pins σ H { s with heap := h'.push (PySem.W.kla_obj "<lambda>" (X.env.qual ++ "<lambda>") params body scope (cloFrom X.env.cells scope.names []) ((X.mg "__name__").getD .none) d tv), toks := tk } := I.kept fun b o e => Heap.get?_push_of_some _ (up b o e)
    refine k _ d _ tv H _ J (.inl rfl) t (Heap.get?_push_size _ rfl) ?_ ?_ ?_ ?_
    obtain ⟨⟨oc, vs, t0, g1, g2, g3⟩, _, _⟩ := J.hok d _ hd
    · exact ⟨d, oc, vs, t0, rfl, g1, g2, g3⟩
    · exact I.hok.fresh le
    · exact nofr _ le
    · exact hd
  | none =>
    refine PySem.W.kla_makeFunction (mg := X.mg) (c := c) (P := P) (ps := ps) (closure_ok fr) I.ok.glob (I.mod.glob.keeps I.bk) hcd (B.code.keeps I.bk) at1 e2 hc B.gP bm fun d tv h' tk up le lt rec_ tb => ?_
    obtain ⟨_, oc, vs, t0, ed, g1, g2, g3⟩ := rec_
    cases ed
    have free : H d = none := I.hok.fresh le
    have up2 : ∀ (b : Addr) (o : Obj), b ≠ P → s.heap.get? b = some o → (h'.push (PySem.W.kla_obj "<lambda>" (X.env.qual ++ "<lambda>") params body scope (cloFrom X.env.cells scope.names []) ((X.mg "__name__").getD .none) d tv)).get? b = some o := fun b o hb e => Heap.get?_push_of_some _ (up b o hb e)
    have J := inv_table (t' := tk) (more := #[rawInt pos.line, rawInt pos.col, .ref d]) (q := X.env.qual ++ "<lambda>") I e1 up2 (Heap.get?_push_of_some _ tb) le ⟨oc, vs, t0, Heap.get?_push_of_some _ g1, g2, g3⟩
    refine k _ d _ tv _ _ J (.inr ⟨d, _, free, rfl⟩) ⟨_, by rw [upd_ne (ne_of_none e1 free), upd_same], ?_, fun p' cv hcv => ?_⟩ (Heap.get?_push_size _ rfl) ⟨d, oc, vs, t0, rfl, Heap.get?_push_of_some _ g1, g2, g3⟩ (by
      rw [upd_ne (Nat.ne_of_gt lt), upd_ne (Nat.ne_of_gt (Nat.lt_of_lt_of_le (Heap.lt_size at1) (Nat.le_trans le (Nat.le_of_lt lt))))]
      exact I.hok.fresh (Nat.le_trans le (Nat.le_of_lt lt))) (nofr _ (Nat.le_trans le (Nat.le_of_lt lt))) upd_same
    · have : (ps ++ #[rawInt pos.line, rawInt pos.col, .ref d]).toList = ps.toList ++ [rawInt pos.line, rawInt pos.col, .ref d] := by simp
      rw [this]; exact PySem.TriplesOk_snoc _ _ _ _ e2
    · have : (ps ++ #[rawInt pos.line, rawInt pos.col, .ref d]).toList = ps.toList ++ [rawInt pos.line, rawInt pos.col, .ref d] := by simp
      rw [this] at hcv
      rcases among_app _ e2 hcv with z | z
      · obtain ⟨c0, a1, a2⟩ := e3 p' cv z
        refine ⟨c0, a1, ?_⟩
        rw [upd_ne (ne_of_none a2 free), upd_ne (fun w => by rw [w, e1] at a2; exact codeO_ne ps (Option.some.inj a2).symm)]
        exact a2
      · exact ⟨d, z, upd_same⟩
end
/-- behind it, what was known is known -/
theorem made_ok {K : PySem.W.Frag} {mg : Str → Option Value} {W : List Addr} {H H1 : Hp} {μ : Mu} {mh : MH} {x0 : Str} {c P : Addr} {ps0 : Array Value} (hr : HR K mg W H μ mh) (hP : H P = some (.tbl ps0)) (m : Made H P ((x0 ++ ".<locals>.") ++ "<lambda>") H1) (t : LamX.TabS H1 P ((x0 ++ ".<locals>.") ++ "<lambda>")) (one : ∀ x ∈ mkNames, x = x0) :
    Stp H μ H1 μ ∧ HR K mg W H1 μ mh := by
  rcases m with rfl | ⟨d, ps, hd, rfl⟩
  · exact ⟨.refl _ _, hr⟩
  · have dP : P ≠ d := ne_of_none hP hd
    have kp : ∀ (a : Addr) (o : HO), H a = some o → (∀ ps, o ≠ .tbl ps) → upd (upd H P (.tbl ps)) d (LamX.CodeO d ((x0 ++ ".<locals>.") ++ "<lambda>")) a = some o := fun a o e n => by
      rw [upd_ne (ne_of_none e hd), upd_ne (fun z => by rw [z, hP] at e; exact n ps0 (Option.some.inj e).symm)]; exact e
    have th : ∀ a, H a ≠ none → upd (upd H P (.tbl ps)) d (LamX.CodeO d ((x0 ++ ".<locals>.") ++ "<lambda>")) a ≠ none := fun a e => by
      by_cases h1 : a = d
      · rw [h1, upd_same]; simp
      · rw [upd_ne h1]
        by_cases h2 : a = P
        · rw [h2, upd_same]; simp
        · rw [upd_ne h2]; exact e
    have tb : ∀ x ∈ mkNames, ∀ P', LamX.TabS H P' ((x ++ ".<locals>.") ++ "<lambda>") → LamX.TabS (upd (upd H P (.tbl ps)) d (LamX.CodeO d ((x0 ++ ".<locals>.") ++ "<lambda>"))) P' ((x ++ ".<locals>.") ++ "<lambda>") := fun x hx P' q => by
      have ex := one x hx
      subst ex
      by_cases h1 : P' = P
      · rw [h1]; exact t
      · obtain ⟨ps', q1, q2, q3⟩ := q
        refine ⟨ps', ?_, q2, fun pos cv hcv => ?_⟩
        · rw [upd_ne (ne_of_none q1 hd), upd_ne h1]; exact q1
        · obtain ⟨c0, a1, a2⟩ := q3 pos cv hcv
          exact ⟨c0, a1, kp _ _ a2 LamX.codeO_ne⟩
    have st : Stp H μ (upd (upd H P (.tbl ps)) d (LamX.CodeO d ((x0 ++ ".<locals>.") ++ "<lambda>"))) μ := ⟨fun a o h _ n => kp a o h n, tb, fun _ _ h => .inl h, fun _ h => .inl h, th⟩
    refine ⟨st, hr.len, hr.nd, hr.dead, fun i xs h => ?_, fun i t' kvs h => ?_, fun a ha => ⟨th a (hr.w a ha).1, (hr.w a ha).2⟩, fun x hx c P e => tb x hx P (hr.tab x hx c P e)⟩
    · obtain ⟨b, a, vs, e1, e2, e3⟩ := hr.lst i xs h
      exact ⟨b, a, vs, e1, kp _ _ e2 (fun _ z => nomatch z), Paired.mapP e3 fun _ _ r => st.rv hr r⟩
    · obtain ⟨a, e1, e2⟩ := hr.dct i t' kvs h
      exact ⟨a, e1, e2.mono (fun ob e => kp _ _ e (fun ps z => by subst z; rcases e2 with ⟨_, ks, w1, _⟩ | ⟨_, ks, w1, _⟩ <;> (rw [w1] at e; cases e))) fun v d r => st.rv (x := .d d) hr r⟩
theorem key_call {prog : Program} {w : World} {A : Around} {st : Shared} {f c' cc a : Addr} {q y x : Str} {params : Arguments} {scope : Scope} {cl : List (Str × Addr)} {pm tv : Value} {its : List Value} {ts : List Int} {c : Int} {t : Tok} {j1 j2 : Nat} {p1 p2 p3 p4 p5 p6 p7 : Pos}
    (ho : st.heap.get? f = some (PySem.W.kla_obj "<lambda>" q params (.Tuple [.BinOp (.Constant (.int 0) j1 p1) .Sub (.Subscript (.Name y p2) (.Name x p3) p4) p5, .Name x p6] j2 p7) scope cl pm c' tv)) (hc : st.heap.CodeRec (.ref c') q)
    (hb : bindArgs (PySem.W.kla_fn "<lambda>" q params (.Tuple [.BinOp (.Constant (.int 0) j1 p1) .Sub (.Subscript (.Name y p2) (.Name x p3) p4) p5, .Name x p6] j2 p7) scope cl pm (.ref c') tv) ⟨[.int c t], []⟩ = pure [(x, .int c t)])
    (hk : scope.kind = .function) (hco : scope.isCoroutine = false) (hge : scope.isGenerator = false) (hnc : ∀ z ∈ scope.names, z.2 ≠ .cell) (hx : scope.names.lookup x = some .local) (hy : scope.names.lookup y = some .free)
    (hcl : cl.lookup y = some cc) (hcell : st.heap.IsCell cc (some (.ref a))) (hl : st.heap.IsList a its.toArray) (hi : IntsAre its ts) (h0 : 0 ≤ c) (h1 : c < ts.length) (hz : ts.length ≤ sizeLine) (hroom : A.depth < recursionLimit) (lim : st.heap.NoLimit)
    (dx : (x == ("__debug__" : Str)) = false) (dy : (y == ("__debug__" : Str)) = false) (cy : (y == ("__classdict__" : Str)) = false) :
    wpAny (model prog w) A (call (.ref f) [.int c t]) (PySem.W.KeyPure (keyT1 ts c) st) (fun _ _ => False) st := by
  refine wpAny_call (PySem.W.kla_callFunE hroom ho rfl hco hge rfl hc ?_)
  rw [hb]
  refine wpAny_pure (wpAny_newFunctionEnv hnc (fun z hz => by rw [List.mem_singleton.mp hz]; exact hx) (fun h₁ hns hsb => ⟨lim.fresh _ hsb, ?_⟩) hk)
  have kp : ∀ b o, st.heap.get? b = some o → h₁.get? b = some o := fun b o e => hsb.extBut b o (Nat.ne_of_lt (Heap.lt_size e)) (Heap.get?_push_of_some _ e)
  show codeAny _ _ (.expr _ (PySem.W.envX q scope st.heap.objs.size f (.ref c') cl)) _ _
  have hm : ([(x, Value.int c t)].reverse.lookup x) = some (.int c t) := by simp [List.lookup]
  have hl1 : h₁.IsList a its.toArray := hl.at (fun o e => kp a o e)
  have nx : ∀ {Q : Value → Shared → Prop} {E : Value → Shared → Prop} {tk : Nat} {p : Pos}, Q (.int c t) { st with heap := h₁, toks := tk } → wpAny (model prog w) (A.deeper (PySem.W.envX q scope st.heap.objs.size f (.ref c') cl)) (eval (.Name x p) (PySem.W.envX q scope st.heap.objs.size f (.ref c') cl)) Q E { st with heap := h₁, toks := tk } := fun h => wpAny_Name (wpAny_loadName_local hk hx hns hm h) dx
  refine PySem.W.kla_codeExpr (wpAny_Tuple_spliced (args_cons (wpAny_BinOp (wpAny_Constant_int ?_)) rfl))
  refine Subscript_ (wpAny_Name (wpAny_loadName_free hk hy hcl (hcell.keeps kp) ?_ cy) dy)
  refine nx ?_
  refine item_list_intsR hl1 hi h0 h1 (by have := sizeLine_eq; omega) (fun t2 => ?_)
  · refine sub_int ?_
    refine args_cons (nx ?_) rfl
    refine args_nil ⟨by show 2 ≤ sizeLine; rw [sizeLine_eq]; decide, ?_⟩
    refine ⟨_, _, rfl, fun b o e => Heap.get?_push_of_some _ (kp b o e), ?_⟩
    exact Reads.tuple (Heap.get?_push_size _ rfl) rfl rfl (ReadsAll.cons (as := []) (bs := []) (Reads.int _ _) (ReadsAll.cons (as := []) (bs := []) (Reads.int _ _) ReadsAll.nil))
/-- what the lambda's names are -/
structure KeyS (sc scope : Scope) (y x : Str) : Prop where
  kind : scope.kind = .function
  co : scope.isCoroutine = false
  gen : scope.isGenerator = false
  nc : ∀ z ∈ scope.names, z.2 ≠ .cell
  hx : scope.names.lookup x = some .local
  hy : scope.names.lookup y = some .free
  fr : ∀ z ∈ scope.names, z.2 = .free → sc.names.lookup z.1 = some .cell ∨ sc.names.lookup z.1 = some .free
def keySB (sc scope : Scope) (y x : Str) : Bool :=
  decide (scope.kind = .function) && !scope.isCoroutine && !scope.isGenerator && (scope.names.all fun z => !decide (z.2 = .cell) && (!decide (z.2 = .free) || decide (sc.names.lookup z.1 = some .cell) || decide (sc.names.lookup z.1 = some .free))) && decide (scope.names.lookup x = some .local) && decide (scope.names.lookup y = some .free)
theorem keyS_by {sc scope : Scope} {y x : Str} (h : keySB sc scope y x = true) : KeyS sc scope y x := by
  unfold keySB at h
  simp only [Bool.and_eq_true, Bool.or_eq_true, Bool.not_eq_true', decide_eq_true_eq, decide_eq_false_iff_not, List.all_eq_true] at h
  obtain ⟨⟨⟨⟨⟨h1, h2⟩, h3⟩, h4⟩, h5⟩, h6⟩ := h
  refine ⟨h1, h2, h3, fun z hz => (h4 z hz).1, h5, h6, fun z hz e => ?_⟩
  rcases (h4 z hz).2 with (q | q) | q
  · exact absurd e q
  · exact .inl q
  · exact .inr q
theorem vals_ints_each : ∀ {ns : List Int} {us : List Value}, Vals (ns.map V.int) us → PySem.W.EachIs (fun u c => ∃ t, u = Value.int c t) us ns
  | [], _, h => by cases h; exact .nil
  | n :: ns, _, h => by
    rw [List.map_cons] at h
    cases h with
    | cons r t => exact .cons r (vals_ints_each t)
theorem each_ints_vals : ∀ {ns : List Int} {us : List Value}, PySem.W.EachIs (fun u c => ∃ t, u = Value.int c t) us ns → Vals (ns.map V.int) us
  | _, _, .nil => .nil
  | _, _, .cons r t => .cons r (each_ints_vals t)
theorem dzA_intsV {K : PySem.W.Frag} {H : Hp} {B : Addr → Prop} : ∀ {ns : List Int} {vs : List V}, DzA K H B vs (ns.map PyData.int) → vs = ns.map V.int
  | [], _, h => by cases h; rfl
  | n :: ns, _, h => by
    rw [List.map_cons] at h
    cases h with
    | cons r t => cases r; rw [dzA_intsV t]; rfl
section
variable {X : Cx} {Wx : WX}
theorem pe_ev_skey {mk : Bool} {o : Expr} {i : Nat} {c P : Addr} {x0 y x : Str} {p kpos lpos pos pa p1 p2 p3 p4 p5 p6 p7 : Pos} {j1 j2 : Nat} {scope : Scope} {fo : Env → MH → Res Vl} (rm : Rm X) (hdp : X.A.depth < recursionLimit) (hg : Gl X "sorted") (hm : X.mg "sorted" = none) (hp : plain o = true) (ho : PE X o (tE X Wx fo))
    (hN : X.N[i]? = some y) (hv : Vis X.env.scope y) (B : LamX.TabB X.base X.mg c P) (hcd : X.env.code = .ref c) (hq : X.env.qual = x0 ++ ".<locals>.") (htab : PySem.W.tabIn X.K x0 = some (c, P)) (hx0 : x0 ∈ mkNames) (one : ∀ z ∈ mkNames, z = x0) (S : KeyS X.env.scope scope y x)
    (hbind : ∀ (q : Str) (body : Expr) (scope : Scope) (cl : List (Str × Addr)) (pm cv tv u : Value), bindArgs (PySem.W.kla_fn "<lambda>" q ⟨[], [⟨x, none, pa⟩], none, [], [], none, []⟩ body scope cl pm cv tv) ⟨[u], []⟩ = pure [(x, u)])
    (dx : (x == ("__debug__" : Str)) = false) (dy : (y == ("__debug__" : Str)) = false) (cy : (y == ("__classdict__" : Str)) = false) :
    PE X (.Call (.Name "sorted" p) [o] [⟨some "key", .Lambda ⟨[], [⟨x, none, pa⟩], none, [], [], none, []⟩ (.Tuple [.BinOp (.Constant (.int 0) j1 p1) .Sub (.Subscript (.Name y p2) (.Name x p3) p4) p5, .Name x p6] j2 p7) scope lpos, kpos⟩] pos)
      (tE X Wx fun σ h => (fo σ h).bind fun x h1 => (skeyF mk i σ x h1).calm) := by
  obtain ⟨hb, hn, hd⟩ := biN_boot (b := .sorted) (x := "sorted") (ty := false) (id := "sorted") rfl
  have ha : PA X [o] (tA X Wx fun σ h => (fo σ h).bind fun x h1 => (Res.ok [] h1).bind fun xs h2 => .ok (x :: xs) h2) := pa_ev_cons hp ho pa_ev_nil
  refine ⟨fun pins s σ H Q I h => ?_⟩
  have h' : tE X Wx (fun σ h => ((fo σ h).bind fun x h1 => (Res.ok [] h1).bind fun xs h2 => .ok (x :: xs) h2).bind fun xs h1 => (match xs with | [x] => (skeyF mk i σ x h1).calm | _ => .stuck)) σ H Q := by
    have e : (fun σ h => (fo σ h).bind fun x h1 => (skeyF mk i σ x h1).calm) = (fun σ h => ((fo σ h).bind fun x h1 => (Res.ok [] h1).bind fun xs h2 => .ok (x :: xs) h2).bind fun xs h1 => (match xs with | [x] => (skeyF mk i σ x h1).calm | _ => .stuck)) := by
      funext σ h
      cases fo σ h <;> rfl
    rw [← e]
    exact h
  have h2 := Rg.one (R := rVs X) h' (Q1 := fun v H1 => ∃ W mσ μ xs mh, hR X W H1 μ mh ∧ sR X W H1 μ mσ σ ∧ rVs X W H1 μ xs v ∧ Post X W Wx (rV X W) (match xs with | [x] => (skeyF mk i mσ x mh).calm | _ => .stuck) σ H1 μ Q) fun v H1 W mσ μ xs mh hr sr rx q => ⟨W, mσ, μ, xs, mh, hr, sr, rx, q⟩
  refine wpAny_Call_Name_kw (ld_blt I hg hm hb ?_ hn hd)
  refine PyProof.Rows.callWith_kw (thn (ha.run pos pins s σ H _ I h2) fun us s1 ⟨vs, H1, I1, r1, q1⟩ => ?_) (by rw [star_cons hp]; rfl) (by rw [star_cons hp]; rfl)
  obtain ⟨W, mσ, μ, xs, mh, hr, sr, rx, q⟩ := q1
  show wpAny _ _ (evalAll ((do let v ← eval (.Lambda ⟨[], [⟨x, none, pa⟩], none, [], [], none, []⟩ (.Tuple [.BinOp (.Constant (.int 0) j1 p1) .Sub (.Subscript (.Name y p2) (.Name x p3) p4) p5, .Name x p6] j2 p7) scope lpos) X.env; standAt pos; pure v) :: [])) _ _ s1
  split at q
  · rename_i x1
    obtain ⟨z, mhz, e, fin⟩ := Post.calm q
    unfold skeyF at e
    split at e
    · rename_i tv et
      unfold skeyV at e
      split at e
      · rename_i ds xs
        split at e
        · rename_i ts cs hts hcs
          split at e
          · rename_i hc
            rw [Bool.and_eq_true, Bool.and_eq_true, decide_eq_true_eq, decide_eq_true_eq, List.all_eq_true] at hc
            obtain ⟨⟨c1, c2⟩, c3⟩ := hc
            have c1 : ∀ c ∈ cs, 0 ≤ c ∧ c < (ts.length : Int) := fun c hc => of_decide_eq_true (c1 c hc)
            have e1 := intsOf_ok hts
            have e2 := intsOf_ok hcs
            subst e1 e2
            obtain ⟨v1, ev, rv1⟩ := rvs1 rx
            subst ev
            cases rv1 with
            | lst hl1 nb1 dz1 =>
            rename_i a1 ws1
            obtain rfl := dzA_intsV dz1
            obtain ⟨wt, et', rt⟩ := sr.at_ i _ et
            cases rt with
            | lst hl2 nb2 dz2 =>
            rename_i a2 ws2
            obtain rfl := dzA_intsV dz2
            have un := rm.un
            have fr : ∀ z ∈ scope.names, z.2 = .free → ∃ a, X.env.cells.lookup z.1 = some a := fun z hz ez => by
              rcases S.fr z hz ez with k | k
              · exact I.ok.has _ (.inl k)
              · exact I.ok.has _ (.inr k)
            obtain ⟨ps0, hP, _⟩ := id (hr.tab x0 hx0 c P htab)
            have tS := hr.tab x0 hx0 c P htab
            refine wpAny_evalAll_cons (wpAny_bind (lam_own I1 B hcd (by rw [hq]) tS rfl fr fun f c' pm tvv H2 s2 I2 md t2 of2 rc2 _ _ _ => wpAny_bind (wpAny_standAt (wpAny_pure (wpAny_evalAll_nil ?_)))))
            obtain ⟨st2, hr2⟩ := made_ok (c := c) hr hP md t2 one
            have g1 := st2.rdL (W := W) (.inl hl1) nb1
            have g2 := st2.rdL (W := W) (.inl hl2) nb2
            obtain ⟨its1, rv1, hl1', hz1⟩ := I2.list (.inl g1.1)
            obtain ⟨its2, rv2, hl2', hz2⟩ := I2.list (.inl g2.1)
            obtain ⟨m, _, hl'⟩ := I2.loc
            obtain ⟨u, ru, qu⟩ := hl' i y _ hN et' hv
            have ru : u = .ref a2 := ru
            subst ru
            have ky := S.fr _ (PySem.mem_of_lookup S.hy) rfl
            have hcl : ∃ cc, (cloFrom X.env.cells scope.names []).lookup y = some cc ∧ s2.heap.IsCell cc (some (.ref a2)) := by
              rcases qu with ⟨k', _⟩ | ⟨_, c3', e', zc⟩
              · have k' : X.env.scope.names.lookup y = some .local := k'
                rcases ky with k | k <;> rw [show X.env.scope.names.lookup y = _ from k] at k' <;> cases k'
              · exact ⟨c3', NdefX.clo_has fr (PySem.mem_of_lookup S.hy) e', zc⟩
            obtain ⟨cc, hcl, hcell⟩ := hcl
            have hz2' : ts.length ≤ sizeLine := by rw [← szLine]; exact c2
            rw [Vals.ref1 r1]
            show wpAny (model X.prog X.w) X.A (call (.builtin "sorted") [.ref a1] [(Str.ofString "key", .ref f)]) (EP X pins σ Q) X.xe s2
            refine PySem.W.sorted_key_data (b := false) (keyT1 ts) hl1'.isList (vals_ints_each rv1) (PySem.W.AllAlike.of fun _ _ => by simp [PySem.W.alike, PySem.W.alikeAll, keyT1]) (PySem.W.Sortable.tuples fun _ => ⟨_, _, rfl⟩) (by rw [← szLine]; exact c3) (fun d _ => ?_) (PyProof.Rows.ksk_s1 _ _) (fun _ => PyProof.Rows.ksk_l1 _ _) (fun _ => PyProof.Rows.ksk_t1 _ _) (fun v d ⟨tk0, ev⟩ hd h tk kp => ?_) fun out c9 h9 tk kp _ hD hlen eo => ?_
            · have hd : (keyT1 ts d).depth = 1 := by simp [keyT1, PyData.depth, PyData.depthAll]
              omega
            · subst ev
              obtain ⟨d1, oc, vs', t', ed, b1, b2, b3⟩ := rc2
              exact key_call (kp _ _ of2) ⟨d1, oc, vs', t', ed, kp _ _ b1, b2, b3⟩ (hbind _ _ _ _ _ _ _ _) S.kind S.co S.gen S.nc S.hx S.hy hcl (hcell.keeps kp) (hl2'.isList.at fun o e => kp _ o e) (intsAre_of rv2) (c1 d hd).1 (c1 d hd).2 hz2' hdp (I2.nolimit.keeps kp) dx dy cy
            · have hp' : H2 (s2.heap.objs.size + 1) = none := I2.hok.fresh (Nat.le_succ _)
              have rvo := each_ints_vals eo
              have ln : ((cs.mergeSort (PySem.W.dataLe false (keyT1 ts))).map V.int).length ≤ sizeLine := by rw [List.length_map, List.length_mergeSort, ← szLine]; exact c3
              refine ⟨.ref _, upd H2 (s2.heap.objs.size + 1) (.lst ((cs.mergeSort (PySem.W.dataLe false (keyT1 ts))).map V.int)), I2.laid (t' := tk) (h' := h9) kp (Nat.le_succ _) ⟨ln, out, c9, rvo, hD⟩, rfl, ?_⟩
              have rvd := rvs_dz (mg := X.mg) (μ := μ) (W := W) (DzA.ints (K := X.K) (H := H2) (B := Mo μ W) (cs.mergeSort (PySem.W.dataLe false (keyT1 ts))))
              rw [List.map_map] at rvd
              exact new_mkl hr2 hp' rvd e fun v H' μ' st h r => fin v H' μ' (st2.trans st) h r
          · cases e
        · cases e
      · cases e
    · cases e
  · exact q.elim
end
theorem bind_c (pa : Pos) (q : Str) (body : Expr) (scope : Scope) (cl : List (Str × Addr)) (pm cv tv u : Value) : bindArgs (PySem.W.kla_fn "<lambda>" q ⟨[], [⟨"c", none, pa⟩], none, [], [], none, []⟩ body scope cl pm cv tv) ⟨[u], []⟩ = pure [(("c" : Str), u)] := rfl
end Ev

set_option Elab.async false
set_option linter.all false
set_option autoImplicit false
set_option maxRecDepth 100000
set_option maxHeartbeats 4000000
namespace Ev
open PySem PySem.Spec PyProof.Rows L2
/-! ### raise C() -/
section
variable {X : Cx} {Wx : WX}
theorem mk_own0 {C : Addr} {bmB : List Value} {B newId initId : String} {x : Str} {p pos : Pos} (F : ExcBaseFacts B newId initId bmB) (q : PySem.W.excIn X.K C bmB newId = true) (gC : X.mg x = some (.ref C)) (kC : PySem.W.keepIn X.K (.ref C) = true)
    (r : Raises X (.ref C)) (hg : Gl X x) (hdb : (x == ("__debug__" : Str)) = false) : PMk X (.Call (.Name x p) [] [] pos) (fun _ H Q => Q (.ref C) none H) := by
  intro pins s σ H Q I w
  refine wpAny_Call_Name_kw (ld_glob I hg gC ?_ hdb)
  refine PySem.W.callWith_K0 (first := []) I.kIn kC ?_
  show wpAny _ _ (call (.ref C) []) _ _ _
  obtain ⟨bm, N, nm, qn, bs, hdct, sn, sub, ab, col, dd, k0, k1, k2, k3, k5, mN, hC, hN, hni, T⟩ := exc_obj I.kIn q
  exact wpAny_call_exc_subT F T hC hN hni (fun h' e hm => mk_of I hm r w (I.hok.gone hm.new)) (Nat.zero_le _)
/-- a class of the program's errors -/
structure ErrC (K : PySem.W.Frag) (mg : Str → Option Value) (c : Str) (C : Addr) : Prop where
  g : mg c = some (.ref C)
  x : PySem.W.excIn K C [.type "ValueError", .type "Exception", .type "BaseException", .type "object"] "ValueError.__new__" = true
  k : PySem.W.keepIn K (.ref C) = true
  b : PySem.W.subIn K (.ref C) (.type "BaseException") = some true
  t : PySem.W.typeIn K (.ref C) = some (.type "type")
end
/-! ### try: .. except x as n: .. except y as m: .. -/
abbrev SuT := Addr → Value → Option Addr → TS
/-- what one clause wants behind it: its name is gone -/
def gone (i : Nat) (D : Ends) : Ends := { nx := fun σ' H' => D.nx (σ'.set i none) H', rt := D.rt, bk := fun σ' H' => D.bk (σ'.set i none) H', ct := fun σ' H' => D.ct (σ'.set i none) H' }
def wNam (K : PySem.W.Frag) (Wout : WX) (D : Ends) : List (Value × Nat × SuT) → WX
  | [] => Wout
  | (c, i, ts) :: r => fun cls d σ H => ∃ b, PySem.W.exmOne K cls c = some b ∧ (b = true → ∀ a, H a = none → ts a cls d (gone i D) (σ.set i (some (.ref a))) H) ∧ (b = false → wNam K Wout D r cls d σ H)
inductive HdsN (X : Cx) : List ExceptHandler → List (Value × Nat × SuT) → Prop
  | nil : HdsN X [] []
  | cons {x n : Str} {c : Value} {i : Nat} {ts : SuT} {st0 : Stmt} {su : List Stmt} {p1 p2 : Pos} {hds : List ExceptHandler} {l : List (Value × Nat × SuT)} (hc : Names X x c) (hi : X.N[i]? = some n) (hln : X.env.kindOf n = some .local)
      (hsu : ∀ (a : Addr) (oe : Obj) (cls : Value) (d : Option Addr) (pn : List (Addr × Obj)), Zc cls d oe → (∃ vs, oe.data = .fields vs) → PSs (X.suite a ((a, oe) :: pn)) (st0 :: su) (ts a cls d)) (r : HdsN X hds l) :
      HdsN X (.ExceptHandler (some (.Name x p1)) (some n) (st0 :: su) p2 :: hds) ((c, i, ts) :: l)
section
variable {X : Cx} {body : List Stmt} {h0 : ExceptHandler} {hds : List ExceptHandler} {l : List (Value × Nat × SuT)} {pos : Pos} {tb : WX → TS} {Wout : WX}
theorem ps_try_nam (hs : X.stack = X.env :: X.outer) (hf : X.env.frame = some X.env.locals) (hN : X.N.Nodup) (tk : Takes X Wout)
    (hb : ∀ (W : WX) (pn : List (Addr × Obj)) (xe : Value → Shared → Prop), Takes (X.tr pn xe) W → PassesOwn (model X.prog X.w) X.A X.env xe → PSs (X.tr pn xe) body (tb W))
    (hh : HdsN X (h0 :: hds) l) : PS X (.Try body (h0 :: hds) [] [] pos) (fun D σ H => tb (wNam X.K Wout D l) D σ H) := by
  refine ⟨fun pins s σ H D I w0 => ?_⟩
  have ok := I.ok
  have frm : X.A.frames = some (X.env :: X.outer) := by rw [← hs]; exact ok.frames
  refine wpAny_Try_except (wpAny_mono ((hb (wNam X.K Wout D l) (X.pn ++ pins) (fun e s₁ => wpAny (model X.prog X.w) X.A (noteFrame e X.env) (fun _ s₂ =>
    wpAny (model X.prog X.w) X.A (setFlight e none) (fun _ s₃ => wpAny (model X.prog X.w) X.A (handleBy e X.env (h0 :: hds)) (SP X pins D) X.xe s₃) X.xe s₂) X.xe s₁) (fun u s' xx => ?_) PassesOwn.looking).run [] s σ H D (I.toTry _) w0) (fun f s1 z => ?_) (fun e s1 z => z))
  · obtain ⟨a, B, sI, pins', σ', H', cls, d, rfl, J0, nb, up, sky, na, os, ag, w⟩ := xx
    have J := J0.ofTry ok
    rw [show (X.tr (X.pn ++ pins) _).stack = X.env :: X.outer from hs] at sky
    show wpAny (model X.prog X.w) X.A (noteFrame (.ref a) X.env) _ _ _
    refine Sky.land Zc.steady frm hf sky fun h3 fl3 up3 => ?_
    have J3 : Inv X pins σ' H' { s' with heap := h3 } := J.landed nb fl3.1 (up.trans up3) os ag
    obtain ⟨oe3, vs3, he3, hz3, hd3⟩ := fl3.there
    have nfr : a ∉ frs (X.env :: X.outer) := fun hm => by
      obtain ⟨_, o', e', hnf⟩ := fl3.2.2.1.mem hm
      rw [he3] at e'
      cases e'
      exact hnf _ hd3
    have nL : a ≠ X.env.locals := fun z => nfr (List.mem_filterMap.mpr ⟨X.env, List.mem_cons_self, by rw [hf, z]⟩)
    have nF : a ∉ X.fs := fun hm => by
      obtain ⟨e, he, q⟩ := List.mem_filterMap.mp hm
      exact nfr (List.mem_filterMap.mpr ⟨e, List.mem_cons_of_mem _ he, q⟩)
    have S3 := J3.suite he3 hd3 na nL nF
    have go : ∀ {hds' : List ExceptHandler} {l' : List (Value × Nat × SuT)}, HdsN X hds' l' → wNam X.K Wout D l' cls d σ' H' → wpAny (model X.prog X.w) X.A (handleBy (.ref a) X.env hds') (SP X pins D) X.xe { s' with heap := h3 } := by
      intro hds' l' hk
      induction hk with
      | nil =>
        intro w
        refine wpAny_handleBy_nil ?_
        obtain ⟨_, _, _, oe, vs, T, oT, ts', he, _, hd, h1, _⟩ := id fl3
        unfold PySem.passOn
        refine wpAny_bind (wpAny_field he hd h1 ?_)
        rw [if_neg (show ¬ ((Value.ref T == Value.none) = true) from by simp)]
        have fin : wpAny (model X.prog X.w) X.A (setFlight (.ref a) X.env.frame) (fun _ s4 => wpAny (model X.prog X.w) X.A (throw (.ref a) : Sem Flow) (SP X pins D) X.xe s4) X.xe { s' with heap := h3 } := by
          rw [hf]
          refine HandSPX.setFlight_upZ fl3 fun h4 hh4 up4 => wpAny_throw (tk _ _ ⟨a, B, sI, pins, σ', H', cls, d, rfl, J, nb, (up.trans up3).trans up4, .inr (.inr (by rw [hs]; exact hh4)), na, os, ag, w⟩)
        first
          | exact wpAny_bind (wpAny_pure (wpAny_bind fin))
          | exact wpAny_bind fin
      | @cons x n c i ts st0 su p1 p2 hds2 l2 hc hi hln hsu r ih =>
        intro w
        obtain ⟨b, hb1, hyes, hno⟩ := w
        refine wpAny_handleBy_cons (codeAny_handlers_test ?_) (by intro q; cases q)
        have LT : PySem.W.Looks (model X.prog X.w) h3 (typeOf (.ref a)) cls := fun A Q E s k q => wpAny_typeOf_ref (k _ _ he3) (by rw [hz3.1]; exact q)
        have LM := PySem.W.exm_one (M := model X.prog X.w) (J3.kIn) LT hb1
        have test : ∀ {Q E : Value → Shared → Prop}, Q c { s' with heap := h3 } → wpAny (model X.prog X.w) (X.A.mark (some (.ref a))) (eval (.Name x p1) X.env) Q E { s' with heap := h3 } := fun {Q E} q => by
          obtain ⟨hg, hdbg, hm | ⟨hm, hv, hnn⟩⟩ := hc
          · exact ld_glob (X := X.suite a ((a, oe3) :: (X.pn ++ pins))) S3 hg hm q hdbg
          · exact ld_blt (X := X.suite a ((a, oe3) :: (X.pn ++ pins))) S3 hg hm hv q hnn hdbg
        refine test (LM.here ?_)
        cases b with
        | false =>
          show wpAny _ X.A (handleBy (.ref a) X.env hds2) _ _ _
          exact ih (hno rfl)
        | true =>
          refine codeAny_handlers_suite_as (HandSPX.lands_againZ fl3 fun h4 fl4 up4 => ?_)
          have J4 : Inv X pins σ' H' { s' with heap := h4 } := J.landed nb fl4.1 ((up.trans up3).trans up4) os ag
          obtain ⟨oe4, vs4, he4, hz4, hd4⟩ := fl4.there
          refine store_ok (X := X.suite a ((a, oe4) :: (X.pn ++ pins))) (v := .ref a) (J4.suite he4 hd4 na nL nF) hN hi (.inl hln) rfl (fun s5 S5 => ?_) (.inr hln)
          refine wpAny_mono ((hsu a oe4 cls d (X.pn ++ pins) hz4 ⟨_, hd4⟩).run [] s5 _ H' _ S5 (hyes rfl a na)) (fun f s6 z => ?_) (fun _ _ z => False.elim z)
          have fin : ∀ {σ6 : L2.St} {H6 : Hp} {Q : Shared → Prop}, Inv (X.suite a ((a, oe4) :: (X.pn ++ pins))) [] σ6 H6 s6 → (∀ s7, Inv X pins (σ6.set i none) H6 s7 → Q s7) →
              wpAny (model X.prog X.w) X.A (do bindName X.env n .none; unbindBehindTheSuite X.env n p2) (fun _ s7 => Q s7) X.xe s6 := fun {σ6 H6 Q} S6 hq => gone_ok (S6.unsuite ok) hN hi hln hq
          cases f with
          | ret u =>
            obtain ⟨v6, σ6, H6, S6, r6, q6⟩ := z
            exact fin S6 fun s7 J7 => ⟨_, _, _, J7, r6, q6⟩
          | next =>
            obtain ⟨σ6, H6, S6, q6⟩ := z
            exact fin S6 fun s7 J7 => ⟨_, _, J7, q6⟩
          | brk =>
            obtain ⟨σ6, H6, S6, q6⟩ := z
            exact fin S6 fun s7 J7 => ⟨_, _, J7, q6⟩
          | cont =>
            obtain ⟨σ6, H6, S6, q6⟩ := z
            exact fin S6 fun s7 J7 => ⟨_, _, J7, q6⟩
    exact go hh w
  · cases f with
    | ret u =>
      obtain ⟨v, σ', H', J, r, q⟩ := z
      exact ⟨v, σ', H', J.ofTry ok, r, q⟩
    | next =>
      obtain ⟨σ', H', J, q⟩ := z
      exact wpAny_execs_nil ⟨σ', H', J.ofTry ok, q⟩
    | brk =>
      obtain ⟨σ', H', J, q⟩ := z
      exact ⟨σ', H', J.ofTry ok, q⟩
    | cont =>
      obtain ⟨σ', H', J, q⟩ := z
      exact ⟨σ', H', J.ofTry ok, q⟩
end
/-! ### a(), a the lambda that the def got: the wish about errors may ask the slots -/
section
open LamX
variable {X : Cx} {pins : List (Addr × Obj)} {σ : L2.St} {H : Hp} {s : Shared}
theorem pe_actS {CXg : CXT} {Eg : XK} {Ng : List Str} {qg : Str} {sg : Scope} {g f c' : Addr} {cdg pm ctv : Value} {params : Arguments} {body : Expr} {scope : Scope} {k i : Nat} {a : Str} {pn : List (Addr × Obj)} {xe : Value → Shared → Prop} {W : WX} {tb : XK → TE} {p1 p2 : Pos}
    (I : Inv X pins σ H s) (L : LamS X.env.scope scope) (hf : s.heap.get? f = some (PySem.W.kla_obj "<lambda>" (X.env.qual ++ "<lambda>") params body scope (cloFrom X.env.cells scope.names []) pm c' ctv)) (hfn : H f = none) (hfr : f ∉ frs X.stack)
    (hbind : bindArgs (PySem.W.kla_fn "<lambda>" (X.env.qual ++ "<lambda>") params body scope (cloFrom X.env.cells scope.names []) pm (.ref c') ctv) ⟨[], []⟩ = pure [])
    (tk : Takes ((cxOf CXg X.prog X.w X.K X.mg X.base Ng qg sg g cdg X.A X.stack s H Eg).tr pn xe) W) (hr : Room (k + 1) (X.A.deeper (envOfC qg sg s.heap.objs.size g cdg)))
    (hbody : ∀ (A : Around) (outer : List PySem.Env) (s : Shared) (H : Hp) (E : XK), Room k (A.deeper (lamEnv X scope s.heap.objs.size f c')) → PE (lamCx X A outer s H E scope f c') body (tb E))
    (hN : Ng[i]? = some a) (hv : Vis sg a) (hd : (a == ("__debug__" : Str)) = false) (hcd : (a == ("__classdict__" : Str)) = false) :
    PE ((cxOf CXg X.prog X.w X.K X.mg X.base Ng qg sg g cdg X.A X.stack s H Eg).tr pn xe) (.Call (.Name a p1) [] [] p2)
      (fun σZ HZ Q => ∃ E : XK, (∀ cls d H', E cls d H' → W cls d σZ H') ∧ σZ[i]? = some (some (.ref f)) ∧ HZ c' = some (CodeO c' (X.env.qual ++ "<lambda>")) ∧ tb E σ HZ Q) := by
  refine ⟨fun pinsZ sZ σZ HZ Q IZ w => ?_⟩
  obtain ⟨E, hW, hs, hc, ht⟩ := w
  refine wpAny_Call_Name_kw (thn ((pe_var (pos := p1) (i := i) hN hv hd hcd).run pinsZ sZ σZ HZ (fun v H1 => v = .ref f ∧ H1 = HZ) IZ ⟨.ref f, hs, rfl, rfl⟩) fun u s1 ⟨v, H1, I1, r1, ev, eH⟩ => ?_)
  subst ev
  rw [eH] at I1
  cases (show u = Value.ref f from r1)
  have of1 := I1.base.keep f _ hf hfn hfr (fun z => nomatch (show f ∈ ([] : List Addr) from z))
  have un : Un (frs X.stack) [] H HZ s.heap s1.heap := I1.base
  obtain ⟨⟨oc, vs, t, hoc, hdc, hvc⟩, _, _⟩ := I1.hok c' _ hc
  have rc : codeAny (model X.prog X.w) (X.A.deeper (envOfC qg sg s.heap.objs.size g cdg)) (.call (.ref f) ⟨[], []⟩) (CR (L2.CX X.prog X.w) (envOfC qg sg s.heap.objs.size g cdg :: X.stack) X.prog X.w HZ s1 Q E) s1 := by
    refine PySem.W.kla_callFunE hr.depth of1 rfl L.co L.gen rfl ⟨c', oc, vs, t, rfl, hoc, hdc, hvc⟩ ?_
    rw [hbind]
    refine wpAny_pure (wpAny_newFunctionEnv (fun y hy => (L.own y hy).2) (fun y hy => absurd hy (by simp)) (fun h₁ hns hsb => ⟨I1.nolimit.fresh _ hsb, ?_⟩) L.kind)
    show codeAny _ _ (.expr body (lamEnv X scope s1.heap.objs.size f c')) _ _
    have J := lam_start2 (A := X.A.deeper (envOfC qg sg s.heap.objs.size g cdg)) (outer := envOfC qg sg s.heap.objs.size g cdg :: X.stack) (E := E) (tk := s1.toks + ([] : List (Str × Value)).length) (scope := scope) (f := f) (c' := c') I L I1.env0 hr.hd un hns fun b o e => hsb.extBut b o (Nat.ne_of_lt (Heap.lt_size e)) (Heap.get?_push_of_some _ e)
    refine PySem.W.kla_codeExpr (wpAny_mono ((hbody _ _ s1 HZ E (hr.deeper _)).run [] _ _ HZ Q J ht) (fun v s' hq => ?_) fun e s' hq => hq)
    obtain ⟨w', H', J', rv, q⟩ := hq
    exact ⟨w', H', J'.os, J'.bare, J'.base, J'.hok, rv, q⟩
  refine PySem.W.callWith_F0 ⟨_, _, _, _, of1⟩ (wpAny_call (codeAny_mono rc fun r s' hq => ?_))
  cases r with
  | error e => exact tk e s' (XE.of_call I1 hW hq)
  | ok fl =>
    cases fl with
    | ret u => exact I1.after hq
    | next => exact False.elim hq
    | brk => exact False.elim hq
    | cont => exact False.elim hq
end
end Ev

set_option Elab.async false
set_option linter.all false
set_option autoImplicit false
set_option maxRecDepth 100000
set_option maxHeartbeats 4000000
namespace Ev
open PySem PySem.Spec PyProof.Rows L2 LamX
/-! ### isinstance(e, C) -/
/-- whether an error of the class at D is a C -/
def IsC (K : PySem.W.Frag) (mg : Str → Option Value) (D : Addr) (C : Str) (b : Bool) : Prop :=
  (∃ C' : Addr, mg C = some (.ref C') ∧ PySem.W.kitOne K (.ref D) (.ref C') = some b ∧ PySem.W.exmOne K (.ref D) (.ref C') = some b) ∨ (C = "ValueError" ∧ mg C = none ∧ PySem.W.kitOne K (.ref D) (.type "ValueError") = some b)
section
variable {X : Cx} {Wx : WX}
theorem ve_boot : bootBuiltins ("ValueError" : Str) = some (.type "ValueError") := by rfl
theorem pe_ev_isE {ex : Option (Nat × Str)} {sub : Str → Str → Option Bool} {i : Nat} {c n : Str} {p p1 p2 pos : Pos} (hex : ∀ a c0, ex = some (a, c0) → ∃ D, CallR X (.builtin "isinstance") (rIsE X.K D a) ∧ ∀ C b, sub c0 C = some b → IsC X.K X.mg D C b)
    (hi : X.mg "isinstance" = none) (hg : Gl X "isinstance") (hN : X.N[i]? = some n) (hv : Vis X.env.scope n) (hd : (n == ("__debug__" : Str)) = false) (hcd : (n == ("__classdict__" : Str)) = false) (hgc : Gl X c) (hdc : (c == ("__debug__" : Str)) = false) :
    PE X (.Call (.Name "isinstance" p) [.Name n p1, .Name c p2] [] pos) (tE X Wx fun σ h => isEF ex sub i c σ h) := by
  have boot : bootBuiltins ("isinstance" : Str) = some (.builtin "isinstance") := by rfl
  refine ⟨fun pins s σ H Q I w => ?_⟩
  obtain ⟨W, μ, mσ, mh, hr, sr, po⟩ := w
  dsimp only at po
  unfold isEF at po
  split at po
  · rename_i a a0 c0 e1
    split at po
    · rename_i ea
      subst ea
      split at po
      · rename_i b hb
        obtain ⟨D, cr, hsub⟩ := hex _ _ rfl
        obtain ⟨v, e2, rv⟩ := sr.at_ i _ e1
        have rv : v = .ref a := rv
        subst rv
        have fin : Q (.bl b) H := po.ok hr (Dz.bl b)
        rcases hsub _ _ hb with ⟨C', k1, k2, _⟩ | ⟨rfl, k1, k2⟩
        · exact (pe_callB cr hg hi boot (pa_cons (pe_var hN hv hd hcd) (pa_cons (pe_glob (v := .ref C') hgc k1 rfl hdc) pa_nil rfl) rfl) (by decide) (by decide) rfl rfl).run pins s σ H Q I
            ⟨.ref a, e2, .ref C', .ref C', b, rfl, fun u r => r, k2, fin⟩
        · exact (pe_callB cr hg hi boot (pa_cons (pe_var hN hv hd hcd) (pa_cons (pe_bltn (v := .ty "ValueError") hgc k1 ve_boot rfl (by decide) hdc) pa_nil rfl) rfl) (by decide) (by decide) rfl rfl).run pins s σ H Q I
            ⟨.ref a, e2, .ty "ValueError", .type "ValueError", b, rfl, fun u r => r, k2, fin⟩
      · exact po.elim
    · exact po.elim
  · exact po.elim
end
/-! ### f(lambda: body) -/
abbrev wordZ (X : Cx) (Ng : List Str) (x : Str) (sg : Scope) (g : Addr) (cdg : Value) (s : Shared) (H : Hp) : Cx := cxOf C8.CX0 X.prog X.w X.K X.mg X.base Ng x sg g cdg X.A X.stack s H C8.E0
/-- what the def does with what the lambda comes to -/
def GivesW (X : Cx) (Ng : List Str) (x : Str) (sg : Scope) (g : Addr) (cdg : Value) (bg : List Stmt) (a : Str) (wd : Res Vl → Nat → Res Vl) : Prop :=
  ∀ (f c' : Addr) (q : Str) (s : Shared) (H : Hp) (Q : VK) (r : Res Vl) (W : List Addr) (μ : Mu) (mh : MH) (tl : XK → Hp → VK → Prop), Room 1 (X.A.deeper (envOfC x sg s.heap.objs.size g cdg)) → HR X.K X.mg W H μ mh →
    (∀ (E : XK) (H' : Hp) (μ' : Mu) (Q' : VK), Stp H μ H' μ' → HR X.K X.mg W H' μ' mh → PostC X.K X.mg W r H' μ' Q' E → tl E H' Q') →
    (∀ (Wx : WX) (pn : List (Addr × Obj)) (xe : Value → Shared → Prop) (p1 p2 : Pos), Takes ((wordZ X Ng x sg g cdg s H).tr pn xe) Wx →
      PE ((wordZ X Ng x sg g cdg s H).tr pn xe) (.Call (.Name a p1) [] [] p2) (fun σZ HZ Q => ∃ E : XK, (∀ cls d H', E cls d H' → Wx cls d σZ H') ∧ σZ[0]? = some (some (.ref f)) ∧ HZ c' = some (CodeO c' q) ∧ tl E HZ Q)) →
    H c' = some (CodeO c' q) → ∀ (z : Vl) (mhz : MH), wd r mh.length = .ok z mhz → (∀ v H' μ', Stp H μ H' μ' → HR X.K X.mg W H' μ' mhz → RV X.K X.mg W H' μ' z v → Q v H') →
    ∃ t, PSs (wordZ X Ng x sg g cdg s H).nox bg t ∧ t { nx := fun _ H' => Q .non H', rt := Q } (L2.start Ng [.ref f]) H
section
variable {X : Cx} {Wx : WX}
theorem Post.ofC {W : List Addr} {E : XK} {res : Res Vl} {σ : L2.St} {H : Hp} {μ : Mu} {Q : VK} (p : PostC X.K X.mg W res H μ Q E) : Post X W (fun cls d _ H => E cls d H) (rV X W) res σ H μ Q := by
  cases res with
  | ok a mh => exact p
  | exc c xs mh => exact p
  | stuck => exact p
theorem pe_ev_word {x a : Str} {g c P : Addr} {k : Nat} {pg : Arguments} {bg : List Stmt} {sg : Scope} {dV kV doc pm cdv ct oc : Value} {an od : Option Addr} {osl : Array (Option Value)} {Ng : List Str} {x0 : Str} {fa : Env → MH → Res Vl} {wd : Res Vl → Nat → Res Vl}
    {body : Expr} {scope : Scope} {p lpos pos : Pos} (hg : Gl X x) (hdb : (x == ("__debug__" : Str)) = false) (hm : X.mg x = some (.ref g)) (hk : PySem.W.keepIn X.K (.ref g) = true)
    (lk : X.K.lookup g = some ⟨oc, od, .func (PySem.W.fnOf x x pg bg sg dV kV doc pm an cdv ct), osl⟩) (hcg : PySem.W.codeIn X.K cdv x = true) (hb : L2.Binds X.K (PySem.W.fnOf x x pg bg sg dV kV doc pm an cdv ct) [a] []) (Sg : FnScope Ng [a] sg) (hNg : Ng[0]? = some a) (hva : Vis sg a)
    (had : (a == ("__debug__" : Str)) = false) (hac : (a == ("__classdict__" : Str)) = false) (hG : GivesW X Ng x sg g cdv bg a wd)
    (B : TabB X.base X.mg c P) (hcd : X.env.code = .ref c) (hq : X.env.qual = x0 ++ ".<locals>.") (htab : PySem.W.tabIn X.K x0 = some (c, P)) (hx0 : x0 ∈ mkNames) (one : ∀ z ∈ mkNames, z = x0) (hr : Room (k + 2) X.A) (L : LamS X.env.scope scope)
    (hbody : ∀ (A : Around) (outer : List PySem.Env) (s : Shared) (H : Hp) (E : XK) (f c' : Addr), Room k (A.deeper (lamEnv X scope s.heap.objs.size f c')) → PE (lamCx X A outer s H E scope f c') body (tE X (fun cls d _ H => E cls d H) fa)) :
    PE X (.Call (.Name x p) [.Lambda ⟨[], [], none, [], [], none, []⟩ body scope lpos] [] pos) (tE X Wx fun σ h => (wd (fa σ h) h.length).calm) := by
  refine ⟨fun pins s σ H Q I ⟨W, μ, mσ, mh, hr0, sr0, po⟩ => ?_⟩
  obtain ⟨z, mhz, ez, fin⟩ := Post.calm po
  refine wpAny_Call_Name_kw (ld_glob I hg hm ?_ hdb)
  refine PySem.W.callWith_K (h₀ := X.base) I.ok.mod.kin hk ?_ (by rfl) (by rfl)
  show wpAny _ _ (spliced ((false, eval (.Lambda ⟨[], [], none, [], [], none, []⟩ body scope lpos) X.env) :: backTo pos (starEach [] X.env))) _ _ s
  obtain ⟨ps0, hP, _⟩ := id (hr0.tab x0 hx0 c P htab)
  have tS := hr0.tab x0 hx0 c P htab
  refine Calls.spliced_cons (lam_own I B hcd (by rw [hq]) tS rfl (L.has I.ok) fun f c' pm' tv H1 s' I1 md t2 hf rc hfn hfr hco => ?_)
  refine Calls.spliced_nil ⟨I1.kIn, ?_⟩
  obtain ⟨st1, hr1⟩ := made_ok (c := c) hr0 hP md t2 one
  have rc2 : codeAny (model X.prog X.w) X.A (.call (.ref g) ⟨[.ref f], []⟩) (CR C8.CX0 X.stack X.prog X.w H1 s' Q C8.E0) s' := by
    refine run_ofS (N := Ng) (ps := [a]) (us := [.ref f]) (vs := [.ref f]) lk hcg Sg hr I1.env0 (hb s' [.ref f] I1.kIn rfl) (.cons rfl .nil) rfl fun hr' => ?_
    obtain ⟨t', ht', hq'⟩ := hG f c' (X.env.qual ++ "<lambda>") s' H1 Q (fa mσ mh) W μ mh (fun E H' Q' => tE X (fun cls d _ H => E cls d H) fa σ H' Q') (hr'.mono (by omega)) hr1
      (fun E H' μ' Q' st hr' p => ⟨W, μ', mσ, mh, hr', (sr0.step st1 hr0).step st hr1, Post.ofC p⟩)
      (fun Wx pn xe p1 p2 tk => pe_actS (i := 0) I1 L (by rw [hq]; exact hf) hfn hfr rfl tk hr' (fun A outer s H E hr2 => hbody A outer s H E f c' hr2) hNg hva had hac)
      (by rw [hq]; exact hco) z mhz ez (fun v H' μ' st hrz rv => fin v H' μ' (st1.trans st) hrz rv)
    exact ⟨t', ht'.nox, hq'⟩
  refine wpAny_call (codeAny_mono rc2 fun r s2 hq => ?_)
  cases r with
  | error e => exact (show False from hq).elim
  | ok fl =>
    cases fl with
    | ret u => exact I1.after hq
    | next => exact False.elim hq
    | brk => exact False.elim hq
    | cont => exact False.elim hq
end
end Ev

set_option Elab.async false
set_option linter.all false
set_option autoImplicit false
set_option maxRecDepth 100000
set_option maxHeartbeats 2000000
namespace Ev
open PySem PySem.Spec PyProof.Rows L2
/-- the defs, the constants of the program -/
structure Pg where
  df : Str → Bool
  gc : Str → Bool
  /-- classes of errors -/
  rs : Str → Bool := fun _ => false
  /-- defs that get a lambda -/
  wf : Str → Bool := fun _ => false
/-- where an expression stands -/
structure Gm where
  N : List Str
  sc : Scope
  fnb : Str → Bool
  /-- no error is handled; lambdas may be made; no def is called -/
  cm : Bool := true
  mkr : Bool := false
  nc : Bool := false
def Gm.blk (Γ : Gm) (scope : Scope) : Gm := { N := Γ.N, sc := relS scope Γ.sc, fnb := fun x => scope.names.lookup x == some .cell, cm := Γ.cm, nc := Γ.nc }
def Gm.lam (Γ : Gm) (scope : Scope) : Gm := { N := Γ.N, sc := scope, fnb := fun _ => false, nc := true }
def visB (sc : Scope) (x : Str) : Bool := match sc.names.lookup x with
  | some .local => true
  | some .cell => true
  | some .free => true
  | _ => false
def locB (sc : Scope) (x : Str) : Bool := match sc.names.lookup x with
  | some .local => true
  | some .cell => true
  | _ => false
def isLoc (sc : Scope) (x : Str) : Bool := match sc.names.lookup x with
  | some .local => true
  | _ => false
def glB (sc : Scope) (x : Str) : Bool := match sc.names.lookup x with
  | some .globalImplicit => !(x == ("__debug__" : Str))
  | _ => false
def nmB (Γ : Gm) (i : Nat) (x : Str) : Bool := decide (Γ.N[i]? = some x) && visB Γ.sc x && !(x == ("__debug__" : Str)) && !(x == ("__classdict__" : Str))
def stB (Γ : Gm) (i : Nat) (x : Str) : Bool := decide (Γ.N[i]? = some x) && locB Γ.sc x && (Γ.fnb x || isLoc Γ.sc x)
def nmsB (Γ : Gm) : List Nat → List Expr → Bool
  | [], [] => true
  | i :: is, e :: es => (match e with | .Name x _ => stB Γ i x | _ => false) && nmsB Γ is es
  | _, _ => false
def tgB (Γ : Gm) (t : Tg) (e : Expr) : Bool := match t, e with
  | .nm i, .Name x _ => stB Γ i x
  | .tp is, .Tuple es _ _ => nmsB Γ is es && Γ.cm
  | _, _ => false
def tgI : Tg → List Nat
  | .nm i => [i]
  | .tp is => is
def isTup : Expr → Bool
  | .Tuple .. => true
  | _ => false
def ownN (N : List Str) (own : List Nat) : List (Str × Nat) := own.map fun i => ((N[i]?).getD "", i)
/-- sorted(v, key=lambda c: (0 - a[c], c)) -/
def skOf (Γ : Gm) (i : Nat) : Expr → Option Expr
  | .Call (.Name y _) [v] [⟨some k, .Lambda ⟨[], [⟨c, none, _⟩], none, [], [], none, []⟩ (.Tuple [.BinOp (.Constant (.int z) _ _) op (.Subscript (.Name a _) (.Name b _) _) _, .Name d _] _ _) scope _, _⟩] _ =>
    if (Γ.mkr && decide (k = "key") && decide (y = "sorted") && glB Γ.sc y && plain v && decide (z = 0) && decide (op = .Sub) && decide (c = "c") && decide (b = c) && decide (d = c) && nmB Γ i a && keySB Γ.sc scope a c) = true then some v else none
  | _ => none
/-- f(lambda: g(vs)) -/
def wdOf (Γ : Gm) (f g : Str) : Expr → Option (List Expr × Scope)
  | .Call (.Name y _) [.Lambda ⟨[], [], none, [], [], none, []⟩ (.Call (.Name z _) (v :: vs) [] _) scope _] [] _ =>
    if (Γ.mkr && decide (y = f) && decide (z = g) && glB Γ.sc f && glB scope g && LamX.lamSB Γ.sc scope) = true then some (v :: vs, scope) else none
  | _ => none
section
variable (P : Pg)
mutual
def chk (Γ : Gm) (x : Ex) (e : Expr) : Bool :=
  match x with
  | .var i => (match e with | .Name y _ => nmB Γ i y | _ => false)
  | .int i => (match e with | .Constant (.int j) _ _ => decide (i = j) | _ => false)
  | .bl b => (match e with | .Constant (.bool c) _ _ => b == c | _ => false)
  | .non => (match e with | .Constant .none _ _ => true | _ => false)
  | .str s => (match e with | .Constant (.str t) _ _ => decide (s = t) | _ => false)
  | .gc y => (match e with | .Name z _ => decide (y = z) && P.gc y && glB Γ.sc y | _ => false)
  | .dfn _ => false
  | .bin op _ a b => (match e with | .BinOp l o r _ => decide (o = opOf op) && chk Γ a l && chk Γ b r | _ => false)
  | .neg a => (match e with | .UnaryOp o r _ => decide (o = .USub) && chk Γ a r | _ => false)
  | .cmp op a b => (match e with | .Compare l [o] [r] _ => decide (o = copOf op) && !behindInMarks o r && chk Γ a l && chk Γ b r | _ => false)
  | .chain o1 o2 a b c => (match e with | .Compare l [p, q] [m, r] _ => decide (p = copOf o1) && decide (q = copOf o2) && !lastMarks [p, q] [m, r] && chk Γ a l && chk Γ b m && chk Γ c r | _ => false)
  | .andL es => (match e with | .BoolOp o (v :: vs) _ => decide (o = .And) && chks Γ es (v :: vs) | _ => false)
  | .orL es => (match e with | .BoolOp o (v :: vs) _ => decide (o = .Or) && chks Γ es (v :: vs) | _ => false)
  | .not a => (match e with | .UnaryOp o r _ => decide (o = .Not) && chk Γ a r | _ => false)
  | .ite c a b => (match e with | .IfExp t u v _ => chk Γ c t && chk Γ a u && chk Γ b v | _ => false)
  | .tup es => (match e with | .Tuple vs _ _ => chks Γ es vs | _ => false)
  | .lst _ es => (match e with | .List vs _ => chks Γ es vs | _ => false)
  | .idx a b => (match e with | .Subscript u v _ => plain v && chk Γ a u && chk Γ b v | _ => false)
  | .sli _ a lo hi => (match e with | .Subscript u (.Slice l r none _) _ => chk Γ a u && chko Γ lo l && chko Γ hi r | _ => false)
  | .call f es => (match e with | .Call (.Name y _) (v :: vs) [] _ => decide (y = f) && P.df f && glB Γ.sc f && chks Γ es (v :: vs) && !Γ.nc | _ => false)
  | .bi b _ es => (match e with | .Call (.Name y _) (v :: vs) [] _ => (match biN b with | some (n, _, _) => decide (y = n) | none => false) && glB Γ.sc y && chks Γ es (v :: vs) && Γ.cm | _ => false)
  | .isi a ts => (match e with | .Call (.Name y _) [u, t] [] _ => decide (y = "isinstance") && glB Γ.sc y && tysB (glB Γ.sc) ts t && plain u && chk Γ a u | _ => false)
  | .met m o es => (match e with
    | .Call (.Attribute u y ap) vs [] cp => decide (y = (meN m).1) && attrOk u && (ap.endLine == cp.line) && decide (vs.length < 29) && chk Γ o u && chks Γ es vs
    | _ => false)
  | .lc _ elt tg it ifs own => (match e with
    | .ListComp u [⟨t, i, cs, 0⟩] scope _ => plain i && blkC Γ.N Γ.sc scope (ownN Γ.N own) && (tgI tg).all (fun i => own.contains i) && tgB (Γ.blk scope) tg t && decide (cs.length ≤ 1) && chki Γ it (isTup t) i && chks (Γ.blk scope) ifs cs && chk (Γ.blk scope) elt u && Γ.cm
    | _ => false)
  | .rg tu _ es => (match e with
    | .Call (.Name y _) [.Call (.Name z _) vs [] _] [] _ => decide (y = rgN tu) && decide (z = "range") && glB Γ.sc y && glB Γ.sc z && decide (1 ≤ vs.length ∧ vs.length ≤ 2) && chks Γ es vs && Γ.cm
    | _ => false)
  | .frz a => chk Γ a e
  | .dnew _ => (match e with | .Dict [] [] _ => true | _ => false)
  | .dget o k => (match e with | .Subscript u v _ => plain v && chk Γ o u && chk Γ k v | _ => false)
  | .dgetD o k d => (match e with | .Call (.Attribute u y ap) [v, w] [] cp => decide (y = "get") && attrOk u && (ap.endLine == cp.line) && plain v && plain w && chk Γ o u && chk Γ k v && chk Γ d w | _ => false)
  | .din ng k o => (match e with | .Compare l [p] [r] _ => decide (p = if ng = true then CmpOp.NotIn else .In) && !behindInMarks p r && chk Γ k l && chk Γ o r | _ => false)
  | .dsort rv _ o => (match e with
    | .Call (.Name y _) [v] [] _ => !rv && decide (y = "sorted") && glB Γ.sc y && plain v && chk Γ o v && Γ.cm
    | .Call (.Name y _) [v] [⟨some k, .Constant (.bool tr) _ _, _⟩] _ => rv && tr && decide (k = "reverse") && decide (y = "sorted") && glB Γ.sc y && plain v && chk Γ o v && Γ.cm
    | _ => false)
  | .tr3 es => (match e with
    | .Call (.Name y _) [.Call (.Name z _) (a :: b :: c :: []) [] _] [] _ => decide (y = "tuple") && decide (z = "range") && glB Γ.sc y && glB Γ.sc z && plain a && plain b && plain c && chks Γ es [a, b, c] && Γ.cm
    | _ => false)
  | .ddat k o => (match e with | .Dict [some (.Constant (.int j) _ _)] [v] _ => decide (k = j) && chk Γ o v | _ => false)
  | .rev o => (match e with | .Subscript u (.Slice none none (some (.UnaryOp op (.Constant (.int n) _ _) _)) _) _ => decide (op = .USub) && decide (n = 1) && chk Γ o u | _ => false)
  | .dset i it => (match e with
    | .DictComp (.Name a _) (.Constant (.bool tr) _ _) [⟨.Name c _, d, [], 0⟩] scope _ => tr && decide (a = c) && decide (Γ.N[i]? = some c) && plain d && nmB (Γ.blk scope) i a && stB (Γ.blk scope) i c && blkC Γ.N Γ.sc scope (ownN Γ.N [i]) && chki Γ it false d && Γ.cm
    | _ => false)
  | .dsc k i it => (match e with
    | .DictComp ke (.Constant (.bool tr) _ _) [⟨.Name c _, d, [], 0⟩] scope _ => tr && plain d && chk (Γ.blk scope) k ke && stB (Γ.blk scope) i c && blkC Γ.N Γ.sc scope (ownN Γ.N [i]) && chki Γ it false d && Γ.cm
    | _ => false)
  | .dvals i j => (match e with
    | .ListComp (.Subscript (.Name a _) (.Name b _) _) [⟨.Name c _, .Name d _, [], 0⟩] scope _ => decide (a = d) && decide (b = c) && decide (i ≠ j) && nmB Γ i d && nmB (Γ.blk scope) i d && nmB (Γ.blk scope) j c && stB (Γ.blk scope) j c && blkC Γ.N Γ.sc scope (ownN Γ.N [j]) && Γ.cm
    | _ => false)
  | .skey _ i o => (match skOf Γ i e with | some v => chk Γ o v | none => false)
  | .word f g es => (match wdOf Γ f g e with | some (vs, scope) => P.wf f && P.df g && chks (Γ.lam scope) es vs | none => false)
  | .isE i c => (match e with
    | .Call (.Name y _) [.Name n _, .Name d _] [] _ => decide (y = "isinstance") && decide (d = c) && glB Γ.sc y && glB Γ.sc d && nmB Γ i n
    | _ => false)
def chks (Γ : Gm) (xs : Exs) (es : List Expr) : Bool :=
  match xs with
  | .nil => es.isEmpty
  | .cons x xs => (match es with | e :: es => plain e && chk Γ x e && chks Γ xs es | [] => false)
def chko (Γ : Gm) (xs : Exs) (o : Option Expr) : Bool :=
  match xs with
  | .nil => o.isNone
  | .cons x xs => (match xs, o with | .nil, some e => chk Γ x e | _, _ => false)
def chki (Γ : Gm) (x : Itr) (tp : Bool) (e : Expr) : Bool :=
  match x with
  | .seq a => chk Γ a e
  | .rng a b => (match e with | .Call (.Name y _) [u, v] [] _ => decide (y = "range") && glB Γ.sc y && plain u && plain v && chk Γ a u && chk Γ b v | _ => false)
  | .rng0 b => (match e with | .Call (.Name y _) [v] [] _ => decide (y = "range") && glB Γ.sc y && plain v && chk Γ b v | _ => false)
  | .enm a => (match e with | .Call (.Name y _) [v] [] _ => tp && decide (y = "enumerate") && glB Γ.sc y && plain v && chk Γ a v | _ => false)
  | .zip a b => (match e with | .Call (.Name y _) [u, v] [] _ => tp && decide (y = "zip") && glB Γ.sc y && plain u && plain v && chk Γ a u && chk Γ b v | _ => false)
end
end
def blN : List Str := ["len", "tuple", "list", "int", "abs", "all", "any", "sum", "sorted", "max", "min", "range", "enumerate", "zip", "isinstance", "bool", "str", "dict"]
/-- a def that gets a lambda -/
structure WordF (X : Cx) (wd : Res Vl → Nat → Res Vl) (x : Str) : Prop where
  ex : ∃ (g : Addr) (pg : Arguments) (bg : List Stmt) (sg : Scope) (dV kV doc pm cdv ct oc : Value) (an od : Option Addr) (osl : Array (Option Value)) (Ng : List Str) (a : Str),
    X.mg x = some (.ref g) ∧ PySem.W.keepIn X.K (.ref g) = true ∧ X.K.lookup g = some ⟨oc, od, .func (PySem.W.fnOf x x pg bg sg dV kV doc pm an cdv ct), osl⟩ ∧ PySem.W.codeIn X.K cdv x = true ∧ L2.Binds X.K (PySem.W.fnOf x x pg bg sg dV kV doc pm an cdv ct) [a] [] ∧
    FnScope Ng [a] sg ∧ Ng[0]? = some a ∧ Vis sg a ∧ (a == ("__debug__" : Str)) = false ∧ (a == ("__classdict__" : Str)) = false ∧ GivesW X Ng x sg g cdv bg a wd
/-- a def that makes lambdas -/
structure Maker (P : Pg) (G : Gs) (X : Cx) : Prop where
  ex : ∃ (c P0 : Addr) (x0 : Str) (lv : Nat), LamX.TabB X.base X.mg c P0 ∧ X.env.code = .ref c ∧ X.env.qual = x0 ++ ".<locals>." ∧ PySem.W.tabIn X.K x0 = some (c, P0) ∧ x0 ∈ mkNames ∧ (∀ z ∈ mkNames, z = x0) ∧ X.A.depth < recursionLimit ∧
    (∀ x, P.wf x = true → (Room (lv + 2) X.A ∧ WordF X (G.wd x) x) ∨ ∀ q n, G.wd x q n = .stuck) ∧
    ∀ (A : Around) (outer : List PySem.Env) (s : Shared) (H : Hp) (E : XK) (scope : Scope) (f c' : Addr), Room lv (A.deeper (LamX.lamEnv X scope s.heap.objs.size f c')) → ∀ g, P.df g = true → CallOk (LamX.lamCx X A outer s H E scope f c') G.cl2 g
structure Fits (P : Pg) (G : Gs) (Γ : Gm) (X : Cx) (Wx : WX) : Prop where
  N : X.N = Γ.N
  nd : Γ.N.Nodup
  sc : X.env.scope = Γ.sc
  fn : ∀ x, Γ.fnb x = true → X.fn x = true
  calm : Γ.cm = true → X.calm = true
  rm : Rm X
  tk : Takes X Wx
  bl : ∀ x, x ∈ blN → X.mg x = none
  df : Γ.nc = false → ∀ f, P.df f = true → CallOk X G.cl f
  mkr : Γ.mkr = true → Maker P G X
  mkc : Γ.mkr = true → Γ.cm = true
  exn : Γ.cm = true → G.ex = none
  ex : ∀ a c0, G.ex = some (a, c0) → ∃ D, CallR X (.builtin "isinstance") (rIsE X.K D a) ∧ ∀ C b, G.sub c0 C = some b → IsC X.K X.mg D C b
  rs : ∀ c, P.rs c = true → ∃ C, ErrC X.K X.mg c C
  gc : ∀ x, P.gc x = true → ∃ d v u, G.gc x = some d ∧ X.mg x = some u ∧ RelV v u ∧ ∀ W H μ, rV X W H μ (.d d) v
theorem takesN {X : Cx} : Takes X Wn := fun _ _ x => by
  obtain ⟨_, _, _, _, _, _, _, _, _, _, _, _, _, _, _, _, z⟩ := x
  exact z.elim
section
variable {P : Pg} {G : Gs} {Γ : Gm} {X : Cx} {Wx : WX}
theorem Fits.blk (F : Fits P G Γ X Wx) (hcm : Γ.cm = true) (scope : Scope) (s : Shared) (H : Hp) (C : Addr) (cl : List (Str × Addr)) (fp : List Addr) : Fits P G (Γ.blk scope) (X.blk s H scope (compEnvC scope cl C X.env) fp) Wn where
  N := F.N
  nd := F.nd
  sc := by
    show relS scope X.env.scope = relS scope Γ.sc
    rw [F.sc]
  fn := fun x h => h
  calm := F.calm
  rm := ⟨F.rm.un, F.rm.hd⟩
  tk := takesN
  bl := F.bl
  df := fun hn f h => ⟨(F.df hn f h).ex⟩
  mkr := fun h => nomatch h
  mkc := fun h => nomatch h
  exn := fun _ => F.exn hcm
  ex := fun a c0 e => by rw [F.exn hcm] at e; cases e
  rs := F.rs
  gc := F.gc
theorem visB_ok {sc : Scope} {x : Str} (h : visB sc x = true) : Vis sc x := by
  unfold visB at h
  split at h
  · exact .inl (by assumption)
  · exact .inr (.inl (by assumption))
  · exact .inr (.inr (by assumption))
  · cases h
theorem locB_ok {sc : Scope} {x : Str} (h : locB sc x = true) : Loc sc x := by
  unfold locB at h
  split at h
  · exact .inl (by assumption)
  · exact .inr (by assumption)
  · cases h
theorem isLoc_ok {sc : Scope} {x : Str} (h : isLoc sc x = true) : sc.names.lookup x = some .local := by
  unfold isLoc at h
  split at h
  · assumption
  · cases h
theorem Fits.gl (F : Fits P G Γ X Wx) {x : Str} (h : glB Γ.sc x = true) : Gl X x ∧ (x == ("__debug__" : Str)) = false := by
  unfold glB at h
  split at h
  · rename_i e
    refine ⟨?_, by simpa using h⟩
    show X.env.scope.names.lookup x = _
    rw [F.sc]; exact e
  · cases h
theorem Fits.nm (F : Fits P G Γ X Wx) {i : Nat} {x : Str} (h : nmB Γ i x = true) : X.N[i]? = some x ∧ Vis X.env.scope x ∧ (x == ("__debug__" : Str)) = false ∧ (x == ("__classdict__" : Str)) = false := by
  simp only [nmB, Bool.and_eq_true, decide_eq_true_eq, Bool.not_eq_true'] at h
  obtain ⟨⟨⟨h1, h2⟩, h3⟩, h4⟩ := h
  rw [F.N, F.sc]
  exact ⟨h1, visB_ok h2, h3, h4⟩
theorem Fits.st (F : Fits P G Γ X Wx) {i : Nat} {x : Str} (h : stB Γ i x = true) : X.N[i]? = some x ∧ Loc X.env.scope x ∧ (X.fn x = true ∨ X.env.scope.names.lookup x = some .local) := by
  simp only [stB, Bool.and_eq_true, decide_eq_true_eq, Bool.or_eq_true] at h
  obtain ⟨⟨h1, h2⟩, h3⟩ := h
  rw [F.N, F.sc]
  exact ⟨h1, locB_ok h2, h3.imp (F.fn x) isLoc_ok⟩
theorem Fits.nms (F : Fits P G Γ X Wx) : ∀ {is : List Nat} {es : List Expr}, nmsB Γ is es = true → namesOk X is es
  | [], [], _ => trivial
  | [], _ :: _, h => absurd h (by simp [nmsB])
  | _ :: _, [], h => absurd h (by simp [nmsB])
  | i :: is, e :: es, h => by
    simp only [nmsB, Bool.and_eq_true] at h
    obtain ⟨h1, h2⟩ := h
    split at h1
    · obtain ⟨q1, q2, q3⟩ := F.st h1
      exact ⟨q1, q2, q3, F.nms h2⟩
    · cases h1
theorem tg_ok (F : Fits P G Γ X Wx) {t : Tg} {e : Expr} (h : tgB Γ t e = true) : PG X e (tG X t) := by
  have hN : X.N.Nodup := by rw [F.N]; exact F.nd
  unfold tgB at h
  split at h
  · obtain ⟨q1, q2, q3⟩ := F.st h
    exact pg_ev_nm hN q1 q2 q3
  · rw [Bool.and_eq_true] at h
    exact pg_ev_tp hN (F.calm h.2) (F.nms h.1)
  · cases h
theorem chks_plain : ∀ {xs : Exs} {es : List Expr}, chks P Γ xs es = true → es.all plain = true
  | .nil, [], _ => rfl
  | .nil, _ :: _, h => absurd h (by simp [chks])
  | .cons _ _, [], h => absurd h (by simp [chks])
  | .cons x xs, e :: es, h => by
    simp only [chks, Bool.and_eq_true] at h
    rw [List.all_cons, h.1.1, chks_plain h.2]; rfl
def exLen : Exs → Nat
  | .nil => 0
  | .cons _ xs => exLen xs + 1
theorem chks_len : ∀ {xs : Exs} {es : List Expr}, chks P Γ xs es = true → exLen xs = es.length
  | .nil, [], _ => rfl
  | .nil, _ :: _, h => absurd h (by simp [chks])
  | .cons _ _, [], h => absurd h (by simp [chks])
  | .cons x xs, e :: es, h => by
    simp only [chks, Bool.and_eq_true] at h
    show exLen xs + 1 = es.length + 1
    rw [chks_len h.2]
theorem ownN_map (N : List Str) (own : List Nat) : (ownN N own).map (·.2) = own := by
  unfold ownN
  rw [List.map_map]
  exact List.map_id' own
theorem tru_eq {f : Env → MH → Res Vl} : tru f = fun σ h => (f σ h).bind fun x h1 => (match truth x h1 with | some b => .ok b h1 | none => .stuck) := rfl
theorem pt_stuck {e : Expr} : PT X e (tT X Wx fun _ _ => .stuck) := ⟨fun _ _ _ _ _ _ ⟨_, _, _, _, _, _, z⟩ => z.elim⟩
end
end Ev

set_option Elab.async false
set_option linter.all false
set_option autoImplicit false
set_option maxRecDepth 100000
set_option maxHeartbeats 4000000
namespace Ev
open PySem PySem.Spec PyProof.Rows L2
section
variable {P : Pg} {G : Gs}
theorem nope {b : Bool} {p : Prop} (h : b = true) (e : b = false) : p := by rw [e] at h; cases h
mutual
theorem ex_ok : ∀ (x : Ex) {Γ : Gm} {X : Cx} {Wx : WX} {e : Expr}, Fits P G Γ X Wx → chk P Γ x e = true → PE X e (tE X Wx fun σ h => ev G x σ h)
  | .var i, Γ, X, Wx, e, F, h => by
    cases e <;> first | (exact absurd h Bool.false_ne_true) | skip
    obtain ⟨h1, h2, h3, h4⟩ := F.nm h
    exact pe_ev_var h1 h2 h3 h4
  | .int i, Γ, X, Wx, e, F, h => by
    cases e <;> first | (exact absurd h Bool.false_ne_true) | skip
    rename_i c k pos
    cases c <;> first | (exact absurd h Bool.false_ne_true) | skip
    have h : i = _ := of_decide_eq_true h
    subst h
    exact pe_imp pe_int fun σ H Q q => ev_at (d := .d (.int i)) (v := .int i) (fun _ _ => rfl) (fun _ _ _ => Dz.int _) q
  | .bl b, Γ, X, Wx, e, F, h => by
    cases e <;> first | (exact absurd h Bool.false_ne_true) | skip
    rename_i c k pos
    cases c <;> first | (exact absurd h Bool.false_ne_true) | skip
    have h : b = _ := eq_of_beq h
    subst h
    exact pe_imp pe_bl fun σ H Q q => ev_at (d := .d (.bool b)) (v := .bl b) (fun _ _ => rfl) (fun _ _ _ => Dz.bl _) q
  | .non, Γ, X, Wx, e, F, h => by
    cases e <;> first | (exact absurd h Bool.false_ne_true) | skip
    rename_i c k pos
    cases c <;> first | (exact absurd h Bool.false_ne_true) | skip
    exact pe_imp pe_non fun σ H Q q => ev_at (d := .d .none) (v := .non) (fun _ _ => rfl) (fun _ _ _ => Dz.non) q
  | .str s, Γ, X, Wx, e, F, h => by
    cases e <;> first | (exact absurd h Bool.false_ne_true) | skip
    rename_i c k pos
    cases c <;> first | (exact absurd h Bool.false_ne_true) | skip
    have h : s = _ := of_decide_eq_true h
    subst h
    exact pe_imp pe_str fun σ H Q q => ev_at (d := .d (.str s)) (v := .str s) (fun _ _ => rfl) (fun _ _ _ => Dz.str _) q
  | .gc y, Γ, X, Wx, e, F, h => by
    cases e <;> first | (exact absurd h Bool.false_ne_true) | skip
    simp only [chk, Bool.and_eq_true, decide_eq_true_eq] at h
    obtain ⟨⟨rfl, h2⟩, h3⟩ := h
    obtain ⟨d, v, u, e1, e2, e3, e4⟩ := F.gc _ h2
    obtain ⟨g1, g2⟩ := F.gl h3
    exact pe_imp (pe_glob g1 e2 e3 g2) fun σ H Q q => ev_at (fun σ h => by show (match G.gc y with | some d => Res.ok (Vl.d d) h | none => Res.stuck) = _; rw [e1]) e4 q
  | .dfn _, Γ, X, Wx, e, F, h => absurd h Bool.false_ne_true
  | .bin op mk a b, Γ, X, Wx, e, F, h => by
    cases e <;> first | (exact absurd h Bool.false_ne_true) | skip
    simp only [chk, Bool.and_eq_true, decide_eq_true_eq] at h
    obtain ⟨⟨rfl, h2⟩, h3⟩ := h
    exact pe_ev_bin (ex_ok a F h2) (ex_ok b F h3)
  | .neg a, Γ, X, Wx, e, F, h => by
    cases e <;> first | (exact absurd h Bool.false_ne_true) | skip
    simp only [chk, Bool.and_eq_true, decide_eq_true_eq] at h
    obtain ⟨rfl, h2⟩ := h
    exact pe_ev_neg (ex_ok a F h2)
  | .cmp op a b, Γ, X, Wx, e, F, h => by
    unfold chk at h
    split at h
    · simp only [Bool.and_eq_true, decide_eq_true_eq, Bool.not_eq_true'] at h
      obtain ⟨⟨⟨rfl, h2⟩, h3⟩, h4⟩ := h
      exact pe_ev_cmp F.rm h2 (ex_ok a F h3) (ex_ok b F h4)
    · exact absurd h Bool.false_ne_true
  | .chain o1 o2 a b c, Γ, X, Wx, e, F, h => by
    unfold chk at h
    split at h
    · simp only [Bool.and_eq_true, decide_eq_true_eq, Bool.not_eq_true'] at h
      obtain ⟨⟨⟨⟨⟨rfl, rfl⟩, h2⟩, h3⟩, h4⟩, h5⟩ := h
      exact pe_ev_chain F.rm h2 (ex_ok a F h3) (ex_ok b F h4) (ex_ok c F h5)
    · exact absurd h Bool.false_ne_true
  | .andL es, Γ, X, Wx, e, F, h => by
    unfold chk at h
    split at h
    · simp only [Bool.and_eq_true, decide_eq_true_eq] at h
      obtain ⟨rfl, h2⟩ := h
      exact and_ok es F h2
    · exact absurd h Bool.false_ne_true
  | .orL es, Γ, X, Wx, e, F, h => by
    unfold chk at h
    split at h
    · simp only [Bool.and_eq_true, decide_eq_true_eq] at h
      obtain ⟨rfl, h2⟩ := h
      exact or_ok es F h2
    · exact absurd h Bool.false_ne_true
  | .not a, Γ, X, Wx, e, F, h => by
    cases e <;> first | (exact absurd h Bool.false_ne_true) | skip
    simp only [chk, Bool.and_eq_true, decide_eq_true_eq] at h
    obtain ⟨rfl, h2⟩ := h
    exact pe_ev_not (ex_ok a F h2)
  | .ite c a b, Γ, X, Wx, e, F, h => by
    cases e <;> first | (exact absurd h Bool.false_ne_true) | skip
    simp only [chk, Bool.and_eq_true, decide_eq_true_eq] at h
    obtain ⟨⟨h1, h2⟩, h3⟩ := h
    exact pe_ev_ite (ext_ok c F h1) (ex_ok a F h2) (ex_ok b F h3)
  | .tr3 es, Γ, X, Wx, e, F, h => by
    unfold chk at h
    split at h
    · rename_i y p1 z p2 a b c p3 p4
      simp only [Bool.and_eq_true, decide_eq_true_eq] at h
      obtain ⟨⟨⟨⟨⟨⟨⟨⟨rfl, rfl⟩, h3⟩, h4⟩, h5⟩, h6⟩, h7⟩, h8⟩, hcm⟩ := h
      obtain ⟨g1, g2⟩ := F.gl h3
      obtain ⟨g3, g4⟩ := F.gl h4
      exact pe_ev_tr3 (F.calm hcm) g1 (F.bl _ (by decide)) g3 (F.bl _ (by decide)) h5 h6 h7 (evs_ok es F h8)
    · exact absurd h Bool.false_ne_true
  | .tup es, Γ, X, Wx, e, F, h => by
    cases e <;> first | (exact absurd h Bool.false_ne_true) | skip
    exact pe_ev_tup (evs_ok es F h)
  | .lst mk es, Γ, X, Wx, e, F, h => by
    cases e <;> first | (exact absurd h Bool.false_ne_true) | skip
    exact pe_ev_lst (evs_ok es F h)
  | .idx a b, Γ, X, Wx, e, F, h => by
    cases e <;> first | (exact absurd h Bool.false_ne_true) | skip
    simp only [chk, Bool.and_eq_true] at h
    obtain ⟨⟨h1, h2⟩, h3⟩ := h
    exact pe_ev_idx h1 (ex_ok a F h2) (ex_ok b F h3)
  | .sli mk a lo hi, Γ, X, Wx, e, F, h => by
    unfold chk at h
    split at h
    · simp only [Bool.and_eq_true] at h
      obtain ⟨⟨h1, h2⟩, h3⟩ := h
      exact pe_ev_sli (ex_ok a F h1) (opt_ok lo F h2) (opt_ok hi F h3)
    · exact absurd h Bool.false_ne_true
  | .call f es, Γ, X, Wx, e, F, h => by
    unfold chk at h
    split at h
    · simp only [Bool.and_eq_true, decide_eq_true_eq, Bool.not_eq_true'] at h
      obtain ⟨⟨⟨⟨rfl, h2⟩, h3⟩, h4⟩, hnc⟩ := h
      obtain ⟨g1, g2⟩ := F.gl h3
      exact pe_ev_call (F.df hnc _ h2) F.tk g1 g2 (chks_plain h4) (evs_ok es F h4)
    · exact absurd h Bool.false_ne_true
  | .bi b mk es, Γ, X, Wx, e, F, h => by
    unfold chk at h
    split at h
    · simp only [Bool.and_eq_true, decide_eq_true_eq] at h
      obtain ⟨⟨⟨h1, h3⟩, h4⟩, hcm⟩ := h
      obtain ⟨g1, g2⟩ := F.gl h3
      split at h1
      · rename_i n ty id hb
        have h1 := of_decide_eq_true h1
        subst h1
        refine pe_ev_bi F.rm (F.calm hcm) hb g1 (F.bl _ ?_) (chks_plain h4) (evs_ok es F h4)
        cases b <;> cases hb <;> decide
      · exact absurd h1 Bool.false_ne_true
    · exact absurd h Bool.false_ne_true
  | .isi a ts, Γ, X, Wx, e, F, h => by
    unfold chk at h
    split at h
    · simp only [Bool.and_eq_true, decide_eq_true_eq] at h
      obtain ⟨⟨⟨⟨rfl, h2⟩, h3⟩, h4⟩, h5⟩ := h
      obtain ⟨g1, g2⟩ := F.gl h2
      exact pe_ev_isi (gl := glB Γ.sc) (fun x q => (F.gl q).1) (fun t => F.bl _ (by cases t <;> decide)) (F.bl _ (by decide)) g1 h3 h4 (ex_ok a F h5)
    · exact absurd h Bool.false_ne_true
  | .met m o es, Γ, X, Wx, e, F, h => by
    unfold chk at h
    split at h
    · rename_i u y ap vs cp
      simp only [Bool.and_eq_true, decide_eq_true_eq] at h
      obtain ⟨⟨⟨⟨⟨h1, h2⟩, h3⟩, h4⟩, h5⟩, h6⟩ := h
      cases vs with
      | nil =>
        cases es with
        | nil => exact pe_ev_met0 F.rm h1 h2 h3 (ex_ok o F h5)
        | cons e es => exact absurd h6 Bool.false_ne_true
      | cons v vs => exact pe_ev_met F.rm h1 h2 h3 (chks_plain h6) h4 (ex_ok o F h5) (evs_ok es F h6)
    · exact absurd h Bool.false_ne_true
  | .lc mk elt tg it ifs own, Γ, X, Wx, e, F, h => by
    unfold chk at h
    split at h
    · rename_i u t i cs scope pos
      simp only [Bool.and_eq_true, decide_eq_true_eq] at h
      obtain ⟨⟨⟨⟨⟨⟨⟨⟨h1, h2⟩, h3⟩, h4⟩, h5⟩, h6⟩, h7⟩, h8⟩, hcm⟩ := h
      have hN : X.N.Nodup := by rw [F.N]; exact F.nd
      have ok : BlkOk X.N X.env.scope scope (ownN Γ.N own) := by rw [F.N, F.sc]; exact blkOk_by h2
      have := pe_ev_lc (Wx := Wx) (F := G.F) (mk := mk) (t := tg) (pos := pos) (fI := fun σ h => evI G it σ h) (fA := fun σ h => evAnd G ifs σ h) (fE := fun σ h => ev G elt σ h) (elt := u) (tg := t) (iter := i) (ifs := cs) (scope := scope) (F.calm hcm) hN (itr_ok it F h6) ok (fun j hj => by
        rw [ownN_map]
        rw [List.all_eq_true] at h3
        have q := h3 j (by cases tg <;> exact hj)
        simpa using q) (fun s H C cl fp => tg_ok (F.blk hcm scope s H C cl fp) h4) (fun s H C cl fp => ifs_ok ifs (F.blk hcm scope s H C cl fp) h5 h7) (fun s H C cl fp => ex_ok elt (F.blk hcm scope s H C cl fp) h8) h1
      rw [ownN_map] at this
      exact this
    · exact absurd h Bool.false_ne_true
  | .rg tu mk .nil, Γ, X, Wx, e, F, h => by
    unfold chk at h
    split at h
    · rename_i y p1 z p2 vs p3 p4
      simp only [Bool.and_eq_true, decide_eq_true_eq] at h
      obtain ⟨⟨⟨⟨⟨⟨h1, rfl⟩, h3⟩, h4⟩, h5⟩, h6⟩, hcm⟩ := h
      obtain ⟨g1, g2⟩ := F.gl h3
      obtain ⟨g3, g4⟩ := F.gl h4
      rw [h1] at g1
      have hm : X.mg (rgN tu) = none := F.bl _ (by cases tu <;> decide)
      subst h1
      cases vs with
      | nil => exact absurd h5.1 (by simp)
      | cons v vs => exact absurd h6 Bool.false_ne_true
    · exact absurd h Bool.false_ne_true
  | .rg tu mk (.cons x .nil), Γ, X, Wx, e, F, h => by
    unfold chk at h
    split at h
    · rename_i y p1 z p2 vs p3 p4
      simp only [Bool.and_eq_true, decide_eq_true_eq] at h
      obtain ⟨⟨⟨⟨⟨⟨h1, rfl⟩, h3⟩, h4⟩, h5⟩, h6⟩, hcm⟩ := h
      obtain ⟨g1, g2⟩ := F.gl h3
      obtain ⟨g3, g4⟩ := F.gl h4
      rw [h1] at g1
      have hm : X.mg (rgN tu) = none := F.bl _ (by cases tu <;> decide)
      subst h1
      cases vs with
      | nil => exact absurd h6 Bool.false_ne_true
      | cons v vs =>
        rw [chks] at h6
        simp only [Bool.and_eq_true] at h6
        cases vs with
        | nil => exact pe_ev_rg (mk := mk) (F.calm hcm) g1 hm rfl (prg_ev1 g3 (F.bl _ (by decide)) h6.1.1 (ex_ok x F h6.1.2))
        | cons w vs => exact absurd h6.2 Bool.false_ne_true
    · exact absurd h Bool.false_ne_true
  | .rg tu mk (.cons x (.cons x2 .nil)), Γ, X, Wx, e, F, h => by
    unfold chk at h
    split at h
    · rename_i y p1 z p2 vs p3 p4
      simp only [Bool.and_eq_true, decide_eq_true_eq] at h
      obtain ⟨⟨⟨⟨⟨⟨h1, rfl⟩, h3⟩, h4⟩, h5⟩, h6⟩, hcm⟩ := h
      obtain ⟨g1, g2⟩ := F.gl h3
      obtain ⟨g3, g4⟩ := F.gl h4
      rw [h1] at g1
      have hm : X.mg (rgN tu) = none := F.bl _ (by cases tu <;> decide)
      subst h1
      cases vs with
      | nil => exact absurd h6 Bool.false_ne_true
      | cons v vs =>
        cases vs with
        | nil => rw [chks] at h6; simp only [Bool.and_eq_true] at h6; exact absurd h6.2 Bool.false_ne_true
        | cons w vs =>
          rw [chks, chks] at h6
          simp only [Bool.and_eq_true] at h6
          cases vs with
          | nil => exact pe_ev_rg (mk := mk) (F.calm hcm) g1 hm rfl (prg_ev2 g3 (F.bl _ (by decide)) h6.1.1 h6.2.1.1 (ex_ok x F h6.1.2) (ex_ok x2 F h6.2.1.2))
          | cons _ _ => exact absurd h6.2.2 Bool.false_ne_true
    · exact absurd h Bool.false_ne_true
  | .rg tu mk (.cons x (.cons x2 (.cons x3 xs))), Γ, X, Wx, e, F, h => by
    unfold chk at h
    split at h
    · rename_i y p1 z p2 vs p3 p4
      simp only [Bool.and_eq_true, decide_eq_true_eq] at h
      obtain ⟨⟨⟨⟨⟨⟨h1, rfl⟩, h3⟩, h4⟩, h5⟩, h6⟩, hcm⟩ := h
      obtain ⟨g1, g2⟩ := F.gl h3
      obtain ⟨g3, g4⟩ := F.gl h4
      rw [h1] at g1
      have hm : X.mg (rgN tu) = none := F.bl _ (by cases tu <;> decide)
      subst h1
      have hl := chks_len h6
      simp only [exLen] at hl
      omega
    · exact absurd h Bool.false_ne_true
  | .frz a, Γ, X, Wx, e, F, h => pe_ev_frz (ex_ok a F h)
  | .dnew t, Γ, X, Wx, e, F, h => by
    unfold chk at h
    split at h
    · exact pe_ev_dnew t
    · exact absurd h Bool.false_ne_true
  | .dget o k, Γ, X, Wx, e, F, h => by
    unfold chk at h
    split at h
    · simp only [Bool.and_eq_true] at h
      obtain ⟨⟨h1, h2⟩, h3⟩ := h
      exact pe_ev_dget F.rm h1 (ex_ok o F h2) (ex_ok k F h3)
    · exact absurd h Bool.false_ne_true
  | .dgetD o k d, Γ, X, Wx, e, F, h => by
    unfold chk at h
    split at h
    · simp only [Bool.and_eq_true, decide_eq_true_eq] at h
      obtain ⟨⟨⟨⟨⟨⟨⟨rfl, h2⟩, h3⟩, h4⟩, h5⟩, h6⟩, h7⟩, h8⟩ := h
      exact pe_ev_dgetD F.rm h2 h3 h4 h5 (ex_ok o F h6) (ex_ok k F h7) (ex_ok d F h8)
    · exact absurd h Bool.false_ne_true
  | .din ng k o, Γ, X, Wx, e, F, h => by
    unfold chk at h
    split at h
    · simp only [Bool.and_eq_true, decide_eq_true_eq, Bool.not_eq_true'] at h
      obtain ⟨⟨⟨rfl, h2⟩, h3⟩, h4⟩ := h
      exact pe_ev_din F.rm ng h2 (ex_ok o F h4) (ex_ok k F h3)
    · exact absurd h Bool.false_ne_true
  | .dsort rv mk o, Γ, X, Wx, e, F, h => by
    unfold chk at h
    split at h
    · simp only [Bool.and_eq_true, decide_eq_true_eq, Bool.not_eq_true'] at h
      obtain ⟨⟨⟨⟨⟨rfl, rfl⟩, h3⟩, h4⟩, h5⟩, hcm⟩ := h
      obtain ⟨g1, g2⟩ := F.gl h3
      exact pe_ev_dsort F.rm (F.calm hcm) g1 (F.bl _ (by decide)) h4 (ex_ok o F h5)
    · simp only [Bool.and_eq_true, decide_eq_true_eq] at h
      obtain ⟨⟨⟨⟨⟨⟨⟨rfl, rfl⟩, rfl⟩, rfl⟩, h3⟩, h4⟩, h5⟩, hcm⟩ := h
      obtain ⟨g1, g2⟩ := F.gl h3
      exact pe_ev_dsortR F.rm (F.calm hcm) g1 (F.bl _ (by decide)) h4 (ex_ok o F h5)
    · exact absurd h Bool.false_ne_true
  | .dset i it, Γ, X, Wx, e, F, h => by
    unfold chk at h
    split at h
    · rename_i a p1 tr kk p2 c p3 d scope pos
      simp only [Bool.and_eq_true, decide_eq_true_eq] at h
      obtain ⟨⟨⟨⟨⟨⟨⟨⟨rfl, rfl⟩, h3⟩, h4⟩, h5⟩, h6⟩, h7⟩, h8⟩, hcm⟩ := h
      have hN : X.N.Nodup := by rw [F.N]; exact F.nd
      have ok : BlkOk X.N X.env.scope scope (ownN Γ.N [i]) := by rw [F.N, F.sc]; exact blkOk_by h7
      refine pe_ev_dset (own := ownN Γ.N [i]) F.rm (F.calm hcm) hN (ownN_map _ _) ok h4 (itr_ok it F h8) (by rw [F.N]; exact h3) (fun s H C cl fp => ?_) (fun s H C cl fp => ?_)
      · obtain ⟨q1, q2, q3⟩ := (F.blk hcm scope s H C cl fp).st h6
        exact pg_ev_nm hN q1 q2 q3
      · obtain ⟨a1, a2, a3, a4⟩ := (F.blk hcm scope s H C cl fp).nm h5
        exact pe_var a1 a2 a3 a4
    · exact absurd h Bool.false_ne_true
  | .dsc k i it, Γ, X, Wx, e, F, h => by
    unfold chk at h
    split at h
    · rename_i ke tr kk p2 c p3 d scope pos
      simp only [Bool.and_eq_true] at h
      obtain ⟨⟨⟨⟨⟨⟨rfl, h4⟩, h5⟩, h6⟩, h7⟩, h8⟩, hcm⟩ := h
      have hN : X.N.Nodup := by rw [F.N]; exact F.nd
      have ok : BlkOk X.N X.env.scope scope (ownN Γ.N [i]) := by rw [F.N, F.sc]; exact blkOk_by h7
      refine pe_ev_dsc (F := G.F) (own := ownN Γ.N [i]) F.rm (F.calm hcm) hN (ownN_map _ _) ok h4 (itr_ok it F h8) (fun s H C cl fp => ?_) (fun s H C cl fp => ex_ok k (F.blk hcm scope s H C cl fp) h5)
      obtain ⟨q1, q2, q3⟩ := (F.blk hcm scope s H C cl fp).st h6
      exact pg_ev_nm hN q1 q2 q3
    · exact absurd h Bool.false_ne_true
  | .ddat k o, Γ, X, Wx, e, F, h => by
    unfold chk at h
    split at h
    · simp only [Bool.and_eq_true, decide_eq_true_eq] at h
      obtain ⟨rfl, h2⟩ := h
      exact pe_ev_ddat (ex_ok o F h2)
    · exact absurd h Bool.false_ne_true
  | .rev o, Γ, X, Wx, e, F, h => by
    unfold chk at h
    split at h
    · simp only [Bool.and_eq_true, decide_eq_true_eq] at h
      obtain ⟨⟨rfl, rfl⟩, h3⟩ := h
      exact pe_ev_rev (ex_ok o F h3)
    · exact absurd h Bool.false_ne_true
  | .dvals i j, Γ, X, Wx, e, F, h => by
    unfold chk at h
    split at h
    · rename_i a p1 b p2 p3 c p4 d p5 scope pos
      simp only [Bool.and_eq_true, decide_eq_true_eq] at h
      obtain ⟨⟨⟨⟨⟨⟨⟨⟨rfl, rfl⟩, h3⟩, h4⟩, h5⟩, h6⟩, h7⟩, h8⟩, hcm⟩ := h
      have hN : X.N.Nodup := by rw [F.N]; exact F.nd
      have ok : BlkOk X.N X.env.scope scope (ownN Γ.N [j]) := by rw [F.N, F.sc]; exact blkOk_by h8
      obtain ⟨n1, n2, n3, n4⟩ := F.nm h4
      have un := F.rm.un
      refine pe_ev_dvals (own := ownN Γ.N [j]) (F.calm hcm) hN h3 ?_ (ownN_map _ _) ok (pe_var n1 n2 n3 n4) (fun s H C cl fp => ?_) (fun s H C cl fp => ?_)
      · rw [F.N]
        unfold stB at h7
        simp only [Bool.and_eq_true, decide_eq_true_eq] at h7
        exact h7.1.1
      · obtain ⟨q1, q2, q3⟩ := (F.blk hcm scope s H C cl fp).st h7
        exact pg_name hN q1 q2 q3
      · obtain ⟨a1, a2, a3, a4⟩ := (F.blk hcm scope s H C cl fp).nm h5
        obtain ⟨b1, b2, b3, b4⟩ := (F.blk hcm scope s H C cl fp).nm h6
        exact pe_dget (show X.A.units + 1 < cLine by omega) (pe_var a1 a2 a3 a4) (pe_var b1 b2 b3 b4) (noSl rfl)
    · exact absurd h Bool.false_ne_true
  | .skey mk i o, Γ, X, Wx, e, F, h => by
    unfold chk at h
    split at h
    · rename_i v hv
      unfold skOf at hv
      split at hv
      case h_2 => cases hv
      rename_i y p1 v k c pa z jj pz op a p2 b p3 p4 p5 d p6 j2 p7 scope lpos kpos pos
      split at hv
      case isFalse => cases hv
      rename_i hc
      cases hv
      have h7 := h
      simp only [Bool.and_eq_true, decide_eq_true_eq] at hc
      obtain ⟨⟨⟨⟨⟨⟨⟨⟨⟨⟨⟨h1, rfl⟩, rfl⟩, h3⟩, h4⟩, rfl⟩, rfl⟩, rfl⟩, rfl⟩, rfl⟩, h5⟩, h6⟩ := hc
      obtain ⟨g1, g2⟩ := F.gl h3
      obtain ⟨cc, P0, x0, lv, B, hcd, hq, htab, hx0, one, hdp, _⟩ := (F.mkr h1).ex
      obtain ⟨n1, n2, n3, n4⟩ := F.nm h5
      exact pe_ev_skey F.rm hdp g1 (F.bl _ (by decide)) h4 (ex_ok o F h7) n1 n2 B hcd hq htab hx0 one (by rw [F.sc]; exact keyS_by h6) (bind_c _) (by decide) n3 n4
    · exact absurd h Bool.false_ne_true
  | .word f g es, Γ, X, Wx, e, F, h => by
    unfold chk at h
    split at h
    · rename_i vs0 scope hv
      unfold wdOf at hv
      split at hv
      case h_2 => cases hv
      rename_i y p1 z p2 v vs p3 scope1 lpos pos
      split at hv
      case isFalse => cases hv
      rename_i hc
      cases hv
      simp only [Bool.and_eq_true] at h
      obtain ⟨⟨h2, h3⟩, h7⟩ := h
      simp only [Bool.and_eq_true, decide_eq_true_eq] at hc
      obtain ⟨⟨⟨⟨⟨h1, rfl⟩, rfl⟩, h4⟩, h5⟩, h6⟩ := hc
      obtain ⟨g1, g2⟩ := F.gl h4
      obtain ⟨cc, P0, x0, lv, B, hcd, hq, htab, hx0, one, hdp, wf, low⟩ := (F.mkr h1).ex
      rcases wf _ h2 with ⟨hroom, W0⟩ | hst
      case inr =>
        refine ⟨fun _ _ σ H Q _ ⟨W, μ, mσ, mh, hr, sr, po⟩ => ?_⟩
        have po : Post X W Wx (rV X W) (Res.calm (G.wd y ((evs G es mσ mh).bind fun xs h1 => G.cl2 z xs h1) mh.length)) σ H μ Q := po
        rw [hst] at po
        exact po.elim
      obtain ⟨ga, pg, bg, sg, dV, kV, doc, pm, cdv, ct, oc, an, od, osl, Ng, a, m1, m2, m3, m4, m5, m6, m7, m8, m9, m10, m11⟩ := W0.ex
      have hL : LamX.LamS X.env.scope scope := by rw [F.sc]; exact LamX.lamS_by h6
      refine pe_ev_word g1 g2 m1 m2 m3 m4 m5 m6 m7 m8 m9 m10 m11 B hcd hq htab hx0 one hroom hL fun A outer s H E f' c' hr2 => ?_
      have FL : Fits P G (Γ.lam scope) (LamX.lamCx X A outer s H E scope f' c') (fun cls d _ H => E cls d H) :=
        { N := F.N, nd := F.nd, sc := rfl, fn := fun _ q => (nomatch q), calm := fun _ => rfl, rm := ⟨by have := hr2.un; show (A.deeper (LamX.lamEnv X scope s.heap.objs.size f' c')).units + 200 < cLine; omega, fun _ => hr2.hd⟩, tk := takes_of (E := E) rfl rfl rfl rfl,
          bl := F.bl, df := fun q => (nomatch q), mkr := fun q => (nomatch q), exn := fun _ => F.exn (F.mkc h1), ex := fun a c0 q => (by rw [F.exn (F.mkc h1)] at q; cases q), rs := F.rs, mkc := fun q => (nomatch q), gc := F.gc }
      obtain ⟨gg1, gg2⟩ := FL.gl (show glB (Γ.lam scope).sc _ = true from h5)
      have := pe_ev_call (pos := p3) (p := p2) (low A outer s H E scope f' c' hr2 _ h3) FL.tk gg1 gg2 (chks_plain h7) (evs_ok es FL h7)
      exact this
    · exact absurd h Bool.false_ne_true
  | .isE i c, Γ, X, Wx, e, F, h => by
    unfold chk at h
    split at h
    · simp only [Bool.and_eq_true, decide_eq_true_eq] at h
      obtain ⟨⟨⟨⟨rfl, rfl⟩, h3⟩, h4⟩, h5⟩ := h
      obtain ⟨g1, g2⟩ := F.gl h3
      obtain ⟨g3, g4⟩ := F.gl h4
      obtain ⟨n1, n2, n3, n4⟩ := F.nm h5
      exact pe_ev_isE F.ex (F.bl _ (by decide)) g1 n1 n2 n3 n4 g3 g4
    · exact absurd h Bool.false_ne_true
theorem evs_ok : ∀ (xs : Exs) {Γ : Gm} {X : Cx} {Wx : WX} {es : List Expr}, Fits P G Γ X Wx → chks P Γ xs es = true → PA X es (tA X Wx fun σ h => evs G xs σ h)
  | .nil, Γ, X, Wx, [], F, h => pa_ev_nil
  | .nil, Γ, X, Wx, _ :: _, F, h => absurd h Bool.false_ne_true
  | .cons x xs, Γ, X, Wx, [], F, h => absurd h Bool.false_ne_true
  | .cons x xs, Γ, X, Wx, e :: es, F, h => by
    simp only [chks, Bool.and_eq_true] at h
    obtain ⟨⟨h1, h2⟩, h3⟩ := h
    exact pa_ev_cons h1 (ex_ok x F h2) (evs_ok xs F h3)
theorem and_ok : ∀ (xs : Exs) {Γ : Gm} {X : Cx} {Wx : WX} {e : Expr} {es : List Expr} {pos : Pos}, Fits P G Γ X Wx → chks P Γ xs (e :: es) = true → PE X (.BoolOp .And (e :: es) pos) (tE X Wx fun σ h => evAndV G xs σ h)
  | .nil, Γ, X, Wx, e, es, pos, F, h => absurd h Bool.false_ne_true
  | .cons x .nil, Γ, X, Wx, e, es, pos, F, h => by
    simp only [chks, Bool.and_eq_true] at h
    obtain ⟨⟨h1, h2⟩, h3⟩ := h
    cases es with
    | nil => exact pe_one (ex_ok x F h2)
    | cons _ _ => exact absurd h3 Bool.false_ne_true
  | .cons x (.cons y ys), Γ, X, Wx, e, es, pos, F, h => by
    rw [chks] at h
    simp only [Bool.and_eq_true] at h
    obtain ⟨⟨h1, h2⟩, h3⟩ := h
    cases es with
    | nil => exact absurd h3 Bool.false_ne_true
    | cons e2 es => exact pe_ev_and (ex_ok x F h2) (and_ok (.cons y ys) F h3)
theorem or_ok : ∀ (xs : Exs) {Γ : Gm} {X : Cx} {Wx : WX} {e : Expr} {es : List Expr} {pos : Pos}, Fits P G Γ X Wx → chks P Γ xs (e :: es) = true → PE X (.BoolOp .Or (e :: es) pos) (tE X Wx fun σ h => evOrV G xs σ h)
  | .nil, Γ, X, Wx, e, es, pos, F, h => absurd h Bool.false_ne_true
  | .cons x .nil, Γ, X, Wx, e, es, pos, F, h => by
    simp only [chks, Bool.and_eq_true] at h
    obtain ⟨⟨h1, h2⟩, h3⟩ := h
    cases es with
    | nil => exact pe_one (ex_ok x F h2)
    | cons _ _ => exact absurd h3 Bool.false_ne_true
  | .cons x (.cons y ys), Γ, X, Wx, e, es, pos, F, h => by
    rw [chks] at h
    simp only [Bool.and_eq_true] at h
    obtain ⟨⟨h1, h2⟩, h3⟩ := h
    cases es with
    | nil => exact absurd h3 Bool.false_ne_true
    | cons e2 es => exact pe_ev_or (ex_ok x F h2) (or_ok (.cons y ys) F h3)
theorem andT_ok : ∀ (xs : Exs) {Γ : Gm} {X : Cx} {Wx : WX} {e : Expr} {es : List Expr} {pos : Pos}, Fits P G Γ X Wx → chks P Γ xs (e :: es) = true → PW X (.BoolOp .And (e :: es) pos) (tT X Wx fun σ h => evAnd G xs σ h)
  | .nil, Γ, X, Wx, e, es, pos, F, h => absurd h Bool.false_ne_true
  | .cons x xs, Γ, X, Wx, e, [], pos, F, h => by
    simp only [chks, Bool.and_eq_true] at h
    obtain ⟨⟨h1, h2⟩, h3⟩ := h
    cases xs with
    | nil => exact pw_ev_and1 (ext_ok x F h2)
    | cons _ _ => exact absurd h3 Bool.false_ne_true
  | .cons x xs, Γ, X, Wx, e, e2 :: es, pos, F, h => by
    simp only [chks, Bool.and_eq_true] at h
    obtain ⟨⟨h1, h2⟩, h3⟩ := h
    exact pw_ev_and (ext_ok x F h2) (andT_ok xs F h3)
theorem orT_ok : ∀ (xs : Exs) {Γ : Gm} {X : Cx} {Wx : WX} {e : Expr} {es : List Expr} {pos : Pos}, Fits P G Γ X Wx → chks P Γ xs (e :: es) = true → PW X (.BoolOp .Or (e :: es) pos) (tT X Wx fun σ h => evOr G xs σ h)
  | .nil, Γ, X, Wx, e, es, pos, F, h => absurd h Bool.false_ne_true
  | .cons x xs, Γ, X, Wx, e, [], pos, F, h => by
    simp only [chks, Bool.and_eq_true] at h
    obtain ⟨⟨h1, h2⟩, h3⟩ := h
    cases xs with
    | nil => exact pw_ev_or1 (ext_ok x F h2)
    | cons _ _ => exact absurd h3 Bool.false_ne_true
  | .cons x xs, Γ, X, Wx, e, e2 :: es, pos, F, h => by
    simp only [chks, Bool.and_eq_true] at h
    obtain ⟨⟨h1, h2⟩, h3⟩ := h
    exact pw_ev_or (ext_ok x F h2) (orT_ok xs F h3)
theorem opt_ok : ∀ (xs : Exs) {Γ : Gm} {X : Cx} {Wx : WX} {o : Option Expr}, Fits P G Γ X Wx → chko P Γ xs o = true → PO X o (tO X Wx fun σ h => (evs G xs σ h).bind fun l h2 => ofOpt (optI l) h2)
  | .nil, Γ, X, Wx, none, F, h => po_ev0
  | .nil, Γ, X, Wx, some _, F, h => absurd h Bool.false_ne_true
  | .cons x .nil, Γ, X, Wx, some e, F, h => po_ev1 (ex_ok x F h)
  | .cons x .nil, Γ, X, Wx, none, F, h => absurd h Bool.false_ne_true
  | .cons x (.cons _ _), Γ, X, Wx, none, F, h => absurd h Bool.false_ne_true
  | .cons x (.cons _ _), Γ, X, Wx, some _, F, h => absurd h Bool.false_ne_true
theorem ifs_ok : ∀ (xs : Exs) {Γ : Gm} {X : Cx} {cs : List Expr}, Fits P G Γ X Wn → cs.length ≤ 1 → chks P Γ xs cs = true → PTs X cs (tT X Wn fun σ h => evAnd G xs σ h)
  | .nil, Γ, X, [], F, hl, h => pts_ev0
  | .nil, Γ, X, _ :: _, F, hl, h => absurd h Bool.false_ne_true
  | .cons x xs, Γ, X, [], F, hl, h => absurd h Bool.false_ne_true
  | .cons x .nil, Γ, X, [c], F, hl, h => by
    simp only [chks, Bool.and_eq_true] at h
    exact pts_ev1 (ext_ok x F h.1.2)
  | .cons x (.cons y ys), Γ, X, [c], F, hl, h => by
    rw [chks] at h
    simp only [Bool.and_eq_true] at h
    exact absurd h.2 Bool.false_ne_true
  | .cons x xs, Γ, X, _ :: _ :: _, F, hl, h => absurd hl (by simp)
theorem itr_ok : ∀ (x : Itr) {Γ : Gm} {X : Cx} {Wx : WX} {tg e : Expr}, Fits P G Γ X Wx → chki P Γ x (isTup tg) e = true → PI X tg e (tI X Wx fun σ h => evI G x σ h)
  | .seq a, Γ, X, Wx, tg, e, F, h => pi_ev_seq (ex_ok a F h)
  | .rng a b, Γ, X, Wx, tg, e, F, h => by
    unfold chki at h
    split at h
    · simp only [Bool.and_eq_true, decide_eq_true_eq] at h
      obtain ⟨⟨⟨⟨⟨rfl, h2⟩, h3⟩, h4⟩, h5⟩, h6⟩ := h
      obtain ⟨g1, g2⟩ := F.gl h2
      have s2 : starEach [_] X.env = _ := star_cons (es := []) (env := X.env) h4
      exact pi_ev_rng g1 (F.bl _ (by decide)) (by rw [star_cons h3, s2]; rfl) (by rw [s2]; rfl) (ex_ok a F h5) (ex_ok b F h6)
    · exact absurd h Bool.false_ne_true
  | .rng0 b, Γ, X, Wx, tg, e, F, h => by
    unfold chki at h
    split at h
    · simp only [Bool.and_eq_true, decide_eq_true_eq] at h
      obtain ⟨⟨⟨rfl, h2⟩, h4⟩, h6⟩ := h
      obtain ⟨g1, g2⟩ := F.gl h2
      have s2 : starEach [_] X.env = _ := star_cons (es := []) (env := X.env) h4
      exact pi_ev_rng0 g1 (F.bl _ (by decide)) (by rw [s2]; rfl) (ex_ok b F h6)
    · exact absurd h Bool.false_ne_true
  | .enm b, Γ, X, Wx, tg, e, F, h => by
    unfold chki at h
    split at h
    · simp only [Bool.and_eq_true, decide_eq_true_eq] at h
      obtain ⟨⟨⟨⟨h0, rfl⟩, h2⟩, h4⟩, h6⟩ := h
      obtain ⟨g1, g2⟩ := F.gl h2
      have s2 : starEach [_] X.env = _ := star_cons (es := []) (env := X.env) h4
      cases tg <;> first | (exact absurd h0 Bool.false_ne_true) | skip
      exact pi_ev_enm g1 (F.bl _ (by decide)) (by rw [s2]; rfl) (ex_ok b F h6)
    · exact absurd h Bool.false_ne_true
  | .zip a b, Γ, X, Wx, tg, e, F, h => by
    unfold chki at h
    split at h
    · simp only [Bool.and_eq_true, decide_eq_true_eq] at h
      obtain ⟨⟨⟨⟨⟨⟨h0, rfl⟩, h2⟩, h3⟩, h4⟩, h5⟩, h6⟩ := h
      obtain ⟨g1, g2⟩ := F.gl h2
      have s2 : starEach [_] X.env = _ := star_cons (es := []) (env := X.env) h4
      cases tg <;> first | (exact absurd h0 Bool.false_ne_true) | skip
      exact pi_ev_zip g1 (F.bl _ (by decide)) (by rw [star_cons h3, s2]; rfl) (by rw [s2]; rfl) (ex_ok a F h5) (ex_ok b F h6)
    · exact absurd h Bool.false_ne_true
theorem ext_ok : ∀ (x : Ex) {Γ : Gm} {X : Cx} {Wx : WX} {e : Expr}, Fits P G Γ X Wx → chk P Γ x e = true → PT X e (tT X Wx fun σ h => evT G x σ h)
  | .andL es, Γ, X, Wx, e, F, h => by
    unfold chk at h
    split at h
    · simp only [Bool.and_eq_true, decide_eq_true_eq] at h
      obtain ⟨rfl, h2⟩ := h
      exact pt_of_pw (andT_ok es F h2)
    · exact absurd h Bool.false_ne_true
  | .orL es, Γ, X, Wx, e, F, h => by
    unfold chk at h
    split at h
    · simp only [Bool.and_eq_true, decide_eq_true_eq] at h
      obtain ⟨rfl, h2⟩ := h
      exact pt_of_pw (orT_ok es F h2)
    · exact absurd h Bool.false_ne_true
  | .not a, Γ, X, Wx, e, F, h => by
    cases e <;> first | (exact absurd h Bool.false_ne_true) | skip
    simp only [chk, Bool.and_eq_true, decide_eq_true_eq] at h
    obtain ⟨rfl, h2⟩ := h
    exact pt_ev_not (ext_ok a F h2)
  | .ite c a b, Γ, X, Wx, e, F, h => by
    cases e <;> first | (exact absurd h Bool.false_ne_true) | skip
    simp only [chk, Bool.and_eq_true, decide_eq_true_eq] at h
    obtain ⟨⟨h1, h2⟩, h3⟩ := h
    exact pt_ev_ite (ext_ok c F h1) (ext_ok a F h2) (ext_ok b F h3)
  | .frz a, Γ, X, Wx, e, F, h => pt_stuck
  | .cmp op a b, Γ, X, Wx, e, F, h => by
    unfold chk at h
    split at h
    · simp only [Bool.and_eq_true, decide_eq_true_eq, Bool.not_eq_true'] at h
      obtain ⟨⟨⟨rfl, h2⟩, h3⟩, h4⟩ := h
      exact pt_ev_cmp F.rm h2 (ex_ok a F h3) (ex_ok b F h4)
    · exact absurd h Bool.false_ne_true
  | .chain o1 o2 a b c, Γ, X, Wx, e, F, h => by
    unfold chk at h
    split at h
    · simp only [Bool.and_eq_true, decide_eq_true_eq, Bool.not_eq_true'] at h
      obtain ⟨⟨⟨⟨⟨rfl, rfl⟩, h2⟩, h3⟩, h4⟩, h5⟩ := h
      exact pt_ev_chain F.rm h2 (ex_ok a F h3) (ex_ok b F h4) (ex_ok c F h5)
    · exact absurd h Bool.false_ne_true
  | .var i, Γ, X, Wx, e, F, h => by
    have q := ex_ok (.var i) F h
    cases e <;> first | (exact absurd h Bool.false_ne_true) | skip
    exact pt_ev (fun _ => rfl) q
  | .int i, Γ, X, Wx, e, F, h => by
    have q := ex_ok (.int i) F h
    cases e <;> first | (exact absurd h Bool.false_ne_true) | skip
    exact pt_ev (fun _ => rfl) q
  | .bl i, Γ, X, Wx, e, F, h => by
    have q := ex_ok (.bl i) F h
    cases e <;> first | (exact absurd h Bool.false_ne_true) | skip
    exact pt_ev (fun _ => rfl) q
  | .non, Γ, X, Wx, e, F, h => by
    have q := ex_ok .non F h
    cases e <;> first | (exact absurd h Bool.false_ne_true) | skip
    exact pt_ev (fun _ => rfl) q
  | .str i, Γ, X, Wx, e, F, h => by
    have q := ex_ok (.str i) F h
    cases e <;> first | (exact absurd h Bool.false_ne_true) | skip
    exact pt_ev (fun _ => rfl) q
  | .gc i, Γ, X, Wx, e, F, h => by
    have q := ex_ok (.gc i) F h
    cases e <;> first | (exact absurd h Bool.false_ne_true) | skip
    exact pt_ev (fun _ => rfl) q
  | .dfn _, Γ, X, Wx, e, F, h => absurd h Bool.false_ne_true
  | .bin op mk a b, Γ, X, Wx, e, F, h => by
    have q := ex_ok (.bin op mk a b) F h
    cases e <;> first | (exact absurd h Bool.false_ne_true) | skip
    exact pt_ev (fun _ => rfl) q
  | .neg a, Γ, X, Wx, e, F, h => by
    have q := ex_ok (.neg a) F h
    cases e <;> first | (exact absurd h Bool.false_ne_true) | skip
    simp only [chk, Bool.and_eq_true, decide_eq_true_eq] at h
    obtain ⟨rfl, h2⟩ := h
    exact pt_ev (fun _ => rfl) q
  | .tr3 es, Γ, X, Wx, e, F, h => by
    have q := ex_ok (.tr3 es) F h
    cases e <;> first | (exact absurd h Bool.false_ne_true) | skip
    exact pt_ev (fun _ => rfl) q
  | .tup es, Γ, X, Wx, e, F, h => by
    have q := ex_ok (.tup es) F h
    cases e <;> first | (exact absurd h Bool.false_ne_true) | skip
    exact pt_ev (fun _ => rfl) q
  | .lst mk es, Γ, X, Wx, e, F, h => by
    have q := ex_ok (.lst mk es) F h
    cases e <;> first | (exact absurd h Bool.false_ne_true) | skip
    exact pt_ev (fun _ => rfl) q
  | .idx a b, Γ, X, Wx, e, F, h => by
    have q := ex_ok (.idx a b) F h
    cases e <;> first | (exact absurd h Bool.false_ne_true) | skip
    exact pt_ev (fun _ => rfl) q
  | .sli mk a lo hi, Γ, X, Wx, e, F, h => by
    have q := ex_ok (.sli mk a lo hi) F h
    cases e <;> first | (exact absurd h Bool.false_ne_true) | skip
    exact pt_ev (fun _ => rfl) q
  | .call f es, Γ, X, Wx, e, F, h => by
    have q := ex_ok (.call f es) F h
    cases e <;> first | (exact absurd h Bool.false_ne_true) | skip
    exact pt_ev (fun _ => rfl) q
  | .bi b mk es, Γ, X, Wx, e, F, h => by
    have q := ex_ok (.bi b mk es) F h
    cases e <;> first | (exact absurd h Bool.false_ne_true) | skip
    exact pt_ev (fun _ => rfl) q
  | .isi a ts, Γ, X, Wx, e, F, h => by
    have q := ex_ok (.isi a ts) F h
    cases e <;> first | (exact absurd h Bool.false_ne_true) | skip
    exact pt_ev (fun _ => rfl) q
  | .met m o es, Γ, X, Wx, e, F, h => by
    have q := ex_ok (.met m o es) F h
    cases e <;> first | (exact absurd h Bool.false_ne_true) | skip
    exact pt_ev (fun _ => rfl) q
  | .rg tu mk es, Γ, X, Wx, e, F, h => by
    have q := ex_ok (.rg tu mk es) F h
    cases e <;> first | (exact absurd h Bool.false_ne_true) | skip
    exact pt_ev (fun _ => rfl) q
  | .lc mk elt tg it ifs own, Γ, X, Wx, e, F, h => by
    have q := ex_ok (.lc mk elt tg it ifs own) F h
    cases e <;> first | (exact absurd h Bool.false_ne_true) | skip
    exact pt_ev (fun _ => rfl) q
  | .dnew t, Γ, X, Wx, e, F, h => by
    have q := ex_ok (.dnew t) F h
    cases e <;> first | (exact absurd h Bool.false_ne_true) | skip
    exact pt_ev (fun _ => rfl) q
  | .dget o k, Γ, X, Wx, e, F, h => by
    have q := ex_ok (.dget o k) F h
    cases e <;> first | (exact absurd h Bool.false_ne_true) | skip
    exact pt_ev (fun _ => rfl) q
  | .dgetD o k d, Γ, X, Wx, e, F, h => by
    have q := ex_ok (.dgetD o k d) F h
    cases e <;> first | (exact absurd h Bool.false_ne_true) | skip
    exact pt_ev (fun _ => rfl) q
  | .dsort rv mk o, Γ, X, Wx, e, F, h => by
    have q := ex_ok (.dsort rv mk o) F h
    cases e <;> first | (exact absurd h Bool.false_ne_true) | skip
    exact pt_ev (fun _ => rfl) q
  | .din ng k o, Γ, X, Wx, e, F, h => by
    unfold chk at h
    split at h
    · simp only [Bool.and_eq_true, decide_eq_true_eq, Bool.not_eq_true'] at h
      obtain ⟨⟨⟨rfl, h2⟩, h3⟩, h4⟩ := h
      exact pt_ev_din F.rm ng h2 (ex_ok o F h4) (ex_ok k F h3)
    · exact absurd h Bool.false_ne_true
  | .dset i it, Γ, X, Wx, e, F, h => by
    have q := ex_ok (.dset i it) F h
    cases e <;> first | (exact absurd h Bool.false_ne_true) | skip
    exact pt_ev (fun _ => rfl) q
  | .dsc k i it, Γ, X, Wx, e, F, h => by
    have q := ex_ok (.dsc k i it) F h
    cases e <;> first | (exact absurd h Bool.false_ne_true) | skip
    exact pt_ev (fun _ => rfl) q
  | .ddat k o, Γ, X, Wx, e, F, h => by
    have q := ex_ok (.ddat k o) F h
    cases e <;> first | (exact absurd h Bool.false_ne_true) | skip
    exact pt_ev (fun _ => rfl) q
  | .rev o, Γ, X, Wx, e, F, h => by
    have q := ex_ok (.rev o) F h
    cases e <;> first | (exact absurd h Bool.false_ne_true) | skip
    exact pt_ev (fun _ => rfl) q
  | .dvals i j, Γ, X, Wx, e, F, h => by
    have q := ex_ok (.dvals i j) F h
    cases e <;> first | (exact absurd h Bool.false_ne_true) | skip
    exact pt_ev (fun _ => rfl) q
  | .skey mk i o, Γ, X, Wx, e, F, h => by
    have q := ex_ok (.skey mk i o) F h
    cases e <;> first | (exact absurd h Bool.false_ne_true) | skip
    exact pt_ev (fun _ => rfl) q
  | .word f g es, Γ, X, Wx, e, F, h => by
    have q := ex_ok (.word f g es) F h
    cases e <;> first | (exact absurd h Bool.false_ne_true) | skip
    exact pt_ev (fun _ => rfl) q
  | .isE i c, Γ, X, Wx, e, F, h => by
    have q := ex_ok (.isE i c) F h
    cases e <;> first | (exact absurd h Bool.false_ne_true) | skip
    exact pt_ev (fun _ => rfl) q
end
end
end Ev

set_option Elab.async false
set_option linter.all false
set_option autoImplicit false
set_option maxRecDepth 100000
set_option maxHeartbeats 4000000
namespace Ev
open PySem PySem.Spec PyProof.Rows L2
/-- the wish about exceptions asks nothing of the slots -/
def NoSlots (Wx : WX) : Prop := ∀ u d σ σ' H, Wx u d σ H → Wx u d σ' H
section
variable (X : Cx) (W : List Addr) (Wx : WX)
/-- what is wanted of a statement's outcome -/
def PostS (res : Res Fl) (H : Hp) (μ : Mu) (D : Ends) : Prop :=
  match res with
  | .ok fl mh' => (match fl with
    | .nx m => ∀ H' μ' σ', Stp H μ H' μ' → hR X W H' μ' mh' → sR X W H' μ' m σ' → D.nx σ' H'
    | .bk m => ∀ H' μ' σ', Stp H μ H' μ' → hR X W H' μ' mh' → sR X W H' μ' m σ' → D.bk σ' H'
    | .ct m => ∀ H' μ' σ', Stp H μ H' μ' → hR X W H' μ' mh' → sR X W H' μ' m σ' → D.ct σ' H'
    | .rt x => ∀ H' μ' v, Stp H μ H' μ' → hR X W H' μ' mh' → rV X W H' μ' x v → D.rt v H')
  | .exc c xs mh' => ∀ u d H' μ' σ', Stp H μ H' μ' → hR X W H' μ' mh' → ExV X c xs u d H' → Wx u d σ' H'
  | .stuck => False
end
def tS (X : Cx) (Wx : WX) (f : Env → MH → Res Fl) : TS := fun D σ H => ∃ W μ mσ mh, hR X W H μ mh ∧ sR X W H μ mσ σ ∧ PostS X W Wx (f mσ mh) H μ D
section
variable {X : Cx} {W : List Addr} {Wx : WX} {α ρ : Type}
theorem PostS.step {res : Res Fl} {H H1 : Hp} {μ μ1 : Mu} {D : Ends} (h : PostS X W Wx res H μ D) (st : Stp H μ H1 μ1) : PostS X W Wx res H1 μ1 D := by
  cases res with
  | ok fl mh =>
    cases fl with
    | nx m => exact fun H' μ' σ' a b c => h H' μ' σ' (st.trans a) b c
    | bk m => exact fun H' μ' σ' a b c => h H' μ' σ' (st.trans a) b c
    | ct m => exact fun H' μ' σ' a b c => h H' μ' σ' (st.trans a) b c
    | rt m => exact fun H' μ' σ' a b c => h H' μ' σ' (st.trans a) b c
  | exc c xs mh => exact fun u d H' μ' σ' a b e => h u d H' μ' σ' (st.trans a) b e
  | stuck => exact h
theorem PostS.bind {R : Hp → Mu → α → ρ → Prop} {res : Res α} {g : α → MH → Res Fl} {σ : L2.St} {H : Hp} {μ : Mu} {mσ : Env} {mh : MH} {D : Ends} (hr : hR X W H μ mh) (sr : sR X W H μ mσ σ) (h : PostS X W Wx (res.bind g) H μ D) :
    Post X W Wx R res σ H μ (fun v H1 => ∃ a μ1 mh1, Stp H μ H1 μ1 ∧ hR X W H1 μ1 mh1 ∧ sR X W H1 μ1 mσ σ ∧ R H1 μ1 a v ∧ PostS X W Wx (g a mh1) H1 μ1 D) := by
  cases res with
  | ok a mh1 => exact fun v H1 μ1 st hr1 r => ⟨a, μ1, mh1, st, hr1, sr.step st hr, r, PostS.step (res := g a mh1) h st⟩
  | exc c xs mh1 => exact fun u d H' μ' a b e => h u d H' μ' σ a b e
  | stuck => exact h
/-- a part, then the rest -/
theorem SRg.one {R : List Addr → Hp → Mu → α → ρ → Prop} {f : Env → MH → Res α} {g : Env → α → MH → Res Fl} {σ : L2.St} {H : Hp} {D : Ends} (h : tS X Wx (fun σ h => (f σ h).bind (g σ)) D σ H) {Q1 : ρ → Hp → Prop}
    (k : ∀ v H1 W mσ μ x mh, hR X W H1 μ mh → sR X W H1 μ mσ σ → R W H1 μ x v → PostS X W Wx (g mσ x mh) H1 μ D → Q1 v H1) : Rg X Wx R f σ H Q1 := by
  obtain ⟨W, μ, mσ, mh, hr, sr, p⟩ := h
  exact ⟨W, μ, mσ, mh, hr, sr, (PostS.bind (R := R W) hr sr p).mono fun v H1 ⟨a, μ1, mh1, st, hr1, sr1, r, p1⟩ => k v H1 W mσ μ1 a mh1 hr1 sr1 r p1⟩
theorem PostS.calmB {res : Res α} {g : α → MH → Res Fl} {H : Hp} {μ : Mu} {D : Ends} (h : PostS X W Wx (res.calm.bind g) H μ D) : ∃ a mh, res = .ok a mh ∧ PostS X W Wx (g a mh) H μ D := by
  cases res with
  | ok a mh => exact ⟨a, mh, rfl, h⟩
  | exc c xs mh => exact False.elim h
  | stuck => exact False.elim h
theorem PostS.nx {m : Env} {mh : MH} {H : Hp} {μ : Mu} {D : Ends} {σ : L2.St} (p : PostS X W Wx (.ok (.nx m) mh) H μ D) (hr : hR X W H μ mh) (sr : sR X W H μ m σ) : D.nx σ H := p H μ σ (Stp.refl _ _) hr sr
/-! ### blocks -/
variable {st : Stmt} {rest : List Stmt} {f g : Env → MH → Res Fl} {e c : Expr} {pos : Pos} {fa : Env → MH → Res Vl} {ga : Env → MH → Res Bool}
theorem pss_ev_nil : PSs X [] (tS X Wx fun σ h => .ok (.nx σ) h) := pss_imp pss_nil fun D σ H ⟨W, μ, mσ, mh, hr, sr, p⟩ => p.nx hr sr
theorem pss_ev_cons (h1 : PS X st (tS X Wx f)) (h2 : PSs X rest (tS X Wx g)) : PSs X (st :: rest) (tS X Wx fun σ h => (f σ h).bind fun fl h1 => (match fl with | .nx σ1 => g σ1 h1 | fl => .ok fl h1)) := by
  refine pss_imp (pss_cons h1 h2) fun D σ H ⟨W, μ, mσ, mh, hr, sr, p⟩ => ⟨W, μ, mσ, mh, hr, sr, ?_⟩
  dsimp only at p
  cases e : f mσ mh with
  | ok fl mh1 =>
    rw [e] at p
    cases fl with
    | nx m => exact fun H' μ' σ' a b c => ⟨W, μ', m, mh1, b, c, PostS.step (res := g m mh1) p a⟩
    | bk m => exact p
    | ct m => exact p
    | rt m => exact p
  | exc c xs mh1 => rw [e] at p; exact p
  | stuck => rw [e] at p; exact p
theorem ps_ev_bad : PS X st (tS X Wx fun _ _ => .stuck) := ⟨fun _ _ _ _ _ _ ⟨_, _, _, _, _, _, z⟩ => z.elim⟩
theorem ps_ev_pass : PS X (.Pass pos) (tS X Wx fun σ h => .ok (.nx σ) h) := ps_imp ps_pass fun D σ H ⟨W, μ, mσ, mh, hr, sr, p⟩ => p.nx hr sr
theorem ps_ev_brk : PS X (.Break pos) (tS X Wx fun σ h => .ok (.bk σ) h) := ps_imp ps_break fun D σ H ⟨W, μ, mσ, mh, hr, sr, p⟩ => p H μ σ (Stp.refl _ _) hr sr
theorem ps_ev_cont : PS X (.Continue pos) (tS X Wx fun σ h => .ok (.ct σ) h) := ps_imp ps_continue fun D σ H ⟨W, μ, mσ, mh, hr, sr, p⟩ => p H μ σ (Stp.refl _ _) hr sr
theorem ps_ev_retN : PS X (.Return none pos) (tS X Wx fun _ h => .ok (.rt (.d .none)) h) := ps_imp ps_retN fun D σ H ⟨W, μ, mσ, mh, hr, sr, p⟩ => p H μ .non (Stp.refl _ _) hr Dz.non
theorem ps_ev_ret (he : PE X e (tE X Wx fa)) : PS X (.Return (some e) pos) (tS X Wx fun σ h => (fa σ h).bind fun v h1 => .ok (.rt v) h1) :=
  ps_imp (ps_ret he) fun D σ H h => SRg.one (R := rV X) h fun v H1 W mσ μ x mh hr sr r p => p H1 μ v (Stp.refl _ _) hr r
theorem ps_ev_exp (he : PE X e (tE X Wx fa)) (hs : swapsWith e none pos.line X.env = pure false) : PS X (.Expr e pos) (tS X Wx fun σ h => (fa σ h).bind fun _ h1 => .ok (.nx σ) h1) :=
  ps_imp (ps_expr he hs) fun D σ H h => SRg.one (R := rV X) h fun v H1 W mσ μ x mh hr sr r p => p.nx hr sr
theorem ps_ev_if {a b : List Stmt} (hc : PT X c (tT X Wx ga)) (ha : PSs X a (tS X Wx f)) (hb : PSs X b (tS X Wx g)) : PS X (.If c a b pos) (tS X Wx fun σ h => (ga σ h).bind fun t h1 => if t = true then f σ h1 else g σ h1) := by
  refine ps_imp (ps_if hc ha hb) fun D σ H h => SRg.one (R := rB) h fun v H1 W mσ μ x mh hr sr r p => ?_
  cases r
  cases v with
  | true => rw [if_pos rfl]; rw [if_pos rfl] at p; exact ⟨W, μ, mσ, mh, hr, sr, p⟩
  | false => rw [if_neg (by simp)]; rw [if_neg (by simp)] at p; exact ⟨W, μ, mσ, mh, hr, sr, p⟩
/-! ### assignments -/
theorem asg_nm {i : Nat} {D : Ends} {σ : L2.St} {H : Hp} (h : tS X Wx (fun σ h => (fa σ h).bind fun v h1 => .ok (.nx (σ.set i (some v))) h1) D σ H) : tAsg (tE X Wx fa) (gName i) D σ H :=
  SRg.one (R := rV X) h fun v H1 W mσ μ x mh hr sr r p => p.nx hr (sr.set r i)
theorem ps_ev_set {i : Nat} {x : Str} {pos' : Pos} (hN : X.N.Nodup) (hi : X.N[i]? = some x) (hx : Loc X.env.scope x) (he : PE X e (tE X Wx fa)) (hs : swapsWith e (some (.Name x pos')) pos.line X.env = pure false) (hf : X.fn x = true ∨ X.env.scope.names.lookup x = some .local) :
    PS X (.Assign [.Name x pos'] e pos) (tS X Wx fun σ h => (fa σ h).bind fun v h1 => .ok (.nx (σ.set i (some v))) h1) :=
  ps_imp (ps_set hN hi hx he hs hf) fun D σ H h => asg_nm h
theorem ps_ev_asg {tg : Expr} {t : Tg} (he : PE X e (tE X Wx fa)) (hg : PG X tg (tG X t)) (hs : swapsWithSole [tg] e pos.line X.env = pure false) (hw : swappedStores [tg] e X.env = pure none) (h1 : (assignEach [tg] X.env).map (·.2) = [assign tg X.env]) :
    PS X (.Assign [tg] e pos) (tS X Wx fun σ h => (fa σ h).bind fun v h1 => (match putT t v σ with | some σ1 => .ok (.nx σ1) h1 | none => .stuck)) := by
  refine ps_imp (ps_asg he hg hs hw h1) fun D σ H h => SRg.one (R := rV X) h fun v H1 W mσ μ x mh hr sr r p => ?_
  revert p
  split
  · rename_i m e
    intro p
    exact ⟨W, μ, mσ, mh, x, m, hr, sr, r, e, fun σ' sr' _ => p.nx hr sr'⟩
  · exact fun z => z.elim
theorem ps_ev_par {i j : Nat} {x y : Str} {a b : Expr} {fb : Env → MH → Res Vl} {px py pt : Pos} {kt k2 : Nat} {pt2 : Pos} (hc : X.calm = true) (hN : X.N.Nodup) (hi : X.N[i]? = some x) (hj : X.N[j]? = some y) (hij : i ≠ j)
    (hx : X.env.scope.names.lookup x = some .local) (hy : X.env.scope.names.lookup y = some .local) (pa : plain a = true) (pb : plain b = true) (ha : PE X a (tE X Wx fa)) (hb : PE X b (tE X Wx fb))
    (hw : swappedStores [.Tuple [.Name x px, .Name y py] kt pt] (.Tuple [a, b] k2 pt2) X.env = pure (some [x, y])) :
    PS X (.Assign [.Tuple [.Name x px, .Name y py] kt pt] (.Tuple [a, b] k2 pt2) pos) (tS X Wx fun σ h => (fa σ h).bind fun v h1 => (fb σ h1).bind fun w h2 => .ok (.nx ((σ.set i (some v)).set j (some w))) h2) := by
  refine ps_imp (ps_par hc hN hi hj hij hx hy (pa_cons ha (pa_cons hb pa_nil (star_cons pb)) (star_cons pa)) hw) fun D σ H h => SRg.one (R := rV X) h fun v H1 W mσ μ x mh hr sr r p => ?_
  refine ⟨W, μ, mσ, mh, hr, sr, (PostS.bind (R := rV X W) hr sr p).mono fun w H2 ⟨y, μ2, mh2, st2, hr2, sr2, rw, p2⟩ => ?_⟩
  exact ⟨v, w, rfl, p2.nx hr2 ((sr2.set (st2.rv hr r) i).set rw j)⟩
/-- three names at once, as ps_par -/
def tPar3 (i j k : Nat) (ta : TA) : TS := fun D σ H => ta σ H fun vs H1 => ∃ u v w, vs = [u, v, w] ∧ D.nx (((σ.set i (some u)).set j (some v)).set k (some w)) H1
theorem ps_par3 {i j k : Nat} {x y z : Str} {a b d : Expr} {ta : TA} {px py pz pt : Pos} {kt k2 : Nat} {pt2 : Pos} (hc : X.calm = true) (hN : X.N.Nodup) (hi : X.N[i]? = some x) (hj : X.N[j]? = some y) (hk : X.N[k]? = some z) (hij : i ≠ j) (hik : i ≠ k) (hjk : j ≠ k)
    (hx : X.env.scope.names.lookup x = some .local) (hy : X.env.scope.names.lookup y = some .local) (hz : X.env.scope.names.lookup z = some .local) (ha : PA X [a, b, d] ta)
    (hw : swappedStores [.Tuple [.Name x px, .Name y py, .Name z pz] kt pt] (.Tuple [a, b, d] k2 pt2) X.env = pure (some [x, y, z])) :
    PS X (.Assign [.Tuple [.Name x px, .Name y py, .Name z pz] kt pt] (.Tuple [a, b, d] k2 pt2) pos) (tPar3 i j k ta) := by
  refine ⟨fun pins s σ H D I h => ?_⟩
  rw [exec_Assign_arm]
  refine wpAny_bind (wpAny_standAt ?_)
  rw [show swapsWithSole [.Tuple [.Name x px, .Name y py, .Name z pz] kt pt] (.Tuple [a, b, d] k2 pt2) pos.line X.env = pure false from rfl]
  refine wpAny_bind (wpAny_pure ?_)
  rw [if_neg (by decide)]
  refine wpAny_bind (Tuple_ (thn (ha.run _ pins s σ H _ I h) fun us s1 ⟨vs, H1, I1, r1, q1⟩ => ?_))
  obtain ⟨u, v, w, e1, q1⟩ := q1
  subst e1
  obtain ⟨u1, u2, u3, rfl, ru, rv, rw'⟩ : ∃ u1 u2 u3, us = [u1, u2, u3] ∧ RelV u u1 ∧ RelV v u2 ∧ RelV w u3 := by
    cases r1 with
    | cons p q =>
      cases q with
      | cons p' q' =>
        cases q' with
        | cons p3 q3 => cases q3; exact ⟨_, _, _, rfl, p, p', p3⟩
  refine wpAny_newObj_type ?_ (by show 3 ≤ sizeLine; decide)
  have I2 : Inv X pins σ H1 { s1 with heap := s1.heap.push { cls := .type "tuple", data := .seq [u1, u2, u3].toArray } } := I1.kept (t' := s1.toks) fun b o e => Heap.get?_push_of_some _ e
  rw [hw]
  refine wpAny_bind (wpAny_pure ?_)
  show wpAny (model X.prog X.w) X.A (do rule "assign.swapped-stores"; let items ← unpackItems (.ref s1.heap.objs.size) 3 none; assignInOrder [fun v => bindName X.env z v, fun v => bindName X.env y v, fun v => bindName X.env x v] items.reverse; pure Flow.next) _ _ _
  refine wpAny_bind (wpAny_rule (wpAny_bind (unpackItems_tuple (items := #[u1, u2, u3]) (I.ok.hd hc) (IsTup.new s1.heap _) fun h' hx' => ?_)))
  have I3 := I2.kept (h' := h') (t' := s1.toks) fun b o e => hx' b o (Nat.ne_of_lt (Heap.lt_size e)) e
  show wpAny _ _ (assignInOrder [fun v => bindName X.env z v, fun v => bindName X.env y v, fun v => bindName X.env x v] [u3, u2, u1] >>= fun _ => pure Flow.next) _ _ _
  refine wpAny_bind (assignInOrder_cons (wpAny_bindName (store_ok I3 hN hk (.inl hz) rw' (fun s2 I4 => ?_) (.inr hz))))
  refine assignInOrder_cons (wpAny_bindName (store_ok I4 hN hj (.inl hy) rv (fun s3 I5 => ?_) (.inr hy)))
  refine assignInOrder_cons (wpAny_bindName (store_ok I5 hN hi (.inl hx) ru (fun s4 I6 => assignInOrder_nil (wpAny_pure ?_)) (.inr hx)))
  have e : (((σ.set k (some w)).set j (some v)).set i (some u)) = (((σ.set i (some u)).set j (some v)).set k (some w)) := by
    rw [List.set_comm _ _ (Ne.symm hij), List.set_comm _ _ (Ne.symm hik), List.set_comm _ _ (Ne.symm hjk)]
  rw [e] at I6
  exact ⟨_, H1, I6, q1⟩
theorem ps_ev_par3 {i j k : Nat} {x y z : Str} {a b d : Expr} {fb fd : Env → MH → Res Vl} {px py pz pt : Pos} {kt k2 : Nat} {pt2 : Pos} (hc : X.calm = true) (hN : X.N.Nodup) (hi : X.N[i]? = some x) (hj : X.N[j]? = some y) (hk : X.N[k]? = some z) (hij : i ≠ j) (hik : i ≠ k) (hjk : j ≠ k)
    (hx : X.env.scope.names.lookup x = some .local) (hy : X.env.scope.names.lookup y = some .local) (hz : X.env.scope.names.lookup z = some .local) (pa : plain a = true) (pb : plain b = true) (pd : plain d = true) (ha : PE X a (tE X Wx fa)) (hb : PE X b (tE X Wx fb)) (hd : PE X d (tE X Wx fd))
    (hw : swappedStores [.Tuple [.Name x px, .Name y py, .Name z pz] kt pt] (.Tuple [a, b, d] k2 pt2) X.env = pure (some [x, y, z])) :
    PS X (.Assign [.Tuple [.Name x px, .Name y py, .Name z pz] kt pt] (.Tuple [a, b, d] k2 pt2) pos) (tS X Wx fun σ h => (fa σ h).bind fun v h1 => (fb σ h1).bind fun w h2 => (fd σ h2).bind fun u h3 => .ok (.nx (((σ.set i (some v)).set j (some w)).set k (some u))) h3) := by
  refine ps_imp (ps_par3 hc hN hi hj hk hij hik hjk hx hy hz (pa_cons ha (pa_cons hb (pa_cons hd pa_nil (star_cons pd)) (star_cons pb)) (star_cons pa)) hw) fun D σ H h => SRg.one (R := rV X) h fun v H1 W mσ μ x mh hr sr r p => ?_
  refine ⟨W, μ, mσ, mh, hr, sr, (PostS.bind (R := rV X W) hr sr p).mono fun w H2 ⟨y, μ2, mh2, st2, hr2, sr2, rw, p2⟩ => ?_⟩
  refine ⟨W, μ2, mσ, mh2, hr2, sr2, (PostS.bind (R := rV X W) hr2 sr2 p2).mono fun u H3 ⟨z, μ3, mh3, st3, hr3, sr3, ru, p3⟩ => ?_⟩
  exact ⟨v, w, u, rfl, p3.nx hr3 (((sr3.set (st3.rv hr2 (st2.rv hr r)) i).set (st3.rv hr2 rw) j).set ru k)⟩
def augV (i : Nat) (op : Bop) (fa : Env → MH → Res Vl) : Env → MH → Res Fl := fun σ h => (match σ[i]? with
    | some (some x) => (fa σ h).bind fun y h1 => (match x, y with
      | .d (.int a), .d (.int b) => (match op, binI op a b with
        | .add, some k => .ok (.nx (σ.set i (some (.d (.int k))))) h1
        | .sub, some k => .ok (.nx (σ.set i (some (.d (.int k))))) h1
        | _, _ => .stuck)
      | _, _ => .stuck)
    | _ => .stuck)
theorem aug_imp {i : Nat} {op : Bop} {F : Int → Int → Int} (hop : op = .add ∨ op = .sub) (hF : ∀ a b, binI op a b = some (F a b)) {D : Ends} {σ : L2.St} {H : Hp} (h : tS X Wx (augV i op fa) D σ H) : tAug i (tE X Wx fa) (ipI F) D σ H := by
  obtain ⟨W, μ, mσ, mh, hr, sr, p⟩ := h
  revert p
  unfold augV
  split
  · rename_i v ev
    intro p
    obtain ⟨u, e1, r⟩ := sr.at_ i v ev
    refine ⟨u, e1, W, μ, mσ, mh, hr, sr, (PostS.bind (R := rV X W) hr sr p).mono fun w H2 ⟨y, μ2, mh2, st2, hr2, sr2, rw, p2⟩ => ?_⟩
    have r2 := st2.rv hr r
    revert p2
    split
    · intro p2
      cases r2
      cases rw
      refine ⟨_, _, rfl, rfl, ?_⟩
      rw [hF] at p2
      rcases hop with rfl | rfl
      · exact p2.nx hr2 (sr2.set (x := .d (.int _)) (Dz.int _) i)
      · exact p2.nx hr2 (sr2.set (x := .d (.int _)) (Dz.int _) i)
    · exact fun z => z.elim
  · exact fun z => z.elim
def augO : Bop → Operator → Bool
  | .add, .Add => true
  | .sub, .Sub => true
  | _, _ => false
theorem ps_ev_aug {i : Nat} {x : Str} {op : Bop} {o : Operator} {pos' : Pos} (ho : augO op o = true) (hN : X.N.Nodup) (hi : X.N[i]? = some x) (hx : Loc X.env.scope x) (he : PE X e (tE X Wx fa)) (hf : X.fn x = true ∨ X.env.scope.names.lookup x = some .local) :
    PS X (.AugAssign (.Name x pos') o e pos) (tS X Wx (augV i op fa)) := by
  unfold augO at ho
  split at ho
  · exact ps_imp (ps_aug hN hi hx he ip_add hf) fun D σ H h => aug_imp (.inl rfl) (fun _ _ => rfl) h
  · exact ps_imp (ps_aug hN hi hx he ip_sub hf) fun D σ H h => aug_imp (.inr rfl) (fun _ _ => rfl) h
  · cases ho
theorem ps_ev_setI {o i : Expr} {fo fi : Env → MH → Res Vl} {tpos : Pos} (pi : plain i = true) (he : PE X e (tE X Wx fa)) (ho : PE X o (tE X Wx fo)) (hi : PE X i (tE X Wx fi)) (hs : swapsWithSole [.Subscript o i tpos] e pos.line X.env = pure false) :
    PS X (.Assign [.Subscript o i tpos] e pos) (tS X Wx fun σ h => (fa σ h).bind fun v h1 => (fo σ h1).bind fun x h2 => (fi σ h2).bind fun k h3 => (setItV x k v h3).calm.bind fun _ h4 => .ok (.nx σ) h4) := by
  refine ps_imp (ps_asg he (pg_sub ho hi set_ev (fun v => by cases i <;> first | rfl | (exact absurd pi (by simp [plain])))) hs) fun D σ H h => SRg.one (R := rV X) h fun v H1 W mσ μ y mh hr sr r p => ?_
  refine ⟨W, μ, mσ, mh, hr, sr, (PostS.bind (R := rV X W) hr sr p).mono fun ov H2 ⟨x, μ2, mh2, st2, hr2, sr2, rx, p2⟩ => ?_⟩
  refine ⟨W, μ2, mσ, mh2, hr2, sr2, (PostS.bind (R := rV X W) hr2 sr2 p2).mono fun iv H3 ⟨k, μ3, mh3, st3, hr3, sr3, rk, p3⟩ => ?_⟩
  obtain ⟨_, mh4, es, p4⟩ := PostS.calmB p3
  exact ⟨W, μ3, mh3, x, k, y, mh4, hr3, st3.rv hr2 rx, rk, st3.rv hr2 (st2.rv hr r), es, fun H' μ' a b => p4 H' μ' σ a b (sr3.step a hr3)⟩
theorem ps_ev_dput {o i : Expr} {fo fi : Env → MH → Res Vl} {tpos : Pos} (rm : Rm X) (he : PE X e (tE X Wx fa)) (ho : PE X o (tE X Wx fo)) (hi : PE X i (tE X Wx fi)) (hs : swapsWith e (some (.Subscript o i tpos)) pos.line X.env = pure false) :
    PS X (.Assign [.Subscript o i tpos] e pos) (tS X Wx fun σ h => (fa σ h).bind fun v h1 => (fo σ h1).bind fun x h2 => (fi σ h2).bind fun k h3 => (dputV x k v h3).calm.bind fun _ h4 => .ok (.nx σ) h4) := by
  have un := rm.un
  refine ps_imp (ps_dput (by omega) ho hi he hs) fun D σ H h => SRg.one (R := rV X) h fun v H1 W mσ μ y mh hr sr r p => ?_
  refine ⟨W, μ, mσ, mh, hr, sr, (PostS.bind (R := rV X W) hr sr p).mono fun ov H2 ⟨x, μ2, mh2, st2, hr2, sr2, rx, p2⟩ => ?_⟩
  refine ⟨W, μ2, mσ, mh2, hr2, sr2, (PostS.bind (R := rV X W) hr2 sr2 p2).mono fun iv H3 ⟨k, μ3, mh3, st3, hr3, sr3, rk, p3⟩ => ?_⟩
  obtain ⟨_, mh4, es, p4⟩ := PostS.calmB p3
  have rx' := st3.rv hr2 rx
  have ry' := st3.rv hr2 (st2.rv hr r)
  unfold dputV at es
  split at es
  · split at es
    · rename_i hx
      split at es
      · rename_i hc
        split at es
        · rename_i hl
          cases es
          obtain ⟨a, e1, e2, e3⟩ := RV.dct hr3 rx' hx
          obtain ⟨H4, g, st4, hr4⟩ := HR.put hr3 hx e2 rk ry' hc hl
          exact ⟨a, H4, e1, g, p4 H4 μ3 σ st4 hr4 (sr3.step st4 hr3)⟩
        · cases es
      · cases es
    · cases es
  · cases es
theorem pget_ev : PGet X (rIdx X) := by
  intro pins s σ H x y v u Q I rx ry h
  obtain ⟨W, μ, mh, a, b, z, hr, ra, rb, e, q⟩ := h
  obtain ⟨p, vs, i, zv, rfl, rfl, e3, he, e5⟩ := idx_get hr ra rb e
  have q := q zv e5
  cases rx
  obtain ⟨t, rfl⟩ := ry
  have hn := line63
  rcases e3 with e3 | e3
  · obtain ⟨its, r, pl, hz⟩ := I.list e3
    obtain ⟨j, h1, h2, h3, h4, h5⟩ := atI_get he
    obtain ⟨w, ew, rw'⟩ := r.get h2
    have hl := r.length
    have fin : EP X pins σ Q w s := ⟨zv, H, I, rw', q⟩
    by_cases h0 : 0 ≤ i
    · have hj : i.toNat = j := by
        rw [seqIndex_of h0 h5] at h1
        exact Option.some.inj h1
      exact wpAny_getItem_list pl.isList h0 (by omega) (by rw [hj]; simpa using ew) fin
    · have hj : (i + (its.toArray.size : Int)).toNat = j := by
        rw [seqIndex_neg (by omega) h4] at h1
        rw [List.size_toArray, ← hl]
        exact Option.some.inj h1
      exact wpAny_getItem_list_neg pl.isList (by omega) (by rw [List.size_toArray] <;> omega) (by omega) (by rw [hj]; simpa using ew) fin
  · obtain ⟨its, r, pl, hz⟩ := I.tuple e3
    obtain ⟨j, h1, h2, h3, h4, h5⟩ := atI_get he
    obtain ⟨w, ew, rw'⟩ := r.get h2
    have hl := r.length
    have fin : EP X pins σ Q w s := ⟨zv, H, I, rw', q⟩
    exact getItem_tuple (j := j) pl (by omega) (by omega) (by rw [List.size_toArray, ← hl]; exact h1) (by simpa using ew) fin
def augIV (op : Bop) (fo fi fa : Env → MH → Res Vl) : Env → MH → Res Fl := fun σ h => (fo σ h).bind fun x h1 => (fi σ h1).bind fun k h2 => (match idxV x k h2 with
      | some old => (fa σ h2).bind fun y h3 => (match old, y with
        | .d (.int a), .d (.int b) => (match op, binI op a b with
          | .add, some z => (setItV x k (.d (.int z)) h3).calm.bind fun _ h4 => .ok (.nx σ) h4
          | .sub, some z => (setItV x k (.d (.int z)) h3).calm.bind fun _ h4 => .ok (.nx σ) h4
          | _, _ => .stuck)
        | _, _ => .stuck)
      | none => .stuck)
theorem augI_imp {op : Bop} {F : Int → Int → Int} {fo fi : Env → MH → Res Vl} (hop : op = .add ∨ op = .sub) (hF : ∀ a b, binI op a b = some (F a b)) {D : Ends} {σ : L2.St} {H : Hp} (h : tS X Wx (augIV op fo fi fa) D σ H) :
    tAugS (tE X Wx fo) (tE X Wx fi) (tE X Wx fa) (rIdx X) (ipI F) (rOfS X) D σ H := by
  refine SRg.one (R := rV X) h fun v H1 W mσ μ x mh hr sr rx p => ?_
  refine ⟨W, μ, mσ, mh, hr, sr, (PostS.bind (R := rV X W) hr sr p).mono fun iv H2 ⟨k, μ2, mh2, st2, hr2, sr2, rk, p2⟩ => ?_⟩
  revert p2
  try dsimp only
  split
  · rename_i old eo
    intro p2
    refine ⟨W, μ2, mh2, x, k, old, hr2, st2.rv hr rx, rk, eo, fun w rw => ?_⟩
    refine ⟨W, μ2, mσ, mh2, hr2, sr2, (PostS.bind (R := rV X W) hr2 sr2 p2).mono fun yv H3 ⟨y, μ3, mh3, st3, hr3, sr3, ry, p3⟩ => ?_⟩
    have rw2 := st3.rv hr2 rw
    revert p3
    split
    · intro p3
      cases rw2
      cases ry
      refine ⟨_, _, rfl, rfl, ?_⟩
      rw [hF] at p3
      have fin : ∀ {z : Int}, PostS X W Wx ((setItV x k (.d (.int z)) mh3).calm.bind fun _ h4 => .ok (.nx mσ) h4) H3 μ3 D → rOfS X v iv (.int z) H3 (fun H6 => D.nx σ H6) := fun {z} p3 => by
        obtain ⟨_, mh4, es, p4⟩ := PostS.calmB p3
        exact ⟨W, μ3, mh3, x, k, .d (.int z), mh4, hr3, st3.rv hr2 (st2.rv hr rx), st3.rv hr2 rk, Dz.int _, es, fun H' μ' a b => p4 H' μ' σ a b (sr3.step a hr3)⟩
      rcases hop with rfl | rfl
      · exact fin p3
      · exact fin p3
    · exact fun z => z.elim
  · exact fun z => z.elim
theorem ps_ev_augI {op : Bop} {o i : Expr} {oo : Operator} {fo fi : Env → MH → Res Vl} {tpos : Pos} (ho : augO op oo = true) (pi : plain i = true) (hx : PE X o (tE X Wx fo)) (hi : PE X i (tE X Wx fi)) (he : PE X e (tE X Wx fa)) :
    PS X (.AugAssign (.Subscript o i tpos) oo e pos) (tS X Wx (augIV op fo fi fa)) := by
  have ha : ∀ ov iv new, augStore i ov iv new = (do holding [new, ov, iv] (setItem ov iv new); release [new, ov, iv] []; pure .next) := fun ov iv new => by
    cases i <;> first | rfl | (exact absurd pi (by simp [plain]))
  unfold augO at ho
  split at ho
  · exact ps_imp (ps_augS hx hi pget_ev he ip_add set_ev ha) fun D σ H h => augI_imp (.inl rfl) (fun _ _ => rfl) h
  · exact ps_imp (ps_augS hx hi pget_ev he ip_sub set_ev ha) fun D σ H h => augI_imp (.inr rfl) (fun _ _ => rfl) h
  · cases ho
/-! ### loops -/
theorem PostS.loop {b : Res Fl} {k : Fl → MH → Res Fl} {H : Hp} {μ : Mu} {D : Ends} {N : L2.St → Hp → Prop} (p : PostS X W Wx (b.bind k) H μ D) (hn : ∀ m h H' μ' σ', Stp H μ H' μ' → hR X W H' μ' h → sR X W H' μ' m σ' → (PostS X W Wx (k (.nx m) h) H' μ' D → N σ' H') ∧ (PostS X W Wx (k (.ct m) h) H' μ' D → N σ' H'))
    (hb : ∀ m h, k (.bk m) h = .ok (.nx m) h) (ht : ∀ v h, k (.rt v) h = .ok (.rt v) h) : PostS X W Wx b H μ { D with nx := N, ct := N, bk := D.nx } := by
  cases b with
  | ok fl mh =>
    cases fl with
    | nx m => exact fun H' μ' σ' a b c => (hn m mh H' μ' σ' a b c).1 (PostS.step (res := k (.nx m) mh) p a)
    | ct m => exact fun H' μ' σ' a b c => (hn m mh H' μ' σ' a b c).2 (PostS.step (res := k (.ct m) mh) p a)
    | bk m =>
      have p : PostS X W Wx (k (.bk m) mh) H μ D := p
      rw [hb] at p
      exact p
    | rt m =>
      have p : PostS X W Wx (k (.rt m) mh) H μ D := p
      rw [ht] at p
      exact p
  | exc c xs mh => exact p
  | stuck => exact p
theorem ps_ev_while {F : Nat} {body : List Stmt} (hp : PassesOwn (model X.prog X.w) X.A X.env X.xe) (hc : PT X c (tT X Wx ga)) (hb : PSs X body (tS X Wx f)) : PS X (.While c body [] pos) (tS X Wx fun σ h => whileG ga f F σ h) := by
  refine ps_imp (ps_while hp hc hb) fun D σ H ⟨W, μ, mσ, mh, hr, sr, p⟩ => ?_
  refine ⟨fun m σ H => ∃ W μ mσ mh, hR X W H μ mh ∧ sR X W H μ mσ σ ∧ PostS X W Wx (whileG ga f m mσ mh) H μ D, ⟨F, W, μ, mσ, mh, hr, sr, p⟩, ?_⟩
  rintro m σ H ⟨W, μ, mσ, mh, hr, sr, p⟩
  cases m with
  | zero => exact p.elim
  | succ n =>
    have h : tS X Wx (fun σ h => (ga σ h).bind fun t h1 => if t = true then (f σ h1).bind fun fl h2 => (match fl with
      | .nx σ2 => whileG ga f n σ2 h2
      | .ct σ2 => whileG ga f n σ2 h2
      | .bk σ2 => .ok (.nx σ2) h2
      | .rt v => .ok (.rt v) h2) else .ok (.nx σ) h1) D σ H := ⟨W, μ, mσ, mh, hr, sr, p⟩
    refine SRg.one (R := rB) h fun v H1 W mσ μ x mh hr sr r p => ?_
    cases r
    cases v with
    | true =>
      rw [if_pos rfl]
      rw [if_pos rfl] at p
      refine ⟨fun σ' H' => ∃ m', m' < n + 1 ∧ ∃ W μ mσ mh, hR X W H' μ mh ∧ sR X W H' μ mσ σ' ∧ PostS X W Wx (whileG ga f m' mσ mh) H' μ D, fun _ _ h => h, W, μ, mσ, mh, hr, sr, ?_⟩
      exact PostS.loop p (fun m h H' μ' σ' a b c => ⟨fun q => ⟨n, by omega, W, μ', m, h, b, c, q⟩, fun q => ⟨n, by omega, W, μ', m, h, b, c, q⟩⟩) (fun _ _ => rfl) (fun _ _ => rfl)
    | false =>
      rw [if_neg (by simp)]
      rw [if_neg (by simp)] at p
      exact p.nx hr sr
/-- where a for loop stands -/
def RestF (t : Tg) (b : Env → MH → Res Fl) (F : Nat) (src : Src) (i m : Nat) (σ : Env) (h : MH) (P : Res Fl → Prop) : Prop :=
  match src with
  | .l xs => i + m = xs.length ∧ P (forL t b (xs.drop i) σ h)
  | .r k => i + m = F ∧ P (forR t b k m i σ h)
def forF (t : Tg) (b : Env → MH → Res Fl) (F : Nat) (src : Src) (σ : Env) (h : MH) : Res Fl := match src with
  | .l xs => forL t b xs σ h
  | .r i => forR t b i F 0 σ h
theorem ps_ev_for {F : Nat} {t : Tg} {tg iter : Expr} {body : List Stmt} {fI : Env → MH → Res Src} (hp : PassesOwn (model X.prog X.w) X.A X.env X.xe) (hc : X.calm = true) (pl : plain iter = true) (hi : PI X tg iter (tI X Wx fI)) (hg : PG X tg (tG X t)) (hb : PSs X body (tS X Wx f)) :
    PS X (.For tg iter body [] pos) (tS X Wx fun σ h => (fI σ h).bind fun src h1 => forF t f F src σ h1) := by
  refine ps_imp (ps_for hp hc hi hg hb (fold_plain pl)) fun D σ H h => SRg.one (R := SrcR X) h fun J H1 W mσ μ src mh hr sr sj p => ?_
  obtain ⟨F1, sok, hF⟩ := sj W fun a ha => .inl ha
  refine ⟨fun i m σ H => ∃ μ mσ mh, hR X W H μ mh ∧ sR X W H μ mσ σ ∧ F1 H μ ∧ RestF t f F src i m mσ mh fun r => PostS X W Wx r H μ D, ?_, ?_⟩
  · cases src with
    | l xs => exact ⟨xs.length, μ, mσ, mh, hr, sr, hF, by omega, by rw [List.drop_zero]; exact p⟩
    | r k => exact ⟨F, μ, mσ, mh, hr, sr, hF, by omega, p⟩
  rintro i m σ2 H2 ⟨μ2, mσ2, mh2, hr2, sr2, hF2, rest⟩
  -- a turn, whatever the source
  have turn : ∀ (xs : List Vl) (x : Vl) (m' : Nat) (next : Env → MH → Res Fl), (src = .l xs ∨ ∃ k, src = .r k ∧ mh2[k]? = some (.lst xs)) → xs[i]? = some x → m' < m → (∀ σ h (P : Res Fl → Prop), P (next σ h) → RestF t f F src (i + 1) m' σ h P) →
      PostS X W Wx (match putT t x mσ2 with
        | some σ1 => (f σ1 mh2).bind fun fl h2 => (match fl with
          | .nx σ2 => next σ2 h2
          | .ct σ2 => next σ2 h2
          | .bk σ2 => .ok (.nx σ2) h2
          | .rt v => .ok (.rt v) h2)
        | none => .stuck) H2 μ2 D →
      (J.go i H2 ∧ ∃ N : L2.St → Hp → Prop, (∀ σ' H', N σ' H' → ∃ m', m' < m ∧ ∃ μ mσ mh, hR X W H' μ mh ∧ sR X W H' μ mσ σ' ∧ F1 H' μ ∧ RestF t f F src (i + 1) m' mσ mh fun r => PostS X W Wx r H' μ D) ∧ ∀ x H', J.yld i H2 x H' → tG X t x σ2 H' fun σ2 H2 => tS X Wx f { D with nx := N, ct := N, bk := D.nx } σ2 H2) := by
    intro xs x m' next hsrc hx hm hnext p
    obtain ⟨go, yl⟩ := sok.go xs i x H2 μ2 mh2 hsrc hF2 hr2 hx
    refine ⟨go, fun σ' H' => ∃ m', m' < m ∧ ∃ μ mσ mh, hR X W H' μ mh ∧ sR X W H' μ mσ σ' ∧ F1 H' μ ∧ RestF t f F src (i + 1) m' mσ mh fun r => PostS X W Wx r H' μ D, fun _ _ h => h, ?_⟩
    intro v H3 hy
    obtain ⟨st3, hr3, rx⟩ := yl v H3 hy
    have hF3 := sok.st _ _ _ _ _ _ hF2 hr2 st3
    revert p
    split
    · rename_i m1 ep
      intro p
      refine ⟨W, μ2, mσ2, mh2, x, m1, hr3, sr2.step st3 hr2, rx, ep, fun σ' sr' _ => ⟨W, μ2, m1, mh2, hr3, sr', ?_⟩⟩
      refine PostS.loop (PostS.step p st3) (fun m h H' μ' σ' a b c => ?_) (fun _ _ => rfl) (fun _ _ => rfl)
      have hF' := sok.st _ _ _ _ _ _ hF3 hr3 a
      exact ⟨fun q => ⟨m', hm, μ', m, h, b, c, hF', hnext _ _ _ q⟩, fun q => ⟨m', hm, μ', m, h, b, c, hF', hnext _ _ _ q⟩⟩
    · exact fun z => z.elim
  cases src with
  | l xs =>
    obtain ⟨h1, p⟩ := rest
    by_cases hi : i < xs.length
    · rw [List.drop_eq_getElem_cons hi] at p
      exact .inr (turn xs xs[i] (m - 1) (fun σ h => forL t f (xs.drop (i + 1)) σ h) (.inl rfl) (List.getElem?_eq_getElem hi) (by omega) (fun σ h P q => ⟨by omega, q⟩) p)
    · rw [List.drop_eq_nil_of_le (by omega)] at p
      exact .inl ⟨sok.stop xs i H2 μ2 mh2 (.inl rfl) hF2 hr2 (List.getElem?_eq_none (by omega)), p.nx hr2 sr2⟩
  | r k =>
    obtain ⟨h1, p⟩ := rest
    cases m with
    | zero => exact p.elim
    | succ n =>
      simp only [forR] at p
      split at p
      · rename_i xs hx
        split at p
        · rename_i x hxi
          exact .inr (turn xs x n (fun σ h => forR t f k n (i + 1) σ h) (.inr ⟨k, rfl, hx⟩) hxi (by omega) (fun σ h P q => ⟨by omega, q⟩) p)
        · rename_i hn
          exact .inl ⟨sok.stop xs i H2 μ2 mh2 (.inr ⟨k, rfl, hx⟩) hF2 hr2 hn, p.nx hr2 sr2⟩
      · exact p.elim
end
end Ev

set_option Elab.async false
set_option linter.all false
set_option autoImplicit false
set_option maxRecDepth 100000
set_option maxHeartbeats 4000000
namespace Ev
open PySem PySem.Spec PyProof.Rows L2
/-- a comprehension's list goes into the name at once -/
def swB (sc : Scope) (y : Str) (py pos : Pos) (scope : Scope) : Bool := sc.names.lookup y == some .local && py.line == pos.line && !(scope.names.any fun (n, k) => n == y && (k == .local || k == .cell))
def lcSw (sc : Scope) (y : Str) (py : Pos) : Expr → Bool
  | .ListComp _ _ scope pos => swB sc y py pos scope
  | _ => false
/-- no set, dict comprehension -/
def noSD : Expr → Bool
  | .SetComp .. => false
  | .DictComp .. => false
  | _ => true
def noComp : Expr → Bool
  | .ListComp .. => false
  | .SetComp .. => false
  | .DictComp .. => false
  | _ => true
def isLc : Ex → Bool
  | .lc .. => true
  | _ => false
/-- a tuple target; the value no display, or one of constants -/
def asgB : Expr → Expr → Bool
  | .Tuple ts _ _, .Tuple vs _ _ => !(ts.length == 2 || ts.length == 3) || vs.all (foldedForSure 8)
  | .Tuple _ _ _, .List _ _ => false
  | .Tuple _ _ _, _ => true
  | _, _ => false
/-- .. a display for names of which one is no plain local -/
def asgC (sc : Scope) : Expr → Expr → Bool
  | .Tuple ts _ _, .Tuple _ _ _ => ts.any fun e => (match e with | .Name id _ => !(sc.names.lookup id == some .local) | _ => false)
  | _, _ => false
theorem fm_lt {α β : Type} {f : α → Option β} : ∀ {l : List α}, (∃ x ∈ l, f x = none) → (l.filterMap f).length < l.length
  | a :: l, ⟨x, hx, e⟩ => by
    rw [List.filterMap_cons]
    have le := List.length_filterMap_le f l
    rcases List.mem_cons.mp hx with rfl | hx
    · rw [e]; exact Nat.lt_succ_of_le le
    · have := fm_lt ⟨x, hx, e⟩
      cases f a with
      | none => exact Nat.lt_succ_of_lt this
      | some b => exact Nat.succ_lt_succ this
section
variable {env : PySem.Env} {sc : Scope} {x y : Str} {px py pos pt pt2 : Pos} {l : Nat} {e a b : Expr} {kt k2 : Nat}
theorem sw_val {elt : Expr} {gs : List Comprehension} {scope : Scope} (hk : env.scope.kind = .function) : swapsWith (.ListComp elt gs scope pos) (some (.Name y py)) l env = pure (swB env.scope y py pos scope) := by
  have hb : env.blockKind = .function := by unfold Env.blockKind; rw [hk]; rfl
  have hy : env.kindOf y = env.scope.names.lookup y := rfl
  unfold swapsWith swB
  simp only [hb, hy, Expr.pos]
  rfl
theorem sw_no (hk : env.scope.kind = .function) (h : lcSw env.scope y py e = false) (hn : noSD e = true) : swapsWith e (some (.Name y py)) l env = pure false := by
  cases e with
  | ListComp elt gs scope pos => rw [sw_val hk]; exact congrArg pure h
  | SetComp _ _ _ _ => exact absurd hn Bool.false_ne_true
  | DictComp _ _ _ _ _ => exact absurd hn Bool.false_ne_true
  | _ => rfl
theorem sw_none (hn : noComp e = true) : swapsWith e none l env = pure false := by
  cases e <;> first | rfl | (exact absurd hn (by simp [noComp]))
theorem sw_sub {o i : Expr} (hn : noComp e = true) : swapsWith e (some (.Subscript o i pos)) l env = pure false := by
  cases e <;> first | rfl | (exact absurd hn (by simp [noComp]))
theorem sole_sub {o i : Expr} (hn : noComp e = true) : swapsWithSole [.Subscript o i pos] e l env = pure false := by
  cases e <;> first | rfl | (exact absurd hn (by simp [noComp]))
theorem sole_tup {es : List Expr} : swapsWithSole [.Tuple es kt pos] e l env = pure false := by
  cases e <;> rfl
theorem asg_none {t : Expr} (h : asgB t e = true) : swappedStores [t] e env = pure none := by
  unfold asgB at h
  split at h
  · rename_i ts k1 p1 vs k2 p2
    unfold swappedStores
    simp only
    rw [Bool.or_eq_true] at h
    split
    · rfl
    · split
      · rfl
      · split
        · rfl
        · rename_i h1 h2 h3
          rcases h with h | h
          · exact absurd (by rw [h]; rfl) h1
          · rw [if_pos h]
  · cases h
  · rename_i h1 h2
    cases e <;> first | rfl | (exact (h1 _ _ _ rfl).elim) | (exact (h2 _ _ rfl).elim)
  · cases h
theorem asg_cell {t : Expr} (hk : env.scope.kind = .function) (h : asgC env.scope t e = true) : swappedStores [t] e env = pure none := by
  unfold asgC at h
  split at h
  · rename_i ts k1 p1 vs k2 p2
    rw [List.any_eq_true] at h
    obtain ⟨q, hq, h⟩ := h
    unfold swappedStores
    simp only
    split
    · rfl
    · split
      · rfl
      · split
        · rfl
        · rename_i h1 h2 h3
          exfalso
          apply h3
          rw [Bool.or_eq_true]
          left
          rw [bne_iff_ne]
          apply Nat.ne_of_lt
          refine fm_lt ⟨q, hq, ?_⟩
          split at h
          · rename_i id pos
            have hn : (env.kindOf id == some .local) = false := by
              show (env.scope.names.lookup id == some .local) = false
              simpa using h
            simp only [hn, Bool.false_and, Bool.false_eq_true, if_false]
          · cases h
  · cases h
theorem par_some (hk : env.scope.kind = .function) (hx : env.scope.names.lookup x = some .local) (hy : env.scope.names.lookup y = some .local) (hl : (px.line == py.line) = true) (hxy : x ≠ y) (pa : plain a = true) (pb : plain b = true)
    (hf : (foldedForSure 8 a && foldedForSure 8 b) = false) (hc : (constantsAlone 8 a && constantsAlone 8 b) = false) : swappedStores [.Tuple [.Name x px, .Name y py] kt pt] (.Tuple [a, b] k2 pt2) env = pure (some [x, y]) := by
  have hb : env.blockKind = .function := by unfold Env.blockKind; rw [hk]; rfl
  have kx : env.kindOf x = some .local := hx
  have ky : env.kindOf y = some .local := hy
  have hl' : (py.line == px.line) = true := by rw [beq_iff_eq] at hl ⊢; exact hl.symm
  have ns : ∀ e : Expr, plain e = true → (match e with | .Starred .. => true | _ => false) = false := fun e h => by cases e <;> first | rfl | (exact absurd h (by simp [plain]))
  have ed : ([x, y] : List Str).eraseDups = [x, y] := by
    have hxy' : (y == x) = false := by rw [beq_eq_false_iff_ne]; exact fun z => hxy z.symm
    simp [List.eraseDups_cons, hxy']
  unfold swappedStores
  simp only [List.length_cons, List.length_nil, hb, List.any_cons, List.any_nil, List.head?_cons, Option.map_some, Option.getD_some, Expr.pos, List.filterMap_cons, List.filterMap_nil, kx, ky, hl', beq_self_eq_true, Bool.and_self, if_true, ed, List.all_cons, List.all_nil, Bool.and_true, hf, hc]
  rw [if_neg (by decide)]
  refine (if_neg (fun z => ?_)).trans rfl
  rw [Bool.or_eq_true, Bool.or_eq_true] at z
  rcases z with z | z | z
  · exact absurd (z.symm.trans (ns a pa)) (by decide)
  · exact absurd (z.symm.trans (ns b pb)) (by decide)
  · cases z
theorem par3_some {z : Str} {pz : Pos} {d : Expr} (hk : env.scope.kind = .function) (hx : env.scope.names.lookup x = some .local) (hy : env.scope.names.lookup y = some .local) (hz : env.scope.names.lookup z = some .local) (hl : (px.line == py.line) = true) (hl3 : (px.line == pz.line) = true) (hxy : x ≠ y) (hxz : x ≠ z) (hyz : y ≠ z) (pa : plain a = true) (pb : plain b = true) (pd : plain d = true)
    (hf : (foldedForSure 8 a && (foldedForSure 8 b && foldedForSure 8 d)) = false) (hc : (constantsAlone 8 a && (constantsAlone 8 b && constantsAlone 8 d)) = false) : swappedStores [.Tuple [.Name x px, .Name y py, .Name z pz] kt pt] (.Tuple [a, b, d] k2 pt2) env = pure (some [x, y, z]) := by
  have hb : env.blockKind = .function := by unfold Env.blockKind; rw [hk]; rfl
  have kx : env.kindOf x = some .local := hx
  have ky : env.kindOf y = some .local := hy
  have kz : env.kindOf z = some .local := hz
  have hl' : (py.line == px.line) = true := by rw [beq_iff_eq] at hl ⊢; exact hl.symm
  have hl3' : (pz.line == px.line) = true := by rw [beq_iff_eq] at hl3 ⊢; exact hl3.symm
  have ns : ∀ e : Expr, plain e = true → (match e with | .Starred .. => true | _ => false) = false := fun e h => by cases e <;> first | rfl | (exact absurd h (by simp [plain]))
  have ed : ([x, y, z] : List Str).eraseDups = [x, y, z] := by
    have h1 : (y == x) = false := by rw [beq_eq_false_iff_ne]; exact fun q => hxy q.symm
    have h2 : (z == x) = false := by rw [beq_eq_false_iff_ne]; exact fun q => hxz q.symm
    have h3 : (z == y) = false := by rw [beq_eq_false_iff_ne]; exact fun q => hyz q.symm
    simp [List.eraseDups_cons, h1, h2, h3]
  unfold swappedStores
  simp only [List.length_cons, List.length_nil, hb, List.any_cons, List.any_nil, List.head?_cons, Option.map_some, Option.getD_some, Expr.pos, List.filterMap_cons, List.filterMap_nil, kx, ky, kz, hl', hl3', beq_self_eq_true, Bool.and_self, if_true, ed, List.all_cons, List.all_nil, Bool.and_true, hf, hc]
  rw [if_neg (by decide)]
  refine (if_neg (fun q => ?_)).trans rfl
  rw [Bool.or_eq_true, Bool.or_eq_true, Bool.or_eq_true] at q
  rcases q with q | q | q | q
  · exact absurd (q.symm.trans (ns a pa)) (by decide)
  · exact absurd (q.symm.trans (ns b pb)) (by decide)
  · exact absurd (q.symm.trans (ns d pd)) (by decide)
  · cases q
end
section
variable {X : Cx} {Wx : WX}
theorem ps_ev_raise {c : Str} {C : Addr} {p q pos : Pos} (hc : X.calm = true) (tk : Takes X Wx) (T : ErrC X.K X.mg c C) (hg : Gl X c) (hdb : (c == ("__debug__" : Str)) = false) :
    PS X (.Raise (some (.Call (.Name c p) [] [] q)) none pos) (tS X Wx fun _ h => .exc c [] h) := by
  refine ps_imp (ps_raise hc tk (mk_own0 PySem.F.excBase_ValueError T.x T.g T.k (raises_own T.b T.t) hg hdb)) fun D σ H ⟨W, μ, mσ, mh, hr, sr, w⟩ => ?_
  exact w (.ref C) none H μ σ (Stp.refl _ _) hr ⟨C, T.g, rfl, rfl, rfl⟩
/-- two names at once of which one is no plain local: by a tuple -/
theorem ps_ev_parC {i j : Nat} {x y : Str} {a b : Expr} {fa fb : Env → MH → Res Vl} {px py pt pos : Pos} {kt k2 : Nat} {pt2 : Pos} (hc : X.calm = true) (hN : X.N.Nodup) (hn : namesOk X [i, j] [.Name x px, .Name y py]) (pa : plain a = true) (pb : plain b = true) (ha : PE X a (tE X Wx fa)) (hb : PE X b (tE X Wx fb))
    (hw : swappedStores [.Tuple [.Name x px, .Name y py] kt pt] (.Tuple [a, b] k2 pt2) X.env = pure none) :
    PS X (.Assign [.Tuple [.Name x px, .Name y py] kt pt] (.Tuple [a, b] k2 pt2) pos) (tS X Wx fun σ h => (fa σ h).bind fun v h1 => (fb σ h1).bind fun w h2 => .ok (.nx ((σ.set i (some v)).set j (some w))) h2) := by
  obtain ⟨l1, l2, l3⟩ := namesOk_len hn
  refine ps_imp (ps_asg (pe_tup (pa_cons ha (pa_cons hb pa_nil (star_cons pb)) (star_cons pa))) (pg_tup (n := 2) hc (pgs_ev hN hn) l2 l3) sole_tup hw rfl) fun D σ H h => SRg.one (R := rV X) h fun v H1 W mσ μ x mh hr sr r p => ?_
  refine ⟨W, μ, mσ, mh, hr, sr, (PostS.bind (R := rV X W) hr sr p).mono fun w H2 ⟨y, μ2, mh2, st2, hr2, sr2, rw, p2⟩ => ?_⟩
  refine ⟨by show 2 ≤ sizeLine; decide, fun q hq => ?_⟩
  obtain ⟨st3, hr3⟩ := HR.fresh (o := .tup [v, w]) hr2 hq
  refine ⟨q, [v, w], rfl, tsqH upd_same, rfl, rfl, ?_⟩
  have p3 := PostS.step p2 st3
  exact p3.nx hr3 (((sr2.step st3 hr2).set (st3.rv hr2 (st2.rv hr r)) i).set (st3.rv hr2 rw) j)
end
section
variable (P : Pg)
mutual
def chS (Γ : Gm) (s : Ev.St) (st : Stmt) : Bool :=
  match s with
  | .set i x => (match st with | .Assign [.Name y py] e _ => stB Γ i y && chk P Γ x e && noSD e && (!lcSw Γ.sc y py e || isLc x) | _ => false)
  | .par i j a b => (match st with
    | .Assign [.Tuple [.Name x px, .Name y py] k1 p1] (.Tuple [u, v] k2 p2) _ => decide (Γ.N[i]? = some x) && decide (Γ.N[j]? = some y) && decide (i ≠ j) && decide (x ≠ y) && plain u && plain v && chk P Γ a u && chk P Γ b v &&
        ((isLoc Γ.sc x && isLoc Γ.sc y && (px.line == py.line) && !(foldedForSure 8 u && foldedForSure 8 v) && !(constantsAlone 8 u && constantsAlone 8 v)) ||
          (decide (Γ.sc.kind = .function) && asgC Γ.sc (.Tuple [.Name x px, .Name y py] k1 p1) (.Tuple [u, v] k2 p2) && stB Γ i x && stB Γ j y)) && Γ.cm
    | _ => false)
  | .par3 i j k a b c => (match st with
    | .Assign [.Tuple [.Name x px, .Name y py, .Name z pz] _ _] (.Tuple [u, v, w] _ _) _ => decide (Γ.N[i]? = some x) && decide (Γ.N[j]? = some y) && decide (Γ.N[k]? = some z) && decide (i ≠ j ∧ i ≠ k ∧ j ≠ k) && decide (x ≠ y ∧ x ≠ z ∧ y ≠ z) && isLoc Γ.sc x && isLoc Γ.sc y && isLoc Γ.sc z && (px.line == py.line) && (px.line == pz.line) && plain u && plain v && plain w &&
        !(foldedForSure 8 u && (foldedForSure 8 v && foldedForSure 8 w)) && !(constantsAlone 8 u && (constantsAlone 8 v && constantsAlone 8 w)) && chk P Γ a u && chk P Γ b v && chk P Γ c w && Γ.cm
    | _ => false)
  | .asg tg x => (match st with | .Assign [t] e _ => (asgB t e || (decide (Γ.sc.kind = .function) && asgC Γ.sc t e)) && tgB Γ tg t && chk P Γ x e | _ => false)
  | .aug i op x => (match st with | .AugAssign (.Name y _) o e _ => augO op o && stB Γ i y && chk P Γ x e | _ => false)
  | .setI o i x => (match st with | .Assign [.Subscript u v _] e _ => plain v && noComp e && chk P Γ x e && chk P Γ o u && chk P Γ i v | _ => false)
  | .augI o i op x => (match st with | .AugAssign (.Subscript u v _) oo e _ => augO op oo && plain v && chk P Γ o u && chk P Γ i v && chk P Γ x e | _ => false)
  | .dput o i x => (match st with | .Assign [.Subscript u v _] e _ => plain v && noComp e && chk P Γ x e && chk P Γ o u && chk P Γ i v | _ => false)
  | .exp x => (match st with | .Expr e _ => noComp e && chk P Γ x e | _ => false)
  | .ret x => (match st with | .Return (some e) _ => chk P Γ x e | _ => false)
  | .retN => (match st with | .Return none _ => true | _ => false)
  | .ite c a b => (match st with | .If t u v _ => chk P Γ c t && chSs Γ a u && chSs Γ b v | _ => false)
  | .whl c b => (match st with | .While t u [] _ => chk P Γ c t && chSs Γ b u | _ => false)
  | .for_ tg it b => (match st with | .For t i u [] _ => plain i && tgB Γ tg t && chki P Γ it (isTup t) i && chSs Γ b u && Γ.cm | _ => false)
  | .pass => (match st with | .Pass _ => true | _ => false)
  | .brk => (match st with | .Break _ => true | _ => false)
  | .cont => (match st with | .Continue _ => true | _ => false)
  | .raise c es => (match es, st with | .nil, .Raise (some (.Call (.Name d _) [] [] _)) none _ => decide (d = c) && P.rs c && glB Γ.sc c && Γ.cm | _, _ => false)
  | .bad => true
def chSs (Γ : Gm) (ss : Sts) (sts : List Stmt) : Bool :=
  match ss with
  | .nil => sts.isEmpty
  | .cons s ss => (match sts with | st :: sts => chS Γ s st && chSs Γ ss sts | [] => false)
end
end
structure FitsS (P : Pg) (G : Gs) (Γ : Gm) (X : Cx) (Wx : WX) : Prop extends Fits P G Γ X Wx where
  kd : Γ.sc.kind = .function
  po : PassesOwn (model X.prog X.w) X.A X.env X.xe
section
variable {P : Pg} {G : Gs} {Γ : Gm} {X : Cx} {Wx : WX}
/-- a comprehension into its name -/
theorem set_lc {i : Nat} {y : Str} {py spos : Pos} {e : Expr} {mk : Bool} {elt : Ex} {tg : Tg} {it : Ev.Itr} {ifs : Exs} {own : List Nat} (F : FitsS P G Γ X Wx) (hst : stB Γ i y = true) (hsw : lcSw Γ.sc y py e = true) (h : chk P Γ (.lc mk elt tg it ifs own) e = true) :
    PS X (.Assign [.Name y py] e spos) (tS X Wx fun σ h => (ev G (.lc mk elt tg it ifs own) σ h).bind fun v h1 => .ok (.nx (σ.set i (some v))) h1) := by
  unfold chk at h
  split at h
  · rename_i u t i' cs scope pos
    simp only [Bool.and_eq_true, decide_eq_true_eq] at h
    obtain ⟨⟨⟨⟨⟨⟨⟨⟨h1, h2⟩, h3⟩, h4⟩, h5⟩, h6⟩, h7⟩, h8⟩, hcm⟩ := h
    have hN : X.N.Nodup := by rw [F.N]; exact F.nd
    have ok : BlkOk X.N X.env.scope scope (ownN Γ.N own) := by rw [F.N, F.sc]; exact blkOk_by h2
    obtain ⟨q1, q2, q3⟩ := F.toFits.st hst
    have hsw' : swB Γ.sc y py pos scope = true := hsw
    have hyl : X.env.scope.names.lookup y = some .local := by
      rw [F.sc]
      unfold swB at hsw'
      simp only [Bool.and_eq_true] at hsw'
      exact eq_of_beq hsw'.1.1
    have := ps_ev_lc (X := X) (i := i) (y := y) (py := py) (spos := spos) (Wx := Wx) (F := G.F) (mk := mk) (t := tg) (pos := pos) (fI := fun σ h => evI G it σ h) (fA := fun σ h => evAnd G ifs σ h) (fE := fun σ h => ev G elt σ h) (elt := u) (tg := t) (iter := i') (ifs := cs) (scope := scope) (F.calm hcm) hN q1 hyl (by
      rw [sw_val (by rw [F.sc]; exact F.kd), F.sc, hsw']) (itr_ok it F.toFits h6) ok (fun j hj => by
      rw [ownN_map]
      rw [List.all_eq_true] at h3
      have q := h3 j (by cases tg <;> exact hj)
      simpa using q) (fun s H C cl fp => tg_ok (F.toFits.blk hcm scope s H C cl fp) h4) (fun s H C cl fp => ifs_ok ifs (F.toFits.blk hcm scope s H C cl fp) h5 h7) (fun s H C cl fp => ex_ok elt (F.toFits.blk hcm scope s H C cl fp) h8) h1
    rw [ownN_map] at this
    exact ps_imp this fun D σ H h => asg_nm h
  · exact absurd h Bool.false_ne_true
mutual
theorem st_ok : ∀ (s : Ev.St) {st : Stmt}, FitsS P G Γ X Wx → chS P Γ s st = true → PS X st (tS X Wx fun σ h => evS G s σ h)
  | .set i x, st, F, h => by
    unfold chS at h
    split at h
    · rename_i y py e sp
      simp only [Bool.and_eq_true, Bool.or_eq_true, Bool.not_eq_true'] at h
      obtain ⟨⟨⟨h1, h2⟩, h3⟩, h4⟩ := h
      obtain ⟨q1, q2, q3⟩ := F.toFits.st h1
      cases hsw : lcSw Γ.sc y py e with
      | true =>
        rcases h4 with h4 | h4
        · rw [hsw] at h4; cases h4
        · cases x <;> first | (exact absurd h4 Bool.false_ne_true) | skip
          exact set_lc F h1 hsw h2
      | false => exact ps_ev_set (by rw [F.N]; exact F.nd) q1 q2 (ex_ok x F.toFits h2) (sw_no (by rw [F.sc]; exact F.kd) (by rw [F.sc]; exact hsw) h3) q3
    · exact absurd h Bool.false_ne_true
  | .par i j a b, st, F, h => by
    unfold chS at h
    split at h
    · simp only [Bool.and_eq_true, Bool.or_eq_true, decide_eq_true_eq, Bool.not_eq_true'] at h
      obtain ⟨⟨⟨⟨⟨⟨⟨⟨⟨h1, h2⟩, h3⟩, h4⟩, h8⟩, h9⟩, h12⟩, h13⟩, h⟩, hcm⟩ := h
      rcases h with ⟨⟨⟨⟨h5, h6⟩, h7⟩, h10⟩, h11⟩ | ⟨⟨⟨h5, h6⟩, h7⟩, h10⟩
      · have l1 := isLoc_ok h5
        have l2 := isLoc_ok h6
        rw [← F.sc] at l1 l2
        exact ps_ev_par (F.calm hcm) (by rw [F.N]; exact F.nd) (by rw [F.N]; exact h1) (by rw [F.N]; exact h2) h3 l1 l2 h8 h9 (ex_ok a F.toFits h12) (ex_ok b F.toFits h13) (par_some (by rw [F.sc]; exact F.kd) l1 l2 h7 h4 h8 h9 h10 h11)
      · obtain ⟨a1, a2, a3⟩ := F.toFits.st h7
        obtain ⟨b1, b2, b3⟩ := F.toFits.st h10
        exact ps_ev_parC (F.calm hcm) (by rw [F.N]; exact F.nd) ⟨a1, a2, a3, b1, b2, b3, trivial⟩ h8 h9 (ex_ok a F.toFits h12) (ex_ok b F.toFits h13) (asg_cell (by rw [F.toFits.sc]; exact h5) (by rw [F.toFits.sc]; exact h6))
    · exact absurd h Bool.false_ne_true
  | .par3 i j k a b c, st, F, h => by
    unfold chS at h
    split at h
    · simp only [Bool.and_eq_true, decide_eq_true_eq, Bool.not_eq_true'] at h
      obtain ⟨⟨⟨⟨⟨⟨⟨⟨⟨⟨⟨⟨⟨⟨⟨⟨⟨⟨h1, h2⟩, h3⟩, h4⟩, h5⟩, h6⟩, h7⟩, h8⟩, h9⟩, h10⟩, h11⟩, h12⟩, h13⟩, h14⟩, h15⟩, h16⟩, h17⟩, h18⟩, hcm⟩ := h
      have l1 := isLoc_ok h6
      have l2 := isLoc_ok h7
      have l3 := isLoc_ok h8
      rw [← F.sc] at l1 l2 l3
      exact ps_ev_par3 (F.calm hcm) (by rw [F.N]; exact F.nd) (by rw [F.N]; exact h1) (by rw [F.N]; exact h2) (by rw [F.N]; exact h3) h4.1 h4.2.1 h4.2.2 l1 l2 l3 h11 h12 h13 (ex_ok a F.toFits h16) (ex_ok b F.toFits h17) (ex_ok c F.toFits h18)
        (par3_some (by rw [F.sc]; exact F.kd) l1 l2 l3 h9 h10 h5.1 h5.2.1 h5.2.2 h11 h12 h13 h14 h15)
    · exact absurd h Bool.false_ne_true
  | .asg tg x, st, F, h => by
    unfold chS at h
    split at h
    · rename_i t e sp
      simp only [Bool.and_eq_true] at h
      obtain ⟨⟨h1, h2⟩, h3⟩ := h
      cases t with
      | Tuple ts kk pp =>
        rw [Bool.or_eq_true] at h1
        rcases h1 with h1 | h1
        · exact ps_ev_asg (ex_ok x F.toFits h3) (tg_ok F.toFits h2) sole_tup (asg_none h1) rfl
        · rw [Bool.and_eq_true, decide_eq_true_eq] at h1
          exact ps_ev_asg (ex_ok x F.toFits h3) (tg_ok F.toFits h2) sole_tup (asg_cell (by rw [F.toFits.sc]; exact h1.1) (by rw [F.toFits.sc]; exact h1.2)) rfl
      | _ => exfalso; revert h1; simp [asgB, asgC]
    · exact absurd h Bool.false_ne_true
  | .aug i op x, st, F, h => by
    unfold chS at h
    split at h
    · simp only [Bool.and_eq_true] at h
      obtain ⟨⟨h1, h2⟩, h3⟩ := h
      obtain ⟨q1, q2, q3⟩ := F.toFits.st h2
      exact ps_ev_aug h1 (by rw [F.N]; exact F.nd) q1 q2 (ex_ok x F.toFits h3) q3
    · exact absurd h Bool.false_ne_true
  | .setI o i x, st, F, h => by
    unfold chS at h
    split at h
    · simp only [Bool.and_eq_true] at h
      obtain ⟨⟨⟨⟨h1, h2⟩, h3⟩, h4⟩, h5⟩ := h
      exact ps_ev_setI h1 (ex_ok x F.toFits h3) (ex_ok o F.toFits h4) (ex_ok i F.toFits h5) (sole_sub h2)
    · exact absurd h Bool.false_ne_true
  | .augI o i op x, st, F, h => by
    unfold chS at h
    split at h
    · simp only [Bool.and_eq_true] at h
      obtain ⟨⟨⟨⟨h1, h2⟩, h3⟩, h4⟩, h5⟩ := h
      exact ps_ev_augI h1 h2 (ex_ok o F.toFits h3) (ex_ok i F.toFits h4) (ex_ok x F.toFits h5)
    · exact absurd h Bool.false_ne_true
  | .dput o i x, st, F, h => by
    unfold chS at h
    split at h
    · simp only [Bool.and_eq_true] at h
      obtain ⟨⟨⟨⟨h1, h2⟩, h3⟩, h4⟩, h5⟩ := h
      exact ps_ev_dput F.rm (ex_ok x F.toFits h3) (ex_ok o F.toFits h4) (ex_ok i F.toFits h5) (sw_sub h2)
    · exact absurd h Bool.false_ne_true
  | .exp x, st, F, h => by
    unfold chS at h
    split at h
    · simp only [Bool.and_eq_true] at h
      exact ps_ev_exp (ex_ok x F.toFits h.2) (sw_none h.1)
    · exact absurd h Bool.false_ne_true
  | .ret x, st, F, h => by
    unfold chS at h
    split at h
    · exact ps_ev_ret (ex_ok x F.toFits h)
    · exact absurd h Bool.false_ne_true
  | .retN, st, F, h => by
    unfold chS at h
    split at h
    · exact ps_ev_retN
    · exact absurd h Bool.false_ne_true
  | .ite c a b, st, F, h => by
    unfold chS at h
    split at h
    · simp only [Bool.and_eq_true] at h
      obtain ⟨⟨h1, h2⟩, h3⟩ := h
      exact ps_ev_if (ext_ok c F.toFits h1) (sts_ok a F h2) (sts_ok b F h3)
    · exact absurd h Bool.false_ne_true
  | .whl c b, st, F, h => by
    unfold chS at h
    split at h
    · simp only [Bool.and_eq_true] at h
      obtain ⟨h1, h2⟩ := h
      exact ps_ev_while F.po (ext_ok c F.toFits h1) (sts_ok b F h2)
    · exact absurd h Bool.false_ne_true
  | .for_ tg it b, st, F, h => by
    unfold chS at h
    split at h
    · simp only [Bool.and_eq_true] at h
      obtain ⟨⟨⟨⟨h1, h2⟩, h3⟩, h4⟩, hcm⟩ := h
      exact ps_ev_for F.po (F.calm hcm) h1 (itr_ok it F.toFits h3) (tg_ok F.toFits h2) (sts_ok b F h4)
    · exact absurd h Bool.false_ne_true
  | .pass, st, F, h => by
    unfold chS at h
    split at h
    · exact ps_ev_pass
    · exact absurd h Bool.false_ne_true
  | .brk, st, F, h => by
    unfold chS at h
    split at h
    · exact ps_ev_brk
    · exact absurd h Bool.false_ne_true
  | .cont, st, F, h => by
    unfold chS at h
    split at h
    · exact ps_ev_cont
    · exact absurd h Bool.false_ne_true
  | .raise c es, st, F, h => by
    unfold chS at h
    split at h
    · rename_i d p1 p2 p3
      simp only [Bool.and_eq_true, decide_eq_true_eq] at h
      obtain ⟨⟨⟨rfl, h2⟩, h3⟩, hcm⟩ := h
      obtain ⟨g1, g2⟩ := F.toFits.gl h3
      obtain ⟨C, T⟩ := F.rs _ h2
      exact ps_ev_raise (F.calm hcm) F.tk T g1 g2
    · exact absurd h Bool.false_ne_true
  | .bad, st, F, h => ps_ev_bad
theorem sts_ok : ∀ (ss : Sts) {sts : List Stmt}, FitsS P G Γ X Wx → chSs P Γ ss sts = true → PSs X sts (tS X Wx fun σ h => evSs G ss σ h)
  | .nil, [], F, h => pss_ev_nil
  | .nil, _ :: _, F, h => absurd h Bool.false_ne_true
  | .cons s ss, [], F, h => absurd h Bool.false_ne_true
  | .cons s ss, st :: sts, F, h => by
    rw [chSs] at h
    simp only [Bool.and_eq_true] at h
    exact pss_ev_cons (st_ok s F h.1) (sts_ok ss F h.2)
end
end
end Ev

set_option Elab.async false
set_option linter.all false
set_option autoImplicit false
set_option maxRecDepth 100000
set_option maxHeartbeats 4000000
namespace Ev
open PySem PySem.Spec PyProof.Rows L2
/-! ### behind a call: what the def made for itself is forgotten -/
section
variable {K : PySem.W.Frag} {mg : Str → Option Value} {W : List Addr} {H H' : Hp} {μ μ' : Mu} {mh mh' : MH}
theorem take_get {α : Type} {l : List α} {n i : Nat} {x : α} (h : (l.take n)[i]? = some x) : i < n ∧ l[i]? = some x := by
  rw [List.getElem?_take] at h
  split at h
  · rename_i hi; exact ⟨hi, h⟩
  · cases h
theorem mem_take {n : Nat} {a : Addr} (h : some a ∈ μ.take n) : some a ∈ μ := List.mem_of_mem_take h
theorem RV.cut {n : Nat} {x : Vl} {v : V} (hb : below n x = true) (hn : n ≤ μ.length) (h : RV K mg W H μ x v) : RV K mg W H (μ.take n) x v := by
  have nm : ∀ {a}, ¬ Mo μ W a → ¬ Mo (μ.take n) W a := fun b z => b (z.imp mem_take id)
  cases x with
  | d x => exact Dz.mono (fun _ _ _ e b => ⟨e, nm b⟩) (fun _ _ q => q) _ _ h
  | r i =>
    have hi : i < n := of_decide_eq_true hb
    exact ⟨by rw [List.length_take]; omega, fun a e => h.2 a (take_get e).2⟩
  | g x => cases hb
  | sc ns => cases hb
  | x a => cases hb
theorem HR.cut (hr : HR K mg W H μ mh) {n : Nat} (hn : n ≤ mh.length) : HR K mg W H (μ.take n) (mh.take n) := by
  refine ⟨by rw [List.length_take, List.length_take, hr.len], fun i j a h1 h2 => hr.nd i j a (take_get h1).2 (take_get h2).2, fun i h => ?_, fun i xs h => ?_, fun i t kvs h => ?_, fun a ha => ?_, hr.tab⟩
  · obtain ⟨h1, h2⟩ := take_get h
    rw [List.getElem?_take, if_pos h1]
    exact hr.dead i h2
  · obtain ⟨h1, h2⟩ := take_get h
    obtain ⟨b, a, vs, e1, e2, e3⟩ := hr.lst i xs h2
    refine ⟨b, a, vs, by rw [List.getElem?_take, if_pos h1]; exact e1, e2, ?_⟩
    have hb : ∀ x ∈ xs, below n x = true := fun x hx => below_mono (by omega) x (List.all_eq_true.mp b x hx)
    clear e1 e2 h h2 b
    induction e3 with
    | nil => exact .nil
    | cons r t ih => exact .cons (RV.cut (hb _ List.mem_cons_self) (by rw [hr.len]; exact hn) r) (ih fun x hx => hb x (List.mem_cons_of_mem _ hx))
  · obtain ⟨h1, h2⟩ := take_get h
    obtain ⟨a, e1, e2⟩ := hr.dct i t kvs h2
    exact ⟨a, by rw [List.getElem?_take, if_pos h1]; exact e1, e2.mono (fun _ e => e) fun v d r => RV.cut (mg := mg) (x := .d d) rfl (by rw [hr.len]; exact hn) r⟩
  · exact ⟨(hr.w a ha).1, fun z => (hr.w a ha).2 (mem_take z)⟩
theorem Stp.cut (st : Stp H μ H' μ') {n : Nat} (hn : μ.length ≤ n) : Stp H μ H' (μ'.take n) :=
  ⟨st.keep, st.tab, fun i e h => by
    have hi : i < n := Nat.lt_of_lt_of_le (List.getElem?_eq_some_iff.mp h).1 hn
    rw [List.getElem?_take, if_pos hi]
    exact st.mono i e h, fun a h => st.new a (mem_take h), st.there⟩
/-- the own heap never gets shorter -/
theorem Stp.len (st : Stp H μ H' μ') : μ.length ≤ μ'.length := by
  by_cases h : μ.length = 0
  · omega
  · have e : μ[μ.length - 1]? = some (μ[μ.length - 1]'(by omega)) := List.getElem?_eq_getElem (by omega)
    rcases st.mono _ _ e with q | q
    · have := (List.getElem?_eq_some_iff.mp q).1; omega
    · have := (List.getElem?_eq_some_iff.mp q).1; omega
end
/-! ### a def's record -/
structure DefR where
  x : Str
  st : Stmt
  N : List Str
  ps : List Str
  fn : Fn
def fnScB (N ps : List Str) (sc : Scope) : Bool :=
  (match sc.kind with | .function => true | _ => false) && !sc.isCoroutine && !sc.isGenerator && decide N.Nodup && decide (N.take ps.length = ps) && ps.all (fun x => locB sc x) && sc.names.all (fun y => match y.2 with | .free => false | _ => true)
theorem fnSc_ok {N ps : List Str} {sc : Scope} (h : fnScB N ps sc = true) : FnScope N ps sc := by
  simp only [fnScB, Bool.and_eq_true, decide_eq_true_eq, Bool.not_eq_true', List.all_eq_true] at h
  obtain ⟨⟨⟨⟨⟨⟨h1, h2⟩, h3⟩, h4⟩, h5⟩, h6⟩, h7⟩ := h
  refine ⟨?_, h2, h3, h4, h5, fun x hx => locB_ok (h6 x hx), fun y hy e => ?_⟩
  · split at h1
    · assumption
    · cases h1
  · have := h7 y hy
    rw [e] at this; cases this
structure DefF (K : PySem.W.Frag) (mg : Str → Option Value) (r : DefR) : Prop where
  ex : ∃ f fd, mg r.x = some (.ref f) ∧ L2.Fun K r.x r.x r.st f fd ∧ L2.Binds K fd r.ps []
def tabT (tb : List DefR) (f : Str) : Option Fn := (tb.find? fun r => decide (r.x = f)).map (·.fn)
section
variable {P : Program} {w : World} {K : PySem.W.Frag} {mg : Str → Option Value} {base : Heap}
theorem start_sr {H : Hp} {μ : Mu} {W : List Addr} {xs : List Vl} {vs : List V} (N : List Str) (r : RVs K mg W H μ xs vs) (n : Nat) (hn : N.length = n) : SR K mg W H μ (xs.map some ++ List.replicate (n - xs.length) none) (L2.start N vs) := by
  have hl := Paired.length r
  refine ⟨?_, fun i x e => ?_⟩
  · unfold L2.start
    simp only [List.length_append, List.length_map, List.length_replicate]
    omega
  · unfold L2.start
    by_cases hi : i < xs.length
    · rw [List.getElem?_append_left (by rw [List.length_map]; exact hi)] at e
      rw [List.getElem?_append_left (by rw [List.length_map]; omega)]
      obtain ⟨y, h1, h2⟩ := map_get e
      cases h2
      obtain ⟨v, h3, h4⟩ : ∃ v, vs[i]? = some v ∧ RV K mg W H μ x v := by
        clear e hl hi
        induction r generalizing i with
        | nil => simp at h1
        | cons r t ih =>
          cases i with
          | zero => simp at h1; subst h1; exact ⟨_, rfl, r⟩
          | succ i =>
            obtain ⟨v, a, b⟩ := ih i (by simpa using h1)
            exact ⟨v, by simpa using a, b⟩
      exact ⟨v, by rw [List.getElem?_map, h3]; rfl, h4⟩
    · rw [List.getElem?_append_right (by rw [List.length_map]; omega)] at e
      have := List.mem_of_getElem? e
      rw [List.mem_replicate] at this
      cases this.2
/-- from the promise to what is wanted of the body -/
theorem leave_ok {X : Cx} {W : List Addr} {res : Res Fl} {H : Hp} {μ : Mu} {n : Nat} {Q : VK} {E : XK} (hn : n = μ.length) (p : PostC X.K X.mg W (leave n res) H μ Q E) : PostS X W (fun u d _ H' => E u d H') res H μ { nx := fun _ H' => Q .non H', rt := Q } := by
  have cut : ∀ {H' μ' mh'}, Stp H μ H' μ' → hR X W H' μ' mh' → Stp H μ H' (μ'.take n) ∧ hR X W H' (μ'.take n) (mh'.take n) := fun {H' μ' mh'} a b => ⟨a.cut (by omega), HR.cut b (by rw [← b.len, hn]; exact a.len)⟩
  cases res with
  | ok fl mh =>
    cases fl with
    | nx m =>
      intro H' μ' σ' a b c
      obtain ⟨a', b'⟩ := cut a b
      exact p .non H' _ a' b' Dz.non
    | bk m => exact p.elim
    | ct m => exact p.elim
    | rt x =>
      cases x with
      | d x =>
        intro H' μ' v a b c
        obtain ⟨a', b'⟩ := cut a b
        exact p v H' _ a' b' (RV.cut (x := .d x) rfl (by rw [hn]; exact a.len) c)
      | r i => exact fun H' μ' v a b c => p v H' μ' a b c
      | g i => exact fun H' μ' v a b c => p v H' μ' a b c
      | sc i => exact fun H' μ' v a b c => p v H' μ' a b c
      | x i => exact fun H' μ' v a b c => p v H' μ' a b c
  | exc c xs mh =>
    intro u d H' μ' σ' a b e
    obtain ⟨a', b'⟩ := cut a b
    exact p u d H' _ a' b' e
  | stuck => exact p.elim
end
end Ev

set_option Elab.async false
set_option linter.all false
set_option autoImplicit false
set_option maxRecDepth 100000
set_option maxHeartbeats 4000000
namespace Ev
open PySem PySem.Spec PyProof.Rows L2 LamX
def P0 : Pg := ⟨fun _ => false, fun _ => false, fun _ => false, fun _ => false⟩
abbrev gmW (N : List Str) (sc : Scope) : Gm := { N := N, sc := sc, fnb := fun _ => true }
abbrev gmH (N : List Str) (sc : Scope) : Gm := { N := N, sc := sc, fnb := fun _ => true, cm := false }
def hdsB (N : List Str) (sc : Scope) : List Hd → List ExceptHandler → Bool
  | [], [] => true
  | x :: xs, .ExceptHandler (some (.Name c _)) (some n) (st0 :: su) _ :: hds => decide (c = x.cls) && glB sc c && decide (N[x.sl]? = some n) && isLoc sc n && chSs P0 (gmH N sc) x.body (st0 :: su) && hdsB N sc xs hds
  | _, _ => false
def tryB (N : List Str) (sc : Scope) (w : WFn) (a : Str) : List Stmt → Bool
  | .Try [.Expr (.Call (.Name b _) [] [] _) _] (h0 :: hds) [] [] _ :: rest => decide (b = a) && hdsB N sc w.hs (h0 :: hds) && chSs P0 (gmW N sc) w.rest rest
  | _ => false
def wordB (N : List Str) (sc : Scope) (w : WFn) (a : Str) (body : List Stmt) : Bool :=
  match w.pre with
  | some (i, s) => (match body with
    | .Assign [.Name y _] (.Constant (.str t) _ _) _ :: r => stB (gmW N sc) i y && decide (s = t) && decide (i ≠ 0) && tryB N sc w a r
    | _ => false)
  | none => tryB N sc w a body
/-- what is known of the classes of errors -/
structure ClsF (K : PySem.W.Frag) (mg : Str → Option Value) (w : WFn) : Prop where
  cs : ∀ c ∈ w.cs, ∃ D, mg c = some (.ref D) ∧ ExcC K D ∧ ∀ C b, subF w.cs c C = some b → IsC K mg D C b
  hs : ∀ x ∈ w.hs, ∃ C, mg x.cls = some (.ref C)
section
variable {K : PySem.W.Frag} {mg : Str → Option Value} {W : List Addr} {H : Hp} {μ : Mu}
theorem SR.unsetA {mσ : Env} {σ : L2.St} (sr : SR K mg W H μ mσ σ) (i : Nat) : SR K mg W H μ (mσ.set i none) (σ.set i none) := by
  refine ⟨by rw [List.length_set, List.length_set]; exact sr.len, fun j x e => ?_⟩
  by_cases h : i = j
  · subst h
    by_cases hl : i < mσ.length
    · rw [List.getElem?_set_self hl] at e; cases e
    · rw [List.getElem?_eq_none (by rw [List.length_set]; omega)] at e; cases e
  · rw [List.getElem?_set_ne h] at e ⊢
    exact sr.at_ j x e
theorem allA_ok {f : Nat → Res Vl} {z : Vl} {h : MH} (e : allA f = .ok z h) : ∀ a, f a = .ok z h := fun a => by
  unfold allA at e
  split at e
  · rename_i q
    rw [q a]; exact e
  · cases e
def tsH (X : Cx) (gc : Str → Option PyData) (F : Nat) (w : WFn) (x : Hd) : SuT := fun a cls d D σ H =>
  ∃ (c : Str) (C : Addr), X.mg c = some (.ref C) ∧ cls = .ref C ∧ d = none ∧ ExcC X.K C ∧ (∀ C' b, subF w.cs c C' = some b → IsC X.K X.mg C C' b) ∧ tS X Wn (fun σ h => evSs (gsX gc F w.cs a c) x.body σ h) D σ H
abbrev lsH (X : Cx) (gc : Str → Option PyData) (F : Nat) (w : WFn) (hs : List Hd) : List (Value × Nat × SuT) := hs.map fun x => ((X.mg x.cls).getD .none, x.sl, tsH X gc F w x)
theorem hds_ok {X : Cx} {N : List Str} {sc : Scope} {gc : Str → Option PyData} {F : Nat} {w : WFn} (F0 : FitsS P0 (gs0 gc F) (gmW N sc) X Wn) : ∀ {hs : List Hd} {hds : List ExceptHandler}, (∀ x ∈ hs, ∃ C, X.mg x.cls = some (.ref C)) → hdsB N sc hs hds = true → HdsN X hds (lsH X gc F w hs)
  | [], [], _, _ => .nil
  | [], _ :: _, _, h => absurd h Bool.false_ne_true
  | _ :: _, [], _, h => absurd h (by simp [hdsB])
  | x :: xs, hd :: hds, hC, h => by
    unfold hdsB at h
    split at h
    · rename_i e1 _
      cases e1
    · rename_i x' xs' c p1 n st0 su p2 hds' e1 e2
      cases e1
      cases e2
      simp only [Bool.and_eq_true, decide_eq_true_eq] at h
      obtain ⟨⟨⟨⟨⟨rfl, h2⟩, h3⟩, h4⟩, h5⟩, h6⟩ := h
      obtain ⟨C, hm⟩ := hC x List.mem_cons_self
      obtain ⟨g1, g2⟩ := F0.toFits.gl h2
      refine .cons ⟨g1, g2, .inl (by rw [hm]; rfl)⟩ (by rw [F0.N]; exact h3) (by rw [show X.env.kindOf n = X.env.scope.names.lookup n from rfl, F0.sc]; exact isLoc_ok h4) (fun a oe cls d pn hz hf => ?_) (hds_ok F0 (fun y hy => hC y (List.mem_cons_of_mem _ hy)) h6)
      refine ⟨fun pins s σ H D I ⟨c, D0, k1, k2, k3, k4, k5, t⟩ => ?_⟩
      subst k2 k3
      have FS : FitsS P0 (gsX gc F w.cs a c) (gmH N sc) (X.suite a ((a, oe) :: pn)) Wn :=
        { N := F0.N, nd := F0.nd, sc := F0.sc, fn := F0.fn, calm := fun q => (nomatch q), rm := ⟨F0.rm.un, fun q => (nomatch (show false = true from q))⟩, tk := takesN, bl := F0.bl, df := fun _ f q => (nomatch (show false = true from q)), mkr := fun q => (nomatch (show false = true from q)), mkc := fun q => (nomatch (show false = true from q)), exn := fun q => (nomatch (show false = true from q)),
          ex := fun a' c0 e => (by
            cases e
            exact ⟨D0, call_isE k4 hz hf, k5⟩), rs := fun c q => (nomatch (show false = true from q)), gc := fun c q => (nomatch (show false = true from q)), kd := F0.kd, po := PassesOwn.never }
      exact (sts_ok x.body FS h5).run pins s σ H D I t
    · cases h
theorem wnam_ok {X : Cx} {gc : Str → Option PyData} {F : Nat} {w : WFn} {D : Ends} {c : Str} {C : Addr} {σ : L2.St} {H : Hp} (hm : X.mg c = some (.ref C)) (k : ∀ C' b, subF w.cs c C' = some b → IsC X.K X.mg C C' b) {x : Hd} : ∀ {hs : List Hd}, (∀ x ∈ hs, ∃ C, X.mg x.cls = some (.ref C)) → pick w.cs c hs = some x →
    (∀ a, H a = none → tsH X gc F w x a (.ref C) none (gone x.sl D) (σ.set x.sl (some (.ref a))) H) → wNam X.K (fun _ _ _ _ => False) D (lsH X gc F w hs) (.ref C) none σ H
  | [], _, e, _ => by cases e
  | y :: ys, hC, e, t => by
    unfold pick at e
    have key : ∀ b, subF w.cs c y.cls = some b → PySem.W.exmOne X.K (.ref C) ((X.mg y.cls).getD .none) = some b := fun b hb => by
      obtain ⟨C2, h2⟩ := hC y List.mem_cons_self
      rcases k _ _ hb with ⟨C', k1, _, k3⟩ | ⟨_, k1, _⟩
      · rw [k1]; exact k3
      · rw [h2] at k1; cases k1
    split at e
    · rename_i hb
      cases e
      exact ⟨true, key _ hb, fun _ => t, fun q => nomatch q⟩
    · rename_i hb
      exact ⟨false, key _ hb, fun q => (nomatch q), fun _ => wnam_ok hm k (fun z hz => hC z (List.mem_cons_of_mem _ hz)) e t⟩
    · cases e
end
/-- behind the clause -/
theorem posts_hd {X : Cx} {W : List Addr} {H : Hp} {μ : Mu} {D0 : Ends} {sl : Nat} {r : Res Fl} {g : Env → MH → Res Fl} (p : PostS X W Wn (r.bind fun fl h2 => (match fl with | .nx σ1 => g (σ1.set sl none) h2 | .rt v => .ok (.rt v) h2 | _ => .stuck)) H μ D0) :
    PostS X W Wn r H μ (gone sl { D0 with nx := tS X Wn (fun σ h => g σ h) D0 }) := by
  cases r with
  | ok fl mh =>
    cases fl with
    | nx m => exact fun H' μ' σ' a b c => ⟨W, μ', m.set sl none, mh, b, c.unsetA sl, PostS.step (res := g (m.set sl none) mh) p a⟩
    | bk m => exact p.elim
    | ct m => exact p.elim
    | rt v => exact p
  | exc c xs mh => exact p
  | stuck => exact p
theorem word_gives {X : Cx} {Ng : List Str} {x a : Str} {sg : Scope} {g : Addr} {cdg : Value} {bg : List Stmt} {gc : Str → Option PyData} {F : Nat} {w : WFn} (hB : wordB Ng sg w a bg = true) (C : ClsF X.K X.mg w) (S : FnScope Ng [a] sg) (hn : Ng.length = w.n) (h1 : 1 ≤ w.n) (bl : ∀ x, x ∈ blN → X.mg x = none) :
    GivesW X Ng x sg g cdg bg a (wdV gc F w) := by
  intro f c' q s H Q r W μ mh tl hu hr htl act hco z mhz ez fin
  have hz : (wordZ X Ng x sg g cdg s H).nox.K = X.K := rfl
  have F0 : FitsS P0 (gs0 gc F) (gmW Ng sg) (wordZ X Ng x sg g cdg s H).nox Wn :=
    { N := rfl, nd := S.nd, sc := rfl, fn := fun _ _ => rfl, calm := fun _ => rfl, rm := ⟨by have := hu.un; show (X.A.deeper (envOfC x sg s.heap.objs.size g cdg)).units + 200 < cLine; omega, fun _ => hu.hd⟩, tk := takesN, bl := bl, df := fun _ f q => (nomatch (show false = true from q)), mkr := fun q => (nomatch (show false = true from q)), mkc := fun q => (nomatch (show false = true from q)), exn := fun _ => rfl,
      ex := fun a' c0 e => (by cases e), rs := fun c q => (nomatch (show false = true from q)), gc := fun c q => (nomatch (show false = true from q)), kd := S.kind, po := PassesOwn.never }
  -- from the try on
  have main : ∀ {body : List Stmt} {σ0 : L2.St}, tryB Ng sg w a body = true → σ0[0]? = some (some (.ref f)) → (∀ H' μ', SR X.K X.mg W H' μ' w.start σ0) → ∃ t, PSs (wordZ X Ng x sg g cdg s H).nox body t ∧ t { nx := fun _ H' => Q .non H', rt := Q } σ0 H := by
    intro body σ0 hT h0 hsr
    unfold tryB at hT
    split at hT
    · rename_i b p1 p2 p3 hd0 hds p4 rest
      simp only [Bool.and_eq_true, decide_eq_true_eq] at hT
      obtain ⟨⟨rfl, hT2⟩, hT3⟩ := hT
      have rest_ok := sts_ok w.rest F0 hT3
      refine ⟨_, pss_cons (ps_try_nam (l := lsH (wordZ X Ng x sg g cdg s H).nox gc F w w.hs) (tb := fun W' D σ H2 => ∃ E : XK, (∀ cls d H', E cls d H' → W' cls d σ H') ∧ σ[0]? = some (some (.ref f)) ∧ H2 c' = some (CodeO c' q) ∧ tl E H2 (fun _ H' => D.nx σ H')) (Wout := fun _ _ _ _ => False) rfl rfl S.nd takesN (fun W' pn xe tk _ => ?_) (hds_ok F0 C.hs hT2)) rest_ok, ?_⟩
      · refine pss_imp (pss_one (ps_expr (act W' pn xe p1 p2 tk) rfl)) fun D σ H2 ⟨E, k1, k2, k3, k4⟩ => ⟨E, k1, k2, k3, k4⟩
      · refine ⟨fun cls d H' => _, fun _ _ _ q => q, h0, hco, htl _ H μ _ (Stp.refl H μ) hr ?_⟩
        cases r with
        | stuck => exact (nomatch (show Res.stuck = Res.ok z mhz from ez))
        | ok v mh1 =>
          intro v' H' μ' st hr1 rv
          have ez : leave mh.length (evSs (gs0 gc F) w.rest w.start mh1) = .ok z mhz := ez
          have pc : PostC X.K X.mg W (leave mh.length (evSs (gs0 gc F) w.rest w.start mh1)) H μ Q (fun _ _ _ => False) := by rw [ez]; exact fin
          exact ⟨W, μ', w.start, mh1, hr1, hsr H' μ', PostS.step (leave_ok (X := (wordZ X Ng x sg g cdg s H).nox) (by rw [hr.len]) pc) st⟩
        | exc c xs mh1 =>
          intro u d H' μ' st hr1 ⟨C1, m1, m2, m3, m4⟩
          subst m2 m4
          have ez : (match pick w.cs c w.hs with | some x => allA (hdV gc F w x c mh1 mh.length) | none => .stuck) = .ok z mhz := ez
          split at ez
          · rename_i y hp
            have hc : c ∈ w.cs := by
              cases e : w.hs with
              | nil => rw [e] at hp; cases hp
              | cons y0 ys =>
                rw [e] at hp
                unfold pick subF at hp
                by_cases hcc : w.cs.contains c = true
                · simpa using hcc
                · simp only [Bool.not_eq_true] at hcc
                  rw [hcc] at hp
                  simp at hp
            obtain ⟨D1, n1, n2, n3⟩ := C.cs c hc
            rw [n1] at m1
            cases m1
            refine wnam_ok (X := (wordZ X Ng x sg g cdg s H).nox) n1 n3 C.hs hp fun a' ha' => ⟨c, C1, n1, rfl, rfl, n2, n3, W, μ', _, mh1, hr1, (hsr H' μ').set (x := .x a') rfl y.sl, ?_⟩
            have pc : PostC X.K X.mg W (hdV gc F w y c mh1 mh.length a') H μ Q (fun _ _ _ => False) := by rw [allA_ok ez a']; exact fin
            exact posts_hd (PostS.step (leave_ok (X := (wordZ X Ng x sg g cdg s H).nox) (by rw [hr.len]) pc) st)
          · cases ez
    · cases hT
  have s0 : (L2.start Ng [.ref f])[0]? = some (some (.ref f)) := by simp [L2.start]
  have lst : (L2.start Ng [.ref f]).length = w.n := by
    simp only [L2.start, List.length_append, List.length_map, List.length_replicate, List.length_cons, List.length_nil]
    omega
  unfold wordB at hB
  split at hB
  · rename_i i str hpre
    split at hB
    · rename_i y p1 t p2 p3 p4 rest
      simp only [Bool.and_eq_true, decide_eq_true_eq] at hB
      obtain ⟨⟨⟨b1, rfl⟩, b3⟩, b4⟩ := hB
      obtain ⟨q1, q2, q3⟩ := F0.toFits.st b1
      obtain ⟨t', ht', hq'⟩ := main (σ0 := (L2.start Ng [.ref f]).set i (some (.str str))) b4 (by rw [List.getElem?_set_ne b3]; exact s0) (fun H' μ' => by
        unfold WFn.start
        rw [hpre]
        refine SR.set (x := .d (.str str)) ⟨by rw [lst, List.length_replicate], fun j x e => ?_⟩ (Dz.str str) i
        have := List.mem_of_getElem? e
        rw [List.mem_replicate] at this
        cases this.2)
      exact ⟨_, pss_cons (ps_set (by rw [F0.N]; exact F0.nd) q1 q2 pe_str rfl q3) ht', hq'⟩
    · cases hB
  · rename_i hpre
    refine main hB s0 fun H' μ' => ?_
    unfold WFn.start
    rw [hpre]
    refine ⟨by rw [lst, List.length_replicate], fun j x e => ?_⟩
    have := List.mem_of_getElem? e
    rw [List.mem_replicate] at this
    cases this.2
end Ev

set_option Elab.async false
set_option linter.all false
set_option autoImplicit false
set_option maxRecDepth 100000
set_option maxHeartbeats 4000000
namespace Ev
open PySem PySem.Spec PyProof.Rows L2
abbrev gmD (r : DefR) : Gm := { N := r.N, sc := defScope r.st, fnb := fun _ => true, mkr := mkNames.contains r.x }
def DefOk (pg : Pg) (r : DefR) : Bool := match r.fn.wd with
  | none => chSs pg (gmD r) r.fn.body (defBody r.st) && decide (r.N.length = r.fn.n) && decide (r.ps.length = r.fn.ps) && fnScB r.N r.ps (defScope r.st)
  | some w => (match r.ps with
    | [a] => wordB r.N (defScope r.st) w a (defBody r.st) && !(a == ("__debug__" : Str)) && !(a == ("__classdict__" : Str)) && fnScB r.N [a] (defScope r.st) && decide (r.N.length = w.n) && decide (1 ≤ w.n)
    | _ => false)
def tabP (tb : List DefR) (gc : Str → Bool) (es : List Str) : Pg := ⟨fun f => tb.any fun r => decide (r.x = f) && r.fn.wd.isNone, gc, fun c => es.contains c, fun f => tb.any fun r => decide (r.x = f) && r.fn.wd.isSome⟩
theorem pre1 {N : List Str} {a : Str} (h : N.take 1 = [a]) : N[0]? = some a := by
  cases N with
  | nil => cases h
  | cons x xs => simp at h; simp [h]
section
variable {P : Program} {w : World} {K : PySem.W.Frag} {mg : Str → Option Value} {base : Heap}
/-- what is known of a program's names -/
structure PgF (K : PySem.W.Frag) (mg : Str → Option Value) (tb : List DefR) (gcB : Str → Bool) (gc : Str → Option PyData) (es : List Str) : Prop where
  df : ∀ r ∈ tb, DefF K mg r
  bl : ∀ x, x ∈ blN → mg x = none
  gc : ∀ x, gcB x = true → ∃ d v u, gc x = some d ∧ mg x = some u ∧ RelV v u ∧ ∀ W H μ, RV K mg W H μ (.d d) v
  es : ∀ c ∈ es, ∃ C, ErrC K mg c C
  wd : ∀ r ∈ tb, ∀ w, r.fn.wd = some w → ClsF K mg w
theorem wordF_ok {X : Cx} {gc : Str → Option PyData} {F : Nat} {pg : Pg} {r : DefR} {w : WFn} (hd : DefF X.K X.mg r) (hw : r.fn.wd = some w) (C : ClsF X.K X.mg w) (bl : ∀ x, x ∈ blN → X.mg x = none) (ok : DefOk pg r = true) : WordF X (wdV gc F w) r.x := by
  unfold DefOk at ok
  rw [hw] at ok
  dsimp only at ok
  split at ok
  · rename_i a hps
    simp only [Bool.and_eq_true, decide_eq_true_eq, Bool.not_eq_true'] at ok
    obtain ⟨⟨⟨⟨⟨h1, h2⟩, h3⟩, h4⟩, h5⟩, h6⟩ := ok
    have S := fnSc_ok h4
    obtain ⟨f, fd, m, fu, b⟩ := hd.ex
    obtain ⟨oc, od, kV, doc, pm, an, cdv, ct, osl, e, lk, hc⟩ := fu.ex
    subst e
    rw [hps] at b
    have par := S.par a List.mem_cons_self
    exact ⟨f, _, _, _, _, _, _, _, _, _, _, _, _, _, r.N, a, m, fu.kp, lk, hc, b, S, pre1 S.pre, par.elim (fun q => .inl q) (fun q => .inr (.inl q)), h2, h3, word_gives h1 C S h5 h6 bl⟩
  · cases ok
theorem table_ok {tb : List DefR} {gcB : Str → Bool} {gc : Str → Option PyData} {es : List Str} {F : Nat} (hk : ∀ r ∈ tb, DefOk (tabP tb gcB es) r = true) (hT : ∀ r ∈ tb, tabT tb r.x = some r.fn) (KF : PgF K mg tb gcB gc es)
    (KX : K.In base) (G : base.Ns mainGlobals mg) (one : ∀ x ∈ mkNames, ∀ y ∈ mkNames, x = y) (hM : ∀ x ∈ mkNames, ∃ c P0, PySem.W.tabIn K x = some (c, P0) ∧ LamX.TabB base mg c P0) :
    ∀ (k : Nat) (r : DefR), r ∈ tb → r.fn.wd = none → ∀ f fd, mg r.x = some (.ref f) → L2.Fun K r.x r.x r.st f fd → FnOk P w K mg base (L2.CX P w) k f fd r.ps (spC K mg (run (tabT tb) gc F k r.x))
  | 0, r, hr, _, f, fd, _, _ => ⟨fun vs H Q E h => by obtain ⟨_, _, _, _, _, _, p⟩ := h; exact p.elim, fun A outer s H args us vs Q E _ _ _ _ h => by obtain ⟨_, _, _, _, _, _, p⟩ := h; exact p.elim⟩
  | k + 1, r, hr, hw, f, fd, hm, fu => by
    have ih := table_ok (F := F) hk hT KF KX G one hM k
    have low : ∀ j, k = j + 2 → ∀ (r : DefR), r ∈ tb → r.fn.wd = none → ∀ f fd, mg r.x = some (.ref f) → L2.Fun K r.x r.x r.st f fd → FnOk P w K mg base (L2.CX P w) j f fd r.ps (spC K mg (run (tabT tb) gc F j r.x)) := fun j hj => table_ok (F := F) hk hT KF KX G one hM j
    have ok := hk r hr
    unfold DefOk at ok
    rw [hw] at ok
    simp only [Bool.and_eq_true, decide_eq_true_eq] at ok
    obtain ⟨⟨⟨h1, h2⟩, h3⟩, h4⟩ := ok
    have S := fnSc_ok h4
    have body : ∀ vs H Q E, spC K mg (run (tabT tb) gc F (k + 1) r.x) vs H Q E → ∃ W μ mh xs, HR K mg W H μ mh ∧ RVs K mg W H μ xs vs ∧ xs.length = r.fn.ps ∧ PostC K mg W (leave mh.length (evSs (gs (tabT tb) gc F k) r.fn.body (xs.map some ++ List.replicate (r.fn.n - r.fn.ps) none) mh)) H μ Q E := fun vs H Q E h => by
      obtain ⟨W, μ, mh, xs, a, b, p⟩ := h
      have p : PostC K mg W (stepC (tabT tb) gc F (run (tabT tb) gc F k) (runT (tabT tb) gc F k).2.2 r.x xs mh) H μ Q E := p
      unfold stepC at p
      rw [hT r hr] at p
      dsimp only at p
      split at p
      · exact ⟨W, μ, mh, xs, a, b, by assumption, p⟩
      · exact p.elim
    obtain ⟨oc, od, kV, doc, pm, an, cdv, ct, osl, efd, lk, hcd⟩ := fu.ex
    subst efd
    refine L2.fn_of lk hcd S (fun vs H Q E h => ?_) fun A outer s H vs Q E hroom h => ?_
    · obtain ⟨W, μ, mh, xs, a, b, l, _⟩ := body vs H Q E h
      rw [← Paired.length b, l, h3]
    · obtain ⟨W, μ, mh, xs, a, b, l, p⟩ := body vs H Q E h
      have callE : ∀ (j : Nat) (cl : Str → List Vl → MH → Res Vl) (X : Cx), X.prog = P → X.w = w → X.K = K → X.mg = mg → X.base = base → (∀ (r : DefR), r ∈ tb → r.fn.wd = none → ∀ f fd, mg r.x = some (.ref f) → L2.Fun K r.x r.x r.st f fd → FnOk P w K mg base (L2.CX P w) j f fd r.ps (spC K mg (cl r.x))) → Room j X.A → ∀ g, (tabP tb gcB es).df g = true → CallOk X cl g := by
        intro j cl X e1 e2 e3 e4 e5 hj hroomj g hg
        have hg : (tb.any fun r => decide (r.x = g) && r.fn.wd.isNone) = true := hg
        obtain ⟨r', hr', e⟩ := List.any_eq_true.mp hg
        rw [Bool.and_eq_true, decide_eq_true_eq] at e
        obtain ⟨e, ew⟩ := e
        subst e
        obtain ⟨f', fd', m', fu', b'⟩ := (KF.df r' hr').ex
        refine ⟨L2.CX P w, f', fd', r'.ps, j, ?_, hroomj, ?_, ?_, ?_, fun X' W' q1 q2 tk σ => ?_⟩
        · rw [e1, e2, e3, e4, e5]; exact hj r' hr' (by simpa using ew) f' fd' m' fu'
        · rw [e4]; exact m'
        · rw [e3]; exact fu'.kp
        · rw [e3]; exact b'
        · rw [e1] at q1; rw [e2] at q2
          rw [← q1, ← q2]; exact passAt tk σ
      have exN : (gs (tabT tb) gc F k).ex = none := rfl
      have clN : (gs (tabT tb) gc F k).cl = run (tabT tb) gc F k := rfl
      have gcN : (gs (tabT tb) gc F k).gc = gc := rfl
      have fits : FitsS (tabP tb gcB es) (gs (tabT tb) gc F k) (gmD r) (cxOf (L2.CX P w) P w K mg base r.N r.x (defScope r.st) f cdv A outer s H E) (fun cls d _ H' => E cls d H') :=
        { N := rfl, nd := S.nd, sc := rfl, fn := fun _ _ => rfl, calm := fun _ => rfl, rm := ⟨by have := hroom.un; show (A.deeper (envOfC r.x (defScope r.st) s.heap.objs.size f cdv)).units + 200 < cLine; omega, fun _ => hroom.hd⟩, tk := takes_of (E := E) rfl rfl rfl rfl, bl := KF.bl,
          df := fun _ => by rw [clN]; exact callE k _ _ rfl rfl rfl rfl rfl ih hroom,
          mkr := fun hmk => by
            have hmk : r.x ∈ mkNames := by simpa using hmk
            obtain ⟨c, P0, ht, B⟩ := hM r.x hmk
            have hc : cdv = .ref c := PySem.W.law_code KX G ht hm (KX _ _ lk) rfl
            cases e2 : (runT (tabT tb) gc F k).2.2 with
            | none => exact ⟨c, P0, r.x, 0, B, hc, rfl, ht, hmk, fun z hz => one z hz r.x hmk, hroom.depth, fun x hx => .inr fun q n => by unfold gs gsC; rw [e2]; rfl, fun A outer s H E scope f c' hr2 g hg => callE 0 _ _ rfl rfl rfl rfl rfl (fun r' _ _ _ _ _ _ => ⟨fun vs H Q E h => by unfold gs gsC at h; rw [e2] at h; obtain ⟨_, _, _, _, _, _, p⟩ := h; exact p.elim, fun A outer s H args us vs Q E _ _ _ _ h => by unfold gs gsC at h; rw [e2] at h; obtain ⟨_, _, _, _, _, _, p⟩ := h; exact p.elim⟩) hr2 g hg⟩
            | some c2 =>
              obtain ⟨j, hj⟩ : ∃ j, k = j + 2 := by
                match k, e2 with
                | 0, e2 => cases e2
                | 1, e2 => cases e2
                | j + 2, _ => exact ⟨j, rfl⟩
              have hc2 : c2 = run (tabT tb) gc F j := by
                subst hj
                have e3 : (runT (tabT tb) gc F (j + 2)).2.2 = some (run (tabT tb) gc F j) := rfl
                rw [e3] at e2
                exact (Option.some.inj e2).symm
              have c2N : (gs (tabT tb) gc F k).cl2 = run (tabT tb) gc F j := by unfold gs gsC; rw [e2, hc2]; rfl
              have wdN : (gs (tabT tb) gc F k).wd = wdT (tabT tb) gc F := by unfold gs gsC; rw [e2]; rfl
              refine ⟨c, P0, r.x, j, B, hc, rfl, ht, hmk, fun z hz => one z hz r.x hmk, hroom.depth, fun x hx => .inl ⟨by rw [hj] at hroom; exact hroom, ?_⟩, fun A outer s H E scope f c' hr2 g hg => by rw [c2N]; exact callE j _ _ rfl rfl rfl rfl rfl (low j hj) hr2 g hg⟩
              have hx : (tb.any fun r => decide (r.x = x) && r.fn.wd.isSome) = true := hx
              obtain ⟨r', hr', e⟩ := List.any_eq_true.mp hx
              rw [Bool.and_eq_true, decide_eq_true_eq] at e
              obtain ⟨e, ew⟩ := e
              subst e
              obtain ⟨w', hw'⟩ := Option.isSome_iff_exists.mp ew
              have : (gs (tabT tb) gc F k).wd r'.x = wdV gc F w' := by
                rw [wdN]
                funext q n
                unfold wdT
                rw [hT r' hr']
                dsimp only
                rw [hw']
              rw [this]
              exact wordF_ok (X := cxOf (L2.CX P w) P w K mg base r.N r.x (defScope r.st) f cdv A outer s H E) (KF.df r' hr') hw' (KF.wd r' hr' w' hw') KF.bl (hk r' hr'),
          mkc := fun _ => rfl, exn := fun _ => exN, ex := fun a c0 q => (by rw [exN] at q; cases q), rs := fun c hc => KF.es c (by simpa [tabP] using hc),
          gc := by rw [gcN]; exact KF.gc, kd := S.kind, po := passes_of rfl }
      refine ⟨_, sts_ok r.fn.body fits h1, W, μ, _, mh, a, ?_, leave_ok (X := cxOf (L2.CX P w) P w K mg base r.N r.x (defScope r.st) f cdv A outer s H E) (by rw [a.len]) p⟩
      have := start_sr (n := r.fn.n) r.N b h2
      rw [l] at this
      exact this
end
end Ev

set_option Elab.async false
set_option linter.all false
set_option autoImplicit false
set_option maxRecDepth 100000
set_option maxHeartbeats 4000000
namespace Ev
open PySem PySem.Spec PyProof.Rows L2
section
variable {K : PySem.W.Frag} {h : Heap} {mg : Str → Option Value}
theorem defF_mk (X : K.In h) (G : h.Ns mainGlobals mg) {x : Str} {st : Stmt} {N ps : List Str} {fn : Fn} {f : Addr} {od an : Option Addr} {osl : Array (Option Value)} {oc kV doc pm cdv ct : Value} (a : PySem.W.nsIn K mainGlobals x = some (some (.ref f)))
    (l : K.lookup f = some ⟨oc, od, .func (PySem.W.fnOf x x (defArgs st) (defBody st) (defScope st) .none kV doc pm an cdv ct), osl⟩) (c : PySem.W.codeIn K cdv x = true) (k : PySem.W.keepIn K (.ref f) = true)
    (hb : ∀ (kV doc pm : Value) (an : Option Addr) (cdv ct : Value) (us : List Value), us.length = ps.length → bindArgs (PySem.W.fnOf x x (defArgs st) (defBody st) (defScope st) .none kV doc pm an cdv ct) ⟨us, []⟩ = pure (ps.zip us)) : DefF K mg ⟨x, st, N, ps, fn⟩ :=
  ⟨f, _, PySem.W.mg_of X G a, fun_mk l c k, (fun_mk l c k).binds hb⟩
/-- a constant of the module: an int -/
theorem gc_int (X : K.In h) (G : h.Ns mainGlobals mg) {gc : Str → Option PyData} {x : Str} {i : Int} {t : Tok} (e : gc x = some (.int i)) (a : PySem.W.nsIn K mainGlobals x = some (some (.int i t))) :
    ∃ d v u, gc x = some d ∧ mg x = some u ∧ RelV v u ∧ ∀ W H μ, RV K mg W H μ (.d d) v := ⟨_, .int i, _, e, PySem.W.mg_of X G a, ⟨t, rfl⟩, fun _ _ _ => Dz.int _⟩
theorem gc_str (X : K.In h) (G : h.Ns mainGlobals mg) {gc : Str → Option PyData} {x : Str} {i : Str} {t : Tok} (e : gc x = some (.str i)) (a : PySem.W.nsIn K mainGlobals x = some (some (.str i t))) :
    ∃ d v u, gc x = some d ∧ mg x = some u ∧ RelV v u ∧ ∀ W H μ, RV K mg W H μ (.d d) v := ⟨_, .str i, _, e, PySem.W.mg_of X G a, ⟨t, rfl⟩, fun _ _ _ => Dz.str _⟩
/-- .. a tuple of ints -/
theorem gc_tupI (hk : kTup = true) (X : K.In h) (G : h.Ns mainGlobals mg) {gc : Str → Option PyData} {x : Str} {is : List Int} {t : Addr} {od : Option Addr} {its : Array Value} {n : Nat} {sl : Array (Option Value)} (e : gc x = some (.tuple (is.map .int))) (hz : is.length ≤ 100)
    (a : PySem.W.nsIn K mainGlobals x = some (some (.ref t))) (l : K.lookup t = some ⟨.type "tuple", od, .seq its n, sl⟩) (hv : Vals (is.map V.int) its.toList) :
    ∃ d v u, gc x = some d ∧ mg x = some u ∧ RelV v u ∧ ∀ W H μ, RV K mg W H μ (.d d) v := by
  refine ⟨_, .ref t, _, e, PySem.W.mg_of X G a, rfl, fun W H μ => .tupA (.inr ⟨hk, _, its, n, l, rfl, rfl, ?_, hv⟩) (DzA.ints is)⟩
  have h1 := hv.length
  have h2 : its.toList.length = its.size := Array.length_toList
  have h3 : (is.map V.int).length = is.length := List.length_map ..
  rw [sizeLine_eq]
  omega
theorem all_nil {α : Type} {p : α → Prop} : ∀ x, x ∈ ([] : List α) → p x := fun _ h => by cases h
theorem all_cons {α : Type} {p : α → Prop} {a : α} {l : List α} (h : p a) (t : ∀ x, x ∈ l → p x) : ∀ x, x ∈ a :: l → p x := fun x hx => (List.mem_cons.mp hx).elim (fun e => e ▸ h) (t x)
/-! ### classes of errors, as the end tells them -/
theorem errC_mk (X : K.In h) (G : h.Ns mainGlobals mg) {c : Str} {C : Addr} (a : PySem.W.nsIn K mainGlobals c = some (some (.ref C))) (x : PySem.W.excIn K C [.type "ValueError", .type "Exception", .type "BaseException", .type "object"] "ValueError.__new__" = true) (k : PySem.W.keepIn K (.ref C) = true)
    (b : PySem.W.subIn K (.ref C) (.type "BaseException") = some true) (t : PySem.W.typeIn K (.ref C) = some (.type "type")) : ∃ C, ErrC K mg c C := ⟨C, PySem.W.mg_of X G a, x, k, b, t⟩
theorem has_mk (X : K.In h) (G : h.Ns mainGlobals mg) {c : Str} {C : Addr} (a : PySem.W.nsIn K mainGlobals c = some (some (.ref C))) : ∃ C, mg c = some (.ref C) := ⟨C, PySem.W.mg_of X G a⟩
theorem kit_own {D C' : Addr} {b : Bool} (hq : D = C' → b = true) (hd : PySem.W.hasDictIn K C' = true) (ht : PySem.W.typeIn K (.ref C') = some (.type "type")) (hs : PySem.W.subIn K (.ref D) (.ref C') = some b) : PySem.W.kitOne K (.ref D) (.ref C') = some b := by
  obtain ⟨cd, hc, _⟩ := PySem.W.any_some hd
  unfold PySem.W.kitOne
  split
  · rename_i q
    have e : D = C' := Value.ref.inj (eq_of_beq q)
    rw [hq e]
  · show (if ((PySem.W.clsIn K C').isSome && PySem.W.typeIn K (.ref C') == some (.type "type")) = true then PySem.W.subIn K (.ref D) (.ref C') else none) = some b
    rw [if_pos (by rw [hc, ht]; rfl)]
    exact hs
theorem kit_VE {D : Addr} (hs : PySem.W.subIn K (.ref D) (.type "ValueError") = some true) : PySem.W.kitOne K (.ref D) (.type "ValueError") = some true := by
  unfold PySem.W.kitOne
  rw [if_neg (by intro q; cases eq_of_beq q)]
  show (if PySem.W.kitMeta "ValueError" = true then PySem.W.subIn K (.ref D) (.type "ValueError") else none) = _
  rw [if_pos (by decide +kernel)]
  exact hs
theorem isC_mk (X : K.In h) (G : h.Ns mainGlobals mg) {D C' : Addr} {c C : Str} {b : Bool} (hb : b = decide (c = C)) (a : PySem.W.nsIn K mainGlobals C = some (some (.ref C'))) (h1 : PySem.W.subIn K (.ref C') (.type "BaseException") = some true) (hd : PySem.W.hasDictIn K C' = true) (ht : PySem.W.typeIn K (.ref C') = some (.type "type"))
    (hs : PySem.W.subIn K (.ref D) (.ref C') = some b) (hq : D = C' → b = true) : IsC K mg D C (decide (c = C)) := by
  rw [← hb]
  exact .inl ⟨C', PySem.W.mg_of X G a, kit_own hq hd ht hs, PySem.W.exm_ref h1 hd ht hs⟩
theorem isC_mk2 (X : K.In h) (G : h.Ns mainGlobals mg) {D C' : Addr} {C : Str} (a : PySem.W.nsIn K mainGlobals C = some (some (.ref C'))) (h1 : PySem.W.subIn K (.ref C') (.type "BaseException") = some true) (hd : PySem.W.hasDictIn K C' = true) (ht : PySem.W.typeIn K (.ref C') = some (.type "type"))
    (hs : PySem.W.subIn K (.ref D) (.ref C') = some true) : IsC K mg D C true :=
  .inl ⟨C', PySem.W.mg_of X G a, kit_own (fun _ => rfl) hd ht hs, PySem.W.exm_ref h1 hd ht hs⟩
theorem tabIn_mk {x : Str} {f c P : Addr} {o1 p1 : Value} {o2 p2 : Option Addr} {o3 p3 : Array (Option Value)} {fd : FuncData} {vs : Array Value} (a : PySem.W.nsIn K mainGlobals x = some (some (.ref f))) (l : K.lookup f = some ⟨o1, o2, .func fd, o3⟩) (hc : fd.code = .ref c) (lc : K.lookup c = some ⟨p1, p2, .fields vs, p3⟩)
    (hv : vs[11]? = some (.ref P)) : PySem.W.tabIn K x = some (c, P) := by
  unfold PySem.W.tabIn
  simp only [a, l, hc, lc, hv]
theorem cls_mk (X : K.In h) (G : h.Ns mainGlobals mg) {c : Str} {cs : List Str} {D : Addr} (a : PySem.W.nsIn K mainGlobals c = some (some (.ref D))) (E : ExcC K D) (hcs : ∀ C, C ∈ cs → IsC K mg D C (decide (c = C))) (hv : IsC K mg D "VoteError" true) (hw : IsC K mg D "ValueError" true)
    (nv : ("VoteError" : Str) ∉ cs ∧ ("ValueError" : Str) ∉ cs) : ∃ D, mg c = some (.ref D) ∧ ExcC K D ∧ ∀ C b, subF cs c C = some b → IsC K mg D C b := by
  refine ⟨D, PySem.W.mg_of X G a, E, fun C b hb => ?_⟩
  unfold subF at hb
  split at hb
  · rename_i hc
    simp only [Bool.and_eq_true, Bool.or_eq_true, decide_eq_true_eq] at hc
    cases hb
    by_cases h1 : C = "VoteError"
    · subst h1; simpa using hv
    · by_cases h2 : C = "ValueError"
      · subst h2; simpa using hw
      · have h3 : C ∈ cs := by
          rcases hc.2 with (q | q) | q
          · simpa using q
          · exact absurd q h1
          · exact absurd q h2
        have := hcs C h3
        simpa [h1, h2] using this
  · cases hb
theorem some_cls {w w' : WFn} (h : some w' = some w) (C : ClsF K mg w') : ClsF K mg w := by
  cases h; exact C
end
/-- the law's own promise: True, whatever the script; cs: where code objects are kept -/
def spLaw (n : Nat) (K : PySem.W.Frag) (cs : List (Addr × Addr)) : Sp := fun vs H Q E => ∃ (a : Addr) (ns : List Int), vs = [.ref a] ∧ ns.length ≤ n ∧ (∀ p ∈ cs, H p.2 = some (.tbl #[])) ∧ SqL K H a (ns.map V.int) ∧ ∀ H', Q (.bl true) H'
theorem law_ok {P : Program} {w : World} {K : PySem.W.Frag} {mg : Str → Option Value} {base : Heap} {k n : Nat} {f : Addr} {fd : FuncData} {ps : List Str} {c : List Vl → MH → Res Vl} {cs : List (Addr × Addr)} (hmk : ∀ x ∈ mkNames, ∃ c P0, PySem.W.tabIn K x = some (c, P0) ∧ (c, P0) ∈ cs) (hn : n ≤ sizeLine) (hl : ∀ ns : List Int, ns.length ≤ n → ∃ h', c [.sc ns] [] = .ok (.d (.bool true)) h')
    (F : FnOk P w K mg base (L2.CX P w) k f fd ps (spC K mg c)) : FnOk P w K mg base (L2.CX P w) k f fd ps (spLaw n K cs) := by
  refine F.imp fun vs H Q E ⟨a, ns, e, hns, ho, hs, q⟩ => ?_
  subst e
  obtain ⟨h', e⟩ := hl ns hns
  refine ⟨[], [], [], [.sc ns], ⟨rfl, fun i j a h => by simp at h, fun i h => by simp at h, fun i xs h => by simp at h, fun i t kvs h => by simp at h, fun a h => by simp at h, fun x hx c P ht => ?_⟩, .cons ⟨a, rfl, ?_, by rw [szLine]; omega⟩ .nil, ?_⟩
  · obtain ⟨c1, P1, h1, h2⟩ := hmk x hx
    rw [ht] at h1
    cases h1
    exact LamX.TabS.nil (ho _ h2)
  · rcases hs with hs | hs
    · exact .inl ⟨hs, fun z => by rcases z with z | z <;> simp at z⟩
    · exact .inr hs
  · show PostC K mg [] (c [.sc ns] []) H [] Q E
    rw [e]
    intro v H' μ' _ _ r
    cases r
    exact q H'
/-- from the plain law to the row's walk -/
theorem walk_ev {l : PySem.W.OpenLaw} {q : Program} {loose : List Str} {XP : (Str → Option Value) → Heap → Prop} {YP : World → Heap → Prop} {d : DefRec} {K : Params → PySem.W.Frag} {n k F : Nat} {tb : List DefR} {gcB : Str → Bool} {gc : Str → Option PyData} {es : List Str} {r : DefR} {x : Str}
    (hmk : mkNames = [] ∨ ∃ x0, mkNames = [x0] ∧ ((recsOf q).any fun e => e.name == x0) = true ∧ ∀ w : World, ∃ c P0, PySem.W.tabIn (K w.params) x0 = some (c, P0) ∧ (K w.params).lookup P0 = none)
    (hn : l.most = some n) (hn2 : n ≤ sizeLine) (hdf : d.params.defaults = []) (hr : Room k callerA) (hY : ∀ (w : World) (h : Heap), YP w h → (K w.params).In h)
    (hk : ∀ r ∈ tb, DefOk (tabP tb gcB es) r = true) (hT : ∀ r ∈ tb, tabT tb r.x = some r.fn) (hr1 : r ∈ tb) (hr2 : r.x = d.name) (hr3 : r.ps = [x]) (hr4 : r.fn.wd = none)
    (hF : ∀ (w : World) (mg : Str → Option Value) (fa : Addr) (h : Heap), (K w.params).In h → h.Ns mainGlobals mg → mg d.name = some (.ref fa) → PgF (K w.params) mg tb gcB gc es)
    (hb : ∀ (kV doc pm : Value) (an : Option Addr) (cdv ct : Value) (u : Value), bindArgs (PySem.W.fnOf r.x r.x (defArgs r.st) (defBody r.st) (defScope r.st) .none kV doc pm an cdv ct) ⟨[u], []⟩ = pure [(x, u)])
    (main : ∀ ns : List Int, ns.length ≤ n → ∃ h', run (tabT tb) gc F k d.name [.sc ns] [] = .ok (.d (.bool true)) h') :
    PySem.W.WalkO q loose XP YP l.row.toRowW d [] (fun f vs => PySem.call f vs) := by
  refine Att.attach_callB hn hdf fun w s₀ s₁ mg mb fa o pm cd doc a vs ns G Y ho hd hcd hmg hobj hints hlen hbits hg => ?_
  have KX := hY w _ Y
  have KF := hF w mg fa _ KX G.T.g hmg
  obtain ⟨cs, hT2, nT, C, hcs, one⟩ : ∃ cs : List (Addr × Addr), (∀ p ∈ cs, s₁.heap.get? p.2 = some { cls := .none, data := .fields #[] }) ∧ (∀ p ∈ cs, (K w.params).lookup p.2 = none) ∧ (∀ p ∈ cs, PySem.W.CodeHd s₁.heap p.1 p.2) ∧ (∀ x ∈ mkNames, ∃ c P0, PySem.W.tabIn (K w.params) x = some (c, P0) ∧ (c, P0) ∈ cs) ∧ ∀ x ∈ mkNames, ∀ y ∈ mkNames, x = y := by
    rcases hmk with e | ⟨x0, e, hrec, ht⟩
    · refine ⟨[], all_nil, all_nil, all_nil, fun x hx => ?_, fun x hx => ?_⟩ <;> (rw [e] at hx; cases hx)
    · obtain ⟨c, P0, h1, h2⟩ := ht w
      obtain ⟨d1, hd1⟩ : ∃ d1, (recsOf q).find? (fun e => e.name == x0) = some d1 := by
        cases e1 : (recsOf q).find? (fun e => e.name == x0) with
        | some d1 => exact ⟨d1, rfl⟩
        | none =>
          rw [List.find?_eq_none] at e1
          obtain ⟨y, hy, ey⟩ := List.any_eq_true.mp hrec
          exact absurd ey (e1 y hy)
      obtain ⟨k1, k2⟩ := PySem.W.tab_of G.T KX hd1 h1
      refine ⟨[(c, P0)], all_cons k2 all_nil, all_cons h2 all_nil, all_cons k1 all_nil, fun x hx => ?_, fun x hx y hy => ?_⟩
      · rw [e] at hx
        rw [List.mem_singleton.mp hx]
        exact ⟨c, P0, h1, List.mem_cons_self⟩
      · rw [e] at hx hy
        rw [List.mem_singleton.mp hx, List.mem_singleton.mp hy]
  obtain ⟨f, fd, m, fu, b⟩ := (KF.df r hr1).ex
  have ef : f = fa := by
    rw [hr2, hmg] at m
    cases m; rfl
  subst ef
  have mr : mg r.x = some (.ref f) := m
  refine LamX.law_callTs (cs := cs) (sp := spLaw n (K w.params) cs) (CX := L2.CX l.prog w) (x := x) (fd := fd) KX G.T.g G.T.b G.T.builtins G.T.nolimit hg hT2 nT C G.T.bmain hobj hints (Nat.le_trans hlen hn2) hr (fun base hB hG hTB => ?_) (fun s u => ?_) (fun H hH hS => ⟨a, ns, rfl, hlen, hH, hS, fun _ => rfl⟩) (fun H e s' z => ?_)
  · have := law_ok (n := n) (cs := cs) (c := run (tabT tb) gc F k r.x) hcs hn2 (fun ns hns => by rw [hr2]; exact main ns hns) (table_ok (P := l.prog) (w := w) (base := base) (F := F) hk hT KF hB hG one (fun x hx => by
      obtain ⟨c, P0, h1, h2⟩ := hcs x hx
      exact ⟨c, P0, h1, hTB _ h2⟩) k r hr1 hr4 f fd mr fu)
    rw [hr3] at this
    exact this
  · obtain ⟨oc, od, kV, doc, pm, an, cdv, ct, osl, e, _, _⟩ := fu.ex
    rw [e]
    exact .of_eq (hb kV doc pm an cdv ct u)
  · obtain ⟨_, _, _, _, _, _, _, _, _, _, _, _, z⟩ := z
    exact z.elim
end Ev

set_option Elab.async false
set_option linter.all false
set_option autoImplicit false
set_option maxRecDepth 100000
set_option maxHeartbeats 4000000
namespace Ev
open PySem
theorem run_go {T : Str → Option Fn} {gc : Str → Option PyData} {F n : Nat} {f : Str} {fn : Fn} {vs : List Vl} {h : MH} (hT : T f = some fn) (hl : vs.length = fn.ps) :
    run T gc F (n + 1) f vs h = leave h.length (evSs (gs T gc F n) fn.body (vs.map some ++ List.replicate (fn.n - fn.ps) none) h) := by
  show (match T f with
    | some fn => if vs.length = fn.ps then leave h.length (evSs (gs T gc F n) fn.body (vs.map some ++ List.replicate (fn.n - fn.ps) none) h) else .stuck
    | none => .stuck) = _
  rw [hT]
  exact if_pos hl
section
variable (T : Str → Option Fn) (gc : Str → Option PyData) (F n : Nat)
@[simp] theorem gs_cl : (gs T gc F n).cl = run T gc F n := id rfl
@[simp] theorem gs_gc : (gs T gc F n).gc = gc := id rfl
@[simp] theorem gs_F : (gs T gc F n).F = F := id rfl
@[simp] theorem gs_ex : (gs T gc F n).ex = none := id rfl
@[simp] theorem gs_cl2 : (gs T gc F (n + 2)).cl2 = run T gc F n := id rfl
@[simp] theorem gs_wd : (gs T gc F (n + 2)).wd = wdT T gc F := id rfl
end
def trB (x : Vl) (h1 : MH) : Res Bool := match truth x h1 with
  | some b => .ok b h1
  | none => .stuck
section
variable (G : Gs) (σ : Env) (h : MH)
@[simp] theorem ev_var (i : Nat) : ev G (.var i) σ h = (match σ[i]? with | some (some v) => .ok v h | _ => .stuck) := id rfl
@[simp] theorem ev_int (i : Int) : ev G (.int i) σ h = .ok (.d (.int i)) h := id rfl
@[simp] theorem ev_bl (i : Bool) : ev G (.bl i) σ h = .ok (.d (.bool i)) h := id rfl
@[simp] theorem ev_non : ev G .non σ h = .ok (.d .none) h := id rfl
@[simp] theorem ev_str (i : Str) : ev G (.str i) σ h = .ok (.d (.str i)) h := id rfl
@[simp] theorem ev_gc (x : Str) : ev G (.gc x) σ h = (match G.gc x with | some d => .ok (.d d) h | none => .stuck) := id rfl
@[simp] theorem ev_bin (op : Bop) (mk : Bool) (a b : Ex) : ev G (.bin op mk a b) σ h = (ev G a σ h).bind fun x h1 => (ev G b σ h1).bind fun y h2 => (binV op mk x y h2).calm := id rfl
@[simp] theorem ev_neg (a : Ex) : ev G (.neg a) σ h = (ev G a σ h).bind fun x h1 => (match x with | .d (.int i) => .ok (.d (.int (-i))) h1 | _ => .stuck) := id rfl
@[simp] theorem ev_cmp (op : Cop) (a b : Ex) : ev G (.cmp op a b) σ h = (ev G a σ h).bind fun x h1 => (ev G b σ h1).bind fun y h2 => (match cmpV op x y h2 with | some c => .ok (.d (.bool c)) h2 | none => .stuck) := id rfl
@[simp] theorem ev_chain (o1 o2 : Cop) (a b c : Ex) : ev G (.chain o1 o2 a b c) σ h = (ev G a σ h).bind fun x h1 => (ev G b σ h1).bind fun y h2 => (match cmpV o1 x y h2 with
    | some true => (ev G c σ h2).bind fun z h3 => (match cmpV o2 y z h3 with | some t => .ok (.d (.bool t)) h3 | none => .stuck)
    | some false => .ok (.d (.bool false)) h2
    | none => .stuck) := id rfl
@[simp] theorem ev_andL (es : Exs) : ev G (.andL es) σ h = evAndV G es σ h := id rfl
@[simp] theorem ev_orL (es : Exs) : ev G (.orL es) σ h = evOrV G es σ h := id rfl
@[simp] theorem ev_not (a : Ex) : ev G (.not a) σ h = (ev G a σ h).bind fun x h1 => (match x with | .d (.bool b) => .ok (.d (.bool (!b))) h1 | _ => .stuck) := id rfl
@[simp] theorem ev_ite (c a b : Ex) : ev G (.ite c a b) σ h = (evT G c σ h).bind fun t h1 => if t = true then ev G a σ h1 else ev G b σ h1 := id rfl
@[simp] theorem ev_tup (es : Exs) : ev G (.tup es) σ h = (evs G es σ h).bind fun xs h1 => if xs.length ≤ sz then (mkt xs h1).calm else .stuck := id rfl
@[simp] theorem ev_lst (mk : Bool) (es : Exs) : ev G (.lst mk es) σ h = (evs G es σ h).bind fun xs h1 => if xs.length ≤ sz then (mkl mk xs h1).calm else .stuck := id rfl
@[simp] theorem ev_idx (a b : Ex) : ev G (.idx a b) σ h = (ev G a σ h).bind fun x h1 => (ev G b σ h1).bind fun y h2 => (match idxV x y h2 with | some v => .ok v h2 | none => .stuck) := id rfl
@[simp] theorem ev_sli (mk : Bool) (a : Ex) (lo hi : Exs) : ev G (.sli mk a lo hi) σ h = (ev G a σ h).bind fun x h1 => ((evs G lo σ h1).bind fun l h2 => ofOpt (optI l) h2).bind fun l h2 => ((evs G hi σ h2).bind fun u h3 => ofOpt (optI u) h3).bind fun u h3 => (sliV mk x l u h3).calm := id rfl
@[simp] theorem ev_call (f : Str) (es : Exs) : ev G (.call f es) σ h = (evs G es σ h).bind fun xs h1 => G.cl f xs h1 := id rfl
@[simp] theorem ev_bi (b : Bi) (mk : Bool) (es : Exs) : ev G (.bi b mk es) σ h = (evs G es σ h).bind fun xs h1 => (biV b mk xs h1).calm := id rfl
@[simp] theorem ev_isi (a : Ex) (ts : List Ty) : ev G (.isi a ts) σ h = (ev G a σ h).bind fun x h1 => isiV ts x h1 := id rfl
@[simp] theorem ev_rg (tu mk : Bool) (es : Exs) : ev G (.rg tu mk es) σ h = ((evs G es σ h).bind fun xs h1 => ofOpt (asII xs) h1).bind fun ij h1 => (rgF tu mk ij.1 ij.2 h1).calm := id rfl
@[simp] theorem ev_met (m : Me) (o : Ex) (es : Exs) : ev G (.met m o es) σ h = (ev G o σ h).bind fun x h1 => if (itemsL x h1).isSome = true then (evs G es σ h1).bind fun xs h2 => (metV m x xs h2).calm else .stuck := id rfl
@[simp] theorem ev_lc (mk : Bool) (elt : Ex) (tg : Tg) (it : Itr) (ifs : Exs) (own : List Nat) : ev G (.lc mk elt tg it ifs own) σ h = (evI G it σ h).bind fun src h1 => (lcS G.F (lcF tg own (evAnd G ifs) (ev G elt) σ) src h1).calm.bind fun rs h5 => (mkl mk rs h5).calm := id rfl
@[simp] theorem ev_frz (a : Ex) : ev G (.frz a) σ h = (ev G a σ h).bind fun x h1 => (frzV x h1).calm := id rfl
@[simp] theorem evs_nil : evs G .nil σ h = .ok [] h := id rfl
@[simp] theorem evs_cons (e : Ex) (es : Exs) : evs G (.cons e es) σ h = (ev G e σ h).bind fun x h1 => (evs G es σ h1).bind fun xs h2 => .ok (x :: xs) h2 := id rfl
@[simp] theorem evAndV_one (e : Ex) : evAndV G (.cons e .nil) σ h = ev G e σ h := id rfl
@[simp] theorem evAndV_cons (e e2 : Ex) (es : Exs) : evAndV G (.cons e (.cons e2 es)) σ h = (ev G e σ h).bind fun x h1 => (match x with | .d (.bool true) => evAndV G (.cons e2 es) σ h1 | .d (.bool false) => .ok (.d (.bool false)) h1 | _ => .stuck) := id rfl
@[simp] theorem evOrV_one (e : Ex) : evOrV G (.cons e .nil) σ h = ev G e σ h := id rfl
@[simp] theorem evOrV_cons (e e2 : Ex) (es : Exs) : evOrV G (.cons e (.cons e2 es)) σ h = (ev G e σ h).bind fun x h1 => (match x with | .d (.bool true) => .ok (.d (.bool true)) h1 | .d (.bool false) => evOrV G (.cons e2 es) σ h1 | _ => .stuck) := id rfl
@[simp] theorem evAnd_nil : evAnd G .nil σ h = .ok true h := id rfl
@[simp] theorem evAnd_cons (e : Ex) (es : Exs) : evAnd G (.cons e es) σ h = (evT G e σ h).bind fun b h1 => if b = true then evAnd G es σ h1 else .ok false h1 := id rfl
@[simp] theorem evOr_nil : evOr G .nil σ h = .ok false h := id rfl
@[simp] theorem evOr_cons (e : Ex) (es : Exs) : evOr G (.cons e es) σ h = (evT G e σ h).bind fun b h1 => if b = true then .ok true h1 else evOr G es σ h1 := id rfl
@[simp] theorem ev_skey (mk : Bool) (i : Nat) (o : Ex) : ev G (.skey mk i o) σ h = (ev G o σ h).bind fun x h1 => (skeyF mk i σ x h1).calm := id rfl
@[simp] theorem ev_word (f g : Str) (es : Exs) : ev G (.word f g es) σ h = (G.wd f ((evs G es σ h).bind fun xs h1 => G.cl2 g xs h1) h.length).calm := id rfl
@[simp] theorem ev_isE (i : Nat) (c : Str) : ev G (.isE i c) σ h = isEF G.ex G.sub i c σ h := id rfl
@[simp] theorem evS_raise (c : Str) (es : Exs) : evS G (.raise c es) σ h = (evs G es σ h).bind fun xs h1 => (match allD xs with | some ds => .exc c ds h1 | none => .stuck) := id rfl
@[simp] theorem ev_dnew (t : Bool) : ev G (.dnew t) σ h = .ok (.r h.length) (h ++ [.dct t []]) := id rfl
@[simp] theorem ev_dget (o k : Ex) : ev G (.dget o k) σ h = (ev G o σ h).bind fun x h1 => (ev G k σ h1).bind fun y h2 => (match dgetV x y h2 with
    | some v => .ok (.d v) h2
    | none => .stuck) := id rfl
@[simp] theorem ev_dgetD (o k d : Ex) : ev G (.dgetD o k d) σ h = (ev G o σ h).bind fun x h1 => if isDct x h1 = true then (ev G k σ h1).bind fun y h2 => (ev G d σ h2).bind fun z h3 => (match dgetO x y h3, z with
    | some r, .d z => .ok (.d (r.getD z)) h3
    | _, _ => .stuck) else .stuck := id rfl
@[simp] theorem ev_din (ng : Bool) (k o : Ex) : ev G (.din ng k o) σ h = (ev G k σ h).bind fun y h1 => (ev G o σ h1).bind fun x h2 => (match dgetO x y h2 with
    | some r => .ok (.d (.bool (if ng = true then !r.isSome else r.isSome))) h2
    | none => .stuck) := id rfl
@[simp] theorem ev_dsort (rv mk : Bool) (o : Ex) : ev G (.dsort rv mk o) σ h = (ev G o σ h).bind fun x h1 => (dsortV rv mk x h1).calm := id rfl
@[simp] theorem ev_tr3 (es : Exs) : ev G (.tr3 es) σ h = (evs G es σ h).bind fun xs h1 => (tr3V xs h1).calm := id rfl
@[simp] theorem ev_ddat (k : Int) (o : Ex) : ev G (.ddat k o) σ h = (ev G o σ h).bind fun x h1 => (ddatV k x h1).calm := id rfl
@[simp] theorem ev_rev (o : Ex) : ev G (.rev o) σ h = (ev G o σ h).bind fun x h1 => (revV x h1).calm := id rfl
@[simp] theorem ev_dsc (k : Ex) (i : Nat) (it : Itr) : ev G (.dsc k i it) σ h = (evI G it σ h).bind fun src h1 => (lcS G.F (lcF (.nm i) [i] (fun _ h => .ok true h) (ev G k) σ) src h1).calm.bind fun rs h5 => (dscE rs h5).calm := id rfl
@[simp] theorem ev_dset (i : Nat) (it : Itr) : ev G (.dset i it) σ h = (evI G it σ h).bind fun src h1 => (dsetV σ i src h1).calm := id rfl
@[simp] theorem ev_dvals (i j : Nat) : ev G (.dvals i j) σ h = dvalsF i σ h := id rfl
@[simp] theorem evT_din (ng : Bool) (k o : Ex) : evT G (.din ng k o) σ h = (ev G (.din ng k o) σ h).bind trB := id rfl
@[simp] theorem evT_dget (o k : Ex) : evT G (.dget o k) σ h = (ev G (.dget o k) σ h).bind trB := id rfl
@[simp] theorem evT_dgetD (o k d : Ex) : evT G (.dgetD o k d) σ h = (ev G (.dgetD o k d) σ h).bind trB := id rfl
@[simp] theorem evI_seq (e : Ex) : evI G (.seq e) σ h = (ev G e σ h).bind fun x h1 => ofOpt (srcOf x h1) h1 := id rfl
@[simp] theorem evI_rng (a b : Ex) : evI G (.rng a b) σ h = (ev G a σ h).bind fun x h1 => (ev G b σ h1).bind fun y h2 => ofOpt (srcRng x y) h2 := id rfl
@[simp] theorem evI_rng0 (b : Ex) : evI G (.rng0 b) σ h = (ev G b σ h).bind fun y h2 => ofOpt (srcRng0 y) h2 := id rfl
@[simp] theorem evI_enm (b : Ex) : evI G (.enm b) σ h = (ev G b σ h).bind fun y h2 => ofOpt (srcEnm y) h2 := id rfl
@[simp] theorem evI_zip (a b : Ex) : evI G (.zip a b) σ h = (ev G a σ h).bind fun x h1 => (ev G b σ h1).bind fun y h2 => ofOpt (srcZip x y) h2 := id rfl
/-! tests -/
@[simp] theorem evT_and (es : Exs) : evT G (.andL es) σ h = evAnd G es σ h := id rfl
@[simp] theorem evT_or (es : Exs) : evT G (.orL es) σ h = evOr G es σ h := id rfl
@[simp] theorem evT_not (a : Ex) : evT G (.not a) σ h = (evT G a σ h).bind fun b h1 => .ok (!b) h1 := id rfl
@[simp] theorem evT_ite (c a b : Ex) : evT G (.ite c a b) σ h = (evT G c σ h).bind fun t h1 => if t = true then evT G a σ h1 else evT G b σ h1 := id rfl
@[simp] theorem evT_var (i : Nat) : evT G (.var i) σ h = (ev G (.var i) σ h).bind trB := id rfl
@[simp] theorem evT_bl (i : Bool) : evT G (.bl i) σ h = (ev G (.bl i) σ h).bind trB := id rfl
@[simp] theorem evT_cmp (op : Cop) (a b : Ex) : evT G (.cmp op a b) σ h = (ev G (.cmp op a b) σ h).bind trB := id rfl
@[simp] theorem evT_chain (o1 o2 : Cop) (a b c : Ex) : evT G (.chain o1 o2 a b c) σ h = (ev G (.chain o1 o2 a b c) σ h).bind trB := id rfl
@[simp] theorem evT_call (f : Str) (es : Exs) : evT G (.call f es) σ h = (ev G (.call f es) σ h).bind trB := id rfl
@[simp] theorem evT_bi (b : Bi) (mk : Bool) (es : Exs) : evT G (.bi b mk es) σ h = (ev G (.bi b mk es) σ h).bind trB := id rfl
@[simp] theorem evT_isi (a : Ex) (ts : List Ty) : evT G (.isi a ts) σ h = (ev G (.isi a ts) σ h).bind trB := id rfl
@[simp] theorem evT_idx (a b : Ex) : evT G (.idx a b) σ h = (ev G (.idx a b) σ h).bind trB := id rfl
@[simp] theorem evT_bin (op : Bop) (mk : Bool) (a b : Ex) : evT G (.bin op mk a b) σ h = (ev G (.bin op mk a b) σ h).bind trB := id rfl
@[simp] theorem evT_met (m : Me) (o : Ex) (es : Exs) : evT G (.met m o es) σ h = (ev G (.met m o es) σ h).bind trB := id rfl
@[simp] theorem trB_bool (b : Bool) : trB (.d (.bool b)) h = .ok b h := id rfl
@[simp] theorem trB_int (i : Int) : trB (.d (.int i)) h = .ok (i != 0) h := id rfl
@[simp] theorem trB_none : trB (.d .none) h = .ok false h := id rfl
@[simp] theorem trB_list (xs : List PyData) : trB (.d (.list xs)) h = .ok (!xs.isEmpty) h := id rfl
@[simp] theorem trB_tuple (xs : List PyData) : trB (.d (.tuple xs)) h = .ok (!xs.isEmpty) h := id rfl
/-! statements -/
@[simp] theorem evSs_nil : evSs G .nil σ h = .ok (.nx σ) h := id rfl
@[simp] theorem evSs_cons (s : St) (r : Sts) : evSs G (.cons s r) σ h = (evS G s σ h).bind fun f h1 => (match f with | .nx σ1 => evSs G r σ1 h1 | f => .ok f h1) := id rfl
@[simp] theorem evS_set (i : Nat) (e : Ex) : evS G (.set i e) σ h = (ev G e σ h).bind fun v h1 => .ok (.nx (σ.set i (some v))) h1 := id rfl
@[simp] theorem evS_par (i j : Nat) (a b : Ex) : evS G (.par i j a b) σ h = (ev G a σ h).bind fun v h1 => (ev G b σ h1).bind fun w h2 => .ok (.nx ((σ.set i (some v)).set j (some w))) h2 := id rfl
@[simp] theorem evS_par3 (i j k : Nat) (a b c : Ex) : evS G (.par3 i j k a b c) σ h = (ev G a σ h).bind fun v h1 => (ev G b σ h1).bind fun w h2 => (ev G c σ h2).bind fun x h3 => .ok (.nx (((σ.set i (some v)).set j (some w)).set k (some x))) h3 := id rfl
@[simp] theorem evS_asg (t : Tg) (e : Ex) : evS G (.asg t e) σ h = (ev G e σ h).bind fun v h1 => (match putT t v σ with | some σ1 => .ok (.nx σ1) h1 | none => .stuck) := id rfl
@[simp] theorem evS_aug (i : Nat) (op : Bop) (e : Ex) : evS G (.aug i op e) σ h = (match σ[i]? with
    | some (some x) => (ev G e σ h).bind fun y h1 => (match x, y with
      | .d (.int a), .d (.int b) => (match op, binI op a b with
        | .add, some k => .ok (.nx (σ.set i (some (.d (.int k))))) h1
        | .sub, some k => .ok (.nx (σ.set i (some (.d (.int k))))) h1
        | _, _ => .stuck)
      | _, _ => .stuck)
    | _ => .stuck) := id rfl
@[simp] theorem evS_setI (o i e : Ex) : evS G (.setI o i e) σ h = (ev G e σ h).bind fun v h1 => (ev G o σ h1).bind fun x h2 => (ev G i σ h2).bind fun k h3 => (setItV x k v h3).calm.bind fun _ h4 => .ok (.nx σ) h4 := id rfl
@[simp] theorem evS_dput (o i e : Ex) : evS G (.dput o i e) σ h = (ev G e σ h).bind fun v h1 => (ev G o σ h1).bind fun x h2 => (ev G i σ h2).bind fun k h3 => (dputV x k v h3).calm.bind fun _ h4 => .ok (.nx σ) h4 := id rfl
@[simp] theorem evS_augI (o i : Ex) (op : Bop) (e : Ex) : evS G (.augI o i op e) σ h = (ev G o σ h).bind fun x h1 => (ev G i σ h1).bind fun k h2 => (match idxV x k h2 with
      | some old => (ev G e σ h2).bind fun y h3 => (match old, y with
        | .d (.int a), .d (.int b) => (match op, binI op a b with
          | .add, some z => (setItV x k (.d (.int z)) h3).calm.bind fun _ h4 => .ok (.nx σ) h4
          | .sub, some z => (setItV x k (.d (.int z)) h3).calm.bind fun _ h4 => .ok (.nx σ) h4
          | _, _ => .stuck)
        | _, _ => .stuck)
      | none => .stuck) := id rfl
@[simp] theorem evS_exp (e : Ex) : evS G (.exp e) σ h = (ev G e σ h).bind fun _ h1 => .ok (.nx σ) h1 := id rfl
@[simp] theorem evS_ret (e : Ex) : evS G (.ret e) σ h = (ev G e σ h).bind fun v h1 => .ok (.rt v) h1 := id rfl
@[simp] theorem evS_retN : evS G .retN σ h = .ok (.rt (.d .none)) h := id rfl
@[simp] theorem evS_ite (c : Ex) (a b : Sts) : evS G (.ite c a b) σ h = (evT G c σ h).bind fun t h1 => if t = true then evSs G a σ h1 else evSs G b σ h1 := id rfl
@[simp] theorem evS_whl (c : Ex) (b : Sts) : evS G (.whl c b) σ h = whileG (evT G c) (evSs G b) G.F σ h := id rfl
@[simp] theorem evS_for (t : Tg) (it : Itr) (b : Sts) : evS G (.for_ t it b) σ h = (evI G it σ h).bind fun src h1 => forF t (evSs G b) G.F src σ h1 := id rfl
@[simp] theorem evS_pass : evS G .pass σ h = .ok (.nx σ) h := id rfl
@[simp] theorem evS_brk : evS G .brk σ h = .ok (.bk σ) h := id rfl
@[simp] theorem evS_cont : evS G .cont σ h = .ok (.ct σ) h := id rfl
end
@[simp] theorem bind_ok' {α β : Type} (a : α) (h : MH) (f : α → MH → Res β) : (Res.ok a h).bind f = f a h := id rfl
@[simp] theorem calm_ok' {α : Type} (a : α) (h : MH) : (Res.ok a h).calm = .ok a h := id rfl
section
variable (h : MH)
@[simp] theorem binV_int (op : Bop) (mk : Bool) (i j : Int) : binV op mk (.d (.int i)) (.d (.int j)) h = (match binI op i j with | some k => .ok (.d (.int k)) h | none => .stuck) := by cases op <;> rfl
@[simp] theorem binI_add (i j : Int) : binI .add i j = some (i + j) := id rfl
@[simp] theorem binI_sub (i j : Int) : binI .sub i j = some (i - j) := id rfl
@[simp] theorem binV_tt (mk : Bool) (xs ys : List PyData) : binV .add mk (.d (.tuple xs)) (.d (.tuple ys)) h = if xs.length + ys.length ≤ sz then .ok (.d (.tuple (xs ++ ys))) h else .stuck := id rfl
@[simp] theorem binV_ll (xs ys : List PyData) (hz : xs.length + ys.length ≤ sz) : binV .add false (.d (.list xs)) (.d (.list ys)) h = .ok (.d (.list (xs ++ ys))) h := by
  show (if (xs.map Vl.d).length + (ys.map Vl.d).length ≤ sz then mkl false (xs.map Vl.d ++ ys.map Vl.d) h else .stuck) = _
  rw [if_pos (by simpa using hz), ← List.map_append]
  show (match allD ((xs ++ ys).map Vl.d) with | some ds => Res.ok (Vl.d (.list ds)) h | none => .stuck) = _
  rw [allD_map]
@[simp] theorem cmpV_int_eq (i j : Int) : cmpV .eq (.d (.int i)) (.d (.int j)) h = some (decide (i = j)) := id rfl
@[simp] theorem cmpV_int_ne (i j : Int) : cmpV .ne (.d (.int i)) (.d (.int j)) h = some (!decide (i = j)) := id rfl
@[simp] theorem cmpV_int_lt (i j : Int) : cmpV .lt (.d (.int i)) (.d (.int j)) h = some (decide (i < j)) := id rfl
@[simp] theorem cmpV_int_le (i j : Int) : cmpV .le (.d (.int i)) (.d (.int j)) h = some (decide (i ≤ j)) := id rfl
@[simp] theorem cmpV_int_gt (i j : Int) : cmpV .gt (.d (.int i)) (.d (.int j)) h = some (decide (j < i)) := id rfl
@[simp] theorem cmpV_int_ge (i j : Int) : cmpV .ge (.d (.int i)) (.d (.int j)) h = some (decide (j ≤ i)) := id rfl
@[simp] theorem cmpV_is (x : PyData) : cmpV .is (.d x) (.d .none) h = some (isNoneD x) := by cases x <;> rfl
@[simp] theorem cmpV_isnot_b (a b : Bool) : cmpV .isnot (.d (.bool a)) (.d (.bool b)) h = some (!decide (a = b)) := id rfl
@[simp] theorem cmpV_is_b (a b : Bool) : cmpV .is (.d (.bool a)) (.d (.bool b)) h = some (decide (a = b)) := id rfl
@[simp] theorem cmpV_isnot (x : PyData) : cmpV .isnot (.d x) (.d .none) h = some (!isNoneD x) := by cases x <;> rfl
/-- data as values -/
def dmap (xs : List PyData) : List Vl := xs.map .d
theorem dmap_len (xs : List PyData) : (dmap xs).length = xs.length := List.length_map ..
theorem mkl_d (xs : List PyData) : mkl false (xs.map .d) h = .ok (.d (.list xs)) h := by
  show (match allD (xs.map Vl.d) with | some ds => Res.ok (Vl.d (.list ds)) h | none => .stuck) = _
  rw [allD_map]
theorem mkt_d (xs : List PyData) : mkt (xs.map .d) h = .ok (.d (.tuple xs)) h := by
  show (match allD (xs.map Vl.d) with | some ds => Res.ok (Vl.d (.tuple ds)) h | none => .stuck) = _
  rw [allD_map]
@[simp] theorem mkt_1 (a : PyData) : mkt [.d a] h = .ok (.d (.tuple [a])) h := id rfl
@[simp] theorem mkt_2 (a b : PyData) : mkt [.d a, .d b] h = .ok (.d (.tuple [a, b])) h := id rfl
@[simp] theorem mkt_3 (a b c : PyData) : mkt [.d a, .d b, .d c] h = .ok (.d (.tuple [a, b, c])) h := id rfl
@[simp] theorem mkt_4 (a b c d : PyData) : mkt [.d a, .d b, .d c, .d d] h = .ok (.d (.tuple [a, b, c, d])) h := id rfl
@[simp] theorem mkt_0 : mkt [] h = .ok (.d (.tuple [])) h := id rfl
@[simp] theorem mkl_0 : mkl false [] h = .ok (.d (.list [])) h := id rfl
@[simp] theorem mkl_1 (a : PyData) : mkl false [.d a] h = .ok (.d (.list [a])) h := id rfl
@[simp] theorem mkl_2 (a b : PyData) : mkl false [.d a, .d b] h = .ok (.d (.list [a, b])) h := id rfl
@[simp] theorem mkl_3 (a b c : PyData) : mkl false [.d a, .d b, .d c] h = .ok (.d (.list [a, b, c])) h := id rfl
@[simp] theorem mkl_4 (a b c d : PyData) : mkl false [.d a, .d b, .d c, .d d] h = .ok (.d (.list [a, b, c, d])) h := id rfl
@[simp] theorem mkl_t (xs : List Vl) (hb : xs.all (below h.length) = true) : mkl true xs h = .ok (.r h.length) (h ++ [.lst xs]) := by
  unfold mkl
  rw [if_pos rfl, if_pos hb]
@[simp] theorem mkl_t0 : mkl true [] h = .ok (.r h.length) (h ++ [.lst []]) := id rfl
/-! built-in functions of data -/
@[simp] theorem b_len_t (xs : List PyData) (mk : Bool) (hz : xs.length ≤ sz) : biV .len mk [.d (.tuple xs)] h = .ok (.d (.int xs.length)) h := by
  show (if (xs.map Vl.d).length ≤ sz then Res.ok (Vl.d (.int (xs.map Vl.d).length)) h else .stuck) = _
  rw [List.length_map, if_pos hz]
@[simp] theorem b_len_l (xs : List PyData) (mk : Bool) (hz : xs.length ≤ sz) : biV .len mk [.d (.list xs)] h = .ok (.d (.int xs.length)) h := by
  show (if (xs.map Vl.d).length ≤ sz then Res.ok (Vl.d (.int (xs.map Vl.d).length)) h else .stuck) = _
  rw [List.length_map, if_pos hz]
@[simp] theorem b_tuple_t (xs : List PyData) (mk : Bool) : biV .tuple mk [.d (.tuple xs)] h = .ok (.d (.tuple xs)) h := mkt_d h xs
@[simp] theorem b_tuple_l (xs : List PyData) (mk : Bool) : biV .tuple mk [.d (.list xs)] h = .ok (.d (.tuple xs)) h := mkt_d h xs
@[simp] theorem b_list_t (xs : List PyData) : biV .list false [.d (.tuple xs)] h = .ok (.d (.list xs)) h := mkl_d h xs
@[simp] theorem b_list_l (xs : List PyData) : biV .list false [.d (.list xs)] h = .ok (.d (.list xs)) h := mkl_d h xs
@[simp] theorem b_int_i (i : Int) (mk : Bool) : biV .int mk [.d (.int i)] h = .ok (.d (.int i)) h := id rfl
@[simp] theorem b_abs_i (i : Int) (mk : Bool) : biV .abs mk [.d (.int i)] h = .ok (.d (.int i.natAbs)) h := by
  show Res.ok (Vl.d (.int (if i < 0 then -i else i))) h = _
  congr 3
  split <;> omega
@[simp] theorem b_max2_i (i j : Int) (mk : Bool) : biV .max2 mk [.d (.int i), .d (.int j)] h = .ok (.d (.int (max i j))) h := by
  show Res.ok (Vl.d (.int (if j > i then j else i))) h = _
  congr 3
  split <;> omega
@[simp] theorem b_min2_i (i j : Int) (mk : Bool) : biV .min2 mk [.d (.int i), .d (.int j)] h = .ok (.d (.int (min i j))) h := by
  show Res.ok (Vl.d (.int (if j < i then j else i))) h = _
  congr 3
  split <;> omega
theorem boolsOf_map (bs : List Bool) : boolsOf (bs.map .bool) = some bs := by
  induction bs with
  | nil => rfl
  | cons b bs ih => rw [List.map_cons]; show (boolsOf (bs.map .bool)).map (b :: ·) = _; rw [ih]; rfl
theorem intsOf_map (bs : List Int) : intsOf (bs.map .int) = some bs := by
  induction bs with
  | nil => rfl
  | cons b bs ih => rw [List.map_cons]; show (intsOf (bs.map .int)).map (b :: ·) = _; rw [ih]; rfl
theorem b_all_bs (bs : List Bool) (mk : Bool) : biV .all mk [.d (.list (bs.map .bool))] h = .ok (.d (.bool (bs.all id))) h := by
  show (match boolsOf (bs.map .bool) with | some bs => Res.ok (Vl.d (.bool (bs.all id))) h | none => .stuck) = _
  rw [boolsOf_map]
theorem b_any_bs (bs : List Bool) (mk : Bool) : biV .any mk [.d (.list (bs.map .bool))] h = .ok (.d (.bool (bs.any id))) h := by
  show (match boolsOf (bs.map .bool) with | some bs => Res.ok (Vl.d (.bool (bs.any id))) h | none => .stuck) = _
  rw [boolsOf_map]
theorem b_sum_l (ns : List Int) (mk : Bool) : biV .sum mk [.d (.list (ns.map .int))] h = .ok (.d (.int ns.sum)) h := by
  show (match intsOf (ns.map .int) with | some bs => Res.ok (Vl.d (.int bs.sum)) h | none => .stuck) = _
  rw [intsOf_map]
theorem b_sum_t (ns : List Int) (mk : Bool) : biV .sum mk [.d (.tuple (ns.map .int))] h = .ok (.d (.int ns.sum)) h := by
  show (match intsOf (ns.map .int) with | some bs => Res.ok (Vl.d (.int bs.sum)) h | none => .stuck) = _
  rw [intsOf_map]
/-- comprehensions and any, all over data: a truth value for each -/
theorem b_all_map {α : Type} (xs : List α) (p : α → Bool) (mk : Bool) : biV .all mk [.d (.list (xs.map fun x => .bool (p x)))] h = .ok (.d (.bool (xs.all p))) h := by
  have := b_all_bs h (xs.map p) mk
  rw [List.map_map, List.all_map] at this
  exact this
theorem b_any_map {α : Type} (xs : List α) (p : α → Bool) (mk : Bool) : biV .any mk [.d (.list (xs.map fun x => .bool (p x)))] h = .ok (.d (.bool (xs.any p))) h := by
  have := b_any_bs h (xs.map p) mk
  rw [List.map_map, List.any_map] at this
  exact this
theorem b_sum_map {α : Type} (xs : List α) (p : α → Int) (mk : Bool) : biV .sum mk [.d (.list (xs.map fun x => .int (p x)))] h = .ok (.d (.int (xs.map p).sum)) h := by
  have := b_sum_l h (xs.map p) mk
  rw [List.map_map] at this
  exact this
@[simp] theorem isiV_d (ts : List Ty) (d : PyData) : isiV ts (.d d) h = .ok (.d (.bool (ts.any fun t => isTy t d))) h := id rfl
@[simp] theorem asII_1 (j : Int) : asII [.d (.int j)] = some (0, j) := id rfl
@[simp] theorem asII_2 (i j : Int) : asII [.d (.int i), .d (.int j)] = some (i, j) := id rfl
/-! sources -/
@[simp] theorem srcOf_l (xs : List PyData) (hz : xs.length ≤ sz) : srcOf (.d (.list xs)) h = some (.l (dmap xs)) := by
  show (if (xs.map Vl.d).length ≤ sz then some (Src.l (dmap xs)) else none) = _
  rw [List.length_map, if_pos hz]
@[simp] theorem srcOf_t (xs : List PyData) (hz : xs.length ≤ sz) : srcOf (.d (.tuple xs)) h = some (.l (dmap xs)) := by
  show (if (xs.map Vl.d).length ≤ sz then some (Src.l (dmap xs)) else none) = _
  rw [List.length_map, if_pos hz]
@[simp] theorem ofOpt_s {α : Type} (a : α) : ofOpt (some a) h = .ok a h := id rfl
@[simp] theorem putT_nm (i : Nat) (v : Vl) (σ : Env) : putT (.nm i) v σ = some (σ.set i (some v)) := id rfl
@[simp] theorem putT_2 (i j : Nat) (a b : PyData) (σ : Env) : putT (.tp [i, j]) (.d (.tuple [a, b])) σ = some ((σ.set i (some (.d a))).set j (some (.d b))) := id rfl
@[simp] theorem wipeE_1 (i : Nat) (σ : Env) : wipeE σ [i] = σ.set i none := id rfl
@[simp] theorem wipeE_2 (i j : Nat) (σ : Env) : wipeE σ [i, j] = (σ.set j none).set i none := id rfl
/-! ranges -/
def rangeI (lo hi : Int) : List Int := (List.range (hi - lo).toNat).map fun (k : Nat) => lo + (k : Int)
theorem rangeD_I (lo hi : Int) : rangeD lo (hi - lo).toNat = (rangeI lo hi).map .int := by
  unfold rangeD rangeI
  rw [List.map_map]; rfl
theorem rangeI_len (lo hi : Int) : (rangeI lo hi).length = (hi - lo).toNat := by simp [rangeI]
theorem mem_rangeI {lo hi x : Int} : x ∈ rangeI lo hi ↔ lo ≤ x ∧ x < hi := by
  simp only [rangeI, List.mem_map, List.mem_range]
  constructor
  · rintro ⟨k, hk, rfl⟩; omega
  · rintro ⟨h1, h2⟩; exact ⟨(x - lo).toNat, by omega, by omega⟩
theorem rangeI_split (lo mid hi : Int) (h1 : lo ≤ mid) (h2 : mid ≤ hi) : rangeI lo hi = rangeI lo mid ++ rangeI mid hi := by
  have e : (hi - lo).toNat = (mid - lo).toNat + (hi - mid).toNat := by omega
  unfold rangeI
  rw [e, List.range_add, List.map_append, List.map_map]
  congr 1
  apply List.map_congr_left
  intro k _
  show lo + ((mid - lo).toNat + k : Nat) = mid + k
  omega
@[simp] theorem srcRng_i (i j : Int) (hz : rngOk i j = true) : srcRng (.d (.int i)) (.d (.int j)) = some (.l (dmap ((rangeI i j).map .int))) := by
  show (if rngOk i j = true then some (Src.l ((rangeD i (j - i).toNat).map .d)) else none) = _
  rw [if_pos hz, rangeD_I]; rfl
@[simp] theorem srcRng0_i (j : Int) (hz : rngOk 0 j = true) : srcRng0 (.d (.int j)) = some (.l (dmap ((rangeI 0 j).map .int))) := by
  have e := rangeD_I 0 j
  rw [Int.sub_zero] at e
  show (if rngOk 0 j = true then some (Src.l ((rangeD 0 j.toNat).map .d)) else none) = _
  rw [if_pos hz, e]; rfl
theorem rgF_l (i j : Int) (h : MH) (hz : rngOk i j = true) : rgF false false i j h = .ok (.d (.list ((rangeI i j).map .int))) h := by
  show (if rngOk i j = true then mkl false ((rangeD i (j - i).toNat).map .d) h else .stuck) = _
  rw [if_pos hz, mkl_d, rangeD_I]
theorem rgF_t (i j : Int) (h : MH) (hz : rngOk i j = true) : rgF true false i j h = .ok (.d (.tuple ((rangeI i j).map .int))) h := by
  show (if rngOk i j = true then mkt ((rangeD i (j - i).toNat).map .d) h else .stuck) = _
  rw [if_pos hz, mkt_d, rangeD_I]
theorem zipD_eq : ∀ xs ys : List PyData, zipD xs ys = dmap ((xs.zip ys).map fun p => .tuple [p.1, p.2])
  | [], _ => rfl
  | _ :: _, [] => rfl
  | x :: xs, y :: ys => by
    show Vl.d (.tuple [x, y]) :: zipD xs ys = _
    rw [zipD_eq xs ys]; rfl
@[simp] theorem srcZip_l (xs ys : List PyData) (hz : xs.length ≤ sz) : srcZip (.d (.list xs)) (.d (.list ys)) = some (.l (dmap ((xs.zip ys).map fun p => .tuple [p.1, p.2]))) := by
  show (if xs.length ≤ sz then some (Src.l (zipD xs ys)) else none) = _
  rw [if_pos hz, zipD_eq]
@[simp] theorem srcZip_t (xs ys : List PyData) (hz : xs.length ≤ sz) : srcZip (.d (.tuple xs)) (.d (.tuple ys)) = some (.l (dmap ((xs.zip ys).map fun p => .tuple [p.1, p.2]))) := by
  show (if xs.length ≤ sz then some (Src.l (zipD xs ys)) else none) = _
  rw [if_pos hz, zipD_eq]
@[simp] theorem srcZip_lt (xs ys : List PyData) (hz : xs.length ≤ sz) : srcZip (.d (.list xs)) (.d (.tuple ys)) = some (.l (dmap ((xs.zip ys).map fun p => .tuple [p.1, p.2]))) := by
  show (if xs.length ≤ sz then some (Src.l (zipD xs ys)) else none) = _
  rw [if_pos hz, zipD_eq]
@[simp] theorem srcZip_tl (xs ys : List PyData) (hz : xs.length ≤ sz) : srcZip (.d (.tuple xs)) (.d (.list ys)) = some (.l (dmap ((xs.zip ys).map fun p => .tuple [p.1, p.2]))) := by
  show (if xs.length ≤ sz then some (Src.l (zipD xs ys)) else none) = _
  rw [if_pos hz, zipD_eq]
theorem enmD_eq : ∀ (xs : List PyData) (k : Nat), enmD xs k = dmap ((xs.zipIdx k).map fun p => .tuple [.int (p.2 : Int), p.1])
  | [], _ => rfl
  | x :: xs, k => by
    show Vl.d (.tuple [.int k, x]) :: enmD xs (k + 1) = _
    rw [enmD_eq xs (k + 1), List.zipIdx_cons]; rfl
@[simp] theorem srcEnm_l (xs : List PyData) (hz : xs.length ≤ sz) : srcEnm (.d (.list xs)) = some (.l (dmap (xs.zipIdx.map fun p => .tuple [.int (p.2 : Int), p.1]))) := by
  show (if xs.length ≤ sz then some (Src.l (enmD xs 0)) else none) = _
  rw [if_pos hz, enmD_eq]
@[simp] theorem srcEnm_t (xs : List PyData) (hz : xs.length ≤ sz) : srcEnm (.d (.tuple xs)) = some (.l (dmap (xs.zipIdx.map fun p => .tuple [.int (p.2 : Int), p.1]))) := by
  show (if xs.length ≤ sz then some (Src.l (enmD xs 0)) else none) = _
  rw [if_pos hz, enmD_eq]
/-- a comprehension over data -/
theorem lc_d {F : Nat} {f : Vl → MH → Res (Option Vl)} {ds : List PyData} {g : PyData → Option PyData} (hz : ds.length ≤ sz) (hf : ∀ x ∈ ds, f (.d x) h = .ok ((g x).map .d) h) :
    (lcS F f (.l (dmap ds)) h).calm.bind (fun rs h5 => (mkl false rs h5).calm) = .ok (.d (.list (ds.filterMap g))) h := by
  have key : lcL f (dmap ds) h = .ok ((ds.filterMap g).map .d) h := by
    clear hz
    induction ds with
    | nil => rfl
    | cons x xs ih =>
      show ((f (.d x) h).bind fun r h1 => (lcL f (dmap xs) h1).bind fun rs h2 => .ok (r.toList ++ rs) h2) = _
      rw [hf x List.mem_cons_self, Res.bind_ok, ih fun y hy => hf y (List.mem_cons_of_mem _ hy), Res.bind_ok, List.filterMap_cons]
      cases g x <;> rfl
  show (Res.bind (Res.calm (if (dmap ds).length ≤ sz then lcL f (dmap ds) h else .stuck)) _) = _
  rw [dmap_len, if_pos hz, key]
  show (mkl false _ h).calm = _
  rw [mkl_d]; rfl
theorem lc_m {F : Nat} {f : Vl → MH → Res (Option Vl)} {ds : List PyData} {g : PyData → PyData} (hz : ds.length ≤ sz) (hf : ∀ x ∈ ds, f (.d x) h = .ok (some (.d (g x))) h) :
    (lcS F f (.l (dmap ds)) h).calm.bind (fun rs h5 => (mkl false rs h5).calm) = .ok (.d (.list (ds.map g))) h := by
  rw [lc_d (g := fun x => some (g x)) h hz hf]
  rw [List.filterMap_eq_map']
/-- .. over data that stand for something else: some are left out -/
theorem lc_fmap {α : Type} {F : Nat} {f : Vl → MH → Res (Option Vl)} {xs : List α} {e : α → PyData} (g : α → Option PyData) (hz : xs.length ≤ sz) (hf : ∀ x ∈ xs, f (.d (e x)) h = .ok ((g x).map .d) h) :
    (lcS F f (.l (dmap (xs.map e))) h).calm.bind (fun rs h5 => (mkl false rs h5).calm) = .ok (.d (.list (xs.filterMap g))) h := by
  have key : lcL f (dmap (xs.map e)) h = .ok ((xs.filterMap g).map .d) h := by
    clear hz
    induction xs with
    | nil => rfl
    | cons x xs ih =>
      show ((f (.d (e x)) h).bind fun r h1 => (lcL f (dmap (xs.map e)) h1).bind fun rs h2 => .ok (r.toList ++ rs) h2) = _
      rw [hf x List.mem_cons_self, Res.bind_ok, ih fun y hy => hf y (List.mem_cons_of_mem _ hy), Res.bind_ok, List.filterMap_cons]
      cases g x <;> rfl
  show (Res.bind (Res.calm (if (dmap (xs.map e)).length ≤ sz then lcL f (dmap (xs.map e)) h else .stuck)) _) = _
  rw [dmap_len, List.length_map, if_pos hz, key]
  show (mkl false _ h).calm = _
  rw [mkl_d]; rfl
theorem lc_map {α : Type} {F : Nat} {f : Vl → MH → Res (Option Vl)} {xs : List α} {e : α → PyData} (g : α → PyData) (hz : xs.length ≤ sz) (hf : ∀ x ∈ xs, f (.d (e x)) h = .ok (some (.d (g x))) h) :
    (lcS F f (.l (dmap (xs.map e))) h).calm.bind (fun rs h5 => (mkl false rs h5).calm) = .ok (.d (.list (xs.map g))) h := by
  rw [lc_fmap h (fun x => some (g x)) hz hf]
  rw [List.filterMap_eq_map']
/-- .. those of which p holds -/
theorem lc_filter {α : Type} {F : Nat} {f : Vl → MH → Res (Option Vl)} {xs : List α} {e : α → PyData} (p : α → Bool) (g : α → PyData) (hz : xs.length ≤ sz) (hf : ∀ x ∈ xs, f (.d (e x)) h = .ok (if p x = true then some (.d (g x)) else none) h) :
    (lcS F f (.l (dmap (xs.map e))) h).calm.bind (fun rs h5 => (mkl false rs h5).calm) = .ok (.d (.list ((xs.filter p).map g))) h := by
  rw [lc_fmap h (fun x => if p x = true then some (g x) else none) hz (fun x hx => by rw [hf x hx]; cases p x <;> rfl)]
  congr 2
  clear hz hf
  induction xs with
  | nil => rfl
  | cons x xs ih =>
    rw [List.filterMap_cons, List.filter_cons]
    cases hp : p x
    · simpa using ih
    · simpa using ih
/-- a for loop over data: I holds by what has been walked so far -/
theorem forL_pre {α : Type} {t : Tg} {b : Env → MH → Res Fl} {e : α → PyData} (I : List α → Env → MH → Prop) (all : List α) : ∀ (xs pre : List α) (σ : Env) (h : MH), all = pre ++ xs → I pre σ h →
    (∀ pre x post σ h, all = pre ++ x :: post → I pre σ h → ∃ σ1, putT t (.d (e x)) σ = some σ1 ∧ ∃ σ2 h2, (b σ1 h = .ok (.nx σ2) h2 ∨ b σ1 h = .ok (.ct σ2) h2) ∧ I (pre ++ [x]) σ2 h2) → ∃ σ2 h2, forL t b (dmap (xs.map e)) σ h = .ok (.nx σ2) h2 ∧ I all σ2 h2
  | [], pre, σ, h, ea, i, _ => ⟨σ, h, rfl, by rw [ea, List.append_nil]; exact i⟩
  | x :: xs, pre, σ, h, ea, i, hs => by
    obtain ⟨σ1, e1, σ2, h2, e2, i2⟩ := hs pre x xs σ h ea i
    obtain ⟨σ3, h3, e3, i3⟩ := forL_pre I all xs (pre ++ [x]) σ2 h2 (by rw [ea, List.append_assoc]; rfl) i2 hs
    refine ⟨σ3, h3, ?_, i3⟩
    show (match putT t (.d (e x)) σ with
      | some σ1 => (b σ1 h).bind fun f h2 => (match f with
        | .nx σ2 => forL t b (dmap (xs.map e)) σ2 h2
        | .ct σ2 => forL t b (dmap (xs.map e)) σ2 h2
        | .bk σ2 => .ok (.nx σ2) h2
        | .rt v => .ok (.rt v) h2)
      | none => .stuck) = _
    rw [e1]
    rcases e2 with e2 | e2 <;> (dsimp only; rw [e2]; exact e3)
theorem forL_fold {α : Type} {t : Tg} {b : Env → MH → Res Fl} {e : α → PyData} {xs : List α} {σ : Env} {h : MH} (I : List α → Env → MH → Prop) (i : I [] σ h)
    (hs : ∀ pre x post σ h, xs = pre ++ x :: post → I pre σ h → ∃ σ1, putT t (.d (e x)) σ = some σ1 ∧ ∃ σ2 h2, (b σ1 h = .ok (.nx σ2) h2 ∨ b σ1 h = .ok (.ct σ2) h2) ∧ I (pre ++ [x]) σ2 h2) : ∃ σ2 h2, forL t b (dmap (xs.map e)) σ h = .ok (.nx σ2) h2 ∧ I xs σ2 h2 :=
  forL_pre I xs xs [] σ h rfl i hs
/-- .. its body returns at no turn or at the first of which p holds -/
theorem forF_l {t : Tg} {b : Env → MH → Res Fl} {F : Nat} {xs : List Vl} {σ : Env} : forF t b F (.l xs) σ h = forL t b xs σ h := rfl
/-- a while loop, by a measure -/
theorem whileG_ind {S : Type} {c : Env → MH → Res Bool} {b : Env → MH → Res Fl} (m : S → Nat) (I : S → Env → MH → Prop) (Q : Env → MH → Prop)
    (hs : ∀ s σ h, I s σ h → (c σ h = .ok false h ∧ Q σ h) ∨ (c σ h = .ok true h ∧ ∃ s' σ' h', b σ h = .ok (.nx σ') h' ∧ m s' < m s ∧ I s' σ' h')) : ∀ (F : Nat) (s : S) (σ : Env) (h : MH), I s σ h → m s < F → ∃ σ' h', whileG c b F σ h = .ok (.nx σ') h' ∧ Q σ' h'
  | 0, s, σ, h, _, hm => absurd hm (by omega)
  | F + 1, s, σ, h, i, hm => by
    rcases hs s σ h i with ⟨e, q⟩ | ⟨e, s', σ', h', e2, hm2, i2⟩
    · refine ⟨σ, h, ?_, q⟩
      show ((c σ h).bind fun t h1 => if t = true then (b σ h1).bind fun f h2 => (match f with
        | .nx σ2 => whileG c b F σ2 h2
        | .ct σ2 => whileG c b F σ2 h2
        | .bk σ2 => .ok (.nx σ2) h2
        | .rt v => .ok (.rt v) h2) else .ok (.nx σ) h1) = _
      rw [e]; rfl
    · obtain ⟨σ3, h3, e3, q⟩ := whileG_ind m I Q hs F s' σ' h' i2 (by omega)
      refine ⟨σ3, h3, ?_, q⟩
      show ((c σ h).bind fun t h1 => if t = true then (b σ h1).bind fun f h2 => (match f with
        | .nx σ2 => whileG c b F σ2 h2
        | .ct σ2 => whileG c b F σ2 h2
        | .bk σ2 => .ok (.nx σ2) h2
        | .rt v => .ok (.rt v) h2) else .ok (.nx σ) h1) = _
      rw [e, Res.bind_ok, if_pos rfl, e2, Res.bind_ok]
      exact e3
theorem lcF_some {tg : Tg} {own : List Nat} {fA : Env → MH → Res Bool} {fE : Env → MH → Res Vl} {σ σ2 : Env} {x : Vl} (hp : putT tg x (wipeE σ own) = some σ2) : lcF tg own fA fE σ x h = (fA σ2 h).bind fun b h3 => if b = true then (fE σ2 h3).bind fun v h4 => .ok (some v) h4 else .ok none h3 := by
  unfold lcF; rw [hp]
@[simp] theorem lcF_nm {i : Nat} {own : List Nat} {fA : Env → MH → Res Bool} {fE : Env → MH → Res Vl} {σ : Env} {x : Vl} : lcF (.nm i) own fA fE σ x h = (fA ((wipeE σ own).set i (some x)) h).bind fun b h3 => if b = true then (fE ((wipeE σ own).set i (some x)) h3).bind fun v h4 => .ok (some v) h4 else .ok none h3 := id rfl
@[simp] theorem lcF_tp2 {i j : Nat} {own : List Nat} {fA : Env → MH → Res Bool} {fE : Env → MH → Res Vl} {σ : Env} {a b : PyData} : lcF (.tp [i, j]) own fA fE σ (.d (.tuple [a, b])) h =
    (fA (((wipeE σ own).set i (some (.d a))).set j (some (.d b))) h).bind fun c h3 => if c = true then (fE (((wipeE σ own).set i (some (.d a))).set j (some (.d b))) h3).bind fun v h4 => .ok (some v) h4 else .ok none h3 := rfl
@[simp] theorem below_d (n : Nat) (x : PyData) : below n (.d x) = true := id rfl
@[simp] theorem below_r (n i : Nat) : below n (.r i) = decide (i < n) := id rfl
@[simp] theorem sz_0 : (0 ≤ sz) = True := eq_true (by decide)
@[simp] theorem sz_1 : (1 ≤ sz) = True := eq_true (by decide)
@[simp] theorem sz_2 : (2 ≤ sz) = True := eq_true (by decide)
@[simp] theorem sz_3 : (3 ≤ sz) = True := eq_true (by decide)
@[simp] theorem sz_4 : (4 ≤ sz) = True := eq_true (by decide)
@[simp] theorem sz_5 : (5 ≤ sz) = True := eq_true (by decide)
@[simp] theorem sz_6 : (6 ≤ sz) = True := eq_true (by decide)
@[simp] theorem sz_7 : (7 ≤ sz) = True := eq_true (by decide)
@[simp] theorem sz_8 : (8 ≤ sz) = True := eq_true (by decide)
@[simp] theorem sz_9 : (9 ≤ sz) = True := eq_true (by decide)
@[simp] theorem isTy_int_none : isTy .int .none = false := id rfl
@[simp] theorem isTy_int_bool (b : Bool) : isTy .int (.bool b) = true := id rfl
@[simp] theorem isTy_int_int (i : Int) : isTy .int (.int i) = true := id rfl
@[simp] theorem isTy_int_str (s : Str) : isTy .int (.str s) = false := id rfl
@[simp] theorem isTy_int_list (xs : List PyData) : isTy .int (.list xs) = false := id rfl
@[simp] theorem isTy_int_tuple (xs : List PyData) : isTy .int (.tuple xs) = false := id rfl
@[simp] theorem isTy_bool_none : isTy .bool .none = false := id rfl
@[simp] theorem isTy_bool_bool (b : Bool) : isTy .bool (.bool b) = true := id rfl
@[simp] theorem isTy_bool_int (i : Int) : isTy .bool (.int i) = false := id rfl
@[simp] theorem isTy_bool_str (s : Str) : isTy .bool (.str s) = false := id rfl
@[simp] theorem isTy_bool_list (xs : List PyData) : isTy .bool (.list xs) = false := id rfl
@[simp] theorem isTy_bool_tuple (xs : List PyData) : isTy .bool (.tuple xs) = false := id rfl
@[simp] theorem isTy_str_none : isTy .str .none = false := id rfl
@[simp] theorem isTy_str_bool (b : Bool) : isTy .str (.bool b) = false := id rfl
@[simp] theorem isTy_str_int (i : Int) : isTy .str (.int i) = false := id rfl
@[simp] theorem isTy_str_str (s : Str) : isTy .str (.str s) = true := id rfl
@[simp] theorem isTy_str_list (xs : List PyData) : isTy .str (.list xs) = false := id rfl
@[simp] theorem isTy_str_tuple (xs : List PyData) : isTy .str (.tuple xs) = false := id rfl
@[simp] theorem isTy_tuple_none : isTy .tuple .none = false := id rfl
@[simp] theorem isTy_tuple_bool (b : Bool) : isTy .tuple (.bool b) = false := id rfl
@[simp] theorem isTy_tuple_int (i : Int) : isTy .tuple (.int i) = false := id rfl
@[simp] theorem isTy_tuple_str (s : Str) : isTy .tuple (.str s) = false := id rfl
@[simp] theorem isTy_tuple_list (xs : List PyData) : isTy .tuple (.list xs) = false := id rfl
@[simp] theorem isTy_tuple_tuple (xs : List PyData) : isTy .tuple (.tuple xs) = true := id rfl
@[simp] theorem isTy_list_none : isTy .list .none = false := id rfl
@[simp] theorem isTy_list_bool (b : Bool) : isTy .list (.bool b) = false := id rfl
@[simp] theorem isTy_list_int (i : Int) : isTy .list (.int i) = false := id rfl
@[simp] theorem isTy_list_str (s : Str) : isTy .list (.str s) = false := id rfl
@[simp] theorem isTy_list_list (xs : List PyData) : isTy .list (.list xs) = true := id rfl
@[simp] theorem isTy_list_tuple (xs : List PyData) : isTy .list (.tuple xs) = false := id rfl
@[simp] theorem isTy_dict_none : isTy .dict .none = false := id rfl
@[simp] theorem isTy_dict_bool (b : Bool) : isTy .dict (.bool b) = false := id rfl
@[simp] theorem isTy_dict_int (i : Int) : isTy .dict (.int i) = false := id rfl
@[simp] theorem isTy_dict_str (s : Str) : isTy .dict (.str s) = false := id rfl
@[simp] theorem isTy_dict_list (xs : List PyData) : isTy .dict (.list xs) = false := id rfl
@[simp] theorem isTy_dict_tuple (xs : List PyData) : isTy .dict (.tuple xs) = false := id rfl
@[simp] theorem cmpV_bool_eq (a b : Bool) : cmpV .eq (.d (.bool a)) (.d (.bool b)) h = some (a == b) := by simp [cmpV, cmpG, cont, cmpD, okN, PyData.eqv]
@[simp] theorem cmpV_bool_ne (a b : Bool) : cmpV .ne (.d (.bool a)) (.d (.bool b)) h = some (!(a == b)) := by simp [cmpV, cmpG, cont, cmpD, okN, PyData.eqv]
@[simp] theorem cmpV_str_eq (a b : Str) : cmpV .eq (.d (.str a)) (.d (.str b)) h = some (a == b) := by simp [cmpV, cmpG, cont, cmpD, okN, PyData.eqv]
@[simp] theorem cmpV_none_eq : cmpV .eq (.d .none) (.d .none) h = some true := by simp [cmpV, cmpG, cont, cmpD, okN, PyData.eqv]
@[simp] theorem isNoneD_none : isNoneD .none = true := id rfl
@[simp] theorem isNoneD_bool (b : Bool) : isNoneD (.bool b) = false := id rfl
@[simp] theorem isNoneD_int (b : Int) : isNoneD (.int b) = false := id rfl
@[simp] theorem isNoneD_str (b : Str) : isNoneD (.str b) = false := id rfl
@[simp] theorem isNoneD_list (b : List PyData) : isNoneD (.list b) = false := id rfl
@[simp] theorem isNoneD_tuple (b : List PyData) : isNoneD (.tuple b) = false := id rfl
/-! behind a def -/
@[simp] theorem leave_d (n : Nat) (x : PyData) : leave n (.ok (.rt (.d x)) h) = .ok (.d x) (h.take n) := id rfl
@[simp] theorem leave_r (n i : Nat) : leave n (.ok (.rt (.r i)) h) = .ok (.r i) h := id rfl
@[simp] theorem leave_n (n : Nat) (σ : Env) : leave n (.ok (.nx σ) h) = .ok (.d .none) (h.take n) := id rfl
@[simp] theorem take_len : List.take h.length h = h := List.take_length
end
end Ev

set_option Elab.async false
set_option linter.all false
set_option autoImplicit false
set_option maxRecDepth 100000
set_option maxHeartbeats 8000000
namespace Ev
open PySem
def F_law_hand : Fn := ⟨1, 3,
    (.cons (.set 1 (.lc false (.bi .abs false (.cons (.bi .int false (.cons (.var 2) .nil)) .nil)) (.nm 2) (.seq (.sli false (.var 0) .nil (.cons (.int 63) .nil))) .nil [2]))
      (.cons (.ret (.lst true (.cons (.var 1) (.cons (.int 0) (.cons (.int 0) (.cons (.bin .add false (.int 97) (.bin .mul false (.int 5) (.bi .len false (.cons (.var 1) .nil)))) (.cons (.int 0) .nil)))))))
      .nil)), none⟩
def F_law_draw : Fn := ⟨2, 5,
    (.cons (.ite (.andL (.cons (.cmp .eq (.idx (.var 0) (.int 2)) (.int 0)) (.cons (.cmp .lt (.idx (.var 0) (.int 1)) (.bi .len false (.cons (.idx (.var 0) (.int 0)) .nil))) .nil)))
      (.cons (.set 3 (.idx (.idx (.var 0) (.int 0)) (.idx (.var 0) (.int 1))))
      (.cons (.setI (.var 0) (.int 1) (.bin .add false (.idx (.var 0) (.int 1)) (.int 1)))
      (.cons (.setI (.var 0) (.int 3) (.bin .mod false (.bi .int false (.cons (.bin .add false (.bin .add false (.bin .mul false (.idx (.var 0) (.int 3)) (.int 48271)) (.var 3)) (.int 31)) .nil)) (.int 2147483647)))
      (.cons (.ite (.cmp .ge (.var 3) (.bin .pow false (.int 10) (.int 18)))
      (.cons (.setI (.var 0) (.int 2) (.var 3))
      .nil)
      .nil)
      .nil))))
      .nil)
      (.cons (.ite (.cmp .gt (.idx (.var 0) (.int 2)) (.int 0))
      (.cons (.set 4 (.bin .mod false (.bi .int false (.cons (.idx (.var 0) (.int 2)) .nil)) (.var 1)))
      (.cons (.setI (.var 0) (.int 2) (.bin .fdiv false (.idx (.var 0) (.int 2)) (.var 1)))
      (.cons (.ret (.var 4))
      .nil)))
      .nil)
      (.cons (.setI (.var 0) (.int 4) (.bin .add false (.idx (.var 0) (.int 4)) (.int 1)))
      (.cons (.set 2 (.bin .mod false (.bi .int false (.cons (.bin .mul false (.bi .int false (.cons (.bin .add false (.idx (.var 0) (.int 3)) (.bin .mul false (.int 6151) (.idx (.var 0) (.int 4)))) .nil)) (.int 40692)) .nil)) (.int 2147483399)))
      (.cons (.set 2 (.bin .mod false (.bi .int false (.cons (.bin .mul false (.var 2) (.bin .add false (.bin .fdiv false (.var 2) (.int 1223)) (.int 52027))) .nil)) (.int 2147483629)))
      (.cons (.set 2 (.bin .mod false (.bi .int false (.cons (.bin .mul false (.var 2) (.bin .add false (.bin .fdiv false (.var 2) (.int 2671)) (.int 69621))) .nil)) (.int 2147483647)))
      (.cons (.ret (.bin .mod false (.bi .int false (.cons (.bin .fdiv false (.var 2) (.int 32)) .nil)) (.var 1)))
      .nil))))))), none⟩
def F_law_some : Fn := ⟨2, 2,
    (.cons (.ret (.idx (.var 1) (.call "_law_draw" (.cons (.var 0) (.cons (.bi .len false (.cons (.var 1) .nil)) .nil)))))
      .nil), none⟩
def F_law_is : Fn := ⟨2, 5,
    (.cons (.ite (.isi (.var 1) [.tuple, .list])
      (.cons (.ite (.orL (.cons (.cmp .ne (.isi (.var 0) [.tuple]) (.isi (.var 1) [.tuple])) (.cons (.not (.isi (.var 0) [.tuple, .list])) .nil)))
      (.cons (.ret (.bl false))
      .nil)
      .nil)
      (.cons (.ret (.andL (.cons (.cmp .eq (.bi .len false (.cons (.var 0) .nil)) (.bi .len false (.cons (.var 1) .nil))) (.cons (.bi .all false (.cons (.lc false (.call "_law_is" (.cons (.var 3) (.cons (.var 4) .nil))) (.tp [3, 4]) (.zip (.var 0) (.var 1)) .nil [3, 4]) .nil)) .nil))))
      .nil))
      .nil)
      (.cons (.ite (.isi (.var 1) [.dict])
      (.cons (.ite (.orL (.cons (.not (.isi (.var 0) [.dict])) (.cons (.cmp .ne (.bi .len false (.cons (.var 0) .nil)) (.bi .len false (.cons (.var 1) .nil))) .nil)))
      (.cons (.ret (.bl false))
      .nil)
      .nil)
      (.cons (.ret (.bi .all false (.cons (.lc false (.andL (.cons (.cmp .in_ (.var 2) (.var 0)) (.cons (.call "_law_is" (.cons (.idx (.var 0) (.var 2)) (.cons (.idx (.var 1) (.var 2)) .nil))) .nil))) (.nm 2) (.seq (.var 1)) .nil [2]) .nil)))
      .nil))
      .nil)
      (.cons (.ite (.orL (.cons (.isi (.var 1) [.str]) (.cons (.cmp .is (.var 1) .non) .nil)))
      (.cons (.ret (.andL (.cons (.cmp .eq (.isi (.var 0) [.str]) (.isi (.var 1) [.str])) (.cons (.cmp .eq (.var 0) (.var 1)) .nil))))
      .nil)
      .nil)
      (.cons (.ret (.andL (.cons (.isi (.var 0) [.int]) (.cons (.cmp .eq (.isi (.var 0) [.bool]) (.isi (.var 1) [.bool])) (.cons (.cmp .eq (.var 0) (.var 1)) .nil)))))
      .nil)))), none⟩

section
variable {T : Str → Option Fn} {gc : Str → Option PyData} {F : Nat}
def HandL (cells : List Int) (a b c e : Int) : MO := .lst [.d (.list (cells.map .int)), .d (.int a), .d (.int b), .d (.int c), .d (.int e)]
/-- a hand of cells at j -/
def Hand (h : MH) (j : Nat) : Prop := ∃ (cells : List Int) (a b c e : Int), h[j]? = some (HandL cells a b c e) ∧ cells.length ≤ 63 ∧ (∀ x ∈ cells, 0 ≤ x) ∧ 0 ≤ a ∧ 0 ≤ b ∧ 0 ≤ c ∧ 0 ≤ e
theorem Hand.lt {h : MH} {j : Nat} (hh : Hand h j) : j < h.length := by
  obtain ⟨cells, a, b, c, e, hj, _⟩ := hh
  exact (List.getElem?_eq_some_iff.mp hj).1
theorem idx_r {h : MH} {j : Nat} {xs : List Vl} {i : Int} (hj : h[j]? = some (.lst xs)) : idxV (.r j) (.d (.int i)) h = (match ixOf i xs.length with | some k => xs[k]? | none => none) := by
  simp only [idxV, items, hj] <;> rfl
theorem set_r {h : MH} {j : Nat} {xs : List Vl} {i : Int} {v : Vl} {k : Nat} (hj : h[j]? = some (.lst xs)) (hi : ixOf i xs.length = some k) (hb : below j v = true) : setItV (.r j) (.d (.int i)) v h = .ok () (h.set j (.lst (xs.set k v))) := by
  simp [setItV, hj, hi, hb]
theorem hand_idx {h : MH} {j : Nat} {cells : List Int} {a b c e : Int} (hj : h[j]? = some (HandL cells a b c e)) :
    idxV (.r j) (.d (.int 0)) h = some (.d (.list (cells.map .int))) ∧ idxV (.r j) (.d (.int 1)) h = some (.d (.int a)) ∧ idxV (.r j) (.d (.int 2)) h = some (.d (.int b)) ∧ idxV (.r j) (.d (.int 3)) h = some (.d (.int c)) ∧ idxV (.r j) (.d (.int 4)) h = some (.d (.int e)) := by
  refine ⟨?_, ?_, ?_, ?_, ?_⟩ <;> (rw [idx_r hj]; rfl)
theorem hand_set {h : MH} {j : Nat} {cells : List Int} {a b c e x : Int} (hj : h[j]? = some (HandL cells a b c e)) :
    setItV (.r j) (.d (.int 1)) (.d (.int x)) h = .ok () (h.set j (HandL cells x b c e)) ∧ setItV (.r j) (.d (.int 2)) (.d (.int x)) h = .ok () (h.set j (HandL cells a x c e)) ∧ setItV (.r j) (.d (.int 3)) (.d (.int x)) h = .ok () (h.set j (HandL cells a b x e)) ∧ setItV (.r j) (.d (.int 4)) (.d (.int x)) h = .ok () (h.set j (HandL cells a b c x)) := by
  refine ⟨?_, ?_, ?_, ?_⟩
  · exact set_r (k := 1) hj rfl rfl
  · exact set_r (k := 2) hj rfl rfl
  · exact set_r (k := 3) hj rfl rfl
  · exact set_r (k := 4) hj rfl rfl
theorem hand_at {h : MH} {j : Nat} {o : MO} (hl : j < h.length) : (h.set j o)[j]? = some o := by rw [List.getElem?_set_self hl]
theorem idx_cells {cells : List Int} {a : Int} {h : MH} (ha : 0 ≤ a) (hl : a < cells.length) : ∃ x, x ∈ cells ∧ idxV (.d (.list (cells.map .int))) (.d (.int a)) h = some (.d (.int x)) := by
  have h1 : a.toNat < cells.length := by omega
  refine ⟨cells[a.toNat], List.getElem_mem h1, ?_⟩
  simp [idxV, items, ixOf, ha, hl, h1]
@[simp] theorem binI_mod (i j : Int) (hj : j ≠ 0) : binI .mod i j = some (i.fmod j) := by simp [binI, hj]
theorem binI_fdivW (i j : Int) (hj : j ≠ 0) (h2 : j.natAbs < 2 ^ 250) : binI .fdiv i j = some (i.fdiv j) := by
  show (if j ≠ 0 ∧ j.natAbs < 2 ^ 250 then some (i.fdiv j) else none) = _
  rw [if_pos ⟨hj, h2⟩]
@[simp] theorem binI_fdiv (i j : Int) (hj : j ≠ 0) (h2 : j.natAbs < 1073741824) : binI .fdiv i j = some (i.fdiv j) := binI_fdivW i j hj (Nat.lt_trans h2 (by decide))
theorem binI_mulr (i j : Int) (h1 : -(2 ^ 64) < j) (h2 : j < 2 ^ 64) : binI .mul i j = some (i * j) := by
  have : small64 j = true := decide_eq_true ⟨h1, h2⟩
  simp [binI, this]
theorem binI_mull (i j : Int) (h1 : -(2 ^ 64) < i) (h2 : i < 2 ^ 64) : binI .mul i j = some (i * j) := by
  have : small64 i = true := decide_eq_true ⟨h1, h2⟩
  simp [binI, this]
theorem fmod_pos {i j : Int} (hj : 0 < j) : 0 ≤ i.fmod j ∧ i.fmod j < j := ⟨Int.fmod_nonneg_of_pos i hj, Int.fmod_lt_of_pos i hj⟩
theorem fdiv_pos {i j : Int} (hi : 0 ≤ i) (hj : 0 < j) : 0 ≤ i.fdiv j := Int.fdiv_nonneg hi (by omega)
theorem set_self' {h : MH} {j : Nat} {o : MO} (hj : h[j]? = some o) : h.set j o = h := by
  apply List.ext_getElem?
  intro i
  by_cases e : j = i
  · subst e
    rw [List.getElem?_set_self (List.getElem?_eq_some_iff.mp hj).1, hj]
  · rw [List.getElem?_set_ne e]
/-- the first part of a draw: a cell is taken up, or not -/
theorem draw_first {n : Nat} {h : MH} {j : Nat} {m : Int} {cells : List Int} {a b c e : Int} (hj : h[j]? = some (HandL cells a b c e)) (hl : cells.length ≤ 63) (hc : ∀ x ∈ cells, 0 ≤ x) (ha : 0 ≤ a) (hb : 0 ≤ b) (hcc : 0 ≤ c) :
    ∃ (a' b' c' : Int) (v : Option Vl), 0 ≤ a' ∧ 0 ≤ b' ∧ 0 ≤ c' ∧ evS (gs T gc F n) (match F_law_draw.body with | .cons s _ => s | .nil => .bad) [some (.r j), some (.d (.int m)), none, none, none] h = .ok (.nx [some (.r j), some (.d (.int m)), none, v, none]) (h.set j (HandL cells a' b' c' e)) := by
  have hlt : j < h.length := (List.getElem?_eq_some_iff.mp hj).1
  have hz : cells.length ≤ sz := by simp [sz]; omega
  simp only [F_law_draw]
  by_cases hb0 : b = 0
  · subst hb0
    obtain ⟨i0, i1, i2, i3, i4⟩ := hand_idx hj
    by_cases hal : a < cells.length
    · obtain ⟨x, hx, ix⟩ := idx_cells (h := h) ha hal
      have hx0 := hc x hx
      obtain ⟨s1, _, _, _⟩ := hand_set (x := a + 1) hj
      have hj1 := hand_at (o := HandL cells (a + 1) 0 c e) hlt
      obtain ⟨_, _, _, j3, _⟩ := hand_idx hj1
      obtain ⟨_, _, s3, _⟩ := hand_set (x := (c * 48271 + x + 31).fmod 2147483647) hj1
      have hm := fmod_pos (i := c * 48271 + x + 31) (j := 2147483647) (by decide)
      by_cases hbig : (10 : Int) ^ 18 ≤ x
      · have hj2 := hand_at (o := HandL cells (a + 1) 0 ((c * 48271 + x + 31).fmod 2147483647) e) hlt
        obtain ⟨_, t2, _, _⟩ := hand_set (x := x) hj2
        rw [List.set_set] at s3
        refine ⟨a + 1, x, (c * 48271 + x + 31).fmod 2147483647, some (.d (.int x)), by omega, hx0, hm.1, ?_⟩
        simp [i0, i1, i2, hal, ix, hz, s1, j3, binI_mulr, s3, t2, binI]
        simp [binI_mulr, s3, t2, binI, small64, show (1000000000000000000 : Int) ≤ x from hbig]
      · refine ⟨a + 1, 0, (c * 48271 + x + 31).fmod 2147483647, some (.d (.int x)), by omega, hb, hm.1, ?_⟩
        rw [List.set_set] at s3
        simp [i0, i1, i2, hal, ix, hz, s1, j3, binI_mulr, s3, binI]
        simp [binI_mulr, s3, binI, small64, show ¬ (1000000000000000000 : Int) ≤ x from hbig]
    · refine ⟨a, 0, c, none, ha, hb, hcc, ?_⟩
      simp [i0, i1, i2, hal, hz]
      exact (set_self' hj).symm
  · obtain ⟨i0, i1, i2, i3, i4⟩ := hand_idx hj
    refine ⟨a, b, c, none, ha, hb, hcc, ?_⟩
    simp [i2, hb0]
    exact (set_self' hj).symm
theorem draw_ok (hT : T "_law_draw" = some F_law_draw) {n : Nat} {h : MH} {j : Nat} {m : Int} (hh : Hand h j) (hm : 1 ≤ m) (hm2 : m < 1073741824) :
    ∃ (r : Int) (o : MO), run T gc F (n + 1) "_law_draw" [.r j, .d (.int m)] h = .ok (.d (.int r)) (h.set j o) ∧ 0 ≤ r ∧ r < m ∧ Hand (h.set j o) j := by
  have hlt := hh.lt
  obtain ⟨cells, a, b, c, e, hj, hl, hc, ha, hb, hcc, he⟩ := hh
  obtain ⟨a', b', c', v, ha', hb', hc', e1⟩ := draw_first (T := T) (gc := gc) (F := F) (n := n) (m := m) hj hl hc ha hb hcc
  rw [run_go hT rfl]
  have hj1 := hand_at (o := HandL cells a' b' c' e) hlt
  obtain ⟨i0, i1, i2, i3, i4⟩ := hand_idx hj1
  have hm0 : m ≠ 0 := by omega
  have hmn : m.natAbs < 1073741824 := by omega
  have e1' : ∀ r, evSs (gs T gc F n) (.cons (match F_law_draw.body with | .cons s _ => s | .nil => .bad) r) [some (.r j), some (.d (.int m)), none, none, none] h = evSs (gs T gc F n) r [some (.r j), some (.d (.int m)), none, v, none] (h.set j (HandL cells a' b' c' e)) := fun r => by
    rw [evSs_cons, e1]; rfl
  have e2 := e1' (match F_law_draw.body with | .cons _ r => r | .nil => .nil)
  have e3 : evSs (gs T gc F n) F_law_draw.body [some (.r j), some (.d (.int m)), none, none, none] h = _ := e2
  rw [show ([Vl.r j, Vl.d (.int m)].map some ++ List.replicate (F_law_draw.n - F_law_draw.ps) none) = [some (.r j), some (.d (.int m)), none, none, none] from rfl, e3]
  simp only [F_law_draw]
  by_cases hbp : 0 < b'
  · obtain ⟨_, s2, _, _⟩ := hand_set (x := b'.fdiv m) hj1
    rw [List.set_set] at s2
    refine ⟨b'.fmod m, HandL cells a' (b'.fdiv m) c' e, ?_, (fmod_pos (by omega)).1, (fmod_pos (by omega)).2, cells, a', b'.fdiv m, c', e, hand_at hlt, hl, hc, ha', fdiv_pos hb' (by omega), hc', he⟩
    simp [i2, hbp, hm0, hmn, s2]
    exact List.take_of_length_le (by rw [List.length_set]; omega)
  · obtain ⟨_, _, _, s4⟩ := hand_set (x := e + 1) hj1
    rw [List.set_set] at s4
    have hj2 := hand_at (o := HandL cells a' b' c' (e + 1)) hlt
    obtain ⟨_, _, _, k3, k4⟩ := hand_idx hj2
    have q1 := fmod_pos (i := (c' + 6151 * (e + 1)) * 40692) (j := 2147483399) (by decide)
    generalize hn1 : ((c' + 6151 * (e + 1)) * 40692).fmod 2147483399 = n1 at q1
    have q2 := fmod_pos (i := n1 * (n1.fdiv 1223 + 52027)) (j := 2147483629) (by decide)
    generalize hn2 : (n1 * (n1.fdiv 1223 + 52027)).fmod 2147483629 = n2 at q2
    have q3 := fmod_pos (i := n2 * (n2.fdiv 2671 + 69621)) (j := 2147483647) (by decide)
    generalize hn3 : (n2 * (n2.fdiv 2671 + 69621)).fmod 2147483647 = n3 at q3
    have m1 := binI_mull n1 (n1.fdiv 1223 + 52027) (by omega) (by omega)
    have m2 := binI_mull n2 (n2.fdiv 2671 + 69621) (by omega) (by omega)
    refine ⟨(n3.fdiv 32).fmod m, HandL cells a' b' c' (e + 1), ?_, (fmod_pos (by omega)).1, (fmod_pos (by omega)).2, cells, a', b', c', e + 1, hand_at hlt, hl, hc, ha', hb', hc', by omega⟩
    simp [i2, i4, hbp, s4, k3, k4, binI_mulr, binI_mull, hn1, m1, hn2, m2, hn3, hm0]
    exact List.take_of_length_le (by rw [List.length_set]; omega)
theorem hand_ok (hT : T "_law_hand" = some F_law_hand) {n : Nat} {h : MH} {ns : List Int} (hn : ns.length ≤ 63) : ∃ o, run T gc F (n + 1) "_law_hand" [.sc ns] h = .ok (.r h.length) (h ++ [o]) ∧ Hand (h ++ [o]) h.length := by
  rw [run_go hT rfl]
  have hcut : cutL ns none (some 63) = ns := by
    simp [cutL, cutAt]
    exact List.take_of_length_le (by omega)
  have hz : ns.length ≤ sz := by simp [sz]; omega
  have e1 : sliV false (.sc ns) none (some 63) h = .ok (.d (.list (ns.map .int))) h := by
    show mkl false ((cutL ns none (some 63)).map fun n => .d (.int n)) h = _
    rw [hcut]
    have := mkl_d h (ns.map .int)
    rw [List.map_map] at this
    exact this
  refine ⟨HandL (ns.map fun x => (x.natAbs : Int)) 0 0 (97 + 5 * ns.length) 0, ?_, ns.map (fun x => (x.natAbs : Int)), 0, 0, 97 + 5 * ns.length, 0, by rw [List.getElem?_append_right (Nat.le_refl _)]; simp, by simpa using hn, ?_, by omega, by omega, by omega, by omega⟩
  · simp [F_law_hand, optI, e1, hz]
    rw [lc_map h (fun x => .int x.natAbs) hz (fun x _ => by simp)]
    simp [hz, binI_mull, HandL]
  · intro x hx
    obtain ⟨y, _, rfl⟩ := List.mem_map.mp hx
    omega
theorem some_l (hT : T "_law_draw" = some F_law_draw) (hT2 : T "_law_some" = some F_law_some) {n : Nat} {h : MH} {j : Nat} {xs : List PyData} (hh : Hand h j) (hx : xs ≠ []) (hz : xs.length ≤ sz) :
    ∃ (x : PyData) (o : MO), x ∈ xs ∧ run T gc F (n + 2) "_law_some" [.r j, .d (.list xs)] h = .ok (.d x) (h.set j o) ∧ Hand (h.set j o) j := by
  have hl : 0 < xs.length := List.length_pos_iff.mpr hx
  have hz' : xs.length < 1073741824 := Nat.lt_of_le_of_lt hz (by decide)
  obtain ⟨r, o, e, h1, h2, h3⟩ := draw_ok (gc := gc) (F := F) hT (n := n) (m := xs.length) hh (by omega) (by omega)
  have hr : r.toNat < xs.length := by omega
  refine ⟨xs[r.toNat], o, List.getElem_mem hr, ?_, h3⟩
  rw [run_go hT2 rfl]
  simp [F_law_some, hz, e, idxV, items, ixOf, h1, h2, hr]
  exact List.take_of_length_le (by rw [List.length_set]; omega)
theorem some_t (hT : T "_law_draw" = some F_law_draw) (hT2 : T "_law_some" = some F_law_some) {n : Nat} {h : MH} {j : Nat} {xs : List PyData} (hh : Hand h j) (hx : xs ≠ []) (hz : xs.length ≤ sz) :
    ∃ (x : PyData) (o : MO), x ∈ xs ∧ run T gc F (n + 2) "_law_some" [.r j, .d (.tuple xs)] h = .ok (.d x) (h.set j o) ∧ Hand (h.set j o) j := by
  have hl : 0 < xs.length := List.length_pos_iff.mpr hx
  have hz' : xs.length < 1073741824 := Nat.lt_of_le_of_lt hz (by decide)
  obtain ⟨r, o, e, h1, h2, h3⟩ := draw_ok (gc := gc) (F := F) hT (n := n) (m := xs.length) hh (by omega) (by omega)
  have hr : r.toNat < xs.length := by omega
  refine ⟨xs[r.toNat], o, List.getElem_mem hr, ?_, h3⟩
  rw [run_go hT2 rfl]
  simp [F_law_some, hz, e, idxV, items, ixOf, h1, h2, hr]
  exact List.take_of_length_le (by rw [List.length_set]; omega)
/-- data that _law_is goes through: no dict, nested at most n deep, no long sequence -/
def okS : Nat → PyData → Bool
  | _, .none => true
  | _, .bool _ => true
  | _, .int _ => true
  | _, .str _ => true
  | n + 1, .list xs => decide (xs.length ≤ sz) && xs.all (okS n)
  | n + 1, .tuple xs => decide (xs.length ≤ sz) && xs.all (okS n)
  | _, _ => false
theorem okS_mono : ∀ (n : Nat) (d : PyData), okS n d = true → okS (n + 1) d = true := by
  intro n
  induction n with
  | zero => intro d h; cases d <;> first | rfl | (simp [okS] at h)
  | succ n ih =>
    intro d h
    cases d with
    | list xs =>
      rw [okS, Bool.and_eq_true] at h ⊢
      exact ⟨h.1, List.all_eq_true.mpr fun x hx => ih x (List.all_eq_true.mp h.2 x hx)⟩
    | tuple xs =>
      rw [okS, Bool.and_eq_true] at h ⊢
      exact ⟨h.1, List.all_eq_true.mpr fun x hx => ih x (List.all_eq_true.mp h.2 x hx)⟩
    | _ => first | rfl | (simp [okS] at h)
theorem zip_self_mem {α : Type} : ∀ {xs : List α} {p : α × α}, p ∈ xs.zip xs → p.1 = p.2 ∧ p.1 ∈ xs
  | [], p, h => by simp at h
  | x :: xs, p, h => by
    rw [List.zip_cons_cons, List.mem_cons] at h
    rcases h with rfl | h
    · exact ⟨rfl, List.mem_cons_self⟩
    · exact ⟨(zip_self_mem h).1, List.mem_cons_of_mem _ (zip_self_mem h).2⟩
theorem is_ok (hT : T "_law_is" = some F_law_is) : ∀ (k : Nat) (d : PyData) (n : Nat) (h : MH), okS k d = true → run T gc F (n + k + 1) "_law_is" [.d d, .d d] h = .ok (.d (.bool true)) h
  | k, .none, n, h, _ => by
    rw [run_go hT rfl]
    simp [F_law_is]
  | k, .bool b, n, h, _ => by
    rw [run_go hT rfl]
    simp [F_law_is]
  | k, .int b, n, h, _ => by
    rw [run_go hT rfl]
    simp [F_law_is]
  | k, .str b, n, h, _ => by
    rw [run_go hT rfl]
    simp [F_law_is]
  | 0, .list xs, n, h, e => by simp [okS] at e
  | 0, .tuple xs, n, h, e => by simp [okS] at e
  | k + 1, .list xs, n, h, e => by
    rw [okS, Bool.and_eq_true, decide_eq_true_eq] at e
    rw [run_go hT rfl]
    simp [F_law_is, e.1]
    rw [lc_map h (fun _ => .bool true) (by rw [List.length_zip]; have := e.1; omega) (fun p hp => by
      have hq := zip_self_mem hp
      have := is_ok hT k p.1 n h (List.all_eq_true.mp e.2 _ hq.2)
      simp [← hq.1, show n + (k + 1) = n + k + 1 from rfl, this])]
    simp [b_all_map]
  | k + 1, .tuple xs, n, h, e => by
    rw [okS, Bool.and_eq_true, decide_eq_true_eq] at e
    rw [run_go hT rfl]
    simp [F_law_is, e.1]
    rw [lc_map h (fun _ => .bool true) (by rw [List.length_zip]; have := e.1; omega) (fun p hp => by
      have hq := zip_self_mem hp
      have := is_ok hT k p.1 n h (List.all_eq_true.mp e.2 _ hq.2)
      simp [← hq.1, show n + (k + 1) = n + k + 1 from rfl, this])]
    simp [b_all_map]
  | k, .dict _, n, h, e => by cases k <;> simp [okS] at e
end
end Ev

set_option Elab.async false
set_option linter.all false
set_option autoImplicit false
set_option maxRecDepth 100000
set_option maxHeartbeats 8000000
namespace Ev
open PySem
open PySem.W (dataLt dataLe alike alikeAll minD maxD)
/-! lists -/
theorem cutL_map {α β : Type} (f : α → β) (xs : List α) (lo hi : Option Int) : cutL (xs.map f) lo hi = (cutL xs lo hi).map f := by
  simp [cutL, List.map_take, List.map_drop]
theorem cutL_len {α : Type} (xs : List α) (lo hi : Option Int) : (cutL xs lo hi).length ≤ xs.length := by
  simp [cutL]; omega
theorem cutL_1 {α : Type} (xs : List α) : cutL xs (some 1) none = xs.tail := by
  cases xs with
  | nil => rfl
  | cons x xs => simp [cutL, cutAt]
theorem cutL_to {α : Type} (xs : List α) (i : Int) (hi : 0 ≤ i) : cutL xs none (some i) = xs.take i.toNat := by
  simp only [cutL, cutAt, if_pos hi, List.drop_zero, Nat.sub_zero]
  by_cases h : i.toNat ≤ xs.length
  · rw [Nat.min_eq_left h]
  · rw [Nat.min_eq_right (by omega), List.take_length, List.take_of_length_le (by omega)]
theorem cutL_from {α : Type} (xs : List α) (i : Int) (hi : 0 ≤ i) : cutL xs (some i) none = xs.drop i.toNat := by
  simp only [cutL, cutAt, if_pos hi]
  by_cases h : i.toNat ≤ xs.length
  · rw [Nat.min_eq_left h, List.take_of_length_le]; simp
  · rw [Nat.min_eq_right (by omega)]; simp [List.drop_of_length_le (show xs.length ≤ i.toNat by omega)]
theorem sli_l (xs : List PyData) (lo hi : Option Int) (h : MH) : sliV false (.d (.list xs)) lo hi h = .ok (.d (.list (cutL xs lo hi))) h := by
  show mkl false (cutL (xs.map Vl.d) lo hi) h = _
  rw [cutL_map, mkl_d]
theorem sli_t (xs : List PyData) (lo hi : Option Int) (mk : Bool) (h : MH) : sliV mk (.d (.tuple xs)) lo hi h = .ok (.d (.tuple (cutL xs lo hi))) h := rfl
theorem rngOk_of {a b : Int} (h1 : -1000000 ≤ a) (h2 : a ≤ 1000000) (h3 : -1000000 ≤ b) (h4 : b ≤ 1000000) : rngOk a b = true := by
  unfold rngOk
  have : (b - a).toNat ≤ sz := Nat.le_trans (show _ ≤ 2000000 by omega) (by decide)
  exact decide_eq_true ⟨by omega, by omega, by omega, by omega, this⟩
theorem le_sz {n : Nat} (h : n ≤ 1000000) : n ≤ sz := Nat.le_trans h (by decide)
theorem lt_sz {n : Nat} (h : n ≤ 1000000) : n < sz := Nat.lt_of_le_of_lt h (by decide)
theorem rangeI_one (a b : Int) (h : b = a + 1) : rangeI a b = [a] := by
  have : (b - a).toNat = 1 := by omega
  simp [rangeI, this]
theorem rangeI_snoc (a b : Int) (h : a ≤ b) : rangeI a (b + 1) = rangeI a b ++ [b] := by
  rw [rangeI_split a b (b + 1) h (by omega), rangeI_one b (b + 1) rfl]
theorem rangeI_nil (a b : Int) (h : b ≤ a) : rangeI a b = [] := by
  have : (b - a).toNat = 0 := by omega
  simp [rangeI, this]
theorem rangeI_get {a b : Int} {i : Nat} (h : i < (b - a).toNat) : (rangeI a b)[i]? = some (a + i) := by
  simp [rangeI, List.getElem?_map, List.getElem?_range h]
/-- a loop's walk of a range: what is walked so far is a range -/
theorem range_pre {a b : Int} {pre post : List Int} {x : Int} (h : rangeI a b = pre ++ x :: post) : x = a + pre.length ∧ a ≤ x ∧ x < b ∧ pre = rangeI a x := by
  have hl := congrArg List.length h
  rw [rangeI_len] at hl
  simp at hl
  have hx : (rangeI a b)[pre.length]? = some x := by rw [h]; simp
  rw [rangeI_get (by omega)] at hx
  have hx : a + (pre.length : Int) = x := by simpa using hx
  refine ⟨hx.symm, by omega, by omega, ?_⟩
  rw [rangeI_split a x b (by omega) (by omega)] at h
  have hl2 : (rangeI a x).length = pre.length := by rw [rangeI_len]; omega
  exact (List.append_inj_left h hl2).symm
/-! data -/
theorem take_app (h l : MH) : (h ++ l).take h.length = h := by simp
theorem itemsL_last (h : MH) (xs : List Vl) : itemsL (.r h.length) (h ++ [.lst xs]) = some xs := by simp [itemsL]
theorem items_last (h : MH) (xs : List Vl) : items (.r h.length) (h ++ [.lst xs]) = some xs := by simp [items]
theorem app_last (h : MH) (ds : List PyData) (x : PyData) (hz : ds.length < sz) : metV .append (.r h.length) [.d x] (h ++ [.lst (dmap ds)]) = .ok (.d .none) (h ++ [.lst (dmap (ds ++ [x]))]) := by
  have e : (h ++ [MO.lst (dmap ds)])[h.length]? = some (.lst (dmap ds)) := by simp
  show (match (h ++ [MO.lst (dmap ds)])[h.length]? with
    | some (.lst ys) => if below h.length (Vl.d x) = true ∧ ys.length < sz then Res.ok (Vl.d .none) ((h ++ [MO.lst (dmap ds)]).set h.length (.lst (ys ++ [Vl.d x]))) else .stuck
    | _ => .stuck) = _
  rw [e]
  dsimp only
  rw [if_pos ⟨rfl, by rw [dmap_len]; exact hz⟩]
  simp [dmap]
theorem all_below_d (n : Nat) (ds : List PyData) : (dmap ds).all (below n) = true := by
  rw [List.all_eq_true]
  intro x hx
  obtain ⟨d, _, rfl⟩ := List.mem_map.mp hx
  rfl
theorem ext_last (h : MH) (ds es : List PyData) (hz : ds.length + es.length ≤ sz) : metV .extend (.r h.length) [.d (.list es)] (h ++ [.lst (dmap ds)]) = .ok (.d .none) (h ++ [.lst (dmap (ds ++ es))]) := by
  have e : (h ++ [MO.lst (dmap ds)])[h.length]? = some (.lst (dmap ds)) := by simp
  show (match (h ++ [MO.lst (dmap ds)])[h.length]?, some (dmap es) with
    | some (.lst ys), some zs => if zs.all (below h.length) = true ∧ ys.length + zs.length ≤ sz then Res.ok (Vl.d .none) ((h ++ [MO.lst (dmap ds)]).set h.length (.lst (ys ++ zs))) else .stuck
    | _, _ => .stuck) = _
  rw [e]
  dsimp only
  rw [if_pos ⟨all_below_d _ _, by rw [dmap_len, dmap_len]; exact hz⟩]
  simp [dmap]
theorem frzV_l {i : Nat} {h : MH} {xs : List Vl} {ds : List PyData} (hx : h[i]? = some (.lst xs)) (hd : allD xs = some ds) : frzV (.r i) h = .ok (.d (.list ds)) (h.set i .dead) := by
  unfold frzV
  simp only [hx, hd]
theorem frzV_k {i : Nat} {h : MH} {kvs : List (PyData × PyData)} (hx : h[i]? = some (.dct false kvs)) : frzV (.r i) h = .ok (.d (.dict kvs)) (h.set i .dead) := by
  unfold frzV
  simp only [hx]
theorem frzV_i {i : Nat} {h : MH} {xs : List Vl} {q : List PyData × MH} (hx : h[i]? = some (.lst xs)) (hd : allD xs = none) (hq : frzI xs (h.set i .dead) = some q) : frzV (.r i) h = .ok (.d (.list q.1)) q.2 := by
  unfold frzV
  simp only [hx, hd, hq]
theorem frz_last (h : MH) (ds : List PyData) : frzV (.r h.length) (h ++ [.lst (dmap ds)]) = .ok (.d (.list ds)) (h ++ [.dead]) := by
  have e : (h ++ [MO.lst (dmap ds)])[h.length]? = some (.lst (dmap ds)) := by simp
  rw [frzV_l e (allD_map ds)]
  simp
theorem tuple_last (h : MH) (ds : List PyData) : biV .tuple false [.r h.length] (h ++ [.lst (dmap ds)]) = .ok (.d (.tuple ds)) (h ++ [.lst (dmap ds)]) := by
  have it := items_last h (dmap ds)
  show (match items (.r h.length) (h ++ [MO.lst (dmap ds)]) with | some xs => mkt xs _ | none => .stuck) = _
  rw [it]
  exact mkt_d _ _
theorem app_at (h : MH) (ds : List PyData) (x : PyData) (b : MH) (hz : ds.length < sz) : metV .append (.r h.length) [.d x] (h ++ [.lst (dmap ds)] ++ b) = .ok (.d .none) (h ++ [.lst (dmap (ds ++ [x]))] ++ b) := by
  have e : (h ++ [MO.lst (dmap ds)] ++ b)[h.length]? = some (.lst (dmap ds)) := by simp
  show (match (h ++ [MO.lst (dmap ds)] ++ b)[h.length]? with
    | some (.lst ys) => if below h.length (Vl.d x) = true ∧ ys.length < sz then Res.ok (Vl.d .none) ((h ++ [MO.lst (dmap ds)] ++ b).set h.length (.lst (ys ++ [Vl.d x]))) else .stuck
    | _ => .stuck) = _
  rw [e]
  dsimp only
  rw [if_pos ⟨rfl, by rw [dmap_len]; exact hz⟩]
  simp [dmap]
theorem frz_at (h : MH) (ds : List PyData) (b : MH) : frzV (.r h.length) (h ++ [.lst (dmap ds)] ++ b) = .ok (.d (.list ds)) (h ++ [.dead] ++ b) := by
  have e : (h ++ [MO.lst (dmap ds)] ++ b)[h.length]? = some (.lst (dmap ds)) := by simp
  rw [frzV_l e (allD_map ds)]
  simp
theorem items_at (h : MH) (xs : List Vl) (b : MH) : items (.r h.length) (h ++ [.lst xs] ++ b) = some xs := by simp [items]
theorem itemsL_at (h : MH) (xs : List Vl) (b : MH) : itemsL (.r h.length) (h ++ [.lst xs] ++ b) = some xs := by simp [itemsL]
theorem tuple_at (h : MH) (ds : List PyData) (b : MH) : biV .tuple false [.r h.length] (h ++ [.lst (dmap ds)] ++ b) = .ok (.d (.tuple ds)) (h ++ [.lst (dmap ds)] ++ b) := by
  have it := items_at h (dmap ds) b
  show (match items (.r h.length) (h ++ [MO.lst (dmap ds)] ++ b) with | some xs => mkt xs _ | none => .stuck) = _
  rw [it]
  exact mkt_d _ _
/-! min, max, sorted -/
theorem okN_int (n : Nat) (i : Int) : okN n (.int i) = true := by cases n <;> rfl
theorem okN_ints (n : Nat) (a : List Int) : (a.map PyData.int).all (okN n) = true := by
  rw [List.all_eq_true]
  intro x hx
  obtain ⟨i, _, rfl⟩ := List.mem_map.mp hx
  exact okN_int n i
theorem okN_map {α : Type} (n : Nat) (e : α → PyData) (xs : List α) (h1 : ∀ a, okN n (e a) = true) : (xs.map e).all (okN n) = true := by
  rw [List.all_eq_true]
  intro y hy
  obtain ⟨a, _, rfl⟩ := List.mem_map.mp hy
  exact h1 a
theorem alike_ints : ∀ a b : List Int, alikeAll (a.map .int) (b.map .int) = true
  | [], b => by cases b <;> rfl
  | x :: a, [] => rfl
  | x :: a, y :: b => by
    show (alike (.int x) (.int y) && alikeAll (a.map .int) (b.map .int)) = true
    rw [alike_ints a b]; rfl
theorem alike_all {α : Type} (e : α → PyData) (h1 : ∀ a b, alike (e a) (e b) = true) : ∀ a b : List α, alikeAll (a.map e) (b.map e) = true
  | [], b => by cases b <;> rfl
  | x :: a, [] => rfl
  | x :: a, y :: b => by
    show (alike (e x) (e y) && alikeAll (a.map e) (b.map e)) = true
    rw [alike_all e h1 a b, h1]; rfl
theorem alikeB_map {α : Type} (e : α → PyData) (xs : List α) (h1 : ∀ a b, alike (e a) (e b) = true) (h2 : ∀ a, isNoneD (e a) = false) : alikeB (xs.map e) = true := by
  unfold alikeB
  simp only [Bool.and_eq_true, List.all_eq_true, List.mem_map]
  refine ⟨?_, ?_⟩
  · rintro _ ⟨a, _, rfl⟩ _ ⟨b, _, rfl⟩; exact h1 a b
  · rintro _ ⟨a, _, rfl⟩; simp [h2]
theorem contS_l (xs : List PyData) (h : MH) : contS (.d (.list xs)) h = some xs := rfl
theorem contS_t (xs : List PyData) (h : MH) : contS (.d (.tuple xs)) h = some xs := rfl
/-- the greatest, the least of data -/
theorem b_max_v {α : Type} (e : α → PyData) (v : Vl) (x : α) (xs : List α) (mk : Bool) (h : MH) (hv : contS v h = some ((x :: xs).map e)) (h1 : ∀ a b, alike (e a) (e b) = true) (h2 : ∀ a, isNoneD (e a) = false) (h3 : ∀ a, okN 39 (e a) = true) : biV .max mk [v] h = .ok (.d (maxD (e x) (xs.map e))) h := by
  show (match contS v h with
    | some (y :: ys) => if (alikeB (y :: ys) && okN 40 (.tuple (y :: ys))) = true then Res.ok (Vl.d (maxD y ys)) h else .stuck
    | _ => .stuck) = _
  rw [hv, List.map_cons]
  dsimp only
  rw [← List.map_cons (f := e), alikeB_map e _ h1 h2, show okN 40 (.tuple ((x :: xs).map e)) = true from okN_map 39 e _ h3]
  rfl
theorem b_min_v {α : Type} (e : α → PyData) (v : Vl) (x : α) (xs : List α) (mk : Bool) (h : MH) (hv : contS v h = some ((x :: xs).map e)) (h1 : ∀ a b, alike (e a) (e b) = true) (h2 : ∀ a, isNoneD (e a) = false) (h3 : ∀ a, okN 39 (e a) = true) : biV .min mk [v] h = .ok (.d (minD (e x) (xs.map e))) h := by
  show (match contS v h with
    | some (y :: ys) => if (alikeB (y :: ys) && okN 40 (.tuple (y :: ys))) = true then Res.ok (Vl.d (minD y ys)) h else .stuck
    | _ => .stuck) = _
  rw [hv, List.map_cons]
  dsimp only
  rw [← List.map_cons (f := e), alikeB_map e _ h1 h2, show okN 40 (.tuple ((x :: xs).map e)) = true from okN_map 39 e _ h3]
  rfl
def minI : List Int → Int
  | [] => 0
  | x :: xs => xs.foldl min x
def maxI : List Int → Int
  | [] => 0
  | x :: xs => xs.foldl max x
theorem b_min_ints (v : Vl) (xs : List Int) (mk : Bool) (h : MH) (hv : contS v h = some (xs.map .int)) (hx : xs ≠ []) : biV .min mk [v] h = .ok (.d (.int (minI xs))) h := by
  cases xs with
  | nil => exact absurd rfl hx
  | cons x xs =>
    rw [b_min_v .int v x xs mk h hv (fun _ _ => rfl) (fun _ => rfl) (fun _ => rfl), PySem.W.minD_ints]; rfl
theorem b_max_ints (v : Vl) (xs : List Int) (mk : Bool) (h : MH) (hv : contS v h = some (xs.map .int)) (hx : xs ≠ []) : biV .max mk [v] h = .ok (.d (.int (maxI xs))) h := by
  cases xs with
  | nil => exact absurd rfl hx
  | cons x xs =>
    rw [b_max_v .int v x xs mk h hv (fun _ _ => rfl) (fun _ => rfl) (fun _ => rfl), PySem.W.maxD_ints]; rfl
theorem fmin_facts : ∀ (xs : List Int) (a : Int), (xs.foldl min a = a ∨ xs.foldl min a ∈ xs) ∧ xs.foldl min a ≤ a ∧ ∀ x ∈ xs, xs.foldl min a ≤ x
  | [], a => by simp
  | y :: ys, a => by
    obtain ⟨h1, h2, h3⟩ := fmin_facts ys (min a y)
    simp only [List.foldl_cons, List.mem_cons]
    refine ⟨?_, by omega, fun x hx => ?_⟩
    · rcases h1 with h1 | h1
      · rw [h1]; by_cases h : a ≤ y
        · left; omega
        · right; left; omega
      · right; right; exact h1
    · rcases hx with rfl | hx
      · omega
      · exact h3 x hx
theorem fmax_facts : ∀ (xs : List Int) (a : Int), (xs.foldl max a = a ∨ xs.foldl max a ∈ xs) ∧ a ≤ xs.foldl max a ∧ ∀ x ∈ xs, x ≤ xs.foldl max a
  | [], a => by simp
  | y :: ys, a => by
    obtain ⟨h1, h2, h3⟩ := fmax_facts ys (max a y)
    simp only [List.foldl_cons, List.mem_cons]
    refine ⟨?_, by omega, fun x hx => ?_⟩
    · rcases h1 with h1 | h1
      · rw [h1]; by_cases h : y ≤ a
        · left; omega
        · right; left; omega
      · right; right; exact h1
    · rcases hx with rfl | hx
      · omega
      · exact h3 x hx
theorem minI_mem {xs : List Int} (h : xs ≠ []) : minI xs ∈ xs ∧ ∀ x ∈ xs, minI xs ≤ x := by
  cases xs with
  | nil => exact absurd rfl h
  | cons x xs =>
    obtain ⟨h1, h2, h3⟩ := fmin_facts xs x
    refine ⟨?_, fun y hy => ?_⟩
    · show xs.foldl min x ∈ x :: xs
      rcases h1 with h1 | h1
      · rw [h1]; exact List.mem_cons_self
      · exact List.mem_cons_of_mem _ h1
    · rcases List.mem_cons.mp hy with rfl | hy
      · exact h2
      · exact h3 y hy
theorem maxI_mem {xs : List Int} (h : xs ≠ []) : maxI xs ∈ xs ∧ ∀ x ∈ xs, x ≤ maxI xs := by
  cases xs with
  | nil => exact absurd rfl h
  | cons x xs =>
    obtain ⟨h1, h2, h3⟩ := fmax_facts xs x
    refine ⟨?_, fun y hy => ?_⟩
    · show xs.foldl max x ∈ x :: xs
      rcases h1 with h1 | h1
      · rw [h1]; exact List.mem_cons_self
      · exact List.mem_cons_of_mem _ h1
    · rcases List.mem_cons.mp hy with rfl | hy
      · exact h2
      · exact h3 y hy
def sortI (l : List Int) : List Int := l.mergeSort fun a b => decide (a ≤ b)
theorem sortI_len (l : List Int) : (sortI l).length = l.length := List.length_mergeSort ..
theorem sortI_perm (l : List Int) : (sortI l).Perm l := List.mergeSort_perm ..
theorem sortI_pw (l : List Int) : (sortI l).Pairwise (· ≤ ·) := by
  have := List.pairwise_mergeSort (le := fun a b : Int => decide (a ≤ b)) (fun a b c h1 h2 => by simp at *; omega) (fun a b => by simp; omega) l
  exact this.imp fun h => by simpa using h
theorem pw_perm_eq : ∀ {a b : List Int}, a.Pairwise (· ≤ ·) → b.Pairwise (· ≤ ·) → a.Perm b → a = b := fun ha hb h =>
  h.eq_of_pairwise (fun x y _ _ h1 h2 => by omega) ha hb
theorem sortI_congr {a b : List Int} (h : a.Perm b) : sortI a = sortI b :=
  pw_perm_eq (sortI_pw a) (sortI_pw b) ((sortI_perm a).trans (h.trans (sortI_perm b).symm))
theorem mem_sortI {l : List Int} {x : Int} : x ∈ sortI l ↔ x ∈ l := (sortI_perm l).mem_iff
theorem sort_data {α : Type} (e : α → PyData) (xs : List α) : (xs.map e).mergeSort (dataLe false id) = (xs.mergeSort fun a b => dataLe false id (e a) (e b)).map e := by
  rw [List.map_mergeSort]
  intro a _ b _; rfl
theorem sort_ints (xs : List Int) : (xs.map PyData.int).mergeSort (dataLe false id) = (sortI xs).map .int := by
  have e : (fun a b : Int => dataLe false id (PyData.int a) (PyData.int b)) = fun a b => decide (a ≤ b) := by
    funext a b
    exact congrFun (congrFun (PySem.W.dataLe_int (id : Int → Int)) a) b
  rw [sort_data, e]; rfl
theorem sortable_o {α : Type} (e : α → PyData) (xs : List α) (h1 : ∀ a b, alike (e a) (e b) = true) (h2 : ∀ a, (match e a with | .tuple (_ :: _) => true | _ => false) = true) : sortableB (xs.map e) = true := by
  unfold sortableB
  rw [Bool.or_eq_true]
  left
  simp only [Bool.and_eq_true, List.all_eq_true, List.mem_map]
  refine ⟨?_, ?_⟩
  · rintro _ ⟨a, _, rfl⟩ _ ⟨b, _, rfl⟩; exact h1 a b
  · rintro _ ⟨a, _, rfl⟩; exact h2 a
theorem sortable_ints (xs : List Int) : sortableB (xs.map .int) = true := by
  unfold sortableB
  rw [Bool.or_eq_true]
  right
  simp only [Bool.and_eq_true, List.all_eq_true, List.mem_map]
  refine ⟨?_, ?_⟩
  · rintro _ ⟨a, _, rfl⟩ _ ⟨b, _, rfl⟩; rfl
  · rintro _ ⟨a, _, rfl⟩; rfl
theorem b_sorted_v {α : Type} (e : α → PyData) (v : Vl) (xs : List α) (mk : Bool) (h : MH) (hv : contS v h = some (xs.map e)) (hs : sortableB (xs.map e) = true) (h3 : ∀ a, okN 39 (e a) = true) (hz : xs.length ≤ sz) :
    biV .sorted mk [v] h = mkl mk (((xs.mergeSort fun a b => dataLe false id (e a) (e b)).map e).map .d) h := by
  show (match contS v h with
    | some xs => if ((sortableB xs || sortTB xs) && okN 40 (.tuple xs) && decide (xs.length ≤ sz)) = true then mkl mk ((xs.mergeSort (PySem.W.dataLe false id)).map .d) h
      else if (decide (xs.length ≤ 1) && (contL v h).isSome) = true then mkl mk (xs.map .d) h else .stuck
    | none => .stuck) = _
  rw [hv]
  dsimp only
  rw [hs, show okN 40 (.tuple (xs.map e)) = true from okN_map 39 e _ h3, List.length_map, decide_eq_true hz, sort_data]
  rfl
/-- .. of tuples, any of which may be empty -/
theorem b_sorted_t {α : Type} (e : α → PyData) (v : Vl) (xs : List α) (mk : Bool) (h : MH) (hv : contS v h = some (xs.map e)) (h1 : ∀ a b, alike (e a) (e b) = true) (h2 : ∀ a, ∃ ys, e a = .tuple ys) (h3 : ∀ a, okN 39 (e a) = true) (hz : xs.length ≤ sz) :
    biV .sorted mk [v] h = mkl mk (((xs.mergeSort fun a b => dataLe false id (e a) (e b)).map e).map .d) h := by
  have hs : sortTB (xs.map e) = true := by
    unfold sortTB
    simp only [Bool.and_eq_true, List.all_eq_true, List.mem_map]
    refine ⟨?_, ?_⟩
    · rintro _ ⟨a, _, rfl⟩ _ ⟨b, _, rfl⟩; exact h1 a b
    · rintro _ ⟨a, _, rfl⟩
      obtain ⟨ys, e⟩ := h2 a
      rw [e]
  show (match contS v h with
    | some xs => if ((sortableB xs || sortTB xs) && okN 40 (.tuple xs) && decide (xs.length ≤ sz)) = true then mkl mk ((xs.mergeSort (PySem.W.dataLe false id)).map .d) h
      else if (decide (xs.length ≤ 1) && (contL v h).isSome) = true then mkl mk (xs.map .d) h else .stuck
    | none => .stuck) = _
  rw [hv]
  dsimp only
  rw [hs, Bool.or_true, show okN 40 (.tuple (xs.map e)) = true from okN_map 39 e _ h3, List.length_map, decide_eq_true hz, sort_data]
  rfl
theorem b_sorted_ints (v : Vl) (xs : List Int) (mk : Bool) (h : MH) (hv : contS v h = some (xs.map .int)) (hz : xs.length ≤ sz) : biV .sorted mk [v] h = mkl mk (((sortI xs).map .int).map .d) h := by
  rw [b_sorted_v .int v xs mk h hv (sortable_ints xs) (fun i => okN_int 39 i) hz, ← sort_data, sort_ints]
/-! equality of data that are ints -/
theorem eqvAll_ints : ∀ a b : List Int, PyData.eqvAll (a.map .int) (b.map .int) = decide (a = b)
  | [], [] => by simp [PyData.eqvAll]
  | [], y :: b => by simp [PyData.eqvAll]
  | x :: a, [] => by simp [PyData.eqvAll]
  | x :: a, y :: b => by
    rw [List.map_cons, List.map_cons, PySem.W.eqv_all_cons, eqvAll_ints a b]
    by_cases h : x = y <;> by_cases h2 : a = b <;> simp [PyData.eqv, h, h2]
theorem cmp_eq_d (a b : PyData) (h : MH) (ha : okN 40 a = true) (hb : okN 40 b = true) (hn : ∀ i j, a = .int i → b = .int j → False) : cmpV .eq (.d a) (.d b) h = some (PyData.eqv a b) := by
  have key : (match cont (.d a) h, cont (.d b) h with | some a, some b => cmpD .eq a b | _, _ => none) = some (PyData.eqv a b) := by
    show (if (okN 40 a && okN 40 b) = true then some (PyData.eqv a b) else none) = _
    rw [ha, hb]; rfl
  cases a <;> cases b <;> first | exact key | exact (hn _ _ rfl rfl).elim
theorem cmp_eq_tt (a b : List Int) (h : MH) : cmpV .eq (.d (.tuple (a.map .int))) (.d (.tuple (b.map .int))) h = some (decide (a = b)) := by
  rw [cmp_eq_d (.tuple (a.map .int)) (.tuple (b.map .int)) h (okN_ints 39 a) (okN_ints 39 b) (fun _ _ h => by cases h)]
  show some (PyData.eqvAll _ _) = _
  rw [eqvAll_ints]
theorem cmp_eq_ll (a b : List Int) (h : MH) : cmpV .eq (.d (.list (a.map .int))) (.d (.list (b.map .int))) h = some (decide (a = b)) := by
  rw [cmp_eq_d (.list (a.map .int)) (.list (b.map .int)) h (okN_ints 39 a) (okN_ints 39 b) (fun _ _ h => by cases h)]
  show some (PyData.eqvAll _ _) = _
  rw [eqvAll_ints]
theorem anyEqv_ints (xs : List Int) (a : Int) : anyEqv (xs.map .int) (.int a) = decide (a ∈ xs) := by
  unfold anyEqv
  rw [List.any_map]
  induction xs with
  | nil => simp
  | cons x xs ih =>
    rw [List.any_cons, ih]
    by_cases h : x = a
    · subst h; simp [PyData.eqv]
    · have h' : ¬ a = x := fun e => h e.symm
      simp [PyData.eqv, h, h']
theorem cmp_in_v (v : Vl) (xs : List Int) (a : Int) (h : MH) (hv : contS v h = some (xs.map .int)) : cmpV .in_ (.d (.int a)) v h = some (decide (a ∈ xs)) := by
  show (match cont (.d (.int a)) h, contS v h with
    | some b, some ys => if (okN 40 b && okN 40 (.tuple ys)) = true then some (anyEqv ys b) else inT (.d (.int a)) ys
    | _, _ => none) = _
  rw [hv]
  show (if (okN 40 (.int a) && okN 40 (.tuple (xs.map .int))) = true then some (anyEqv (xs.map .int) (.int a)) else inT (.d (.int a)) (xs.map .int)) = _
  rw [show okN 40 (.tuple (xs.map .int)) = true from okN_ints 39 xs, anyEqv_ints]
  rfl
theorem cmp_notin_v (v : Vl) (xs : List Int) (a : Int) (h : MH) (hv : contS v h = some (xs.map .int)) : cmpV .notin (.d (.int a)) v h = some (!decide (a ∈ xs)) := by
  show (match cont (.d (.int a)) h, contS v h with
    | some b, some ys => if (okN 40 b && okN 40 (.tuple ys)) = true then some (!anyEqv ys b) else (inT (.d (.int a)) ys).map (!·)
    | _, _ => none) = _
  rw [hv]
  show (if (okN 40 (.int a) && okN 40 (.tuple (xs.map .int))) = true then some (!anyEqv (xs.map .int) (.int a)) else (inT (.d (.int a)) (xs.map .int)).map (!·)) = _
  rw [show okN 40 (.tuple (xs.map .int)) = true from okN_ints 39 xs, anyEqv_ints]
  rfl
/-- an item of a sequence of data -/
theorem idx_d {α : Type} (e : α → PyData) (v : Vl) (xs : List α) (i : Int) (x : α) (h : MH) (hv : items v h = some (dmap (xs.map e))) (h0 : 0 ≤ i) (hx : xs[i.toNat]? = some x) : idxV v (.d (.int i)) h = some (.d (e x)) := by
  have hl : i.toNat < xs.length := (List.getElem?_eq_some_iff.mp hx).1
  show (match items v h with
    | some xs => (match ixOf i xs.length with
      | some k => xs[k]?
      | none => none)
    | none => none) = _
  rw [hv]
  dsimp only
  have hi : ixOf i (dmap (xs.map e)).length = some i.toNat := by
    unfold ixOf
    rw [if_pos h0, if_pos (by rw [dmap_len, List.length_map]; omega)]
  rw [hi]
  simp [dmap, hx]
theorem items_l (xs : List PyData) (h : MH) : items (.d (.list xs)) h = some (dmap xs) := rfl
theorem items_t (xs : List PyData) (h : MH) : items (.d (.tuple xs)) h = some (dmap xs) := rfl
/-! _law_is's data -/
theorem okS_list {α : Type} (e : α → PyData) (xs : List α) (k : Nat) (hz : xs.length ≤ sz) (h : ∀ x ∈ xs, okS k (e x) = true) : okS (k + 1) (.list (xs.map e)) = true := by
  show (decide ((xs.map e).length ≤ sz) && (xs.map e).all (okS k)) = true
  rw [List.length_map, decide_eq_true hz, Bool.true_and, List.all_eq_true]
  intro y hy
  obtain ⟨x, hx, rfl⟩ := List.mem_map.mp hy
  exact h x hx
theorem okS_tuple {α : Type} (e : α → PyData) (xs : List α) (k : Nat) (hz : xs.length ≤ sz) (h : ∀ x ∈ xs, okS k (e x) = true) : okS (k + 1) (.tuple (xs.map e)) = true := okS_list e xs k hz h
theorem okS_int (k : Nat) (i : Int) : okS k (.int i) = true := by cases k <;> rfl
theorem okS_ints (k : Nat) (xs : List Int) (hz : xs.length ≤ sz) : okS (k + 1) (.tuple (xs.map .int)) = true := okS_tuple .int xs k hz fun x _ => okS_int k x
/-! a hand at the head of the heap -/
def HandO (o : MO) : Prop := Hand [o] 0
theorem HandO.cons {o : MO} (hh : HandO o) (l : MH) : Hand (o :: l) 0 := by
  obtain ⟨cells, a, b, c, e, hj, r⟩ := hh
  exact ⟨cells, a, b, c, e, hj, r⟩
theorem HandO.of {o : MO} {l : MH} (hh : Hand (o :: l) 0) : HandO o := by
  obtain ⟨cells, a, b, c, e, hj, r⟩ := hh
  exact ⟨cells, a, b, c, e, hj, r⟩
section
variable {T : Str → Option Fn} {gc : Str → Option PyData} {F : Nat}
theorem draw_c (hT : T "_law_draw" = some F_law_draw) {n : Nat} {o : MO} {l : MH} {m : Int} (hh : HandO o) (hm : 1 ≤ m) (hm2 : m < 1073741824) :
    ∃ (r : Int) (o' : MO), run T gc F (n + 1) "_law_draw" [.r 0, .d (.int m)] (o :: l) = .ok (.d (.int r)) (o' :: l) ∧ 0 ≤ r ∧ r < m ∧ HandO o' := by
  obtain ⟨r, o', e, h1, h2, h3⟩ := draw_ok (gc := gc) (F := F) hT (n := n) (hh.cons l) hm hm2
  exact ⟨r, o', e, h1, h2, .of h3⟩
theorem some_c (hT : T "_law_draw" = some F_law_draw) (hT2 : T "_law_some" = some F_law_some) {n : Nat} {o : MO} {l : MH} {xs : List PyData} (hh : HandO o) (hx : xs ≠ []) (hz : xs.length ≤ sz) :
    ∃ (x : PyData) (o' : MO), x ∈ xs ∧ run T gc F (n + 2) "_law_some" [.r 0, .d (.list xs)] (o :: l) = .ok (.d x) (o' :: l) ∧ HandO o' := by
  obtain ⟨x, o', h1, e, h3⟩ := some_l (gc := gc) (F := F) hT hT2 (n := n) (hh.cons l) hx hz
  exact ⟨x, o', h1, e, .of h3⟩
theorem hand_c (hT : T "_law_hand" = some F_law_hand) {n : Nat} {ns : List Int} (hn : ns.length ≤ 63) : ∃ o, run T gc F (n + 1) "_law_hand" [.sc ns] [] = .ok (.r 0) [o] ∧ HandO o := by
  obtain ⟨o, e, h⟩ := hand_ok (gc := gc) (F := F) hT (n := n) (h := []) hn
  exact ⟨o, e, h⟩
end
/-- a comprehension that draws -/
theorem lc_hand {α β : Type} {F : Nat} {f : Vl → MH → Res (Option Vl)} {xs : List α} {e : α → PyData} (e' : β → PyData) (Q : β → Prop) {l : MH} (hz : xs.length ≤ sz)
    (hf : ∀ x ∈ xs, ∀ o, HandO o → ∃ b o', f (.d (e x)) (o :: l) = .ok (some (.d (e' b))) (o' :: l) ∧ HandO o' ∧ Q b) {o : MO} (hh : HandO o) :
    ∃ (bs : List β) (o' : MO), (lcS F f (.l (dmap (xs.map e))) (o :: l)).calm.bind (fun rs h5 => (mkl false rs h5).calm) = .ok (.d (.list (bs.map e'))) (o' :: l) ∧ HandO o' ∧ bs.length = xs.length ∧ ∀ b ∈ bs, Q b := by
  have key : ∀ o, HandO o → ∃ (bs : List β) (o' : MO), lcL f (dmap (xs.map e)) (o :: l) = .ok ((bs.map e').map .d) (o' :: l) ∧ HandO o' ∧ bs.length = xs.length ∧ ∀ b ∈ bs, Q b := by
    clear hz hh o
    induction xs with
    | nil => exact fun o hh => ⟨[], o, rfl, hh, rfl, by simp⟩
    | cons x xs ih =>
      intro o hh
      obtain ⟨b, o1, e1, hh1, q1⟩ := hf x List.mem_cons_self o hh
      obtain ⟨bs, o2, e2, hh2, hl, q2⟩ := ih (fun y hy => hf y (List.mem_cons_of_mem _ hy)) o1 hh1
      refine ⟨b :: bs, o2, ?_, hh2, by simp [hl], fun c hc => ?_⟩
      · show ((f (.d (e x)) (o :: l)).bind fun r h1 => (lcL f (dmap (xs.map e)) h1).bind fun rs h2 => .ok (r.toList ++ rs) h2) = _
        rw [e1, Res.bind_ok, e2]; rfl
      · rcases List.mem_cons.mp hc with rfl | hc
        · exact q1
        · exact q2 c hc
  obtain ⟨bs, o', ek, hh', hl, q⟩ := key o hh
  refine ⟨bs, o', ?_, hh', hl, q⟩
  show (Res.bind (Res.calm (if (dmap (xs.map e)).length ≤ sz then lcL f (dmap (xs.map e)) (o :: l) else .stuck)) _) = _
  rw [dmap_len, List.length_map, if_pos hz, ek]
  show (mkl false _ (o' :: l)).calm = _
  rw [mkl_d]; rfl
/-- a loop that may return at a turn: at the first x of which p holds; else I goes on -/
theorem forL_ret {α : Type} {t : Tg} {b : Env → MH → Res Fl} {e : α → PyData} (p : α → Bool) (v : α → PyData) (I : Env → Prop) {h : MH} : ∀ (xs : List α) (σ : Env), I σ →
    (∀ x ∈ xs, ∀ σ, I σ → ∃ σ1, putT t (.d (e x)) σ = some σ1 ∧ (if p x = true then b σ1 h = .ok (.rt (.d (v x))) h else ∃ σ2, b σ1 h = .ok (.nx σ2) h ∧ I σ2)) →
    (match xs.find? p with
      | some x => forL t b (dmap (xs.map e)) σ h = .ok (.rt (.d (v x))) h
      | none => ∃ σ2, forL t b (dmap (xs.map e)) σ h = .ok (.nx σ2) h ∧ I σ2)
  | [], σ, i, _ => ⟨σ, rfl, i⟩
  | x :: xs, σ, i, hs => by
    obtain ⟨σ1, e1, hb⟩ := hs x List.mem_cons_self σ i
    have eq : forL t b (dmap ((x :: xs).map e)) σ h = (match putT t (.d (e x)) σ with
      | some σ1 => (b σ1 h).bind fun f h2 => (match f with
        | .nx σ2 => forL t b (dmap (xs.map e)) σ2 h2
        | .ct σ2 => forL t b (dmap (xs.map e)) σ2 h2
        | .bk σ2 => .ok (.nx σ2) h2
        | .rt v => .ok (.rt v) h2)
      | none => .stuck) := rfl
    rw [eq, e1]
    rw [List.find?_cons]
    by_cases hp : p x = true
    · rw [if_pos hp] at hb
      rw [hp]
      dsimp only
      rw [hb]; rfl
    · rw [if_neg hp] at hb
      obtain ⟨σ2, e2, i2⟩ := hb
      rw [eq_false_of_ne_true hp]
      dsimp only
      rw [e2]
      exact forL_ret p v I xs σ2 i2 fun y hy => hs y (List.mem_cons_of_mem _ hy)
end Ev

set_option Elab.async false
set_option linter.all false
set_option autoImplicit false
set_option maxRecDepth 100000
set_option maxHeartbeats 8000000
namespace Ev
open PySem
/-! lowest terms -/
def low (t : Int) (b : Nat) : Int × Int := (t.fdiv (Int.gcd t b), (b : Int).fdiv (Int.gcd t b))
def Red (p : Int × Int) : Prop := 0 < p.2 ∧ Int.gcd p.1 p.2 = 1
theorem low_spec (t : Int) (b : Nat) (hb : 0 < b) : ∃ g : Int, 0 < g ∧ t = g * (low t b).1 ∧ (b : Int) = g * (low t b).2 ∧ Int.gcd (low t b).1 (low t b).2 = 1 := by
  have h0 : 0 < Int.gcd t b := Int.gcd_pos_of_ne_zero_right t (by omega)
  have e1 : t.fdiv (Int.gcd t b) = t / (Int.gcd t b) := Int.fdiv_eq_ediv_of_nonneg _ (by omega)
  have e2 : (b : Int).fdiv (Int.gcd t b) = b / (Int.gcd t b) := Int.fdiv_eq_ediv_of_nonneg _ (by omega)
  refine ⟨Int.gcd t b, by omega, ?_, ?_, ?_⟩
  · show t = Int.gcd t b * t.fdiv (Int.gcd t b)
    rw [e1, Int.mul_ediv_cancel' (Int.gcd_dvd_left ..)]
  · show (b : Int) = Int.gcd t b * (b : Int).fdiv (Int.gcd t b)
    rw [e2, Int.mul_ediv_cancel' (Int.gcd_dvd_right ..)]
  · show Int.gcd (t.fdiv (Int.gcd t b)) ((b : Int).fdiv (Int.gcd t b)) = 1
    rw [e1, e2, Int.gcd_ediv_gcd_ediv_gcd h0]
theorem low_red (t : Int) (b : Nat) (hb : 0 < b) : Red (low t b) := by
  obtain ⟨g, g0, _, h2, h3⟩ := low_spec t b hb
  refine ⟨?_, h3⟩
  have hpos : 0 < g * (low t b).2 := by rw [← h2]; omega
  exact Int.pos_of_mul_pos_right hpos g0
/-- the same number -/
def Same (p q : Int × Int) : Prop := p.1 * q.2 = q.1 * p.2
theorem low_same (t : Int) (b : Nat) (hb : 0 < b) : Same (low t b) (t, b) := by
  obtain ⟨g, g0, h1, h2, _⟩ := low_spec t b hb
  unfold Same
  show (low t b).1 * b = t * (low t b).2
  generalize (low t b).1 = x at *
  generalize (low t b).2 = y at *
  rw [h1, h2]; grind
theorem Same.symm {p q : Int × Int} (h : Same p q) : Same q p := Eq.symm h
theorem Same.trans {p q r : Int × Int} (h : Same p q) (h2 : Same q r) (hq : 0 < q.2) : Same p r := by
  unfold Same at *
  refine Int.eq_of_mul_eq_mul_right (a := q.2) (by omega) ?_
  have : p.1 * r.2 * q.2 = p.1 * q.2 * r.2 := by grind
  rw [this, h]
  have : q.1 * p.2 * r.2 = q.1 * r.2 * p.2 := by grind
  rw [this, h2]; grind
theorem red_dvd {p q : Int × Int} (hp : Red p) (h : Same p q) : p.2 ∣ q.2 := by
  have h1 : p.2 ∣ p.1 * q.2 := by
    unfold Same at h
    rw [h]; exact Int.dvd_mul_left _ _
  have h2 := Int.natAbs_dvd_natAbs.mpr h1
  rw [Int.natAbs_mul] at h2
  have h3 : Nat.Coprime p.2.natAbs p.1.natAbs := by
    rw [Nat.coprime_comm]; exact hp.2
  exact Int.natAbs_dvd_natAbs.mp (h3.dvd_of_dvd_mul_left h2)
theorem red_eq {p q : Int × Int} (hp : Red p) (hq : Red q) (h : Same p q) : p = q := by
  have h1 := red_dvd hp h
  have h2 := red_dvd hq h.symm
  have e : p.2 = q.2 := Int.dvd_antisymm (Int.le_of_lt hp.1) (Int.le_of_lt hq.1) h1 h2
  have e1 : p.1 = q.1 := by
    unfold Same at h
    rw [e] at h
    exact Int.eq_of_mul_eq_mul_right (by have := hq.1; omega) h
  exact Prod.ext e1 e
theorem low_eq {t : Int} {b : Nat} {p : Int × Int} (hb : 0 < b) (hp : Red p) (h : Same p (t, b)) : low t b = p :=
  red_eq (low_red t b hb) hp ((low_same t b hb).trans h.symm (by show (0 : Int) < b; omega))
theorem low_self {p : Int × Int} (hp : Red p) : low p.1 p.2.toNat = p := by
  have := hp.1
  refine low_eq (by omega) hp ?_
  show p.1 * (p.2.toNat : Int) = p.1 * p.2
  rw [Int.toNat_of_nonneg (by omega)]
/-! sums, products -/
def plusF (p q : Int × Int) : Int × Int := low (p.1 * q.2 + q.1 * p.2) (p.2 * q.2).toNat
def timesF (p q : Int × Int) : Int × Int := low (p.1 * q.1) (p.2 * q.2).toNat
def lessF (p q : Int × Int) : Bool := decide (p.1 * q.2 < q.1 * p.2)
def negF (p : Int × Int) : Int × Int := (0 - p.1, p.2)
theorem plus_red {p q : Int × Int} (hp : 0 < p.2) (hq : 0 < q.2) : Red (plusF p q) ∧ Same (plusF p q) (p.1 * q.2 + q.1 * p.2, p.2 * q.2) := by
  have h := Int.mul_pos hp hq
  have e : ((p.2 * q.2).toNat : Int) = p.2 * q.2 := Int.toNat_of_nonneg (by omega)
  have s := low_same (p.1 * q.2 + q.1 * p.2) (p.2 * q.2).toNat (by omega)
  rw [e] at s
  exact ⟨low_red _ _ (by omega), s⟩
theorem times_red {p q : Int × Int} (hp : 0 < p.2) (hq : 0 < q.2) : Red (timesF p q) ∧ Same (timesF p q) (p.1 * q.1, p.2 * q.2) := by
  have h := Int.mul_pos hp hq
  have e : ((p.2 * q.2).toNat : Int) = p.2 * q.2 := Int.toNat_of_nonneg (by omega)
  have s := low_same (p.1 * q.1) (p.2 * q.2).toNat (by omega)
  rw [e] at s
  exact ⟨low_red _ _ (by omega), s⟩
/-- not in lowest terms -/
def addU (p q : Int × Int) : Int × Int := (p.1 * q.2 + q.1 * p.2, p.2 * q.2)
theorem addU_same {p p' q : Int × Int} (h : Same p p') : Same (addU p q) (addU p' q) := by
  unfold Same addU at *
  show (p.1 * q.2 + q.1 * p.2) * (p'.2 * q.2) = (p'.1 * q.2 + q.1 * p'.2) * (p.2 * q.2)
  generalize p.1 = a at *
  generalize p.2 = b at *
  generalize p'.1 = c at *
  generalize p'.2 = d at *
  generalize q.1 = e at *
  generalize q.2 = f at *
  grind
theorem addU_comm (p q r : Int × Int) : addU (addU p q) r = addU (addU p r) q := by
  unfold addU
  refine Prod.ext ?_ ?_
  · show (p.1 * q.2 + q.1 * p.2) * r.2 + r.1 * (p.2 * q.2) = (p.1 * r.2 + r.1 * p.2) * q.2 + q.1 * (p.2 * r.2)
    grind
  · show p.2 * q.2 * r.2 = p.2 * r.2 * q.2
    grind
theorem addU_pos {p q : Int × Int} (hp : 0 < p.2) (hq : 0 < q.2) : 0 < (addU p q).2 := Int.mul_pos hp hq
def sumF (xs : List (Int × Int)) : Int × Int := xs.foldl plusF (0, 1)
def sumU (xs : List (Int × Int)) : Int × Int := xs.foldl addU (0, 1)
theorem red_zero : Red (0, 1) := ⟨by decide, by decide⟩
theorem sum_fold : ∀ (xs : List (Int × Int)) (p u : Int × Int), (∀ x ∈ xs, 0 < x.2) → Red p → Same p u → 0 < u.2 → Red (xs.foldl plusF p) ∧ Same (xs.foldl plusF p) (xs.foldl addU u) ∧ 0 < (xs.foldl addU u).2
  | [], p, u, _, hp, hs, hu => ⟨hp, hs, hu⟩
  | x :: xs, p, u, hx, hp, hs, hu => by
    have h0 := hx x List.mem_cons_self
    obtain ⟨r, s⟩ := plus_red (p := p) (q := x) hp.1 h0
    have s2 : Same (plusF p x) (addU u x) := s.trans (addU_same hs) (addU_pos hp.1 h0)
    exact sum_fold xs (plusF p x) (addU u x) (fun y hy => hx y (List.mem_cons_of_mem _ hy)) r s2 (addU_pos hu h0)
theorem sumF_red {xs : List (Int × Int)} (hx : ∀ x ∈ xs, 0 < x.2) : Red (sumF xs) ∧ Same (sumF xs) (sumU xs) ∧ 0 < (sumU xs).2 := sum_fold xs (0, 1) (0, 1) hx red_zero rfl (by decide)
theorem sumU_perm {xs ys : List (Int × Int)} (h : xs.Perm ys) : sumU xs = sumU ys :=
  h.foldl_eq' (fun x _ y _ z => addU_comm z x y) _
theorem sumF_perm {xs ys : List (Int × Int)} (h : xs.Perm ys) (hx : ∀ x ∈ xs, 0 < x.2) : sumF xs = sumF ys := by
  obtain ⟨r1, s1, p1⟩ := sumF_red hx
  obtain ⟨r2, s2, _⟩ := sumF_red (xs := ys) fun y hy => hx y (h.mem_iff.mpr hy)
  rw [← sumU_perm h] at s2
  exact red_eq r1 r2 (s1.trans s2.symm p1)
theorem plus_zero {p : Int × Int} (hp : Red p) : plusF (0, 1) p = p := by
  obtain ⟨r, s⟩ := plus_red (p := (0, 1)) (q := p) (by decide) hp.1
  refine red_eq r hp (s.trans ?_ (by show 0 < 1 * p.2; have := hp.1; omega))
  show (0 * p.2 + p.1 * 1) * p.2 = p.1 * (1 * p.2)
  grind
theorem sumF_two {p q : Int × Int} (hp : Red p) : sumF [p, q] = plusF p q := by
  show plusF (plusF (0, 1) p) q = _
  rw [plus_zero hp]
/-! order -/
def leF (p q : Int × Int) : Prop := p.1 * q.2 ≤ q.1 * p.2
theorem not_less {p q : Int × Int} : lessF q p = false ↔ leF p q := by
  unfold lessF leF
  simp
theorem leF_trans {p q r : Int × Int} (hp : 0 < p.2) (hq : 0 < q.2) (hr : 0 < r.2) (h1 : leF p q) (h2 : leF q r) : leF p r := by
  unfold leF at *
  have a1 := Int.mul_le_mul_of_nonneg_right h1 (Int.le_of_lt hr)
  have a2 := Int.mul_le_mul_of_nonneg_right h2 (Int.le_of_lt hp)
  refine Int.le_of_mul_le_mul_right (a := q.2) ?_ hq
  have e1 : p.1 * r.2 * q.2 = p.1 * q.2 * r.2 := by grind
  have e2 : q.1 * p.2 * r.2 = q.1 * r.2 * p.2 := by grind
  have e3 : r.1 * p.2 * q.2 = r.1 * q.2 * p.2 := by grind
  omega
theorem leF_total (p q : Int × Int) : leF p q ∨ leF q p := by unfold leF; omega
theorem leF_refl (p : Int × Int) : leF p p := Int.le_refl _
theorem leF_of_less {p q : Int × Int} (h : lessF p q = true) : leF p q := by
  unfold lessF at h
  unfold leF
  simp at h
  omega
theorem leF_antisymm {p q : Int × Int} (hp : Red p) (hq : Red q) (h1 : leF p q) (h2 : leF q p) : p = q := red_eq hp hq (by unfold leF at *; unfold Same; omega)
theorem rising_eq {xs ys : List (Int × Int)} (hr : ∀ x ∈ xs, Red x) (hp : xs.Perm ys) (h1 : xs.Pairwise leF) (h2 : ys.Pairwise leF) : xs = ys :=
  hp.eq_of_pairwise (fun a b ha hb h3 h4 => leF_antisymm (hr a ha) (hr b (hp.mem_iff.mpr hb)) h3 h4) h1 h2
/-- put in behind all that are not greater -/
def insF (l : List (Int × Int)) (p : Int × Int) : List (Int × Int) := l.take (l.countP fun x => !lessF p x) ++ [p] ++ l.drop (l.countP fun x => !lessF p x)
theorem insF_perm (l : List (Int × Int)) (p : Int × Int) : (insF l p).Perm (p :: l) := by
  unfold insF
  rw [List.append_assoc]
  have := List.perm_middle (a := p) (l₁ := l.take (l.countP fun x => !lessF p x)) (l₂ := l.drop (l.countP fun x => !lessF p x))
  rw [List.take_append_drop] at this
  exact this
theorem ins_split : ∀ (l : List (Int × Int)) (p : Int × Int), (∀ x ∈ l, 0 < x.2) → 0 < p.2 → l.Pairwise leF → (∀ x ∈ l.take (l.countP fun x => !lessF p x), leF x p) ∧ ∀ x ∈ l.drop (l.countP fun x => !lessF p x), leF p x
  | [], p, _, _, _ => by simp
  | a :: l, p, hl, hp, hs => by
    obtain ⟨h1, h2⟩ := List.pairwise_cons.mp hs
    have ha := hl a List.mem_cons_self
    have hl' : ∀ x ∈ l, 0 < x.2 := fun x hx => hl x (List.mem_cons_of_mem _ hx)
    cases hc : lessF p a
    · have e : (a :: l).countP (fun x => !lessF p x) = l.countP (fun x => !lessF p x) + 1 := List.countP_cons_of_pos (by simp [hc])
      rw [e, List.take_succ_cons, List.drop_succ_cons]
      obtain ⟨q1, q2⟩ := ins_split l p hl' hp h2
      refine ⟨fun x hx => ?_, q2⟩
      rcases List.mem_cons.mp hx with rfl | hx
      · exact not_less.mp hc
      · exact q1 x hx
    · have hpa := leF_of_less hc
      have hnone : ∀ x ∈ a :: l, lessF p x = true := fun x hx => by
        rcases List.mem_cons.mp hx with rfl | hx
        · exact hc
        · cases hq : lessF p x
          · have h3 := not_less.mp hq
            have h4 := leF_trans ha (hl' x hx) hp (h1 x hx) h3
            have := not_less.mpr h4
            rw [hc] at this; cases this
          · rfl
      have e : (a :: l).countP (fun x => !lessF p x) = 0 := by
        rw [List.countP_eq_zero]
        intro x hx
        simp [hnone x hx]
      rw [e]
      refine ⟨by simp, fun x hx => leF_of_less (hnone x (by simpa using hx))⟩
theorem insF_sorted {l : List (Int × Int)} {p : Int × Int} (hl : ∀ x ∈ l, 0 < x.2) (hp : 0 < p.2) (hs : l.Pairwise leF) : (insF l p).Pairwise leF := by
  obtain ⟨q1, q2⟩ := ins_split l p hl hp hs
  unfold insF
  generalize (l.countP fun x => !lessF p x) = k at *
  have hd : (l.drop k).Pairwise leF := hs.sublist (List.drop_sublist _ _)
  have ht : (l.take k).Pairwise leF := hs.sublist (List.take_sublist _ _)
  rw [List.append_assoc, List.pairwise_append]
  refine ⟨ht, List.pairwise_cons.mpr ⟨q2, hd⟩, fun x hx y hy => ?_⟩
  rcases List.mem_cons.mp hy with rfl | hy
  · exact q1 x hx
  · exact leF_trans (hl x (List.mem_of_mem_take hx)) hp (hl y (List.mem_of_mem_drop hy)) (q1 x hx) (q2 y hy)
def risF (xs : List (Int × Int)) : List (Int × Int) := xs.foldl insF []
theorem risF_facts : ∀ (xs acc : List (Int × Int)), (∀ x ∈ xs, 0 < x.2) → (∀ x ∈ acc, 0 < x.2) → acc.Pairwise leF → (xs.foldl insF acc).Perm (acc ++ xs) ∧ (xs.foldl insF acc).Pairwise leF
  | [], acc, _, _, hs => ⟨by simp, hs⟩
  | x :: xs, acc, hx, ha, hs => by
    have h0 := hx x List.mem_cons_self
    have hacc : ∀ y ∈ insF acc x, 0 < y.2 := fun y hy => by
      rcases List.mem_cons.mp ((insF_perm acc x).mem_iff.mp hy) with rfl | hy
      · exact h0
      · exact ha y hy
    obtain ⟨h1, h2⟩ := risF_facts xs (insF acc x) (fun y hy => hx y (List.mem_cons_of_mem _ hy)) hacc (insF_sorted ha h0 hs)
    refine ⟨h1.trans ?_, h2⟩
    exact ((insF_perm acc x).append_right xs).trans (List.perm_middle.symm)
/-- the first least one -/
def minF : Int × Int → List (Int × Int) → Int × Int := fun a l => l.foldl (fun a x => if lessF x a = true then x else a) a
theorem minF_facts : ∀ (l : List (Int × Int)) (a : Int × Int), (∀ x ∈ l, 0 < x.2) → 0 < a.2 → (minF a l = a ∨ minF a l ∈ l) ∧ leF (minF a l) a ∧ ∀ x ∈ l, leF (minF a l) x
  | [], a, _, _ => ⟨.inl rfl, leF_refl a, by simp⟩
  | y :: l, a, hl, ha => by
    have hy := hl y List.mem_cons_self
    have hl' : ∀ x ∈ l, 0 < x.2 := fun x hx => hl x (List.mem_cons_of_mem _ hx)
    show (minF (if lessF y a = true then y else a) l = a ∨ _) ∧ _
    by_cases hc : lessF y a = true
    · have e : minF a (y :: l) = minF y l := by show minF (if lessF y a = true then y else a) l = _; rw [if_pos hc]
      rw [if_pos hc]
      obtain ⟨h1, h2, h3⟩ := minF_facts l y hl' hy
      have hm : 0 < (minF y l).2 := by
        rcases h1 with h1 | h1
        · rw [h1]; exact hy
        · exact hl' _ h1
      rw [e]
      refine ⟨.inr ?_, leF_trans hm hy ha h2 (leF_of_less hc), fun x hx => ?_⟩
      · rcases h1 with h1 | h1
        · rw [h1]; exact List.mem_cons_self
        · exact List.mem_cons_of_mem _ h1
      · rcases List.mem_cons.mp hx with rfl | hx
        · exact h2
        · exact h3 x hx
    · have e : minF a (y :: l) = minF a l := by show minF (if lessF y a = true then y else a) l = _; rw [if_neg hc]
      rw [if_neg hc]
      obtain ⟨h1, h2, h3⟩ := minF_facts l a hl' ha
      have hm : 0 < (minF a l).2 := by
        rcases h1 with h1 | h1
        · rw [h1]; exact ha
        · exact hl' _ h1
      rw [e]
      refine ⟨?_, h2, fun x hx => ?_⟩
      · rcases h1 with h1 | h1
        · exact .inl h1
        · exact .inr (List.mem_cons_of_mem _ h1)
      · rcases List.mem_cons.mp hx with rfl | hx
        · exact leF_trans hm ha hy h2 (not_less.mp (by simpa using hc))
        · exact h3 x hx
/-- the least ones, one by one -/
def selF : Nat → List (Int × Int) → List (Int × Int)
  | 0, _ => []
  | k + 1, [] => []
  | k + 1, a :: l => minF a (a :: l) :: selF k ((a :: l).erase (minF a (a :: l)))
theorem selF_facts : ∀ (k : Nat) (l : List (Int × Int)), l.length ≤ k → (∀ x ∈ l, 0 < x.2) → (selF k l).Perm l ∧ (selF k l).Pairwise leF
  | 0, l, hk, _ => by
    have : l = [] := List.length_eq_zero_iff.mp (by omega)
    subst this
    exact ⟨.refl _, .nil⟩
  | k + 1, [], _, _ => ⟨.refl _, .nil⟩
  | k + 1, a :: l, hk, hl => by
    obtain ⟨h1, h2, h3⟩ := minF_facts (a :: l) a hl (hl a List.mem_cons_self)
    have hm : minF a (a :: l) ∈ a :: l := by
      rcases h1 with h1 | h1
      · rw [h1]; exact List.mem_cons_self
      · exact h1
    rw [selF]
    generalize minF a (a :: l) = m at *
    have hpe := List.perm_cons_erase hm
    have hle : ((a :: l).erase m).length ≤ k := by
      rw [List.length_erase_of_mem hm]; simp at hk ⊢; omega
    obtain ⟨q1, q2⟩ := selF_facts k ((a :: l).erase m) hle fun x hx => hl x (List.mem_of_mem_erase hx)
    refine ⟨(q1.cons m).trans hpe.symm, List.pairwise_cons.mpr ⟨fun x hx => ?_, q2⟩⟩
    exact h3 x (List.mem_of_mem_erase (q1.mem_iff.mp hx))
theorem ris_sel {xs : List (Int × Int)} (hr : ∀ x ∈ xs, Red x) : risF xs = selF xs.length xs := by
  have hx : ∀ x ∈ xs, 0 < x.2 := fun x h => (hr x h).1
  obtain ⟨p1, s1⟩ := risF_facts xs [] hx (by simp) .nil
  obtain ⟨p2, s2⟩ := selF_facts xs.length xs (Nat.le_refl _) hx
  have p1 : (risF xs).Perm xs := p1
  exact rising_eq (fun x h => hr x (p1.mem_iff.mp h)) (p1.trans p2.symm) s1 s2
end Ev

set_option Elab.async false
set_option linter.all false
set_option autoImplicit false
set_option maxRecDepth 100000
set_option maxHeartbeats 8000000
namespace Ev
open PySem
/-- how many steps are left, at most -/
def euM (x y : Nat) : Nat := if y = 0 then 0 else (if x < y then 2 else 1) + (x * y).log2
theorem log_half {a b : Nat} (ha : 0 < a) (h : 2 * a ≤ b) : a.log2 < b.log2 := by
  have h1 : a.log2 + 1 = (2 * a).log2 := by
    have := Nat.log2_two_mul (n := a) (by omega)
    omega
  have h2 : (2 * a).log2 ≤ b.log2 := by
    rw [Nat.le_log2 (by omega)]
    exact Nat.le_trans (Nat.log2_self_le (by omega)) h
  omega
theorem euM_step {x y : Nat} (hy : y ≠ 0) : euM y (x % y) < euM x y := by
  have hr : x % y < y := Nat.mod_lt _ (by omega)
  unfold euM
  rw [if_neg hy]
  by_cases h0 : x % y = 0
  · rw [if_pos h0]; split <;> omega
  · rw [if_neg h0, if_neg (by omega)]
    by_cases hx : x < y
    · rw [if_pos hx, Nat.mod_eq_of_lt hx, Nat.mul_comm]; omega
    · rw [if_neg hx]
      have h1 : y + x % y ≤ x := by
        have := Nat.div_add_mod x y
        have h2 : 1 ≤ x / y := Nat.div_pos (by omega) (by omega)
        have h3 : y * 1 ≤ y * (x / y) := Nat.mul_le_mul_left y h2
        omega
      have h2 : 2 * (y * (x % y)) ≤ x * y := by
        have h3 : y * (2 * (x % y)) ≤ y * x := Nat.mul_le_mul_left y (by omega)
        have e1 : y * (2 * (x % y)) = 2 * (y * (x % y)) := by grind
        have e2 : y * x = x * y := Nat.mul_comm ..
        omega
      have := log_half (Nat.mul_pos (by omega) (by omega)) h2
      omega
theorem euM_le {x y : Nat} (hx : x < 2 ^ 250) (hy : y < 2 ^ 250) : euM x y ≤ 502 := by
  unfold euM
  split
  · omega
  · rename_i h
    have : (x * y).log2 ≤ 500 := by
      by_cases h0 : x * y = 0
      · rw [h0]; decide
      · have h1 : x * y < 2 ^ (250 + 250) := by
          have := Nat.mul_lt_mul'' hx hy
          have e : (2 : Nat) ^ 250 * 2 ^ 250 = 2 ^ (250 + 250) := (Nat.pow_add 2 250 250).symm
          omega
        have := (Nat.log2_lt h0).mpr h1
        omega
    split <;> omega
/-- .. of a first number of either sign -/
def euZ (x : Int) (y : Nat) : Nat := if y = 0 then 0 else if x < 0 then 1000 else euM x.toNat y
theorem fmod_int {x : Int} {y : Nat} (hy : y ≠ 0) : binI .mod x (y : Int) = some (((x % (y : Int)).toNat : Nat) : Int) := by
  have h : 0 ≤ x % (y : Int) := Int.emod_nonneg _ (by omega)
  rw [binI_mod _ _ (by omega), Int.fmod_eq_emod_of_nonneg _ (by omega), Int.toNat_of_nonneg h]
theorem gcd_step {x : Int} {y : Nat} (hy : y ≠ 0) : Int.gcd (y : Int) (((x % (y : Int)).toNat : Nat) : Int) = Int.gcd x y := by
  have h : 0 ≤ x % (y : Int) := Int.emod_nonneg _ (by omega)
  rw [Int.toNat_of_nonneg h, Int.gcd_comm, Int.emod_def, Int.gcd_sub_mul_left_left]
theorem euZ_step {x : Int} {y : Nat} (hy : y ≠ 0) (hb : y < 2 ^ 250) : euZ (y : Int) (x % (y : Int)).toNat < euZ x y := by
  have h0 : 0 ≤ x % (y : Int) := Int.emod_nonneg _ (by omega)
  have h1 : x % (y : Int) < y := Int.emod_lt_of_pos _ (by omega)
  have e : euZ (y : Int) (x % (y : Int)).toNat = euM y (x % (y : Int)).toNat := by
    unfold euZ
    by_cases h2 : (x % (y : Int)).toNat = 0
    · rw [if_pos h2, h2]; simp [euM]
    · rw [if_neg h2, if_neg (by omega), Int.toNat_natCast]
  rw [e]
  unfold euZ
  rw [if_neg hy]
  by_cases hx : x < 0
  · rw [if_pos hx]
    have := euM_le (x := y) (y := (x % (y : Int)).toNat) hb (by omega)
    omega
  · rw [if_neg hx]
    have hm : (x % (y : Int)).toNat = x.toNat % y := by
      have : x = (x.toNat : Int) := by omega
      rw [this, ← Int.natCast_emod, Int.toNat_natCast, Int.toNat_natCast]
    rw [hm]
    exact euM_step hy
theorem euZ_le {x : Int} {y : Nat} (hx : x < 2 ^ 250) (hy : y < 2 ^ 250) : euZ x y ≤ 1000 := by
  unfold euZ
  split
  · omega
  · split
    · omega
    · have := euM_le (x := x.toNat) (y := y) (by omega) hy
      omega
theorem gcdZ_facts {t : Int} {b : Nat} (hb : 0 < b) (hb2 : b < 2 ^ 249) : ((Int.gcd t b : Nat) : Int) ≠ 0 ∧ ((Int.gcd t b : Nat) : Int).natAbs < 2 ^ 250 := by
  have h1 : 0 < Int.gcd t b := Int.gcd_pos_of_ne_zero_right t (by omega)
  have h2 : Int.gcd t b ≤ b := Nat.le_of_dvd hb (Nat.gcd_dvd_right t.natAbs b)
  refine ⟨by omega, ?_⟩
  rw [Int.natAbs_natCast]
  exact Nat.lt_of_le_of_lt h2 (Nat.lt_trans hb2 (by decide))
/-- a fraction of modest size -/
structure Fr (p : Int × Int) : Prop where
  pos : 0 < p.2
  top : p.1.natAbs < 2 ^ 120
  bot : p.2.natAbs < 2 ^ 120
theorem mulB {i j : Int} (hi : i.natAbs < 2 ^ 120) (hj : j.natAbs < 2 ^ 120) : binI .mul i j = some (i * j) := by
  have h1 : i.natAbs < 2 ^ 250 := Nat.lt_trans hi (by decide)
  have h2 : j.natAbs < 2 ^ 250 := Nat.lt_trans hj (by decide)
  show (if (small64 i || small64 j || decide (i.natAbs < 2 ^ 250 ∧ j.natAbs < 2 ^ 250)) = true then some (i * j) else none) = _
  rw [if_pos (by rw [decide_eq_true (⟨h1, h2⟩ : _ ∧ _), Bool.or_true])]
theorem mul_lt {i j : Int} (hi : i.natAbs < 2 ^ 120) (hj : j.natAbs < 2 ^ 120) : (i * j).natAbs < 2 ^ 240 := by
  rw [Int.natAbs_mul]
  exact Nat.lt_of_lt_of_le (Nat.mul_lt_mul'' hi hj) (by decide)
theorem bot_facts {p q : Int × Int} (hp : Fr p) (hq : Fr q) : 0 < p.2 * q.2 ∧ ((p.2 * q.2).toNat : Int) = p.2 * q.2 ∧ 0 < (p.2 * q.2).toNat ∧ (p.2 * q.2).toNat < 2 ^ 249 := by
  have h1 := Int.mul_pos hp.pos hq.pos
  have h2 := mul_lt hp.bot hq.bot
  have h3 : (2 : Nat) ^ 240 < 2 ^ 249 := by decide
  refine ⟨h1, by omega, by omega, by omega⟩
theorem cross_lt {p q : Int × Int} (hp : Fr p) (hq : Fr q) : (p.1 * q.2 + q.1 * p.2).natAbs < 2 ^ 249 ∧ (p.1 * q.2 - q.1 * p.2).natAbs < 2 ^ 249 := by
  have t1 := mul_lt hp.top hq.bot
  have t2 := mul_lt hq.top hp.bot
  have t3 : (2 : Nat) ^ 240 + 2 ^ 240 < 2 ^ 249 := by decide
  omega
theorem Fr.neg {p : Int × Int} (hp : Fr p) : Fr (negF p) := ⟨hp.pos, by have := hp.top; show (0 - p.1).natAbs < _; omega, hp.bot⟩
/-- lowest terms are not greater -/
theorem low_le (t : Int) (b : Nat) (hb : 0 < b) : (low t b).1.natAbs ≤ t.natAbs ∧ (low t b).2.natAbs ≤ b := by
  obtain ⟨g, g0, h1, h2, _⟩ := low_spec t b hb
  have hg : 1 ≤ g.natAbs := by omega
  constructor
  · have e : t.natAbs = g.natAbs * (low t b).1.natAbs := by rw [← Int.natAbs_mul, ← h1]
    rw [e]
    exact Nat.le_mul_of_pos_left _ hg
  · have e : (b : Int).natAbs = g.natAbs * (low t b).2.natAbs := by rw [← Int.natAbs_mul, ← h2]
    rw [Int.natAbs_natCast] at e
    have := Nat.le_mul_of_pos_left (low t b).2.natAbs hg
    omega
theorem low_Fr {t : Int} {b : Nat} (hb : 0 < b) (h1 : t.natAbs < 2 ^ 120) (h2 : b < 2 ^ 120) : Fr (low t b) :=
  ⟨(low_red t b hb).1, Nat.lt_of_le_of_lt (low_le t b hb).1 h1, Nat.lt_of_le_of_lt (low_le t b hb).2 h2⟩
/-- sums of shares between 0 and 1, of small bottoms -/
theorem addU_bound {M : Nat} : ∀ (xs : List (Int × Int)) (u : Int × Int), (∀ x ∈ xs, 0 ≤ x.1 ∧ x.1 ≤ x.2 ∧ 0 < x.2 ∧ x.2 ≤ M) → 0 ≤ u.1 → 0 < u.2 →
    0 ≤ (xs.foldl addU u).1 ∧ 0 < (xs.foldl addU u).2 ∧ (xs.foldl addU u).2 ≤ u.2 * (M : Int) ^ xs.length ∧ ∀ k : Int, u.1 ≤ k * u.2 → (xs.foldl addU u).1 ≤ (k + xs.length) * (xs.foldl addU u).2
  | [], u, _, h1, h2 => by simp [h1, h2]
  | x :: xs, u, hx, h1, h2 => by
    obtain ⟨x1, x2, x3, x4⟩ := hx x List.mem_cons_self
    have a1 : 0 ≤ (addU u x).1 := by
      show 0 ≤ u.1 * x.2 + x.1 * u.2
      have := Int.mul_nonneg h1 (Int.le_of_lt x3)
      have := Int.mul_nonneg x1 (Int.le_of_lt h2)
      omega
    have a2 : 0 < (addU u x).2 := Int.mul_pos h2 x3
    obtain ⟨b1, b2, b3, b4⟩ := addU_bound (M := M) xs (addU u x) (fun y hy => hx y (List.mem_cons_of_mem _ hy)) a1 a2
    refine ⟨b1, b2, ?_, fun k hk => ?_⟩
    · refine Int.le_trans b3 ?_
      show u.2 * x.2 * (M : Int) ^ xs.length ≤ u.2 * (M : Int) ^ (xs.length + 1)
      have hM : (0 : Int) ≤ (M : Int) ^ xs.length := Int.pow_nonneg (by omega)
      have e : u.2 * (M : Int) ^ (xs.length + 1) = u.2 * M * (M : Int) ^ xs.length := by rw [Int.pow_succ]; grind
      rw [e]
      exact Int.mul_le_mul_of_nonneg_right (Int.mul_le_mul_of_nonneg_left x4 (Int.le_of_lt h2)) hM
    · have := b4 (k + 1) (by
        show u.1 * x.2 + x.1 * u.2 ≤ (k + 1) * (u.2 * x.2)
        have q1 := Int.mul_le_mul_of_nonneg_right hk (Int.le_of_lt x3)
        have q2 := Int.mul_le_mul_of_nonneg_right x2 (Int.le_of_lt h2)
        have e1 : (k + 1) * (u.2 * x.2) = k * u.2 * x.2 + x.2 * u.2 := by grind
        omega)
      have e2 : (k + ((x :: xs).length : Int)) = k + 1 + (xs.length : Int) := by simp; omega
      rw [e2]; exact this
end Ev

set_option Elab.async false
set_option linter.all false
set_option autoImplicit false
set_option maxRecDepth 100000
set_option maxHeartbeats 8000000
namespace Ev
open PySem
theorem er_map {α β : Type} (f : α → β) : ∀ (l : List α) (k : Nat), (l.map f).eraseIdx k = (l.eraseIdx k).map f
  | [], _ => rfl
  | x :: l, 0 => rfl
  | x :: l, k + 1 => by simp [er_map f l k]
theorem lcR_d {α : Type} {f : Vl → MH → Res (Option Vl)} {i : Nat} {h : MH} {xs : List α} {e : α → PyData} (g : α → Option PyData) (hx : h[i]? = some (.lst (dmap (xs.map e)))) (hf : ∀ x ∈ xs, f (.d (e x)) h = .ok ((g x).map .d) h) :
    ∀ (n k : Nat), k ≤ xs.length → xs.length - k < n → lcR f i n k h = .ok (((xs.drop k).filterMap g).map .d) h
  | 0, k, _, hn => by omega
  | n + 1, k, hk, hn => by
    show (match h[i]? with
    | some (.lst xs) => (match xs[k]? with
      | some x => (f x h).bind fun r h1 => (lcR f i n (k + 1) h1).bind fun rs h2 => .ok (r.toList ++ rs) h2
      | none => .ok [] h)
    | _ => .stuck) = _
    rw [hx]
    dsimp only
    by_cases hl : k < xs.length
    · have e1 : (dmap (xs.map e))[k]? = some (.d (e xs[k])) := by simp [dmap, List.getElem?_eq_getElem hl]
      rw [e1]
      dsimp only
      rw [hf _ (List.getElem_mem hl), Res.bind_ok, lcR_d g hx hf n (k + 1) (by omega) (by omega), Res.bind_ok, List.drop_eq_getElem_cons hl, List.filterMap_cons]
      cases g xs[k] <;> rfl
    · have e1 : (dmap (xs.map e))[k]? = none := by
        rw [List.getElem?_eq_none_iff, dmap_len, List.length_map]; omega
      rw [e1, List.drop_of_length_le (by omega)]
      rfl
theorem lc_rfilter {α : Type} {F : Nat} {f : Vl → MH → Res (Option Vl)} {i : Nat} {h : MH} {xs : List α} {e : α → PyData} (p : α → Bool) (g : α → PyData) (hx : h[i]? = some (.lst (dmap (xs.map e)))) (hF : F ≤ sz) (hl : xs.length < F)
    (hf : ∀ x ∈ xs, f (.d (e x)) h = .ok (if p x = true then some (.d (g x)) else none) h) :
    (lcS F f (.r i) h).calm.bind (fun rs h5 => (mkl false rs h5).calm) = .ok (.d (.list ((xs.filter p).map g))) h := by
  have key := lcR_d (f := f) (fun x => if p x = true then some (g x) else none) hx (fun x hm => by rw [hf x hm]; cases p x <;> rfl) F 0 (by omega) (by omega)
  show (Res.bind (Res.calm (if F ≤ sz then lcR f i F 0 h else .stuck)) _) = _
  rw [if_pos hF, key]
  show (mkl false _ h).calm = _
  rw [mkl_d, List.drop_zero]
  show Res.ok _ h = _
  congr 3
  clear key hx hf hl
  induction xs with
  | nil => rfl
  | cons x xs ih =>
    rw [List.filterMap_cons, List.filter_cons]
    cases hp : p x
    · simpa using ih
    · simpa using ih
theorem forR_fold {α : Type} {t : Tg} {b : Env → MH → Res Fl} {e : α → PyData} {i F : Nat} {h : MH} {xs : List α} {σ : Env} (hx : h[i]? = some (.lst (dmap (xs.map e)))) (hF : xs.length < F) (I : List α → Env → Prop) (i0 : I [] σ)
    (hs : ∀ pre x post σ, xs = pre ++ x :: post → I pre σ → ∃ σ1, putT t (.d (e x)) σ = some σ1 ∧ ∃ σ2, b σ1 h = .ok (.nx σ2) h ∧ I (pre ++ [x]) σ2) : ∃ σ2, forR t b i F 0 σ h = .ok (.nx σ2) h ∧ I xs σ2 := by
  have key : ∀ (post pre : List α) (n : Nat) (σ : Env), xs = pre ++ post → I pre σ → post.length < n → ∃ σ2, forR t b i n pre.length σ h = .ok (.nx σ2) h ∧ I xs σ2 := by
    intro post
    induction post with
    | nil =>
      intro pre n σ ex hi hn
      obtain ⟨n, rfl⟩ : ∃ m, n = m + 1 := ⟨n - 1, by simp at hn; omega⟩
      have e1 : (dmap (xs.map e))[pre.length]? = none := by
        rw [List.getElem?_eq_none_iff, dmap_len, List.length_map, ex]; simp
      refine ⟨σ, ?_, by rw [ex, List.append_nil]; exact hi⟩
      show (match h[i]? with
        | some (.lst xs) => (match xs[pre.length]? with
          | some x => (match putT t x σ with
            | some σ1 => (b σ1 h).bind fun f h2 => (match f with
              | .nx σ2 => forR t b i n (pre.length + 1) σ2 h2
              | .ct σ2 => forR t b i n (pre.length + 1) σ2 h2
              | .bk σ2 => .ok (.nx σ2) h2
              | .rt v => .ok (.rt v) h2)
            | none => .stuck)
          | none => .ok (.nx σ) h)
        | _ => .stuck) = _
      rw [hx]
      dsimp only
      rw [e1]
    | cons x post ih =>
      intro pre n σ ex hi hn
      obtain ⟨n, rfl⟩ : ∃ m, n = m + 1 := ⟨n - 1, by simp at hn; omega⟩
      have e1 : (dmap (xs.map e))[pre.length]? = some (.d (e x)) := by simp [dmap, ex]
      obtain ⟨σ1, p1, σ2, b1, i2⟩ := hs pre x post σ ex hi
      obtain ⟨σ3, r3, i3⟩ := ih (pre ++ [x]) n σ2 (by rw [ex, List.append_assoc]; rfl) i2 (by simp at hn; omega)
      refine ⟨σ3, ?_, i3⟩
      show (match h[i]? with
        | some (.lst xs) => (match xs[pre.length]? with
          | some x => (match putT t x σ with
            | some σ1 => (b σ1 h).bind fun f h2 => (match f with
              | .nx σ2 => forR t b i n (pre.length + 1) σ2 h2
              | .ct σ2 => forR t b i n (pre.length + 1) σ2 h2
              | .bk σ2 => .ok (.nx σ2) h2
              | .rt v => .ok (.rt v) h2)
            | none => .stuck)
          | none => .ok (.nx σ) h)
        | _ => .stuck) = _
      rw [hx]
      dsimp only
      rw [e1]
      dsimp only
      rw [p1]
      dsimp only
      rw [b1, Res.bind_ok]
      rw [List.length_append] at r3
      exact r3
  exact key xs [] F σ rfl i0 hF
theorem forF_r {t : Tg} {b : Env → MH → Res Fl} {F i : Nat} {σ : Env} {h : MH} : forF t b F (.r i) σ h = forR t b i F 0 σ h := rfl
theorem srcOf_r (i : Nat) (h : MH) (xs : List Vl) (hx : h[i]? = some (.lst xs)) : srcOf (.r i) h = some (.r i) := by
  show (match h[i]? with | some (.lst _) => some (Src.r i) | _ => none) = _
  rw [hx]
theorem ins_last (h : MH) (ds : List PyData) (x : PyData) (k : Nat) (hz : ds.length < sz) (hk : k ≤ ds.length) : metV .insert (.r h.length) [.d (.int (k : Int)), .d x] (h ++ [.lst (dmap ds)]) = .ok (.d .none) (h ++ [.lst (dmap (ds.take k ++ [x] ++ ds.drop k))]) := by
  have e : (h ++ [MO.lst (dmap ds)])[h.length]? = some (.lst (dmap ds)) := by simp
  have hz2 : ds.length < 16777216 := hz
  show (match (h ++ [MO.lst (dmap ds)])[h.length]? with
    | some (.lst ys) => if below h.length (Vl.d x) = true ∧ ys.length < sz ∧ 0 ≤ (k : Int) ∧ (k : Int) < 2 ^ 63 then Res.ok (Vl.d .none) ((h ++ [MO.lst (dmap ds)]).set h.length (.lst (ys.take (k : Int).toNat ++ [Vl.d x] ++ ys.drop (k : Int).toNat))) else .stuck
    | _ => .stuck) = _
  rw [e]
  dsimp only
  rw [if_pos ⟨rfl, by rw [dmap_len]; exact hz, by omega, by omega⟩, Int.toNat_natCast]
  simp [dmap, List.map_take, List.map_drop]
/-- a comprehension to a mutable list -/
theorem lc_mapT {α : Type} {F : Nat} {f : Vl → MH → Res (Option Vl)} {h : MH} {xs : List α} {e : α → PyData} (g : α → PyData) (hz : xs.length ≤ sz) (hf : ∀ x ∈ xs, f (.d (e x)) h = .ok (some (.d (g x))) h) :
    (lcS F f (.l (dmap (xs.map e))) h).calm.bind (fun rs h5 => (mkl true rs h5).calm) = .ok (.r h.length) (h ++ [.lst (dmap (xs.map g))]) := by
  have key : lcL f (dmap (xs.map e)) h = .ok (dmap (xs.map g)) h := by
    clear hz
    induction xs with
    | nil => rfl
    | cons x xs ih =>
      show ((f (.d (e x)) h).bind fun r h1 => (lcL f (dmap (xs.map e)) h1).bind fun rs h2 => .ok (r.toList ++ rs) h2) = _
      rw [hf x List.mem_cons_self, Res.bind_ok, ih fun y hy => hf y (List.mem_cons_of_mem _ hy), Res.bind_ok]
      rfl
  show (Res.bind (Res.calm (if (dmap (xs.map e)).length ≤ sz then lcL f (dmap (xs.map e)) h else .stuck)) _) = _
  rw [dmap_len, List.length_map, if_pos hz, key]
  show (mkl true _ h).calm = _
  rw [mkl_t h _ (all_below_d _ _)]; rfl
theorem pop_last (h : MH) (ds : List PyData) (j : Nat) (x : PyData) (hj : ds[j]? = some x) (hz : ds.length ≤ 1000) : metV .popAt (.r h.length) [.d (.int (j : Int))] (h ++ [.lst (dmap ds)]) = .ok (.d x) (h ++ [.lst (dmap (ds.eraseIdx j))]) := by
  have e : (h ++ [MO.lst (dmap ds)])[h.length]? = some (.lst (dmap ds)) := by simp
  have hl : j < ds.length := (List.getElem?_eq_some_iff.mp hj).1
  have hx : ixOf (j : Int) (dmap ds).length = some j := by
    unfold ixOf
    rw [if_pos (by omega), if_pos (by rw [dmap_len]; omega), Int.toNat_natCast]
  have hy : (dmap ds)[j]? = some (.d x) := by simp [dmap, hj]
  show (match (h ++ [MO.lst (dmap ds)])[h.length]? with
    | some (.lst ys) => (match ixOf (j : Int) ys.length with
      | some j' => (match ys[j']? with
        | some y => if -(2 ^ 63) ≤ (j : Int) ∧ (j : Int) < 2 ^ 63 then Res.ok y ((h ++ [MO.lst (dmap ds)]).set h.length (.lst (ys.eraseIdx j'))) else Res.stuck
        | none => Res.stuck)
      | none => Res.stuck)
    | _ => Res.stuck) = _
  rw [e]
  dsimp only
  rw [hx]
  dsimp only
  rw [hy]
  dsimp only
  rw [if_pos ⟨by omega, by omega⟩]
  simp [dmap, er_map]
theorem contL_last (h : MH) (ds : List PyData) : contL (.r h.length) (h ++ [.lst (dmap ds)]) = some ds := by
  have e : (h ++ [MO.lst (dmap ds)])[h.length]? = some (.lst (dmap ds)) := by simp
  show (match (match (h ++ [MO.lst (dmap ds)])[h.length]? with | some (.lst xs) => (allD xs).map PyData.list | _ => none) with
    | some (.list xs) => some xs
    | _ => none) = _
  rw [e]
  dsimp only
  rw [show allD (dmap ds) = some ds from allD_map ds]
  rfl
theorem index_last (h : MH) (ds : List PyData) (x : PyData) (j : Nat) (h1 : okN 40 x = true) (h2 : ds.all (okN 39) = true) (hz : ds.length ≤ sz) (hj : ds.findIdx? (fun y => PyData.eqv y x) = some j) : metV .index (.r h.length) [.d x] (h ++ [.lst (dmap ds)]) = .ok (.d (.int j)) (h ++ [.lst (dmap ds)]) := by
  show (match contL (.r h.length) (h ++ [.lst (dmap ds)]), some x with
    | some ys, some a => if (okN 40 a && okN 40 (.tuple ys) && decide (ys.length ≤ sz)) = true then (match ys.findIdx? (fun y => PyData.eqv y a) with
      | some j => Res.ok (Vl.d (.int j)) (h ++ [MO.lst (dmap ds)])
      | none => .stuck) else .stuck
    | _, _ => .stuck) = _
  rw [contL_last]
  dsimp only
  rw [h1, show okN 40 (.tuple ds) = true from h2, decide_eq_true hz, hj]; rfl
theorem timesF_Fr {p q : Int × Int} (hp : 0 < p.2) (hq : 0 < q.2) (h1 : (p.1 * q.1).natAbs < 2 ^ 120) (h2 : (p.2 * q.2).natAbs < 2 ^ 120) : Fr (timesF p q) := by
  have h := Int.mul_pos hp hq
  exact low_Fr (by omega) h1 (by omega)
theorem mul_lt_of {i j : Int} {a b c : Nat} (hi : i.natAbs < 2 ^ a) (hj : j.natAbs < 2 ^ b) (hc : a + b ≤ c) : (i * j).natAbs < 2 ^ c := by
  rw [Int.natAbs_mul]
  refine Nat.lt_of_lt_of_le (Nat.mul_lt_mul'' hi hj) ?_
  rw [← Nat.pow_add]
  exact Nat.pow_le_pow_right (by decide) hc
/-- small shares: between 0 and 1, a bottom of at most 2000 -/
def Sh (x : Int × Int) : Prop := 0 ≤ x.1 ∧ x.1 ≤ x.2 ∧ 0 < x.2 ∧ x.2 ≤ 2000
theorem sumF_size {xs : List (Int × Int)} (hx : ∀ x ∈ xs, Sh x) (hl : xs.length ≤ 8) : 0 < (sumF xs).2 ∧ (sumF xs).1.natAbs < 2 ^ 100 ∧ (sumF xs).2.natAbs < 2 ^ 100 := by
  have hpos : ∀ x ∈ xs, 0 < x.2 := fun x h => (hx x h).2.2.1
  obtain ⟨r, s, p⟩ := sumF_red hpos
  obtain ⟨b1, b2, b3, b4⟩ := addU_bound (M := 2000) xs (0, 1) (fun x h => ⟨(hx x h).1, (hx x h).2.1, (hx x h).2.2.1, (hx x h).2.2.2⟩) (by decide) (by decide)
  have b4 := b4 0 (by decide)
  change 0 ≤ (sumU xs).1 at b1
  change 0 < (sumU xs).2 at b2
  change (sumU xs).2 ≤ 1 * (2000 : Int) ^ xs.length at b3
  change (sumU xs).1 ≤ (0 + (xs.length : Int)) * (sumU xs).2 at b4
  have hM : (2000 : Int) ^ xs.length ≤ 2000 ^ 8 := by
    have := Nat.pow_le_pow_right (n := 2000) (by decide) hl
    exact_mod_cast this
  have e8 : (2000 : Int) ^ 8 = 256000000000000000000000000 := by decide
  have hd : (sumU xs).2 ≤ 256000000000000000000000000 := by omega
  have hn : (sumU xs).1 ≤ 8 * 256000000000000000000000000 := by
    have q1 := Int.mul_le_mul_of_nonneg_right (show (0 + (xs.length : Int)) ≤ 8 by omega) (Int.le_of_lt b2)
    omega
  have el : low (sumU xs).1 (sumU xs).2.toNat = sumF xs := by
    refine low_eq (by omega) r ?_
    show (sumF xs).1 * ((sumU xs).2.toNat : Int) = (sumU xs).1 * (sumF xs).2
    rw [Int.toNat_of_nonneg (by omega)]
    exact s
  obtain ⟨l1, l2⟩ := low_le (sumU xs).1 (sumU xs).2.toNat (by omega)
  rw [el] at l1 l2
  have e100 : (2 : Nat) ^ 100 = 1267650600228229401496703205376 := by decide
  refine ⟨r.1, by omega, by omega⟩
end Ev

set_option Elab.async false
set_option linter.all false
namespace EvLaw
open PySem PySem.Spec PyProof.Rows L2 Ev
def top (i : Nat) : Stmt := PySem.Challenge.pw_votehouse_k48_whole_issues_in_turn.main.body.getD i (.Pass ⟨0, 0, 0, 0⟩)
/-- is_integer(thing): 0 thing -/
def fis_integer : Fn := ⟨1, 1,
    (.cons (.ret (.andL (.cons (.isi (.var 0) [.int]) (.cons (.not (.isi (.var 0) [.bool])) .nil))))
      .nil), none⟩
def rfis_integer : DefR := ⟨"is_integer", top 1, ["thing"], ["thing"], fis_integer⟩
/-- is_within(thing, low, high): 0 thing 1 low 2 high -/
def fis_within : Fn := ⟨3, 3,
    (.cons (.ret (.andL (.cons (.call "is_integer" (.cons (.var 0) .nil)) (.cons (.chain .le .le (.var 1) (.var 0) (.var 2)) .nil))))
      .nil), none⟩
def rfis_within : DefR := ⟨"is_within", top 2, ["thing", "low", "high"], ["thing", "low", "high"], fis_within⟩
/-- is_sized(thing, low, high): 0 thing 1 low 2 high -/
def fis_sized : Fn := ⟨3, 3,
    (.cons (.ret (.andL (.cons (.isi (.var 0) [.tuple]) (.cons (.chain .le .le (.var 1) (.bi .len false (.cons (.var 0) .nil)) (.var 2)) .nil))))
      .nil), none⟩
def rfis_sized : DefR := ⟨"is_sized", top 3, ["thing", "low", "high"], ["thing", "low", "high"], fis_sized⟩
/-- are_all(thing, many): 0 thing 1 many 2 one -/
def fare_all : Fn := ⟨2, 3,
    (.cons (.ite (.orL (.cons (.not (.call "is_sized" (.cons (.var 0) (.cons (.var 1) (.cons (.var 1) .nil))))) (.cons (.not (.bi .all false (.cons (.lc false (.call "is_within" (.cons (.var 2) (.cons (.int 0) (.cons (.bin .sub false (.var 1) (.int 1)) .nil)))) (.nm 2) (.seq (.var 0)) .nil [2]) .nil))) .nil)))
      (.cons (.ret (.bl false))
      .nil)
      .nil)
      (.cons (.ret (.cmp .eq (.bi .sorted false (.cons (.var 0) .nil)) (.rg false false (.cons (.var 1) .nil))))
      .nil)), none⟩
def rfare_all : DefR := ⟨"are_all", top 4, ["thing", "many", "one"], ["thing", "many"], fare_all⟩
/-- all_rows(some): 0 some 1 found 2 turn 3 longer 4 row 5 one -/
def fall_rows : Fn := ⟨1, 6,
    (.cons (.set 1 (.lst false (.cons (.tup .nil) .nil)))
      (.cons (.for_ (.nm 2) (.seq (.var 0))
      (.cons (.set 3 (.lst true .nil))
      (.cons (.for_ (.nm 4) (.seq (.var 1))
      (.cons (.exp (.met .extend (.var 3) (.cons (.lc false (.bin .add false (.var 4) (.tup (.cons (.var 5) .nil))) (.nm 5) (.seq (.var 0)) (.cons (.cmp .notin (.var 5) (.var 4)) .nil) [5]) .nil)))
      .nil))
      (.cons (.set 1 (.frz (.var 3)))
      .nil))))
      (.cons (.ret (.var 1))
      .nil))), none⟩
def rfall_rows : DefR := ⟨"all_rows", top 5, ["some", "found", "turn", "longer", "row", "one"], ["some"], fall_rows⟩
/-- is_saying(thing, j): 0 thing 1 j 2 one -/
def fis_saying : Fn := ⟨2, 3,
    (.cons (.ret (.andL (.cons (.call "is_sized" (.cons (.var 0) (.cons (.var 1) (.cons (.var 1) .nil)))) (.cons (.bi .all false (.cons (.lc false (.call "is_within" (.cons (.var 2) (.cons (.int 0) (.cons (.int 1) .nil)))) (.nm 2) (.seq (.var 0)) .nil [2]) .nil)) .nil))))
      .nil), none⟩
def rfis_saying : DefR := ⟨"is_saying", top 18, ["thing", "j", "one"], ["thing", "j"], fis_saying⟩
/-- is_world(thing): 0 thing 1 saying 2 one 3 other -/
def fis_world : Fn := ⟨1, 4,
    (.cons (.ite (.orL (.cons (.not (.call "is_sized" (.cons (.var 0) (.cons (.int 1) (.cons (.bin .shl false (.int 1) (.gc "MOST_ISSUES")) .nil))))) (.cons (.not (.call "is_sized" (.cons (.idx (.var 0) (.int 0)) (.cons (.int 1) (.cons (.gc "MOST_ISSUES") .nil))))) .nil)))
      (.cons (.ret (.bl false))
      .nil)
      .nil)
      (.cons (.ite (.not (.bi .all false (.cons (.lc false (.call "is_saying" (.cons (.var 1) (.cons (.bi .len false (.cons (.idx (.var 0) (.int 0)) .nil)) .nil))) (.nm 1) (.seq (.var 0)) .nil [1]) .nil)))
      (.cons (.ret (.bl false))
      .nil)
      .nil)
      (.cons (.ret (.bi .all false (.cons (.lc false (.cmp .lt (.var 2) (.var 3)) (.tp [2, 3]) (.zip (.var 0) (.sli false (.var 0) (.cons (.int 1) .nil) .nil)) .nil [2, 3]) .nil)))
      .nil))), none⟩
def rfis_world : DefR := ⟨"is_world", top 19, ["thing", "saying", "one", "other"], ["thing"], fis_world⟩
/-- check_world(thing): 0 thing -/
def fcheck_world : Fn := ⟨1, 1,
    (.cons (.ite (.not (.call "is_world" (.cons (.var 0) .nil)))
      (.cons (.raise "NoWorld" .nil)
      .nil)
      .nil)
      .nil), none⟩
def rfcheck_world : DefR := ⟨"check_world", top 20, ["thing"], ["thing"], fcheck_world⟩
/-- are_judges(world, thing, low, high): 0 world 1 thing 2 low 3 high 4 saying -/
def fare_judges : Fn := ⟨4, 5,
    (.cons (.ite (.orL (.cons (.not (.call "is_sized" (.cons (.var 1) (.cons (.var 2) (.cons (.var 3) .nil))))) (.cons (.not (.bi .all false (.cons (.lc false (.call "is_saying" (.cons (.var 4) (.cons (.bi .len false (.cons (.idx (.var 0) (.int 0)) .nil)) .nil))) (.nm 4) (.seq (.var 1)) .nil [4]) .nil))) .nil)))
      (.cons (.ret (.bl false))
      .nil)
      .nil)
      (.cons (.ret (.bi .all false (.cons (.lc false (.cmp .in_ (.var 4) (.var 0)) (.nm 4) (.seq (.var 1)) .nil [4]) .nil)))
      .nil)), none⟩
def rfare_judges : DefR := ⟨"are_judges", top 21, ["world", "thing", "low", "high", "saying"], ["world", "thing", "low", "high"], fare_judges⟩
/-- check_judges(world, judges): 0 world 1 judges -/
def fcheck_judges : Fn := ⟨2, 2,
    (.cons (.exp (.call "check_world" (.cons (.var 0) .nil)))
      (.cons (.ite (.not (.call "are_judges" (.cons (.var 0) (.cons (.var 1) (.cons (.int 1) (.cons (.gc "MOST_JUDGES") .nil))))))
      (.cons (.raise "NoJudges" .nil)
      .nil)
      .nil)
      .nil)), none⟩
def rfcheck_judges : DefR := ⟨"check_judges", top 22, ["world", "judges"], ["world", "judges"], fcheck_judges⟩
/-- ones_of(judges): 0 judges 1 issue 2 saying -/
def fones_of : Fn := ⟨1, 3,
    (.cons (.ret (.lc false (.bi .sum false (.cons (.lc false (.idx (.var 2) (.var 1)) (.nm 2) (.seq (.var 0)) .nil [2]) .nil)) (.nm 1) (.rng0 (.bi .len false (.cons (.idx (.var 0) (.int 0)) .nil))) .nil [1]))
      .nil), none⟩
def rfones_of : DefR := ⟨"ones_of", top 23, ["judges", "issue", "saying"], ["judges"], fones_of⟩
/-- has_pairs(saying, pairs): 0 saying 1 pairs 2 issue 3 value -/
def fhas_pairs : Fn := ⟨2, 4,
    (.cons (.ret (.bi .all false (.cons (.lc false (.cmp .eq (.idx (.var 0) (.var 2)) (.var 3)) (.tp [2, 3]) (.seq (.var 1)) .nil [2, 3]) .nil)))
      .nil), none⟩
def rfhas_pairs : DefR := ⟨"has_pairs", top 24, ["saying", "pairs", "issue", "value"], ["saying", "pairs"], fhas_pairs⟩
/-- can_stand(world, pairs): 0 world 1 pairs 2 saying -/
def fcan_stand : Fn := ⟨2, 3,
    (.cons (.ret (.bi .any false (.cons (.lc false (.call "has_pairs" (.cons (.var 2) (.cons (.var 1) .nil))) (.nm 2) (.seq (.var 0)) .nil [2]) .nil)))
      .nil), none⟩
def rfcan_stand : DefR := ⟨"can_stand", top 25, ["world", "pairs", "saying"], ["world", "pairs"], fcan_stand⟩
/-- raw_turn(world, judges, order): 0 world 1 judges 2 order 3 issue 4 ones 5 settled 6 value -/
def fraw_turn : Fn := ⟨3, 7,
    (.cons (.par 4 5 (.call "ones_of" (.cons (.var 1) .nil)) (.tup .nil))
      (.cons (.for_ (.nm 3) (.seq (.var 2))
      (.cons (.set 6 (.bi .int false (.cons (.cmp .gt (.bin .mul false (.int 2) (.idx (.var 4) (.var 3))) (.bi .len false (.cons (.var 1) .nil))) .nil)))
      (.cons (.ite (.not (.call "can_stand" (.cons (.var 0) (.cons (.bin .add false (.var 5) (.tup (.cons (.tup (.cons (.var 3) (.cons (.var 6) .nil))) .nil))) .nil))))
      (.cons (.set 6 (.bin .sub false (.int 1) (.var 6)))
      .nil)
      .nil)
      (.cons (.set 5 (.bin .add false (.var 5) (.tup (.cons (.tup (.cons (.var 3) (.cons (.var 6) .nil))) .nil))))
      .nil))))
      (.cons (.ret (.bi .tuple false (.cons (.lc false (.var 6) (.tp [3, 6]) (.seq (.bi .sorted false (.cons (.var 5) .nil))) .nil [3, 6]) .nil)))
      .nil))), none⟩
def rfraw_turn : DefR := ⟨"raw_turn", top 26, ["world", "judges", "order", "issue", "ones", "settled", "value"], ["world", "judges", "order"], fraw_turn⟩
/-- in_turn(world, judges, order): 0 world 1 judges 2 order -/
def fin_turn : Fn := ⟨3, 3,
    (.cons (.exp (.call "check_judges" (.cons (.var 0) (.cons (.var 1) .nil))))
      (.cons (.ite (.not (.call "are_all" (.cons (.var 2) (.cons (.bi .len false (.cons (.idx (.var 0) (.int 0)) .nil)) .nil))))
      (.cons (.raise "NoOrder" .nil)
      .nil)
      .nil)
      (.cons (.ret (.call "raw_turn" (.cons (.var 0) (.cons (.var 1) (.cons (.var 2) .nil)))))
      .nil))), none⟩
def rfin_turn : DefR := ⟨"in_turn", top 27, ["world", "judges", "order"], ["world", "judges", "order"], fin_turn⟩
/-- raw_turns(world, judges): 0 world 1 judges 2 orders 3 order -/
def fraw_turns : Fn := ⟨2, 4,
    (.cons (.set 2 (.call "all_rows" (.cons (.rg false false (.cons (.bi .len false (.cons (.idx (.var 0) (.int 0)) .nil)) .nil)) .nil)))
      (.cons (.ret (.dsort false false (.dsc (.call "raw_turn" (.cons (.var 0) (.cons (.var 1) (.cons (.var 3) .nil)))) 3 (.seq (.var 2)))))
      .nil)), none⟩
def rfraw_turns : DefR := ⟨"raw_turns", top 28, ["world", "judges", "orders", "order"], ["world", "judges"], fraw_turns⟩
/-- all_in_turn(world, judges): 0 world 1 judges -/
def fall_in_turn : Fn := ⟨2, 2,
    (.cons (.exp (.call "check_judges" (.cons (.var 0) (.cons (.var 1) .nil))))
      (.cons (.ret (.bi .tuple false (.cons (.call "raw_turns" (.cons (.var 0) (.cons (.var 1) .nil))) .nil)))
      .nil)), none⟩
def rfall_in_turn : DefR := ⟨"all_in_turn", top 29, ["world", "judges"], ["world", "judges"], fall_in_turn⟩
/-- sure_issues(world, judges): 0 world 1 judges 2 rows 3 found 4 issue 5 value 6 row -/
def fsure_issues : Fn := ⟨2, 7,
    (.cons (.exp (.call "check_judges" (.cons (.var 0) (.cons (.var 1) .nil))))
      (.cons (.par 2 3 (.call "raw_turns" (.cons (.var 0) (.cons (.var 1) .nil))) (.lst true .nil))
      (.cons (.for_ (.tp [4, 5]) (.enm (.idx (.var 2) (.int 0)))
      (.cons (.ite (.bi .all false (.cons (.lc false (.cmp .eq (.idx (.var 6) (.var 4)) (.var 5)) (.nm 6) (.seq (.var 2)) .nil [6]) .nil))
      (.cons (.exp (.met .append (.var 3) (.cons (.tup (.cons (.var 4) (.cons (.var 5) .nil))) .nil)))
      .nil)
      .nil)
      .nil))
      (.cons (.ret (.bi .tuple false (.cons (.var 3) .nil)))
      .nil)))), none⟩
def rfsure_issues : DefR := ⟨"sure_issues", top 30, ["world", "judges", "rows", "found", "issue", "value", "row"], ["world", "judges"], fsure_issues⟩
/-- _law_hand(script): 0 script 1 cells 2 cell -/
def f_law_hand : Fn := ⟨1, 3,
    (.cons (.set 1 (.lc false (.bi .abs false (.cons (.bi .int false (.cons (.var 2) .nil)) .nil)) (.nm 2) (.seq (.sli false (.var 0) .nil (.cons (.int 63) .nil))) .nil [2]))
      (.cons (.ret (.lst true (.cons (.var 1) (.cons (.int 0) (.cons (.int 0) (.cons (.bin .add false (.int 61) (.bin .mul false (.int 7) (.bi .len false (.cons (.var 1) .nil)))) (.cons (.int 0) .nil)))))))
      .nil)), none⟩
def rf_law_hand : DefR := ⟨"_law_hand", top 32, ["script", "cells", "cell"], ["script"], f_law_hand⟩
/-- _law_draw(hand, many): 0 hand 1 many 2 number 3 cell 4 digit -/
def f_law_draw : Fn := ⟨2, 5,
    (.cons (.ite (.andL (.cons (.cmp .eq (.idx (.var 0) (.int 2)) (.int 0)) (.cons (.cmp .lt (.idx (.var 0) (.int 1)) (.bi .len false (.cons (.idx (.var 0) (.int 0)) .nil))) .nil)))
      (.cons (.set 3 (.idx (.idx (.var 0) (.int 0)) (.idx (.var 0) (.int 1))))
      (.cons (.setI (.var 0) (.int 1) (.bin .add false (.idx (.var 0) (.int 1)) (.int 1)))
      (.cons (.setI (.var 0) (.int 3) (.bin .mod false (.bi .int false (.cons (.bin .add false (.bin .add false (.bin .mul false (.idx (.var 0) (.int 3)) (.int 69621)) (.bin .mul false (.var 3) (.int 40692))) (.int 31)) .nil)) (.int 2147483629)))
      (.cons (.ite (.cmp .ge (.var 3) (.bin .pow false (.int 10) (.int 18)))
      (.cons (.setI (.var 0) (.int 2) (.var 3))
      .nil)
      .nil)
      .nil))))
      .nil)
      (.cons (.ite (.cmp .gt (.idx (.var 0) (.int 2)) (.int 0))
      (.cons (.set 4 (.bin .mod false (.bi .int false (.cons (.idx (.var 0) (.int 2)) .nil)) (.var 1)))
      (.cons (.setI (.var 0) (.int 2) (.bin .fdiv false (.idx (.var 0) (.int 2)) (.var 1)))
      (.cons (.ret (.var 4))
      .nil)))
      .nil)
      (.cons (.setI (.var 0) (.int 4) (.bin .add false (.idx (.var 0) (.int 4)) (.int 1)))
      (.cons (.set 2 (.bin .mod false (.bi .int false (.cons (.bin .mul false (.bi .int false (.cons (.bin .add false (.idx (.var 0) (.int 3)) (.bin .mul false (.int 7919) (.idx (.var 0) (.int 4)))) .nil)) (.int 48271)) .nil)) (.int 2147483647)))
      (.cons (.set 2 (.bin .mod false (.bi .int false (.cons (.bin .mul false (.var 2) (.bin .add false (.bin .fdiv false (.var 2) (.int 1009)) (.int 69621))) .nil)) (.int 2147483647)))
      (.cons (.set 2 (.bin .mod false (.bi .int false (.cons (.bin .mul false (.var 2) (.bin .add false (.bin .fdiv false (.var 2) (.int 2003)) (.int 40014))) .nil)) (.int 2147483563)))
      (.cons (.ret (.bin .mod false (.bi .int false (.cons (.bin .fdiv false (.var 2) (.int 16)) .nil)) (.var 1)))
      .nil))))))), none⟩
def rf_law_draw : DefR := ⟨"_law_draw", top 33, ["hand", "many", "number", "cell", "digit"], ["hand", "many"], f_law_draw⟩
/-- _law_any(hand, some): 0 hand 1 some -/
def f_law_any : Fn := ⟨2, 2,
    (.cons (.ret (.idx (.var 1) (.call "_law_draw" (.cons (.var 0) (.cons (.bi .len false (.cons (.var 1) .nil)) .nil)))))
      .nil), none⟩
def rf_law_any : DefR := ⟨"_law_any", top 34, ["hand", "some"], ["hand", "some"], f_law_any⟩
/-- _law_world(hand, most): 0 hand 1 most 2 j 3 every 4 step 5 told 6 row -/
def f_law_world : Fn := ⟨2, 7,
    (.cons (.set 2 (.bin .add false (.int 1) (.call "_law_draw" (.cons (.var 0) (.cons (.var 1) .nil)))))
      (.cons (.set 3 (.lst false (.cons (.tup .nil) .nil)))
      (.cons (.for_ (.nm 4) (.rng0 (.var 2))
      (.cons (.set 3 (.bin .add false (.lc false (.bin .add false (.var 6) (.tup (.cons (.int 0) .nil))) (.nm 6) (.seq (.var 3)) .nil [6]) (.lc false (.bin .add false (.var 6) (.tup (.cons (.int 1) .nil))) (.nm 6) (.seq (.var 3)) .nil [6])))
      .nil))
      (.cons (.set 5 (.dnew true))
      (.cons (.for_ (.nm 4) (.rng0 (.bin .add false (.int 1) (.call "_law_draw" (.cons (.var 0) (.cons (.int 7) .nil)))))
      (.cons (.dput (.var 5) (.call "_law_any" (.cons (.var 0) (.cons (.var 3) .nil))) (.bl true))
      .nil))
      (.cons (.ret (.bi .tuple false (.cons (.dsort false false (.var 5)) .nil)))
      .nil)))))), none⟩
def rf_law_world : DefR := ⟨"_law_world", top 35, ["hand", "most", "j", "every", "step", "told", "row"], ["hand", "most"], f_law_world⟩
/-- _law_judges(hand, world, most): 0 hand 1 world 2 most 3 step -/
def f_law_judges : Fn := ⟨3, 4,
    (.cons (.ret (.bi .tuple false (.cons (.lc false (.call "_law_any" (.cons (.var 0) (.cons (.var 1) .nil))) (.nm 3) (.rng0 (.bin .add false (.int 1) (.call "_law_draw" (.cons (.var 0) (.cons (.var 2) .nil))))) .nil [3]) .nil)))
      .nil), none⟩
def rf_law_judges : DefR := ⟨"_law_judges", top 36, ["hand", "world", "most", "step"], ["hand", "world", "most"], f_law_judges⟩
/-- _law_majority(judges): 0 judges 1 found 2 at 3 ones 4 one -/
def f_law_majority : Fn := ⟨1, 5,
    (.cons (.set 1 (.lst true .nil))
      (.cons (.for_ (.nm 2) (.rng0 (.bi .len false (.cons (.idx (.var 0) (.int 0)) .nil)))
      (.cons (.set 3 (.bi .len false (.cons (.lc false (.int 1) (.nm 4) (.seq (.var 0)) (.cons (.cmp .eq (.idx (.var 4) (.var 2)) (.int 1)) .nil) [4]) .nil)))
      (.cons (.ite (.cmp .eq (.bin .mul false (.int 2) (.var 3)) (.bi .len false (.cons (.var 0) .nil)))
      (.cons (.ret .non)
      .nil)
      .nil)
      (.cons (.exp (.met .append (.var 1) (.cons (.bi .int false (.cons (.cmp .gt (.bin .mul false (.int 2) (.var 3)) (.bi .len false (.cons (.var 0) .nil))) .nil)) .nil)))
      .nil))))
      (.cons (.ret (.bi .tuple false (.cons (.var 1) .nil)))
      .nil))), none⟩
def rf_law_majority : DefR := ⟨"_law_majority", top 37, ["judges", "found", "at", "ones", "one"], ["judges"], f_law_majority⟩
/-- _law_no_world(hand): 0 hand 1 some -/
def f_law_no_world : Fn := ⟨1, 2,
    (.cons (.set 1 (.lst false (.cons .non (.cons (.tup .nil) (.cons (.int 0) (.cons (.tup (.cons (.tup (.cons (.int 2) .nil)) .nil)) (.cons (.lst false (.cons (.tup (.cons (.int 0) .nil)) .nil)) (.cons (.tup (.cons (.tup .nil) .nil)) (.cons (.tup (.cons (.tup (.cons (.int 0) .nil)) (.cons (.tup (.cons (.int 0) .nil)) .nil))) (.cons (.tup (.cons (.tup (.cons (.int 1) .nil)) (.cons (.tup (.cons (.int 0) .nil)) .nil))) (.cons (.tup (.cons (.tup (.cons (.int 0) .nil)) (.cons (.tup (.cons (.int 0) (.cons (.int 1) .nil))) .nil))) (.cons (.tup (.cons (.tup (.cons (.bl true) .nil)) .nil)) (.cons (.tup (.cons (.lst false (.cons (.int 0) .nil)) .nil)) .nil)))))))))))))
      (.cons (.ret (.call "_law_any" (.cons (.var 0) (.cons (.bin .add false (.var 1) (.lst false (.cons (.tup (.cons (.bin .mul false (.tup (.cons (.int 0) .nil)) (.int 6)) .nil)) (.cons (.frz (.dnew false)) .nil)))) .nil))))
      .nil)), none⟩
def rf_law_no_world : DefR := ⟨"_law_no_world", top 38, ["hand", "some"], ["hand"], f_law_no_world⟩
/-- _law_no_judges(hand, world): 0 hand 1 world 2 j 3 some -/
def f_law_no_judges : Fn := ⟨2, 4,
    (.cons (.set 2 (.bi .len false (.cons (.idx (.var 1) (.int 0)) .nil)))
      (.cons (.set 3 (.lst false (.cons .non (.cons (.tup .nil) (.cons (.bi .list false (.cons (.var 1) .nil)) (.cons (.bin .mul false (.tup (.cons (.idx (.var 1) (.int 0)) .nil)) (.int 10)) (.cons (.tup (.cons (.bin .mul false (.tup (.cons (.int 2) .nil)) (.var 2)) .nil)) (.cons (.tup (.cons (.bi .list false (.cons (.idx (.var 1) (.int 0)) .nil)) .nil)) (.cons (.tup (.cons (.bin .mul false (.tup (.cons (.int 0) .nil)) (.bin .add false (.var 2) (.int 1))) .nil)) (.cons (.int 0) .nil))))))))))
      (.cons (.ret (.call "_law_any" (.cons (.var 0) (.cons (.var 3) .nil))))
      .nil))), none⟩
def rf_law_no_judges : DefR := ⟨"_law_no_judges", top 39, ["hand", "world", "j", "some"], ["hand", "world"], f_law_no_judges⟩
/-- _law_word(call): 0 call 1 word 2 flags 3 names 4 e -/
def wf_law_word : WFn := ⟨5, some (1, "let"), [⟨"TooMany", 4, (.cons .bad
      .nil)⟩,
    ⟨"VoteError", 4, (.cons (.set 2 (.lst false (.cons (.isE 4 "NoCount") (.cons (.isE 4 "NoJudges") (.cons (.isE 4 "NoOrder") (.cons (.isE 4 "NoQuotas") .nil))))))
      (.cons (.set 2 (.bin .add false (.var 2) (.lst false (.cons (.isE 4 "NoSaying") (.cons (.isE 4 "NoWorld") .nil)))))
      (.cons (.set 3 (.lst false (.cons (.str "count") (.cons (.str "judges") (.cons (.str "order") (.cons (.str "quotas") (.cons (.str "saying") (.cons (.str "world") .nil))))))))
      (.cons (.set 1 (.ite (.cmp .eq (.met .count (.var 2) (.cons (.bl true) .nil)) (.int 1)) (.idx (.var 3) (.met .index (.var 2) (.cons (.bl true) .nil))) (.str "other")))
      .nil))))⟩], (.cons (.ret (.var 1))
      .nil), ["TooMany", "NoCount", "NoJudges", "NoOrder", "NoQuotas", "NoSaying", "NoWorld"]⟩
def f_law_word : Fn := ⟨1, 5, .nil, some wf_law_word⟩
def rf_law_word : DefR := ⟨"_law_word", top 40, ["call", "word", "flags", "names", "e"], ["call"], f_law_word⟩
/-- _law_turn(world, judges, order): 0 world 1 judges 2 order 3 left 4 issue 5 ones 6 value 7 some 8 one -/
def f_law_turn : Fn := ⟨3, 9,
    (.cons (.set 3 (.bi .list false (.cons (.var 0) .nil)))
      (.cons (.for_ (.nm 4) (.seq (.var 2))
      (.cons (.set 5 (.bi .len false (.cons (.lc false (.int 1) (.nm 8) (.seq (.var 1)) (.cons (.cmp .eq (.idx (.var 8) (.var 4)) (.int 1)) .nil) [8]) .nil)))
      (.cons (.set 6 (.bi .int false (.cons (.cmp .gt (.bin .mul false (.int 2) (.var 5)) (.bi .len false (.cons (.var 1) .nil))) .nil)))
      (.cons (.set 7 (.lc false (.var 8) (.nm 8) (.seq (.var 3)) (.cons (.cmp .eq (.idx (.var 8) (.var 4)) (.var 6)) .nil) [8]))
      (.cons (.set 3 (.ite (.cmp .ne (.var 7) (.lst false .nil)) (.var 7) (.var 3)))
      .nil)))))
      (.cons (.ret (.idx (.var 3) (.int 0)))
      .nil))), none⟩
def rf_law_turn : DefR := ⟨"_law_turn", top 41, ["world", "judges", "order", "left", "issue", "ones", "value", "some", "one"], ["world", "judges", "order"], f_law_turn⟩
/-- _law_orders(j): 0 j 1 found 2 step 3 longer 4 row 5 issue -/
def f_law_orders : Fn := ⟨1, 6,
    (.cons (.set 1 (.lst false (.cons (.tup .nil) .nil)))
      (.cons (.for_ (.nm 2) (.rng0 (.var 0))
      (.cons (.set 3 (.lst false .nil))
      (.cons (.for_ (.nm 4) (.seq (.var 1))
      (.cons (.set 3 (.bin .add false (.var 3) (.lc false (.bin .add false (.var 4) (.tup (.cons (.var 5) .nil))) (.nm 5) (.rng0 (.var 0)) (.cons (.cmp .notin (.var 5) (.var 4)) .nil) [5])))
      .nil))
      (.cons (.set 1 (.var 3))
      .nil))))
      (.cons (.ret (.var 1))
      .nil))), none⟩
def rf_law_orders : DefR := ⟨"_law_orders", top 42, ["j", "found", "step", "longer", "row", "issue"], ["j"], f_law_orders⟩
/-- law(script): 0 script 1 hand 2 turn 3 world 4 orders 5 order 6 every 7 sure 8 last 9 words 10 j 11 judges 12 bad 13 off 14 issue 15 one -/
def flaw : Fn := ⟨1, 16,
    (.cons (.set 1 (.call "_law_hand" (.cons (.var 0) .nil)))
      (.cons (.for_ (.nm 2) (.rng0 (.int 3))
      (.cons (.set 3 (.call "_law_world" (.cons (.var 1) (.cons (.int 4) .nil))))
      (.cons (.asg (.tp [10, 11]) (.tup (.cons (.bi .len false (.cons (.idx (.var 3) (.int 0)) .nil)) (.cons (.call "_law_judges" (.cons (.var 1) (.cons (.var 3) (.cons (.int 9) .nil)))) .nil))))
      (.cons (.set 4 (.call "_law_orders" (.cons (.var 10) .nil)))
      (.cons (.set 5 (.call "_law_any" (.cons (.var 1) (.cons (.var 4) .nil))))
      (.cons (.ite (.cmp .ne (.call "in_turn" (.cons (.var 3) (.cons (.var 11) (.cons (.var 5) .nil)))) (.call "_law_turn" (.cons (.var 3) (.cons (.var 11) (.cons (.var 5) .nil)))))
      (.cons (.ret (.bl false))
      .nil)
      .nil)
      (.cons (.set 6 (.dsort false false (.bi .dictP false (.cons (.lc false (.tup (.cons (.call "_law_turn" (.cons (.var 3) (.cons (.var 11) (.cons (.var 15) .nil)))) (.cons (.bl true) .nil))) (.nm 15) (.seq (.var 4)) .nil [15]) .nil))))
      (.cons (.ite (.orL (.cons (.cmp .ne (.call "all_in_turn" (.cons (.var 3) (.cons (.var 11) .nil))) (.bi .tuple false (.cons (.var 6) .nil))) (.cons (.not (.bi .all false (.cons (.lc false (.cmp .in_ (.var 15) (.var 3)) (.nm 15) (.seq (.var 6)) .nil [15]) .nil))) .nil)))
      (.cons (.ret (.bl false))
      .nil)
      .nil)
      (.cons (.set 7 (.lc false (.tup (.cons (.var 14) (.cons (.idx (.idx (.var 6) (.int 0)) (.var 14)) .nil))) (.nm 14) (.rng0 (.var 10)) (.cons (.bi .all false (.cons (.lc false (.cmp .eq (.idx (.var 15) (.var 14)) (.idx (.idx (.var 6) (.int 0)) (.var 14))) (.nm 15) (.seq (.var 6)) .nil [15]) .nil)) .nil) [14]))
      (.cons (.ite (.cmp .ne (.call "sure_issues" (.cons (.var 3) (.cons (.var 11) .nil))) (.bi .tuple false (.cons (.var 7) .nil)))
      (.cons (.ret (.bl false))
      .nil)
      .nil)
      (.cons (.ite (.andL (.cons (.cmp .in_ (.call "_law_majority" (.cons (.var 11) .nil)) (.var 3)) (.cons (.cmp .ne (.var 6) (.lst false (.cons (.call "_law_majority" (.cons (.var 11) .nil)) .nil))) .nil)))
      (.cons (.ret (.bl false))
      .nil)
      .nil)
      (.cons (.asg (.tp [12, 13]) (.tup (.cons (.call "_law_no_world" (.cons (.var 1) .nil)) (.cons (.call "_law_no_judges" (.cons (.var 1) (.cons (.var 3) .nil))) .nil))))
      (.cons (.set 8 (.call "_law_any" (.cons (.var 1) (.cons (.lst false (.cons .non (.cons (.tup .nil) (.cons (.bi .list false (.cons (.var 5) .nil)) (.cons (.bin .add false (.var 5) (.tup (.cons (.int 0) .nil))) (.cons (.bin .mul false (.tup (.cons (.var 10) .nil)) (.var 10)) (.cons (.int 0) .nil))))))) .nil))))
      (.cons (.set 9 (.lst true (.cons (.word "_law_word" "in_turn" (.cons (.var 12) (.cons (.var 13) (.cons (.var 8) .nil)))) .nil)))
      (.cons (.exp (.met .append (.var 9) (.cons (.word "_law_word" "in_turn" (.cons (.var 3) (.cons (.var 13) (.cons (.var 8) .nil)))) .nil)))
      (.cons (.exp (.met .append (.var 9) (.cons (.word "_law_word" "in_turn" (.cons (.var 3) (.cons (.var 11) (.cons (.var 8) .nil)))) .nil)))
      (.cons (.exp (.met .append (.var 9) (.cons (.word "_law_word" "all_in_turn" (.cons (.var 3) (.cons (.var 13) .nil))) .nil)))
      (.cons (.exp (.met .append (.var 9) (.cons (.word "_law_word" "sure_issues" (.cons (.var 12) (.cons (.var 13) .nil))) .nil)))
      (.cons (.ite (.cmp .ne (.var 9) (.lst false (.cons (.str "world") (.cons (.str "judges") (.cons (.str "order") (.cons (.str "judges") (.cons (.str "world") .nil)))))))
      (.cons (.ret (.bl false))
      .nil)
      .nil)
      .nil)))))))))))))))))))
      (.cons (.ret (.bl true))
      .nil))), none⟩
def rflaw : DefR := ⟨"law", top 43, ["script", "hand", "turn", "world", "orders", "order", "every", "sure", "last", "words", "j", "judges", "bad", "off", "issue", "one"], ["script"], flaw⟩
def tb : List DefR := [rfis_integer, rfis_within, rfis_sized, rfare_all, rfall_rows, rfis_saying, rfis_world, rfcheck_world, rfare_judges, rfcheck_judges, rfones_of, rfhas_pairs, rfcan_stand, rfraw_turn, rfin_turn, rfraw_turns, rfall_in_turn, rfsure_issues, rf_law_hand, rf_law_draw, rf_law_any, rf_law_world, rf_law_judges, rf_law_majority, rf_law_no_world, rf_law_no_judges, rf_law_word, rf_law_turn, rf_law_orders, rflaw]
def gcB (x : Str) : Bool := decide (x = "MOST_ISSUES") || decide (x = "MOST_JUDGES")
def gc (x : Str) : Option PyData := if x = "MOST_ISSUES" then some (.int 5) else if x = "MOST_JUDGES" then some (.int 9) else none
def es : List Str := ["NoJudges", "NoOrder", "NoWorld"]
set_option maxRecDepth 1000000
theorem ok_fis_integer : DefOk (tabP tb gcB es) rfis_integer = true := by decide +kernel
theorem ok_fis_within : DefOk (tabP tb gcB es) rfis_within = true := by decide +kernel
theorem ok_fis_sized : DefOk (tabP tb gcB es) rfis_sized = true := by decide +kernel
theorem ok_fare_all : DefOk (tabP tb gcB es) rfare_all = true := by decide +kernel
theorem ok_fall_rows : DefOk (tabP tb gcB es) rfall_rows = true := by decide +kernel
theorem ok_fis_saying : DefOk (tabP tb gcB es) rfis_saying = true := by decide +kernel
theorem ok_fis_world : DefOk (tabP tb gcB es) rfis_world = true := by decide +kernel
theorem ok_fcheck_world : DefOk (tabP tb gcB es) rfcheck_world = true := by decide +kernel
theorem ok_fare_judges : DefOk (tabP tb gcB es) rfare_judges = true := by decide +kernel
theorem ok_fcheck_judges : DefOk (tabP tb gcB es) rfcheck_judges = true := by decide +kernel
theorem ok_fones_of : DefOk (tabP tb gcB es) rfones_of = true := by decide +kernel
theorem ok_fhas_pairs : DefOk (tabP tb gcB es) rfhas_pairs = true := by decide +kernel
theorem ok_fcan_stand : DefOk (tabP tb gcB es) rfcan_stand = true := by decide +kernel
theorem ok_fraw_turn : DefOk (tabP tb gcB es) rfraw_turn = true := by decide +kernel
theorem ok_fin_turn : DefOk (tabP tb gcB es) rfin_turn = true := by decide +kernel
theorem ok_fraw_turns : DefOk (tabP tb gcB es) rfraw_turns = true := by decide +kernel
theorem ok_fall_in_turn : DefOk (tabP tb gcB es) rfall_in_turn = true := by decide +kernel
theorem ok_fsure_issues : DefOk (tabP tb gcB es) rfsure_issues = true := by decide +kernel
theorem ok_f_law_hand : DefOk (tabP tb gcB es) rf_law_hand = true := by decide +kernel
theorem ok_f_law_draw : DefOk (tabP tb gcB es) rf_law_draw = true := by decide +kernel
theorem ok_f_law_any : DefOk (tabP tb gcB es) rf_law_any = true := by decide +kernel
theorem ok_f_law_world : DefOk (tabP tb gcB es) rf_law_world = true := by decide +kernel
theorem ok_f_law_judges : DefOk (tabP tb gcB es) rf_law_judges = true := by decide +kernel
theorem ok_f_law_majority : DefOk (tabP tb gcB es) rf_law_majority = true := by decide +kernel
theorem ok_f_law_no_world : DefOk (tabP tb gcB es) rf_law_no_world = true := by decide +kernel
theorem ok_f_law_no_judges : DefOk (tabP tb gcB es) rf_law_no_judges = true := by decide +kernel
theorem ok_f_law_word : DefOk (tabP tb gcB es) rf_law_word = true := by decide +kernel
theorem ok_f_law_turn : DefOk (tabP tb gcB es) rf_law_turn = true := by decide +kernel
theorem ok_f_law_orders : DefOk (tabP tb gcB es) rf_law_orders = true := by decide +kernel
theorem ok_flaw : DefOk (tabP tb gcB es) rflaw = true := by decide +kernel
theorem tb_ok : ∀ r ∈ tb, DefOk (tabP tb gcB es) r = true := all_cons ok_fis_integer (all_cons ok_fis_within (all_cons ok_fis_sized (all_cons ok_fare_all (all_cons ok_fall_rows (all_cons ok_fis_saying (all_cons ok_fis_world (all_cons ok_fcheck_world (all_cons ok_fare_judges (all_cons ok_fcheck_judges (all_cons ok_fones_of (all_cons ok_fhas_pairs (all_cons ok_fcan_stand (all_cons ok_fraw_turn (all_cons ok_fin_turn (all_cons ok_fraw_turns (all_cons ok_fall_in_turn (all_cons ok_fsure_issues (all_cons ok_f_law_hand (all_cons ok_f_law_draw (all_cons ok_f_law_any (all_cons ok_f_law_world (all_cons ok_f_law_judges (all_cons ok_f_law_majority (all_cons ok_f_law_no_world (all_cons ok_f_law_no_judges (all_cons ok_f_law_word (all_cons ok_f_law_turn (all_cons ok_f_law_orders (all_cons ok_flaw all_nil)))))))))))))))))))))))))))))
theorem tb_T : ∀ r ∈ tb, tabT tb r.x = some r.fn := all_cons rfl (all_cons rfl (all_cons rfl (all_cons rfl (all_cons rfl (all_cons rfl (all_cons rfl (all_cons rfl (all_cons rfl (all_cons rfl (all_cons rfl (all_cons rfl (all_cons rfl (all_cons rfl (all_cons rfl (all_cons rfl (all_cons rfl (all_cons rfl (all_cons rfl (all_cons rfl (all_cons rfl (all_cons rfl (all_cons rfl (all_cons rfl (all_cons rfl (all_cons rfl (all_cons rfl (all_cons rfl (all_cons rfl (all_cons rfl all_nil)))))))))))))))))))))))))))))
theorem tb_law : rflaw ∈ tb := List.mem_of_getElem? (i := 29) rfl
end EvLaw

set_option Elab.async false
set_option linter.all false
set_option autoImplicit false
set_option maxRecDepth 100000
set_option maxHeartbeats 4000000
namespace Ev
open PySem
def C_law_hand : Fn := ⟨1, 3,
    (.cons (.set 1 (.lc false (.bi .abs false (.cons (.bi .int false (.cons (.var 2) .nil)) .nil)) (.nm 2) (.seq (.sli false (.var 0) .nil (.cons (.int 63) .nil))) .nil [2]))
      (.cons (.ret (.lst true (.cons (.var 1) (.cons (.int 0) (.cons (.int 0) (.cons (.bin .add false (.int 61) (.bin .mul false (.int 7) (.bi .len false (.cons (.var 1) .nil)))) (.cons (.int 0) .nil)))))))
      .nil)), none⟩
def C_law_draw : Fn := ⟨2, 5,
    (.cons (.ite (.andL (.cons (.cmp .eq (.idx (.var 0) (.int 2)) (.int 0)) (.cons (.cmp .lt (.idx (.var 0) (.int 1)) (.bi .len false (.cons (.idx (.var 0) (.int 0)) .nil))) .nil)))
      (.cons (.set 3 (.idx (.idx (.var 0) (.int 0)) (.idx (.var 0) (.int 1))))
      (.cons (.setI (.var 0) (.int 1) (.bin .add false (.idx (.var 0) (.int 1)) (.int 1)))
      (.cons (.setI (.var 0) (.int 3) (.bin .mod false (.bi .int false (.cons (.bin .add false (.bin .add false (.bin .mul false (.idx (.var 0) (.int 3)) (.int 69621)) (.bin .mul false (.var 3) (.int 40692))) (.int 31)) .nil)) (.int 2147483629)))
      (.cons (.ite (.cmp .ge (.var 3) (.bin .pow false (.int 10) (.int 18)))
      (.cons (.setI (.var 0) (.int 2) (.var 3))
      .nil)
      .nil)
      .nil))))
      .nil)
      (.cons (.ite (.cmp .gt (.idx (.var 0) (.int 2)) (.int 0))
      (.cons (.set 4 (.bin .mod false (.bi .int false (.cons (.idx (.var 0) (.int 2)) .nil)) (.var 1)))
      (.cons (.setI (.var 0) (.int 2) (.bin .fdiv false (.idx (.var 0) (.int 2)) (.var 1)))
      (.cons (.ret (.var 4))
      .nil)))
      .nil)
      (.cons (.setI (.var 0) (.int 4) (.bin .add false (.idx (.var 0) (.int 4)) (.int 1)))
      (.cons (.set 2 (.bin .mod false (.bi .int false (.cons (.bin .mul false (.bi .int false (.cons (.bin .add false (.idx (.var 0) (.int 3)) (.bin .mul false (.int 7919) (.idx (.var 0) (.int 4)))) .nil)) (.int 48271)) .nil)) (.int 2147483647)))
      (.cons (.set 2 (.bin .mod false (.bi .int false (.cons (.bin .mul false (.var 2) (.bin .add false (.bin .fdiv false (.var 2) (.int 1009)) (.int 69621))) .nil)) (.int 2147483647)))
      (.cons (.set 2 (.bin .mod false (.bi .int false (.cons (.bin .mul false (.var 2) (.bin .add false (.bin .fdiv false (.var 2) (.int 2003)) (.int 40014))) .nil)) (.int 2147483563)))
      (.cons (.ret (.bin .mod false (.bi .int false (.cons (.bin .fdiv false (.var 2) (.int 16)) .nil)) (.var 1)))
      .nil))))))), none⟩
def C_law_any : Fn := ⟨2, 2,
    (.cons (.ret (.idx (.var 1) (.call "_law_draw" (.cons (.var 0) (.cons (.bi .len false (.cons (.var 1) .nil)) .nil)))))
      .nil), none⟩
section
variable {T : Str → Option Fn} {gc : Str → Option PyData} {F : Nat}
/-- the first part of a draw: a cell is taken up, or not -/
theorem draw_firstC {n : Nat} {h : MH} {j : Nat} {m : Int} {cells : List Int} {a b c e : Int} (hj : h[j]? = some (HandL cells a b c e)) (hl : cells.length ≤ 63) (hc : ∀ x ∈ cells, 0 ≤ x) (ha : 0 ≤ a) (hb : 0 ≤ b) (hcc : 0 ≤ c) :
    ∃ (a' b' c' : Int) (v : Option Vl), 0 ≤ a' ∧ 0 ≤ b' ∧ 0 ≤ c' ∧ evS (gs T gc F n) (match C_law_draw.body with | .cons s _ => s | .nil => .bad) [some (.r j), some (.d (.int m)), none, none, none] h = .ok (.nx [some (.r j), some (.d (.int m)), none, v, none]) (h.set j (HandL cells a' b' c' e)) := by
  have hlt : j < h.length := (List.getElem?_eq_some_iff.mp hj).1
  have hz : cells.length ≤ sz := by simp [sz]; omega
  simp only [C_law_draw]
  by_cases hb0 : b = 0
  · subst hb0
    obtain ⟨i0, i1, i2, i3, i4⟩ := hand_idx hj
    by_cases hal : a < cells.length
    · obtain ⟨x, hx, ix⟩ := idx_cells (h := h) ha hal
      have hx0 := hc x hx
      obtain ⟨s1, _, _, _⟩ := hand_set (x := a + 1) hj
      have hj1 := hand_at (o := HandL cells (a + 1) 0 c e) hlt
      obtain ⟨_, _, _, j3, _⟩ := hand_idx hj1
      obtain ⟨_, _, s3, _⟩ := hand_set (x := (c * 69621 + x * 40692 + 31).fmod 2147483629) hj1
      have hm := fmod_pos (i := c * 69621 + x * 40692 + 31) (j := 2147483629) (by decide)
      by_cases hbig : (10 : Int) ^ 18 ≤ x
      · have hj2 := hand_at (o := HandL cells (a + 1) 0 ((c * 69621 + x * 40692 + 31).fmod 2147483629) e) hlt
        obtain ⟨_, t2, _, _⟩ := hand_set (x := x) hj2
        rw [List.set_set] at s3
        refine ⟨a + 1, x, (c * 69621 + x * 40692 + 31).fmod 2147483629, some (.d (.int x)), by omega, hx0, hm.1, ?_⟩
        simp [i0, i1, i2, hal, ix, hz, s1, j3, binI_mulr, s3, t2, binI]
        simp [binI_mulr, s3, t2, binI, small64, show (1000000000000000000 : Int) ≤ x from hbig]
      · refine ⟨a + 1, 0, (c * 69621 + x * 40692 + 31).fmod 2147483629, some (.d (.int x)), by omega, hb, hm.1, ?_⟩
        rw [List.set_set] at s3
        simp [i0, i1, i2, hal, ix, hz, s1, j3, binI_mulr, s3, binI]
        simp [binI_mulr, s3, binI, small64, show ¬ (1000000000000000000 : Int) ≤ x from hbig]
    · refine ⟨a, 0, c, none, ha, hb, hcc, ?_⟩
      simp [i0, i1, i2, hal, hz]
      exact (set_self' hj).symm
  · obtain ⟨i0, i1, i2, i3, i4⟩ := hand_idx hj
    refine ⟨a, b, c, none, ha, hb, hcc, ?_⟩
    simp [i2, hb0]
    exact (set_self' hj).symm
theorem draw_okC (hT : T "_law_draw" = some C_law_draw) {n : Nat} {h : MH} {j : Nat} {m : Int} (hh : Hand h j) (hm : 1 ≤ m) (hm2 : m < 1073741824) :
    ∃ (r : Int) (o : MO), run T gc F (n + 1) "_law_draw" [.r j, .d (.int m)] h = .ok (.d (.int r)) (h.set j o) ∧ 0 ≤ r ∧ r < m ∧ Hand (h.set j o) j := by
  have hlt := hh.lt
  obtain ⟨cells, a, b, c, e, hj, hl, hc, ha, hb, hcc, he⟩ := hh
  obtain ⟨a', b', c', v, ha', hb', hc', e1⟩ := draw_firstC (T := T) (gc := gc) (F := F) (n := n) (m := m) hj hl hc ha hb hcc
  rw [run_go hT rfl]
  have hj1 := hand_at (o := HandL cells a' b' c' e) hlt
  obtain ⟨i0, i1, i2, i3, i4⟩ := hand_idx hj1
  have hm0 : m ≠ 0 := by omega
  have hmn : m.natAbs < 1073741824 := by omega
  have e1' : ∀ r, evSs (gs T gc F n) (.cons (match C_law_draw.body with | .cons s _ => s | .nil => .bad) r) [some (.r j), some (.d (.int m)), none, none, none] h = evSs (gs T gc F n) r [some (.r j), some (.d (.int m)), none, v, none] (h.set j (HandL cells a' b' c' e)) := fun r => by
    rw [evSs_cons, e1]; rfl
  have e2 := e1' (match C_law_draw.body with | .cons _ r => r | .nil => .nil)
  have e3 : evSs (gs T gc F n) C_law_draw.body [some (.r j), some (.d (.int m)), none, none, none] h = _ := e2
  rw [show ([Vl.r j, Vl.d (.int m)].map some ++ List.replicate (C_law_draw.n - C_law_draw.ps) none) = [some (.r j), some (.d (.int m)), none, none, none] from rfl, e3]
  simp only [C_law_draw]
  by_cases hbp : 0 < b'
  · obtain ⟨_, s2, _, _⟩ := hand_set (x := b'.fdiv m) hj1
    rw [List.set_set] at s2
    refine ⟨b'.fmod m, HandL cells a' (b'.fdiv m) c' e, ?_, (fmod_pos (by omega)).1, (fmod_pos (by omega)).2, cells, a', b'.fdiv m, c', e, hand_at hlt, hl, hc, ha', fdiv_pos hb' (by omega), hc', he⟩
    simp [i2, hbp, hm0, hmn, s2]
    exact List.take_of_length_le (by rw [List.length_set]; omega)
  · obtain ⟨_, _, _, s4⟩ := hand_set (x := e + 1) hj1
    rw [List.set_set] at s4
    have hj2 := hand_at (o := HandL cells a' b' c' (e + 1)) hlt
    obtain ⟨_, _, _, k3, k4⟩ := hand_idx hj2
    have q1 := fmod_pos (i := (c' + 7919 * (e + 1)) * 48271) (j := 2147483647) (by decide)
    generalize hn1 : ((c' + 7919 * (e + 1)) * 48271).fmod 2147483647 = n1 at q1
    have q2 := fmod_pos (i := n1 * (n1.fdiv 1009 + 69621)) (j := 2147483647) (by decide)
    generalize hn2 : (n1 * (n1.fdiv 1009 + 69621)).fmod 2147483647 = n2 at q2
    have q3 := fmod_pos (i := n2 * (n2.fdiv 2003 + 40014)) (j := 2147483563) (by decide)
    generalize hn3 : (n2 * (n2.fdiv 2003 + 40014)).fmod 2147483563 = n3 at q3
    have m1 := binI_mull n1 (n1.fdiv 1009 + 69621) (by omega) (by omega)
    have m2 := binI_mull n2 (n2.fdiv 2003 + 40014) (by omega) (by omega)
    refine ⟨(n3.fdiv 16).fmod m, HandL cells a' b' c' (e + 1), ?_, (fmod_pos (by omega)).1, (fmod_pos (by omega)).2, cells, a', b', c', e + 1, hand_at hlt, hl, hc, ha', hb', hc', by omega⟩
    simp [i2, i4, hbp, s4, k3, k4, binI_mulr, binI_mull, hn1, m1, hn2, m2, hn3, hm0]
    exact List.take_of_length_le (by rw [List.length_set]; omega)
theorem hand_okC (hT : T "_law_hand" = some C_law_hand) {n : Nat} {h : MH} {ns : List Int} (hn : ns.length ≤ 63) : ∃ o, run T gc F (n + 1) "_law_hand" [.sc ns] h = .ok (.r h.length) (h ++ [o]) ∧ Hand (h ++ [o]) h.length := by
  rw [run_go hT rfl]
  have hcut : cutL ns none (some 63) = ns := by
    simp [cutL, cutAt]
    exact List.take_of_length_le (by omega)
  have hz : ns.length ≤ sz := by simp [sz]; omega
  have e1 : sliV false (.sc ns) none (some 63) h = .ok (.d (.list (ns.map .int))) h := by
    show mkl false ((cutL ns none (some 63)).map fun n => .d (.int n)) h = _
    rw [hcut]
    have := mkl_d h (ns.map .int)
    rw [List.map_map] at this
    exact this
  refine ⟨HandL (ns.map fun x => (x.natAbs : Int)) 0 0 (61 + 7 * ns.length) 0, ?_, ns.map (fun x => (x.natAbs : Int)), 0, 0, 61 + 7 * ns.length, 0, by rw [List.getElem?_append_right (Nat.le_refl _)]; simp, by simpa using hn, ?_, by omega, by omega, by omega, by omega⟩
  · simp [C_law_hand, optI, e1, hz]
    rw [lc_map h (fun x => .int x.natAbs) hz (fun x _ => by simp)]
    simp [hz, binI_mull, HandL]
  · intro x hx
    obtain ⟨y, _, rfl⟩ := List.mem_map.mp hx
    omega
theorem any_lC (hT : T "_law_draw" = some C_law_draw) (hT2 : T "_law_any" = some C_law_any) {n : Nat} {h : MH} {j : Nat} {xs : List PyData} (hh : Hand h j) (hx : xs ≠ []) (hz : xs.length ≤ sz) :
    ∃ (x : PyData) (o : MO), x ∈ xs ∧ run T gc F (n + 2) "_law_any" [.r j, .d (.list xs)] h = .ok (.d x) (h.set j o) ∧ Hand (h.set j o) j := by
  have hl : 0 < xs.length := List.length_pos_iff.mpr hx
  have hz' : xs.length < 1073741824 := Nat.lt_of_le_of_lt hz (by decide)
  obtain ⟨r, o, e, h1, h2, h3⟩ := draw_okC (gc := gc) (F := F) hT (n := n) (m := xs.length) hh (by omega) (by omega)
  have hr : r.toNat < xs.length := by omega
  refine ⟨xs[r.toNat], o, List.getElem_mem hr, ?_, h3⟩
  rw [run_go hT2 rfl]
  simp [C_law_any, hz, e, idxV, items, ixOf, h1, h2, hr]
  exact List.take_of_length_le (by rw [List.length_set]; omega)
theorem any_tC (hT : T "_law_draw" = some C_law_draw) (hT2 : T "_law_any" = some C_law_any) {n : Nat} {h : MH} {j : Nat} {xs : List PyData} (hh : Hand h j) (hx : xs ≠ []) (hz : xs.length ≤ sz) :
    ∃ (x : PyData) (o : MO), x ∈ xs ∧ run T gc F (n + 2) "_law_any" [.r j, .d (.tuple xs)] h = .ok (.d x) (h.set j o) ∧ Hand (h.set j o) j := by
  have hl : 0 < xs.length := List.length_pos_iff.mpr hx
  have hz' : xs.length < 1073741824 := Nat.lt_of_le_of_lt hz (by decide)
  obtain ⟨r, o, e, h1, h2, h3⟩ := draw_okC (gc := gc) (F := F) hT (n := n) (m := xs.length) hh (by omega) (by omega)
  have hr : r.toNat < xs.length := by omega
  refine ⟨xs[r.toNat], o, List.getElem_mem hr, ?_, h3⟩
  rw [run_go hT2 rfl]
  simp [C_law_any, hz, e, idxV, items, ixOf, h1, h2, hr]
  exact List.take_of_length_le (by rw [List.length_set]; omega)
theorem draw_cC (hT : T "_law_draw" = some C_law_draw) {n : Nat} {o : MO} {l : MH} {m : Int} (hh : HandO o) (hm : 1 ≤ m) (hm2 : m < 1073741824) :
    ∃ (r : Int) (o' : MO), run T gc F (n + 1) "_law_draw" [.r 0, .d (.int m)] (o :: l) = .ok (.d (.int r)) (o' :: l) ∧ 0 ≤ r ∧ r < m ∧ HandO o' := by
  obtain ⟨r, o', e, h1, h2, h3⟩ := draw_okC (gc := gc) (F := F) hT (n := n) (hh.cons l) hm hm2
  exact ⟨r, o', e, h1, h2, HandO.of (l := l) h3⟩
theorem any_cC (hT : T "_law_draw" = some C_law_draw) (hT2 : T "_law_any" = some C_law_any) {n : Nat} {o : MO} {l : MH} {xs : List PyData} (hh : HandO o) (hx : xs ≠ []) (hz : xs.length ≤ sz) :
    ∃ (x : PyData) (o' : MO), x ∈ xs ∧ run T gc F (n + 2) "_law_any" [.r 0, .d (.list xs)] (o :: l) = .ok (.d x) (o' :: l) ∧ HandO o' := by
  obtain ⟨x, o', h1, e, h2⟩ := any_lC (gc := gc) (F := F) hT hT2 (n := n) (hh.cons l) hx hz
  exact ⟨x, o', h1, e, HandO.of (l := l) h2⟩
theorem anyT_cC (hT : T "_law_draw" = some C_law_draw) (hT2 : T "_law_any" = some C_law_any) {n : Nat} {o : MO} {l : MH} {xs : List PyData} (hh : HandO o) (hx : xs ≠ []) (hz : xs.length ≤ sz) :
    ∃ (x : PyData) (o' : MO), x ∈ xs ∧ run T gc F (n + 2) "_law_any" [.r 0, .d (.tuple xs)] (o :: l) = .ok (.d x) (o' :: l) ∧ HandO o' := by
  obtain ⟨x, o', h1, e, h2⟩ := any_tC (gc := gc) (F := F) hT hT2 (n := n) (hh.cons l) hx hz
  exact ⟨x, o', h1, e, HandO.of (l := l) h2⟩
theorem hand_cC (hT : T "_law_hand" = some C_law_hand) {n : Nat} {ns : List Int} (hn : ns.length ≤ 63) : ∃ o, run T gc F (n + 1) "_law_hand" [.sc ns] [] = .ok (.r 0) [o] ∧ HandO o := by
  obtain ⟨o, e, h⟩ := hand_okC (gc := gc) (F := F) hT (n := n) (h := []) hn
  exact ⟨o, e, h⟩
end
end Ev

set_option Elab.async false
set_option linter.all false
set_option autoImplicit false
set_option maxRecDepth 100000
set_option maxHeartbeats 8000000
namespace Ev
open PySem
open PySem.W (dataLt dataLe alike alikeAll minD maxD keyToks keyToksAll)
open PyProof.Rows (lex_irrefl lex_trans lex_total lex_negTrans)
/-! data like themselves -/
mutual
theorem eqv_ok : ∀ (d : PyData) (n : Nat), okN n d = true → PyData.eqv d d = true
  | .none, _, _ => rfl
  | .bool b, _, _ => by simp [PyData.eqv]
  | .int i, _, _ => by simp [PyData.eqv]
  | .str x, _, _ => by simp [PyData.eqv]
  | .list xs, 0, h => by cases h
  | .list xs, n + 1, h => by rw [PyData.eqv]; exact eqvAll_ok xs n h
  | .tuple xs, 0, h => by cases h
  | .tuple xs, n + 1, h => by rw [PyData.eqv]; exact eqvAll_ok xs n h
  | .dict _, 0, h => by cases h
  | .dict _, n + 1, h => by cases h
theorem eqvAll_ok : ∀ (xs : List PyData) (n : Nat), xs.all (okN n) = true → PyData.eqvAll xs xs = true
  | [], _, _ => rfl
  | x :: xs, n, h => by
    rw [List.all_cons, Bool.and_eq_true] at h
    rw [PyData.eqvAll, eqv_ok x n h.1, eqvAll_ok xs n h.2]; rfl
end
theorem ne_same (d : PyData) (h : MH) (ok : okN 40 d = true) : cmpV .ne (.d d) (.d d) h = some false := by
  have key : (if (okN 40 d && okN 40 d) = true then some (!PyData.eqv d d) else none) = some false := by rw [ok, eqv_ok d 40 ok]; rfl
  cases d with
  | int i => simp
  | _ => exact key
theorem eq_same (d : PyData) (h : MH) (ok : okN 40 d = true) : cmpV .eq (.d d) (.d d) h = some true := by
  have key : (if (okN 40 d && okN 40 d) = true then some (PyData.eqv d d) else none) = some true := by rw [ok, eqv_ok d 40 ok]; rfl
  cases d with
  | int i => simp
  | _ => exact key
theorem cmp_ne_d (a b : PyData) (h : MH) (ha : okN 40 a = true) (hb : okN 40 b = true) (hn : ∀ i j, a = .int i → b = .int j → False) : cmpV .ne (.d a) (.d b) h = some (!PyData.eqv a b) := by
  have key : (match cont (.d a) h, cont (.d b) h with | some a, some b => cmpD .ne a b | _, _ => none) = some (!PyData.eqv a b) := by
    show (if (okN 40 a && okN 40 b) = true then some (!PyData.eqv a b) else none) = _
    rw [ha, hb]; rfl
  cases a <;> cases b <;> first | exact key | exact (hn _ _ rfl rfl).elim
theorem okN_up : ∀ (d : PyData) (n : Nat), okN n d = true → okN (n + 1) d = true := by
  intro d n
  induction n generalizing d with
  | zero => intro h; cases d <;> first | rfl | cases h
  | succ n ih =>
    intro h
    cases d with
    | list xs =>
      have h : xs.all (okN n) = true := h
      show xs.all (okN (n + 1)) = true
      rw [List.all_eq_true] at h ⊢
      exact fun x hx => ih x (h x hx)
    | tuple xs =>
      have h : xs.all (okN n) = true := h
      show xs.all (okN (n + 1)) = true
      rw [List.all_eq_true] at h ⊢
      exact fun x hx => ih x (h x hx)
    | dict kvs => cases h
    | _ => rfl
theorem okN_le {d : PyData} {n m : Nat} (h : okN n d = true) (hm : n ≤ m) : okN m d = true := by
  induction m with
  | zero => have : n = 0 := by omega
            subst this; exact h
  | succ m ih =>
    by_cases e : n = m + 1
    · subst e; exact h
    · exact okN_up d m (ih (by omega))
section
variable (kvs : List (PyData × PyData))
@[simp] theorem isTy_int_dict : isTy .int (.dict kvs) = false := id rfl
@[simp] theorem isTy_bool_dict : isTy .bool (.dict kvs) = false := id rfl
@[simp] theorem isTy_str_dict : isTy .str (.dict kvs) = false := id rfl
@[simp] theorem isTy_tuple_dict : isTy .tuple (.dict kvs) = false := id rfl
@[simp] theorem isTy_list_dict : isTy .list (.dict kvs) = false := id rfl
@[simp] theorem isTy_dict_dict : isTy .dict (.dict kvs) = true := id rfl
end
/-! sorted data -/
section
variable {α : Type} (e : α → PyData)
def sortE (l : List α) : List α := l.mergeSort fun a b => dataLe false id (e a) (e b)
theorem leE (a b : PyData) : dataLe false id a b = !dataLt b a := rfl
theorem ltE (a b : PyData) : dataLt a b = PyProof.Rows.lexLt PyProof.Rows.itemOrd (keyToks a) (keyToks b) := rfl
theorem sortE_perm (l : List α) : (sortE e l).Perm l := List.mergeSort_perm ..
theorem sortE_len (l : List α) : (sortE e l).length = l.length := List.length_mergeSort ..
theorem mem_sortE {l : List α} {x : α} : x ∈ sortE e l ↔ x ∈ l := (sortE_perm e l).mem_iff
theorem sortE_pw (l : List α) : (sortE e l).Pairwise (fun a b => dataLt (e b) (e a) = false) := by
  have := List.pairwise_mergeSort (le := fun a b : α => dataLe false id (e a) (e b)) (fun a b c h1 h2 => by
    rw [leE, Bool.not_eq_true'] at *
    cases hc : dataLt (e c) (e a) with
    | false => rfl
    | true =>
      rw [ltE] at *
      rcases lex_negTrans _ (keyToks (e b)) _ hc with z | z
      · rw [z] at h2; cases h2
      · rw [z] at h1; cases h1) (fun a b => by
    rw [leE, leE]
    cases h1 : dataLt (e b) (e a) with
    | false => simp
    | true =>
      cases h2 : dataLt (e a) (e b) with
      | false => simp
      | true =>
        rw [ltE] at h1 h2
        have := lex_trans _ _ _ h1 h2
        rw [lex_irrefl] at this; cases this) l
  exact this.imp fun h => by rw [leE, Bool.not_eq_true'] at h; exact h
theorem sortE_congr (inj : ∀ a b, keyToks (e a) = keyToks (e b) → a = b) {a b : List α} (h : a.Perm b) : sortE e a = sortE e b :=
  ((sortE_perm e a).trans (h.trans (sortE_perm e b).symm)).eq_of_pairwise (fun x y _ _ h1 h2 => by
    rw [ltE] at h1 h2
    exact inj _ _ (lex_total _ _ h2 h1)) (sortE_pw e a) (sortE_pw e b)
/-- a list that is sorted already -/
theorem sortE_id (inj : ∀ a b, keyToks (e a) = keyToks (e b) → a = b) {a b : List α} (h : a.Perm b) (hp : a.Pairwise (fun x y => dataLt (e y) (e x) = false)) : sortE e b = a :=
  ((sortE_perm e b).trans h.symm).eq_of_pairwise (fun x y _ _ h1 h2 => by
    rw [ltE] at h1 h2
    exact inj _ _ (lex_total _ _ h2 h1)) (sortE_pw e b) hp
theorem lt_asym {a b : PyData} (h : dataLt a b = true) : dataLt b a = false := by
  cases h2 : dataLt b a with
  | false => rfl
  | true =>
    rw [ltE] at h h2
    have := lex_trans _ _ _ h h2
    rw [lex_irrefl] at this; cases this
/-- the least one stands first -/
theorem sortE_head {l : List α} {a : α} (ha : a ∈ l) (hl : ∀ x ∈ l, x ≠ a → dataLt (e a) (e x) = true) : ∃ t, sortE e l = a :: t := by
  have hp := sortE_pw e l
  have hm := (mem_sortE e).mpr ha
  cases hs : sortE e l with
  | nil => rw [hs] at hm; cases hm
  | cons x t =>
    by_cases hx : x = a
    · exact ⟨t, by rw [hx]⟩
    · rw [hs] at hp hm
      have h1 := hl x ((mem_sortE e).mp (by rw [hs]; exact List.mem_cons_self)) hx
      rcases List.mem_cons.mp hm with h2 | h2
      · exact absurd h2.symm hx
      · have := (List.pairwise_cons.mp hp).1 a h2
        rw [this] at h1; cases h1
end
/-! loops that gather -/
def dl (h : MH) (ds : List PyData) : MH := h ++ [.lst (dmap ds)]
theorem dl_app (h : MH) (ds : List PyData) (x : PyData) (hz : ds.length ≤ 1000000) : metV .append (.r h.length) [.d x] (dl h ds) = .ok (.d .none) (dl h (ds ++ [x])) := app_last h ds x (lt_sz (by omega))
theorem dl_it (h : MH) (ds : List PyData) : itemsL (.r h.length) (dl h ds) = some (dmap ds) := by simp [itemsL, dl]
theorem dl_mk (h : MH) (ds : List PyData) : mkl true (ds.map .d) h = .ok (.r h.length) (dl h ds) := mkl_t h _ (all_below_d _ _)
theorem dl_mk0 (h : MH) : mkl true [] h = .ok (.r h.length) (dl h []) := rfl
theorem dl_nil (h : MH) : h ++ [MO.lst []] = dl h [] := rfl
theorem dl_tup (h : MH) (ds : List PyData) (mk : Bool) : biV .tuple mk [.r h.length] (dl h ds) = .ok (.d (.tuple ds)) (dl h ds) := by
  have := tuple_last h ds
  cases mk <;> exact this
theorem dl_take (h : MH) (ds : List PyData) : (dl h ds).take h.length = h := by simp [dl]
theorem dl_at (h : MH) (ds : List PyData) : (dl h ds)[h.length]? = some (.lst (dmap ds)) := by simp [dl]
theorem dl_items (h : MH) (ds : List PyData) : items (.r h.length) (dl h ds) = some (dmap ds) := by simp [items, dl]
theorem dl_cont (h : MH) (ds : List PyData) : cont (.r h.length) (dl h ds) = some (.list ds) := by
  show (match (dl h ds)[h.length]? with
    | some (.lst xs) => (allD xs).map PyData.list
    | _ => none) = _
  rw [dl_at]
  show (allD (ds.map Vl.d)).map PyData.list = _
  rw [allD_map]; rfl
theorem dl_len (h : MH) (ds : List PyData) (hz : ds.length ≤ sz) (mk : Bool) : biV .len mk [.r h.length] (dl h ds) = .ok (.d (.int ds.length)) (dl h ds) := by
  show (match items (.r h.length) (dl h ds) with
    | some xs => if xs.length ≤ sz then Res.ok (Vl.d (.int xs.length)) (dl h ds) else .stuck
    | none => .stuck) = _
  rw [dl_items]
  dsimp only
  rw [dmap_len, if_pos hz]
theorem dl_frz (h : MH) (ds : List PyData) : frzV (.r h.length) (dl h ds) = .ok (.d (.list ds)) (h ++ [.dead]) := frz_last h ds
/-- a loop over data that puts g x behind a new list where p x, nothing else -/
theorem forL_gather {α : Type} {t : Tg} {b : Env → MH → Res Fl} {e : α → PyData} (p : α → Bool) (g : α → PyData) (h : MH) (I : Env → Prop) : ∀ (xs : List α) (σ : Env) (acc : List PyData), I σ → acc.length + xs.length ≤ 1000000 →
    (∀ x ∈ xs, ∀ σ acc, I σ → acc.length ≤ 1000000 → ∃ σ1, putT t (.d (e x)) σ = some σ1 ∧ ∃ σ2, (b σ1 (dl h acc) = .ok (.nx σ2) (dl h (if p x = true then acc ++ [g x] else acc)) ∨ b σ1 (dl h acc) = .ok (.ct σ2) (dl h (if p x = true then acc ++ [g x] else acc))) ∧ I σ2) →
    ∃ σ2, forL t b (dmap (xs.map e)) σ (dl h acc) = .ok (.nx σ2) (dl h (acc ++ (xs.filter p).map g)) ∧ I σ2
  | [], σ, acc, i, _, _ => ⟨σ, by simp only [List.filter_nil, List.map_nil, List.append_nil]; rfl, i⟩
  | x :: xs, σ, acc, i, hz, hs => by
    rw [List.length_cons] at hz
    obtain ⟨σ1, e1, σ2, e2, i2⟩ := hs x List.mem_cons_self σ acc i (by omega)
    have hl : (if p x = true then acc ++ [g x] else acc).length + xs.length ≤ 1000000 := by split <;> (try simp) <;> omega
    obtain ⟨σ3, e3, i3⟩ := forL_gather p g h I xs σ2 _ i2 hl fun y hy => hs y (List.mem_cons_of_mem _ hy)
    refine ⟨σ3, ?_, i3⟩
    have ea : (if p x = true then acc ++ [g x] else acc) ++ (xs.filter p).map g = acc ++ ((x :: xs).filter p).map g := by
      rw [List.filter_cons]
      by_cases hp : p x = true <;> simp [hp]
    rw [ea] at e3
    show (match putT t (.d (e x)) σ with
      | some σ1 => (b σ1 (dl h acc)).bind fun f h2 => (match f with
        | .nx σ2 => forL t b (dmap (xs.map e)) σ2 h2
        | .ct σ2 => forL t b (dmap (xs.map e)) σ2 h2
        | .bk σ2 => .ok (.nx σ2) h2
        | .rt v => .ok (.rt v) h2)
      | none => .stuck) = _
    rw [e1]
    rcases e2 with e2 | e2 <;> (dsimp only; rw [e2]; exact e3)
/-- a loop over data that keeps the heap: the state is a value for what was walked -/
theorem forL_acc {α β : Type} {t : Tg} {b : Env → MH → Res Fl} {e : α → PyData} (f : β → α → β) (h : MH) (I : β → Env → Prop) : ∀ (xs : List α) (s : β) (σ : Env), I s σ →
    (∀ x ∈ xs, ∀ s σ, I s σ → ∃ σ1, putT t (.d (e x)) σ = some σ1 ∧ ∃ σ2, b σ1 h = .ok (.nx σ2) h ∧ I (f s x) σ2) →
    ∃ σ2, forL t b (dmap (xs.map e)) σ h = .ok (.nx σ2) h ∧ I (xs.foldl f s) σ2
  | [], s, σ, i, _ => ⟨σ, rfl, i⟩
  | x :: xs, s, σ, i, hs => by
    obtain ⟨σ1, e1, σ2, e2, i2⟩ := hs x List.mem_cons_self s σ i
    obtain ⟨σ3, e3, i3⟩ := forL_acc f h I xs (f s x) σ2 i2 fun y hy => hs y (List.mem_cons_of_mem _ hy)
    refine ⟨σ3, ?_, i3⟩
    show (match putT t (.d (e x)) σ with
      | some σ1 => (b σ1 h).bind fun fl h2 => (match fl with
        | .nx σ2 => forL t b (dmap (xs.map e)) σ2 h2
        | .ct σ2 => forL t b (dmap (xs.map e)) σ2 h2
        | .bk σ2 => .ok (.nx σ2) h2
        | .rt v => .ok (.rt v) h2)
      | none => .stuck) = _
    rw [e1]
    dsimp only
    rw [e2]; exact e3
/-- a while loop, by a measure; its test may change the heap -/
theorem whileG_ind2 {S : Type} {c : Env → MH → Res Bool} {b : Env → MH → Res Fl} (m : S → Nat) (I : S → Env → MH → Prop) (Q : Env → MH → Prop)
    (hs : ∀ s σ h, I s σ h → (∃ h1, c σ h = .ok false h1 ∧ Q σ h1) ∨ (∃ h1, c σ h = .ok true h1 ∧ ∃ s' σ' h', b σ h1 = .ok (.nx σ') h' ∧ m s' < m s ∧ I s' σ' h')) : ∀ (F : Nat) (s : S) (σ : Env) (h : MH), I s σ h → m s < F → ∃ σ' h', whileG c b F σ h = .ok (.nx σ') h' ∧ Q σ' h'
  | 0, s, σ, h, _, hm => absurd hm (by omega)
  | F + 1, s, σ, h, i, hm => by
    rcases hs s σ h i with ⟨h1, e, q⟩ | ⟨h1, e, s', σ', h', e2, hm2, i2⟩
    · refine ⟨σ, h1, ?_, q⟩
      show ((c σ h).bind fun t h1 => if t = true then (b σ h1).bind fun f h2 => (match f with
        | .nx σ2 => whileG c b F σ2 h2
        | .ct σ2 => whileG c b F σ2 h2
        | .bk σ2 => .ok (.nx σ2) h2
        | .rt v => .ok (.rt v) h2) else .ok (.nx σ) h1) = _
      rw [e]; rfl
    · obtain ⟨σ3, h3, e3, q⟩ := whileG_ind2 m I Q hs F s' σ' h' i2 (by omega)
      refine ⟨σ3, h3, ?_, q⟩
      show ((c σ h).bind fun t h1 => if t = true then (b σ h1).bind fun f h2 => (match f with
        | .nx σ2 => whileG c b F σ2 h2
        | .ct σ2 => whileG c b F σ2 h2
        | .bk σ2 => .ok (.nx σ2) h2
        | .rt v => .ok (.rt v) h2) else .ok (.nx σ) h1) = _
      rw [e, Res.bind_ok, if_pos rfl, e2, Res.bind_ok]
      exact e3
/-! enumerated lists -/
def encZ {α : Type} (e : α → PyData) (p : α × Nat) : PyData := .tuple [.int (p.2 : Int), e p.1]
theorem srcEnmE_t {α : Type} (e : α → PyData) (xs : List α) (hz : xs.length ≤ sz) : srcEnm (.d (.tuple (xs.map e))) = some (.l (dmap (xs.zipIdx.map (encZ e)))) := by
  rw [srcEnm_t _ (by rw [List.length_map]; exact hz)]
  congr 3
  rw [List.zipIdx_map, List.map_map]; rfl
theorem srcEnmE_l {α : Type} (e : α → PyData) (xs : List α) (hz : xs.length ≤ sz) : srcEnm (.d (.list (xs.map e))) = some (.l (dmap (xs.zipIdx.map (encZ e)))) := by
  rw [srcEnm_l _ (by rw [List.length_map]; exact hz)]
  congr 3
  rw [List.zipIdx_map, List.map_map]; rfl
/-! ints alone, ascending -/
theorem intsOf_some : ∀ {xs : List PyData} {l : List Int}, intsOf xs = some l → xs = l.map .int
  | [], l, h => by cases h; rfl
  | x :: xs, l, h => by
    cases x <;> simp only [intsOf] at h <;> try cases h
    rename_i i
    rw [Option.map_eq_some_iff] at h
    obtain ⟨l', h1, h2⟩ := h
    subst h2
    rw [List.map_cons, ← intsOf_some h1]
def intB : PyData → Bool
  | .int _ => true
  | _ => false
theorem intsOf_num : ∀ (xs : List PyData), (intsOf xs).isSome = xs.all intB
  | [] => rfl
  | x :: xs => by
    cases x <;> simp [intsOf, intB]
    exact intsOf_num xs
def ascI (l : List Int) : Bool := (l.zip l.tail).all fun p => decide (p.1 < p.2)
theorem asc_pw : ∀ {l : List Int}, ascI l = true ↔ l.Pairwise (· < ·)
  | [] => by simp [ascI]
  | [x] => by simp [ascI]
  | x :: y :: l => by
    have ih := asc_pw (l := y :: l)
    have e : ascI (x :: y :: l) = (decide (x < y) && ascI (y :: l)) := by simp [ascI]
    rw [e, Bool.and_eq_true, decide_eq_true_eq, ih, List.pairwise_cons (a := x)]
    constructor
    · rintro ⟨h1, h2⟩
      refine ⟨fun z hz => ?_, h2⟩
      rcases List.mem_cons.mp hz with rfl | hz
      · exact h1
      · have := (List.pairwise_cons.mp h2).1 z hz
        omega
    · rintro ⟨h1, h2⟩
      exact ⟨h1 y List.mem_cons_self, h2⟩
theorem asc_sublist : ∀ {o l : List Int}, l.Pairwise (· < ·) → o.Pairwise (· < ·) → (∀ x ∈ l, x ∈ o) → l.Sublist o
  | [], l, _, _, h => by
    cases l with
    | nil => exact .slnil
    | cons x l => exact absurd (h x List.mem_cons_self) (by simp)
  | y :: o, [], _, _, _ => List.nil_sublist _
  | y :: o, x :: l, hl, ho, h => by
    rw [List.pairwise_cons] at hl ho
    rcases List.mem_cons.mp (h x List.mem_cons_self) with e | hx
    · subst e
      refine .cons_cons _ (asc_sublist hl.2 ho.2 fun z hz => ?_)
      rcases List.mem_cons.mp (h z (List.mem_cons_of_mem _ hz)) with e | q
      · have := hl.1 z hz; omega
      · exact q
    · refine .cons _ (asc_sublist (List.pairwise_cons.mpr hl) ho.2 fun z hz => ?_)
      have h1 := ho.1 x hx
      rcases List.mem_cons.mp (h z hz) with e | q
      · rcases List.mem_cons.mp hz with e2 | q2
        · omega
        · have := hl.1 z q2; omega
      · exact q
/-- a lot of many -/
def isLotB (k : Int) : PyData → Bool
  | .tuple xs => match intsOf xs with
    | some l => (l.all fun i => decide (0 ≤ i) && decide (i ≤ k - 1)) && ascI l
    | none => false
  | _ => false
theorem isLot_dec {k : Int} {d : PyData} (h : isLotB k d = true) : ∃ l : List Int, d = .tuple (l.map .int) ∧ l.Pairwise (· < ·) ∧ ∀ x ∈ l, 0 ≤ x ∧ x < k := by
  cases d with
  | tuple xs =>
    unfold isLotB at h
    dsimp only at h
    cases hi : intsOf xs with
    | none => rw [hi] at h; cases h
    | some l =>
      rw [hi] at h
      simp only [Bool.and_eq_true, List.all_eq_true, decide_eq_true_eq] at h
      exact ⟨l, by rw [intsOf_some hi], asc_pw.mp h.2, fun x hx => by have := h.1 x hx; omega⟩
  | _ => cases h
theorem isLot_enc {k : Int} {l : List Int} (h1 : l.Pairwise (· < ·)) (h2 : ∀ x ∈ l, 0 ≤ x ∧ x < k) : isLotB k (.tuple (l.map .int)) = true := by
  unfold isLotB
  dsimp only
  rw [intsOf_map]
  simp only [Bool.and_eq_true, List.all_eq_true, decide_eq_true_eq]
  exact ⟨fun x hx => by have := h2 x hx; omega, asc_pw.mpr h1⟩
theorem isLot_map {k : Int} {l : List Int} : isLotB k (.tuple (l.map .int)) = ((l.all fun i => decide (0 ≤ i) && decide (i ≤ k - 1)) && ascI l) := by
  unfold isLotB
  dsimp only
  rw [intsOf_map]
end Ev

set_option Elab.async false
set_option linter.all false
set_option autoImplicit false
set_option maxRecDepth 100000
set_option maxHeartbeats 8000000
namespace EvLaw
open PySem Ev
open PySem.W (dataLt dataLe alike alikeAll minD maxD)
def fuel : Nat := 100000
noncomputable def R (n : Nat) : Str → List Vl → MH → Ev.Res Vl := run (tabT tb) gc fuel n
noncomputable def GG (n : Nat) : Gs := gs (tabT tb) gc fuel n
@[simp] theorem GG_cl (n : Nat) : (GG n).cl = R n := id rfl
@[simp] theorem GG_gc (n : Nat) : (GG n).gc = gc := id rfl
@[simp] theorem GG_F (n : Nat) : (GG n).F = fuel := id rfl
@[simp] theorem GG_cl2 (n : Nat) : (GG (n + 2)).cl2 = R n := id rfl
@[simp] theorem GG_wd (n : Nat) : (GG (n + 2)).wd = wdT (tabT tb) gc fuel := id rfl
theorem R_go {n : Nat} {f : Str} {fn : Fn} {vs : List Vl} {h : MH} (hT : tabT tb f = some fn) (hl : vs.length = fn.ps) :
    R (n + 1) f vs h = leave h.length (evSs (GG n) fn.body (vs.map some ++ List.replicate (fn.n - fn.ps) none) h) := run_go hT hl
theorem draw_R {n : Nat} {o : MO} {l : MH} {m : Int} (hh : HandO o) (hm : 1 ≤ m) (hm2 : m < 1073741824) : ∃ (r : Int) (o' : MO), R (n+1) "_law_draw" [.r 0, .d (.int m)] (o :: l) = .ok (.d (.int r)) (o' :: l) ∧ 0 ≤ r ∧ r < m ∧ HandO o' := draw_cC rfl hh hm hm2
theorem any_R {n : Nat} {o : MO} {l : MH} {xs : List PyData} (hh : HandO o) (hx : xs ≠ []) (hz : xs.length ≤ sz) : ∃ (x : PyData) (o' : MO), x ∈ xs ∧ R (n+2) "_law_any" [.r 0, .d (.list xs)] (o :: l) = .ok (.d x) (o' :: l) ∧ HandO o' := any_cC rfl rfl hh hx hz
theorem anyT_R {n : Nat} {o : MO} {l : MH} {xs : List PyData} (hh : HandO o) (hx : xs ≠ []) (hz : xs.length ≤ sz) : ∃ (x : PyData) (o' : MO), x ∈ xs ∧ R (n+2) "_law_any" [.r 0, .d (.tuple xs)] (o :: l) = .ok (.d x) (o' :: l) ∧ HandO o' := anyT_cC rfl rfl hh hx hz
/-! judged: any datum -/
def intB : PyData → Bool
  | .int _ => true
  | _ => false
def within (a b : Int) : PyData → Bool
  | .int i => decide (a ≤ i) && decide (i ≤ b)
  | _ => false
def sizedB (a b : Int) : PyData → Bool
  | .tuple xs => decide (a ≤ xs.length) && decide ((xs.length : Int) ≤ b)
  | _ => false
/-- no long tuple, n deep -/
def sm : Nat → PyData → Bool
  | n + 1, .tuple xs => decide (xs.length ≤ 1000) && xs.all (sm n)
  | _, _ => true
theorem sm_len {n : Nat} {xs : List PyData} (h : sm (n + 1) (.tuple xs) = true) : xs.length ≤ 1000 ∧ ∀ x ∈ xs, sm n x = true := by
  simp only [sm, Bool.and_eq_true, decide_eq_true_eq, List.all_eq_true] at h
  exact h
theorem is_integer_any (n : Nat) (d : PyData) (h : MH) : R (n+1) "is_integer" [.d d] h = .ok (.d (.bool (intB d))) h := by
  rw [R_go (fn := fis_integer) rfl rfl]
  cases d <;> simp [fis_integer, intB, isiV, isTy, PyData.isInt, PyData.isBool]
theorem is_within_any (n : Nat) (d : PyData) (a b : Int) (h : MH) : R (n+2) "is_within" [.d d, .d (.int a), .d (.int b)] h = .ok (.d (.bool (within a b d))) h := by
  rw [R_go (fn := fis_within) rfl rfl]
  cases d <;> simp [fis_within, is_integer_any, intB, within]
  rename_i i
  by_cases ha : a ≤ i <;> simp [ha]
theorem is_sized_any (n : Nat) (d : PyData) (a b : Int) (h : MH) (hs : sm 1 d = true) : R (n+1) "is_sized" [.d d, .d (.int a), .d (.int b)] h = .ok (.d (.bool (sizedB a b d))) h := by
  rw [R_go (fn := fis_sized) rfl rfl]
  cases d <;> simp [fis_sized, sizedB, isiV, isTy, PyData.isTuple]
  rename_i xs
  have hz : xs.length ≤ sz := le_sz (by have := (sm_len hs).1; omega)
  simp [hz]
  by_cases ha : a ≤ xs.length <;> simp [ha]
/-- is_saying of any datum -/
def sayB (j : Int) : PyData → Bool
  | .tuple xs => decide ((xs.length : Int) = j) && xs.all (within 0 1)
  | _ => false
theorem is_saying_any (n : Nat) (d : PyData) (j : Int) (h : MH) (hs : sm 1 d = true) : R (n+3) "is_saying" [.d d, .d (.int j)] h = .ok (.d (.bool (sayB j d))) h := by
  rw [R_go (fn := fis_saying) rfl rfl]
  have sz1 := is_sized_any (n+1) d j j h hs
  simp [fis_saying, sz1]
  cases d <;> simp [sizedB, sayB]
  rename_i xs
  have hz : xs.length ≤ sz := le_sz (by have := (sm_len hs).1; omega)
  by_cases h1 : j ≤ xs.length
  · by_cases h2 : (xs.length : Int) ≤ j
    · have h3 : (xs.length : Int) = j := by omega
      simp only [h1, h2, h3, decide_true, Bool.and_self, Bool.true_and]
      have so : srcOf (.d (.tuple xs)) h = some (.l (dmap (xs.map id))) := by rw [List.map_id]; exact srcOf_t h _ hz
      simp only [bind_ok', so, ofOpt_s]
      rw [lc_map (e := id) _ (fun x => .bool (within 0 1 x)) hz (fun x hx => by
        have := is_within_any n x 0 1 h
        simp [this])]
      simp [b_all_map]
    · have h3 : ¬ (xs.length : Int) = j := by omega
      simp [h1, h2, h3]
  · have h3 : ¬ (xs.length : Int) = j := by omega
    simp [h1, h3]
/-! worlds -/
def encI (l : List Int) : PyData := .tuple (l.map .int)
def wv (w : List (List Int)) : PyData := .tuple (w.map encI)
structure Wd (j : Nat) (w : List (List Int)) : Prop where
  ne : w ≠ []
  z : w.length ≤ 32
  j1 : 1 ≤ j
  j5 : j ≤ 5
  rows : ∀ r ∈ w, r.length = j ∧ ∀ x ∈ r, x = 0 ∨ x = 1
  pw : w.Pairwise (· < ·)
theorem say_enc {j : Nat} {r : List Int} (hl : r.length = j) (hx : ∀ x ∈ r, x = 0 ∨ x = 1) : sayB j (encI r) = true := by
  simp only [encI, sayB, List.length_map, hl, decide_true, Bool.true_and, List.all_map, List.all_eq_true]
  intro x h
  rcases hx x h with rfl | rfl <;> rfl
theorem sm_enc (n : Nat) {r : List Int} (h : r.length ≤ 1000) : sm n (encI r) = true := by
  cases n with
  | zero => rfl
  | succ n =>
    simp only [encI, sm, List.length_map, Bool.and_eq_true, decide_eq_true_eq, List.all_map, List.all_eq_true]
    exact ⟨h, fun x _ => by cases n <;> rfl⟩
theorem lt_enc (a b : List Int) : dataLt (encI a) (encI b) = decide (a < b) := PySem.W.dataLt_ints a b
theorem alike_encI (a b : List Int) : alike (encI a) (encI b) = true := alike_ints a b
theorem okN_encI (n : Nat) (a : List Int) : okN (n + 1) (encI a) = true := okN_ints n a
theorem cmp_lt_enc (a b : List Int) (h : MH) : cmpV .lt (.d (encI a)) (.d (encI b)) h = some (decide (a < b)) := by
  show ordD .lt (encI a) (encI b) = _
  unfold ordD
  rw [if_pos (by rw [alike_encI, okN_encI, okN_encI]; rfl)]
  show some (dataLt (encI a) (encI b)) = _
  rw [lt_enc]
end EvLaw

set_option Elab.async false
set_option linter.all false
set_option autoImplicit false
set_option maxRecDepth 100000
set_option maxHeartbeats 8000000
namespace EvLaw
open PySem Ev
open PySem.W (dataLt dataLe alike alikeAll minD maxD)
theorem say_dec {j : Int} {d : PyData} (h : sayB j d = true) : ∃ r : List Int, d = encI r ∧ (r.length : Int) = j ∧ ∀ x ∈ r, x = 0 ∨ x = 1 := by
  cases d <;> simp only [sayB, Bool.false_eq_true] at h
  rename_i xs
  simp only [Bool.and_eq_true, decide_eq_true_eq, List.all_eq_true] at h
  obtain ⟨h1, h2⟩ := h
  have key : ∀ xs : List PyData, (∀ x ∈ xs, within 0 1 x = true) → ∃ r : List Int, xs = r.map .int ∧ ∀ x ∈ r, x = 0 ∨ x = 1 := by
    intro xs
    induction xs with
    | nil => intro _; exact ⟨[], rfl, by simp⟩
    | cons x xs ih =>
      intro hx
      obtain ⟨r, e, hr⟩ := ih fun y hy => hx y (List.mem_cons_of_mem _ hy)
      have h0 := hx x List.mem_cons_self
      cases x <;> simp only [within, Bool.false_eq_true] at h0
      rename_i i
      simp only [Bool.and_eq_true, decide_eq_true_eq] at h0
      refine ⟨i :: r, by rw [e]; rfl, fun y hy => ?_⟩
      rcases List.mem_cons.mp hy with rfl | hy
      · omega
      · exact hr y hy
  obtain ⟨r, e, hr⟩ := key xs h2
  exact ⟨r, by rw [e]; rfl, by rw [← h1, e]; simp, hr⟩
def asc (xs : List PyData) : Bool := (xs.zip xs.tail).all fun p => dataLt p.1 p.2
def len0 : PyData → Int
  | .tuple (.tuple ys :: _) => ys.length
  | _ => 0
def worldB : PyData → Bool
  | .tuple (x0 :: xs) => decide (((x0 :: xs).length : Int) ≤ 32) && (sizedB 1 5 x0 && ((x0 :: xs).all (sayB (len0 (.tuple (x0 :: xs)))) && asc (x0 :: xs)))
  | _ => false
theorem mem_zip_tail {α : Type} : ∀ {xs : List α} {p : α × α}, p ∈ xs.zip xs.tail → p.1 ∈ xs ∧ p.2 ∈ xs
  | [], p, h => by simp at h
  | x :: xs, p, h => by
    have := List.of_mem_zip (a := p.1) (b := p.2) h
    exact ⟨this.1, List.mem_cons_of_mem _ this.2⟩
theorem lc_mapD {F : Nat} {f : Vl → MH → Ev.Res (Option Vl)} {h : MH} {xs : List PyData} (g : PyData → PyData) (hz : xs.length ≤ sz) (hf : ∀ x ∈ xs, f (.d x) h = .ok (some (.d (g x))) h) :
    (lcS F f (.l (dmap xs)) h).calm.bind (fun rs h5 => (mkl false rs h5).calm) = .ok (.d (.list (xs.map g))) h := by
  have := lc_map (F := F) (f := f) (e := id) h g hz hf
  rw [List.map_id] at this
  exact this
theorem is_world_any (n : Nat) (d : PyData) (h : MH) (hs : sm 2 d = true) : R (n+4) "is_world" [.d d] h = .ok (.d (.bool (worldB d))) h := by
  rw [R_go (fn := fis_world) rfl rfl]
  have g1 : gc "MOST_ISSUES" = some (.int 5) := rfl
  have s32 : binI .shl 1 5 = some 32 := by decide
  have hs1 : sm 1 d = true := by
    cases d <;> first | rfl | skip
    rename_i xs
    have := sm_len hs
    simp only [sm, Bool.and_eq_true, decide_eq_true_eq, List.all_eq_true]
    exact ⟨this.1, fun x _ => by cases x <;> simp [sm]⟩
  have z1 := is_sized_any (n+2) d 1 32 h hs1
  simp [fis_world, g1, s32, z1]
  match d, hs, hs1 with
  | .tuple [], hs, _ => simp [sizedB, worldB]
  | .tuple (x0 :: xs), hs, _ =>
    obtain ⟨hl, hx⟩ := sm_len hs
    have hz : (x0 :: xs).length ≤ sz := le_sz (by omega)
    have l1 : (1 : Int) ≤ ((x0 :: xs).length : Nat) := by simp only [List.length_cons]; omega
    have e1 : sizedB 1 32 (.tuple (x0 :: xs)) = decide (((x0 :: xs).length : Int) ≤ 32) := by
      simp only [sizedB, l1, decide_true, Bool.true_and]
    rw [e1]
    unfold worldB
    by_cases h32 : ((x0 :: xs).length : Int) ≤ 32
    · have h33 : ¬ (32 : Int) < xs.length + 1 := by simp only [List.length_cons] at h32; omega
      have i0 : idxV (.d (.tuple (x0 :: xs))) (.d (.int 0)) h = some (.d x0) := idx_d id _ (x0 :: xs) 0 x0 h (by rw [List.map_id]; rfl) (by decide) rfl
      have z2 := is_sized_any (n+2) x0 1 5 h (hx x0 List.mem_cons_self)
      simp only [h32, decide_true, Bool.true_and]
      cases hq : sizedB 1 5 x0 with
      | false => simp [h33, i0, z2, hq]
      | true =>
        obtain ⟨ys, rfl⟩ : ∃ ys, x0 = .tuple ys := by
          cases x0 <;> first | exact ⟨_, rfl⟩ | (simp [sizedB] at hq)
        have yz : ys.length ≤ sz := le_sz (by have := (sm_len (hx _ List.mem_cons_self)).1; omega)
        have so : srcOf (.d (.tuple (.tuple ys :: xs))) h = some (.l (dmap ((.tuple ys :: xs).map id))) := by rw [List.map_id]; exact srcOf_t h _ hz
        simp only [Bool.true_and, len0]
        simp only [hq] at z2
        simp [h33, i0, z2, so]
        have haE : (sayB ys.length (.tuple ys) && xs.all (sayB ys.length)) = (PyData.tuple ys :: xs).all (sayB ys.length) := by rw [List.all_cons]
        rw [haE, lc_mapD (fun x => .bool (sayB ys.length x)) hz (fun x hxm => by
          have := is_saying_any n x ys.length h (hx x hxm)
          simp [i0, yz, this])]
        simp only [bind_ok', b_all_map, calm_ok', trB_bool]
        cases ha : ((PyData.tuple ys :: xs).all (sayB ys.length)) with
        | false =>
          simp
        | true =>
          rw [List.all_eq_true] at ha
          have zt : (PyData.tuple ys :: xs).tail.length ≤ sz := le_sz (by simp only [List.tail_cons, List.length_cons] at *; omega)
          have sl := sli_t (.tuple ys :: xs) (some 1) none false h
          rw [cutL_1] at sl
          have sz' := srcZip_t (.tuple ys :: xs) (PyData.tuple ys :: xs).tail hz
          simp only [bind_ok', Bool.not_true, Bool.false_eq_true, if_false, optI, ofOpt_s, List.getElem?_cons_zero, sl, calm_ok', sz']
          have zp : ((PyData.tuple ys :: xs).zip (PyData.tuple ys :: xs).tail).length ≤ sz := by
            rw [List.length_zip]; exact Nat.le_trans (Nat.min_le_left ..) hz
          rw [lc_map (e := fun p : PyData × PyData => .tuple [p.1, p.2]) _ (fun p => .bool (dataLt p.1 p.2)) zp (fun p hp => by
            obtain ⟨m1, m2⟩ := mem_zip_tail hp
            obtain ⟨r1, q1, _, _⟩ := say_dec (ha _ m1)
            obtain ⟨r2, q2, _, _⟩ := say_dec (ha _ m2)
            have c := cmp_lt_enc r1 r2 h
            rw [← lt_enc, ← q1, ← q2] at c
            simp [c])]
          simp only [bind_ok', b_all_map, calm_ok', Bool.true_and]
          simp [asc]
    · have h33 : (32 : Int) < xs.length + 1 := by simp only [List.length_cons] at h32; omega
      simp [h32, h33]
      intro z; omega
  | .none, _, _ => simp [sizedB, worldB]
  | .bool _, _, _ => simp [sizedB, worldB]
  | .int _, _, _ => simp [sizedB, worldB]
  | .str _, _, _ => simp [sizedB, worldB]
  | .list _, _, _ => simp [sizedB, worldB]
  | .dict _, _, _ => simp [sizedB, worldB]
end EvLaw

set_option Elab.async false
set_option linter.all false
set_option autoImplicit false
set_option maxRecDepth 100000
set_option maxHeartbeats 8000000
namespace EvLaw
open PySem Ev
open PySem.W (dataLt dataLe alike alikeAll minD maxD)
/-! judges of any kind -/
def jokB (j : Int) : PyData → Bool
  | .tuple xs => sizedB 1 9 (.tuple xs) && xs.all (sayB j)
  | _ => false
structure Jd (w J : List (List Int)) : Prop where
  ne : J ≠ []
  z : J.length ≤ 9
  mem : ∀ r ∈ J, r ∈ w
section
variable {j : Nat} {w J : List (List Int)}
theorem Wd.hd (g : Wd j w) : ∃ r0 rs, w = r0 :: rs ∧ r0.length = j ∧ ∀ x ∈ r0, x = 0 ∨ x = 1 := by
  obtain ⟨r0, rs, rfl⟩ := List.exists_cons_of_ne_nil g.ne
  exact ⟨r0, rs, rfl, g.rows r0 List.mem_cons_self⟩
theorem Wd.sz (g : Wd j w) : w.length ≤ sz := le_sz (by have := g.z; omega)
theorem Wd.idx0 (g : Wd j w) (h : MH) : ∃ r0, idxV (.d (wv w)) (.d (.int 0)) h = some (.d (encI r0)) ∧ r0.length = j := by
  obtain ⟨r0, rs, rfl, e, _⟩ := g.hd
  exact ⟨r0, idx_d encI _ (r0 :: rs) 0 r0 h rfl (by decide) rfl, e⟩
theorem sm_wv (g : Wd j w) : sm 2 (wv w) = true := by
  simp only [wv, sm, List.length_map, Bool.and_eq_true, decide_eq_true_eq, List.all_map, List.all_eq_true]
  refine ⟨by have := g.z; omega, fun r hr => ?_⟩
  show sm 1 (encI r) = true
  exact sm_enc 1 (by rw [(g.rows r hr).1]; have := g.j5; omega)
theorem zip_tail_pw : ∀ {w : List (List Int)}, w.Pairwise (· < ·) → ∀ p ∈ w.zip w.tail, p.1 < p.2
  | [], _, p, hp => by simp at hp
  | [x], _, p, hp => by simp at hp
  | x :: y :: w, h, p, hp => by
    rw [List.pairwise_cons] at h
    simp only [List.tail_cons, List.zip_cons_cons, List.mem_cons] at hp
    rcases hp with rfl | hp
    · exact h.1 y List.mem_cons_self
    · exact zip_tail_pw h.2 p hp
theorem world_true (g : Wd j w) : worldB (wv w) = true := by
  obtain ⟨r0, rs, rfl, e, hx⟩ := g.hd
  have hz := g.z
  have h5 := g.j5
  have h1 := g.j1
  show (decide (((encI r0 :: rs.map encI).length : Int) ≤ 32) && (sizedB 1 5 (encI r0) && ((encI r0 :: rs.map encI).all (sayB (len0 (.tuple (encI r0 :: rs.map encI)))) && asc (encI r0 :: rs.map encI)))) = true
  have a1 : decide (((encI r0 :: rs.map encI).length : Int) ≤ 32) = true := by
    rw [decide_eq_true_eq, List.length_cons, List.length_map]
    rw [List.length_cons] at hz
    omega
  have a2 : sizedB 1 5 (encI r0) = true := by
    simp only [encI, sizedB, List.length_map, e, Bool.and_eq_true, decide_eq_true_eq]
    omega
  have a3 : (encI r0 :: rs.map encI).all (sayB (len0 (.tuple (encI r0 :: rs.map encI)))) = true := by
    rw [show encI r0 :: rs.map encI = (r0 :: rs).map encI from rfl, List.all_map, List.all_eq_true]
    intro r hr
    show sayB (len0 (.tuple (encI r0 :: rs.map encI))) (encI r) = true
    rw [show len0 (.tuple (encI r0 :: rs.map encI)) = ((j : Nat) : Int) by show ((r0.map PyData.int).length : Int) = _; rw [List.length_map, e]]
    exact say_enc (g.rows r hr).1 (g.rows r hr).2
  have a4 : asc (encI r0 :: rs.map encI) = true := by
    unfold asc
    rw [show encI r0 :: rs.map encI = (r0 :: rs).map encI from rfl, ← List.map_tail, List.zip_map, List.all_map, List.all_eq_true]
    intro p hp
    show dataLt (encI p.1) (encI p.2) = true
    rw [lt_enc, decide_eq_true (zip_tail_pw g.pw p hp)]
  rw [a1, a2, a3, a4]; rfl
theorem check_world_ok (n : Nat) (h : MH) (g : Wd j w) : R (n+5) "check_world" [.d (wv w)] h = .ok (.d .none) h := by
  rw [R_go (fn := fcheck_world) rfl rfl]
  have := is_world_any n (wv w) h (sm_wv g)
  rw [world_true g] at this
  simp [fcheck_world, this]
theorem leave_exc (n : Nat) (c : Str) (xs : List PyData) (h : MH) : leave n (Ev.Res.exc c xs h) = .exc c xs (h.take n) := rfl
theorem bind_exc' {α β : Type} (c : Str) (xs : List PyData) (h : MH) (f : α → MH → Ev.Res β) : (Ev.Res.exc c xs h : Ev.Res α).bind f = .exc c xs h := rfl
theorem check_world_no (n : Nat) (h : MH) (d : PyData) (hs : sm 2 d = true) (hb : worldB d = false) : R (n+5) "check_world" [.d d] h = .exc "NoWorld" [] h := by
  rw [R_go (fn := fcheck_world) rfl rfl]
  have := is_world_any n d h hs
  rw [hb] at this
  simp [fcheck_world, this, bind_exc', leave_exc, allD]
theorem are_judges_no (n : Nat) (h : MH) (g : Wd j w) (d : PyData) (hs : sm 2 d = true) (hb : jokB j d = false) : R (n+4) "are_judges" [.d (wv w), .d d, .d (.int 1), .d (.int 9)] h = .ok (.d (.bool false)) h := by
  rw [R_go (fn := fare_judges) rfl rfl]
  have hs1 : sm 1 d = true := by
    cases d <;> first | rfl | skip
    rename_i xs
    have := sm_len hs
    simp only [sm, Bool.and_eq_true, decide_eq_true_eq, List.all_eq_true]
    exact ⟨this.1, fun x _ => by cases x <;> simp [sm]⟩
  have z1 := is_sized_any (n+2) d 1 9 h hs1
  obtain ⟨r0, i0, l0⟩ := g.idx0 h
  have yz : biV .len false [.d (encI r0)] h = .ok (.d (.int j)) h := by
    have := b_len_t h (r0.map .int) false (by rw [List.length_map, l0]; exact le_sz (by have := g.j5; omega))
    rw [List.length_map, l0] at this
    exact this
  cases hq : sizedB 1 9 d with
  | false =>
    rw [hq] at z1
    simp [fare_judges, z1]
  | true =>
    rw [hq] at z1
    obtain ⟨xs, rfl⟩ : ∃ xs, d = .tuple xs := by
      cases d <;> first | exact ⟨_, rfl⟩ | (simp [sizedB] at hq)
    obtain ⟨hl, hx⟩ := sm_len hs
    have hz : xs.length ≤ sz := le_sz (by omega)
    have so := srcOf_t h xs hz
    simp [fare_judges, z1, so]
    rw [lc_mapD (fun x => .bool (sayB j x)) hz (fun x hxm => by
      have := is_saying_any n x j h (hx x hxm)
      simp [i0, yz, this])]
    have ha : xs.all (sayB j) = false := by
      simp only [jokB, hq, Bool.true_and] at hb
      exact hb
    rw [bind_ok', bind_ok']
    simp only [b_all_map, calm_ok', bind_ok', trB_bool, ha]
    simp
theorem in_wv (g : Wd j w) (h : MH) {r : List Int} (hr : r ∈ w) : cmpV .in_ (.d (encI r)) (.d (wv w)) h = some true := by
  have e1 : okN 40 (encI r) = true := okN_encI 39 r
  have e2 : okN 40 (.tuple (w.map encI)) = true := by
    show (w.map encI).all (okN 39) = true
    rw [List.all_map, List.all_eq_true]
    intro x _
    exact okN_encI 38 x
  show (if (okN 40 (encI r) && okN 40 (.tuple (w.map encI))) = true then some (anyEqv (w.map encI) (encI r)) else _) = _
  rw [if_pos (by rw [e1, e2]; rfl)]
  unfold anyEqv
  rw [List.any_map]
  congr 1
  rw [List.any_eq_true]
  refine ⟨r, hr, ?_⟩
  show PyData.eqv (encI r) (encI r) = true
  rw [show PyData.eqv (encI r) (encI r) = PyData.eqvAll (r.map .int) (r.map .int) from rfl, eqvAll_ints]
  simp
theorem Jd.rows (G : Jd w J) (g : Wd j w) : ∀ r ∈ J, r.length = j ∧ ∀ x ∈ r, x = 0 ∨ x = 1 := fun r hr => g.rows r (G.mem r hr)
theorem Jd.sz (G : Jd w J) : J.length ≤ sz := le_sz (by have := G.z; omega)
theorem sm_J (g : Wd j w) (G : Jd w J) : sm 2 (wv J) = true := by
  simp only [wv, sm, List.length_map, Bool.and_eq_true, decide_eq_true_eq, List.all_map, List.all_eq_true]
  refine ⟨by have := G.z; omega, fun r hr => ?_⟩
  show sm 1 (encI r) = true
  exact sm_enc 1 (by rw [(G.rows g r hr).1]; have := g.j5; omega)
theorem are_judges_ok (n : Nat) (h : MH) (g : Wd j w) (G : Jd w J) : R (n+4) "are_judges" [.d (wv w), .d (wv J), .d (.int 1), .d (.int 9)] h = .ok (.d (.bool true)) h := by
  rw [R_go (fn := fare_judges) rfl rfl]
  have z1 := is_sized_any (n+2) (wv J) 1 9 h (by
    simp only [wv, sm, List.length_map, Bool.and_eq_true, decide_eq_true_eq, List.all_map, List.all_eq_true]
    exact ⟨by have := G.z; omega, fun r _ => rfl⟩)
  have hq : sizedB 1 9 (wv J) = true := by
    have := G.z
    have := List.length_pos_iff.mpr G.ne
    simp only [wv, sizedB, List.length_map, Bool.and_eq_true, decide_eq_true_eq]
    omega
  rw [hq] at z1
  obtain ⟨r0, i0, l0⟩ := g.idx0 h
  have yz : biV .len false [.d (encI r0)] h = .ok (.d (.int j)) h := by
    have := b_len_t h (r0.map .int) false (by rw [List.length_map, l0]; exact le_sz (by have := g.j5; omega))
    rw [List.length_map, l0] at this
    exact this
  have so : srcOf (.d (wv J)) h = some (.l (dmap (J.map encI))) := srcOf_t h _ (by rw [List.length_map]; exact G.sz)
  simp [fare_judges, z1, so]
  rw [lc_map _ (fun _ => .bool true) G.sz (fun r hr => by
    have := is_saying_any n (encI r) j h (sm_enc 1 (by rw [(G.rows g r hr).1]; have := g.j5; omega))
    rw [say_enc (G.rows g r hr).1 (G.rows g r hr).2] at this
    simp [i0, yz, this])]
  simp [b_all_map, so]
  rw [lc_map _ (fun _ => .bool true) G.sz (fun r hr => by
    have := in_wv g h (G.mem r hr)
    simp [this])]
  simp [b_all_map]
theorem check_judges_ok (n : Nat) (h : MH) (g : Wd j w) (G : Jd w J) : R (n+6) "check_judges" [.d (wv w), .d (wv J)] h = .ok (.d .none) h := by
  rw [R_go (fn := fcheck_judges) rfl rfl]
  have g1 : gc "MOST_JUDGES" = some (.int 9) := rfl
  simp [fcheck_judges, g1, check_world_ok n h g, are_judges_ok (n+1) h g G]
theorem check_judges_w (n : Nat) (h : MH) (d e : PyData) (hs : sm 2 d = true) (hb : worldB d = false) : R (n+6) "check_judges" [.d d, .d e] h = .exc "NoWorld" [] h := by
  rw [R_go (fn := fcheck_judges) rfl rfl]
  simp [fcheck_judges, check_world_no n h d hs hb, bind_exc', leave_exc]
theorem check_judges_j (n : Nat) (h : MH) (g : Wd j w) (d : PyData) (hs : sm 2 d = true) (hb : jokB j d = false) : R (n+6) "check_judges" [.d (wv w), .d d] h = .exc "NoJudges" [] h := by
  rw [R_go (fn := fcheck_judges) rfl rfl]
  have g1 : gc "MOST_JUDGES" = some (.int 9) := rfl
  simp [fcheck_judges, g1, check_world_ok n h g, are_judges_no (n+1) h g d hs hb, bind_exc', leave_exc, allD]
end
end EvLaw

set_option Elab.async false
set_option linter.all false
set_option autoImplicit false
set_option maxRecDepth 100000
set_option maxHeartbeats 8000000
namespace EvLaw
open PySem Ev
open PySem.W (dataLt dataLe alike alikeAll minD maxD)
def encP (p : Int × Int) : PyData := .tuple [.int p.1, .int p.2]
def col (gs : List (List Int)) (c : Int) : List Int := gs.map fun r => r.getD c.toNat 0
theorem idx_row (r : List Int) (c : Int) (h : MH) (h0 : 0 ≤ c) (h1 : c < r.length) : idxV (.d (encI r)) (.d (.int c)) h = some (.d (.int (r.getD c.toNat 0))) := by
  have hl : c.toNat < r.length := by omega
  refine idx_d .int _ r c _ h rfl h0 ?_
  rw [List.getD_eq_getElem?_getD, List.getElem?_eq_getElem hl]; rfl
theorem rng_m (m : Nat) (hm : m ≤ 1000) : rngOk 0 m = true := rngOk_of (by decide) (by decide) (by omega) (by omega)
theorem rlen (m : Nat) : (rangeI 0 (m : Int)).length = m := by rw [rangeI_len]; omega
def majL (J : List (List Int)) (j : Nat) : List Int := (rangeI 0 j).map fun i => if (J.length : Int) < 2 * (col J i).sum then 1 else 0
def tieB (J : List (List Int)) (j : Nat) : Bool := (rangeI 0 j).any fun i => decide (2 * (col J i).sum = (J.length : Int))
def majO (J : List (List Int)) (j : Nat) : Option (List Int) := if tieB J j = true then none else some (majL J j)
def encO : Option (List Int) → PyData
  | none => .none
  | some l => encI l
section
variable {j : Nat} {w J : List (List Int)}
theorem Wd.l1000 (g : Wd j w) {r : List Int} (hr : r ∈ w) : r.length ≤ 1000 := by rw [(g.rows r hr).1]; have := g.j5; omega
theorem Jd.idx0 (G : Jd w J) (g : Wd j w) (h : MH) : ∃ r0, idxV (.d (wv J)) (.d (.int 0)) h = some (.d (encI r0)) ∧ r0.length = j := by
  obtain ⟨r0, rs, e⟩ := List.exists_cons_of_ne_nil G.ne
  refine ⟨r0, idx_d encI _ J 0 r0 h rfl (by decide) (by rw [e]; rfl), ?_⟩
  exact (G.rows g r0 (by rw [e]; exact List.mem_cons_self)).1
theorem len_e (r : List Int) (h : MH) (hz : r.length ≤ 1000) : biV .len false [.d (encI r)] h = .ok (.d (.int r.length)) h := by
  have : r.length ≤ sz := le_sz (by omega)
  simp [encI, this]
theorem ones_ok (n : Nat) (h : MH) (g : Wd j w) (G : Jd w J) : R (n+1) "ones_of" [.d (wv J)] h = .ok (.d (.list ((rangeI 0 j).map fun i => .int (col J i).sum))) h := by
  rw [R_go (fn := fones_of) rfl rfl]
  obtain ⟨r0, i0, l0⟩ := G.idx0 g h
  have h5 := g.j5
  have len0 := len_e r0 h (by omega)
  have sJ : srcOf (.d (wv J)) h = some (.l (dmap (J.map encI))) := srcOf_t h _ (by rw [List.length_map]; exact G.sz)
  simp [fones_of, i0, len0, l0, rng_m j (by omega)]
  rw [lc_map _ (fun i => .int (col J i).sum) (le_sz (by rw [rlen]; omega)) (fun i hi => by
    rw [mem_rangeI] at hi
    simp [sJ]
    rw [lc_map _ (fun q => .int (q.getD i.toNat 0)) G.sz (fun q hq => by
      have := idx_row q i h hi.1 (by rw [(G.rows g q hq).1]; exact hi.2)
      simp only [List.getD_eq_getElem?_getD] at this
      simp [this])]
    simp [b_sum_map, col])]
  simp
theorem b_int_b (b : Bool) (mk : Bool) (h : MH) : biV .int mk [.d (.bool b)] h = .ok (.d (.int (if b = true then 1 else 0))) h := by cases b <;> rfl
end
end EvLaw

set_option Elab.async false
set_option linter.all false
set_option autoImplicit false
set_option maxRecDepth 100000
set_option maxHeartbeats 8000000
namespace EvLaw
open PySem Ev
open PySem.W (dataLt dataLe alike alikeAll minD maxD)
theorem mk_b (xs : List Bool) (h : MH) : mkl false (xs.map fun b => .d (.bool b)) h = .ok (.d (.list (xs.map .bool))) h := by
  have := mkl_d h (xs.map PyData.bool)
  rw [List.map_map] at this
  exact this
theorem sum01 : ∀ (l : List Int), (∀ x ∈ l, x = 0 ∨ x = 1) → l.sum = ((l.filter fun x => decide (x = 1)).length : Nat)
  | [], _ => rfl
  | x :: l, h => by
    have ih := sum01 l fun y hy => h y (List.mem_cons_of_mem _ hy)
    rw [List.sum_cons, ih]
    rcases h x List.mem_cons_self with rfl | rfl
    · rw [List.filter_cons_of_neg (by decide)]; omega
    · rw [List.filter_cons_of_pos (by decide), List.length_cons]; omega
theorem getD_mem {r : List Int} {i : Nat} (h : i < r.length) : r.getD i 0 ∈ r := by
  rw [List.getD_eq_getElem?_getD, List.getElem?_eq_getElem h]
  exact List.getElem_mem h
section
variable {j : Nat} {w J : List (List Int)}
theorem col_01 (g : Wd j w) (G : Jd w J) {i : Int} (h0 : 0 ≤ i) (h1 : i < j) : ∀ x ∈ col J i, x = 0 ∨ x = 1 := by
  intro x hx
  obtain ⟨r, hr, rfl⟩ := List.mem_map.mp hx
  obtain ⟨e, q⟩ := G.rows g r hr
  exact q _ (getD_mem (by omega))
def hitB (i : Int) (q : List Int) : Bool := decide (q.getD i.toNat 0 = 1)
theorem cnt_col (g : Wd j w) (G : Jd w J) {i : Int} (h0 : 0 ≤ i) (h1 : i < j) : ((J.filter (hitB i)).length : Int) = (col J i).sum := by
  rw [sum01 _ (col_01 g G h0 h1)]
  unfold col
  rw [List.filter_map, List.length_map]
  rfl
end
theorem eqv_self : ∀ r : List Int, PyData.eqv (encI r) (encI r) = true := fun r => by
  rw [show PyData.eqv (encI r) (encI r) = PyData.eqvAll (r.map .int) (r.map .int) from rfl, eqvAll_ints]
  simp
theorem any_w (w : List (List Int)) (t : List Int) : anyEqv (w.map encI) (encI t) = decide (t ∈ w) := by
  unfold anyEqv
  rw [List.any_map, Bool.eq_iff_iff, List.any_eq_true, decide_eq_true_eq]
  constructor
  · rintro ⟨x, hx, e⟩
    have e : PyData.eqvAll (x.map .int) (t.map .int) = true := e
    rw [eqvAll_ints, decide_eq_true_eq] at e
    rw [← e]; exact hx
  · intro hx
    exact ⟨t, hx, eqv_self t⟩
theorem in_some (w : List (List Int)) (t : List Int) (h : MH) : cmpV .in_ (.d (encI t)) (.d (wv w)) h = some (decide (t ∈ w)) := by
  have e1 : okN 40 (encI t) = true := okN_encI 39 t
  have e2 : okN 40 (.tuple (w.map encI)) = true := okN_map 39 encI _ (fun a => okN_encI 38 a)
  show (if (okN 40 (encI t) && okN 40 (.tuple (w.map encI))) = true then some (anyEqv (w.map encI) (encI t)) else _) = _
  rw [if_pos (by rw [e1, e2]; rfl), any_w]
theorem notin_some (w : List (List Int)) (t : List Int) (h : MH) : cmpV .notin (.d (encI t)) (.d (wv w)) h = some (!decide (t ∈ w)) := by
  have e1 : okN 40 (encI t) = true := okN_encI 39 t
  have e2 : okN 40 (.tuple (w.map encI)) = true := okN_map 39 encI _ (fun a => okN_encI 38 a)
  show (if (okN 40 (encI t) && okN 40 (.tuple (w.map encI))) = true then some (!anyEqv (w.map encI) (encI t)) else _) = _
  rw [if_pos (by rw [e1, e2]; rfl), any_w]
def lh (h : MH) (a : List Int) : MH := h ++ [.lst (dmap (a.map .int))]
theorem forL_app {t : Tg} {b : Ev.Env → MH → Ev.Res Fl} {h : MH} (tie : Int → Bool) (f : Int → Int) (I : Ev.Env → Prop) : ∀ (xs acc : List Int) (σ : Ev.Env), I σ →
    (∀ x ∈ xs, ∀ σ acc, acc.length < 1000 → I σ → ∃ σ1, putT t (.d (.int x)) σ = some σ1 ∧ (if tie x = true then b σ1 (lh h acc) = .ok (.rt (.d .none)) (lh h acc) else ∃ σ2, b σ1 (lh h acc) = .ok (.nx σ2) (lh h (acc ++ [f x])) ∧ I σ2)) → acc.length + xs.length ≤ 1000 →
    (if xs.any tie = true then ∃ acc', forL t b (dmap (xs.map .int)) σ (lh h acc) = .ok (.rt (.d .none)) (lh h acc') else ∃ σ2, forL t b (dmap (xs.map .int)) σ (lh h acc) = .ok (.nx σ2) (lh h (acc ++ xs.map f)) ∧ I σ2)
  | [], acc, σ, i, _, _ => ⟨σ, by rw [show acc ++ List.map f [] = acc by simp]; rfl, i⟩
  | x :: xs, acc, σ, i, hs, hl => by
    simp only [List.length_cons] at hl
    obtain ⟨σ1, e1, hb⟩ := hs x List.mem_cons_self σ acc (by omega) i
    have eq : forL t b (dmap ((x :: xs).map .int)) σ (lh h acc) = (match putT t (.d (.int x)) σ with
      | some σ1 => (b σ1 (lh h acc)).bind fun f h2 => (match f with
        | .nx σ2 => forL t b (dmap (xs.map .int)) σ2 h2
        | .ct σ2 => forL t b (dmap (xs.map .int)) σ2 h2
        | .bk σ2 => .ok (.nx σ2) h2
        | .rt v => .ok (.rt v) h2)
      | none => .stuck) := rfl
    rw [eq, e1, List.any_cons]
    by_cases hp : tie x = true
    · rw [if_pos hp] at hb
      rw [hp, Bool.true_or, if_pos rfl]
      dsimp only
      rw [hb]; exact ⟨acc, rfl⟩
    · rw [if_neg hp] at hb
      obtain ⟨σ2, e2, i2⟩ := hb
      rw [eq_false_of_ne_true hp, Bool.false_or]
      dsimp only
      rw [e2]
      have := forL_app tie f I xs (acc ++ [f x]) σ2 i2 (fun y hy => hs y (List.mem_cons_of_mem _ hy)) (by simp; omega)
      simp only [List.append_assoc, List.singleton_append] at this
      exact this
section
variable {j : Nat} {w J : List (List Int)}
theorem lmajority_ok (n : Nat) (h : MH) (g : Wd j w) (G : Jd w J) : R (n+1) "_law_majority" [.d (wv J)] h = .ok (.d (encO (majO J j))) h := by
  rw [R_go (fn := f_law_majority) rfl rfl]
  have h5 := g.j5
  have m2 : ∀ x, binI .mul 2 x = some (2*x) := fun x => binI_mull 2 x (by decide) (by decide)
  obtain ⟨r0, i0, l0⟩ := G.idx0 g (lh h [])
  have len0 := len_e r0 (lh h []) (by omega)
  have mt : mkl true [] h = .ok (.r h.length) (lh h []) := mkl_t0 h
  simp [f_law_majority, mt, i0, len0, l0, rng_m j (by omega), forF_l]
  have loop := forL_app (t := .nm 2) (b := evSs (GG n) (match f_law_majority.body with | .cons _ (.cons (.for_ _ _ b) _) => b | _ => .nil)) (h := h) (fun i => decide (2 * (col J i).sum = (J.length : Int))) (fun i => if (J.length : Int) < 2 * (col J i).sum then 1 else 0)
    (fun (σ : Ev.Env) => ∃ v2 v3 v4, σ = [some (.d (wv J)), some (.r h.length), v2, v3, v4]) (rangeI 0 j) [] [some (.d (wv J)), some (.r h.length), none, none, none] ⟨_, _, _, rfl⟩ (by
      rintro i hi σ acc ha ⟨v2, v3, v4, rfl⟩
      rw [mem_rangeI] at hi
      refine ⟨_, rfl, ?_⟩
      have sJ : srcOf (.d (wv J)) (lh h acc) = some (.l (dmap (J.map encI))) := srcOf_t _ _ (by rw [List.length_map]; exact G.sz)
      have lJ : biV .len false [.d (wv J)] (lh h acc) = .ok (.d (.int J.length)) (lh h acc) := by
        have := b_len_t (lh h acc) (J.map encI) false (by rw [List.length_map]; exact G.sz)
        rw [List.length_map] at this; exact this
      have ap : ∀ x : Int, metV .append (.r h.length) [.d (.int x)] (lh h acc) = .ok (.d .none) (lh h (acc ++ [x])) := fun x => by
        have := app_last h (acc.map .int) (.int x) (lt_sz (by rw [List.length_map]; omega))
        rw [show acc.map PyData.int ++ [.int x] = (acc ++ [x]).map .int by simp] at this
        exact this
      have it : itemsL (.r h.length) (lh h acc) = some (dmap (acc.map .int)) := by simp [itemsL, lh]
      have lz : (J.filter (hitB i)).length ≤ sz := Nat.le_trans (List.length_filter_le ..) G.sz
      have ln : biV .len false [.d (.list ((J.filter (hitB i)).map fun _ => .int 1))] (lh h acc) = .ok (.d (.int (col J i).sum)) (lh h acc) := by
        rw [b_len_l _ _ _ (by rw [List.length_map]; exact lz), List.length_map, cnt_col g G hi.1 hi.2]
      simp [f_law_majority, sJ]
      rw [lc_filter _ (hitB i) (fun _ => .int 1) G.sz (fun q hq => by
        have := idx_row q i (lh h acc) hi.1 (by rw [(G.rows g q hq).1]; exact hi.2)
        simp only [List.getD_eq_getElem?_getD] at this
        simp [this, hitB]
        split <;> simp)]
      simp only [bind_ok', ln, calm_ok']
      simp [m2, lJ]
      by_cases hq : 2 * (col J i).sum = (J.length : Int)
      · simp [hq]
      · simp [hq, it, m2, lJ, b_int_b, ap]) (by rw [rlen]; simp; omega)
  unfold majO
  rw [show ((rangeI 0 (j:Int)).any fun i => decide (2 * (col J i).sum = (J.length : Int))) = tieB J j from rfl] at loop
  cases hT : tieB J j with
  | true =>
    rw [hT, if_pos rfl] at loop
    obtain ⟨acc', e⟩ := loop
    simp only [f_law_majority] at e
    rw [e]
    simp [encO, lh]
  | false =>
    rw [hT, if_neg (by decide)] at loop
    obtain ⟨σ2, e, v2, v3, v4, rfl⟩ := loop
    simp only [f_law_majority] at e
    have tl := tuple_last h ((majL J j).map .int)
    have tl : biV .tuple false [.r h.length] (lh h ([] ++ majL J j)) = _ := tl
    simp only [majL, List.nil_append] at tl
    rw [e]
    simp only [List.nil_append, bind_ok']
    simp [tl]
    simp [encO, lh, encI, majL]
end
end EvLaw

set_option Elab.async false
set_option linter.all false
set_option autoImplicit false
namespace EvLaw
/-! plain: issues in turn -/
abbrev Lt := List (Int × Int)
def gi (s : List Int) (i : Int) : Int := s.getD i.toNat 0
def has (s : List Int) (l : Lt) : Bool := l.all fun p => decide (gi s p.1 = p.2)
def stand (w : List (List Int)) (l : Lt) : Bool := w.any fun s => has s l
def valS (w : List (List Int)) (v : Int → Int) (l : Lt) (i : Int) : Int := if stand w (l ++ [(i, v i)]) = true then v i else 1 - v i
def stepS (w : List (List Int)) (v : Int → Int) (l : Lt) (i : Int) : Lt := l ++ [(i, valS w v l i)]
def keepL (v : Int → Int) (left : List (List Int)) (i : Int) : List (List Int) := left.filter fun s => decide (gi s i = v i)
def stepL (v : Int → Int) (left : List (List Int)) (i : Int) : List (List Int) := if keepL v left i = [] then left else keepL v left i
theorem has_snoc (s : List Int) (l : Lt) (p : Int × Int) : has s (l ++ [p]) = (has s l && decide (gi s p.1 = p.2)) := by simp [has]
theorem filt_snoc (w : List (List Int)) (l : Lt) (p : Int × Int) : (w.filter fun s => has s (l ++ [p])) = (w.filter fun s => has s l).filter fun s => decide (gi s p.1 = p.2) := by
  rw [List.filter_filter]
  refine List.filter_congr fun s _ => ?_
  rw [has_snoc, Bool.and_comm]
theorem stand_ne (w : List (List Int)) (l : Lt) : stand w l = true ↔ (w.filter fun s => has s l) ≠ [] := by
  unfold stand
  rw [List.any_eq_true]
  constructor
  · rintro ⟨s, h1, h2⟩ e
    have : s ∈ w.filter fun s => has s l := List.mem_filter.mpr ⟨h1, h2⟩
    rw [e] at this; cases this
  · intro h
    obtain ⟨s, hs⟩ := List.exists_mem_of_ne_nil _ h
    exact ⟨s, (List.mem_filter.mp hs).1, (List.mem_filter.mp hs).2⟩
theorem step_inv {w : List (List Int)} {v : Int → Int} {i : Int} (h01 : ∀ s ∈ w, gi s i = 0 ∨ gi s i = 1) (v01 : v i = 0 ∨ v i = 1) {l : Lt} {left : List (List Int)} (hl : left = w.filter fun s => has s l) (hn : left ≠ []) :
    stepL v left i = w.filter (fun s => has s (stepS w v l i)) ∧ stepL v left i ≠ [] ∧ ∀ M ∈ left, gi M i = v i → M ∈ stepL v left i := by
  have hk : keepL v left i = w.filter fun s => has s (l ++ [(i, v i)]) := by
    rw [filt_snoc, ← hl]; rfl
  have hs := stand_ne w (l ++ [(i, v i)])
  rw [← hk] at hs
  unfold stepL stepS valS
  by_cases hc : keepL v left i = []
  · rw [if_pos hc]
    have hf : ¬ stand w (l ++ [(i, v i)]) = true := fun z => hs.mp z hc
    rw [if_neg hf]
    refine ⟨?_, hn, fun M hM _ => hM⟩
    rw [filt_snoc, ← hl]
    refine (List.filter_eq_self.mpr fun s hsl => decide_eq_true ?_).symm
    have hw : s ∈ w := by rw [hl] at hsl; exact (List.mem_filter.mp hsl).1
    have hne : gi s i ≠ v i := fun e => by
      have : s ∈ keepL v left i := List.mem_filter.mpr ⟨hsl, decide_eq_true e⟩
      rw [hc] at this; cases this
    show gi s i = 1 - v i
    rcases h01 s hw with e | e <;> rcases v01 with e2 | e2 <;> omega
  · rw [if_neg hc, if_pos (hs.mpr hc)]
    exact ⟨hk, hc, fun M hM he => List.mem_filter.mpr ⟨hM, decide_eq_true he⟩⟩
theorem turn_inv {w : List (List Int)} {v : Int → Int} (v01 : ∀ i, v i = 0 ∨ v i = 1) : ∀ (r : List Int) (l : Lt) (left : List (List Int)), (∀ s ∈ w, ∀ i ∈ r, gi s i = 0 ∨ gi s i = 1) → left = (w.filter fun s => has s l) → left ≠ [] →
    r.foldl (stepL v) left = w.filter (fun s => has s (r.foldl (stepS w v) l)) ∧ r.foldl (stepL v) left ≠ [] ∧ (r.foldl (stepS w v) l).map (·.1) = l.map (·.1) ++ r ∧ ∀ M ∈ left, (∀ i ∈ r, gi M i = v i) → M ∈ r.foldl (stepL v) left
  | [], l, left, _, hl, hn => ⟨hl, hn, by simp, fun M hM _ => hM⟩
  | i :: r, l, left, h01, hl, hn => by
    obtain ⟨a1, a2, a3⟩ := step_inv (i := i) (fun s hs => h01 s hs i List.mem_cons_self) (v01 i) hl hn
    obtain ⟨b1, b2, b3, b4⟩ := turn_inv v01 r (stepS w v l i) (stepL v left i) (fun s hs k hk => h01 s hs k (List.mem_cons_of_mem _ hk)) a1 a2
    refine ⟨b1, b2, ?_, fun M hM hm => b4 M (a3 M hM (hm i List.mem_cons_self)) fun k hk => hm k (List.mem_cons_of_mem _ hk)⟩
    rw [List.foldl_cons, b3]
    simp [stepS]
def lawT (w : List (List Int)) (v : Int → Int) (r : List Int) : List Int := (r.foldl (stepL v) w).headD []
theorem map_fst_eq {l : Lt} {s : List Int} {r : List Int} (h : l.map (·.1) = r) (hs : has s l = true) : l = r.map fun i => (i, gi s i) := by
  subst h
  rw [List.map_map]
  have hs := List.all_eq_true.mp hs
  conv => lhs; rw [← List.map_id l]
  refine List.map_congr_left fun p hp => ?_
  have := of_decide_eq_true (hs p hp)
  show p = (p.1, gi s p.1)
  rw [this]
/-- what comes of it -/
theorem lawT_ok {w : List (List Int)} {v : Int → Int} (v01 : ∀ i, v i = 0 ∨ v i = 1) {r : List Int} (h01 : ∀ s ∈ w, ∀ i ∈ r, gi s i = 0 ∨ gi s i = 1) (hw : w ≠ []) :
    lawT w v r ∈ w ∧ r.foldl (stepS w v) [] = (r.map fun i => (i, gi (lawT w v r) i)) ∧ (∃ t, r.foldl (stepL v) w = lawT w v r :: t) ∧ ∀ M ∈ w, (∀ i ∈ r, gi M i = v i) → ∀ i ∈ r, gi (lawT w v r) i = v i := by
  obtain ⟨a1, a2, a3, a4⟩ := turn_inv v01 r [] w h01 (List.filter_eq_self.mpr fun s _ => rfl).symm hw
  unfold lawT
  cases hL : r.foldl (stepL v) w with
  | nil => exact absurd hL a2
  | cons s t =>
    rw [hL] at a1 a4
    have hs : s ∈ w.filter fun s => has s (r.foldl (stepS w v) []) := by rw [← a1]; exact List.mem_cons_self
    obtain ⟨h1, h2⟩ := List.mem_filter.mp hs
    have e := map_fst_eq (r := r) (by rw [a3]; simp) h2
    refine ⟨h1, e, ⟨t, rfl⟩, fun M hM hm i hi => ?_⟩
    have hM2 := a4 M hM hm
    rw [a1] at hM2
    have e2 := map_fst_eq (r := r) (by rw [a3]; simp) (List.mem_filter.mp hM2).2
    rw [e] at e2
    have hmap := List.map_inj_left.mp e2 i hi
    have := congrArg Prod.snd hmap
    show gi s i = v i
    rw [← hm i hi]; exact this
end EvLaw

set_option Elab.async false
set_option linter.all false
set_option autoImplicit false
set_option maxRecDepth 100000
set_option maxHeartbeats 8000000
namespace EvLaw
open PySem Ev
open PySem.W (dataLt dataLe alike alikeAll minD maxD)
def isOrd (l : List Int) : Bool := decide (sortI l = rangeI 0 l.length)
theorem inB_of {xs : List PyData} {a b : Int} (h : xs.all (within a b) = true) : ∃ l : List Int, xs = l.map .int ∧ ∀ x ∈ l, a ≤ x ∧ x ≤ b := by
  induction xs with
  | nil => exact ⟨[], rfl, by simp⟩
  | cons x xs ih =>
    rw [List.all_cons, Bool.and_eq_true] at h
    obtain ⟨l, e, hl⟩ := ih h.2
    cases x <;> simp only [within, Bool.and_eq_true, decide_eq_true_eq, Bool.false_eq_true, false_and] at h
    rename_i i
    exact ⟨i :: l, by rw [e]; rfl, by
      intro y hy
      rcases List.mem_cons.mp hy with rfl | hy
      · exact h.1
      · exact hl y hy⟩
theorem ord_in {l : List Int} (h : isOrd l = true) : ∀ x ∈ l, 0 ≤ x ∧ x < l.length := by
  intro x hx
  have e : sortI l = rangeI 0 l.length := of_decide_eq_true h
  have := mem_sortI.mpr hx
  rw [e, mem_rangeI] at this
  exact this
theorem sorted_cmp (l : List Int) (h : MH) (hl : l.length ≤ 5) (mk : Bool) : biV .sorted false [.d (encI l)] h = .ok (.d (.list ((sortI l).map .int))) h := by
  rw [b_sorted_ints _ l false h rfl (le_sz (by omega))]
  exact mkl_d _ _
theorem rng5 (m : Nat) (hm : m ≤ 1000) : rngOk 0 m = true := rngOk_of (by decide) (by decide) (by omega) (by omega)
theorem are_all_g (n : Nat) (xs : List PyData) (h : MH) (h1 : 1 ≤ xs.length) (h5 : xs.length ≤ 5) : R (n+3) "are_all" [.d (.tuple xs), .d (.int xs.length)] h = .ok (.d (.bool (match intsOf xs with | some l => isOrd l | none => false))) h := by
  rw [R_go (fn := fare_all) rfl rfl]
  have hz : xs.length ≤ sz := le_sz (by omega)
  have s1 := is_sized_any (n+1) (.tuple xs) xs.length xs.length h (by simp only [sm, Bool.and_eq_true, decide_eq_true_eq, List.all_eq_true]; exact ⟨by omega, fun _ _ => trivial⟩)
  simp only [sizedB, Int.le_refl, decide_true, Bool.and_self] at s1
  simp [fare_all, s1, hz]
  rw [lc_mapD (fun d => .bool (within 0 ((xs.length : Int) - 1) d)) hz (fun d hd => by simp [is_within_any])]
  simp only [b_all_map, bind_ok', calm_ok', trB_bool]
  cases hw : xs.all (within 0 ((xs.length : Int) - 1)) with
  | true =>
    obtain ⟨l, e, hl⟩ := inB_of hw
    subst e
    rw [intsOf_map]
    have hlen : l.length ≤ 5 := by simpa using h5
    have sc := sorted_cmp l h hlen false
    unfold encI at sc
    simp [sc, rgF_l, rng5 l.length (by omega), cmp_eq_ll, isOrd]
  | false =>
    have e : (match intsOf xs with | some l => isOrd l | none => false) = false := by
      cases hi : intsOf xs with
      | none => rfl
      | some l =>
        have := intsOf_some hi
        subst this
        cases ho : isOrd l with
        | false => exact ho
        | true =>
          exfalso
          have : (l.map PyData.int).all (within 0 (((l.map PyData.int).length : Int) - 1)) = true := by
            rw [List.all_map, List.all_eq_true]
            intro x hx
            have := ord_in ho x hx
            simp [within]
            omega
          rw [this] at hw; cases hw
    rw [e]
    simp
def Rw (m k : Nat) (r : List Int) : Prop := r.length = k ∧ r.Nodup ∧ ∀ x ∈ r, 0 ≤ x ∧ x < m
theorem asc_range : ∀ (l : List Int) (a : Int), l.Pairwise (· < ·) → (∀ x ∈ l, a ≤ x ∧ x < a + l.length) → l = rangeI a (a + l.length)
  | [], a, _, _ => by simp [rangeI]
  | x :: xs, a, hp, hb => by
    rw [List.pairwise_cons] at hp
    have low : ∀ (l : List Int) (b : Int), l.Pairwise (· < ·) → (∀ x ∈ l, b ≤ x) → ∀ c, (∀ x ∈ l, x < c) → l ≠ [] → b + l.length ≤ c := by
      intro l
      induction l with
      | nil => intro b _ _ c _ hne; exact absurd rfl hne
      | cons y ys ih =>
        intro b hp hb c hc _
        rw [List.pairwise_cons] at hp
        by_cases hy : ys = []
        · subst hy
          have h1 := hb y List.mem_cons_self
          have h2 := hc y List.mem_cons_self
          simp; omega
        · have := ih (b + 1) hp.2 (fun z hz => by
            have h1 := hp.1 z hz
            have h2 := hb y List.mem_cons_self
            omega) c (fun z hz => hc z (List.mem_cons_of_mem _ hz)) hy
          simp only [List.length_cons]
          omega
    have hx := hb x List.mem_cons_self
    have ex : x = a := by
      have := low (x :: xs) x (List.pairwise_cons.mpr hp) (fun z hz => by
        rcases List.mem_cons.mp hz with rfl | hz
        · omega
        · have := hp.1 z hz; omega) (a + (x :: xs).length) (fun z hz => (hb z hz).2) (by simp)
      omega
    subst ex
    have ih := asc_range xs (x + 1) hp.2 (fun z hz => by
      have h1 := hp.1 z hz
      have h2 := (hb z (List.mem_cons_of_mem _ hz)).2
      simp only [List.length_cons] at h2
      omega)
    have e : x + ((x :: xs).length : Int) = (x + 1) + (xs.length : Int) := by simp only [List.length_cons]; omega
    rw [e, rangeI_split x (x + 1) _ (by omega) (by omega), rangeI_one x (x + 1) rfl, ← ih]; rfl
theorem Rw.ord {m : Nat} {r : List Int} (h : Rw m m r) : isOrd r = true := by
  obtain ⟨h1, h2, h3⟩ := h
  unfold isOrd
  rw [decide_eq_true_eq]
  have pw : (sortI r).Pairwise (· < ·) := by
    have p1 := sortI_pw r
    have p2 : (sortI r).Nodup := (sortI_perm r).nodup_iff.mpr h2
    exact (p1.and p2).imp fun ⟨a, b⟩ => by omega
  have := asc_range (sortI r) 0 pw (fun x hx => by
    have := h3 x (mem_sortI.mp hx)
    rw [sortI_len, h1]; omega)
  rw [sortI_len] at this
  simpa using this
theorem are_all_ok (n : Nat) (h : MH) {m : Nat} {r : List Int} (hr : Rw m m r) (m1 : 1 ≤ m) (m5 : m ≤ 5) : R (n+3) "are_all" [.d (encI r), .d (.int m)] h = .ok (.d (.bool true)) h := by
  have := are_all_g n (r.map PyData.int) h (by rw [List.length_map, hr.1]; exact m1) (by rw [List.length_map, hr.1]; exact m5)
  rw [intsOf_map, List.length_map, hr.1] at this
  dsimp only at this
  rw [hr.ord] at this
  exact this
def ordN (k : Nat) : Nat → List (List Int)
  | 0 => [[]]
  | j + 1 => (ordN k j).flatMap fun r => ((rangeI 0 k).filter fun x => !decide (x ∈ r)).map fun x => r ++ [x]
theorem ordN_rw (k : Nat) : ∀ (j : Nat) (r : List Int), r ∈ ordN k j → Rw k j r
  | 0, r, h => by
    simp only [ordN, List.mem_singleton] at h
    subst h
    exact ⟨rfl, by simp, by simp⟩
  | j + 1, r, h => by
    simp only [ordN, List.mem_flatMap] at h
    obtain ⟨q, hq, h⟩ := h
    obtain ⟨x, hx, rfl⟩ := List.mem_map.mp h
    obtain ⟨h1, h2⟩ := List.mem_filter.mp hx
    have hr := ordN_rw k j q hq
    have hxq : x ∉ q := by simpa using h2
    refine ⟨by simp [hr.1], ?_, ?_⟩
    · rw [List.nodup_append]
      refine ⟨hr.2.1, by simp, ?_⟩
      rintro a ha b hb rfl
      rcases List.mem_singleton.mp hb with rfl
      exact hxq ha
    · intro y hy
      rcases List.mem_append.mp hy with hy | hy
      · exact hr.2.2 y hy
      · rcases List.mem_singleton.mp hy with rfl
        exact mem_rangeI.mp h1
theorem rw_ordN (k : Nat) : ∀ (j : Nat) (r : List Int), Rw k j r → r ∈ ordN k j
  | 0, r, h => by
    have : r = [] := List.length_eq_zero_iff.mp h.1
    simp [ordN, this]
  | j + 1, r, h => by
    obtain ⟨h1, h2, h3⟩ := h
    have hne : r ≠ [] := fun e => by rw [e] at h1; simp at h1
    have e : r = r.dropLast ++ [r.getLast hne] := (List.dropLast_concat_getLast hne).symm
    have hq : Rw k j r.dropLast := ⟨by rw [List.length_dropLast, h1]; rfl, h2.sublist (List.dropLast_sublist r), fun x hx => h3 x ((List.dropLast_sublist r).subset hx)⟩
    simp only [ordN, List.mem_flatMap]
    refine ⟨r.dropLast, rw_ordN k j _ hq, List.mem_map.mpr ⟨r.getLast hne, List.mem_filter.mpr ⟨mem_rangeI.mpr (h3 _ (List.getLast_mem hne)), ?_⟩, e.symm⟩⟩
    rw [e, List.nodup_append] at h2
    have := h2.2.2
    simp only [Bool.not_eq_true', decide_eq_false_iff_not]
    exact fun hm => this _ hm _ (by simp) rfl
theorem mem_ord {k : Nat} {r : List Int} : r ∈ ordN k k ↔ Rw k k r := ⟨ordN_rw k k r, rw_ordN k k r⟩
theorem LB : (List.range 6).all (fun k => (List.range 6).all fun j => decide ((ordN k j).length ≤ 1000)) = true := by decide +kernel
theorem ordN_b {k j : Nat} (hk : k ≤ 5) (hj : j ≤ 5) : (ordN k j).length ≤ 1000 := by
  have := LB
  rw [List.all_eq_true] at this
  have := this k (List.mem_range.mpr (by omega))
  rw [List.all_eq_true] at this
  exact of_decide_eq_true (this j (List.mem_range.mpr (by omega)))
def extN (k : Nat) (r : List Int) : List (List Int) := ((rangeI 0 k).filter fun x => !decide (x ∈ r)).map fun x => r ++ [x]
theorem ordN_succ (k j : Nat) : ordN k (j + 1) = (ordN k j).flatMap (extN k) := rfl
theorem flat_pre {α β : Type} (f : α → List β) (pre : List α) (x : α) (post : List α) : ((pre).flatMap f).length ≤ ((pre ++ x :: post).flatMap f).length := by
  rw [List.flatMap_append, List.length_append]; omega
theorem notin_enc (x : Int) (b : List Int) (h : MH) : cmpV .notin (.d (.int x)) (.d (encI b)) h = some (!decide (x ∈ b)) := cmp_notin_v _ b x h rfl
def AO : Sts := match fall_rows.body with | .cons _ (.cons (.for_ _ _ b) _) => b | _ => .nil
def AI : Sts := match AO with | .cons _ (.cons (.for_ _ _ b) _) => b | _ => .nil
theorem ai_ok (n : Nat) (h : MH) (k : Nat) (hk : k ≤ 5) (r : List Int) (hr : r.length ≤ 5) (acc : List (List Int)) (ha : acc.length ≤ 1000) (x1 x2 x5 : Option Vl) :
    evSs (GG n) AI [some (.d (.list ((rangeI 0 (k : Int)).map .int))), x1, x2, some (.r h.length), some (.d (encI r)), x5] (dl h (acc.map encI)) = .ok (.nx [some (.d (.list ((rangeI 0 (k : Int)).map .int))), x1, x2, some (.r h.length), some (.d (encI r)), x5]) (dl h ((acc ++ extN k r).map encI)) := by
  have hz : (rangeI 0 (k : Int)).length ≤ sz := le_sz (by rw [rlen]; omega)
  have hel : (extN k r).length ≤ 1000 := by
    unfold extN
    rw [List.length_map]
    have := List.length_filter_le (fun x => !decide (x ∈ r)) (rangeI 0 (k : Int))
    rw [rlen] at this
    omega
  have it := dl_it h (acc.map encI)
  have ex := ext_last h (acc.map encI) ((extN k r).map encI) (le_sz (by simp; omega))
  have ex : metV .extend (.r h.length) [.d (.list ((extN k r).map encI))] (dl h (acc.map encI)) = .ok (.d .none) (dl h ((acc ++ extN k r).map encI)) := by
    rw [List.map_append]; exact ex
  have so := srcOf_l (dl h (acc.map encI)) ((rangeI 0 (k : Int)).map .int) (by rw [List.length_map]; exact hz)
  simp [AI, AO, fall_rows, it, so]
  rw [lc_filter _ (fun x => !decide (x ∈ r)) (fun x => encI (r ++ [x])) hz (fun x hx => by
    have nn := notin_enc x r (dl h (acc.map encI))
    have ba : binV .add false (.d (encI r)) (.d (.tuple [.int x])) (dl h (acc.map encI)) = .ok (.d (encI (r ++ [x]))) (dl h (acc.map encI)) := by
      show (if (r.map PyData.int).length + 1 ≤ sz then Ev.Res.ok (Vl.d (.tuple (r.map .int ++ [.int x]))) (dl h (acc.map encI)) else .stuck) = _
      rw [if_pos (le_sz (by simp; omega))]
      unfold encI
      rw [List.map_append]; rfl
    by_cases hq : x ∈ r <;> simp [nn, hq, ba])]
  rw [show ((rangeI 0 (k : Int)).filter fun x => !decide (x ∈ r)).map (fun x => encI (r ++ [x])) = (extN k r).map encI by unfold extN; rw [List.map_map]; rfl]
  simp only [bind_ok', calm_ok']
  rw [ex]
  simp
theorem ao_ok (n : Nat) (h : MH) (k j : Nat) (hk : k ≤ 5) (hj : j < k) (x2 x3 x4 x5 : Option Vl) :
    ∃ y3 y4, evSs (GG n) AO [some (.d (.list ((rangeI 0 (k : Int)).map .int))), some (.d (.list ((ordN k j).map encI))), x2, x3, x4, x5] h = .ok (.nx [some (.d (.list ((rangeI 0 (k : Int)).map .int))), some (.d (.list ((ordN k (j + 1)).map encI))), x2, y3, y4, x5]) (h ++ [.dead]) := by
  have b1 := ordN_b hk (show j ≤ 5 by omega)
  have b2 := ordN_b hk (show j + 1 ≤ 5 by omega)
  have hz : (ordN k j).length ≤ sz := le_sz (by omega)
  obtain ⟨σ2, h2, ef, ⟨y4, rfl⟩, eh⟩ := forL_fold (t := .nm 4) (b := evSs (GG n) AI) (e := encI) (xs := ordN k j) (σ := [some (.d (.list ((rangeI 0 (k : Int)).map .int))), some (.d (.list ((ordN k j).map encI))), x2, some (.r h.length), x4, x5]) (h := dl h [])
    (fun pre σ hh => (∃ y4, σ = [some (.d (.list ((rangeI 0 (k : Int)).map .int))), some (.d (.list ((ordN k j).map encI))), x2, some (.r h.length), y4, x5]) ∧ hh = dl h ((pre.flatMap (extN k)).map encI))
    ⟨⟨x4, rfl⟩, rfl⟩ (by
      rintro pre r post σ hh hx ⟨⟨y4, rfl⟩, rfl⟩
      have hr := ordN_rw k j r (by rw [hx]; simp)
      have hl := flat_pre (extN k) pre r post
      rw [← hx, ← ordN_succ] at hl
      refine ⟨_, rfl, _, _, .inl (ai_ok n h k hk r (by have := hr.1; omega) _ (by omega) _ x2 x5), ⟨some (.d (encI r)), rfl⟩, ?_⟩
      rw [List.flatMap_append]
      simp)
  rw [eh] at ef
  rw [← ordN_succ] at ef
  refine ⟨some (.r h.length), y4, ?_⟩
  have fz := dl_frz h ((ordN k (j + 1)).map encI)
  simp [AO, fall_rows, dl_nil, hz, forF_l]
  simp only [AI, AO, fall_rows] at ef
  rw [ef]
  simp [fz]
theorem all_rows_ok (n : Nat) (h : MH) (k : Nat) (hk : k ≤ 5) : R (n+1) "all_rows" [.d (.list ((rangeI 0 (k : Int)).map .int))] h = .ok (.d (.list ((ordN k k).map encI))) h := by
  rw [R_go (fn := fall_rows) rfl rfl]
  obtain ⟨σ2, h2, ef, ⟨y2, y3, y4, rfl⟩, D, eh⟩ := forL_fold (t := .nm 2) (b := evSs (GG n) AO) (e := .int) (xs := rangeI 0 (k : Int)) (σ := [some (.d (.list ((rangeI 0 (k : Int)).map .int))), some (.d (.list [.tuple []])), none, none, none, none]) (h := h)
    (fun pre σ hh => (∃ y2 y3 y4, σ = [some (.d (.list ((rangeI 0 (k : Int)).map .int))), some (.d (.list ((ordN k pre.length).map encI))), y2, y3, y4, none]) ∧ ∃ D, hh = h ++ D)
    ⟨⟨none, none, none, rfl⟩, [], by simp⟩ (by
      rintro pre x post σ hh hx ⟨⟨y2, y3, y4, rfl⟩, D, rfl⟩
      obtain ⟨hx1, hx2, hx3, hx4⟩ := range_pre hx
      obtain ⟨z3, z4, e⟩ := ao_ok n (h ++ D) k pre.length hk (by omega) (some (.d (.int x))) y3 y4 none
      refine ⟨_, rfl, _, _, .inl e, ⟨some (.d (.int x)), z3, z4, ?_⟩, D ++ [.dead], by simp⟩
      rw [List.length_append]; rfl)
  rw [eh, rlen] at ef
  have hz : (rangeI 0 (k : Int)).length ≤ sz := le_sz (by rw [rlen]; omega)
  have so := srcOf_l h ((rangeI 0 (k : Int)).map .int) (by rw [List.length_map]; exact hz)
  simp [fall_rows, so, forF_l]
  simp only [AO, fall_rows] at ef
  rw [ef]
  simp
def OO : Sts := match f_law_orders.body with | .cons _ (.cons (.for_ _ _ b) _) => b | _ => .nil
def OI : Sts := match OO with | .cons _ (.cons (.for_ _ _ b) _) => b | _ => .nil
theorem oi_ok (n : Nat) (h : MH) (k : Nat) (hk : k ≤ 5) (r : List Int) (hr : r.length ≤ 5) (acc : List (List Int)) (ha : acc.length ≤ 1000) (x1 x2 x5 : Option Vl) :
    evSs (GG n) OI [some (.d (.int k)), x1, x2, some (.d (.list (acc.map encI))), some (.d (encI r)), x5] h = .ok (.nx [some (.d (.int k)), x1, x2, some (.d (.list ((acc ++ extN k r).map encI))), some (.d (encI r)), x5]) h := by
  have e : OI = (.cons (.set 3 (.bin .add false (.var 3) (.lc false (.bin .add false (.var 4) (.tup (.cons (.var 5) .nil))) (.nm 5) (.rng0 (.var 0)) (.cons (.cmp .notin (.var 5) (.var 4)) .nil) [5]))) .nil) := rfl
  have hz : (rangeI 0 (k : Int)).length ≤ sz := le_sz (by rw [rlen]; omega)
  have hel : (extN k r).length ≤ 1000 := by
    unfold extN
    rw [List.length_map]
    have := List.length_filter_le (fun x => !decide (x ∈ r)) (rangeI 0 (k : Int))
    rw [rlen] at this
    omega
  have e1 := binV_ll h (acc.map encI) ((extN k r).map encI) (le_sz (by simp; omega))
  rw [e]
  simp [rng_m k (show k ≤ 1000 by omega)]
  rw [lc_filter _ (fun x => !decide (x ∈ r)) (fun x => encI (r ++ [x])) hz (fun x hx => by
    have nn := notin_enc x r h
    have ba : binV .add false (.d (encI r)) (.d (.tuple [.int x])) h = .ok (.d (encI (r ++ [x]))) h := by
      show (if (r.map PyData.int).length + 1 ≤ sz then Ev.Res.ok (Vl.d (.tuple (r.map .int ++ [.int x]))) h else .stuck) = _
      rw [if_pos (le_sz (by simp; omega))]
      unfold encI
      rw [List.map_append]; rfl
    by_cases hq : x ∈ r <;> simp [nn, hq, ba])]
  rw [show ((rangeI 0 (k : Int)).filter fun x => !decide (x ∈ r)).map (fun x => encI (r ++ [x])) = (extN k r).map encI by unfold extN; rw [List.map_map]; rfl]
  simp only [bind_ok', calm_ok']
  rw [e1]
  simp
theorem oo_ok (n : Nat) (h : MH) (k j : Nat) (hk : k ≤ 5) (hj : j < k) (x2 x3 x4 x5 : Option Vl) :
    ∃ y3 y4, evSs (GG n) OO [some (.d (.int k)), some (.d (.list ((ordN k j).map encI))), x2, x3, x4, x5] h = .ok (.nx [some (.d (.int k)), some (.d (.list ((ordN k (j + 1)).map encI))), x2, y3, y4, x5]) h := by
  have e : OO = (.cons (.set 3 (.lst false .nil)) (.cons (.for_ (.nm 4) (.seq (.var 1)) OI) (.cons (.set 1 (.var 3)) .nil))) := rfl
  have b1 := ordN_b hk (show j ≤ 5 by omega)
  have b2 := ordN_b hk (show j + 1 ≤ 5 by omega)
  have hz : (ordN k j).length ≤ sz := le_sz (by omega)
  obtain ⟨σ2, h2, ef, ⟨y4, rfl⟩, eh⟩ := forL_fold (t := .nm 4) (b := evSs (GG n) OI) (e := encI) (xs := ordN k j) (σ := [some (.d (.int k)), some (.d (.list ((ordN k j).map encI))), x2, some (.d (.list [])), x4, x5]) (h := h)
    (fun pre σ hh => (∃ y4, σ = [some (.d (.int k)), some (.d (.list ((ordN k j).map encI))), x2, some (.d (.list ((pre.flatMap (extN k)).map encI))), y4, x5]) ∧ hh = h)
    ⟨⟨x4, rfl⟩, rfl⟩ (by
      rintro pre r post σ hh hx ⟨⟨y4, rfl⟩, rfl⟩
      have hr := ordN_rw k j r (by rw [hx]; simp)
      have hl := flat_pre (extN k) pre r post
      rw [← hx, ← ordN_succ] at hl
      refine ⟨_, rfl, _, _, .inl (oi_ok n hh k hk r (by have := hr.1; omega) _ (by omega) _ x2 x5), ⟨some (.d (encI r)), ?_⟩, rfl⟩
      rw [List.flatMap_append]
      simp)
  rw [eh] at ef
  rw [← ordN_succ] at ef
  refine ⟨some (.d (.list ((ordN k (j + 1)).map encI))), y4, ?_⟩
  have m0 : mkl false [] h = .ok (.d (.list [])) h := rfl
  rw [e]
  simp [m0, hz, forF_l, ef]
theorem law_orders_ok (n : Nat) (h : MH) (k : Nat) (hk : k ≤ 5) : R (n+1) "_law_orders" [.d (.int k)] h = .ok (.d (.list ((ordN k k).map encI))) h := by
  rw [R_go (fn := f_law_orders) rfl rfl]
  obtain ⟨σ2, h2, ef, ⟨y2, y3, y4, rfl⟩, eh⟩ := forL_fold (t := .nm 2) (b := evSs (GG n) OO) (e := .int) (xs := rangeI 0 (k : Int)) (σ := [some (.d (.int k)), some (.d (.list [.tuple []])), none, none, none, none]) (h := h)
    (fun pre σ hh => (∃ y2 y3 y4, σ = [some (.d (.int k)), some (.d (.list ((ordN k pre.length).map encI))), y2, y3, y4, none]) ∧ hh = h)
    ⟨⟨none, none, none, rfl⟩, rfl⟩ (by
      rintro pre x post σ hh hx ⟨⟨y2, y3, y4, rfl⟩, rfl⟩
      obtain ⟨hx1, hx2, hx3, hx4⟩ := range_pre hx
      obtain ⟨z3, z4, e⟩ := oo_ok n hh k pre.length hk (by omega) (some (.d (.int x))) y3 y4 none
      refine ⟨_, rfl, _, _, .inl e, ⟨some (.d (.int x)), z3, z4, ?_⟩, rfl⟩
      rw [List.length_append]; rfl)
  rw [eh, rlen] at ef
  have e : f_law_orders.body = .cons (.set 1 (.lst false (.cons (.tup .nil) .nil))) (.cons (.for_ (.nm 2) (.rng0 (.var 0)) OO) (.cons (.ret (.var 1)) .nil)) := rfl
  have ep : f_law_orders.ps = 1 := rfl
  have en : f_law_orders.n = 6 := rfl
  rw [e, ep, en]
  simp [rng_m k (show k ≤ 1000 by omega), forF_l, ef]
section
variable {m : Nat}
theorem are_all_no (n : Nat) (h : MH) (d : PyData) (hs : sm 1 d = true) (hz : sizedB m m d = false) : R (n+3) "are_all" [.d d, .d (.int m)] h = .ok (.d (.bool false)) h := by
  rw [R_go (fn := fare_all) rfl rfl]
  have s1 := is_sized_any (n+1) d m m h hs
  rw [hz] at s1
  simp [fare_all, s1]
def offO (m : Nat) (r : List Int) : List PyData := [.none, .tuple [], .list (r.map .int), encI (r ++ [0]), encI (List.replicate m (m : Int)), .int 0]
theorem offO_ok (m1 : 1 ≤ m) (m5 : m ≤ 5) {r : List Int} (hr : Rw m m r) : ∀ d ∈ offO m r, ∀ n h, R (n+3) "are_all" [.d d, .d (.int m)] h = .ok (.d (.bool false)) h := by
  intro d hd n h
  unfold offO at hd
  simp only [List.mem_cons, List.not_mem_nil, or_false] at hd
  rcases hd with rfl | rfl | rfl | rfl | rfl | rfl
  · exact are_all_no n h _ rfl rfl
  · refine are_all_no n h _ rfl ?_
    show (decide ((m : Int) ≤ 0) && _) = false
    rw [decide_eq_false (by omega)]; rfl
  · exact are_all_no n h _ rfl rfl
  · refine are_all_no n h _ (sm_enc 1 (by rw [List.length_append, hr.1]; simp; omega)) ?_
    show (decide ((m : Int) ≤ _) && decide (_ ≤ (m : Int))) = false
    rw [List.length_map, List.length_append, hr.1, Bool.and_eq_false_iff]
    right
    rw [decide_eq_false_iff_not]
    simp; omega
  · have := are_all_g n ((List.replicate m (m : Int)).map PyData.int) h (by simp; omega) (by simp; omega)
    rw [intsOf_map] at this
    dsimp only at this
    rw [List.length_map, List.length_replicate] at this
    refine this.trans ?_
    have : isOrd (List.replicate m (m : Int)) = false := by
      cases ho : isOrd (List.replicate m (m : Int)) with
      | false => rfl
      | true =>
        have := ord_in ho m (List.mem_replicate.mpr ⟨by omega, rfl⟩)
        rw [List.length_replicate] at this
        omega
    rw [this]
  · exact are_all_no n h _ rfl rfl
end
end EvLaw

set_option Elab.async false
set_option linter.all false
set_option autoImplicit false
set_option maxRecDepth 100000
set_option maxHeartbeats 8000000
namespace EvLaw
open PySem Ev
open PySem.W (dataLt dataLe alike alikeAll minD maxD)
theorem at_last {h : MH} (o : MO) : (h ++ [o])[h.length]? = some o := by simp
theorem keysK_ints : ∀ a : List Int, keysK (a.map .int) = some (a.map Sum.inl)
  | [] => rfl
  | x :: xs => by
    show (match keyK (.int x), keysK (xs.map .int) with | some k, some ks => some (k :: ks) | _, _ => none) = _
    rw [keysK_ints xs]; rfl
theorem kc_enc (a : List Int) : kc true (encI a) = some (a.map Sum.inl) := keysK_ints a
theorem inl_inj : ∀ {a b : List Int}, a.map (Sum.inl : Int → L2.Key) = b.map Sum.inl → a = b
  | [], [], _ => rfl
  | [], _ :: _, h => by simp at h
  | _ :: _, [], h => by simp at h
  | x :: xs, y :: ys, h => by
    simp only [List.map_cons, List.cons.injEq, Sum.inl.injEq] at h
    rw [h.1, inl_inj h.2]
theorem kc_dec (a k : List Int) : decide (kc true (encI a) = some (k.map Sum.inl)) = decide (a = k) := by
  rw [kc_enc]
  by_cases h : a = k
  · subst h; simp
  · rw [decide_eq_false h, decide_eq_false]
    intro z
    exact h (inl_inj (Option.some.inj z))
def uStep (l : List (List Int)) (x : List Int) : List (List Int) := if x ∈ l then l else l ++ [x]
def uniq (xs : List (List Int)) : List (List Int) := xs.foldl uStep []
def kvT (l : List (List Int)) : List (PyData × PyData) := l.map fun x => (encI x, .bool true)
theorem put_kvT (l : List (List Int)) (x : List Int) : dputL true (kvT l) (encI x) (x.map Sum.inl) (.bool true) = kvT (uStep l x) := by
  unfold dputL uStep
  have e : ((kvT l).any fun p => decide (kc true p.1 = some (x.map Sum.inl))) = decide (x ∈ l) := by
    unfold kvT
    rw [List.any_map]
    rw [Bool.eq_iff_iff, List.any_eq_true, decide_eq_true_eq]
    constructor
    · rintro ⟨y, hy, he⟩
      have he : decide (kc true (encI y) = some (x.map Sum.inl)) = true := he
      rw [kc_dec] at he
      rw [← of_decide_eq_true he]; exact hy
    · intro hx
      refine ⟨x, hx, ?_⟩
      show decide (kc true (encI x) = some (x.map Sum.inl)) = true
      rw [kc_dec]; simp
  rw [e]
  by_cases h : x ∈ l
  · rw [if_pos h, decide_eq_true h, if_pos rfl]
    unfold kvT
    rw [List.map_map]
    apply List.map_congr_left
    intro y _
    show (if kc true (encI y) = some (x.map Sum.inl) then _ else _) = _
    split <;> rfl
  · rw [if_neg h, decide_eq_false h, if_neg (by simp)]
    simp [kvT]

theorem uStep_facts {j : Nat} {l : List (List Int)} {x : List Int} (h : l.Nodup) (hr : ∀ r ∈ l, r.length = j ∧ ∀ y ∈ r, y = 0 ∨ y = 1) (hx : x.length = j ∧ ∀ y ∈ x, y = 0 ∨ y = 1) : (uStep l x).Nodup ∧ (∀ r ∈ uStep l x, r.length = j ∧ ∀ y ∈ r, y = 0 ∨ y = 1) ∧ (uStep l x).length ≤ l.length + 1 ∧ uStep l x ≠ [] := by
  unfold uStep
  split <;> rename_i hy
  · exact ⟨h, hr, by omega, List.ne_nil_of_mem hy⟩
  · refine ⟨?_, ?_, by simp, by simp⟩
    · rw [List.nodup_append]
      refine ⟨h, by simp, ?_⟩
      intro a ha b hb
      rcases List.mem_singleton.mp hb with rfl
      rintro rfl
      exact hy ha
    · intro r hm
      rcases List.mem_append.mp hm with q | q
      · exact hr r q
      · rw [List.mem_singleton.mp q]; exact hx
def sortA (l : List (List Int)) : List (List Int) := l.mergeSort fun a b => dataLe false id (encI a) (encI b)
theorem sortA_perm (l : List (List Int)) : (sortA l).Perm l := List.mergeSort_perm ..
theorem le_enc (a b : List Int) : dataLe false id (encI a) (encI b) = !decide (b < a) := by
  show (!dataLt (encI b) (encI a)) = _
  rw [lt_enc]
theorem sortA_pw {l : List (List Int)} (hn : l.Nodup) : (sortA l).Pairwise (· < ·) := by
  have := List.pairwise_mergeSort (le := fun a b : List Int => dataLe false id (encI a) (encI b)) (fun a b c h1 h2 => by
    rw [le_enc] at *
    simp only [Bool.not_eq_true', decide_eq_false_iff_not] at *
    intro h3
    exact h1 (Std.lt_of_le_of_lt (Std.not_lt.mp h2) h3)) (fun a b => by
    rw [le_enc, le_enc]
    by_cases h : b < a
    · have : ¬ a < b := fun z => Std.lt_irrefl (Std.lt_trans h z)
      simp [h, this]
    · simp [h]) l
  have nd : (sortA l).Nodup := (sortA_perm l).nodup_iff.mpr hn
  have this : (sortA l).Pairwise (fun a b => (dataLe false id (encI a) (encI b)) = true) := this
  refine (this.and nd).imp fun {a b} h => ?_
  obtain ⟨h1, h2⟩ := h
  rw [le_enc] at h1
  simp only [Bool.not_eq_true', decide_eq_false_iff_not] at h1
  rcases Std.lt_trichotomy a b with q | q | q
  · exact q
  · exact absurd q h2
  · exact absurd q h1
theorem sort_dataA {α : Type} (e : α → PyData) (xs : List α) : (xs.map e).mergeSort (dataLe false id) = (xs.mergeSort fun a b => dataLe false id (e a) (e b)).map e := by
  rw [List.map_mergeSort]
  intro a _ b _; rfl
theorem sortable_rows (xs : List (List Int)) (hx : ∀ a ∈ xs, a ≠ []) : sortableB (xs.map encI) = true := by
  unfold sortableB
  rw [Bool.or_eq_true]
  left
  simp only [Bool.and_eq_true, List.all_eq_true, List.mem_map]
  refine ⟨?_, ?_⟩
  · rintro _ ⟨a, _, rfl⟩ _ ⟨b, _, rfl⟩; exact alike_encI a b
  · rintro _ ⟨a, ha, rfl⟩
    cases a with
    | nil => exact absurd rfl (hx [] ha)
    | cons x xs => rfl
theorem dsortA (h : MH) (l : List (List Int)) (hx : ∀ a ∈ l, a ≠ []) (hz : l.length ≤ sz) : dsortV false false (.r h.length) (h ++ [.dct true (kvT l)]) = .ok (.d (.list ((sortA l).map encI))) (h ++ [.dct true (kvT l)]) := by
  unfold dsortV
  have ek : dkeys (.r h.length) (h ++ [.dct true (kvT l)]) = some (l.map encI) := by
    unfold dkeys
    dsimp only
    rw [at_last]
    simp [kvT]
  rw [ek]
  dsimp only
  rw [sortable_rows l hx, show okN 40 (.tuple (l.map encI)) = true from okN_map 39 encI _ (fun a => okN_encI 38 a), List.length_map, decide_eq_true hz, sort_dataA]
  exact mkl_d _ _
theorem dput_kvT (h : MH) (l : List (List Int)) (x : List Int) (hz : l.length < sz) : dputV (.r h.length) (.d (encI x)) (.d (.bool true)) (h ++ [.dct true (kvT l)]) = .ok () (h ++ [.dct true (kvT (uStep l x))]) := by
  unfold dputV
  dsimp only
  rw [at_last]
  dsimp only
  rw [kc_enc]
  dsimp only
  rw [if_pos (by unfold kvT; rw [List.length_map]; exact hz), put_kvT]
  simp
def Ev1 (j : Nat) (E : List (List Int)) : Prop := E ≠ [] ∧ E.length = 2 ^ j ∧ ∀ r ∈ E, r.length = j ∧ ∀ y ∈ r, y = 0 ∨ y = 1
def grow (E : List (List Int)) : List (List Int) := E.map (fun r => r ++ [0]) ++ E.map fun r => r ++ [1]
theorem grow_ok {j : Nat} {E : List (List Int)} (h : Ev1 j E) : Ev1 (j + 1) (grow E) := by
  obtain ⟨h1, h2, h3⟩ := h
  refine ⟨?_, ?_, ?_⟩
  · obtain ⟨e, E, rfl⟩ := List.exists_cons_of_ne_nil h1
    simp [grow]
  · simp only [grow, List.length_append, List.length_map, h2]; rw [Nat.pow_succ]; omega
  · intro r hr
    have key : ∀ (c : Int), (c = 0 ∨ c = 1) → r ∈ E.map (fun r => r ++ [c]) → r.length = j + 1 ∧ ∀ y ∈ r, y = 0 ∨ y = 1 := by
      intro c hc hm
      obtain ⟨q, hq, rfl⟩ := List.mem_map.mp hm
      obtain ⟨q1, q2⟩ := h3 q hq
      refine ⟨by simp [q1], fun y hy => ?_⟩
      rcases List.mem_append.mp hy with z | z
      · exact q2 y z
      · rw [List.mem_singleton.mp z]; exact hc
    rcases List.mem_append.mp hr with z | z
    · exact key 0 (.inl rfl) z
    · exact key 1 (.inr rfl) z
theorem add_enc (r : List Int) (c : Int) (h : MH) (hz : r.length ≤ 1000) : binV .add false (.d (encI r)) (.d (.tuple [.int c])) h = .ok (.d (encI (r ++ [c]))) h := by
  have : r.length + 1 ≤ sz := le_sz (by omega)
  simp [encI, this]
theorem pow_le {j : Nat} (h : j ≤ 5) : 2 ^ j ≤ 32 := by
  have := Nat.pow_le_pow_right (n := 2) (by decide) h
  simpa using this
theorem world_draw (n : Nat) {o : MO} {l : MH} (hh : HandO o) : ∃ (j : Nat) (w : List (List Int)) (o' : MO), R (n+3) "_law_world" [.r 0, .d (.int 4)] (o :: l) = .ok (.d (wv w)) (o' :: l) ∧ HandO o' ∧ Wd j w := by
  obtain ⟨a, o1, e1, a0, a5, hh1⟩ := draw_R (n := n+1) (l := l) (m := 4) hh (by decide) (by decide)
  obtain ⟨j, rfl⟩ : ∃ j : Nat, a = ((j : Nat) : Int) - 1 := ⟨(a + 1).toNat, by omega⟩
  have j1 : 1 ≤ j := by omega
  have j5 : j ≤ 5 := by omega
  have ej : binI .add 1 ((j : Int) - 1) = some (j : Int) := by rw [binI_add]; congr 1; omega
  obtain ⟨b, o2, e2, b0, b7, hh2⟩ := draw_R (n := n+1) (l := l ++ [.dct true []]) (m := 7) hh1 (by decide) (by decide)
  have hr1 : rngOk 0 (j : Int) = true := rng_m j (by omega)
  have hr2 : rngOk 0 (1 + b) = true := rngOk_of (by decide) (by decide) (by omega) (by omega)
  have ml1 : mkl false [.d (.tuple [])] (o1 :: l) = .ok (.d (.list [.tuple []])) (o1 :: l) := rfl
  have z0 : (0:Nat) ≤ sz := by decide
  have z1 : (1:Nat) ≤ sz := by decide
  rw [R_go (fn := f_law_world) rfl rfl]
  -- the rows
  obtain ⟨σ2, h2, ef, ⟨y4, y5, y6, E, rfl, hE⟩, rfl⟩ := forL_fold (t := .nm 4) (b := evSs (GG (n+2)) (match f_law_world.body with | .cons _ (.cons _ (.cons (.for_ _ _ b) _)) => b | _ => .nil)) (e := .int) (xs := rangeI 0 (j : Int)) (σ := [some (.r 0), some (.d (.int 4)), some (.d (.int j)), some (.d (.list [.tuple []])), none, none, none]) (h := o1 :: l)
    (fun pre σ hh => (∃ y4 y5 y6 E, σ = [some (.r 0), some (.d (.int 4)), some (.d (.int j)), some (.d (.list (E.map encI))), y4, y5, y6] ∧ Ev1 pre.length E) ∧ hh = o1 :: l)
    ⟨⟨none, none, none, [[]], rfl, by simp, rfl, by simp⟩, rfl⟩ (by
      rintro pre x post σ hh hx ⟨⟨y4, y5, y6, E, rfl, hE⟩, rfl⟩
      have hp : pre.length < j := by
        have := congrArg List.length hx
        rw [rlen] at this
        simp at this; omega
      have le := pow_le (j := pre.length) (by omega)
      have zE : E.length ≤ sz := le_sz (by rw [hE.2.1]; omega)
      have so : srcOf (.d (.list (E.map encI))) (o1 :: l) = some (.l (dmap (E.map encI))) := srcOf_l _ _ (by rw [List.length_map]; exact zE)
      have zz : E.length + E.length ≤ sz := le_sz (by rw [hE.2.1]; omega)
      have eb : evSs (GG (n+2)) (match f_law_world.body with | .cons _ (.cons _ (.cons (.for_ _ _ b) _)) => b | _ => .nil) [some (.r 0), some (.d (.int 4)), some (.d (.int j)), some (.d (.list (E.map encI))), some (.d (.int x)), y5, y6] (o1 :: l) = Ev.Res.ok (.nx [some (.r 0), some (.d (.int 4)), some (.d (.int j)), some (.d (.list ((grow E).map encI))), some (.d (.int x)), y5, y6]) (o1 :: l) := by
        simp [f_law_world, so, z1]
        rw [lc_map _ (fun r => encI (r ++ [0])) zE (fun r hr => by
          simp [add_enc r 0 _ (by rw [(hE.2.2 r hr).1]; omega)])]
        simp only [bind_ok', so, ofOpt_s]
        rw [lc_map _ (fun r => encI (r ++ [1])) zE (fun r hr => by
          simp [add_enc r 1 _ (by rw [(hE.2.2 r hr).1]; omega)])]
        simp only [bind_ok']
        rw [binV_ll _ _ _ (by rw [List.length_map, List.length_map]; exact zz)]
        simp [grow, List.map_append, List.map_map, Function.comp_def]
      exact ⟨_, rfl, _, _, .inl eb, ⟨_, _, _, _, rfl, by rw [List.length_append]; exact grow_ok hE⟩, rfl⟩)
  rw [rlen] at hE
  have le := pow_le j5
  -- the dict
  obtain ⟨σ3, h3, ef3, ⟨z4, z6, rfl⟩, o3, L, rfl, hh3, hn, hr, hl, hne⟩ := forL_fold (t := .nm 4) (b := evSs (GG (n+2)) (match f_law_world.body with | .cons _ (.cons _ (.cons _ (.cons _ (.cons (.for_ _ _ b) _)))) => b | _ => .nil)) (e := .int) (xs := rangeI 0 (1 + b)) (σ := [some (.r 0), some (.d (.int 4)), some (.d (.int j)), some (.d (.list (E.map encI))), y4, some (.r (l.length + 1)), y6]) (h := o2 :: (l ++ [.dct true []]))
    (fun pre σ hh => (∃ y4 y6, σ = [some (.r 0), some (.d (.int 4)), some (.d (.int j)), some (.d (.list (E.map encI))), y4, some (.r (l.length + 1)), y6]) ∧ ∃ o' L, hh = o' :: (l ++ [.dct true (kvT L)]) ∧ HandO o' ∧ L.Nodup ∧ (∀ r ∈ L, r.length = j ∧ ∀ y ∈ r, y = 0 ∨ y = 1) ∧ L.length ≤ pre.length ∧ (pre ≠ [] → L ≠ []))
    ⟨⟨y4, y6, rfl⟩, o2, [], rfl, hh2, List.nodup_nil, by simp, by simp, by simp⟩ (by
      rintro pre x post σ hh hx ⟨⟨y4, y6, rfl⟩, o', L, rfl, hh', hn, hr, hl, hne⟩
      have hp : pre.length < 8 := by
        have := congrArg List.length hx
        rw [rangeI_len] at this
        simp at this; omega
      obtain ⟨d, o4, hd, e4, hh4⟩ := any_R (n := n) (l := l ++ [.dct true (kvT L)]) (xs := E.map encI) hh' (by simp [hE.1]) (by rw [List.length_map]; exact le_sz (by rw [hE.2.1]; omega))
      obtain ⟨r, hrE, rfl⟩ := List.mem_map.mp hd
      have dp := dput_kvT (o4 :: l) L r (le_sz (by omega : L.length + 1 ≤ 1000000))
      obtain ⟨u1, u2, u3, u4⟩ := uStep_facts hn hr (hE.2.2 r hrE)
      simp at dp
      have eb : evSs (GG (n+2)) (match f_law_world.body with | .cons _ (.cons _ (.cons _ (.cons _ (.cons (.for_ _ _ b) _)))) => b | _ => .nil) [some (.r 0), some (.d (.int 4)), some (.d (.int j)), some (.d (.list (E.map encI))), some (.d (.int x)), some (.r (l.length + 1)), y6] (o' :: (l ++ [.dct true (kvT L)])) = Ev.Res.ok (.nx [some (.r 0), some (.d (.int 4)), some (.d (.int j)), some (.d (.list (E.map encI))), some (.d (.int x)), some (.r (l.length + 1)), y6]) (o4 :: (l ++ [.dct true (kvT (uStep L r))])) := by
        simp [f_law_world, e4, dp]
      exact ⟨_, rfl, _, _, .inl eb, ⟨_, _, rfl⟩, _, _, rfl, hh4, u1, u2, by simp; omega, fun _ => u4⟩)
  have hL : L.length ≤ 8 := by rw [rangeI_len] at hl; omega
  have hLn : L ≠ [] := hne (by
    intro z
    have := congrArg List.length z
    rw [rangeI_len] at this
    simp at this; omega)
  have ds := dsortA (o3 :: l) L (fun a ha e => by have := (hr a ha).1; rw [e] at this; simp at this; omega) (le_sz (by omega))
  refine ⟨j, sortA L, o3, ?_, hh3, ?_, ?_, j1, j5, ?_, sortA_pw hn⟩
  · simp only [f_law_world] at ef ef3
    simp at ds e2
    simp [f_law_world, e1, ej, ml1, z0, hr1, forF_l, ef]
    simp [e2, hr2, forF_l, ef3, ds, wv]
  · intro e
    have := (sortA_perm L).length_eq
    rw [e] at this
    exact hLn (List.length_eq_zero_iff.mp this.symm)
  · rw [(sortA_perm L).length_eq]; omega
  · intro r hm
    exact hr r ((sortA_perm L).mem_iff.mp hm)
theorem judges_draw (n : Nat) {o : MO} {l : MH} {j : Nat} {w : List (List Int)} (g : Wd j w) (hh : HandO o) : ∃ (J : List (List Int)) (o' : MO), R (n+3) "_law_judges" [.r 0, .d (wv w), .d (.int 9)] (o :: l) = .ok (.d (wv J)) (o' :: l) ∧ HandO o' ∧ Jd w J := by
  obtain ⟨b, o1, e1, b0, b9, hh1⟩ := draw_R (n := n+1) (l := l) (m := 9) hh (by decide) (by decide)
  have hr2 : rngOk 0 (1 + b) = true := rngOk_of (by decide) (by decide) (by omega) (by omega)
  rw [R_go (fn := f_law_judges) rfl rfl]
  simp [f_law_judges, e1, hr2]
  generalize hf : lcF _ _ _ _ _ = f
  obtain ⟨J, o2, e2, hh2, hl, hq⟩ := lc_hand (F := fuel) (f := f) (xs := rangeI 0 (1 + b)) (e := .int) (l := l) encI (fun r => r ∈ w) (le_sz (by rw [rangeI_len]; omega)) (fun x hx o hh => by
    obtain ⟨d, o4, hd, e4, hh4⟩ := anyT_R (n := n) (l := l) (xs := w.map encI) hh (by simp [g.ne]) (by rw [List.length_map]; exact g.sz)
    obtain ⟨r, hrE, rfl⟩ := List.mem_map.mp hd
    have e4 : R (n+2) "_law_any" [.r 0, .d (wv w)] (o :: l) = _ := e4
    refine ⟨r, o4, ?_, hh4, hrE⟩
    rw [← hf]
    simp [e4]) hh1
  rw [rangeI_len] at hl
  refine ⟨J, o2, ?_, hh2, ?_, by omega, hq⟩
  · rw [e2]
    simp [wv]
  · intro e
    rw [e] at hl
    simp at hl; omega
theorem frzD (h : MH) : frzV (.r h.length) (h ++ [.dct false []]) = .ok (.d (.dict [])) (h ++ [.dead]) := by
  have e : (h ++ [MO.dct false []])[h.length]? = some (.dct false []) := by simp
  rw [frzV_k e]
  simp
theorem frzD_cons (o : MO) (l : MH) : frzV (.r (l.length + 1)) (o :: (l ++ [.dct false []])) = .ok (.d (.dict [])) (o :: (l ++ [.dead])) := by
  have := frzD (o :: l)
  simpa using this
def badW : List PyData := [.none, .tuple [], .int 0, .tuple [.tuple [.int 2]], .list [.tuple [.int 0]], .tuple [.tuple []], .tuple [.tuple [.int 0], .tuple [.int 0]], .tuple [.tuple [.int 1], .tuple [.int 0]], .tuple [.tuple [.int 0], .tuple [.int 0, .int 1]], .tuple [.tuple [.bool true]], .tuple [.list [.int 0]], .tuple [.tuple [.int 0, .int 0, .int 0, .int 0, .int 0, .int 0]], .dict []]
theorem asc2 (a b : Int) (h : ¬ a < b) : asc [.tuple [.int a], .tuple [.int b]] = false := by
  show (dataLt (encI [a]) (encI [b]) && true) = false
  rw [lt_enc]
  have : ¬ ([a] < [b]) := by
    intro z
    rcases List.cons_lt_cons_iff.mp z with q | ⟨_, q⟩
    · exact h q
    · exact absurd q (List.lt_irrefl _)
  rw [decide_eq_false this]; rfl
theorem badW_ok : ∀ d ∈ badW, sm 2 d = true ∧ worldB d = false := by
  intro d hd
  simp only [badW, List.mem_cons, List.not_mem_nil, or_false] at hd
  rcases hd with rfl | rfl | rfl | rfl | rfl | rfl | rfl | rfl | rfl | rfl | rfl | rfl | rfl
  · exact ⟨rfl, rfl⟩
  · exact ⟨rfl, rfl⟩
  · exact ⟨rfl, rfl⟩
  · exact ⟨rfl, rfl⟩
  · exact ⟨rfl, rfl⟩
  · exact ⟨rfl, rfl⟩
  · refine ⟨rfl, ?_⟩
    show (true && (true && (true && asc [.tuple [.int 0], .tuple [.int 0]]))) = false
    rw [asc2 0 0 (by decide)]; rfl
  · refine ⟨rfl, ?_⟩
    show (true && (true && (true && asc [.tuple [.int 1], .tuple [.int 0]]))) = false
    rw [asc2 1 0 (by decide)]; rfl
  · exact ⟨rfl, rfl⟩
  · exact ⟨rfl, rfl⟩
  · exact ⟨rfl, rfl⟩
  · exact ⟨rfl, rfl⟩
  · exact ⟨rfl, rfl⟩
theorem no_world_draw (n : Nat) {o : MO} {l : MH} (hh : HandO o) : ∃ (d : PyData) (o' : MO), R (n+3) "_law_no_world" [.r 0] (o :: l) = .ok (.d d) (o' :: l) ∧ HandO o' ∧ sm 2 d = true ∧ worldB d = false := by
  obtain ⟨d, o2, hd, e2, hh2⟩ := any_R (n := n) (l := l ++ [.dead]) (xs := badW) hh (by simp [badW]) (show 13 ≤ sz by decide)
  refine ⟨d, o2, ?_, hh2, badW_ok d hd⟩
  have m6 : ∀ h : MH, binV .mul false (.d (.tuple [.int 0])) (.d (.int 6)) h = .ok (.d (.tuple [.int 0, .int 0, .int 0, .int 0, .int 0, .int 0])) h := fun h => rfl
  have ml : ∀ h : MH, mkl false [.d .none, .d (.tuple []), .d (.int 0), .d (.tuple [.tuple [.int 2]]), .d (.list [.tuple [.int 0]]), .d (.tuple [.tuple []]), .d (.tuple [.tuple [.int 0], .tuple [.int 0]]), .d (.tuple [.tuple [.int 1], .tuple [.int 0]]), .d (.tuple [.tuple [.int 0], .tuple [.int 0, .int 1]]), .d (.tuple [.tuple [.bool true]]), .d (.tuple [.list [.int 0]])] h = .ok (.d (.list (badW.take 11))) h := fun h => rfl
  have ml0 : ∀ h : MH, mkl false [.d (.int 0)] h = .ok (.d (.list [.int 0])) h := fun h => rfl
  have ml1 : ∀ h : MH, mkl false [.d (.tuple [.int 0])] h = .ok (.d (.list [.tuple [.int 0]])) h := fun h => rfl
  have ml2 : ∀ h : MH, mkl false [.d (.tuple [.tuple [.int 0, .int 0, .int 0, .int 0, .int 0, .int 0]]), .d (.dict [])] h = .ok (.d (.list (badW.drop 11))) h := fun h => rfl
  have ad : ∀ h : MH, binV .add false (.d (.list (badW.take 11))) (.d (.list (badW.drop 11))) h = .ok (.d (.list badW)) h := fun h => rfl
  have mt : ∀ (xs : List PyData) (h : MH), mkt (xs.map .d) h = .ok (.d (.tuple xs)) h := fun xs h => mkt_d h xs
  have z13 : 13 ≤ sz := by decide
  have z11 : 11 ≤ sz := by decide
  rw [R_go (fn := f_law_no_world) rfl rfl]
  have z2 : 2 ≤ sz := by decide
  have z1 : 1 ≤ sz := by decide
  simp [f_law_no_world, frzD_cons, m6, ml, ml0, ml1, ml2, ad, e2, z11, z13, z2, z1]
def badJ (r : List Int) (w : List (List Int)) (j : Nat) : List PyData := [.none, .tuple [], .list (w.map encI), .tuple (List.replicate 10 (encI r)), .tuple [.tuple (List.replicate j (.int 2))], .tuple [.list (r.map .int)], .tuple [.tuple (List.replicate (j+1) (.int 0))], .int 0]
theorem sm_tup1 (d : PyData) (h : sm 1 d = true) : sm 2 (.tuple [d]) = true := by
  show (decide (1 ≤ 1000) && (sm 1 d && true)) = true
  rw [h]; rfl
theorem sm_rep (k : Nat) (i : Int) (h : k ≤ 1000) : sm 1 (.tuple (List.replicate k (.int i))) = true := by
  simp only [sm, List.length_replicate, Bool.and_eq_true, decide_eq_true_eq, List.all_eq_true]
  exact ⟨h, fun _ _ => by simp [sm]⟩
theorem badJ_ok {j : Nat} {w : List (List Int)} (g : Wd j w) {r : List Int} (hr : r.length = j) : ∀ d ∈ badJ r w j, sm 2 d = true ∧ jokB j d = false := by
  intro d hd
  have h1 := g.j1
  have h5 := g.j5
  simp only [badJ, List.mem_cons, List.not_mem_nil, or_false] at hd
  rcases hd with rfl | rfl | rfl | rfl | rfl | rfl | rfl | rfl
  · exact ⟨rfl, rfl⟩
  · exact ⟨rfl, rfl⟩
  · exact ⟨rfl, rfl⟩
  · refine ⟨?_, rfl⟩
    simp only [sm, List.length_replicate, Bool.and_eq_true, decide_eq_true_eq, List.all_eq_true]
    refine ⟨by decide, fun x hx => ?_⟩
    rw [(List.mem_replicate.mp hx).2]
    exact sm_enc 1 (by omega)
  · refine ⟨sm_tup1 _ (sm_rep _ _ (by omega)), ?_⟩
    obtain ⟨k, rfl⟩ : ∃ k, j = k + 1 := ⟨j - 1, by omega⟩
    simp [jokB, sayB, within, List.replicate_succ]
  · exact ⟨rfl, rfl⟩
  · refine ⟨sm_tup1 _ (sm_rep _ _ (by omega)), ?_⟩
    simp [jokB, sayB]
    intro _ z; omega
  · exact ⟨rfl, rfl⟩
theorem mul_rep (d : PyData) (k : Nat) (h : MH) (h1 : 1 ≤ k) (h2 : k ≤ 10) : binV .mul false (.d (.tuple [d])) (.d (.int k)) h = .ok (.d (.tuple (List.replicate k d))) h := by
  rcases (show k = 1 ∨ k = 2 ∨ k = 3 ∨ k = 4 ∨ k = 5 ∨ k = 6 ∨ k = 7 ∨ k = 8 ∨ k = 9 ∨ k = 10 by omega) with rfl | rfl | rfl | rfl | rfl | rfl | rfl | rfl | rfl | rfl <;> rfl
theorem no_judges_draw (n : Nat) {o : MO} {l : MH} {j : Nat} {w : List (List Int)} (g : Wd j w) (hh : HandO o) : ∃ (d : PyData) (o' : MO), R (n+3) "_law_no_judges" [.r 0, .d (wv w)] (o :: l) = .ok (.d d) (o' :: l) ∧ HandO o' ∧ sm 2 d = true ∧ jokB j d = false := by
  have h1 := g.j1
  have h5 := g.j5
  obtain ⟨r, i0, l0⟩ := g.idx0 (o :: l)
  have len0 := len_e r (o :: l) (by omega)
  obtain ⟨d, o2, hd, e2, hh2⟩ := any_R (n := n) (l := l) (xs := badJ r w j) hh (by simp [badJ]) (show 8 ≤ sz by decide)
  refine ⟨d, o2, ?_, hh2, badJ_ok g l0 d hd⟩
  have bl : biV .list false [.d (wv w)] (o :: l) = .ok (.d (.list (w.map encI))) (o :: l) := b_list_t _ _
  have bl2 : biV .list false [.d (encI r)] (o :: l) = .ok (.d (.list (r.map .int))) (o :: l) := b_list_t _ _
  have m10 := mul_rep (encI r) 10 (o :: l) (by decide) (by decide)
  have m2 := mul_rep (.int 2) j (o :: l) h1 (by omega)
  have m0 := mul_rep (.int 0) (j+1) (o :: l) (by omega) (by omega)
  have ml : mkl false [.d .none, .d (.tuple []), .d (.list (w.map encI)), .d (.tuple (List.replicate 10 (encI r))), .d (.tuple [.tuple (List.replicate j (.int 2))]), .d (.tuple [.list (r.map .int)]), .d (.tuple [.tuple (List.replicate (j+1) (.int 0))]), .d (.int 0)] (o :: l) = .ok (.d (.list (badJ r w j))) (o :: l) := rfl
  have z8 : 8 ≤ sz := by decide
  rw [R_go (fn := f_law_no_judges) rfl rfl]
  simp at m10 m0
  have z1 : 1 ≤ sz := by decide
  simp [f_law_no_judges, i0, len0, l0, bl, bl2, m10, m2, m0, z8, z1]
  simp at ml
  simp [ml, e2]
end EvLaw

set_option Elab.async false
set_option linter.all false
set_option autoImplicit false
set_option maxRecDepth 100000
set_option maxHeartbeats 8000000
namespace EvLaw
open PySem Ev
open PySem.W (dataLt dataLe alike alikeAll minD maxD)
def encL (l : Lt) : PyData := .tuple (l.map encP)
def vJ (J : List (List Int)) (i : Int) : Int := if (J.length : Int) < 2 * (col J i).sum then 1 else 0
theorem v01 (J : List (List Int)) (i : Int) : vJ J i = 0 ∨ vJ J i = 1 := by unfold vJ; split <;> simp
theorem idx_gi (r : List Int) (c : Int) (h : MH) (h0 : 0 ≤ c) (h1 : c < r.length) : idxV (.d (encI r)) (.d (.int c)) h = some (.d (.int (gi r c))) := idx_row r c h h0 h1
theorem keyP_inj (a b : Int × Int) (h : PySem.W.keyToks (encP a) = PySem.W.keyToks (encP b)) : a = b := by
  simp [encP, PySem.W.keyToks, PySem.W.keyToksAll] at h
  exact Prod.ext h.1 h.2
theorem lt_encP (a b : Int × Int) : dataLt (encP a) (encP b) = decide ([a.1, a.2] < [b.1, b.2]) := lt_enc [a.1, a.2] [b.1, b.2]
theorem alike_encP2 (a b : Int × Int) : alike (encP a) (encP b) = true := alike_encI [a.1, a.2] [b.1, b.2]
theorem okN_encP2 (n : Nat) (a : Int × Int) : okN (n + 1) (encP a) = true := okN_encI n [a.1, a.2]
section
variable {j : Nat} {w J : List (List Int)}
theorem Wd.gi01 (g : Wd j w) {r : List Int} (hr : Rw j j r) : ∀ s ∈ w, ∀ i ∈ r, gi s i = 0 ∨ gi s i = 1 := by
  intro s hs i hi
  obtain ⟨e, q⟩ := g.rows s hs
  have := hr.2.2 i hi
  exact q _ (getD_mem (by omega))
theorem has_pairs_g (n : Nat) (h : MH) {s : List Int} {l : Lt} (hs : s.length = j) (hl : ∀ p ∈ l, 0 ≤ p.1 ∧ p.1 < j) (hz : l.length ≤ 1000) : R (n+1) "has_pairs" [.d (encI s), .d (encL l)] h = .ok (.d (.bool (has s l))) h := by
  rw [R_go (fn := fhas_pairs) rfl rfl]
  have so : srcOf (.d (encL l)) h = some (.l (dmap (l.map encP))) := srcOf_t h _ (by rw [List.length_map]; exact le_sz (by omega))
  simp [fhas_pairs, so]
  rw [lc_map _ (fun p : Int × Int => .bool (decide (gi s p.1 = p.2))) (le_sz (by omega)) (fun p hp => by
    have r := hl p hp
    have i := idx_gi s p.1 h r.1 (by omega)
    simp [encP, i])]
  simp [b_all_map, has]
theorem can_stand_g (n : Nat) (h : MH) (g : Wd j w) {l : Lt} (hl : ∀ p ∈ l, 0 ≤ p.1 ∧ p.1 < j) (hz : l.length ≤ 1000) : R (n+2) "can_stand" [.d (wv w), .d (encL l)] h = .ok (.d (.bool (stand w l))) h := by
  rw [R_go (fn := fcan_stand) rfl rfl]
  have so : srcOf (.d (wv w)) h = some (.l (dmap (w.map encI))) := srcOf_t h _ (by rw [List.length_map]; exact g.sz)
  simp [fcan_stand, so]
  rw [lc_map _ (fun s => .bool (has s l)) g.sz (fun s hs => by
    simp [has_pairs_g n h (g.rows s hs).1 hl hz])]
  simp [b_any_map, stand]
theorem sorted_L (l : Lt) (h : MH) (hz : l.length ≤ 1000) : biV .sorted false [.d (encL l)] h = .ok (.d (.list ((sortE encP l).map encP))) h := by
  rw [b_sorted_v encP (.d (encL l)) l false h rfl (sortable_o encP _ alike_encP2 fun _ => rfl) (okN_encP2 38) (le_sz (by omega)), mkl_d]
  rfl
theorem range_pw (n : Nat) : (rangeI 0 (n : Int)).Pairwise (· < ·) := by
  unfold rangeI
  rw [List.pairwise_map]
  exact List.pairwise_lt_range.imp fun h => by omega
theorem rw_perm {r : List Int} (hr : Rw j j r) : (rangeI 0 (j : Int)).Perm r := by
  have e : sortI r = rangeI 0 (r.length : Int) := of_decide_eq_true hr.ord
  rw [hr.1] at e
  rw [← e]
  exact sortI_perm r
theorem sort_turn {r s : List Int} (hr : Rw j j r) : sortE encP (r.map fun i => (i, gi s i)) = (rangeI 0 (j : Int)).map fun i => (i, gi s i) := by
  refine sortE_id encP keyP_inj ((rw_perm hr).map _) ?_
  rw [List.pairwise_map]
  refine (range_pw j).imp fun {a b} hab => ?_
  rw [lt_encP, decide_eq_false_iff_not]
  intro h
  rcases List.cons_lt_cons_iff.mp h with h | ⟨h, _⟩
  · omega
  · have : b = a := h
    omega
theorem range_gi {s : List Int} (hs : s.length = j) : (rangeI 0 (j : Int)).map (gi s) = s := by
  refine List.ext_getElem (by rw [List.length_map, rlen, hs]) fun i h1 h2 => ?_
  have hi : i < j := by omega
  have e : (rangeI 0 (j : Int))[i]? = some (i : Int) := by
    have := rangeI_get (a := 0) (b := (j : Int)) (i := i) (by omega)
    simpa using this
  have e2 : (rangeI 0 (j : Int))[i]'(by rw [rlen]; exact hi) = (i : Int) := by
    rw [List.getElem?_eq_getElem (by rw [rlen]; exact hi)] at e
    exact Option.some.inj e
  rw [List.getElem_map, e2]
  unfold gi
  rw [List.getD_eq_getElem?_getD, Int.toNat_natCast, List.getElem?_eq_getElem h2]; rfl
def RTB : Sts := match fraw_turn.body with | .cons _ (.cons (.for_ _ _ b) _) => b | _ => .nil
theorem raw_turn_ok (n : Nat) (h : MH) (g : Wd j w) (G : Jd w J) {r : List Int} (hr : Rw j j r) : R (n+3) "raw_turn" [.d (wv w), .d (wv J), .d (encI r)] h = .ok (.d (encI (lawT w (vJ J) r))) h := by
  rw [R_go (fn := fraw_turn) rfl rfl]
  have h5 := g.j5
  have on := ones_ok (n+1) h g G
  obtain ⟨L, hL⟩ : ∃ L : PyData, .list ((rangeI 0 (j : Int)).map fun i => .int (col J i).sum) = L := ⟨_, rfl⟩
  have ixo : ∀ i : Int, 0 ≤ i → i < j → idxV (.d L) (.d (.int i)) h = some (.d (.int (col J i).sum)) := fun i h0 h1 => by
    rw [← hL]
    refine idx_d (fun i => PyData.int (col J i).sum) _ (rangeI 0 (j : Int)) i i h rfl h0 ?_
    have := rangeI_get (a := 0) (b := (j : Int)) (i := i.toNat) (by omega)
    rw [this]; congr 1; omega
  rw [hL] at on
  have lJ : biV .len false [.d (wv J)] h = .ok (.d (.int J.length)) h := by
    have := b_len_t h (J.map encI) false (by rw [List.length_map]; exact G.sz)
    rw [List.length_map] at this; exact this
  have m2 : ∀ x, binI .mul 2 x = some (2*x) := fun x => binI_mull 2 x (by decide) (by decide)
  obtain ⟨σ2, h2, ef, ⟨y3, y6, rfl⟩, eh⟩ := forL_fold (t := .nm 3) (b := evSs (GG (n+2)) RTB) (e := .int) (xs := r)
    (σ := [some (.d (wv w)), some (.d (wv J)), some (.d (encI r)), none, some (.d L), some (.d (encL [])), none]) (h := h)
    (fun pre σ hh => (∃ y3 y6, σ = [some (.d (wv w)), some (.d (wv J)), some (.d (encI r)), y3, some (.d L), some (.d (encL (pre.foldl (stepS w (vJ J)) []))), y6]) ∧ hh = h)
    ⟨⟨none, none, rfl⟩, rfl⟩ (by
      rintro pre i post σ hh hx ⟨⟨y3, y6, rfl⟩, rfl⟩
      have hi := hr.2.2 i (by rw [hx]; simp)
      have hpm : ∀ k ∈ pre, 0 ≤ k ∧ k < j := fun k hk => by have := hr.2.2 k (by rw [hx]; simp [hk]); exact this
      have hpl : pre.length ≤ 5 := by
        have := congrArg List.length hx
        rw [hr.1] at this
        simp at this; omega
      have hfst : (pre.foldl (stepS w (vJ J)) []).map (·.1) = pre := by
        have key : ∀ (ys : List Int) (l : Lt), (ys.foldl (stepS w (vJ J)) l).map (·.1) = l.map (·.1) ++ ys := by
          intro ys
          induction ys with
          | nil => intro l; simp
          | cons y ys ih => intro l; rw [List.foldl_cons, ih]; simp [stepS]
        rw [key]; simp
      rw [List.foldl_append, List.foldl_cons, List.foldl_nil]
      generalize hl : pre.foldl (stepS w (vJ J)) [] = l at *
      have ll : l.length = pre.length := by rw [← List.length_map (f := fun p : Int × Int => p.1), hfst]
      have hlr : ∀ p ∈ l, 0 ≤ p.1 ∧ p.1 < j := fun p hp => hpm p.1 (by rw [← hfst]; exact List.mem_map_of_mem hp)
      have cs := can_stand_g n hh g (l := l ++ [(i, vJ J i)]) (fun p hp => by
        rcases List.mem_append.mp hp with hp | hp
        · exact hlr p hp
        · rw [List.mem_singleton.mp hp]; exact hi) (by simp; omega)
      have ix := ixo i hi.1 hi.2
      have ad : ∀ v : Int, binV .add false (.d (encL l)) (.d (.tuple [.tuple [.int i, .int v]])) hh = .ok (.d (encL (l ++ [(i, v)]))) hh := fun v => by
        have : (l.map encP).length + 1 ≤ sz := by rw [List.length_map]; exact le_sz (by omega)
        simp only [encL, List.map_append]
        show (if (l.map encP).length + 1 ≤ sz then _ else _) = _
        rw [if_pos this]; rfl
      have z1 : 1 ≤ sz := by decide
      have z2 : 2 ≤ sz := by decide
      refine ⟨_, rfl, [some (.d (wv w)), some (.d (wv J)), some (.d (encI r)), some (.d (.int i)), some (.d L), some (.d (encL (stepS w (vJ J) l i))), some (.d (.int (valS w (vJ J) l i)))], hh, .inl ?_, ⟨_, _, rfl⟩, rfl⟩
      have bi : biV .int false [.d (.bool (decide ((J.length : Int) < 2 * (col J i).sum)))] hh = .ok (.d (.int (vJ J i))) hh := by
        rw [b_int_b]; unfold vJ; simp
      unfold stepS valS
      by_cases hst : stand w (l ++ [(i, vJ J i)]) = true
      · rw [hst] at cs
        rw [if_pos hst]
        generalize vJ J i = v at *
        simp [RTB, fraw_turn, ix, m2, lJ, bi, z1, z2, ad, cs]
      · rw [eq_false_of_ne_true hst] at cs
        rw [if_neg hst]
        generalize vJ J i = v at *
        simp [RTB, fraw_turn, ix, m2, lJ, bi, z1, z2, ad, cs])
  rw [eh] at ef
  obtain ⟨t1, t2, _, _⟩ := lawT_ok (v01 J) (g.gi01 hr) g.ne
  rw [t2] at ef
  generalize lawT w (vJ J) r = s at *
  have hsl := (g.rows s t1).1
  have sL := sorted_L (r.map fun i => (i, gi s i)) h (by rw [List.length_map, hr.1]; omega)
  rw [sort_turn hr] at sL
  have so : srcOf (.d (encI r)) h = some (.l (dmap (r.map .int))) := srcOf_t h _ (by rw [List.length_map, hr.1]; exact le_sz (by omega))
  have e0 : encL [] = .tuple [] := rfl
  rw [e0] at ef
  simp only [RTB, fraw_turn] at ef
  simp [fraw_turn, on, so, forF_l, ef]
  have so2 := srcOf_l h (((rangeI 0 (j : Int)).map fun i => (i, gi s i)).map encP) (by rw [List.length_map, List.length_map, rlen]; exact le_sz (by omega))
  rw [sL]
  simp only [bind_ok', calm_ok', so2, ofOpt_s]
  rw [lc_map _ (fun p : Int × Int => .int p.2) (by rw [List.length_map, rlen]; exact le_sz (by omega)) (fun p hp => by simp [encP])]
  have e3 : ((rangeI 0 (j : Int)).map fun i => (i, gi s i)).map (fun p : Int × Int => PyData.int p.2) = s.map .int := by
    rw [List.map_map]
    have := congrArg (List.map PyData.int) (range_gi hsl)
    rw [List.map_map] at this
    exact this
  rw [e3]
  have bt : biV .tuple false [.d (.list (s.map .int))] h = .ok (.d (encI s)) h := by
    have : s.length ≤ sz := le_sz (by omega)
    simp [encI, this]
  simp [bt]
end
end EvLaw

set_option Elab.async false
set_option linter.all false
set_option autoImplicit false
set_option maxRecDepth 100000
set_option maxHeartbeats 8000000
namespace EvLaw
open PySem Ev
open PySem.W (dataLt dataLe alike alikeAll minD maxD)
def kvV (v : List Int → PyData) (l : List (List Int)) : List (PyData × PyData) := l.map fun x => (encI x, v x)
theorem put_kvV (v : List Int → PyData) (l : List (List Int)) (x : List Int) : dputL true (kvV v l) (encI x) (x.map Sum.inl) (v x) = kvV v (uStep l x) := by
  unfold dputL uStep
  have e : ((kvV v l).any fun p => decide (kc true p.1 = some (x.map Sum.inl))) = decide (x ∈ l) := by
    unfold kvV
    rw [List.any_map]
    rw [Bool.eq_iff_iff, List.any_eq_true, decide_eq_true_eq]
    constructor
    · rintro ⟨y, hy, he⟩
      have he : decide (kc true (encI y) = some (x.map Sum.inl)) = true := he
      rw [kc_dec] at he
      rw [← of_decide_eq_true he]; exact hy
    · intro hx
      refine ⟨x, hx, ?_⟩
      show decide (kc true (encI x) = some (x.map Sum.inl)) = true
      rw [kc_dec]; simp
  rw [e]
  by_cases h : x ∈ l
  · rw [if_pos h, decide_eq_true h, if_pos rfl]
    unfold kvV
    rw [List.map_map]
    apply List.map_congr_left
    intro y _
    show (if kc true (encI y) = some (x.map Sum.inl) then (encI y, v x) else (encI y, v y)) = (encI y, v y)
    split
    · rename_i q
      have q2 := kc_dec y x
      rw [decide_eq_true q] at q2
      rw [of_decide_eq_true q2.symm]
    · rfl
  · rw [if_neg h, decide_eq_false h, if_neg (by simp)]
    simp [kvV]
theorem dpairsL_enc (v : List Int → PyData) (xs : List (List Int)) : dpairsL (kvV v xs) = kvV v (uniq xs) := by
  have key : ∀ (xs l : List (List Int)), (kvV v xs).foldl (fun acc p => dputL true acc p.1 ((keyT p.1).getD []) p.2) (kvV v l) = kvV v (xs.foldl uStep l) := by
    intro xs
    induction xs with
    | nil => intro l; rfl
    | cons x xs ih =>
      intro l
      have e : kvV v (x :: xs) = (encI x, v x) :: kvV v xs := rfl
      rw [e, List.foldl_cons, List.foldl_cons]
      have : keyT (encI x) = some (x.map Sum.inl) := keysK_ints x
      show (kvV v xs).foldl _ (dputL true (kvV v l) (encI x) ((keyT (encI x)).getD []) (v x)) = _
      rw [this]
      show (kvV v xs).foldl _ (dputL true (kvV v l) (encI x) (x.map Sum.inl) (v x)) = _
      rw [put_kvV]
      exact ih _
  exact key xs []
theorem dsetL_enc (xs : List (List Int)) : dsetL (xs.map encI) = kvV (fun _ => .bool true) (uniq xs) := by
  rw [← dpairsL_enc]
  unfold dsetL dpairsL kvV
  rw [List.foldl_map, List.foldl_map]
theorem pairsT_enc (v : List Int → PyData) : ∀ (xs : List (List Int)), pairsT (xs.map fun x => PyData.tuple [encI x, v x]) = some (kvV v xs)
  | [] => rfl
  | x :: xs => by
    have h1 : (keyT (encI x)).isSome = true := by
      have : keyT (encI x) = some (x.map Sum.inl) := keysK_ints x
      rw [this]; rfl
    show (if (keyT (encI x)).isSome = true then (pairsT (xs.map fun x => PyData.tuple [encI x, v x])).map ((encI x, v x) :: ·) else none) = _
    rw [if_pos h1, pairsT_enc v xs]; rfl
theorem dictP_ok (v : List Int → PyData) (xs : List (List Int)) (h : MH) (hz : xs.length < sz) : biV .dictP false [.d (.list (xs.map fun x => PyData.tuple [encI x, v x]))] h = .ok (.r h.length) (h ++ [.dct true (kvV v (uniq xs))]) := by
  show (match pairsT (xs.map fun x => PyData.tuple [encI x, v x]) with
    | some ps => if ps.length < sz then Ev.Res.ok (Vl.r h.length) (h ++ [MO.dct true (dpairsL ps)]) else .stuck
    | none => (match pairsK (xs.map fun x => PyData.tuple [encI x, v x]) with
      | some ps => if ps.length < sz then Ev.Res.ok (Vl.r h.length) (h ++ [MO.dct false (dpairsK ps)]) else .stuck
      | none => .stuck)) = _
  rw [pairsT_enc]
  dsimp only
  rw [dpairsL_enc, if_pos (by simpa [kvV] using hz)]

/-! keys that are called for -/
theorem lcL_mapK {α : Type} {f : Vl → MH → Ev.Res (Option Vl)} {h : MH} {e : α → PyData} (g : α → PyData) : ∀ (xs : List α), (∀ x ∈ xs, f (.d (e x)) h = .ok (some (.d (g x))) h) → lcL f (dmap (xs.map e)) h = .ok (dmap (xs.map g)) h
  | [], _ => rfl
  | x :: xs, hf => by
    show ((f (.d (e x)) h).bind fun r h4 => (lcL f (dmap (xs.map e)) h4).bind fun rs h6 => .ok (r.toList ++ rs) h6) = _
    rw [hf x List.mem_cons_self, bind_ok', lcL_mapK g xs fun y hy => hf y (List.mem_cons_of_mem _ hy)]
    rfl
theorem lcS_mapK {α : Type} {F : Nat} {f : Vl → MH → Ev.Res (Option Vl)} {h : MH} {xs : List α} {e : α → PyData} (g : α → PyData) (hz : xs.length ≤ sz) (hf : ∀ x ∈ xs, f (.d (e x)) h = .ok (some (.d (g x))) h) : lcS F f (.l (dmap (xs.map e))) h = .ok (dmap (xs.map g)) h := by
  show (if (dmap (xs.map e)).length ≤ sz then lcL f (dmap (xs.map e)) h else .stuck) = _
  rw [dmap_len, List.length_map, if_pos hz]
  exact lcL_mapK g xs hf
theorem dsetL_kvT (K : List (List Int)) : dsetL (K.map encI) = kvT (uniq K) := by
  have key : ∀ (K l : List (List Int)), (K.map encI).foldl (fun acc d => dputL true acc d ((keyT d).getD []) (.bool true)) (kvT l) = kvT (K.foldl uStep l) := by
    intro K
    induction K with
    | nil => intro l; rfl
    | cons x K ih =>
      intro l
      rw [List.map_cons, List.foldl_cons, List.foldl_cons]
      have : keyT (encI x) = some (x.map Sum.inl) := keysK_ints x
      rw [this]
      show (K.map encI).foldl _ (dputL true (kvT l) (encI x) (x.map Sum.inl) (.bool true)) = _
      rw [put_kvT]
      exact ih _
  exact key K []
theorem dscE_ok (K : List (List Int)) (h : MH) (hz : K.length < sz) : dscE (dmap (K.map encI)) h = .ok (.r h.length) (h ++ [.dct true (kvT (uniq K))]) := by
  have e1 : allD (dmap (K.map encI)) = some (K.map encI) := allD_map _
  unfold dscE
  rw [e1]
  dsimp only
  have e2 : (K.map encI).all (fun d => (keyT d).isSome) = true := by
    rw [List.all_map, List.all_eq_true]
    intro x _
    have : keyT (encI x) = some (x.map Sum.inl) := keysK_ints x
    show (keyT (encI x)).isSome = true
    rw [this]; rfl
  rw [e2, List.length_map, decide_eq_true hz]
  rw [if_pos (show (true && true) = true from rfl), dsetL_kvT]
theorem uniq_facts : ∀ (K l : List (List Int)), l.Nodup → (K.foldl uStep l).Nodup ∧ (∀ x, x ∈ K.foldl uStep l ↔ x ∈ l ∨ x ∈ K) ∧ (K.foldl uStep l).length ≤ l.length + K.length
  | [], l, h => ⟨h, by simp, by simp⟩
  | k :: K, l, h => by
    have hn : (uStep l k).Nodup := by
      unfold uStep
      split
      · exact h
      · rename_i hk
        rw [List.nodup_append]
        refine ⟨h, by simp, ?_⟩
        rintro a ha b hb rfl
        rcases List.mem_singleton.mp hb with rfl
        exact hk ha
    obtain ⟨a1, a2, a3⟩ := uniq_facts K (uStep l k) hn
    rw [List.foldl_cons]
    refine ⟨a1, fun x => ?_, ?_⟩
    · rw [a2]
      unfold uStep
      split
      · rename_i hk
        rw [List.mem_cons]
        constructor
        · rintro (q | q)
          · exact .inl q
          · exact .inr (.inr q)
        · rintro (q | rfl | q)
          · exact .inl q
          · exact .inl hk
          · exact .inr q
      · rw [List.mem_append, List.mem_singleton, List.mem_cons]
        constructor
        · rintro ((q | q) | q)
          · exact .inl q
          · exact .inr (.inl q)
          · exact .inr (.inr q)
        · rintro (q | q | q)
          · exact .inl (.inl q)
          · exact .inl (.inr q)
          · exact .inr q
    · have : (uStep l k).length ≤ l.length + 1 := by
        unfold uStep
        split
        · omega
        · rw [List.length_append]; simp
      rw [List.length_cons]; omega
section
variable {j : Nat} {w J : List (List Int)}
/-- what comes of each order -/
def KT (w J : List (List Int)) (j : Nat) : List (List Int) := (ordN j j).map (lawT w (vJ J))
def ET (w J : List (List Int)) (j : Nat) : List (List Int) := sortA (uniq (KT w J j))
theorem rw_range (j : Nat) : Rw j j (rangeI 0 (j : Int)) := ⟨rlen j, (range_pw j).imp fun h => by omega, fun x hx => by have := mem_rangeI.mp hx; omega⟩
theorem KT_mem (g : Wd j w) : ∀ s ∈ KT w J j, s ∈ w := by
  intro s hs
  obtain ⟨r, hr, rfl⟩ := List.mem_map.mp hs
  exact (lawT_ok (v01 J) (g.gi01 (ordN_rw j j r hr)) g.ne).1
theorem ET_facts (g : Wd j w) : (∀ s, s ∈ ET w J j ↔ s ∈ KT w J j) ∧ (ET w J j).length ≤ 1000 ∧ (∀ s ∈ ET w J j, s ∈ w) ∧ ∃ f t, ET w J j = f :: t := by
  have h5 := g.j5
  obtain ⟨a1, a2, a3⟩ := uniq_facts (KT w J j) [] .nil
  have hp := sortA_perm (uniq (KT w J j))
  have hm : ∀ s, s ∈ ET w J j ↔ s ∈ KT w J j := fun s => by
    have : s ∈ ET w J j ↔ s ∈ uniq (KT w J j) := hp.mem_iff
    rw [this]
    have h2 : s ∈ uniq (KT w J j) ↔ s ∈ [] ∨ s ∈ KT w J j := a2 s
    simpa using h2
  refine ⟨hm, ?_, fun s hs => KT_mem g s ((hm s).mp hs), ?_⟩
  · have e1 : (ET w J j).length = (uniq (KT w J j)).length := hp.length_eq
    have e2 : (KT w J j).length ≤ 1000 := by unfold KT; rw [List.length_map]; exact ordN_b h5 h5
    have e3 : (uniq (KT w J j)).length ≤ 0 + (KT w J j).length := a3
    omega
  · have hx : lawT w (vJ J) (rangeI 0 (j : Int)) ∈ ET w J j := (hm _).mpr (List.mem_map_of_mem (rw_ordN j j _ (rw_range j)))
    cases hE : ET w J j with
    | nil => rw [hE] at hx; cases hx
    | cons f t => exact ⟨f, t, rfl⟩
theorem ET_ne (g : Wd j w) : ∀ a ∈ uniq (KT w J j), a ≠ [] := by
  intro a ha e
  have h1 := g.j1
  have : a ∈ KT w J j := by
    have h2 : a ∈ [] ∨ a ∈ KT w J j := ((uniq_facts (KT w J j) [] .nil).2.1 a).mp ha
    simpa using h2
  have := (g.rows a (KT_mem g a this)).1
  rw [e] at this
  simp at this; omega
theorem len_w0 (g : Wd j w) (h : MH) : ∃ r0, idxV (.d (wv w)) (.d (.int 0)) h = some (.d (encI r0)) ∧ biV .len false [.d (encI r0)] h = .ok (.d (.int j)) h := by
  obtain ⟨r0, rs, e⟩ := List.exists_cons_of_ne_nil g.ne
  have hl := (g.rows r0 (by rw [e]; exact List.mem_cons_self)).1
  refine ⟨r0, idx_d encI _ w 0 r0 h rfl (by decide) (by rw [e]; rfl), ?_⟩
  have := len_e r0 h (by have := g.j5; omega)
  rw [hl] at this; exact this
theorem raw_turns_ok (n : Nat) (h : MH) (g : Wd j w) (G : Jd w J) : R (n+4) "raw_turns" [.d (wv w), .d (wv J)] h = .ok (.d (.list ((ET w J j).map encI))) h := by
  rw [R_go (fn := fraw_turns) rfl rfl]
  have h5 := g.j5
  obtain ⟨r0, i0, ln⟩ := len_w0 g h
  have rk := rng_m j (by omega)
  have rg := rgF_l 0 (j : Int) h rk
  have ar := all_rows_ok (n+2) h j h5
  have ob := ordN_b h5 h5
  have so := srcOf_l h ((ordN j j).map encI) (by rw [List.length_map]; exact le_sz (by omega))
  simp [fraw_turns, i0, ln, rg, ar, so]
  rw [lcS_mapK (fun r => encI (lawT w (vJ J) r)) (le_sz (by omega)) (fun r hr => by
    have rt := raw_turn_ok n h g G (ordN_rw j j r hr)
    simp [lcF, putT, rt])]
  have ek : (ordN j j).map (fun r => encI (lawT w (vJ J) r)) = (KT w J j).map encI := by unfold KT; rw [List.map_map]; rfl
  rw [ek]
  have de := dscE_ok (KT w J j) h (by unfold KT; rw [List.length_map]; exact lt_sz (by omega))
  have ds := dsortA h (uniq (KT w J j)) (ET_ne g) (by
    have := (uniq_facts (KT w J j) [] .nil).2.2
    have e2 : (KT w J j).length ≤ 1000 := by unfold KT; rw [List.length_map]; exact ob
    have e3 : (uniq (KT w J j)).length ≤ 0 + (KT w J j).length := this
    exact le_sz (by omega))
  simp only [calm_ok', bind_ok', de, ds]
  simp [ET]
end
end EvLaw

set_option Elab.async false
set_option linter.all false
set_option autoImplicit false
set_option maxRecDepth 100000
set_option maxHeartbeats 8000000
namespace EvLaw
open PySem Ev
open PySem.W (dataLt dataLe alike alikeAll minD maxD)
section
variable {j : Nat} {w J : List (List Int)}
theorem in_turn_ok (n : Nat) (h : MH) (g : Wd j w) (G : Jd w J) {r : List Int} (hr : Rw j j r) : R (n+7) "in_turn" [.d (wv w), .d (wv J), .d (encI r)] h = .ok (.d (encI (lawT w (vJ J) r))) h := by
  rw [R_go (fn := fin_turn) rfl rfl]
  obtain ⟨r0, i0, ln⟩ := len_w0 g h
  have ck := check_judges_ok n h g G
  have aa := are_all_ok (n+3) h hr g.j1 g.j5
  have rt := raw_turn_ok (n+3) h g G hr
  simp [fin_turn, ck, i0, ln, aa, rt]
theorem in_turn_w (n : Nat) (h : MH) (d e f : PyData) (hs : sm 2 d = true) (hb : worldB d = false) : R (n+7) "in_turn" [.d d, .d e, .d f] h = .exc "NoWorld" [] h := by
  rw [R_go (fn := fin_turn) rfl rfl]
  simp [fin_turn, check_judges_w n h d e hs hb, bind_exc', leave_exc]
theorem in_turn_j (n : Nat) (h : MH) (g : Wd j w) (e f : PyData) (hs : sm 2 e = true) (hb : jokB j e = false) : R (n+7) "in_turn" [.d (wv w), .d e, .d f] h = .exc "NoJudges" [] h := by
  rw [R_go (fn := fin_turn) rfl rfl]
  simp [fin_turn, check_judges_j n h g e hs hb, bind_exc', leave_exc]
theorem in_turn_o (n : Nat) (h : MH) (g : Wd j w) (G : Jd w J) (f : PyData) (hf : ∀ n h, R (n+3) "are_all" [.d f, .d (.int j)] h = .ok (.d (.bool false)) h) : R (n+7) "in_turn" [.d (wv w), .d (wv J), .d f] h = .exc "NoOrder" [] h := by
  rw [R_go (fn := fin_turn) rfl rfl]
  obtain ⟨r0, i0, ln⟩ := len_w0 g h
  have ck := check_judges_ok n h g G
  have aa := hf (n+3) h
  simp [fin_turn, ck, i0, ln, aa, allD, bind_exc', leave_exc]
theorem all_in_turn_ok (n : Nat) (h : MH) (g : Wd j w) (G : Jd w J) : R (n+7) "all_in_turn" [.d (wv w), .d (wv J)] h = .ok (.d (wv (ET w J j))) h := by
  rw [R_go (fn := fall_in_turn) rfl rfl]
  have ck := check_judges_ok n h g G
  have rt := raw_turns_ok (n+2) h g G
  have ef := (ET_facts (J := J) g).2.1
  have bt : biV .tuple false [.d (.list ((ET w J j).map encI))] h = .ok (.d (wv (ET w J j))) h := by
    have : (ET w J j).length ≤ sz := le_sz (by omega)
    simp [wv, this]
  simp [fall_in_turn, ck, rt, bt]
theorem all_in_turn_j (n : Nat) (h : MH) (g : Wd j w) (e : PyData) (hs : sm 2 e = true) (hb : jokB j e = false) : R (n+7) "all_in_turn" [.d (wv w), .d e] h = .exc "NoJudges" [] h := by
  rw [R_go (fn := fall_in_turn) rfl rfl]
  simp [fall_in_turn, check_judges_j n h g e hs hb, bind_exc', leave_exc]
theorem sure_w (n : Nat) (h : MH) (d e : PyData) (hs : sm 2 d = true) (hb : worldB d = false) : R (n+7) "sure_issues" [.d d, .d e] h = .exc "NoWorld" [] h := by
  rw [R_go (fn := fsure_issues) rfl rfl]
  simp [fsure_issues, check_judges_w n h d e hs hb, bind_exc', leave_exc]
/-- what all have -/
def sureP (E : List (List Int)) (f : List Int) (i : Int) : Bool := E.all fun s => decide (gi s i = gi f i)
def sureL (E : List (List Int)) (f : List Int) (j : Nat) : List (Int × Int) := ((rangeI 0 (j : Int)).filter (sureP E f)).map fun i => (i, gi f i)
theorem zip_gi {f : List Int} (hf : f.length = j) : f.zipIdx = (rangeI 0 (j : Int)).map fun i => (gi f i, i.toNat) := by
  refine List.ext_getElem (by rw [List.length_zipIdx, List.length_map, rlen, hf]) fun i h1 h2 => ?_
  have hi : i < j := by rw [List.length_zipIdx] at h1; omega
  have e : (rangeI 0 (j : Int))[i]? = some (i : Int) := by
    have := rangeI_get (a := 0) (b := (j : Int)) (i := i) (by omega)
    simpa using this
  have e2 : (rangeI 0 (j : Int))[i]'(by rw [rlen]; exact hi) = (i : Int) := by
    rw [List.getElem?_eq_getElem (by rw [rlen]; exact hi)] at e
    exact Option.some.inj e
  rw [List.getElem_map, e2, List.getElem_zipIdx, Nat.zero_add, Int.toNat_natCast]
  have : gi f i = f[i] := by
    unfold gi
    rw [List.getD_eq_getElem?_getD, Int.toNat_natCast, List.getElem?_eq_getElem (by omega)]; rfl
  rw [this]
def allG (E : List (List Int)) (q : Int × Nat) : Bool := E.all fun s => decide (gi s (q.2 : Int) = q.1)
theorem sure_eq {E : List (List Int)} {f : List Int} (hf : f.length = j) : (f.zipIdx.filter (allG E)).map (fun q => encP ((q.2 : Int), q.1)) = (sureL E f j).map encP := by
  rw [zip_gi hf]
  unfold sureL
  rw [List.filter_map, List.map_map, List.map_map]
  have e : (rangeI 0 (j : Int)).filter (allG E ∘ fun i => (gi f i, i.toNat)) = (rangeI 0 (j : Int)).filter (sureP E f) := by
    refine List.filter_congr fun i hi => ?_
    have h0 := (mem_rangeI.mp hi).1
    have e1 : ((i.toNat : Nat) : Int) = i := by omega
    simp only [Function.comp_apply, allG, e1]
    rfl
  rw [e]
  refine List.map_congr_left fun i hi => ?_
  have h0 := (mem_rangeI.mp (List.mem_filter.mp hi).1).1
  have e1 : ((i.toNat : Nat) : Int) = i := by omega
  simp only [Function.comp_apply, e1]
def SU : Sts := match fsure_issues.body with | .cons _ (.cons _ (.cons (.for_ _ _ b) _)) => b | _ => .nil
theorem sure_ok (n : Nat) (h : MH) (g : Wd j w) (G : Jd w J) {f : List Int} {t : List (List Int)} (hE : ET w J j = f :: t) : R (n+7) "sure_issues" [.d (wv w), .d (wv J)] h = .ok (.d (.tuple ((sureL (ET w J j) f j).map encP))) h := by
  rw [R_go (fn := fsure_issues) rfl rfl]
  have h5 := g.j5
  have ck := check_judges_ok n h g G
  have rt := raw_turns_ok (n+2) h g G
  obtain ⟨e1, e2, e3, _⟩ := ET_facts (J := J) g
  have hfl : f.length = j := (g.rows f (e3 f (by rw [hE]; exact List.mem_cons_self))).1
  have i0 : ∀ H, idxV (.d (.list ((ET w J j).map encI))) (.d (.int 0)) H = some (.d (encI f)) := fun H => idx_d encI _ (ET w J j) 0 f H rfl (by decide) (by rw [hE]; rfl)
  have hEw : ∀ s ∈ ET w J j, s.length = j := fun s hs => (g.rows s (e3 s hs)).1
  generalize ET w J j = E at *
  obtain ⟨σ2, ef, y4, y5, rfl⟩ := forL_gather (t := .tp [4, 5]) (b := evSs (GG (n+6)) SU) (e := encZ PyData.int) (allG E) (fun q => encP ((q.2 : Int), q.1)) h
    (fun σ => ∃ y4 y5, σ = [some (.d (wv w)), some (.d (wv J)), some (.d (.list (E.map encI))), some (.r h.length), y4, y5, none]) f.zipIdx
    [some (.d (wv w)), some (.d (wv J)), some (.d (.list (E.map encI))), some (.r h.length), none, none, none] [] ⟨_, _, rfl⟩ (by rw [List.length_zipIdx]; simp; omega) (by
      rintro q hq σ acc ⟨y4, y5, rfl⟩ hacc
      have hqj : q.2 < j := by
        have := List.mem_zipIdx_iff_getElem?.mp hq
        obtain ⟨hlt, _⟩ := List.getElem?_eq_some_iff.mp this
        omega
      have it := dl_it h acc
      have ap := dl_app h acc (encP ((q.2 : Int), q.1)) hacc
      have so := srcOf_l (dl h acc) (E.map encI) (by rw [List.length_map]; exact le_sz (by omega))
      have z2 : 2 ≤ sz := by decide
      refine ⟨_, rfl, [some (.d (wv w)), some (.d (wv J)), some (.d (.list (E.map encI))), some (.r h.length), some (.d (.int (q.2 : Int))), some (.d (.int q.1)), none], .inl ?_, _, _, rfl⟩
      simp [SU, fsure_issues, so]
      rw [lc_map _ (fun s => .bool (decide (gi s (q.2 : Int) = q.1))) (le_sz (by omega)) (fun s hs => by
        have := idx_gi s (q.2 : Int) (dl h acc) (by omega) (by rw [hEw s hs]; omega)
        simp [this])]
      simp only [bind_ok', b_all_map, calm_ok', trB_bool]
      rw [show (E.all fun s => decide (gi s (q.2 : Int) = q.1)) = allG E q from rfl]
      cases allG E q
      · simp
      · simp [encP] at ap
        simp [it, ap, z2, encP])
  rw [List.nil_append, sure_eq hfl] at ef
  have se := srcEnmE_t PyData.int f (le_sz (by omega))
  have tl := dl_tup h ((sureL E f j).map encP)
  have se : srcEnm (.d (encI f)) = some (.l (dmap (f.zipIdx.map (encZ PyData.int)))) := se
  simp [fsure_issues, ck, rt, dl_nil, i0, se, forF_l]
  simp only [SU, fsure_issues] at ef
  rw [ef]
  simp [tl, dl_take]
/-! the law's own turn -/
def LTB : Sts := match f_law_turn.body with | .cons _ (.cons (.for_ _ _ b) _) => b | _ => .nil
theorem ne_lrows (l : List (List Int)) (h : MH) : cmpV .ne (.d (.list (l.map encI))) (.d (.list [])) h = some (!decide (l = [])) := by
  rw [cmp_ne_d (.list (l.map encI)) (.list []) h (show okN 40 (.list (l.map encI)) = true from okN_map 39 encI l (fun a => okN_encI 38 a)) rfl (fun i j e => by cases e)]
  cases l <;> simp [PyData.eqv, PyData.eqvAll]
theorem law_turn_ok (n : Nat) (h : MH) (g : Wd j w) (G : Jd w J) {r : List Int} (hr : Rw j j r) : R (n+1) "_law_turn" [.d (wv w), .d (wv J), .d (encI r)] h = .ok (.d (encI (lawT w (vJ J) r))) h := by
  rw [R_go (fn := f_law_turn) rfl rfl]
  have h5 := g.j5
  have lJ : biV .len false [.d (wv J)] h = .ok (.d (.int J.length)) h := by
    have := b_len_t h (J.map encI) false (by rw [List.length_map]; exact G.sz)
    rw [List.length_map] at this; exact this
  have sJ : srcOf (.d (wv J)) h = some (.l (dmap (J.map encI))) := srcOf_t h _ (by rw [List.length_map]; exact G.sz)
  have m2 : ∀ x, binI .mul 2 x = some (2*x) := fun x => binI_mull 2 x (by decide) (by decide)
  obtain ⟨σ2, ef, _, _, y4, y5, y6, y7, rfl⟩ := forL_acc (t := .nm 4) (b := evSs (GG n) LTB) (e := PyData.int) (stepL (vJ J)) h
    (fun left σ => (∀ s ∈ left, s ∈ w) ∧ left.length ≤ w.length ∧ ∃ y4 y5 y6 y7, σ = [some (.d (wv w)), some (.d (wv J)), some (.d (encI r)), some (.d (.list (left.map encI))), y4, y5, y6, y7, none]) r w
    [some (.d (wv w)), some (.d (wv J)), some (.d (encI r)), some (.d (.list (w.map encI))), none, none, none, none, none] ⟨fun s hs => hs, Nat.le_refl _, _, _, _, _, rfl⟩ (by
      rintro i hi left σ ⟨hl, hlen, y4, y5, y6, y7, rfl⟩
      have hir := hr.2.2 i hi
      have lz : (J.filter (hitB i)).length ≤ sz := Nat.le_trans (List.length_filter_le ..) G.sz
      have ln : biV .len false [.d (.list ((J.filter (hitB i)).map fun _ => .int 1))] h = .ok (.d (.int (col J i).sum)) h := by
        rw [b_len_l _ _ _ (by rw [List.length_map]; exact lz), List.length_map, cnt_col g G hir.1 hir.2]
      have bi : biV .int false [.d (.bool (decide ((J.length : Int) < 2 * (col J i).sum)))] h = .ok (.d (.int (vJ J i))) h := by
        rw [b_int_b]; unfold vJ; simp
      have so := srcOf_l h (left.map encI) (by rw [List.length_map]; exact Nat.le_trans hlen g.sz)
      have nn := ne_lrows (keepL (vJ J) left i) h
      have kz : (keepL (vJ J) left i).length ≤ left.length := List.length_filter_le ..
      refine ⟨_, rfl, [some (.d (wv w)), some (.d (wv J)), some (.d (encI r)), some (.d (.list ((stepL (vJ J) left i).map encI))), some (.d (.int i)), some (.d (.int (col J i).sum)), some (.d (.int (vJ J i))), some (.d (.list ((keepL (vJ J) left i).map encI))), none], ?_, ?_, ?_, _, _, _, _, rfl⟩
      · simp [LTB, f_law_turn, sJ]
        rw [lc_filter _ (hitB i) (fun _ => .int 1) G.sz (fun q hq => by
          have := idx_row q i h hir.1 (by rw [(G.rows g q hq).1]; exact hir.2)
          simp only [List.getD_eq_getElem?_getD] at this
          simp [this, hitB]
          split <;> simp)]
        simp only [bind_ok', ln, calm_ok']
        simp [m2, lJ, bi, so]
        rw [lc_filter _ (fun s => decide (gi s i = vJ J i)) encI (Nat.le_trans hlen g.sz) (fun s hs => by
          have := idx_gi s i h hir.1 (by rw [(g.rows s (hl s hs)).1]; exact hir.2)
          by_cases hq : gi s i = vJ J i <;> simp [this, hq])]
        have eK : (left.filter fun s => decide (gi s i = vJ J i)) = keepL (vJ J) left i := rfl
        rw [eK]
        unfold stepL
        generalize keepL (vJ J) left i = K at *
        by_cases hk : K = []
        · subst hk
          have nn : cmpV .ne (.d (.list [])) (.d (.list [])) h = some false := by simpa using nn
          simp [nn]
        · simp [nn, hk]
      · intro s hs
        unfold stepL at hs
        split at hs
        · exact hl s hs
        · exact hl s (List.mem_filter.mp hs).1
      · unfold stepL
        split
        · exact hlen
        · omega)
  obtain ⟨_, _, ⟨t, ht⟩, _⟩ := lawT_ok (v01 J) (g.gi01 hr) g.ne
  rw [ht] at ef
  have so : srcOf (.d (encI r)) h = some (.l (dmap (r.map .int))) := srcOf_t h _ (by rw [List.length_map, hr.1]; exact le_sz (by omega))
  have bl : biV .list false [.d (wv w)] h = .ok (.d (.list (w.map encI))) h := by
    have : w.length ≤ sz := g.sz
    simp [wv, this]
  have i0 : idxV (.d (.list ((lawT w (vJ J) r :: t).map encI))) (.d (.int 0)) h = some (.d (encI (lawT w (vJ J) r))) := idx_d encI _ (lawT w (vJ J) r :: t) 0 _ h rfl (by decide) rfl
  simp only [LTB, f_law_turn] at ef
  simp [f_law_turn, bl, so, forF_l]
  simp at ef i0
  rw [ef]
  simp [i0]
end
end EvLaw

set_option Elab.async false
set_option linter.all false
set_option autoImplicit false
set_option maxRecDepth 100000
set_option maxHeartbeats 8000000
namespace EvLaw
open PySem Ev
open PySem.W (dataLt dataLe alike alikeAll minD maxD)
def wh : Hd := wf_law_word.hs.getD 1 ⟨"", 0, .nil⟩
theorem ieV {cs : List Str} {a : Nat} {c C : Str} (b : Bool) (hb : subF cs c C = some b) : ∀ (σ : Ev.Env) (h : MH), σ[4]? = some (some (.x a)) → isEF (gsX gc fuel cs a c).ex (gsX gc fuel cs a c).sub 4 C σ h = .ok (.d (.bool b)) h := by
  intro σ h hs
  unfold isEF gsX
  rw [hs]
  simp [hb]
def csW : List Str := ["TooMany", "NoCount", "NoJudges", "NoOrder", "NoQuotas", "NoSaying", "NoWorld"]
theorem hd_word (h : MH) (a : Nat) (c s : Str) (b1 b2 b3 b4 b5 b6 : Bool) (e1 : subF csW c "NoCount" = some b1) (e2 : subF csW c "NoJudges" = some b2) (e3 : subF csW c "NoOrder" = some b3) (e4 : subF csW c "NoQuotas" = some b4) (e5 : subF csW c "NoSaying" = some b5) (e6 : subF csW c "NoWorld" = some b6)
    (k : Nat) (hc : ∀ h : MH, metV .count (.d (.list [.bool b1, .bool b2, .bool b3, .bool b4, .bool b5, .bool b6])) [.d (.bool true)] h = .ok (.d (.int 1)) h)
    (hi : ∀ h : MH, metV .index (.d (.list [.bool b1, .bool b2, .bool b3, .bool b4, .bool b5, .bool b6])) [.d (.bool true)] h = .ok (.d (.int k)) h)
    (hx : ∀ h : MH, idxV (.d (.list [.str "count", .str "judges", .str "order", .str "quotas", .str "saying", .str "world"])) (.d (.int k)) h = some (.d (.str s))) : hdV gc fuel wf_law_word wh c h h.length a = .ok (.d (.str s)) h := by
  unfold hdV
  have st : (wf_law_word.start.set wh.sl (some (Vl.x a))) = [none, some (.d (.str "let")), none, none, some (.x a)] := rfl
  rw [st]
  have f1 := ieV (a := a) b1 e1
  have f2 := ieV (a := a) b2 e2
  have f3 := ieV (a := a) b3 e3
  have f4 := ieV (a := a) b4 e4
  have f5 := ieV (a := a) b5 e5
  have f6 := ieV (a := a) b6 e6
  simp only [csW] at f1 f2 f3 f4 f5 f6
  have z2 : 2 ≤ sz := by decide
  have z4 : 4 ≤ sz := by decide
  have z6 : 6 ≤ sz := by decide
  have m0 : ∀ h : MH, mkl false [.d (.bool b1), .d (.bool b2), .d (.bool b3), .d (.bool b4)] h = .ok (.d (.list [.bool b1, .bool b2, .bool b3, .bool b4])) h := fun h => mk_b [b1, b2, b3, b4] h
  have m1 : ∀ h : MH, mkl false [.d (.bool b5), .d (.bool b6)] h = .ok (.d (.list [.bool b5, .bool b6])) h := fun h => mk_b [b5, b6] h
  have ad1 : ∀ h : MH, binV .add false (.d (.list [.bool b1, .bool b2, .bool b3, .bool b4])) (.d (.list [.bool b5, .bool b6])) h = .ok (.d (.list [.bool b1, .bool b2, .bool b3, .bool b4, .bool b5, .bool b6])) h := fun h => rfl
  have ms : ∀ h : MH, mkl false [.d (.str "count"), .d (.str "judges"), .d (.str "order"), .d (.str "quotas"), .d (.str "saying"), .d (.str "world")] h = .ok (.d (.list [.str "count", .str "judges", .str "order", .str "quotas", .str "saying", .str "world"])) h := fun h => rfl
  have il : ∀ (xs : List PyData) (h : MH), itemsL (.d (.list xs)) h = some (dmap xs) := fun xs h => rfl
  simp [wh, wf_law_word, f1, f2, f3, f4, f5, f6, z2, z4, z6, m0, m1, ad1, ms, il, hc, hi, hx]
theorem word_of (h : MH) (c s : Str) (hp : pick csW c wf_law_word.hs = some wh) (k : ∀ a, hdV gc fuel wf_law_word wh c h h.length a = .ok (.d (.str s)) h) (m : Nat) (hm : h.length = m) : wdT (tabT tb) gc fuel "_law_word" (.exc c [] h) m = .ok (.d (.str s)) h := by
  subst hm
  show (match pick csW c wf_law_word.hs with
    | some x => allA (hdV gc fuel wf_law_word x c h h.length)
    | none => .stuck) = _
  rw [hp]
  show allA (hdV gc fuel wf_law_word wh c h h.length) = _
  unfold allA
  rw [if_pos (fun a => by rw [k, k]), k]
theorem w_world (h : MH) (m : Nat) (hm : h.length = m) : wdT (tabT tb) gc fuel "_law_word" (.exc "NoWorld" [] h) m = .ok (.d (.str "world")) h :=
  word_of h "NoWorld" "world" rfl (fun a => hd_word h a "NoWorld" "world" false false false false false true rfl rfl rfl rfl rfl rfl 5 (fun h => rfl) (fun h => rfl) (fun h => rfl)) m hm
theorem w_judges (h : MH) (m : Nat) (hm : h.length = m) : wdT (tabT tb) gc fuel "_law_word" (.exc "NoJudges" [] h) m = .ok (.d (.str "judges")) h :=
  word_of h "NoJudges" "judges" rfl (fun a => hd_word h a "NoJudges" "judges" false true false false false false rfl rfl rfl rfl rfl rfl 1 (fun h => rfl) (fun h => rfl) (fun h => rfl)) m hm
theorem w_order (h : MH) (m : Nat) (hm : h.length = m) : wdT (tabT tb) gc fuel "_law_word" (.exc "NoOrder" [] h) m = .ok (.d (.str "order")) h :=
  word_of h "NoOrder" "order" rfl (fun a => hd_word h a "NoOrder" "order" false false true false false false rfl rfl rfl rfl rfl rfl 2 (fun h => rfl) (fun h => rfl) (fun h => rfl)) m hm
end EvLaw

set_option Elab.async false
set_option linter.all false
set_option autoImplicit false
set_option maxRecDepth 100000
set_option maxHeartbeats 8000000
namespace EvLaw
open PySem Ev
open PySem.W (dataLt dataLe alike alikeAll minD maxD)
/-- a body's statement -/
def nth (B : Sts) : Nat → St
  | 0 => match B with | .cons s _ => s | .nil => .pass
  | k + 1 => match B with | .cons _ r => nth r k | .nil => .pass
section
variable {j : Nat} {w J : List (List Int)}
theorem in_none (w : List (List Int)) (h : MH) : cmpV .in_ (.d .none) (.d (wv w)) h = some false := by
  have e2 : okN 40 (.tuple (w.map encI)) = true := okN_map 39 encI _ (fun a => okN_encI 38 a)
  have e : anyEqv (w.map encI) .none = false := by
    unfold anyEqv
    rw [List.any_map, List.any_eq_false]
    intro x _
    show ¬ PyData.eqv (encI x) .none = true
    simp [encI, PyData.eqv]
  show (if (okN 40 PyData.none && okN 40 (.tuple (w.map encI))) = true then some (anyEqv (w.map encI) .none) else _) = _
  rw [if_pos (by rw [e2]; rfl), e]
theorem maj_gi {i : Int} (h0 : 0 ≤ i) (h1 : i < j) : gi (majL J j) i = vJ J i := by
  have e : majL J j = (rangeI 0 (j : Int)).map (vJ J) := rfl
  unfold gi
  rw [e, List.getD_eq_getElem?_getD, List.getElem?_map]
  have := rangeI_get (a := 0) (b := (j : Int)) (i := i.toNat) (by omega)
  rw [this]
  show vJ J (0 + (i.toNat : Int)) = _
  congr 1; omega
theorem ET_maj (g : Wd j w) (hM : majL J j ∈ w) : ET w J j = [majL J j] := by
  obtain ⟨e1, _, e3, f, t, hE⟩ := ET_facts (J := J) g
  have hall : ∀ s ∈ ET w J j, s = majL J j := by
    intro s hs
    obtain ⟨r, hr, rfl⟩ := List.mem_map.mp ((e1 s).mp hs)
    have hrw := ordN_rw j j r hr
    obtain ⟨t1, _, _, t4⟩ := lawT_ok (v01 J) (g.gi01 hrw) g.ne
    have h4 := t4 (majL J j) hM fun i hi => maj_gi (hrw.2.2 i hi).1 (hrw.2.2 i hi).2
    have l1 := (g.rows _ t1).1
    have l2 := (g.rows _ hM).1
    rw [← range_gi l1]
    conv => rhs; rw [← range_gi l2]
    refine List.map_congr_left fun i hi => ?_
    have hi2 := mem_rangeI.mp hi
    have hir : i ∈ r := (rw_perm hrw).mem_iff.mp hi
    rw [h4 i hir, maj_gi hi2.1 hi2.2]
  have hn : (ET w J j).Nodup := (sortA_perm _).nodup_iff.mpr (uniq_facts (KT w J j) [] .nil).1
  rw [hE] at hall hn ⊢
  have hf := hall f List.mem_cons_self
  cases t with
  | nil => rw [hf]
  | cons b t =>
    have hb := hall b (by simp)
    have := (List.nodup_cons.mp hn).1
    rw [hf, hb] at this
    exact absurd List.mem_cons_self this
theorem okN_wv (r : List (List Int)) : okN 40 (wv r) = true := okN_map 39 encI r (fun a => okN_encI 38 a)
theorem okN_sure (E : List (List Int)) (f : List Int) : okN 40 (.tuple ((sureL E f j).map encP)) = true := okN_map 39 encP _ (fun a => okN_encP2 38 a)
theorem every_ok (H : MH) (g : Wd j w) : ∃ D, biV .dictP false [.d (.list ((ordN j j).map fun r => .tuple [encI (lawT w (vJ J) r), .bool true]))] H = .ok (.r H.length) (H ++ [D]) ∧ dsortV false false (.r H.length) (H ++ [D]) = .ok (.d (.list ((ET w J j).map encI))) (H ++ [D]) := by
  have h5 := g.j5
  have ob := ordN_b h5 h5
  have kl : (KT w J j).length ≤ 1000 := by unfold KT; rw [List.length_map]; exact ob
  have ek : ((ordN j j).map fun r => PyData.tuple [encI (lawT w (vJ J) r), .bool true]) = (KT w J j).map fun x => .tuple [encI x, .bool true] := by unfold KT; rw [List.map_map]; rfl
  refine ⟨.dct true (kvT (uniq (KT w J j))), ?_, ?_⟩
  · rw [ek]
    exact dictP_ok (fun _ => .bool true) (KT w J j) H (lt_sz (by omega))
  · exact dsortA H (uniq (KT w J j)) (ET_ne g) (by
      have e3 : (uniq (KT w J j)).length ≤ 0 + (KT w J j).length := (uniq_facts (KT w J j) [] .nil).2.2
      exact le_sz (by omega))
end
end EvLaw

set_option Elab.async false
set_option linter.all false
set_option autoImplicit false
set_option maxRecDepth 100000
set_option maxHeartbeats 16000000
namespace EvLaw
open PySem Ev
open PySem.W (dataLt dataLe alike alikeAll minD maxD)
def turnB : Sts := match flaw.body with | .cons _ (.cons (.for_ _ _ b) _) => b | _ => .nil
theorem turnB_split : turnB = .cons (nth turnB 0) (.cons (nth turnB 1) (.cons (nth turnB 2) (.cons (nth turnB 3) (.cons (nth turnB 4) (.cons (nth turnB 5) (.cons (nth turnB 6) (.cons (nth turnB 7) (.cons (nth turnB 8) (.cons (nth turnB 9) (.cons (nth turnB 10) (.cons (nth turnB 11) (.cons (nth turnB 12) (.cons (nth turnB 13) (.cons (nth turnB 14) (.cons (nth turnB 15) (.cons (nth turnB 16) (.cons (nth turnB 17) .nil))))))))))))))))) := rfl
theorem st0_ok (n : Nat) (ns : List Int) (o : MO) (l : MH) (hh : HandO o) (x2 x3 x4 x5 x6 x7 x8 x9 x10 x11 x12 x13 x14 x15 : Option Vl) : ∃ (j : Nat) (w : List (List Int)) (o' : MO), evS (GG (n+9)) (nth turnB 0) [some (.sc ns), some (.r 0), x2, x3, x4, x5, x6, x7, x8, x9, x10, x11, x12, x13, x14, x15] (o :: l) = .ok (.nx [some (.sc ns), some (.r 0), x2, some (.d (wv w)), x4, x5, x6, x7, x8, x9, x10, x11, x12, x13, x14, x15]) (o' :: l) ∧ Wd j w ∧ HandO o' := by
  obtain ⟨j, w, o1, e1, hh1, g⟩ := world_draw (n+6) (l := l) hh
  refine ⟨j, w, o1, ?_, g, hh1⟩
  rw [show nth turnB 0 = (.set 3 (.call "_law_world" (.cons (.var 1) (.cons (.int 4) .nil)))) from rfl]
  simp [e1]
theorem st1_ok (n : Nat) (ns : List Int) (o : MO) (l : MH) (j : Nat) (w : List (List Int)) (g : Wd j w) (hh : HandO o) (x2 x4 x5 x6 x7 x8 x9 x10 x11 x12 x13 x14 x15 : Option Vl) : ∃ (J : List (List Int)) (o' : MO), evS (GG (n+9)) (nth turnB 1) [some (.sc ns), some (.r 0), x2, some (.d (wv w)), x4, x5, x6, x7, x8, x9, x10, x11, x12, x13, x14, x15] (o :: l) = .ok (.nx [some (.sc ns), some (.r 0), x2, some (.d (wv w)), x4, x5, x6, x7, x8, x9, some (.d (.int j)), some (.d (wv J)), x12, x13, x14, x15]) (o' :: l) ∧ Jd w J ∧ HandO o' := by
  obtain ⟨r0, i0, ln⟩ := len_w0 g (o :: l)
  obtain ⟨J, o1, e1, hh1, G⟩ := judges_draw (n+6) (l := l) g hh
  have z2 : 2 ≤ sz := by decide
  refine ⟨J, o1, ?_, G, hh1⟩
  rw [show nth turnB 1 = (.asg (.tp [10, 11]) (.tup (.cons (.bi .len false (.cons (.idx (.var 3) (.int 0)) .nil)) (.cons (.call "_law_judges" (.cons (.var 1) (.cons (.var 3) (.cons (.int 9) .nil)))) .nil)))) from rfl]
  simp [i0, ln, e1, z2, putT]
theorem st2_ok (n : Nat) (ns : List Int) (o : MO) (l : MH) (j : Nat) (w : List (List Int)) (g : Wd j w) (x2 x3 x4 x5 x6 x7 x8 x9 x11 x12 x13 x14 x15 : Option Vl) : evS (GG (n+9)) (nth turnB 2) [some (.sc ns), some (.r 0), x2, x3, x4, x5, x6, x7, x8, x9, some (.d (.int j)), x11, x12, x13, x14, x15] (o :: l) = .ok (.nx [some (.sc ns), some (.r 0), x2, x3, some (.d (.list ((ordN j j).map encI))), x5, x6, x7, x8, x9, some (.d (.int j)), x11, x12, x13, x14, x15]) (o :: l) := by
  rw [show nth turnB 2 = (.set 4 (.call "_law_orders" (.cons (.var 10) .nil))) from rfl]
  have lo : R (n+9) "_law_orders" [.d (.int j)] (o :: l) = .ok (.d (.list ((ordN j j).map encI))) (o :: l) := law_orders_ok (n+8) (o :: l) j g.j5
  simp [lo]
theorem st3_ok (n : Nat) (ns : List Int) (o : MO) (l : MH) (j : Nat) (w : List (List Int)) (g : Wd j w) (hh : HandO o) (x2 x3 x5 x6 x7 x8 x9 x10 x11 x12 x13 x14 x15 : Option Vl) : ∃ (r : List Int) (o' : MO), evS (GG (n+9)) (nth turnB 3) [some (.sc ns), some (.r 0), x2, x3, some (.d (.list ((ordN j j).map encI))), x5, x6, x7, x8, x9, x10, x11, x12, x13, x14, x15] (o :: l) = .ok (.nx [some (.sc ns), some (.r 0), x2, x3, some (.d (.list ((ordN j j).map encI))), some (.d (encI r)), x6, x7, x8, x9, x10, x11, x12, x13, x14, x15]) (o' :: l) ∧ Rw j j r ∧ HandO o' := by
  have h5 := g.j5
  obtain ⟨d, o1, hd, e1, hh1⟩ := any_R (n := n+7) (l := l) (xs := (ordN j j).map encI) hh (List.ne_nil_of_mem (List.mem_map_of_mem (rw_ordN j j _ (rw_range j)))) (by rw [List.length_map]; exact le_sz (by have := ordN_b h5 h5; omega))
  obtain ⟨r, hr, rfl⟩ := List.mem_map.mp hd
  refine ⟨r, o1, ?_, ordN_rw j j r hr, hh1⟩
  rw [show nth turnB 3 = (.set 5 (.call "_law_any" (.cons (.var 1) (.cons (.var 4) .nil)))) from rfl]
  simp [e1]
theorem st4_ok (n : Nat) (ns : List Int) (o : MO) (l : MH) (j : Nat) (w : List (List Int)) (J : List (List Int)) (g : Wd j w) (G : Jd w J) (r : List Int) (hr : Rw j j r) (x2 x4 x6 x7 x8 x9 x10 x12 x13 x14 x15 : Option Vl) : evS (GG (n+9)) (nth turnB 4) [some (.sc ns), some (.r 0), x2, some (.d (wv w)), x4, some (.d (encI r)), x6, x7, x8, x9, x10, some (.d (wv J)), x12, x13, x14, x15] (o :: l) = .ok (.nx [some (.sc ns), some (.r 0), x2, some (.d (wv w)), x4, some (.d (encI r)), x6, x7, x8, x9, x10, some (.d (wv J)), x12, x13, x14, x15]) (o :: l) := by
  rw [show nth turnB 4 = (.ite (.cmp .ne (.call "in_turn" (.cons (.var 3) (.cons (.var 11) (.cons (.var 5) .nil)))) (.call "_law_turn" (.cons (.var 3) (.cons (.var 11) (.cons (.var 5) .nil)))))
      (.cons (.ret (.bl false))
      .nil)
      .nil) from rfl]
  have it := in_turn_ok (n+2) (o :: l) g G hr
  have lt := law_turn_ok (n+8) (o :: l) g G hr
  have ne := ne_same (encI (lawT w (vJ J) r)) (o :: l) (okN_encI 39 _)
  simp [it, lt, ne]
theorem st5_ok (n : Nat) (ns : List Int) (o : MO) (l : MH) (j : Nat) (w : List (List Int)) (J : List (List Int)) (g : Wd j w) (G : Jd w J) (x2 x5 x6 x7 x8 x9 x10 x12 x13 x14 x15 : Option Vl) : ∃ (D : MO), evS (GG (n+9)) (nth turnB 5) [some (.sc ns), some (.r 0), x2, some (.d (wv w)), some (.d (.list ((ordN j j).map encI))), x5, x6, x7, x8, x9, x10, some (.d (wv J)), x12, x13, x14, x15] (o :: l) = .ok (.nx [some (.sc ns), some (.r 0), x2, some (.d (wv w)), some (.d (.list ((ordN j j).map encI))), x5, some (.d (.list ((ET w J j).map encI))), x7, x8, x9, x10, some (.d (wv J)), x12, x13, x14, x15]) (o :: (l ++ [D])) := by
  obtain ⟨D, e1, e2⟩ := every_ok (J := J) (o :: l) g
  refine ⟨D, ?_⟩
  rw [show nth turnB 5 = (.set 6 (.dsort false false (.bi .dictP false (.cons (.lc false (.tup (.cons (.call "_law_turn" (.cons (.var 3) (.cons (.var 11) (.cons (.var 15) .nil)))) (.cons (.bl true) .nil))) (.nm 15) (.seq (.var 4)) .nil [15]) .nil)))) from rfl]
  have h5 := g.j5
  have ob := ordN_b h5 h5
  have so := srcOf_l (o :: l) ((ordN j j).map encI) (by rw [List.length_map]; exact le_sz (by omega))
  have z2 : 2 ≤ sz := by decide
  simp [so]
  rw [lc_map (o :: l) (fun r => .tuple [encI (lawT w (vJ J) r), .bool true]) (le_sz (by omega)) (fun r hr => by
    have lt := law_turn_ok (n+8) (o :: l) g G (ordN_rw j j r hr)
    simp [lt, z2])]
  have e2 : dsortV false false (.r (l.length + 1)) (o :: (l ++ [D])) = .ok (.d (.list ((ET w J j).map encI))) (o :: (l ++ [D])) := e2
  have e1 : biV .dictP false [.d (.list ((ordN j j).map fun r => .tuple [encI (lawT w (vJ J) r), .bool true]))] (o :: l) = .ok (.r (l.length + 1)) (o :: (l ++ [D])) := e1
  generalize (ordN j j).map (fun r => PyData.tuple [encI (lawT w (vJ J) r), .bool true]) = XX at *
  simp only [bind_ok', e1, calm_ok']
  simp [e1, e2]
theorem st6_ok (n : Nat) (ns : List Int) (o : MO) (l : MH) (j : Nat) (w : List (List Int)) (J : List (List Int)) (g : Wd j w) (G : Jd w J) (x2 x4 x5 x7 x8 x9 x10 x12 x13 x14 x15 : Option Vl) : evS (GG (n+9)) (nth turnB 6) [some (.sc ns), some (.r 0), x2, some (.d (wv w)), x4, x5, some (.d (.list ((ET w J j).map encI))), x7, x8, x9, x10, some (.d (wv J)), x12, x13, x14, x15] (o :: l) = .ok (.nx [some (.sc ns), some (.r 0), x2, some (.d (wv w)), x4, x5, some (.d (.list ((ET w J j).map encI))), x7, x8, x9, x10, some (.d (wv J)), x12, x13, x14, x15]) (o :: l) := by
  rw [show nth turnB 6 = (.ite (.orL (.cons (.cmp .ne (.call "all_in_turn" (.cons (.var 3) (.cons (.var 11) .nil))) (.bi .tuple false (.cons (.var 6) .nil))) (.cons (.not (.bi .all false (.cons (.lc false (.cmp .in_ (.var 15) (.var 3)) (.nm 15) (.seq (.var 6)) .nil [15]) .nil))) .nil)))
      (.cons (.ret (.bl false))
      .nil)
      .nil) from rfl]
  obtain ⟨e1, e2, e3, _⟩ := ET_facts (J := J) g
  have ai := all_in_turn_ok (n+2) (o :: l) g G
  have ez : (ET w J j).length ≤ sz := le_sz (by omega)
  have bt : biV .tuple false [.d (.list ((ET w J j).map encI))] (o :: l) = .ok (.d (wv (ET w J j))) (o :: l) := by
    simp [wv, ez]
  have ne := ne_same (wv (ET w J j)) (o :: l) (okN_wv _)
  have ne2 : cmpV .ne (.d (wv (ET w J j))) (.d (.tuple ((ET w J j).map encI))) (o :: l) = some false := ne
  have so := srcOf_l (o :: l) ((ET w J j).map encI) (by rw [List.length_map]; exact ez)
  have ha : ((ET w J j).all fun s => decide (s ∈ w)) = true := List.all_eq_true.mpr fun s hs => decide_eq_true (e3 s hs)
  simp [ai, bt, ne, ne2, so]
  rw [lc_map (o :: l) (fun s => .bool (decide (s ∈ w))) ez (fun s hs => by simp [in_some])]
  simp only [bind_ok', b_all_map, calm_ok', trB_bool, ha]
  simp
theorem st7_ok (n : Nat) (ns : List Int) (o : MO) (l : MH) (j : Nat) (w : List (List Int)) (J : List (List Int)) (g : Wd j w) (G : Jd w J) (x2 x3 x4 x5 x7 x8 x9 x11 x12 x13 x14 x15 : Option Vl) : ∃ (f : List Int) (tt : List (List Int)), evS (GG (n+9)) (nth turnB 7) [some (.sc ns), some (.r 0), x2, x3, x4, x5, some (.d (.list ((ET w J j).map encI))), x7, x8, x9, some (.d (.int j)), x11, x12, x13, x14, x15] (o :: l) = .ok (.nx [some (.sc ns), some (.r 0), x2, x3, x4, x5, some (.d (.list ((ET w J j).map encI))), some (.d (.list ((sureL (ET w J j) f j).map encP))), x8, x9, some (.d (.int j)), x11, x12, x13, x14, x15]) (o :: l) ∧ ET w J j = f :: tt := by
  obtain ⟨_, _, _, f, tt, hE⟩ := ET_facts (J := J) g
  refine ⟨f, tt, ?_, hE⟩
  rw [show nth turnB 7 = (.set 7 (.lc false (.tup (.cons (.var 14) (.cons (.idx (.idx (.var 6) (.int 0)) (.var 14)) .nil))) (.nm 14) (.rng0 (.var 10)) (.cons (.bi .all false (.cons (.lc false (.cmp .eq (.idx (.var 15) (.var 14)) (.idx (.idx (.var 6) (.int 0)) (.var 14))) (.nm 15) (.seq (.var 6)) .nil [15]) .nil)) .nil) [14])) from rfl]
  obtain ⟨e1, e2, e3, _⟩ := ET_facts (J := J) g
  have h5 := g.j5
  have hfl : f.length = j := (g.rows f (e3 f (by rw [hE]; exact List.mem_cons_self))).1
  have i0 : idxV (.d (.list ((ET w J j).map encI))) (.d (.int 0)) (o :: l) = some (.d (encI f)) := idx_d encI _ (ET w J j) 0 f _ rfl (by decide) (by rw [hE]; rfl)
  have hEw : ∀ s ∈ ET w J j, s.length = j := fun s hs => (g.rows s (e3 s hs)).1
  have so := srcOf_l (o :: l) ((ET w J j).map encI) (by rw [List.length_map]; exact le_sz (by omega))
  have rk := rng_m j (by omega)
  have z2 : 2 ≤ sz := by decide
  simp [rk]
  rw [lc_filter (o :: l) (sureP (ET w J j) f) (fun i => encP (i, gi f i)) (by rw [rlen]; exact le_sz (by omega)) (fun i hi => by
    have hi2 := mem_rangeI.mp hi
    have ixf := idx_gi f i (o :: l) hi2.1 (by omega)
    simp [so]
    rw [lc_map (o :: l) (fun s => .bool (decide (gi s i = gi f i))) (le_sz (by omega)) (fun s hs => by
      have := idx_gi s i (o :: l) hi2.1 (by rw [hEw s hs]; omega)
      simp [this, i0, ixf])]
    simp only [bind_ok', b_all_map, calm_ok', trB_bool]
    rw [show ((ET w J j).all fun s => decide (gi s i = gi f i)) = sureP (ET w J j) f i from rfl]
    cases sureP (ET w J j) f i
    · simp
    · simp [i0, ixf, z2, encP])]
  simp only [bind_ok']
  rw [show (((rangeI 0 (j : Int)).filter (sureP (ET w J j) f)).map fun i => encP (i, gi f i)) = (sureL (ET w J j) f j).map encP by unfold sureL; rw [List.map_map]; rfl]
  all_goals rfl
theorem st8_ok (n : Nat) (ns : List Int) (o : MO) (l : MH) (j : Nat) (w : List (List Int)) (J : List (List Int)) (g : Wd j w) (G : Jd w J) (f : List Int) (tt : List (List Int)) (hE : ET w J j = f :: tt) (x2 x4 x5 x6 x8 x9 x10 x12 x13 x14 x15 : Option Vl) : evS (GG (n+9)) (nth turnB 8) [some (.sc ns), some (.r 0), x2, some (.d (wv w)), x4, x5, x6, some (.d (.list ((sureL (ET w J j) f j).map encP))), x8, x9, x10, some (.d (wv J)), x12, x13, x14, x15] (o :: l) = .ok (.nx [some (.sc ns), some (.r 0), x2, some (.d (wv w)), x4, x5, x6, some (.d (.list ((sureL (ET w J j) f j).map encP))), x8, x9, x10, some (.d (wv J)), x12, x13, x14, x15]) (o :: l) := by
  rw [show nth turnB 8 = (.ite (.cmp .ne (.call "sure_issues" (.cons (.var 3) (.cons (.var 11) .nil))) (.bi .tuple false (.cons (.var 7) .nil)))
      (.cons (.ret (.bl false))
      .nil)
      .nil) from rfl]
  have so := sure_ok (n+2) (o :: l) g G hE
  have bt : biV .tuple false [.d (.list ((sureL (ET w J j) f j).map encP))] (o :: l) = .ok (.d (.tuple ((sureL (ET w J j) f j).map encP))) (o :: l) := by
    have h5 := g.j5
    have : (sureL (ET w J j) f j).length ≤ sz := by
      unfold sureL
      rw [List.length_map]
      exact Nat.le_trans (List.length_filter_le ..) (by rw [rlen]; exact le_sz (by omega))
    simp [this]
  have ne := ne_same (.tuple ((sureL (ET w J j) f j).map encP)) (o :: l) (okN_sure _ _)
  generalize (sureL (ET w J j) f j).map encP = X at *
  simp [so, bt, ne]
theorem st9_ok (n : Nat) (ns : List Int) (o : MO) (l : MH) (j : Nat) (w : List (List Int)) (J : List (List Int)) (g : Wd j w) (G : Jd w J) (x2 x4 x5 x7 x8 x9 x10 x12 x13 x14 x15 : Option Vl) : evS (GG (n+9)) (nth turnB 9) [some (.sc ns), some (.r 0), x2, some (.d (wv w)), x4, x5, some (.d (.list ((ET w J j).map encI))), x7, x8, x9, x10, some (.d (wv J)), x12, x13, x14, x15] (o :: l) = .ok (.nx [some (.sc ns), some (.r 0), x2, some (.d (wv w)), x4, x5, some (.d (.list ((ET w J j).map encI))), x7, x8, x9, x10, some (.d (wv J)), x12, x13, x14, x15]) (o :: l) := by
  rw [show nth turnB 9 = (.ite (.andL (.cons (.cmp .in_ (.call "_law_majority" (.cons (.var 11) .nil)) (.var 3)) (.cons (.cmp .ne (.var 6) (.lst false (.cons (.call "_law_majority" (.cons (.var 11) .nil)) .nil))) .nil)))
      (.cons (.ret (.bl false))
      .nil)
      .nil) from rfl]
  have lm : R (n+9) "_law_majority" [.d (wv J)] (o :: l) = .ok (.d (encO (majO J j))) (o :: l) := lmajority_ok (n+8) (o :: l) g G
  have z1 : 1 ≤ sz := by decide
  unfold majO at lm
  cases hT : tieB J j with
  | true =>
    rw [hT, if_pos rfl] at lm
    have i0 := in_none w (o :: l)
    simp [lm, encO, i0]
  | false =>
    rw [hT, if_neg (by decide)] at lm
    have i1 := in_some w (majL J j) (o :: l)
    by_cases hM : majL J j ∈ w
    · have hE := ET_maj g hM
      have ne := ne_same (.list [encI (majL J j)]) (o :: l) (by
        show (okN 39 (encI (majL J j)) && true) = true
        rw [okN_encI]; rfl)
      rw [hE]
      simp only [encO] at lm
      simp only [List.map_cons, List.map_nil]
      generalize encI (majL J j) = X at *
      simp [lm, encO, i1, hM, ne, z1]
    · simp [lm, encO, i1, hM]
theorem st10_ok (n : Nat) (ns : List Int) (o : MO) (l : MH) (j : Nat) (w : List (List Int)) (g : Wd j w) (hh : HandO o) (x2 x4 x5 x6 x7 x8 x9 x10 x11 x12 x13 x14 x15 : Option Vl) : ∃ (d : PyData) (f2 : PyData) (o' : MO), evS (GG (n+9)) (nth turnB 10) [some (.sc ns), some (.r 0), x2, some (.d (wv w)), x4, x5, x6, x7, x8, x9, x10, x11, x12, x13, x14, x15] (o :: l) = .ok (.nx [some (.sc ns), some (.r 0), x2, some (.d (wv w)), x4, x5, x6, x7, x8, x9, x10, x11, some (.d (d)), some (.d (f2)), x14, x15]) (o' :: l) ∧ sm 2 d = true ∧ worldB d = false ∧ sm 2 f2 = true ∧ jokB j f2 = false ∧ HandO o' := by
  obtain ⟨d, o1, e1, hh1, sd, bd⟩ := no_world_draw (n+6) (l := l) hh
  obtain ⟨f2, o2, e2, hh2, sf, bf⟩ := no_judges_draw (n+6) (l := l) g hh1
  have z2 : 2 ≤ sz := by decide
  refine ⟨d, f2, o2, ?_, sd, bd, sf, bf, hh2⟩
  rw [show nth turnB 10 = (.asg (.tp [12, 13]) (.tup (.cons (.call "_law_no_world" (.cons (.var 1) .nil)) (.cons (.call "_law_no_judges" (.cons (.var 1) (.cons (.var 3) .nil))) .nil)))) from rfl]
  simp [e1, e2, z2, putT]
theorem st11_ok (n : Nat) (ns : List Int) (o : MO) (l : MH) (j : Nat) (w : List (List Int)) (g : Wd j w) (r : List Int) (hr : Rw j j r) (hh : HandO o) (x2 x3 x4 x6 x7 x8 x9 x11 x12 x13 x14 x15 : Option Vl) : ∃ (la : PyData) (o' : MO), evS (GG (n+9)) (nth turnB 11) [some (.sc ns), some (.r 0), x2, x3, x4, some (.d (encI r)), x6, x7, x8, x9, some (.d (.int j)), x11, x12, x13, x14, x15] (o :: l) = .ok (.nx [some (.sc ns), some (.r 0), x2, x3, x4, some (.d (encI r)), x6, x7, some (.d (la)), x9, some (.d (.int j)), x11, x12, x13, x14, x15]) (o' :: l) ∧ (∀ n h, R (n+3) "are_all" [.d la, .d (.int j)] h = .ok (.d (.bool false)) h) ∧ HandO o' := by
  have h1 := g.j1
  have h5 := g.j5
  obtain ⟨la, o1, hd, e1, hh1⟩ := any_R (n := n+7) (l := l) (xs := offO j r) hh (by simp [offO]) (show 6 ≤ sz by decide)
  refine ⟨la, o1, ?_, offO_ok h1 h5 hr la hd, hh1⟩
  have bl : biV .list false [.d (encI r)] (o :: l) = .ok (.d (.list (r.map .int))) (o :: l) := b_list_t _ _
  have ad : binV .add false (.d (encI r)) (.d (.tuple [.int 0])) (o :: l) = .ok (.d (encI (r ++ [0]))) (o :: l) := by
    have : r.length + 1 ≤ sz := le_sz (by rw [hr.1]; omega)
    simp [encI, this]
  have mr : binV .mul false (.d (.tuple [.int j])) (.d (.int j)) (o :: l) = .ok (.d (encI (List.replicate j (j : Int)))) (o :: l) := by
    have := mul_rep (.int j) j (o :: l) h1 (by omega)
    rw [show encI (List.replicate j (j : Int)) = .tuple (List.replicate j (.int j)) by simp [encI]]
    exact this
  have ml : mkl false ((offO j r).map .d) (o :: l) = .ok (.d (.list (offO j r))) (o :: l) := mkl_d _ _
  simp only [offO, List.map_cons, List.map_nil] at ml e1
  rw [show nth turnB 11 = (.set 8 (.call "_law_any" (.cons (.var 1) (.cons (.lst false (.cons .non (.cons (.tup .nil) (.cons (.bi .list false (.cons (.var 5) .nil)) (.cons (.bin .add false (.var 5) (.tup (.cons (.int 0) .nil))) (.cons (.bin .mul false (.tup (.cons (.var 10) .nil)) (.var 10)) (.cons (.int 0) .nil))))))) .nil)))) from rfl]
  have z1 : 1 ≤ sz := by decide
  have z6 : 6 ≤ sz := by decide
  simp [z1, bl, ad, mr, ml, z6, e1]
theorem st12_ok (n : Nat) (ns : List Int) (o : MO) (l : MH) (j : Nat) (w : List (List Int)) (J : List (List Int)) (g : Wd j w) (G : Jd w J) (d : PyData) (f2 : PyData) (sd : sm 2 d = true) (bd : worldB d = false) (sf : sm 2 f2 = true) (bf : jokB j f2 = false) (la : PyData) (hla : (∀ n h, R (n+3) "are_all" [.d la, .d (.int j)] h = .ok (.d (.bool false)) h)) (x2 x4 x5 x6 x7 x9 x10 x14 x15 : Option Vl) : evS (GG (n+9)) (nth turnB 12) [some (.sc ns), some (.r 0), x2, some (.d (wv w)), x4, x5, x6, x7, some (.d (la)), x9, x10, some (.d (wv J)), some (.d (d)), some (.d (f2)), x14, x15] (o :: l) = .ok (.nx [some (.sc ns), some (.r 0), x2, some (.d (wv w)), x4, x5, x6, x7, some (.d (la)), some (.r (l.length + 1)), x10, some (.d (wv J)), some (.d (d)), some (.d (f2)), x14, x15]) (o :: (l ++ [.lst (dmap [.str "world"])])) := by
  rw [show nth turnB 12 = (.set 9 (.lst true (.cons (.word "_law_word" "in_turn" (.cons (.var 12) (.cons (.var 13) (.cons (.var 8) .nil)))) .nil))) from rfl]
  have ew := w_world (o :: l) (l.length + 1) rfl
  have nw := in_turn_w n (o :: l) d f2 la sd bd
  have z1 : 1 ≤ sz := by decide
  have mk : mkl true [.d (.str "world")] (o :: l) = .ok (.r (l.length + 1)) (o :: (l ++ [.lst (dmap [.str "world"])])) := dl_mk (o :: l) [.str "world"]
  simp [nw, ew, mk, z1]
theorem st13_ok (n : Nat) (ns : List Int) (o : MO) (l : MH) (j : Nat) (w : List (List Int)) (J : List (List Int)) (g : Wd j w) (G : Jd w J) (d : PyData) (f2 : PyData) (sd : sm 2 d = true) (bd : worldB d = false) (sf : sm 2 f2 = true) (bf : jokB j f2 = false) (la : PyData) (hla : (∀ n h, R (n+3) "are_all" [.d la, .d (.int j)] h = .ok (.d (.bool false)) h)) (x2 x4 x5 x6 x7 x10 x14 x15 : Option Vl) : evS (GG (n+9)) (nth turnB 13) [some (.sc ns), some (.r 0), x2, some (.d (wv w)), x4, x5, x6, x7, some (.d (la)), some (.r (l.length + 1)), x10, some (.d (wv J)), some (.d (d)), some (.d (f2)), x14, x15] (o :: (l ++ [.lst (dmap [.str "world"])])) = .ok (.nx [some (.sc ns), some (.r 0), x2, some (.d (wv w)), x4, x5, x6, x7, some (.d (la)), some (.r (l.length + 1)), x10, some (.d (wv J)), some (.d (d)), some (.d (f2)), x14, x15]) (o :: (l ++ [.lst (dmap [.str "world", .str "judges"])])) := by
  rw [show nth turnB 13 = (.exp (.met .append (.var 9) (.cons (.word "_law_word" "in_turn" (.cons (.var 3) (.cons (.var 13) (.cons (.var 8) .nil)))) .nil))) from rfl]
  have ew := w_judges (o :: (l ++ [.lst (dmap [.str "world"])])) (l.length + 1 + 1) (by simp)
  have nw := in_turn_j n (o :: (l ++ [.lst (dmap [.str "world"])])) g f2 la sf bf
  have ap : metV .append (.r (l.length + 1)) [.d (.str "judges")] (o :: (l ++ [.lst (dmap [.str "world"])])) = .ok (.d .none) (o :: (l ++ [.lst (dmap [.str "world", .str "judges"])])) := dl_app (o :: l) [.str "world"] (.str "judges") (by decide)
  have it : itemsL (.r (l.length + 1)) (o :: (l ++ [.lst (dmap [.str "world"])])) = some (dmap [.str "world"]) := dl_it (o :: l) [.str "world"]
  simp [nw, ew, ap, it]
theorem st14_ok (n : Nat) (ns : List Int) (o : MO) (l : MH) (j : Nat) (w : List (List Int)) (J : List (List Int)) (g : Wd j w) (G : Jd w J) (d : PyData) (f2 : PyData) (sd : sm 2 d = true) (bd : worldB d = false) (sf : sm 2 f2 = true) (bf : jokB j f2 = false) (la : PyData) (hla : (∀ n h, R (n+3) "are_all" [.d la, .d (.int j)] h = .ok (.d (.bool false)) h)) (x2 x4 x5 x6 x7 x10 x14 x15 : Option Vl) : evS (GG (n+9)) (nth turnB 14) [some (.sc ns), some (.r 0), x2, some (.d (wv w)), x4, x5, x6, x7, some (.d (la)), some (.r (l.length + 1)), x10, some (.d (wv J)), some (.d (d)), some (.d (f2)), x14, x15] (o :: (l ++ [.lst (dmap [.str "world", .str "judges"])])) = .ok (.nx [some (.sc ns), some (.r 0), x2, some (.d (wv w)), x4, x5, x6, x7, some (.d (la)), some (.r (l.length + 1)), x10, some (.d (wv J)), some (.d (d)), some (.d (f2)), x14, x15]) (o :: (l ++ [.lst (dmap [.str "world", .str "judges", .str "order"])])) := by
  rw [show nth turnB 14 = (.exp (.met .append (.var 9) (.cons (.word "_law_word" "in_turn" (.cons (.var 3) (.cons (.var 11) (.cons (.var 8) .nil)))) .nil))) from rfl]
  have ew := w_order (o :: (l ++ [.lst (dmap [.str "world", .str "judges"])])) (l.length + 1 + 1) (by simp)
  have nw := in_turn_o n (o :: (l ++ [.lst (dmap [.str "world", .str "judges"])])) g G la hla
  have ap : metV .append (.r (l.length + 1)) [.d (.str "order")] (o :: (l ++ [.lst (dmap [.str "world", .str "judges"])])) = .ok (.d .none) (o :: (l ++ [.lst (dmap [.str "world", .str "judges", .str "order"])])) := dl_app (o :: l) [.str "world", .str "judges"] (.str "order") (by decide)
  have it : itemsL (.r (l.length + 1)) (o :: (l ++ [.lst (dmap [.str "world", .str "judges"])])) = some (dmap [.str "world", .str "judges"]) := dl_it (o :: l) [.str "world", .str "judges"]
  simp [nw, ew, ap, it]
theorem st15_ok (n : Nat) (ns : List Int) (o : MO) (l : MH) (j : Nat) (w : List (List Int)) (J : List (List Int)) (g : Wd j w) (G : Jd w J) (d : PyData) (f2 : PyData) (sd : sm 2 d = true) (bd : worldB d = false) (sf : sm 2 f2 = true) (bf : jokB j f2 = false) (la : PyData) (hla : (∀ n h, R (n+3) "are_all" [.d la, .d (.int j)] h = .ok (.d (.bool false)) h)) (x2 x4 x5 x6 x7 x10 x14 x15 : Option Vl) : evS (GG (n+9)) (nth turnB 15) [some (.sc ns), some (.r 0), x2, some (.d (wv w)), x4, x5, x6, x7, some (.d (la)), some (.r (l.length + 1)), x10, some (.d (wv J)), some (.d (d)), some (.d (f2)), x14, x15] (o :: (l ++ [.lst (dmap [.str "world", .str "judges", .str "order"])])) = .ok (.nx [some (.sc ns), some (.r 0), x2, some (.d (wv w)), x4, x5, x6, x7, some (.d (la)), some (.r (l.length + 1)), x10, some (.d (wv J)), some (.d (d)), some (.d (f2)), x14, x15]) (o :: (l ++ [.lst (dmap [.str "world", .str "judges", .str "order", .str "judges"])])) := by
  rw [show nth turnB 15 = (.exp (.met .append (.var 9) (.cons (.word "_law_word" "all_in_turn" (.cons (.var 3) (.cons (.var 13) .nil))) .nil))) from rfl]
  have ew := w_judges (o :: (l ++ [.lst (dmap [.str "world", .str "judges", .str "order"])])) (l.length + 1 + 1) (by simp)
  have nw := all_in_turn_j n (o :: (l ++ [.lst (dmap [.str "world", .str "judges", .str "order"])])) g f2 sf bf
  have ap : metV .append (.r (l.length + 1)) [.d (.str "judges")] (o :: (l ++ [.lst (dmap [.str "world", .str "judges", .str "order"])])) = .ok (.d .none) (o :: (l ++ [.lst (dmap [.str "world", .str "judges", .str "order", .str "judges"])])) := dl_app (o :: l) [.str "world", .str "judges", .str "order"] (.str "judges") (by decide)
  have it : itemsL (.r (l.length + 1)) (o :: (l ++ [.lst (dmap [.str "world", .str "judges", .str "order"])])) = some (dmap [.str "world", .str "judges", .str "order"]) := dl_it (o :: l) [.str "world", .str "judges", .str "order"]
  simp [nw, ew, ap, it]
theorem st16_ok (n : Nat) (ns : List Int) (o : MO) (l : MH) (j : Nat) (w : List (List Int)) (J : List (List Int)) (g : Wd j w) (G : Jd w J) (d : PyData) (f2 : PyData) (sd : sm 2 d = true) (bd : worldB d = false) (sf : sm 2 f2 = true) (bf : jokB j f2 = false) (la : PyData) (hla : (∀ n h, R (n+3) "are_all" [.d la, .d (.int j)] h = .ok (.d (.bool false)) h)) (x2 x4 x5 x6 x7 x10 x14 x15 : Option Vl) : evS (GG (n+9)) (nth turnB 16) [some (.sc ns), some (.r 0), x2, some (.d (wv w)), x4, x5, x6, x7, some (.d (la)), some (.r (l.length + 1)), x10, some (.d (wv J)), some (.d (d)), some (.d (f2)), x14, x15] (o :: (l ++ [.lst (dmap [.str "world", .str "judges", .str "order", .str "judges"])])) = .ok (.nx [some (.sc ns), some (.r 0), x2, some (.d (wv w)), x4, x5, x6, x7, some (.d (la)), some (.r (l.length + 1)), x10, some (.d (wv J)), some (.d (d)), some (.d (f2)), x14, x15]) (o :: (l ++ [.lst (dmap [.str "world", .str "judges", .str "order", .str "judges", .str "world"])])) := by
  rw [show nth turnB 16 = (.exp (.met .append (.var 9) (.cons (.word "_law_word" "sure_issues" (.cons (.var 12) (.cons (.var 13) .nil))) .nil))) from rfl]
  have ew := w_world (o :: (l ++ [.lst (dmap [.str "world", .str "judges", .str "order", .str "judges"])])) (l.length + 1 + 1) (by simp)
  have nw := sure_w n (o :: (l ++ [.lst (dmap [.str "world", .str "judges", .str "order", .str "judges"])])) d f2 sd bd
  have ap : metV .append (.r (l.length + 1)) [.d (.str "world")] (o :: (l ++ [.lst (dmap [.str "world", .str "judges", .str "order", .str "judges"])])) = .ok (.d .none) (o :: (l ++ [.lst (dmap [.str "world", .str "judges", .str "order", .str "judges", .str "world"])])) := dl_app (o :: l) [.str "world", .str "judges", .str "order", .str "judges"] (.str "world") (by decide)
  have it : itemsL (.r (l.length + 1)) (o :: (l ++ [.lst (dmap [.str "world", .str "judges", .str "order", .str "judges"])])) = some (dmap [.str "world", .str "judges", .str "order", .str "judges"]) := dl_it (o :: l) [.str "world", .str "judges", .str "order", .str "judges"]
  simp [nw, ew, ap, it]
theorem st17_ok (n : Nat) (ns : List Int) (o : MO) (l : MH)  (x2 x3 x4 x5 x6 x7 x8 x10 x11 x12 x13 x14 x15 : Option Vl) : evS (GG (n+9)) (nth turnB 17) [some (.sc ns), some (.r 0), x2, x3, x4, x5, x6, x7, x8, some (.r (l.length + 1)), x10, x11, x12, x13, x14, x15] (o :: (l ++ [.lst (dmap [.str "world", .str "judges", .str "order", .str "judges", .str "world"])])) = .ok (.nx [some (.sc ns), some (.r 0), x2, x3, x4, x5, x6, x7, x8, some (.r (l.length + 1)), x10, x11, x12, x13, x14, x15]) (o :: (l ++ [.lst (dmap [.str "world", .str "judges", .str "order", .str "judges", .str "world"])])) := by
  rw [show nth turnB 17 = (.ite (.cmp .ne (.var 9) (.lst false (.cons (.str "world") (.cons (.str "judges") (.cons (.str "order") (.cons (.str "judges") (.cons (.str "world") .nil)))))))
      (.cons (.ret (.bl false))
      .nil)
      .nil) from rfl]
  have cc : cont (.r (l.length + 1)) (o :: (l ++ [.lst (dmap [.str "world", .str "judges", .str "order", .str "judges", .str "world"])])) = some (.list [.str "world", .str "judges", .str "order", .str "judges", .str "world"]) := dl_cont (o :: l) [.str "world", .str "judges", .str "order", .str "judges", .str "world"]
  have c : cmpV .ne (.r (l.length + 1)) (.d (.list [.str "world", .str "judges", .str "order", .str "judges", .str "world"])) (o :: (l ++ [.lst (dmap [.str "world", .str "judges", .str "order", .str "judges", .str "world"])])) = some false := by
    show (match cont (.r (l.length + 1)) (o :: (l ++ [.lst (dmap [.str "world", .str "judges", .str "order", .str "judges", .str "world"])])), cont (.d (.list [.str "world", .str "judges", .str "order", .str "judges", .str "world"])) (o :: (l ++ [.lst (dmap [.str "world", .str "judges", .str "order", .str "judges", .str "world"])])) with
      | some a, some b => cmpD .ne a b
      | _, _ => none) = _
    rw [cc]
    rfl
  have z5 : 5 ≤ sz := by decide
  have ml : ∀ h : MH, mkl false [.d (.str "world"), .d (.str "judges"), .d (.str "order"), .d (.str "judges"), .d (.str "world")] h = .ok (.d (.list [.str "world", .str "judges", .str "order", .str "judges", .str "world"])) h := fun h => rfl
  simp [ml, c, z5]
theorem turn_ok (n : Nat) (ns : List Int) (x2 x3 x4 x5 x6 x7 x8 x9 x10 x11 x12 x13 x14 x15 : Option Vl) (o : MO) (l : MH) (hh : HandO o) :
    ∃ ys o' l', evSs (GG (n+9)) turnB [some (.sc ns), some (.r 0), x2, x3, x4, x5, x6, x7, x8, x9, x10, x11, x12, x13, x14, x15] (o :: l) = .ok (.nx (some (.sc ns) :: some (.r 0) :: ys)) (o' :: l') ∧ ys.length = 14 ∧ HandO o' := by
  obtain ⟨j, w, o0, s0, g, hh⟩ := st0_ok n ns o l hh x2 x3 x4 x5 x6 x7 x8 x9 x10 x11 x12 x13 x14 x15
  obtain ⟨J, o1, s1, G, hh⟩ := st1_ok n ns o0 l j w g hh x2 x4 x5 x6 x7 x8 x9 x10 x11 x12 x13 x14 x15
  have s2 := st2_ok n ns o1 l j w g x2 (some (.d (wv w))) x4 x5 x6 x7 x8 x9 (some (.d (wv J))) x12 x13 x14 x15
  obtain ⟨r, o3, s3, hr, hh⟩ := st3_ok n ns o1 l j w g hh x2 (some (.d (wv w))) x5 x6 x7 x8 x9 (some (.d (.int j))) (some (.d (wv J))) x12 x13 x14 x15
  have s4 := st4_ok n ns o3 l j w J g G r hr x2 (some (.d (.list ((ordN j j).map encI)))) x6 x7 x8 x9 (some (.d (.int j))) x12 x13 x14 x15
  obtain ⟨D, s5⟩ := st5_ok n ns o3 l j w J g G x2 (some (.d (encI r))) x6 x7 x8 x9 (some (.d (.int j))) x12 x13 x14 x15
  generalize ((l ++ [D])) = l5 at s5
  have s6 := st6_ok n ns o3 l5 j w J g G x2 (some (.d (.list ((ordN j j).map encI)))) (some (.d (encI r))) x7 x8 x9 (some (.d (.int j))) x12 x13 x14 x15
  obtain ⟨f, tt, s7, hE⟩ := st7_ok n ns o3 l5 j w J g G x2 (some (.d (wv w))) (some (.d (.list ((ordN j j).map encI)))) (some (.d (encI r))) x7 x8 x9 (some (.d (wv J))) x12 x13 x14 x15
  have s8 := st8_ok n ns o3 l5 j w J g G f tt hE x2 (some (.d (.list ((ordN j j).map encI)))) (some (.d (encI r))) (some (.d (.list ((ET w J j).map encI)))) x8 x9 (some (.d (.int j))) x12 x13 x14 x15
  have s9 := st9_ok n ns o3 l5 j w J g G x2 (some (.d (.list ((ordN j j).map encI)))) (some (.d (encI r))) (some (.d (.list ((sureL (ET w J j) f j).map encP)))) x8 x9 (some (.d (.int j))) x12 x13 x14 x15
  obtain ⟨d, f2, o10, s10, sd, bd, sf, bf, hh⟩ := st10_ok n ns o3 l5 j w g hh x2 (some (.d (.list ((ordN j j).map encI)))) (some (.d (encI r))) (some (.d (.list ((ET w J j).map encI)))) (some (.d (.list ((sureL (ET w J j) f j).map encP)))) x8 x9 (some (.d (.int j))) (some (.d (wv J))) x12 x13 x14 x15
  obtain ⟨la, o11, s11, hla, hh⟩ := st11_ok n ns o10 l5 j w g r hr hh x2 (some (.d (wv w))) (some (.d (.list ((ordN j j).map encI)))) (some (.d (.list ((ET w J j).map encI)))) (some (.d (.list ((sureL (ET w J j) f j).map encP)))) x8 x9 (some (.d (wv J))) (some (.d (d))) (some (.d (f2))) x14 x15
  have s12 := st12_ok n ns o11 l5 j w J g G d f2 sd bd sf bf la hla x2 (some (.d (.list ((ordN j j).map encI)))) (some (.d (encI r))) (some (.d (.list ((ET w J j).map encI)))) (some (.d (.list ((sureL (ET w J j) f j).map encP)))) x9 (some (.d (.int j))) x14 x15
  have s13 := st13_ok n ns o11 l5 j w J g G d f2 sd bd sf bf la hla x2 (some (.d (.list ((ordN j j).map encI)))) (some (.d (encI r))) (some (.d (.list ((ET w J j).map encI)))) (some (.d (.list ((sureL (ET w J j) f j).map encP)))) (some (.d (.int j))) x14 x15
  have s14 := st14_ok n ns o11 l5 j w J g G d f2 sd bd sf bf la hla x2 (some (.d (.list ((ordN j j).map encI)))) (some (.d (encI r))) (some (.d (.list ((ET w J j).map encI)))) (some (.d (.list ((sureL (ET w J j) f j).map encP)))) (some (.d (.int j))) x14 x15
  have s15 := st15_ok n ns o11 l5 j w J g G d f2 sd bd sf bf la hla x2 (some (.d (.list ((ordN j j).map encI)))) (some (.d (encI r))) (some (.d (.list ((ET w J j).map encI)))) (some (.d (.list ((sureL (ET w J j) f j).map encP)))) (some (.d (.int j))) x14 x15
  have s16 := st16_ok n ns o11 l5 j w J g G d f2 sd bd sf bf la hla x2 (some (.d (.list ((ordN j j).map encI)))) (some (.d (encI r))) (some (.d (.list ((ET w J j).map encI)))) (some (.d (.list ((sureL (ET w J j) f j).map encP)))) (some (.d (.int j))) x14 x15
  have s17 := st17_ok n ns o11 l5  x2 (some (.d (wv w))) (some (.d (.list ((ordN j j).map encI)))) (some (.d (encI r))) (some (.d (.list ((ET w J j).map encI)))) (some (.d (.list ((sureL (ET w J j) f j).map encP)))) (some (.d (la))) (some (.d (.int j))) (some (.d (wv J))) (some (.d (d))) (some (.d (f2))) x14 x15
  rw [turnB_split]
  simp only [evSs_cons, bind_ok']
  rw [s0]; simp only [bind_ok']
  rw [s1]; simp only [bind_ok']
  rw [s2]; simp only [bind_ok']
  rw [s3]; simp only [bind_ok']
  rw [s4]; simp only [bind_ok']
  rw [s5]; simp only [bind_ok']
  rw [s6]; simp only [bind_ok']
  rw [s7]; simp only [bind_ok']
  rw [s8]; simp only [bind_ok']
  rw [s9]; simp only [bind_ok']
  rw [s10]; simp only [bind_ok']
  rw [s11]; simp only [bind_ok']
  rw [s12]; simp only [bind_ok']
  rw [s13]; simp only [bind_ok']
  rw [s14]; simp only [bind_ok']
  rw [s15]; simp only [bind_ok']
  rw [s16]; simp only [bind_ok']
  rw [s17]; simp only [bind_ok']
  simp only [evSs_nil]
  exact ⟨[x2, (some (.d (wv w))), (some (.d (.list ((ordN j j).map encI)))), (some (.d (encI r))), (some (.d (.list ((ET w J j).map encI)))), (some (.d (.list ((sureL (ET w J j) f j).map encP)))), (some (.d (la))), (some (.r (l5.length + 1))), (some (.d (.int j))), (some (.d (wv J))), (some (.d (d))), (some (.d (f2))), x14, x15], o11, (l5 ++ [.lst (dmap [.str "world", .str "judges", .str "order", .str "judges", .str "world"])]), rfl, rfl, hh⟩
def depth : Nat := 40
theorem listN {α : Type} : ∀ l : List α, l.length = 14 → ∃ x2 x3 x4 x5 x6 x7 x8 x9 x10 x11 x12 x13 x14 x15 : α, l = [x2, x3, x4, x5, x6, x7, x8, x9, x10, x11, x12, x13, x14, x15]
  | [x2, x3, x4, x5, x6, x7, x8, x9, x10, x11, x12, x13, x14, x15], _ => ⟨x2, x3, x4, x5, x6, x7, x8, x9, x10, x11, x12, x13, x14, x15, rfl⟩
theorem main : ∀ ns : List Int, ns.length ≤ 63 → ∃ h', Ev.run (Ev.tabT tb) gc fuel depth "law" [.sc ns] [] = .ok (.d (.bool true)) h' := by
  intro ns hn
  obtain ⟨o, e1, hh⟩ := hand_cC (T := tabT tb) (gc := gc) (F := fuel) rfl (n := 38) hn
  have e1 : R 39 "_law_hand" [.sc ns] [] = .ok (.r 0) [o] := e1
  have hrng : rngOk 0 3 = true := by decide
  obtain ⟨σ2, h2, ef, ys, o2, l2, rfl, rfl, hy, hh2⟩ := forL_fold (t := .nm 2) (b := evSs (GG 39) turnB) (e := .int) (xs := rangeI 0 3) (σ := some (.sc ns) :: some (.r 0) :: List.replicate 14 none) (h := [o])
    (fun pre σ hh => ∃ ys o' l', σ = some (.sc ns) :: some (.r 0) :: ys ∧ hh = o' :: l' ∧ ys.length = 14 ∧ HandO o')
    ⟨_, _, _, rfl, rfl, rfl, hh⟩ (by
      rintro pre x post σ hh hx ⟨ys, o', l', rfl, rfl, hy, hh2⟩
      obtain ⟨x2, x3, x4, x5, x6, x7, x8, x9, x10, x11, x12, x13, x14, x15, rfl⟩ := listN ys hy
      obtain ⟨ys', o3, l3, e, hy', hh3⟩ := turn_ok 30 ns (some (.d (.int x))) x3 x4 x5 x6 x7 x8 x9 x10 x11 x12 x13 x14 x15 o' l' hh2
      exact ⟨_, rfl, _, _, .inl e, ys', o3, l3, rfl, rfl, hy', hh3⟩)
  refine ⟨(o2 :: l2).take 0, ?_⟩
  show R 40 "law" [.sc ns] [] = _
  rw [R_go (fn := flaw) rfl rfl]
  have ev1 : evS (GG 39) (.set 1 (.call "_law_hand" (.cons (.var 0) .nil))) (some (.sc ns) :: List.replicate 15 none) [] = .ok (.nx (some (.sc ns) :: some (.r 0) :: List.replicate 14 none)) [o] := by simp [e1, List.replicate_succ]
  have ev2 : evS (GG 39) (.for_ (.nm 2) (.rng0 (.int 3)) turnB) (some (.sc ns) :: some (.r 0) :: List.replicate 14 none) [o] = .ok (.nx (some (.sc ns) :: some (.r 0) :: ys)) (o2 :: l2) := by
    simp only [evS_for, evI_rng0, ev_int, bind_ok', srcRng0_i 3 hrng, ofOpt_s, forF_l]
    exact ef
  show leave 0 (evSs (GG 39) (.cons (.set 1 (.call "_law_hand" (.cons (.var 0) .nil))) (.cons (.for_ (.nm 2) (.rng0 (.int 3)) turnB) (.cons (.ret (.bl true)) .nil))) (some (.sc ns) :: List.replicate 15 none) []) = _
  rw [evSs_cons, ev1]
  simp only [bind_ok']
  rw [evSs_cons, ev2]
  simp
end EvLaw

open PySem PySem.W PyProof.Rows
set_option maxRecDepth 100000 in
set_option maxHeartbeats 0 in
theorem PySem.Challenge.cw_votehouse_k48_whole_issues_in_turn_holds : PySem.Challenge.rw_votehouse_k48_whole_issues_in_turn.Holds := by
  w_on; o_law; k_head; (case hw => w_witness2)
  k_fill
  refine' Ev.walk_ev (l := PySem.Challenge.rw_votehouse_k48_whole_issues_in_turn) (n := 63) (k := EvLaw.depth) (F := EvLaw.fuel) (tb := EvLaw.tb) (gcB := EvLaw.gcB) (gc := EvLaw.gc) (es := EvLaw.es) (r := EvLaw.rflaw) (x := "script") (.inr ⟨"law", rfl, by decide +kernel, fun w => ⟨_, _, Ev.tabIn_mk ?MA ?ML ?MH ?MC ?MV, ?MN⟩⟩) rfl (by decide) rfl ⟨rfl, by decide, by decide⟩ (fun w h Y => PySem.W.km_in_of Y) EvLaw.tb_ok EvLaw.tb_T EvLaw.tb_law rfl rfl rfl ?F (fun _ _ _ _ _ _ _ => rfl) EvLaw.main
  (case MA => k_is)
  (case ML => k_is)
  (case MH => rfl)
  (case MC => k_is)
  (case MV => rfl)
  (case MN => kernel_rfl)
  case F =>
    intro w mg fa h KX G hmg
    clear hmg
    refine' ⟨Ev.all_cons (Ev.defF_mk (x := "is_integer") (st := EvLaw.top 1) (N := ["thing"]) (ps := ["thing"]) (fn := EvLaw.fis_integer) KX G ?a0 ?l0 ?c0 ?k0 (fun _ _ _ _ _ _ us hl => match us, hl with | [_], _ => rfl)) (Ev.all_cons (Ev.defF_mk (x := "is_within") (st := EvLaw.top 2) (N := ["thing", "low", "high"]) (ps := ["thing", "low", "high"]) (fn := EvLaw.fis_within) KX G ?a1 ?l1 ?c1 ?k1 (fun _ _ _ _ _ _ us hl => match us, hl with | [_, _, _], _ => rfl)) (Ev.all_cons (Ev.defF_mk (x := "is_sized") (st := EvLaw.top 3) (N := ["thing", "low", "high"]) (ps := ["thing", "low", "high"]) (fn := EvLaw.fis_sized) KX G ?a2 ?l2 ?c2 ?k2 (fun _ _ _ _ _ _ us hl => match us, hl with | [_, _, _], _ => rfl)) (Ev.all_cons (Ev.defF_mk (x := "are_all") (st := EvLaw.top 4) (N := ["thing", "many", "one"]) (ps := ["thing", "many"]) (fn := EvLaw.fare_all) KX G ?a3 ?l3 ?c3 ?k3 (fun _ _ _ _ _ _ us hl => match us, hl with | [_, _], _ => rfl)) (Ev.all_cons (Ev.defF_mk (x := "all_rows") (st := EvLaw.top 5) (N := ["some", "found", "turn", "longer", "row", "one"]) (ps := ["some"]) (fn := EvLaw.fall_rows) KX G ?a4 ?l4 ?c4 ?k4 (fun _ _ _ _ _ _ us hl => match us, hl with | [_], _ => rfl)) (Ev.all_cons (Ev.defF_mk (x := "is_saying") (st := EvLaw.top 18) (N := ["thing", "j", "one"]) (ps := ["thing", "j"]) (fn := EvLaw.fis_saying) KX G ?a5 ?l5 ?c5 ?k5 (fun _ _ _ _ _ _ us hl => match us, hl with | [_, _], _ => rfl)) (Ev.all_cons (Ev.defF_mk (x := "is_world") (st := EvLaw.top 19) (N := ["thing", "saying", "one", "other"]) (ps := ["thing"]) (fn := EvLaw.fis_world) KX G ?a6 ?l6 ?c6 ?k6 (fun _ _ _ _ _ _ us hl => match us, hl with | [_], _ => rfl)) (Ev.all_cons (Ev.defF_mk (x := "check_world") (st := EvLaw.top 20) (N := ["thing"]) (ps := ["thing"]) (fn := EvLaw.fcheck_world) KX G ?a7 ?l7 ?c7 ?k7 (fun _ _ _ _ _ _ us hl => match us, hl with | [_], _ => rfl)) (Ev.all_cons (Ev.defF_mk (x := "are_judges") (st := EvLaw.top 21) (N := ["world", "thing", "low", "high", "saying"]) (ps := ["world", "thing", "low", "high"]) (fn := EvLaw.fare_judges) KX G ?a8 ?l8 ?c8 ?k8 (fun _ _ _ _ _ _ us hl => match us, hl with | [_, _, _, _], _ => rfl)) (Ev.all_cons (Ev.defF_mk (x := "check_judges") (st := EvLaw.top 22) (N := ["world", "judges"]) (ps := ["world", "judges"]) (fn := EvLaw.fcheck_judges) KX G ?a9 ?l9 ?c9 ?k9 (fun _ _ _ _ _ _ us hl => match us, hl with | [_, _], _ => rfl)) (Ev.all_cons (Ev.defF_mk (x := "ones_of") (st := EvLaw.top 23) (N := ["judges", "issue", "saying"]) (ps := ["judges"]) (fn := EvLaw.fones_of) KX G ?a10 ?l10 ?c10 ?k10 (fun _ _ _ _ _ _ us hl => match us, hl with | [_], _ => rfl)) (Ev.all_cons (Ev.defF_mk (x := "has_pairs") (st := EvLaw.top 24) (N := ["saying", "pairs", "issue", "value"]) (ps := ["saying", "pairs"]) (fn := EvLaw.fhas_pairs) KX G ?a11 ?l11 ?c11 ?k11 (fun _ _ _ _ _ _ us hl => match us, hl with | [_, _], _ => rfl)) (Ev.all_cons (Ev.defF_mk (x := "can_stand") (st := EvLaw.top 25) (N := ["world", "pairs", "saying"]) (ps := ["world", "pairs"]) (fn := EvLaw.fcan_stand) KX G ?a12 ?l12 ?c12 ?k12 (fun _ _ _ _ _ _ us hl => match us, hl with | [_, _], _ => rfl)) (Ev.all_cons (Ev.defF_mk (x := "raw_turn") (st := EvLaw.top 26) (N := ["world", "judges", "order", "issue", "ones", "settled", "value"]) (ps := ["world", "judges", "order"]) (fn := EvLaw.fraw_turn) KX G ?a13 ?l13 ?c13 ?k13 (fun _ _ _ _ _ _ us hl => match us, hl with | [_, _, _], _ => rfl)) (Ev.all_cons (Ev.defF_mk (x := "in_turn") (st := EvLaw.top 27) (N := ["world", "judges", "order"]) (ps := ["world", "judges", "order"]) (fn := EvLaw.fin_turn) KX G ?a14 ?l14 ?c14 ?k14 (fun _ _ _ _ _ _ us hl => match us, hl with | [_, _, _], _ => rfl)) (Ev.all_cons (Ev.defF_mk (x := "raw_turns") (st := EvLaw.top 28) (N := ["world", "judges", "orders", "order"]) (ps := ["world", "judges"]) (fn := EvLaw.fraw_turns) KX G ?a15 ?l15 ?c15 ?k15 (fun _ _ _ _ _ _ us hl => match us, hl with | [_, _], _ => rfl)) (Ev.all_cons (Ev.defF_mk (x := "all_in_turn") (st := EvLaw.top 29) (N := ["world", "judges"]) (ps := ["world", "judges"]) (fn := EvLaw.fall_in_turn) KX G ?a16 ?l16 ?c16 ?k16 (fun _ _ _ _ _ _ us hl => match us, hl with | [_, _], _ => rfl)) (Ev.all_cons (Ev.defF_mk (x := "sure_issues") (st := EvLaw.top 30) (N := ["world", "judges", "rows", "found", "issue", "value", "row"]) (ps := ["world", "judges"]) (fn := EvLaw.fsure_issues) KX G ?a17 ?l17 ?c17 ?k17 (fun _ _ _ _ _ _ us hl => match us, hl with | [_, _], _ => rfl)) (Ev.all_cons (Ev.defF_mk (x := "_law_hand") (st := EvLaw.top 32) (N := ["script", "cells", "cell"]) (ps := ["script"]) (fn := EvLaw.f_law_hand) KX G ?a18 ?l18 ?c18 ?k18 (fun _ _ _ _ _ _ us hl => match us, hl with | [_], _ => rfl)) (Ev.all_cons (Ev.defF_mk (x := "_law_draw") (st := EvLaw.top 33) (N := ["hand", "many", "number", "cell", "digit"]) (ps := ["hand", "many"]) (fn := EvLaw.f_law_draw) KX G ?a19 ?l19 ?c19 ?k19 (fun _ _ _ _ _ _ us hl => match us, hl with | [_, _], _ => rfl)) (Ev.all_cons (Ev.defF_mk (x := "_law_any") (st := EvLaw.top 34) (N := ["hand", "some"]) (ps := ["hand", "some"]) (fn := EvLaw.f_law_any) KX G ?a20 ?l20 ?c20 ?k20 (fun _ _ _ _ _ _ us hl => match us, hl with | [_, _], _ => rfl)) (Ev.all_cons (Ev.defF_mk (x := "_law_world") (st := EvLaw.top 35) (N := ["hand", "most", "j", "every", "step", "told", "row"]) (ps := ["hand", "most"]) (fn := EvLaw.f_law_world) KX G ?a21 ?l21 ?c21 ?k21 (fun _ _ _ _ _ _ us hl => match us, hl with | [_, _], _ => rfl)) (Ev.all_cons (Ev.defF_mk (x := "_law_judges") (st := EvLaw.top 36) (N := ["hand", "world", "most", "step"]) (ps := ["hand", "world", "most"]) (fn := EvLaw.f_law_judges) KX G ?a22 ?l22 ?c22 ?k22 (fun _ _ _ _ _ _ us hl => match us, hl with | [_, _, _], _ => rfl)) (Ev.all_cons (Ev.defF_mk (x := "_law_majority") (st := EvLaw.top 37) (N := ["judges", "found", "at", "ones", "one"]) (ps := ["judges"]) (fn := EvLaw.f_law_majority) KX G ?a23 ?l23 ?c23 ?k23 (fun _ _ _ _ _ _ us hl => match us, hl with | [_], _ => rfl)) (Ev.all_cons (Ev.defF_mk (x := "_law_no_world") (st := EvLaw.top 38) (N := ["hand", "some"]) (ps := ["hand"]) (fn := EvLaw.f_law_no_world) KX G ?a24 ?l24 ?c24 ?k24 (fun _ _ _ _ _ _ us hl => match us, hl with | [_], _ => rfl)) (Ev.all_cons (Ev.defF_mk (x := "_law_no_judges") (st := EvLaw.top 39) (N := ["hand", "world", "j", "some"]) (ps := ["hand", "world"]) (fn := EvLaw.f_law_no_judges) KX G ?a25 ?l25 ?c25 ?k25 (fun _ _ _ _ _ _ us hl => match us, hl with | [_, _], _ => rfl)) (Ev.all_cons (Ev.defF_mk (x := "_law_word") (st := EvLaw.top 40) (N := ["call", "word", "flags", "names", "e"]) (ps := ["call"]) (fn := EvLaw.f_law_word) KX G ?a26 ?l26 ?c26 ?k26 (fun _ _ _ _ _ _ us hl => match us, hl with | [_], _ => rfl)) (Ev.all_cons (Ev.defF_mk (x := "_law_turn") (st := EvLaw.top 41) (N := ["world", "judges", "order", "left", "issue", "ones", "value", "some", "one"]) (ps := ["world", "judges", "order"]) (fn := EvLaw.f_law_turn) KX G ?a27 ?l27 ?c27 ?k27 (fun _ _ _ _ _ _ us hl => match us, hl with | [_, _, _], _ => rfl)) (Ev.all_cons (Ev.defF_mk (x := "_law_orders") (st := EvLaw.top 42) (N := ["j", "found", "step", "longer", "row", "issue"]) (ps := ["j"]) (fn := EvLaw.f_law_orders) KX G ?a28 ?l28 ?c28 ?k28 (fun _ _ _ _ _ _ us hl => match us, hl with | [_], _ => rfl)) (Ev.all_cons (Ev.defF_mk (x := "law") (st := EvLaw.top 43) (N := ["script", "hand", "turn", "world", "orders", "order", "every", "sure", "last", "words", "j", "judges", "bad", "off", "issue", "one"]) (ps := ["script"]) (fn := EvLaw.flaw) KX G ?a29 ?l29 ?c29 ?k29 (fun _ _ _ _ _ _ us hl => match us, hl with | [_], _ => rfl)) Ev.all_nil))))))))))))))))))))))))))))), Ev.all_cons (PySem.W.mg_none_of (n := "len") KX G ?b0) (Ev.all_cons (PySem.W.mg_none_of (n := "tuple") KX G ?b1) (Ev.all_cons (PySem.W.mg_none_of (n := "list") KX G ?b2) (Ev.all_cons (PySem.W.mg_none_of (n := "int") KX G ?b3) (Ev.all_cons (PySem.W.mg_none_of (n := "abs") KX G ?b4) (Ev.all_cons (PySem.W.mg_none_of (n := "all") KX G ?b5) (Ev.all_cons (PySem.W.mg_none_of (n := "any") KX G ?b6) (Ev.all_cons (PySem.W.mg_none_of (n := "sum") KX G ?b7) (Ev.all_cons (PySem.W.mg_none_of (n := "sorted") KX G ?b8) (Ev.all_cons (PySem.W.mg_none_of (n := "max") KX G ?b9) (Ev.all_cons (PySem.W.mg_none_of (n := "min") KX G ?b10) (Ev.all_cons (PySem.W.mg_none_of (n := "range") KX G ?b11) (Ev.all_cons (PySem.W.mg_none_of (n := "enumerate") KX G ?b12) (Ev.all_cons (PySem.W.mg_none_of (n := "zip") KX G ?b13) (Ev.all_cons (PySem.W.mg_none_of (n := "isinstance") KX G ?b14) (Ev.all_cons (PySem.W.mg_none_of (n := "bool") KX G ?b15) (Ev.all_cons (PySem.W.mg_none_of (n := "str") KX G ?b16) (Ev.all_cons (PySem.W.mg_none_of (n := "dict") KX G ?b17) Ev.all_nil))))))))))))))))), ?G, (Ev.all_cons (Ev.errC_mk (c := "NoJudges") KX G ?ea0 ?ex0 ?ek0 ?eb0 ?et0) (Ev.all_cons (Ev.errC_mk (c := "NoOrder") KX G ?ea1 ?ex1 ?ek1 ?eb1 ?et1) (Ev.all_cons (Ev.errC_mk (c := "NoWorld") KX G ?ea2 ?ex2 ?ek2 ?eb2 ?et2) Ev.all_nil))), (Ev.all_cons (fun w hw => nomatch hw) (Ev.all_cons (fun w hw => nomatch hw) (Ev.all_cons (fun w hw => nomatch hw) (Ev.all_cons (fun w hw => nomatch hw) (Ev.all_cons (fun w hw => nomatch hw) (Ev.all_cons (fun w hw => nomatch hw) (Ev.all_cons (fun w hw => nomatch hw) (Ev.all_cons (fun w hw => nomatch hw) (Ev.all_cons (fun w hw => nomatch hw) (Ev.all_cons (fun w hw => nomatch hw) (Ev.all_cons (fun w hw => nomatch hw) (Ev.all_cons (fun w hw => nomatch hw) (Ev.all_cons (fun w hw => nomatch hw) (Ev.all_cons (fun w hw => nomatch hw) (Ev.all_cons (fun w hw => nomatch hw) (Ev.all_cons (fun w hw => nomatch hw) (Ev.all_cons (fun w hw => nomatch hw) (Ev.all_cons (fun w hw => nomatch hw) (Ev.all_cons (fun w hw => nomatch hw) (Ev.all_cons (fun w hw => nomatch hw) (Ev.all_cons (fun w hw => nomatch hw) (Ev.all_cons (fun w hw => nomatch hw) (Ev.all_cons (fun w hw => nomatch hw) (Ev.all_cons (fun w hw => nomatch hw) (Ev.all_cons (fun w hw => nomatch hw) (Ev.all_cons (fun w hw => nomatch hw) (Ev.all_cons (fun w hw => Ev.some_cls hw ⟨(Ev.all_cons (Ev.cls_mk (c := "TooMany") KX G ?caf_law_word0 ⟨?cpf_law_word0, ?cqf_law_word0, ?crf_law_word0, ?csf_law_word0, ?ctf_law_word0, ?cuf_law_word0, ?cvf_law_word0, ?cwf_law_word0⟩ (Ev.all_cons (Ev.isC_mk (c := "TooMany") (C := "TooMany") (b := true) KX G (by decide) ?naf_law_word0x0 ?nbf_law_word0x0 ?ndf_law_word0x0 ?ntf_law_word0x0 ?nsf_law_word0x0 ?nqf_law_word0x0) (Ev.all_cons (Ev.isC_mk (c := "TooMany") (C := "NoCount") (b := false) KX G (by decide) ?naf_law_word0x1 ?nbf_law_word0x1 ?ndf_law_word0x1 ?ntf_law_word0x1 ?nsf_law_word0x1 ?nqf_law_word0x1) (Ev.all_cons (Ev.isC_mk (c := "TooMany") (C := "NoJudges") (b := false) KX G (by decide) ?naf_law_word0x2 ?nbf_law_word0x2 ?ndf_law_word0x2 ?ntf_law_word0x2 ?nsf_law_word0x2 ?nqf_law_word0x2) (Ev.all_cons (Ev.isC_mk (c := "TooMany") (C := "NoOrder") (b := false) KX G (by decide) ?naf_law_word0x3 ?nbf_law_word0x3 ?ndf_law_word0x3 ?ntf_law_word0x3 ?nsf_law_word0x3 ?nqf_law_word0x3) (Ev.all_cons (Ev.isC_mk (c := "TooMany") (C := "NoQuotas") (b := false) KX G (by decide) ?naf_law_word0x4 ?nbf_law_word0x4 ?ndf_law_word0x4 ?ntf_law_word0x4 ?nsf_law_word0x4 ?nqf_law_word0x4) (Ev.all_cons (Ev.isC_mk (c := "TooMany") (C := "NoSaying") (b := false) KX G (by decide) ?naf_law_word0x5 ?nbf_law_word0x5 ?ndf_law_word0x5 ?ntf_law_word0x5 ?nsf_law_word0x5 ?nqf_law_word0x5) (Ev.all_cons (Ev.isC_mk (c := "TooMany") (C := "NoWorld") (b := false) KX G (by decide) ?naf_law_word0x6 ?nbf_law_word0x6 ?ndf_law_word0x6 ?ntf_law_word0x6 ?nsf_law_word0x6 ?nqf_law_word0x6) Ev.all_nil))))))) (Ev.isC_mk2 (C := "VoteError") KX G ?nvf_law_word0 ?vbf_law_word0 ?vdf_law_word0 ?vtf_law_word0 ?vsf_law_word0) (.inr ⟨rfl, PySem.W.mg_none_of (n := "ValueError") KX G ?nwf_law_word0, Ev.kit_VE ?kwf_law_word0⟩) (by decide)) (Ev.all_cons (Ev.cls_mk (c := "NoCount") KX G ?caf_law_word1 ⟨?cpf_law_word1, ?cqf_law_word1, ?crf_law_word1, ?csf_law_word1, ?ctf_law_word1, ?cuf_law_word1, ?cvf_law_word1, ?cwf_law_word1⟩ (Ev.all_cons (Ev.isC_mk (c := "NoCount") (C := "TooMany") (b := false) KX G (by decide) ?naf_law_word1x0 ?nbf_law_word1x0 ?ndf_law_word1x0 ?ntf_law_word1x0 ?nsf_law_word1x0 ?nqf_law_word1x0) (Ev.all_cons (Ev.isC_mk (c := "NoCount") (C := "NoCount") (b := true) KX G (by decide) ?naf_law_word1x1 ?nbf_law_word1x1 ?ndf_law_word1x1 ?ntf_law_word1x1 ?nsf_law_word1x1 ?nqf_law_word1x1) (Ev.all_cons (Ev.isC_mk (c := "NoCount") (C := "NoJudges") (b := false) KX G (by decide) ?naf_law_word1x2 ?nbf_law_word1x2 ?ndf_law_word1x2 ?ntf_law_word1x2 ?nsf_law_word1x2 ?nqf_law_word1x2) (Ev.all_cons (Ev.isC_mk (c := "NoCount") (C := "NoOrder") (b := false) KX G (by decide) ?naf_law_word1x3 ?nbf_law_word1x3 ?ndf_law_word1x3 ?ntf_law_word1x3 ?nsf_law_word1x3 ?nqf_law_word1x3) (Ev.all_cons (Ev.isC_mk (c := "NoCount") (C := "NoQuotas") (b := false) KX G (by decide) ?naf_law_word1x4 ?nbf_law_word1x4 ?ndf_law_word1x4 ?ntf_law_word1x4 ?nsf_law_word1x4 ?nqf_law_word1x4) (Ev.all_cons (Ev.isC_mk (c := "NoCount") (C := "NoSaying") (b := false) KX G (by decide) ?naf_law_word1x5 ?nbf_law_word1x5 ?ndf_law_word1x5 ?ntf_law_word1x5 ?nsf_law_word1x5 ?nqf_law_word1x5) (Ev.all_cons (Ev.isC_mk (c := "NoCount") (C := "NoWorld") (b := false) KX G (by decide) ?naf_law_word1x6 ?nbf_law_word1x6 ?ndf_law_word1x6 ?ntf_law_word1x6 ?nsf_law_word1x6 ?nqf_law_word1x6) Ev.all_nil))))))) (Ev.isC_mk2 (C := "VoteError") KX G ?nvf_law_word1 ?vbf_law_word1 ?vdf_law_word1 ?vtf_law_word1 ?vsf_law_word1) (.inr ⟨rfl, PySem.W.mg_none_of (n := "ValueError") KX G ?nwf_law_word1, Ev.kit_VE ?kwf_law_word1⟩) (by decide)) (Ev.all_cons (Ev.cls_mk (c := "NoJudges") KX G ?caf_law_word2 ⟨?cpf_law_word2, ?cqf_law_word2, ?crf_law_word2, ?csf_law_word2, ?ctf_law_word2, ?cuf_law_word2, ?cvf_law_word2, ?cwf_law_word2⟩ (Ev.all_cons (Ev.isC_mk (c := "NoJudges") (C := "TooMany") (b := false) KX G (by decide) ?naf_law_word2x0 ?nbf_law_word2x0 ?ndf_law_word2x0 ?ntf_law_word2x0 ?nsf_law_word2x0 ?nqf_law_word2x0) (Ev.all_cons (Ev.isC_mk (c := "NoJudges") (C := "NoCount") (b := false) KX G (by decide) ?naf_law_word2x1 ?nbf_law_word2x1 ?ndf_law_word2x1 ?ntf_law_word2x1 ?nsf_law_word2x1 ?nqf_law_word2x1) (Ev.all_cons (Ev.isC_mk (c := "NoJudges") (C := "NoJudges") (b := true) KX G (by decide) ?naf_law_word2x2 ?nbf_law_word2x2 ?ndf_law_word2x2 ?ntf_law_word2x2 ?nsf_law_word2x2 ?nqf_law_word2x2) (Ev.all_cons (Ev.isC_mk (c := "NoJudges") (C := "NoOrder") (b := false) KX G (by decide) ?naf_law_word2x3 ?nbf_law_word2x3 ?ndf_law_word2x3 ?ntf_law_word2x3 ?nsf_law_word2x3 ?nqf_law_word2x3) (Ev.all_cons (Ev.isC_mk (c := "NoJudges") (C := "NoQuotas") (b := false) KX G (by decide) ?naf_law_word2x4 ?nbf_law_word2x4 ?ndf_law_word2x4 ?ntf_law_word2x4 ?nsf_law_word2x4 ?nqf_law_word2x4) (Ev.all_cons (Ev.isC_mk (c := "NoJudges") (C := "NoSaying") (b := false) KX G (by decide) ?naf_law_word2x5 ?nbf_law_word2x5 ?ndf_law_word2x5 ?ntf_law_word2x5 ?nsf_law_word2x5 ?nqf_law_word2x5) (Ev.all_cons (Ev.isC_mk (c := "NoJudges") (C := "NoWorld") (b := false) KX G (by decide) ?naf_law_word2x6 ?nbf_law_word2x6 ?ndf_law_word2x6 ?ntf_law_word2x6 ?nsf_law_word2x6 ?nqf_law_word2x6) Ev.all_nil))))))) (Ev.isC_mk2 (C := "VoteError") KX G ?nvf_law_word2 ?vbf_law_word2 ?vdf_law_word2 ?vtf_law_word2 ?vsf_law_word2) (.inr ⟨rfl, PySem.W.mg_none_of (n := "ValueError") KX G ?nwf_law_word2, Ev.kit_VE ?kwf_law_word2⟩) (by decide)) (Ev.all_cons (Ev.cls_mk (c := "NoOrder") KX G ?caf_law_word3 ⟨?cpf_law_word3, ?cqf_law_word3, ?crf_law_word3, ?csf_law_word3, ?ctf_law_word3, ?cuf_law_word3, ?cvf_law_word3, ?cwf_law_word3⟩ (Ev.all_cons (Ev.isC_mk (c := "NoOrder") (C := "TooMany") (b := false) KX G (by decide) ?naf_law_word3x0 ?nbf_law_word3x0 ?ndf_law_word3x0 ?ntf_law_word3x0 ?nsf_law_word3x0 ?nqf_law_word3x0) (Ev.all_cons (Ev.isC_mk (c := "NoOrder") (C := "NoCount") (b := false) KX G (by decide) ?naf_law_word3x1 ?nbf_law_word3x1 ?ndf_law_word3x1 ?ntf_law_word3x1 ?nsf_law_word3x1 ?nqf_law_word3x1) (Ev.all_cons (Ev.isC_mk (c := "NoOrder") (C := "NoJudges") (b := false) KX G (by decide) ?naf_law_word3x2 ?nbf_law_word3x2 ?ndf_law_word3x2 ?ntf_law_word3x2 ?nsf_law_word3x2 ?nqf_law_word3x2) (Ev.all_cons (Ev.isC_mk (c := "NoOrder") (C := "NoOrder") (b := true) KX G (by decide) ?naf_law_word3x3 ?nbf_law_word3x3 ?ndf_law_word3x3 ?ntf_law_word3x3 ?nsf_law_word3x3 ?nqf_law_word3x3) (Ev.all_cons (Ev.isC_mk (c := "NoOrder") (C := "NoQuotas") (b := false) KX G (by decide) ?naf_law_word3x4 ?nbf_law_word3x4 ?ndf_law_word3x4 ?ntf_law_word3x4 ?nsf_law_word3x4 ?nqf_law_word3x4) (Ev.all_cons (Ev.isC_mk (c := "NoOrder") (C := "NoSaying") (b := false) KX G (by decide) ?naf_law_word3x5 ?nbf_law_word3x5 ?ndf_law_word3x5 ?ntf_law_word3x5 ?nsf_law_word3x5 ?nqf_law_word3x5) (Ev.all_cons (Ev.isC_mk (c := "NoOrder") (C := "NoWorld") (b := false) KX G (by decide) ?naf_law_word3x6 ?nbf_law_word3x6 ?ndf_law_word3x6 ?ntf_law_word3x6 ?nsf_law_word3x6 ?nqf_law_word3x6) Ev.all_nil))))))) (Ev.isC_mk2 (C := "VoteError") KX G ?nvf_law_word3 ?vbf_law_word3 ?vdf_law_word3 ?vtf_law_word3 ?vsf_law_word3) (.inr ⟨rfl, PySem.W.mg_none_of (n := "ValueError") KX G ?nwf_law_word3, Ev.kit_VE ?kwf_law_word3⟩) (by decide)) (Ev.all_cons (Ev.cls_mk (c := "NoQuotas") KX G ?caf_law_word4 ⟨?cpf_law_word4, ?cqf_law_word4, ?crf_law_word4, ?csf_law_word4, ?ctf_law_word4, ?cuf_law_word4, ?cvf_law_word4, ?cwf_law_word4⟩ (Ev.all_cons (Ev.isC_mk (c := "NoQuotas") (C := "TooMany") (b := false) KX G (by decide) ?naf_law_word4x0 ?nbf_law_word4x0 ?ndf_law_word4x0 ?ntf_law_word4x0 ?nsf_law_word4x0 ?nqf_law_word4x0) (Ev.all_cons (Ev.isC_mk (c := "NoQuotas") (C := "NoCount") (b := false) KX G (by decide) ?naf_law_word4x1 ?nbf_law_word4x1 ?ndf_law_word4x1 ?ntf_law_word4x1 ?nsf_law_word4x1 ?nqf_law_word4x1) (Ev.all_cons (Ev.isC_mk (c := "NoQuotas") (C := "NoJudges") (b := false) KX G (by decide) ?naf_law_word4x2 ?nbf_law_word4x2 ?ndf_law_word4x2 ?ntf_law_word4x2 ?nsf_law_word4x2 ?nqf_law_word4x2) (Ev.all_cons (Ev.isC_mk (c := "NoQuotas") (C := "NoOrder") (b := false) KX G (by decide) ?naf_law_word4x3 ?nbf_law_word4x3 ?ndf_law_word4x3 ?ntf_law_word4x3 ?nsf_law_word4x3 ?nqf_law_word4x3) (Ev.all_cons (Ev.isC_mk (c := "NoQuotas") (C := "NoQuotas") (b := true) KX G (by decide) ?naf_law_word4x4 ?nbf_law_word4x4 ?ndf_law_word4x4 ?ntf_law_word4x4 ?nsf_law_word4x4 ?nqf_law_word4x4) (Ev.all_cons (Ev.isC_mk (c := "NoQuotas") (C := "NoSaying") (b := false) KX G (by decide) ?naf_law_word4x5 ?nbf_law_word4x5 ?ndf_law_word4x5 ?ntf_law_word4x5 ?nsf_law_word4x5 ?nqf_law_word4x5) (Ev.all_cons (Ev.isC_mk (c := "NoQuotas") (C := "NoWorld") (b := false) KX G (by decide) ?naf_law_word4x6 ?nbf_law_word4x6 ?ndf_law_word4x6 ?ntf_law_word4x6 ?nsf_law_word4x6 ?nqf_law_word4x6) Ev.all_nil))))))) (Ev.isC_mk2 (C := "VoteError") KX G ?nvf_law_word4 ?vbf_law_word4 ?vdf_law_word4 ?vtf_law_word4 ?vsf_law_word4) (.inr ⟨rfl, PySem.W.mg_none_of (n := "ValueError") KX G ?nwf_law_word4, Ev.kit_VE ?kwf_law_word4⟩) (by decide)) (Ev.all_cons (Ev.cls_mk (c := "NoSaying") KX G ?caf_law_word5 ⟨?cpf_law_word5, ?cqf_law_word5, ?crf_law_word5, ?csf_law_word5, ?ctf_law_word5, ?cuf_law_word5, ?cvf_law_word5, ?cwf_law_word5⟩ (Ev.all_cons (Ev.isC_mk (c := "NoSaying") (C := "TooMany") (b := false) KX G (by decide) ?naf_law_word5x0 ?nbf_law_word5x0 ?ndf_law_word5x0 ?ntf_law_word5x0 ?nsf_law_word5x0 ?nqf_law_word5x0) (Ev.all_cons (Ev.isC_mk (c := "NoSaying") (C := "NoCount") (b := false) KX G (by decide) ?naf_law_word5x1 ?nbf_law_word5x1 ?ndf_law_word5x1 ?ntf_law_word5x1 ?nsf_law_word5x1 ?nqf_law_word5x1) (Ev.all_cons (Ev.isC_mk (c := "NoSaying") (C := "NoJudges") (b := false) KX G (by decide) ?naf_law_word5x2 ?nbf_law_word5x2 ?ndf_law_word5x2 ?ntf_law_word5x2 ?nsf_law_word5x2 ?nqf_law_word5x2) (Ev.all_cons (Ev.isC_mk (c := "NoSaying") (C := "NoOrder") (b := false) KX G (by decide) ?naf_law_word5x3 ?nbf_law_word5x3 ?ndf_law_word5x3 ?ntf_law_word5x3 ?nsf_law_word5x3 ?nqf_law_word5x3) (Ev.all_cons (Ev.isC_mk (c := "NoSaying") (C := "NoQuotas") (b := false) KX G (by decide) ?naf_law_word5x4 ?nbf_law_word5x4 ?ndf_law_word5x4 ?ntf_law_word5x4 ?nsf_law_word5x4 ?nqf_law_word5x4) (Ev.all_cons (Ev.isC_mk (c := "NoSaying") (C := "NoSaying") (b := true) KX G (by decide) ?naf_law_word5x5 ?nbf_law_word5x5 ?ndf_law_word5x5 ?ntf_law_word5x5 ?nsf_law_word5x5 ?nqf_law_word5x5) (Ev.all_cons (Ev.isC_mk (c := "NoSaying") (C := "NoWorld") (b := false) KX G (by decide) ?naf_law_word5x6 ?nbf_law_word5x6 ?ndf_law_word5x6 ?ntf_law_word5x6 ?nsf_law_word5x6 ?nqf_law_word5x6) Ev.all_nil))))))) (Ev.isC_mk2 (C := "VoteError") KX G ?nvf_law_word5 ?vbf_law_word5 ?vdf_law_word5 ?vtf_law_word5 ?vsf_law_word5) (.inr ⟨rfl, PySem.W.mg_none_of (n := "ValueError") KX G ?nwf_law_word5, Ev.kit_VE ?kwf_law_word5⟩) (by decide)) (Ev.all_cons (Ev.cls_mk (c := "NoWorld") KX G ?caf_law_word6 ⟨?cpf_law_word6, ?cqf_law_word6, ?crf_law_word6, ?csf_law_word6, ?ctf_law_word6, ?cuf_law_word6, ?cvf_law_word6, ?cwf_law_word6⟩ (Ev.all_cons (Ev.isC_mk (c := "NoWorld") (C := "TooMany") (b := false) KX G (by decide) ?naf_law_word6x0 ?nbf_law_word6x0 ?ndf_law_word6x0 ?ntf_law_word6x0 ?nsf_law_word6x0 ?nqf_law_word6x0) (Ev.all_cons (Ev.isC_mk (c := "NoWorld") (C := "NoCount") (b := false) KX G (by decide) ?naf_law_word6x1 ?nbf_law_word6x1 ?ndf_law_word6x1 ?ntf_law_word6x1 ?nsf_law_word6x1 ?nqf_law_word6x1) (Ev.all_cons (Ev.isC_mk (c := "NoWorld") (C := "NoJudges") (b := false) KX G (by decide) ?naf_law_word6x2 ?nbf_law_word6x2 ?ndf_law_word6x2 ?ntf_law_word6x2 ?nsf_law_word6x2 ?nqf_law_word6x2) (Ev.all_cons (Ev.isC_mk (c := "NoWorld") (C := "NoOrder") (b := false) KX G (by decide) ?naf_law_word6x3 ?nbf_law_word6x3 ?ndf_law_word6x3 ?ntf_law_word6x3 ?nsf_law_word6x3 ?nqf_law_word6x3) (Ev.all_cons (Ev.isC_mk (c := "NoWorld") (C := "NoQuotas") (b := false) KX G (by decide) ?naf_law_word6x4 ?nbf_law_word6x4 ?ndf_law_word6x4 ?ntf_law_word6x4 ?nsf_law_word6x4 ?nqf_law_word6x4) (Ev.all_cons (Ev.isC_mk (c := "NoWorld") (C := "NoSaying") (b := false) KX G (by decide) ?naf_law_word6x5 ?nbf_law_word6x5 ?ndf_law_word6x5 ?ntf_law_word6x5 ?nsf_law_word6x5 ?nqf_law_word6x5) (Ev.all_cons (Ev.isC_mk (c := "NoWorld") (C := "NoWorld") (b := true) KX G (by decide) ?naf_law_word6x6 ?nbf_law_word6x6 ?ndf_law_word6x6 ?ntf_law_word6x6 ?nsf_law_word6x6 ?nqf_law_word6x6) Ev.all_nil))))))) (Ev.isC_mk2 (C := "VoteError") KX G ?nvf_law_word6 ?vbf_law_word6 ?vdf_law_word6 ?vtf_law_word6 ?vsf_law_word6) (.inr ⟨rfl, PySem.W.mg_none_of (n := "ValueError") KX G ?nwf_law_word6, Ev.kit_VE ?kwf_law_word6⟩) (by decide)) Ev.all_nil))))))), (Ev.all_cons (Ev.has_mk (c := "TooMany") KX G ?hcf_law_word0) (Ev.all_cons (Ev.has_mk (c := "VoteError") KX G ?hcf_law_word1) Ev.all_nil))⟩) (Ev.all_cons (fun w hw => nomatch hw) (Ev.all_cons (fun w hw => nomatch hw) (Ev.all_cons (fun w hw => nomatch hw) Ev.all_nil))))))))))))))))))))))))))))))⟩
    (case a0 => k_is); (case l0 => k_is); (case c0 => k_is); (case k0 => k_is)
    (case a1 => k_is); (case l1 => k_is); (case c1 => k_is); (case k1 => k_is)
    (case a2 => k_is); (case l2 => k_is); (case c2 => k_is); (case k2 => k_is)
    (case a3 => k_is); (case l3 => k_is); (case c3 => k_is); (case k3 => k_is)
    (case a4 => k_is); (case l4 => k_is); (case c4 => k_is); (case k4 => k_is)
    (case a5 => k_is); (case l5 => k_is); (case c5 => k_is); (case k5 => k_is)
    (case a6 => k_is); (case l6 => k_is); (case c6 => k_is); (case k6 => k_is)
    (case a7 => k_is); (case l7 => k_is); (case c7 => k_is); (case k7 => k_is)
    (case a8 => k_is); (case l8 => k_is); (case c8 => k_is); (case k8 => k_is)
    (case a9 => k_is); (case l9 => k_is); (case c9 => k_is); (case k9 => k_is)
    (case a10 => k_is); (case l10 => k_is); (case c10 => k_is); (case k10 => k_is)
    (case a11 => k_is); (case l11 => k_is); (case c11 => k_is); (case k11 => k_is)
    (case a12 => k_is); (case l12 => k_is); (case c12 => k_is); (case k12 => k_is)
    (case a13 => k_is); (case l13 => k_is); (case c13 => k_is); (case k13 => k_is)
    (case a14 => k_is); (case l14 => k_is); (case c14 => k_is); (case k14 => k_is)
    (case a15 => k_is); (case l15 => k_is); (case c15 => k_is); (case k15 => k_is)
    (case a16 => k_is); (case l16 => k_is); (case c16 => k_is); (case k16 => k_is)
    (case a17 => k_is); (case l17 => k_is); (case c17 => k_is); (case k17 => k_is)
    (case a18 => k_is); (case l18 => k_is); (case c18 => k_is); (case k18 => k_is)
    (case a19 => k_is); (case l19 => k_is); (case c19 => k_is); (case k19 => k_is)
    (case a20 => k_is); (case l20 => k_is); (case c20 => k_is); (case k20 => k_is)
    (case a21 => k_is); (case l21 => k_is); (case c21 => k_is); (case k21 => k_is)
    (case a22 => k_is); (case l22 => k_is); (case c22 => k_is); (case k22 => k_is)
    (case a23 => k_is); (case l23 => k_is); (case c23 => k_is); (case k23 => k_is)
    (case a24 => k_is); (case l24 => k_is); (case c24 => k_is); (case k24 => k_is)
    (case a25 => k_is); (case l25 => k_is); (case c25 => k_is); (case k25 => k_is)
    (case a26 => k_is); (case l26 => k_is); (case c26 => k_is); (case k26 => k_is)
    (case a27 => k_is); (case l27 => k_is); (case c27 => k_is); (case k27 => k_is)
    (case a28 => k_is); (case l28 => k_is); (case c28 => k_is); (case k28 => k_is)
    (case a29 => k_is); (case l29 => k_is); (case c29 => k_is); (case k29 => k_is)
    (case b0 => k_is)
    (case b1 => k_is)
    (case b2 => k_is)
    (case b3 => k_is)
    (case b4 => k_is)
    (case b5 => k_is)
    (case b6 => k_is)
    (case b7 => k_is)
    (case b8 => k_is)
    (case b9 => k_is)
    (case b10 => k_is)
    (case b11 => k_is)
    (case b12 => k_is)
    (case b13 => k_is)
    (case b14 => k_is)
    (case b15 => k_is)
    (case b16 => k_is)
    (case b17 => k_is)
    (case ea0 => k_is); (case ex0 => k_exc); (case ek0 => k_is); (case eb0 => k_is); (case et0 => k_is)
    (case ea1 => k_is); (case ex1 => k_exc); (case ek1 => k_is); (case eb1 => k_is); (case et1 => k_is)
    (case ea2 => k_is); (case ex2 => k_exc); (case ek2 => k_is); (case eb2 => k_is); (case et2 => k_is)
    (case caf_law_word0 => k_is)
    (case cpf_law_word0 => k_is)
    (case cqf_law_word0 => k_is)
    (case crf_law_word0 => k_is)
    (case csf_law_word0 => k_is)
    (case ctf_law_word0 => k_is)
    (case cuf_law_word0 => k_is)
    (case cvf_law_word0 => k_is)
    (case cwf_law_word0 => k_is)
    (case naf_law_word0x0 => k_is); (case nbf_law_word0x0 => k_is); (case ndf_law_word0x0 => k_is); (case ntf_law_word0x0 => k_is); (case nsf_law_word0x0 => k_is); (case nqf_law_word0x0 => decide)
    (case naf_law_word0x1 => k_is); (case nbf_law_word0x1 => k_is); (case ndf_law_word0x1 => k_is); (case ntf_law_word0x1 => k_is); (case nsf_law_word0x1 => k_is); (case nqf_law_word0x1 => decide)
    (case naf_law_word0x2 => k_is); (case nbf_law_word0x2 => k_is); (case ndf_law_word0x2 => k_is); (case ntf_law_word0x2 => k_is); (case nsf_law_word0x2 => k_is); (case nqf_law_word0x2 => decide)
    (case naf_law_word0x3 => k_is); (case nbf_law_word0x3 => k_is); (case ndf_law_word0x3 => k_is); (case ntf_law_word0x3 => k_is); (case nsf_law_word0x3 => k_is); (case nqf_law_word0x3 => decide)
    (case naf_law_word0x4 => k_is); (case nbf_law_word0x4 => k_is); (case ndf_law_word0x4 => k_is); (case ntf_law_word0x4 => k_is); (case nsf_law_word0x4 => k_is); (case nqf_law_word0x4 => decide)
    (case naf_law_word0x5 => k_is); (case nbf_law_word0x5 => k_is); (case ndf_law_word0x5 => k_is); (case ntf_law_word0x5 => k_is); (case nsf_law_word0x5 => k_is); (case nqf_law_word0x5 => decide)
    (case naf_law_word0x6 => k_is); (case nbf_law_word0x6 => k_is); (case ndf_law_word0x6 => k_is); (case ntf_law_word0x6 => k_is); (case nsf_law_word0x6 => k_is); (case nqf_law_word0x6 => decide)
    (case nvf_law_word0 => k_is); (case vbf_law_word0 => k_is); (case vdf_law_word0 => k_is); (case vtf_law_word0 => k_is); (case vsf_law_word0 => k_is); (case nwf_law_word0 => k_is); (case kwf_law_word0 => k_is)
    (case caf_law_word1 => k_is)
    (case cpf_law_word1 => k_is)
    (case cqf_law_word1 => k_is)
    (case crf_law_word1 => k_is)
    (case csf_law_word1 => k_is)
    (case ctf_law_word1 => k_is)
    (case cuf_law_word1 => k_is)
    (case cvf_law_word1 => k_is)
    (case cwf_law_word1 => k_is)
    (case naf_law_word1x0 => k_is); (case nbf_law_word1x0 => k_is); (case ndf_law_word1x0 => k_is); (case ntf_law_word1x0 => k_is); (case nsf_law_word1x0 => k_is); (case nqf_law_word1x0 => decide)
    (case naf_law_word1x1 => k_is); (case nbf_law_word1x1 => k_is); (case ndf_law_word1x1 => k_is); (case ntf_law_word1x1 => k_is); (case nsf_law_word1x1 => k_is); (case nqf_law_word1x1 => decide)
    (case naf_law_word1x2 => k_is); (case nbf_law_word1x2 => k_is); (case ndf_law_word1x2 => k_is); (case ntf_law_word1x2 => k_is); (case nsf_law_word1x2 => k_is); (case nqf_law_word1x2 => decide)
    (case naf_law_word1x3 => k_is); (case nbf_law_word1x3 => k_is); (case ndf_law_word1x3 => k_is); (case ntf_law_word1x3 => k_is); (case nsf_law_word1x3 => k_is); (case nqf_law_word1x3 => decide)
    (case naf_law_word1x4 => k_is); (case nbf_law_word1x4 => k_is); (case ndf_law_word1x4 => k_is); (case ntf_law_word1x4 => k_is); (case nsf_law_word1x4 => k_is); (case nqf_law_word1x4 => decide)
    (case naf_law_word1x5 => k_is); (case nbf_law_word1x5 => k_is); (case ndf_law_word1x5 => k_is); (case ntf_law_word1x5 => k_is); (case nsf_law_word1x5 => k_is); (case nqf_law_word1x5 => decide)
    (case naf_law_word1x6 => k_is); (case nbf_law_word1x6 => k_is); (case ndf_law_word1x6 => k_is); (case ntf_law_word1x6 => k_is); (case nsf_law_word1x6 => k_is); (case nqf_law_word1x6 => decide)
    (case nvf_law_word1 => k_is); (case vbf_law_word1 => k_is); (case vdf_law_word1 => k_is); (case vtf_law_word1 => k_is); (case vsf_law_word1 => k_is); (case nwf_law_word1 => k_is); (case kwf_law_word1 => k_is)
    (case caf_law_word2 => k_is)
    (case cpf_law_word2 => k_is)
    (case cqf_law_word2 => k_is)
    (case crf_law_word2 => k_is)
    (case csf_law_word2 => k_is)
    (case ctf_law_word2 => k_is)
    (case cuf_law_word2 => k_is)
    (case cvf_law_word2 => k_is)
    (case cwf_law_word2 => k_is)
    (case naf_law_word2x0 => k_is); (case nbf_law_word2x0 => k_is); (case ndf_law_word2x0 => k_is); (case ntf_law_word2x0 => k_is); (case nsf_law_word2x0 => k_is); (case nqf_law_word2x0 => decide)
    (case naf_law_word2x1 => k_is); (case nbf_law_word2x1 => k_is); (case ndf_law_word2x1 => k_is); (case ntf_law_word2x1 => k_is); (case nsf_law_word2x1 => k_is); (case nqf_law_word2x1 => decide)
    (case naf_law_word2x2 => k_is); (case nbf_law_word2x2 => k_is); (case ndf_law_word2x2 => k_is); (case ntf_law_word2x2 => k_is); (case nsf_law_word2x2 => k_is); (case nqf_law_word2x2 => decide)
    (case naf_law_word2x3 => k_is); (case nbf_law_word2x3 => k_is); (case ndf_law_word2x3 => k_is); (case ntf_law_word2x3 => k_is); (case nsf_law_word2x3 => k_is); (case nqf_law_word2x3 => decide)
    (case naf_law_word2x4 => k_is); (case nbf_law_word2x4 => k_is); (case ndf_law_word2x4 => k_is); (case ntf_law_word2x4 => k_is); (case nsf_law_word2x4 => k_is); (case nqf_law_word2x4 => decide)
    (case naf_law_word2x5 => k_is); (case nbf_law_word2x5 => k_is); (case ndf_law_word2x5 => k_is); (case ntf_law_word2x5 => k_is); (case nsf_law_word2x5 => k_is); (case nqf_law_word2x5 => decide)
    (case naf_law_word2x6 => k_is); (case nbf_law_word2x6 => k_is); (case ndf_law_word2x6 => k_is); (case ntf_law_word2x6 => k_is); (case nsf_law_word2x6 => k_is); (case nqf_law_word2x6 => decide)
    (case nvf_law_word2 => k_is); (case vbf_law_word2 => k_is); (case vdf_law_word2 => k_is); (case vtf_law_word2 => k_is); (case vsf_law_word2 => k_is); (case nwf_law_word2 => k_is); (case kwf_law_word2 => k_is)
    (case caf_law_word3 => k_is)
    (case cpf_law_word3 => k_is)
    (case cqf_law_word3 => k_is)
    (case crf_law_word3 => k_is)
    (case csf_law_word3 => k_is)
    (case ctf_law_word3 => k_is)
    (case cuf_law_word3 => k_is)
    (case cvf_law_word3 => k_is)
    (case cwf_law_word3 => k_is)
    (case naf_law_word3x0 => k_is); (case nbf_law_word3x0 => k_is); (case ndf_law_word3x0 => k_is); (case ntf_law_word3x0 => k_is); (case nsf_law_word3x0 => k_is); (case nqf_law_word3x0 => decide)
    (case naf_law_word3x1 => k_is); (case nbf_law_word3x1 => k_is); (case ndf_law_word3x1 => k_is); (case ntf_law_word3x1 => k_is); (case nsf_law_word3x1 => k_is); (case nqf_law_word3x1 => decide)
    (case naf_law_word3x2 => k_is); (case nbf_law_word3x2 => k_is); (case ndf_law_word3x2 => k_is); (case ntf_law_word3x2 => k_is); (case nsf_law_word3x2 => k_is); (case nqf_law_word3x2 => decide)
    (case naf_law_word3x3 => k_is); (case nbf_law_word3x3 => k_is); (case ndf_law_word3x3 => k_is); (case ntf_law_word3x3 => k_is); (case nsf_law_word3x3 => k_is); (case nqf_law_word3x3 => decide)
    (case naf_law_word3x4 => k_is); (case nbf_law_word3x4 => k_is); (case ndf_law_word3x4 => k_is); (case ntf_law_word3x4 => k_is); (case nsf_law_word3x4 => k_is); (case nqf_law_word3x4 => decide)
    (case naf_law_word3x5 => k_is); (case nbf_law_word3x5 => k_is); (case ndf_law_word3x5 => k_is); (case ntf_law_word3x5 => k_is); (case nsf_law_word3x5 => k_is); (case nqf_law_word3x5 => decide)
    (case naf_law_word3x6 => k_is); (case nbf_law_word3x6 => k_is); (case ndf_law_word3x6 => k_is); (case ntf_law_word3x6 => k_is); (case nsf_law_word3x6 => k_is); (case nqf_law_word3x6 => decide)
    (case nvf_law_word3 => k_is); (case vbf_law_word3 => k_is); (case vdf_law_word3 => k_is); (case vtf_law_word3 => k_is); (case vsf_law_word3 => k_is); (case nwf_law_word3 => k_is); (case kwf_law_word3 => k_is)
    (case caf_law_word4 => k_is)
    (case cpf_law_word4 => k_is)
    (case cqf_law_word4 => k_is)
    (case crf_law_word4 => k_is)
    (case csf_law_word4 => k_is)
    (case ctf_law_word4 => k_is)
    (case cuf_law_word4 => k_is)
    (case cvf_law_word4 => k_is)
    (case cwf_law_word4 => k_is)
    (case naf_law_word4x0 => k_is); (case nbf_law_word4x0 => k_is); (case ndf_law_word4x0 => k_is); (case ntf_law_word4x0 => k_is); (case nsf_law_word4x0 => k_is); (case nqf_law_word4x0 => decide)
    (case naf_law_word4x1 => k_is); (case nbf_law_word4x1 => k_is); (case ndf_law_word4x1 => k_is); (case ntf_law_word4x1 => k_is); (case nsf_law_word4x1 => k_is); (case nqf_law_word4x1 => decide)
    (case naf_law_word4x2 => k_is); (case nbf_law_word4x2 => k_is); (case ndf_law_word4x2 => k_is); (case ntf_law_word4x2 => k_is); (case nsf_law_word4x2 => k_is); (case nqf_law_word4x2 => decide)
    (case naf_law_word4x3 => k_is); (case nbf_law_word4x3 => k_is); (case ndf_law_word4x3 => k_is); (case ntf_law_word4x3 => k_is); (case nsf_law_word4x3 => k_is); (case nqf_law_word4x3 => decide)
    (case naf_law_word4x4 => k_is); (case nbf_law_word4x4 => k_is); (case ndf_law_word4x4 => k_is); (case ntf_law_word4x4 => k_is); (case nsf_law_word4x4 => k_is); (case nqf_law_word4x4 => decide)
    (case naf_law_word4x5 => k_is); (case nbf_law_word4x5 => k_is); (case ndf_law_word4x5 => k_is); (case ntf_law_word4x5 => k_is); (case nsf_law_word4x5 => k_is); (case nqf_law_word4x5 => decide)
    (case naf_law_word4x6 => k_is); (case nbf_law_word4x6 => k_is); (case ndf_law_word4x6 => k_is); (case ntf_law_word4x6 => k_is); (case nsf_law_word4x6 => k_is); (case nqf_law_word4x6 => decide)
    (case nvf_law_word4 => k_is); (case vbf_law_word4 => k_is); (case vdf_law_word4 => k_is); (case vtf_law_word4 => k_is); (case vsf_law_word4 => k_is); (case nwf_law_word4 => k_is); (case kwf_law_word4 => k_is)
    (case caf_law_word5 => k_is)
    (case cpf_law_word5 => k_is)
    (case cqf_law_word5 => k_is)
    (case crf_law_word5 => k_is)
    (case csf_law_word5 => k_is)
    (case ctf_law_word5 => k_is)
    (case cuf_law_word5 => k_is)
    (case cvf_law_word5 => k_is)
    (case cwf_law_word5 => k_is)
    (case naf_law_word5x0 => k_is); (case nbf_law_word5x0 => k_is); (case ndf_law_word5x0 => k_is); (case ntf_law_word5x0 => k_is); (case nsf_law_word5x0 => k_is); (case nqf_law_word5x0 => decide)
    (case naf_law_word5x1 => k_is); (case nbf_law_word5x1 => k_is); (case ndf_law_word5x1 => k_is); (case ntf_law_word5x1 => k_is); (case nsf_law_word5x1 => k_is); (case nqf_law_word5x1 => decide)
    (case naf_law_word5x2 => k_is); (case nbf_law_word5x2 => k_is); (case ndf_law_word5x2 => k_is); (case ntf_law_word5x2 => k_is); (case nsf_law_word5x2 => k_is); (case nqf_law_word5x2 => decide)
    (case naf_law_word5x3 => k_is); (case nbf_law_word5x3 => k_is); (case ndf_law_word5x3 => k_is); (case ntf_law_word5x3 => k_is); (case nsf_law_word5x3 => k_is); (case nqf_law_word5x3 => decide)
    (case naf_law_word5x4 => k_is); (case nbf_law_word5x4 => k_is); (case ndf_law_word5x4 => k_is); (case ntf_law_word5x4 => k_is); (case nsf_law_word5x4 => k_is); (case nqf_law_word5x4 => decide)
    (case naf_law_word5x5 => k_is); (case nbf_law_word5x5 => k_is); (case ndf_law_word5x5 => k_is); (case ntf_law_word5x5 => k_is); (case nsf_law_word5x5 => k_is); (case nqf_law_word5x5 => decide)
    (case naf_law_word5x6 => k_is); (case nbf_law_word5x6 => k_is); (case ndf_law_word5x6 => k_is); (case ntf_law_word5x6 => k_is); (case nsf_law_word5x6 => k_is); (case nqf_law_word5x6 => decide)
    (case nvf_law_word5 => k_is); (case vbf_law_word5 => k_is); (case vdf_law_word5 => k_is); (case vtf_law_word5 => k_is); (case vsf_law_word5 => k_is); (case nwf_law_word5 => k_is); (case kwf_law_word5 => k_is)
    (case caf_law_word6 => k_is)
    (case cpf_law_word6 => k_is)
    (case cqf_law_word6 => k_is)
    (case crf_law_word6 => k_is)
    (case csf_law_word6 => k_is)
    (case ctf_law_word6 => k_is)
    (case cuf_law_word6 => k_is)
    (case cvf_law_word6 => k_is)
    (case cwf_law_word6 => k_is)
    (case naf_law_word6x0 => k_is); (case nbf_law_word6x0 => k_is); (case ndf_law_word6x0 => k_is); (case ntf_law_word6x0 => k_is); (case nsf_law_word6x0 => k_is); (case nqf_law_word6x0 => decide)
    (case naf_law_word6x1 => k_is); (case nbf_law_word6x1 => k_is); (case ndf_law_word6x1 => k_is); (case ntf_law_word6x1 => k_is); (case nsf_law_word6x1 => k_is); (case nqf_law_word6x1 => decide)
    (case naf_law_word6x2 => k_is); (case nbf_law_word6x2 => k_is); (case ndf_law_word6x2 => k_is); (case ntf_law_word6x2 => k_is); (case nsf_law_word6x2 => k_is); (case nqf_law_word6x2 => decide)
    (case naf_law_word6x3 => k_is); (case nbf_law_word6x3 => k_is); (case ndf_law_word6x3 => k_is); (case ntf_law_word6x3 => k_is); (case nsf_law_word6x3 => k_is); (case nqf_law_word6x3 => decide)
    (case naf_law_word6x4 => k_is); (case nbf_law_word6x4 => k_is); (case ndf_law_word6x4 => k_is); (case ntf_law_word6x4 => k_is); (case nsf_law_word6x4 => k_is); (case nqf_law_word6x4 => decide)
    (case naf_law_word6x5 => k_is); (case nbf_law_word6x5 => k_is); (case ndf_law_word6x5 => k_is); (case ntf_law_word6x5 => k_is); (case nsf_law_word6x5 => k_is); (case nqf_law_word6x5 => decide)
    (case naf_law_word6x6 => k_is); (case nbf_law_word6x6 => k_is); (case ndf_law_word6x6 => k_is); (case ntf_law_word6x6 => k_is); (case nsf_law_word6x6 => k_is); (case nqf_law_word6x6 => decide)
    (case nvf_law_word6 => k_is); (case vbf_law_word6 => k_is); (case vdf_law_word6 => k_is); (case vtf_law_word6 => k_is); (case vsf_law_word6 => k_is); (case nwf_law_word6 => k_is); (case kwf_law_word6 => k_is)
    (case hcf_law_word0 => k_is)
    (case hcf_law_word1 => k_is)
    case G =>
      intro x hx
      simp only [EvLaw.gcB, Bool.or_eq_true, decide_eq_true_eq] at hx
      rcases hx with hx | hx
      · subst hx; refine' Ev.gc_int (x := "MOST_ISSUES") (i := 5) KX G rfl ?h; (case h => k_is)
      · subst hx; refine' Ev.gc_int (x := "MOST_JUDGES") (i := 9) KX G rfl ?h; (case h => k_is)

