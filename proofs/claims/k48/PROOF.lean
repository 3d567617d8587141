import PyProof.Rows.All
import Wide.All
import OpenK.AllK
import Wide.FinOn
import PySem.Challenge.RW_streakbook_k48_shares_of_a_lump
import HandS.ForMost
import HandS.ForExc
import HandS.Wide
import HandS.WideBits
import HandS.Gcd
import HandS.Flow
import HandS.SetKeys
import HandS.TupAny
import HandS.Style
import HandS.TupMul
import HandS.Deep
import HandS.IsInst
import KE.SortData
import KE.DataCmp
import KE.DataEq
import KE.DataFind
import KE.DataMinMax
import KE.DataAny
import KE.DataIsa
import HandS.AnyAll
import HandS.ExcIs
import HandS.TryOnly
import HandS.TryMany
import KE.GoesMore
import HandS.WordsExc
import HandS.DictComp
import HandS.GenList
import HandS.Nested
import HandS.Flt
import HandS.Head0
import HandS.Head1
import HandS.Head2
import HandS.HeadEnd
import HandS.HeadHook1
import HandS.HeadHook2
import HandS.HeadHook3
import HandS.HeadHook4
import HandS.HeadWalk
import HandS.Head3
set_option Elab.async false
set_option linter.all false
set_option autoImplicit false
set_option maxRecDepth 100000
/-! Part 1: a small language of pure values with a store, and what its terms compute. -/
namespace E
open PySem (Str PyData sizeLine)
open Classical

def S (l : List Nat) : Str := ⟨⟨l⟩⟩
@[simp] theorem S_inj (a b : List Nat) : (S a = S b) = (a = b) := by
  unfold S; simp

/-! ### values -/
inductive PV where
  | non | bl (b : Bool) | int (i : Int) | str (x : Str)
  | tup (xs : List PV) | lst (xs : List PV)
  | dic (t : Bool) (kvs : List (PV × PV)) | set (xs : List PV)
  | ins (c : Nat) (fs : List (Nat × PV))
  | ref (l : Nat)
  deriving Inhabited

abbrev Store := List PV
abbrev Slots := List (Option PV)

mutual
def PV.data : PV → PyData
  | .non => .none | .bl b => .bool b | .int i => .int i | .str x => .str x
  | .tup xs => .tuple (PV.dataL xs) | .lst xs => .list (PV.dataL xs)
  | _ => .none
def PV.dataL : List PV → List PyData
  | [] => []
  | x :: xs => PV.data x :: PV.dataL xs
end
-- what == may look at
mutual
def PV.plain : PV → Bool
  | .non | .bl _ | .int _ | .str _ => true
  | .tup xs | .lst xs => PV.plainL xs
  | _ => false
def PV.plainL : List PV → Bool
  | [] => true
  | x :: xs => PV.plain x && PV.plainL xs
end
-- all places named are below n
mutual
def PV.und (n : Nat) : PV → Bool
  | .tup xs | .lst xs | .set xs => PV.undL n xs
  | .dic _ kvs => PV.undD n kvs
  | .ins _ fs => PV.undF n fs
  | .ref l => decide (l < n)
  | _ => true
def PV.undL (n : Nat) : List PV → Bool
  | [] => true
  | x :: xs => PV.und n x && PV.undL n xs
def PV.undD (n : Nat) : List (PV × PV) → Bool
  | [] => true
  | (k, v) :: xs => PV.und n k && PV.und n v && PV.undD n xs
def PV.undF (n : Nat) : List (Nat × PV) → Bool
  | [] => true
  | (_, v) :: xs => PV.und n v && PV.undF n xs
end
-- the places replaced
mutual
def PV.mapR (r : Nat → PV) : PV → PV
  | .tup xs => .tup (PV.mapRL r xs)
  | .lst xs => .lst (PV.mapRL r xs)
  | .set xs => .set (PV.mapRL r xs)
  | .dic t kvs => .dic t (PV.mapRD r kvs)
  | .ins c fs => .ins c (PV.mapRF r fs)
  | .ref l => r l
  | .non => .non | .bl b => .bl b | .int i => .int i | .str x => .str x
def PV.mapRL (r : Nat → PV) : List PV → List PV
  | [] => []
  | x :: xs => PV.mapR r x :: PV.mapRL r xs
def PV.mapRD (r : Nat → PV) : List (PV × PV) → List (PV × PV)
  | [] => []
  | (k, v) :: xs => (PV.mapR r k, PV.mapR r v) :: PV.mapRD r xs
def PV.mapRF (r : Nat → PV) : List (Nat × PV) → List (Nat × PV)
  | [] => []
  | (k, v) :: xs => (k, PV.mapR r v) :: PV.mapRF r xs
end
/-- a place that was given up -/
abbrev dead : PV := .ref 0
/-- places from n on are read as what stands there, d levels deep -/
def PV.frz (T : Store) (n : Nat) : Nat → PV → PV
  | 0, v => v
  | d + 1, v => PV.mapR (fun l => if l < n then .ref l else match T[l]? with
    | some (.ref _) => .ref l
    | some ob => PV.frz T n d ob
    | none => .ref l) v

/-- what stands at a value -/
def dr (T : Store) : PV → PV
  | .ref l => T.getD l dead
  | v => v

/-! ### results -/
structure Exn where
  cls : Nat
  fs : List (Nat × PV)

inductive Ro (α : Type) where
  | ok (a : α) (T : Store) | ex (x : Exn) (T : Store) | bad
def Ro.bind {α β : Type} (r : Ro α) (f : α → Store → Ro β) : Ro β := match r with
  | .ok a T => f a T
  | .ex x T => .ex x T
  | .bad => .bad
@[simp] theorem Ro.bind_ok {α β : Type} (a : α) (T : Store) (f : α → Store → Ro β) : (Ro.ok a T).bind f = f a T := rfl
@[simp] theorem Ro.bind_ex {α β : Type} (x : Exn) (T : Store) (f : α → Store → Ro β) : (Ro.ex x T).bind f = .ex x T := rfl
@[simp] theorem Ro.bind_bad {α β : Type} (f : α → Store → Ro β) : (Ro.bad : Ro α).bind f = .bad := rfl

inductive R where
  | nx (σ : Slots) (T : Store) | rt (v : PV) (T : Store) | bk (σ : Slots) (T : Store) | ct (σ : Slots) (T : Store)
  | ex (x : Exn) (σ : Slots) (T : Store) | bad
/-- an expression within a statement -/
def Ro.then {α : Type} (r : Ro α) (σ : Slots) (f : α → Store → R) : R := match r with
  | .ok a T => f a T
  | .ex x T => .ex x σ T
  | .bad => .bad
@[simp] theorem Ro.then_ok {α : Type} (a : α) (T : Store) (σ : Slots) (f : α → Store → R) : (Ro.ok a T).then σ f = f a T := rfl
@[simp] theorem Ro.then_ex {α : Type} (x : Exn) (T : Store) (σ : Slots) (f : α → Store → R) : (Ro.ex x T).then σ f = .ex x σ T := rfl
@[simp] theorem Ro.then_bad {α : Type} (σ : Slots) (f : α → Store → R) : (Ro.bad : Ro α).then σ f = .bad := rfl

/-! ### the primitives -/
inductive Ty where | int | bool | str | tup | lst | dic | non
  deriving DecidableEq
inductive Pr where
  | add (m : Bool) | sub | mul | fdiv | mod | pow | shl | shr | band | bor | bxor
  | neg | not
  | eq | ne | lt | le | gt | ge | isin (neg : Bool) | isn (neg : Bool) | isb (b neg : Bool)
  | ix | slc (m : Bool) | rev (m : Bool)
  | len | int | abs | str | bool | sum | all | any | gcd
  | min | max | min3 | max3 | tuple | list (m : Bool) | sorted (m : Bool)
  | set0 | set1 | dict1 (m : Bool)
  | isi (ts : List Ty)
  | append | extend | pop | popAt | sadd | dget | dgetd | setdefault | index | reverse
  deriving DecidableEq

def tyOf : PV → Option Ty
  | .non => some .non | .bl _ => some .bool | .int _ => some .int | .str _ => some .str
  | .tup _ => some .tup | .lst _ => some .lst | .dic false _ => some .dic | _ => none
/-- isinstance; a truth value is an int too -/
def tyIs (t : Ty) (ts : List Ty) : Bool := ts.any fun u => decide (u = t) || (decide (u = .int) && decide (t = .bool))

noncomputable def dlook : List (PV × PV) → PV → Option PV
  | [], _ => none
  | (k, v) :: r, x => if k = x then some v else dlook r x
noncomputable def dput (kvs : List (PV × PV)) (x y : PV) : List (PV × PV) :=
  if (dlook kvs x).isSome = true then kvs.map (fun kv => if kv.1 = x then (kv.1, y) else kv) else kvs ++ [(x, y)]
/-- a key of ints and texts -/
def isKey0 : PV → Bool
  | .int _ | .str _ => true
  | _ => false
def flook : List (Nat × PV) → Nat → Option PV
  | [], _ => none
  | (g, w) :: r, f => if f = g then some w else flook r f
def fput : List (Nat × PV) → Nat → PV → List (Nat × PV)
  | [], f, v => [(f, v)]
  | (g, w) :: r, f, v => if f = g then (g, v) :: r else (g, w) :: fput r f v

/-- a value laid: as a thing that changes, or as it is -/
def lay (m : Bool) (v : PV) (T : Store) : Ro PV := if m then .ok (.ref T.length) (T ++ [v]) else .ok v T
/-- a thing that changes is stored -/
def sto (o : PV) (v : PV) (T : Store) (a : PV) : Ro PV := match o with
  | .ref l => .ok a (T.set l v)
  | _ => .bad

structure Ctx where
  /-- the module's constant tuples -/
  kc : List PV
  call : Nat → List PV → Store → Ro PV
  glob : Nat → Option PV
  /-- a class's method by its name -/
  meth : Nat → Nat → Option Nat
  init : Nat → Option Nat
  /-- what may be a field of a class's instance -/
  fo : Nat → Nat → Bool
  /-- subclasses; the exception that is handled -/
  sub : Nat → Nat → Bool
  cur : Option Nat

/-- may be a key of a dict of the kind t -/
def isKey (kc : List PV) (t : Bool) : PV → Prop
  | .tup xs => t = true ∧ xs.all isKey0 = true ∧ .tup xs ∉ kc
  | v => t = false ∧ isKey0 v = true

def bnd64 (i : Int) : Prop := -(2 ^ 64) < i ∧ i < 2 ^ 64
noncomputable def addP (m : Bool) (a b : PV) (T : Store) : Ro PV := match dr T a, dr T b with
  | .int i, .int j => .ok (.int (i + j)) T
  | .str x, .str y => if x.length + y.length ≤ sizeLine then .ok (.str (x ++ y)) T else .bad
  | .lst xs, .lst ys => if xs.length + ys.length ≤ sizeLine then lay m (.lst (xs ++ ys)) T else .bad
  | .tup xs, .tup ys => if xs.length + ys.length ≤ sizeLine then .ok (.tup (xs ++ ys)) T else .bad
  | _, _ => .bad
noncomputable def mulP (a b : PV) (T : Store) : Ro PV := match a, b with
  | .int i, .int j => if L2.CMul i j ∨ L2.CMulX i j then .ok (.int (i * j)) T else .bad
  | .str x, .int j => if 0 ≤ j ∧ j < 2 ^ 62 ∧ x.length * j.toNat ≤ sizeLine then .ok (.str ⟨⟨(List.replicate j.toNat x.cps.toList).flatten⟩⟩) T else .bad
  | _, _ => .bad
noncomputable def i2 (c : Int → Int → Prop) (g : Int → Int → Int) (a b : PV) (T : Store) : Ro PV := match a, b with
  | .int i, .int j => if c i j then .ok (.int (g i j)) T else .bad
  | _, _ => .bad
def eqP (a b : PV) (T : Store) : Ro Bool :=
  if (dr T a).plain && (dr T b).plain && decide ((dr T a).data.depth ≤ 60) && decide ((dr T b).data.depth ≤ 60) then .ok (PyData.eqv (dr T a).data (dr T b).data) T else .bad
/-- both can be compared by place -/
def cmpOk (x y : PyData) : Prop := PySem.W.alike x y = true ∧ x ≠ .none ∧ x.depth ≤ 60 ∧ y.depth ≤ 60
noncomputable def ltP (a b : PV) (T : Store) : Ro Bool :=
  if (dr T a).plain = true ∧ (dr T b).plain = true ∧ cmpOk (dr T a).data (dr T b).data then .ok (PySem.W.dataLt (dr T a).data (dr T b).data) T else .bad
def rb (r : Ro Bool) : Ro PV := r.bind fun b T => .ok (.bl b) T
def rn (r : Ro Bool) : Ro PV := r.bind fun b T => .ok (.bl (!b)) T
/-- x in c -/
noncomputable def inP (kc : List PV) (x c : PV) (T : Store) : Ro Bool := match dr T c with
  | .lst xs | .tup xs => if (dr T x).plain && PV.plainL xs && decide ((dr T x).data.depth ≤ 60) && decide (PyData.depthAll (PV.dataL xs) ≤ 60) then .ok (xs.any fun y => PyData.eqv y.data (dr T x).data) T else .bad
  | .str y => match x with
    | .str z => .ok (!(PySem.Builtin.Str.occurrences y z 0 y.length 1).isEmpty) T
    | _ => .bad
  | .dic t kvs => if isKey kc t x then .ok (dlook kvs x).isSome T else .bad
  | .set xs => if isKey kc false x then .ok (decide (x ∈ xs)) T else .bad
  | _ => .bad
noncomputable def ixP (kc : List PV) (o i : PV) (T : Store) : Ro PV := match dr T o, i with
  | .lst xs, .int k | .tup xs, .int k => match L2.atI xs k with
    | some v => .ok v T
    | none => .bad
  | .str x, .int k => match L2.atI x.cps.toList k with
    | some c => if x.length ≤ sizeLine then .ok (.str (S [c])) T else .bad
    | none => .bad
  | .dic t kvs, k => if isKey kc t k then (match dlook kvs k with
    | some v => .ok v T
    | none => .bad) else .bad
  | _, _ => .bad
/-- a bound of a slice -/
def part : PV → Option (Option Int)
  | .non => some none
  | .int i => some (some i)
  | _ => none
def cut {α : Type} (xs : List α) (lo hi : Option Int) : List α := (xs.drop (HT.sIx xs.length 0 lo)).take (HT.sIx xs.length xs.length hi - HT.sIx xs.length 0 lo)
noncomputable def slcP (m : Bool) (o lo hi : PV) (T : Store) : Ro PV := match part lo, part hi with
  | some l, some h => match dr T o with
    | .lst xs => lay m (.lst (cut xs l h)) T
    | .tup xs => .ok (.tup (cut xs l h)) T
    | .str x => if x.length ≤ sizeLine then .ok (.str ⟨⟨cut x.cps.toList l h⟩⟩) T else .bad
    | _ => .bad
  | _, _ => .bad
def revP (m : Bool) (o : PV) (T : Store) : Ro PV := match dr T o with
  | .lst xs => lay m (.lst xs.reverse) T
  | _ => .bad
noncomputable def lenP (o : PV) (T : Store) : Ro PV := match dr T o with
  | .lst xs | .tup xs => .ok (.int xs.length) T
  | .str x => if x.length ≤ sizeLine then .ok (.int x.length) T else .bad
  | .dic false kvs => .ok (.int kvs.length) T
  | .set xs => .ok (.int xs.length) T
  | _ => .bad
/-- truth -/
noncomputable def truP (v : PV) (T : Store) : Ro Bool := match dr T v with
  | .non => .ok false T
  | .bl b => .ok b T
  | .int i => .ok (i != 0) T
  | .str x => if x.length ≤ sizeLine then .ok (x.length != 0) T else .bad
  | .lst xs | .tup xs => .ok (!xs.isEmpty) T
  | .dic false kvs => .ok (!kvs.isEmpty) T
  | _ => .bad
/-- the members that sorted, list, tuple, set walk -/
def itemsP (o : PV) (T : Store) : Option (List PV) := match dr T o with
  | .lst xs | .tup xs => some xs
  | _ => none
def intsOf : List PV → Option (List Int)
  | [] => some []
  | .int i :: r => (intsOf r).map (i :: ·)
  | _ :: _ => none
def blsOf : List PV → Option (List Bool)
  | [] => some []
  | .bl b :: r => (blsOf r).map (b :: ·)
  | _ :: _ => none
def sortOk (xs : List PV) : Prop := PV.plainL xs = true ∧ PySem.W.AllAlike (PV.dataL xs) ∧ PySem.W.Sortable (PV.dataL xs) ∧ xs.length ≤ sizeLine ∧ PyData.depthAll (PV.dataL xs) ≤ 60
def pvLe (a b : PV) : Bool := !PySem.W.dataLt b.data a.data
def sortL (xs : List PV) : List PV := xs.mergeSort pvLe
noncomputable def sortP (m : Bool) (o : PV) (T : Store) : Ro PV := match dr T o with
  | .lst xs | .tup xs => if sortOk xs then lay m (.lst (sortL xs)) T else .bad
  | _ => .bad
noncomputable def addSet (xs : List PV) (x : PV) : List PV := if x ∈ xs then xs else xs ++ [x]
def minL : List PV → Option PV
  | [] => none
  | x :: xs => some (xs.foldl (fun a y => if PySem.W.dataLt y.data a.data then y else a) x)
def maxL : List PV → Option PV
  | [] => none
  | x :: xs => some (xs.foldl (fun a y => if PySem.W.dataLt a.data y.data then y else a) x)
def minOk (xs : List PV) : Prop := PV.plainL xs = true ∧ PySem.W.AlikeAll (PV.dataL xs) ∧ PyData.depthAll (PV.dataL xs) ≤ 60
noncomputable def minP (big : Bool) (es : List PV) (T : Store) : Ro PV := match es with
  | [o] => match itemsP o T with
    | some xs => if minOk xs then (match (if big then maxL xs else minL xs) with
      | some v => .ok v T
      | none => .bad) else .bad
    | none => .bad
  | [.int i, .int j] => .ok (.int (if big then (if j > i then j else i) else (if j < i then j else i))) T
  | _ => .bad

def mm3 (big : Bool) (es : List PV) (T : Store) : Ro PV := match es with
  | [.int i, .int j, .int k] => .ok (.int (if big then (if (if i < j then j else i) < k then k else if i < j then j else i) else (if k < (if j < i then j else i) then k else if j < i then j else i))) T
  | _ => .bad
noncomputable def evP (kc : List PV) (p : Pr) (es : List PV) (T : Store) : Ro PV := match p, es with
  | .add m, [a, b] => addP m a b T
  | .sub, [.int i, .int j] => .ok (.int (i - j)) T
  | .mul, [a, b] => mulP a b T
  | .fdiv, [a, b] => i2 (fun i j => 0 < j ∧ j.natAbs.log2 < 9000) (fun i j => i / j) a b T
  | .mod, [a, b] => i2 (fun i j => 0 < j) (fun i j => i % j) a b T
  | .pow, [a, b] => i2 L2.CPow (fun i j => i ^ j.toNat) a b T
  | .shl, [a, b] => i2 L2.CShl (fun i j => i * 2 ^ j.toNat) a b T
  | .shr, [a, b] => i2 (fun i j => 0 ≤ j) (fun i j => i / 2 ^ j.toNat) a b T
  | .band, [a, b] => i2 (fun i j => True) PySem.Builtin.bitAnd a b T
  | .bor, [a, b] => i2 (fun i j => True) PySem.Builtin.bitOr a b T
  | .bxor, [a, b] => i2 (fun i j => True) PySem.Builtin.bitXor a b T
  | .neg, [.int i] => .ok (.int (-i)) T
  | .not, [a] => rn (truP a T)
  | .eq, [a, b] => rb (eqP a b T)
  | .ne, [a, b] => rn (eqP a b T)
  | .lt, [a, b] => rb (ltP a b T)
  | .gt, [a, b] => rb (ltP b a T)
  | .le, [a, b] => rn (ltP b a T)
  | .ge, [a, b] => rn (ltP a b T)
  | .isin neg, [a, b] => if neg then rn (inP kc a b T) else rb (inP kc a b T)
  | .isn neg, [a] => .ok (.bl (neg != decide (a = .non))) T
  | .isb b neg, [.bl c] => .ok (.bl (neg != (c == b))) T
  | .ix, [a, i] => ixP kc a i T
  | .slc m, [a, lo, hi] => slcP m a lo hi T
  | .rev m, [a] => revP m a T
  | .len, [a] => lenP a T
  | .int, [.int i] => .ok (.int i) T
  | .int, [.bl b] => .ok (.int (if b then 1 else 0)) T
  | .abs, [.int i] => .ok (.int (if i < 0 then -i else i)) T
  | .str, [.int i] => if i.natAbs.log2 < 1920 then .ok (.str (Str.ofString (toString i))) T else .bad
  | .bool, [a] => rb (truP a T)
  | .sum, [a] => (match dr T a with
    | .lst xs => (match intsOf xs with
      | some ns => .ok (.int ns.sum) T
      | none => .bad)
    | _ => .bad)
  | .all, [a] => (match dr T a with
    | .lst xs => (match blsOf xs with
      | some bs => .ok (.bl (bs.all id)) T
      | none => .bad)
    | _ => .bad)
  | .any, [a] => (match dr T a with
    | .lst xs => (match blsOf xs with
      | some bs => .ok (.bl (bs.any id)) T
      | none => .bad)
    | _ => .bad)
  | .gcd, [.int i, .int j] => .ok (.int ((Nat.gcd i.natAbs j.natAbs : Nat) : Int)) T
  | .min, es => minP false es T
  | .max, es => minP true es T
  | .min3, es => mm3 false es T
  | .max3, es => mm3 true es T
  | .tuple, [a] => match itemsP a T with
    | some xs => .ok (.tup xs) T
    | none => .bad
  | .list m, [a] => (match dr T a with
    | .lst xs | .tup xs => lay m (.lst xs) T
    | _ => .bad)
  | .sorted m, [a] => sortP m a T
  | .set0, [] => lay true (.set []) T
  | .set1, [a] => (match itemsP a T with
    | some xs => if xs.all isKey0 && decide (xs.length < 4000) then .ok (.set (xs.foldl addSet [])) T else .bad
    | none => .bad)
  | .dict1 m, [a] => (match dr T a with
    | .dic t kvs => lay m (.dic t kvs) T
    | _ => .bad)
  | .isi ts, [a] => (match tyOf (dr T a) with
    | some t => .ok (.bl (tyIs t ts)) T
    | none => .bad)
  | .append, [o, x] => (match dr T o with
    | .lst xs => if xs.length < sizeLine then sto o (.lst (xs ++ [x])) T .non else .bad
    | _ => .bad)
  | .extend, [o, y] => (match dr T o, dr T y with
    | .lst xs, .lst ys => if xs.length + ys.length ≤ sizeLine then sto o (.lst (xs ++ ys)) T .non else .bad
    | _, _ => .bad)
  | .pop, [o] => (match dr T o with
    | .lst xs => (match xs[xs.length - 1]? with
      | some y => sto o (.lst xs.dropLast) T y
      | none => .bad)
    | _ => .bad)
  | .popAt, [o, .int i] => (match dr T o with
    | .lst xs => (match PySem.seqIndex? i xs.length with
      | some k => (match xs[k]? with
        | some y => if -(2 ^ 63) ≤ i ∧ i < 2 ^ 63 then sto o (.lst (xs.eraseIdx k)) T y else .bad
        | none => .bad)
      | none => .bad)
    | _ => .bad)
  | .reverse, [o] => (match dr T o with
    | .lst xs => sto o (.lst xs.reverse) T .non
    | _ => .bad)
  | .sadd, [o, x] => (match dr T o with
    | .set xs => if isKey0 x = true ∧ xs.length < 4000 then sto o (.set (addSet xs x)) T .non else .bad
    | _ => .bad)
  | .dget, [o, k] => (match dr T o with
    | .dic t kvs => if isKey kc t k then .ok ((dlook kvs k).getD .non) T else .bad
    | _ => .bad)
  | .dgetd, [o, k, d] => (match dr T o with
    | .dic t kvs => if isKey kc t k then .ok ((dlook kvs k).getD d) T else .bad
    | _ => .bad)
  | .setdefault, [o, k, d] => (match dr T o with
    | .dic false kvs => if isKey kc false k ∧ kvs.length < sizeLine then (match dlook kvs k with
      | some v => (match o with
        | .ref _ => .ok v T
        | _ => .bad)
      | none => sto o (.dic false (kvs ++ [(k, d)])) T d) else .bad
    | _ => .bad)
  | .index, [o, x] => (match dr T o with
    | .lst xs => if (dr T x).plain = true ∧ PV.plainL xs = true ∧ (dr T x).data.depth ≤ 60 then (match xs.findIdx? fun y => PyData.eqv y.data (dr T x).data with
      | some j => .ok (.int j) T
      | none => .bad) else .bad
    | _ => .bad)
  | _, _ => .bad
end E
set_option Elab.async false
set_option linter.all false
set_option autoImplicit false
set_option maxRecDepth 100000
/-! Part 2: terms and what they compute. -/
namespace E
open PySem (Str PyData sizeLine)
open Classical

/-- whose method it is -/
inductive BT where | lst | dic | set | str | int
def isBT : BT → PV → Bool
  | .lst, .lst _ => true
  | .dic, .dic _ _ => true
  | .set, .set _ => true
  | .str, .str _ => true
  | .int, .int _ => true
  | _, _ => false

mutual
inductive Ex where
  | var (i : Nat)
  | cst (c : PV)
  | glb (g : Nat)
  | pr (p : Pr) (es : List Ex)
  | and (a b : Ex) | or (a b : Ex) | one (a : Ex)
  | ife (c a b : Ex)
  | ch2 (p q : Pr) (a b c : Ex)
  | tup (es : List Ex) | lst (m : Bool) (es : List Ex)
  | dic0 (m t : Bool)
  | call (f : Nat) (es : List Ex)
  | callK (f : Nat) (ks : List Nat) (es : List Ex)
  | meth (o : Ex) (m : Nat) (es : List Ex)
  | fld (o : Ex) (f : Nat)
  | new (c : Nat) (es : List Ex)
  | lc (m : Bool) (own : List Nat) (tg : Tg) (it : It) (ifs : List Ex) (elt : Ex)
  | dc (m t : Bool) (own : List Nat) (tg : Tg) (it : It) (ifs : List Ex) (k v : Ex)
  | bm (k : BT) (p : Pr) (o : Ex) (es : List Ex)
  | sl (m : Bool) (a lo hi : Ex)
  | exi (c : Nat)
  | ag (a : Bool) (own : List Nat) (tg : Tg) (it : It) (ifs : List Ex) (elt : Ex)
  | gn (p : Pr) (own : List Nat) (tg : Tg) (it : It) (ifs : List Ex) (elt : Ex)
inductive It where
  | seq (e : Ex) | rng (es : List Ex) | enum (e : Ex) | zip (a b : Ex) | vals (e : Ex) | items (e : Ex) | rev (e : Ex)
inductive Tg where
  | var (i : Nat) | tup (ts : List Tg) | sub (o i : Ex) | fld (o : Ex) (f : Nat)
end

mutual
inductive St where
  | asg (tg : Tg) (e : Ex)
  | par (i j : Nat) (a b : Ex)
  | aug (p : Pr) (i : Nat) (e : Ex)
  | exp (e : Ex)
  | ret (e : Ex) | retN
  | ife (c : Ex) (a b : List St)
  | for_ (tg : Tg) (it : It) (w : List Nat) (body : List St)
  | whl (c : Ex) (w : List Nat) (body : List St)
  | raise (c : Nat)
  | tryN (body : List St)
  | tr (body : List St) (h : Hd)
  | augS (p : Pr) (o i e : Ex)
  | augF (p : Pr) (o : Ex) (f : Nat) (e : Ex)
  | pass | brk | cnt
  | frz (i : Nat)
inductive Hd where
  | nil | cons (c : Nat) (i : Option Nat) (suite : List St) (h : Hd)
end

structure Def where
  /-- how many names there are; the first are the parameters -/
  n : Nat
  ps : Nat
  /-- what it hands back stays as it is laid -/
  raw : Bool
  body : List St

def wipe (σ : Slots) : List Nat → Slots
  | [] => σ
  | v :: vs => (wipe σ vs).set v none
abbrev Src := Option (Nat × PV)
/-- what is walked stands as it stood -/
def grd : Src → Store → Prop
  | none, _ => True
  | some (l, ob), T => T[l]? = some ob
def srcOf (v : PV) (T : Store) : Src := match v with
  | .ref l => some (l, T.getD l dead)
  | _ => none
def enumL : Nat → List PV → List PV
  | _, [] => []
  | i, x :: xs => .tup [.int i, x] :: enumL (i + 1) xs
def zipL : List PV → List PV → List PV
  | x :: xs, y :: ys => .tup [x, y] :: zipL xs ys
  | _, _ => []
def b62 (i : Int) : Prop := -(2 ^ 62) ≤ i ∧ i < 2 ^ 62
noncomputable def rngP (es : List PV) (T : Store) : Ro (Src × List PV) := match es with
  | [.int j] => if b62 j then .ok (none, (List.range j.toNat).map fun (k : Nat) => .int k) T else .bad
  | [.int i, .int j] => if b62 i ∧ b62 j then .ok (none, (List.range (j - i).toNat).map fun (k : Nat) => .int (i + k)) T else .bad
  | [.int i, .int j, .int c] => if b62 i ∧ b62 j ∧ c = -1 then .ok (none, (List.range (i - j).toNat).map fun (k : Nat) => .int (i - k)) T else .bad
  | _ => .bad
def seqP (v : PV) (T : Store) : Ro (Src × List PV) := match dr T v with
  | .lst xs | .tup xs => .ok (srcOf v T, xs) T
  | .str x => .ok (none, x.cps.toList.map fun c => .str (S [c])) T
  | _ => .bad
def enumP (v : PV) (T : Store) : Ro (Src × List PV) := match dr T v with
  | .lst xs | .tup xs => .ok (srcOf v T, enumL 0 xs) T
  | _ => .bad
def zipP (v w : PV) (T : Store) : Ro (Src × List PV) := match v, w with
  | .lst xs, .lst ys | .tup xs, .lst ys | .lst xs, .tup ys | .tup xs, .tup ys => .ok (none, zipL xs ys) T
  | _, _ => .bad
def valsP (v : PV) (T : Store) : Ro (Src × List PV) := match dr T v with
  | .dic false kvs => .ok (srcOf v T, kvs.map (·.2)) T
  | _ => .bad
def itemsD (v : PV) (T : Store) : Ro (Src × List PV) := match dr T v with
  | .dic false kvs => .ok (srcOf v T, kvs.map fun kv => .tup [kv.1, kv.2]) T
  | _ => .bad
def revI (v : PV) (T : Store) : Ro (Src × List PV) := match dr T v with
  | .lst xs => .ok (srcOf v T, xs.reverse) T
  | _ => .bad

/-- no exception is let out of a comprehension -/
def noEx {α : Type} : Ro α → Ro α
  | .ex _ _ => .bad
  | r => r
@[simp] theorem noEx_ok {α : Type} (a : α) (T : Store) : noEx (Ro.ok a T) = Ro.ok a T := rfl
@[simp] theorem noEx_bad {α : Type} : noEx (Ro.bad : Ro α) = Ro.bad := rfl
noncomputable def compL (src : Src) (step : PV → Store → Ro (Option PV)) : List PV → List PV → Store → Ro (List PV)
  | [], acc, T => if grd src T then .ok acc T else .bad
  | x :: xs, acc, T => if grd src T then (step x T).bind fun o T' => match o with
      | some y => if acc.length < sizeLine then compL src step xs (acc ++ [y]) T' else .bad
      | none => compL src step xs acc T' else .bad
noncomputable def compD (src : Src) (kc : List PV) (t : Bool) (step : PV → Store → Ro (Option (PV × PV))) : List PV → List (PV × PV) → Store → Ro (List (PV × PV))
  | [], acc, T => if grd src T then .ok acc T else .bad
  | x :: xs, acc, T => if grd src T then (step x T).bind fun o T' => match o with
      | some (k, v) => if acc.length < sizeLine ∧ isKey kc t k then compD src kc t step xs (dput acc k v) T' else .bad
      | none => compD src kc t step xs acc T' else .bad

def blP (v : PV) (T : Store) : Ro (Option Bool) := match v with
  | .bl c => .ok (some c) T
  | _ => .bad
/-- all, any: till the first that is not a -/
noncomputable def agL (src : Src) (a : Bool) (step : PV → Store → Ro (Option Bool)) : List PV → Store → Ro Bool
  | [], T => if grd src T then .ok a T else .bad
  | x :: xs, T => if grd src T then (step x T).bind fun o T' => match o with
      | some c => if c = a then agL src a step xs T' else .ok c T'
      | none => agL src a step xs T' else .bad

/-- o.f = v, o[i] = v -/
def fldP (fo : Nat → Nat → Bool) (o : PV) (f : Nat) (v : PV) (T : Store) : Ro PV := match dr T o with
  | .ins c fs => if fo c f = true ∧ fs.length < 900 then sto o (.ins c (fput fs f v)) T .non else .bad
  | _ => .bad
noncomputable def subP (kc : List PV) (o i v : PV) (T : Store) : Ro PV := match dr T o, i with
  | .lst xs, .int k => (match L2.ixN xs.length k with
    | some j => sto o (.lst (xs.set j v)) T .non
    | none => .bad)
  | .dic t kvs, k => if isKey kc t k ∧ kvs.length < sizeLine then sto o (.dic t (dput kvs k v)) T .non else .bad
  | _, _ => .bad
def unpack (v : PV) (T : Store) : Option (List PV) := match dr T v with
  | .lst xs | .tup xs => some xs
  | _ => none
def getV (σ : Slots) (i : Nat) (T : Store) : Ro PV := match σ[i]? with
  | some (some v) => .ok v T
  | _ => .bad

mutual
noncomputable def evE (C : Ctx) : Ex → Slots → Store → Ro PV
  | .var i, σ, T => getV σ i T
  | .cst c, _, T => .ok c T
  | .glb g, _, T => match C.glob g with
    | some v => .ok v T
    | none => .bad
  | .pr p es, σ, T => (evL C es σ T).bind fun vs T => noEx (evP C.kc p vs T)
  | .and a b, σ, T => (evE C a σ T).bind fun v T => (truP v T).bind fun c T => if c then evE C b σ T else .ok v T
  | .or a b, σ, T => (evE C a σ T).bind fun v T => (truP v T).bind fun c T => if c then .ok v T else evE C b σ T
  | .one a, σ, T => evE C a σ T
  | .ife c a b, σ, T => (evE C c σ T).bind fun v T => (truP v T).bind fun k T => if k then evE C a σ T else evE C b σ T
  | .ch2 p q a b c, σ, T => (evE C a σ T).bind fun x T => (evE C b σ T).bind fun y T => (noEx (evP C.kc p [x, y] T)).bind fun r T =>
      match r with
      | .bl true => (evE C c σ T).bind fun z T => noEx (evP C.kc q [y, z] T)
      | .bl false => .ok (.bl false) T
      | _ => .bad
  | .tup es, σ, T => (evL C es σ T).bind fun vs T => .ok (.tup vs) T
  | .lst m es, σ, T => (evL C es σ T).bind fun vs T => lay m (.lst vs) T
  | .dic0 m t, _, T => lay m (.dic t []) T
  | .call f es, σ, T => (evL C es σ T).bind fun vs T => C.call f vs T
  | .callK f ks es, σ, T => (evL C es σ T).bind fun vs T => C.call f (ks.map fun k => vs.getD k .non) T
  | .meth o m es, σ, T => (evE C o σ T).bind fun v T => match dr T v with
    | .ins c fs => (match C.meth c m, flook fs m with
      | some f, none => (evL C es σ T).bind fun vs T => C.call f (v :: vs) T
      | _, _ => .bad)
    | _ => .bad
  | .fld o f, σ, T => (evE C o σ T).bind fun v T => match dr T v with
    | .ins c fs => (match C.fo c f, flook fs f with
      | true, some w => .ok w T
      | _, _ => .bad)
    | _ => .bad
  | .new c es, σ, T => (evL C es σ T).bind fun vs T => match C.init c with
    | some f => (C.call f (.ref T.length :: vs) (T ++ [.ins c []])).bind fun r T' => match r with
      | .non => .ok (.ref T.length) T'
      | _ => .bad
    | none => .bad
  | .lc m own tg it ifs elt, σ, T => noEx ((evI C it σ T).bind fun sx T => (compL sx.1 (fun x T => (asgT C tg x (wipe σ own) T).bind fun σ2 T => (evT C ifs σ2 T).bind fun b T =>
      if b then (evE C elt σ2 T).bind fun y T => .ok (some y) T else .ok none T) sx.2 [] T).bind fun ys T => lay m (.lst ys) T)
  | .dc m t own tg it ifs k v, σ, T => noEx ((evI C it σ T).bind fun sx T => (compD sx.1 C.kc t (fun x T => (asgT C tg x (wipe σ own) T).bind fun σ2 T => (evT C ifs σ2 T).bind fun b T =>
      if b then (evE C k σ2 T).bind fun y T => (evE C v σ2 T).bind fun z T => .ok (some (y, z)) T else .ok none T) sx.2 [] T).bind fun ys T => lay m (.dic t ys) T)
  | .bm k p o es, σ, T => (evE C o σ T).bind fun v T => if isBT k (dr T v) then (evL C es σ T).bind fun vs T => noEx (evP C.kc p (v :: vs) T) else .bad
  | .sl m a lo hi, σ, T => (evE C a σ T).bind fun x T => (evE C lo σ T).bind fun y T => if (part y).isSome then (evE C hi σ T).bind fun z T => if (part z).isSome then noEx (evP C.kc (.slc m) [x, y, z] T) else .bad else .bad
  | .exi c, _, T => match C.cur with
    | some k => .ok (.bl (C.sub k c)) T
    | none => .bad
  | .ag a own tg it ifs elt, σ, T => noEx ((evI C it σ T).bind fun sx T => (agL sx.1 a (fun x T => (asgT C tg x (wipe σ own) T).bind fun σ2 T => (evT C ifs σ2 T).bind fun b T =>
      if b then (evE C elt σ2 T).bind blP else .ok none T) sx.2 T).bind fun c T => .ok (.bl c) T)
  | .gn p own tg it ifs elt, σ, T => noEx ((evI C it σ T).bind fun sx T => (compL sx.1 (fun x T => (asgT C tg x (wipe σ own) T).bind fun σ2 T => (evT C ifs σ2 T).bind fun b T =>
      if b then (evE C elt σ2 T).bind fun y T => .ok (some y) T else .ok none T) sx.2 [] T).bind fun ys T => evP C.kc p [.lst ys] T)
noncomputable def evL (C : Ctx) : List Ex → Slots → Store → Ro (List PV)
  | [], _, T => .ok [] T
  | e :: es, σ, T => (evE C e σ T).bind fun v T => (evL C es σ T).bind fun vs T => .ok (v :: vs) T
noncomputable def evT (C : Ctx) : List Ex → Slots → Store → Ro Bool
  | [], _, T => .ok true T
  | e :: es, σ, T => (evE C e σ T).bind fun v T => (truP v T).bind fun b T => if b then evT C es σ T else .ok false T
noncomputable def evI (C : Ctx) : It → Slots → Store → Ro (Src × List PV)
  | .seq e, σ, T => (evE C e σ T).bind seqP
  | .rng es, σ, T => (evL C es σ T).bind rngP
  | .enum e, σ, T => (evE C e σ T).bind enumP
  | .zip a b, σ, T => (evE C a σ T).bind fun v T => (evE C b σ T).bind fun w T => zipP v w T
  | .vals e, σ, T => (evE C e σ T).bind valsP
  | .items e, σ, T => (evE C e σ T).bind itemsD
  | .rev e, σ, T => (evE C e σ T).bind revI
noncomputable def asgT (C : Ctx) : Tg → PV → Slots → Store → Ro Slots
  | .var i, v, σ, T => .ok (σ.set i (some v)) T
  | .tup ts, v, σ, T => match unpack v T with
    | some xs => asgL C ts xs σ T
    | none => .bad
  | .sub o i, v, σ, T => (evE C o σ T).bind fun ov T => (evE C i σ T).bind fun iv T => (subP C.kc ov iv v T).bind fun _ T => .ok σ T
  | .fld o f, v, σ, T => (evE C o σ T).bind fun ov T => (fldP C.fo ov f v T).bind fun _ T => .ok σ T
noncomputable def asgL (C : Ctx) : List Tg → List PV → Slots → Store → Ro Slots
  | [], [], σ, T => .ok σ T
  | t :: ts, x :: xs, σ, T => (asgT C t x σ T).bind fun σ T => asgL C ts xs σ T
  | _, _, _, _ => .bad
end

/-! ### statements -/
noncomputable def forL (src : Src) (w : List Nat) (step : PV → Slots → Store → R) : List PV → Slots → Store → R
  | [], σ, T => if grd src T then .nx (wipe σ w) T else .bad
  | x :: xs, σ, T => if grd src T then (match step x σ T with
      | .nx σ' T' => forL src w step xs (wipe σ' w) T'
      | .ct σ' T' => forL src w step xs (wipe σ' w) T'
      | .bk σ' T' => .nx (wipe σ' w) T'
      | r => r) else .bad
noncomputable def whlN (c : Slots → Store → Ro Bool) (w : List Nat) (body : Slots → Store → R) : Nat → Slots → Store → R
  | 0, _, _ => .bad
  | n + 1, σ, T => match c σ T with
    | .ok true T' => (match body σ T' with
      | .nx σ' T'' => whlN c w body n (wipe σ' w) T''
      | .ct σ' T'' => whlN c w body n (wipe σ' w) T''
      | .bk σ' T'' => .nx (wipe σ' w) T''
      | r => r)
    | .ok false T' => .nx σ T'
    | .ex x T' => .ex x σ T'
    | .bad => .bad
noncomputable def whlR (c : Slots → Store → Ro Bool) (w : List Nat) (body : Slots → Store → R) (σ : Slots) (T : Store) : R :=
  if h : ∃ n, whlN c w body n σ T ≠ .bad then whlN c w body (choose h) σ T else .bad

/-- a op= b -/
noncomputable def augP (kc : List PV) (p : Pr) (v w : PV) (T : Store) : Ro PV := match v, w with
  | .int _, .int _ => noEx (evP kc p [v, w] T)
  | _, _ => .bad
def getF (fo : Nat → Nat → Bool) (o : PV) (f : Nat) (T : Store) : Ro PV := match dr T o with
  | .ins c fs => (match fo c f, flook fs f with
    | true, some w => .ok w T
    | _, _ => .bad)
  | _ => .bad
/-- the name of an except clause goes -/
def gone : Option Nat → R → R
  | some i, .nx σ T => .nx (σ.set i none) T
  | some i, .bk σ T => .bk (σ.set i none) T
  | some i, .ct σ T => .ct (σ.set i none) T
  | _, .ex _ _ _ => .bad
  | _, r => r
mutual
noncomputable def evS (C : Ctx) : St → Slots → Store → R
  | .asg tg e, σ, T => (evE C e σ T).then σ fun v T => (noEx (asgT C tg v σ T)).then σ fun σ' T => .nx σ' T
  | .par i j a b, σ, T => (evE C a σ T).then σ fun v T => (evE C b σ T).then σ fun w T => .nx ((σ.set i (some v)).set j (some w)) T
  | .aug p i e, σ, T => (getV σ i T).then σ fun v T => (evE C e σ T).then σ fun w T => (augP C.kc p v w T).then σ fun z T => .nx (σ.set i (some z)) T
  | .exp e, σ, T => (evE C e σ T).then σ fun _ T => .nx σ T
  | .ret e, σ, T => (evE C e σ T).then σ fun v T => .rt v T
  | .retN, _, T => .rt .non T
  | .ife c a b, σ, T => (evE C c σ T).then σ fun v T => (truP v T).then σ fun k T => if k then evSs C a σ T else evSs C b σ T
  | .for_ tg it w body, σ, T => (evI C it σ T).then σ fun sx T => forL sx.1 w (fun x σ T => (noEx (asgT C tg x σ T)).then σ fun σ' T => evSs C body σ' T) sx.2 σ T
  | .whl c w body, σ, T => whlR (fun σ T => (evE C c σ T).bind truP) w (evSs C body) σ T
  | .raise c, σ, T => .ex ⟨c, []⟩ σ T
  | .tryN body, σ, T => match evSs C body σ T with
    | .ex _ _ _ => .bad
    | r => r
  | .tr body h, σ, T => match evSs C body σ T with
    | .ex x σ' T' => evH C h x σ' T'
    | r => r
  | .augS p o i e, σ, T => (evE C o σ T).then σ fun ov T => (evE C i σ T).then σ fun iv T => (noEx (ixP C.kc ov iv T)).then σ fun v T => (evE C e σ T).then σ fun w T => (augP C.kc p v w T).then σ fun z T => (noEx (subP C.kc ov iv z T)).then σ fun _ T => .nx σ T
  | .augF p o f e, σ, T => (evE C o σ T).then σ fun ov T => (getF C.fo ov f T).then σ fun v T => (evE C e σ T).then σ fun w T => (augP C.kc p v w T).then σ fun z T => (noEx (fldP C.fo ov f z T)).then σ fun _ T => .nx σ T
  | .pass, σ, T => .nx σ T
  | .brk, σ, T => .bk σ T
  | .cnt, σ, T => .ct σ T
  | .frz i, σ, T => match σ[i]? with
    | some (some (.ref l)) => (match T[l]? with
      | some ob => .nx (σ.set i (some ob)) (T.set l dead)
      | none => .bad)
    | _ => .bad
noncomputable def evSs (C : Ctx) : List St → Slots → Store → R
  | [], σ, T => .nx σ T
  | s :: ss, σ, T => match evS C s σ T with
    | .nx σ' T' => evSs C ss σ' T'
    | r => r
noncomputable def evH (C : Ctx) : Hd → Exn → Slots → Store → R
  | .nil, x, σ, T => .ex x σ T
  | .cons c i suite h, x, σ, T => if C.sub x.cls c then gone i (evSs { C with cur := some x.cls } suite (match i with
    | some i => σ.set i none
    | none => σ) T) else evH C h x σ T
end

/-! ### calls -/
/-- what stood at the start may be read without what was laid since -/
def gcOk (T T' : Store) : Prop := T.length ≤ T'.length ∧ ∀ l, l < T.length → T'[l]? = T[l]? ∨ ∃ ob, T'[l]? = some ob ∧ ob.und T.length = true
noncomputable def leave (raw : Bool) (T : Store) (r : R) : Ro PV := match r with
  | .nx _ T' => if raw then .ok .non T' else if gcOk T T' then .ok .non (T'.take T.length) else .bad
  | .rt v T' => if raw then .ok v T' else
      if gcOk T T' ∧ (PV.frz T' T.length 4 v).und T.length = true then .ok (PV.frz T' T.length 4 v) (T'.take T.length) else .bad
  | .ex x _ T' => if raw then .ex x T' else if gcOk T T' ∧ PV.undF T.length x.fs = true then .ex x (T'.take T.length) else .bad
  | _ => .bad
def start (D : Def) (vs : List PV) : Slots := vs.map some ++ List.replicate (D.n - D.ps) none
noncomputable def callD (P : Nat → Option Def) (C : Ctx) : Nat → Nat → List PV → Store → Ro PV
  | 0, _, _, _ => .bad
  | d + 1, f, vs, T => match P f with
    | some D => if vs.length = D.ps then leave D.raw T (evSs { C with call := callD P C d, cur := none } D.body (start D vs) T) else .bad
    | none => .bad
end E
set_option Elab.async false
set_option linter.all false
set_option autoImplicit false
set_option maxRecDepth 100000
/-! Part 3: how values and stores stand for what the layer tracks. -/
namespace E
open PySem PySem.Spec PyProof.Rows L2

structure SE where
  P : Program
  w : World
  K : PySem.W.Frag
  kc : List PV
  cls : Nat → Addr
  nm : Nat → Option Str
  mg : Str → Option Value
  base : Heap
  /-- the defs: where each stands, how its parameters are bound -/
  fa : Nat → Addr
  fd : Nat → FuncData
  pn : Nat → List Str
  /-- the exceptions' classes; a class as a value -/
  isx : Nat → Bool
  cv : Nat → Option Value
  /-- what is known of the slots besides -/
  psi : L2.St → Prop
  /-- the tables of code objects -/
  tabs : List Addr

def kPV : Key → PV
  | .inl i => .int i
  | .inr x => .str x
open Classical in
noncomputable def setHO (Γ : SE) (a : Addr) (xs : List PV) : HO := SetK Γ.P Γ.w a (fun k => decide (kPV k ∈ xs)) xs.length

section
variable (Γ : SE) (H : Hp) (φ : List Addr) (M : Addr → Prop)
mutual
def RV : PV → V → Prop
  | .non, v => v = .non
  | .bl b, v => v = .bl b
  | .int i, v => v = .int i
  | .str x, v => v = .str x
  | .tup xs, v => ∃ a vs, v = .ref a ∧ ((H a = some (.tup vs) ∧ ¬ M a) ∨ (SqT Γ.K (fun _ => none) a vs ∧ PV.tup xs ∈ Γ.kc)) ∧ RVs xs vs
  | .lst xs, v => ∃ a vs, v = .ref a ∧ ((Rd H a (.lst vs) ∧ ¬ M a) ∨ SqL Γ.K (fun _ => none) a vs) ∧ RVs xs vs
  | .dic false kvs, v => ∃ a kv, v = .ref a ∧ Rd H a (.dK kv) ∧ ¬ M a ∧ RVk kvs kv
  | .dic true kvs, v => ∃ a kv, v = .ref a ∧ Rd H a (.dT kv) ∧ ¬ M a ∧ RVt kvs kv
  | .set xs, v => ∃ a, v = .ref a ∧ H a = some (setHO Γ a xs) ∧ ¬ M a ∧ xs.all isKey0 = true
  | .ins c fs, v => ∃ a dx fs', v = .ref a ∧ H a = some (.ins (Γ.cls c) dx fs') ∧ ¬ M a ∧ RVf fs fs'
  | .ref l, v => ∃ a, v = .ref a ∧ φ[l]? = some a
def RVs : List PV → List V → Prop
  | [], vs => vs = []
  | x :: xs, vs => ∃ v r, vs = v :: r ∧ RV x v ∧ RVs xs r
def RVk : List (PV × PV) → List (Key × V) → Prop
  | [], vs => vs = []
  | (k, x) :: xs, vs => ∃ kk v r, vs = (kk, v) :: r ∧ k = kPV kk ∧ RV x v ∧ RVk xs r
def RVt : List (PV × PV) → List (List Key × V) → Prop
  | [], vs => vs = []
  | (k, x) :: xs, vs => ∃ kk v r, vs = (kk, v) :: r ∧ k = .tup (kk.map kPV) ∧ RV x v ∧ RVt xs r
def RVf : List (Nat × PV) → List (Str × V) → Prop
  | [], vs => vs = []
  | (g, x) :: xs, vs => ∃ n v r, vs = (n, v) :: r ∧ Γ.nm g = some n ∧ RV x v ∧ RVf xs r
end
/-- an object of the store -/
def OR (a : Addr) : PV → Prop
  | .lst xs => ∃ vs, H a = some (.lst vs) ∧ RVs Γ H φ M xs vs
  | .dic false kvs => ∃ kv, H a = some (.dK kv) ∧ RVk Γ H φ M kvs kv
  | .dic true kvs => ∃ kv, H a = some (.dT kv) ∧ RVt Γ H φ M kvs kv
  | .set xs => H a = some (setHO Γ a xs) ∧ xs.all isKey0 = true
  | .ins c fs => ∃ dx fs', H a = some (.ins (Γ.cls c) dx fs') ∧ RVf Γ H φ M fs fs'
  | .ref _ => True
  | _ => False
end

/-- a place that may change -/
def Lv (φ : List Addr) (T : Store) (a : Addr) : Prop := ∃ (l : Nat) (ob : PV), T[l]? = some ob ∧ ob ≠ dead ∧ φ[l]? = some a
def MM (φ ρ : List Addr) (T : Store) (a : Addr) : Prop := Lv φ T a ∨ a ∈ ρ

structure RS (Γ : SE) (H : Hp) (φ ρ : List Addr) (T : Store) : Prop where
  len : φ.length = T.length
  nd : φ.Nodup
  trk : ∀ a ∈ φ, ∃ o, H a = some o
  res : ∀ a ∈ ρ, a ∉ φ ∧ ∃ o, H a = some o
  obj : ∀ (l : Nat) ob a, T[l]? = some ob → φ[l]? = some a → OR Γ H φ (MM φ ρ T) a ob
  tab : ∀ P ∈ Γ.tabs, GxR.TabG H P ∧ P ∉ φ ∧ P ∉ ρ

/-- slots -/
def RL (Γ : SE) (H : Hp) (φ : List Addr) (M : Addr → Prop) (σ : L2.St) (s : Slots) : Prop :=
  σ.length = s.length ∧ (∀ (i : Nat) v, s[i]? = some (some v) → ∃ u, σ[i]? = some (some u) ∧ RV Γ H φ M v u) ∧ Γ.psi σ

def isTb : HO → Prop
  | .tbl _ => True
  | _ => False
def isDic : HO → Prop
  | .dK _ => True
  | .dT _ => True
  | _ => False
/-- what values may go by -/
structure Up (H : Hp) (φ : List Addr) (M : Addr → Prop) (H' : Hp) (φ' : List Addr) (M' : Addr → Prop) : Prop where
  ph : ∀ (l : Nat) a, φ[l]? = some a → φ'[l]? = some a
  kp : ∀ a o, H a = some o → ¬ isTb o → ¬ M a → (H' a = some o ∨ (isDic o ∧ ∃ ob, H' a = some (.frz ob o))) ∧ ¬ M' a

section
variable {Γ : SE} {H H' : Hp} {φ φ' : List Addr} {M M' : Addr → Prop}
theorem Up.rd (u : Up H φ M H' φ' M') {a : Addr} {o : HO} (r : Rd H a o) (n : ¬ M a) (d : isDic o ∨ ∃ vs, o = .lst vs) : Rd H' a o ∧ ¬ M' a := by
  rcases r with r | ⟨ob, r⟩
  · obtain ⟨q, m⟩ := u.kp a _ r (by
      rcases d with d | ⟨_, rfl⟩
      · intro z; cases o <;> first | exact z.elim | exact d.elim
      · exact fun z => z) n
    rcases q with q | ⟨_, ob, q⟩
    · exact ⟨.inl q, m⟩
    · exact ⟨.inr ⟨ob, q⟩, m⟩
  · obtain ⟨q, m⟩ := u.kp a _ r (fun z => z) n
    rcases q with q | ⟨z, _⟩
    · exact ⟨.inr ⟨ob, q⟩, m⟩
    · exact z.elim
theorem Up.at (u : Up H φ M H' φ' M') {a : Addr} {o : HO} (r : H a = some o) (n : ¬ M a) (d : ¬ isDic o) (b : ¬ isTb o := by exact fun z => z) : H' a = some o ∧ ¬ M' a := by
  obtain ⟨q, m⟩ := u.kp a _ r b n
  rcases q with q | ⟨z, _⟩
  · exact ⟨q, m⟩
  · exact absurd z d
mutual
theorem RV.up (u : Up H φ M H' φ' M') : ∀ (p : PV) (v : V), RV Γ H φ M p v → RV Γ H' φ' M' p v
  | .non, v, h => by rw [RV] at h ⊢; exact h
  | .bl _, v, h => by rw [RV] at h ⊢; exact h
  | .int _, v, h => by rw [RV] at h ⊢; exact h
  | .str _, v, h => by rw [RV] at h ⊢; exact h
  | .tup xs, v, h => by
    rw [RV] at h ⊢
    obtain ⟨a, vs, e, q, r⟩ := h
    refine ⟨a, vs, e, ?_, RVs.up u xs vs r⟩
    rcases q with ⟨q, n⟩ | q
    · exact .inl (u.at q n (fun z => z))
    · exact .inr q
  | .lst xs, v, h => by
    rw [RV] at h ⊢
    obtain ⟨a, vs, e, q, r⟩ := h
    exact ⟨a, vs, e, q.imp (fun ⟨q, n⟩ => u.rd q n (.inr ⟨_, rfl⟩)) id, RVs.up u xs vs r⟩
  | .dic false kvs, v, h => by
    rw [RV] at h ⊢
    obtain ⟨a, vs, e, q, n, r⟩ := h
    obtain ⟨q', n'⟩ := u.rd q n (.inl trivial)
    exact ⟨a, vs, e, q', n', RVk.up u kvs vs r⟩
  | .dic true kvs, v, h => by
    rw [RV] at h ⊢
    obtain ⟨a, vs, e, q, n, r⟩ := h
    obtain ⟨q', n'⟩ := u.rd q n (.inl trivial)
    exact ⟨a, vs, e, q', n', RVt.up u kvs vs r⟩
  | .set xs, v, h => by
    rw [RV] at h ⊢
    obtain ⟨a, e, q, n, k⟩ := h
    obtain ⟨q', n'⟩ := u.at q n (fun z => z)
    exact ⟨a, e, q', n', k⟩
  | .ins c fs, v, h => by
    rw [RV] at h ⊢
    obtain ⟨a, dx, fs', e, q, n, r⟩ := h
    obtain ⟨q', n'⟩ := u.at q n (fun z => z)
    exact ⟨a, dx, fs', e, q', n', RVf.up u fs fs' r⟩
  | .ref l, v, h => by
    rw [RV] at h ⊢
    obtain ⟨a, e, q⟩ := h
    exact ⟨a, e, u.ph l a q⟩
theorem RVs.up (u : Up H φ M H' φ' M') : ∀ (p : List PV) (v : List V), RVs Γ H φ M p v → RVs Γ H' φ' M' p v
  | [], _, h => by rw [RVs] at h ⊢; exact h
  | x :: xs, _, h => by
    rw [RVs] at h ⊢
    obtain ⟨v, r, e, h1, h2⟩ := h
    exact ⟨v, r, e, RV.up u x v h1, RVs.up u xs r h2⟩
theorem RVk.up (u : Up H φ M H' φ' M') : ∀ (p : List (PV × PV)) (v : List (Key × V)), RVk Γ H φ M p v → RVk Γ H' φ' M' p v
  | [], _, h => by rw [RVk] at h ⊢; exact h
  | (k, x) :: xs, _, h => by
    rw [RVk] at h ⊢
    obtain ⟨kk, v, r, e, h0, h1, h2⟩ := h
    exact ⟨kk, v, r, e, h0, RV.up u x v h1, RVk.up u xs r h2⟩
theorem RVt.up (u : Up H φ M H' φ' M') : ∀ (p : List (PV × PV)) (v : List (List Key × V)), RVt Γ H φ M p v → RVt Γ H' φ' M' p v
  | [], _, h => by rw [RVt] at h ⊢; exact h
  | (k, x) :: xs, _, h => by
    rw [RVt] at h ⊢
    obtain ⟨kk, v, r, e, h0, h1, h2⟩ := h
    exact ⟨kk, v, r, e, h0, RV.up u x v h1, RVt.up u xs r h2⟩
theorem RVf.up (u : Up H φ M H' φ' M') : ∀ (p : List (Nat × PV)) (v : List (Str × V)), RVf Γ H φ M p v → RVf Γ H' φ' M' p v
  | [], _, h => by rw [RVf] at h ⊢; exact h
  | (g, x) :: xs, _, h => by
    rw [RVf] at h ⊢
    obtain ⟨n, v, r, e, h0, h1, h2⟩ := h
    exact ⟨n, v, r, e, h0, RV.up u x v h1, RVf.up u xs r h2⟩
end
theorem RL.up (u : Up H φ M H' φ' M') {σ : L2.St} {s : Slots} (h : RL Γ H φ M σ s) : RL Γ H' φ' M' σ s :=
  ⟨h.1, fun i v e => let ⟨x, e1, r⟩ := h.2.1 i v e; ⟨x, e1, r.up u⟩, h.2.2⟩
end

/-- what a step does to a state -/
structure Le (φ : List Addr) (T : Store) (H : Hp) (φ' : List Addr) (T' : Store) (H' : Hp) : Prop where
  ext : ∃ ψ, φ' = φ ++ ψ
  keep : ∀ a o, H a = some o → ¬ isTb o → ¬ Lv φ T a → H' a = some o ∧ ¬ Lv φ' T' a
  new : ∀ a o, H a = some o → a ∉ φ → a ∉ φ' ∧ ∃ o', H' a = some o'
section
variable {φ φ' φ2 ρ : List Addr} {T T' T2 : Store} {H H' H2 : Hp} {Γ : SE}
theorem Le.refl : Le φ T H φ T H := ⟨⟨[], by simp⟩, fun _ _ e _ n => ⟨e, n⟩, fun _ o e n => ⟨n, o, e⟩⟩
theorem Le.trans (a : Le φ T H φ' T' H') (b : Le φ' T' H' φ2 T2 H2) : Le φ T H φ2 T2 H2 := by
  refine ⟨?_, fun x o e b0 n => ?_, fun x o e n => ?_⟩
  · obtain ⟨ψ, e⟩ := a.ext
    obtain ⟨ψ', e'⟩ := b.ext
    exact ⟨ψ ++ ψ', by rw [e', e, List.append_assoc]⟩
  · obtain ⟨e1, n1⟩ := a.keep x o e b0 n
    exact b.keep x o e1 b0 n1
  · obtain ⟨n1, o', e1⟩ := a.new x o e n
    exact b.new x o' e1 n1
theorem Le.at (a : Le φ T H φ' T' H') {l : Nat} {x : Addr} (h : φ[l]? = some x) : φ'[l]? = some x := by
  obtain ⟨ψ, e⟩ := a.ext
  rw [e, List.getElem?_append_left (List.getElem?_eq_some_iff.mp h).1]
  exact h
theorem Le.up (a : Le φ T H φ' T' H') (r : RS Γ H φ ρ T) : Up H φ (MM φ ρ T) H' φ' (MM φ' ρ T') := by
  refine ⟨fun l x h => a.at h, fun x o e b0 n => ?_⟩
  have n0 : ¬ Lv φ T x := fun z => n (.inl z)
  obtain ⟨e1, n1⟩ := a.keep x o e b0 n0
  refine ⟨.inl e1, fun z => ?_⟩
  rcases z with z | z
  · exact n1 z
  · exact n (.inr z)
end

/-! ### a new object, a store -/
section
variable {Γ : SE} {φ ρ : List Addr} {T : Store} {H : Hp} {p : Addr} {o : HO}
theorem RS.fresh (r : RS Γ H φ ρ T) (hp : H p = none) : p ∉ φ ∧ p ∉ ρ := by
  refine ⟨fun z => ?_, fun z => ?_⟩
  · obtain ⟨o, e⟩ := r.trk p z
    rw [hp] at e; cases e
  · obtain ⟨_, o, e⟩ := r.res p z
    rw [hp] at e; cases e
theorem Lv.mem {a : Addr} (h : Lv φ T a) : a ∈ φ := by
  obtain ⟨l, ob, _, _, z⟩ := h
  exact List.mem_of_getElem? z
theorem OR.up {H' : Hp} {φ' : List Addr} {M M' : Addr → Prop} (u : Up H φ M H' φ' M') {a : Addr} {ob : PV} (e : ∀ o, H a = some o → H' a = some o) (h : OR Γ H φ M a ob) : OR Γ H' φ' M' a ob := by
  cases ob with
  | lst xs => obtain ⟨vs, h1, h2⟩ := h; exact ⟨vs, e _ h1, h2.up u⟩
  | dic t kvs =>
    cases t with
    | false => obtain ⟨vs, h1, h2⟩ := h; exact ⟨vs, e _ h1, h2.up u⟩
    | true => obtain ⟨vs, h1, h2⟩ := h; exact ⟨vs, e _ h1, h2.up u⟩
  | set xs => exact ⟨e _ h.1, h.2⟩
  | ins c fs => obtain ⟨dx, fs', h1, h2⟩ := h; exact ⟨dx, fs', e _ h1, h2.up u⟩
  | ref _ => trivial
  | _ => exact h.elim
theorem tab_upd {P : Addr} (t : GxR.TabG H P) (hne : P ≠ p) : GxR.TabG (upd H p o) P := by
  obtain ⟨ps, h1, h2⟩ := t
  exact ⟨ps, by rw [upd_ne hne]; exact h1, h2⟩
theorem tab_new {P : Addr} (t : GxR.TabG H P) (hp : H p = none) : P ≠ p := fun e => by
  obtain ⟨ps, h1, h2⟩ := t
  rw [e, hp] at h1; cases h1
theorem RS.tab0 (r : RS Γ H φ ρ T) (hp : H p = none) : ∀ P ∈ Γ.tabs, GxR.TabG (upd H p o) P ∧ P ∉ φ ∧ P ∉ ρ := fun P hP =>
  let ⟨t, n1, n2⟩ := r.tab P hP
  ⟨tab_upd t (tab_new t hp), n1, n2⟩
/-- laid as it is -/
theorem lay0 (r : RS Γ H φ ρ T) (hp : H p = none) (o : HO) : Le φ T H φ T (upd H p o) ∧ RS Γ (upd H p o) φ ρ T ∧ Up H φ (MM φ ρ T) (upd H p o) φ (MM φ ρ T) ∧ ¬ MM φ ρ T p := by
  have L : Le φ T H φ T (upd H p o) := ⟨⟨[], by simp⟩, fun a o e _ n => ⟨by rw [upd_ne (ne_of_none e hp)]; exact e, n⟩, fun a o' e n => ⟨n, o', by rw [upd_ne (ne_of_none e hp)]; exact e⟩⟩
  obtain ⟨n1, n2⟩ := r.fresh hp
  refine ⟨L, ⟨r.len, r.nd, fun a h => ?_, fun a h => ?_, fun l ob a h1 h2 => ?_, r.tab0 hp⟩, L.up r, fun z => ?_⟩
  · obtain ⟨x, e⟩ := r.trk a h
    exact ⟨x, by rw [upd_ne (ne_of_none e hp)]; exact e⟩
  · obtain ⟨h1, x, e⟩ := r.res a h
    exact ⟨h1, x, by rw [upd_ne (ne_of_none e hp)]; exact e⟩
  · exact (r.obj l ob a h1 h2).up (L.up r) fun o e => by rw [upd_ne (ne_of_none e hp)]; exact e
  · rcases z with z | z
    · exact n1 z.mem
    · exact n2 z
/-- laid as a thing that changes -/
theorem lay1 (r : RS Γ H φ ρ T) (hp : H p = none) (o : HO) (ob : PV) (hob : OR Γ (upd H p o) (φ ++ [p]) (MM (φ ++ [p]) ρ (T ++ [ob])) p ob) :
    Le φ T H (φ ++ [p]) (T ++ [ob]) (upd H p o) ∧ RS Γ (upd H p o) (φ ++ [p]) ρ (T ++ [ob]) := by
  obtain ⟨n1, n2⟩ := r.fresh hp
  have lv : ∀ a, a ≠ p → Lv (φ ++ [p]) (T ++ [ob]) a → Lv φ T a := fun a ha ⟨l, x, h1, h2, h3⟩ => by
    by_cases hl : l < φ.length
    · rw [List.getElem?_append_left hl] at h3
      rw [List.getElem?_append_left (by rw [← r.len]; exact hl)] at h1
      exact ⟨l, x, h1, h2, h3⟩
    · rw [List.getElem?_append_right (by omega)] at h3
      have : a ∈ [p] := List.mem_of_getElem? h3
      exact absurd (by simpa using this) ha
  have L : Le φ T H (φ ++ [p]) (T ++ [ob]) (upd H p o) := by
    refine ⟨⟨[p], rfl⟩, fun a o e _ n => ?_, fun a o e n => ?_⟩
    · have ha := ne_of_none e hp
      exact ⟨by rw [upd_ne ha]; exact e, fun z => n (lv a ha z)⟩
    · have ha := ne_of_none e hp
      exact ⟨by simp [n, ha], o, by rw [upd_ne ha]; exact e⟩
  refine ⟨L, by simp [r.len], ?_, fun a h => ?_, fun a h => ?_, fun l x a h1 h2 => ?_, fun P hP => let ⟨t, m1, m2⟩ := r.tab P hP; ⟨tab_upd t (tab_new t hp), by simp [m1, tab_new t hp], m2⟩⟩
  · rw [List.nodup_append]
    exact ⟨r.nd, by simp, fun a ha b hb => by
      have : b = p := by simpa using hb
      subst this
      exact fun e => n1 (e ▸ ha)⟩
  · rcases List.mem_append.mp h with h | h
    · obtain ⟨x, e⟩ := r.trk a h
      exact ⟨x, by rw [upd_ne (ne_of_none e hp)]; exact e⟩
    · have : a = p := by simpa using h
      subst this
      exact ⟨o, upd_same⟩
  · obtain ⟨h1, x, e⟩ := r.res a h
    have ha := ne_of_none e hp
    exact ⟨by simp [h1, ha], x, by rw [upd_ne ha]; exact e⟩
  · by_cases hl : l < T.length
    · rw [List.getElem?_append_left hl] at h1
      rw [List.getElem?_append_left (by rw [r.len]; exact hl)] at h2
      exact (r.obj l x a h1 h2).up (L.up r) fun o e => by rw [upd_ne (ne_of_none e hp)]; exact e
    · rw [List.getElem?_append_right (by omega)] at h1
      rw [List.getElem?_append_right (by rw [r.len]; omega)] at h2
      have e1 : l - T.length = 0 := by
        rcases Nat.eq_zero_or_pos (l - T.length) with z | z
        · exact z
        · rw [List.getElem?_eq_none (by simp; omega)] at h1; cases h1
      rw [e1] at h1
      rw [r.len, e1] at h2
      cases h1; cases h2
      exact hob
/-- a thing that changes is stored -/
theorem sto1 (r : RS Γ H φ ρ T) {l : Nat} {a : Addr} {x ob : PV} {o : HO} (h1 : T[l]? = some x) (hx : x ≠ dead) (h2 : φ[l]? = some a) (hob : ob ≠ dead)
    (h : OR Γ (upd H a o) φ (MM φ ρ (T.set l ob)) a ob) : Le φ T H φ (T.set l ob) (upd H a o) ∧ RS Γ (upd H a o) φ ρ (T.set l ob) := by
  have hl : l < T.length := (List.getElem?_eq_some_iff.mp h1).1
  have ma : a ∈ φ := List.mem_of_getElem? h2
  have ix : ∀ j, φ[j]? = some a → j = l := fun j hj => by
    obtain ⟨p1, e1⟩ := List.getElem?_eq_some_iff.mp hj
    obtain ⟨p2, e2⟩ := List.getElem?_eq_some_iff.mp h2
    exact (List.getElem_inj r.nd).mp (e1.trans e2.symm)
  have lva : Lv φ T a := ⟨l, x, h1, hx, h2⟩
  have lv : ∀ b, Lv φ (T.set l ob) b → Lv φ T b := fun b ⟨j, y, q1, q2, q3⟩ => by
    by_cases hj : j = l
    · subst hj; rw [h2] at q3; cases q3; exact lva
    · rw [List.getElem?_set_ne (fun e => hj e.symm)] at q1
      exact ⟨j, y, q1, q2, q3⟩
  have L : Le φ T H φ (T.set l ob) (upd H a o) := by
    refine ⟨⟨[], by simp⟩, fun b u e _ n => ?_, fun b u e n => ⟨n, u, by rw [upd_ne (show b ≠ a from fun z => n (z ▸ ma))]; exact e⟩⟩
    have hb : b ≠ a := fun e => n (e ▸ lva)
    exact ⟨by rw [upd_ne hb]; exact e, fun z => n (lv b z)⟩
  refine ⟨L, by simp [r.len], r.nd, fun b hb => ?_, fun b hb => ?_, fun j y b q1 q2 => ?_, fun P hP => let ⟨t, m1, m2⟩ := r.tab P hP; ⟨tab_upd t (fun z => m1 (z ▸ ma)), m1, m2⟩⟩
  · by_cases e : b = a
    · subst e; exact ⟨o, upd_same⟩
    · rw [upd_ne e]; exact r.trk b hb
  · obtain ⟨n, u, e⟩ := r.res b hb
    have hne : b ≠ a := fun z => n (z ▸ ma)
    exact ⟨n, u, by rw [upd_ne hne]; exact e⟩
  · by_cases hj : j = l
    · subst hj
      rw [List.getElem?_set_self hl] at q1
      cases q1
      rw [h2] at q2; cases q2
      exact h
    · rw [List.getElem?_set_ne (fun e => hj e.symm)] at q1
      have hne : b ≠ a := fun e => hj (ix j (e ▸ q2))
      exact (r.obj j y b q1 q2).up (L.up r) fun u e => by rw [upd_ne hne]; exact e
end
end E
set_option Elab.async false
set_option linter.all false
set_option autoImplicit false
set_option maxRecDepth 100000
set_option maxHeartbeats 1000000
/-! Part 4: the primitives do what evP says. -/
namespace E
open PySem PySem.Spec PyProof.Rows L2

def OutP (Γ : SE) (φ ρ : List Addr) (T : Store) (H : Hp) (r : Ro PV) (Q : VK) : Prop := match r with
  | .ok v T' => ∀ φ' H' u, Le φ T H φ' T' H' → RS Γ H' φ' ρ T' → RV Γ H' φ' (MM φ' ρ T') v u → Q u H'
  | _ => False
def OutB (Γ : SE) (φ ρ : List Addr) (T : Store) (H : Hp) (r : Ro Bool) (Q : Bool → Hp → Prop) : Prop := match r with
  | .ok v T' => ∀ φ' H', Le φ T H φ' T' H' → RS Γ H' φ' ρ T' → Q v H'
  | _ => False

/-- what stands at a value -/
def DV (Γ : SE) (H : Hp) (φ : List Addr) (M : Addr → Prop) : PV → V → Prop
  | .lst xs, x => ∃ p vs, x = .ref p ∧ SqL Γ.K H p vs ∧ RVs Γ H φ M xs vs
  | .tup xs, x => ∃ p vs, x = .ref p ∧ SqT Γ.K H p vs ∧ RVs Γ H φ M xs vs ∧ (PV.tup xs ∉ Γ.kc → H p = some (.tup vs))
  | .dic false kvs, x => ∃ p kv, x = .ref p ∧ Rd H p (.dK kv) ∧ RVk Γ H φ M kvs kv
  | .dic true kvs, x => ∃ p kv, x = .ref p ∧ Rd H p (.dT kv) ∧ RVt Γ H φ M kvs kv
  | .set xs, x => ∃ p, x = .ref p ∧ H p = some (setHO Γ p xs) ∧ xs.all isKey0 = true
  | .ins c fs, x => ∃ p dx fs', x = .ref p ∧ H p = some (.ins (Γ.cls c) dx fs') ∧ RVf Γ H φ M fs fs'
  | .non, x => x = .non
  | .bl b, x => x = .bl b
  | .int i, x => x = .int i
  | .str z, x => x = .str z
  | .ref _, _ => True

section
variable {Γ : SE} {H : Hp} {φ ρ : List Addr} {T : Store}
theorem sqL_any {K : PySem.W.Frag} {M : Addr → Prop} {a : Addr} {vs : List V} (h : (Rd H a (.lst vs) ∧ ¬ M a) ∨ SqL K (fun _ => none) a vs) : SqL K H a vs := by
  rcases h with h | h
  · exact .inl h.1
  · rcases h with q | q
    · rcases q with q | ⟨_, q⟩ <;> cases q
    · exact .inr q
theorem dr_rv (rs : RS Γ H φ ρ T) {a : PV} {x : V} (ra : RV Γ H φ (MM φ ρ T) a x) : DV Γ H φ (MM φ ρ T) (dr T a) x := by
  cases a with
  | non => rw [RV] at ra; exact ra
  | bl b => rw [RV] at ra; exact ra
  | int b => rw [RV] at ra; exact ra
  | str b => rw [RV] at ra; exact ra
  | tup xs =>
    rw [RV] at ra
    obtain ⟨p, vs, e, q, r⟩ := ra
    refine ⟨p, vs, e, ?_, r, fun nk => ?_⟩
    · rcases q with ⟨q, _⟩ | ⟨q, _⟩
      · exact SqT.of q
      · rcases q with q | q
        · rcases q with q | ⟨_, q⟩ <;> cases q
        · exact .inr q
    · rcases q with ⟨q, _⟩ | ⟨_, q⟩
      · exact q
      · exact absurd q nk
  | lst xs => rw [RV] at ra; obtain ⟨p, vs, e, q, r⟩ := ra; exact ⟨p, vs, e, sqL_any q, r⟩
  | dic t kvs =>
    cases t with
    | false => rw [RV] at ra; obtain ⟨p, vs, e, q, _, r⟩ := ra; exact ⟨p, vs, e, q, r⟩
    | true => rw [RV] at ra; obtain ⟨p, vs, e, q, _, r⟩ := ra; exact ⟨p, vs, e, q, r⟩
  | set xs => rw [RV] at ra; obtain ⟨p, e, q, _, r⟩ := ra; exact ⟨p, e, q, r⟩
  | ins c fs => rw [RV] at ra; obtain ⟨p, dx, fs', e, q, _, r⟩ := ra; exact ⟨p, dx, fs', e, q, r⟩
  | ref l =>
    rw [RV] at ra
    obtain ⟨p, e, hp⟩ := ra
    have hl : l < T.length := by rw [← rs.len]; exact (List.getElem?_eq_some_iff.mp hp).1
    have ho := rs.obj l T[l] p (List.getElem?_eq_getElem hl) hp
    have hd : dr T (.ref l) = T[l] := by
      show T.getD l dead = _
      simp [List.getD, List.getElem?_eq_getElem hl]
    rw [hd]
    revert ho
    generalize T[l] = ob
    intro ho
    cases ob with
    | lst xs => obtain ⟨vs, h1, h2⟩ := ho; exact ⟨p, vs, e, .inl (.inl h1), h2⟩
    | dic t kvs =>
      cases t with
      | false => obtain ⟨vs, h1, h2⟩ := ho; exact ⟨p, vs, e, .inl h1, h2⟩
      | true => obtain ⟨vs, h1, h2⟩ := ho; exact ⟨p, vs, e, .inl h1, h2⟩
    | set xs => exact ⟨p, e, ho.1, ho.2⟩
    | ins c fs => obtain ⟨dx, fs', h1, h2⟩ := ho; exact ⟨p, dx, fs', e, h1, h2⟩
    | ref _ => trivial
    | _ => exact ho.elim
/-- a thing of the store -/
theorem ref_at (rs : RS Γ H φ ρ T) {l : Nat} {x : V} (ra : RV Γ H φ (MM φ ρ T) (.ref l) x) {ob : PV} (e : dr T (.ref l) = ob) (hob : ob ≠ dead) :
    ∃ p, x = .ref p ∧ φ[l]? = some p ∧ T[l]? = some ob ∧ OR Γ H φ (MM φ ρ T) p ob := by
  rw [RV] at ra
  obtain ⟨p, ex, hp⟩ := ra
  have hl : l < T.length := by rw [← rs.len]; exact (List.getElem?_eq_some_iff.mp hp).1
  have hd : dr T (.ref l) = T[l] := by
    show T.getD l dead = _
    simp [List.getD, List.getElem?_eq_getElem hl]
  rw [hd] at e
  have h1 : T[l]? = some ob := by rw [List.getElem?_eq_getElem hl, e]
  exact ⟨p, ex, hp, h1, rs.obj l ob p h1 hp⟩
end

section
variable {Γ : SE} {φ : List Addr} {M : Addr → Prop} {X : Cx} {pins : List (Addr × Obj)} {σ : L2.St} {H : Hp} {s : Shared}
theorem sqT_any (I : Inv X pins σ H s) (hK : X.K = Γ.K) {a : Addr} {vs : List V} (h : (H a = some (.tup vs) ∧ ¬ M a) ∨ (SqT Γ.K (fun _ => none) a vs ∧ True)) : SqT X.K H a vs := by
  rw [hK]
  rcases h with ⟨q, _⟩ | ⟨q, _⟩
  · exact SqT.of q
  · rcases q with q | q
    · rcases q with q | ⟨_, q⟩ <;> cases q
    · exact .inr q
mutual
theorem reads_rv (I : Inv X pins σ H s) (hK : X.K = Γ.K) : ∀ (p : PV) (v : V) (u : Value), p.plain = true → RV Γ H φ M p v → RelV v u → ∃ as, Reads s.heap u p.data as
  | .non, v, u, _, h, r => by rw [RV] at h; subst h; cases r; exact ⟨_, Reads.none⟩
  | .bl b, v, u, _, h, r => by rw [RV] at h; subst h; cases r; exact ⟨_, Reads.bool b⟩
  | .int i, v, u, _, h, r => by rw [RV] at h; subst h; obtain ⟨t, rfl⟩ := r; exact ⟨_, Reads.int i t⟩
  | .str x, v, u, _, h, r => by rw [RV] at h; subst h; obtain ⟨t, rfl⟩ := r; exact ⟨_, Reads.str x t⟩
  | .tup xs, v, u, hp, h, r => by
    rw [RV] at h
    obtain ⟨a, vs, e, q, rr⟩ := h
    subst e
    cases r
    have hq := sqT_any (M := M) I hK (q.imp id fun z => ⟨z.1, trivial⟩)
    obtain ⟨its, rv, ⟨o, ho, hc, n, hd⟩, _⟩ := I.tuple hq
    obtain ⟨as, hr⟩ := readsAll_rv I hK xs vs its (by rw [PV.plain] at hp; exact hp) rr rv
    exact ⟨_, Reads.tuple ho hc hd hr⟩
  | .lst xs, v, u, hp, h, r => by
    rw [RV] at h
    obtain ⟨a, vs, e, q, rr⟩ := h
    subst e
    cases r
    obtain ⟨its, rv, ⟨o, n, ho, hc, _, hd⟩, _⟩ := I.list (a := a) (xs := vs) (by rw [hK]; exact sqL_any q)
    obtain ⟨as, hr⟩ := readsAll_rv I hK xs vs its (by rw [PV.plain] at hp; exact hp) rr rv
    exact ⟨_, Reads.list ho hc hd hr⟩
  | .dic _ _, _, _, hp, _, _ => by simp [PV.plain] at hp
  | .set _, _, _, hp, _, _ => by simp [PV.plain] at hp
  | .ins _ _, _, _, hp, _, _ => by simp [PV.plain] at hp
  | .ref _, _, _, hp, _, _ => by simp [PV.plain] at hp
theorem readsAll_rv (I : Inv X pins σ H s) (hK : X.K = Γ.K) : ∀ (ps : List PV) (vs : List V) (us : List Value), PV.plainL ps = true → RVs Γ H φ M ps vs → Vals vs us → ∃ as, ReadsAll s.heap us (PV.dataL ps) as
  | [], vs, us, _, h, r => by rw [RVs] at h; subst h; cases r; exact ⟨_, ReadsAll.nil⟩
  | p :: ps, vs, us, hp, h, r => by
    rw [RVs] at h
    obtain ⟨v, rr, e, h1, h2⟩ := h
    subst e
    rw [PV.plainL, Bool.and_eq_true] at hp
    cases r with
    | cons r1 r2 =>
      obtain ⟨as, q1⟩ := reads_rv I hK p v _ hp.1 h1 r1
      obtain ⟨bs, q2⟩ := readsAll_rv I hK ps rr _ hp.2 h2 r2
      exact ⟨_, ReadsAll.cons q1 q2⟩
end
theorem reads_dv (I : Inv X pins σ H s) (hK : X.K = Γ.K) (p : PV) (v : V) (u : Value) (hp : p.plain = true) (h : DV Γ H φ M p v) (r : RelV v u) : ∃ as, Reads s.heap u p.data as := by
  cases p with
  | tup xs =>
    obtain ⟨a, vs, e, q, rr, _⟩ := h
    subst e
    cases r
    obtain ⟨its, rv, ⟨o, ho, hc, n, hd⟩, _⟩ := I.tuple (a := a) (xs := vs) (by rw [hK]; exact q)
    obtain ⟨as, hr⟩ := readsAll_rv I hK xs vs its (by rw [PV.plain] at hp; exact hp) rr rv
    exact ⟨_, Reads.tuple ho hc hd hr⟩
  | lst xs =>
    obtain ⟨a, vs, e, q, rr⟩ := h
    subst e
    cases r
    obtain ⟨its, rv, ⟨o, n, ho, hc, _, hd⟩, _⟩ := I.list (a := a) (xs := vs) (by rw [hK]; exact q)
    obtain ⟨as, hr⟩ := readsAll_rv I hK xs vs its (by rw [PV.plain] at hp; exact hp) rr rv
    exact ⟨_, Reads.list ho hc hd hr⟩
  | non => exact reads_rv (M := M) (φ := φ) I hK .non v u hp (by rw [RV]; exact h) r
  | bl b => exact reads_rv (M := M) (φ := φ) I hK (.bl b) v u hp (by rw [RV]; exact h) r
  | int b => exact reads_rv (M := M) (φ := φ) I hK (.int b) v u hp (by rw [RV]; exact h) r
  | str b => exact reads_rv (M := M) (φ := φ) I hK (.str b) v u hp (by rw [RV]; exact h) r
  | _ => simp [PV.plain] at hp
mutual
theorem plain_data : ∀ (p : PV), p.plain = true → p.data.plain = true
  | .non, _ => rfl
  | .bl _, _ => rfl
  | .int _, _ => rfl
  | .str _, _ => rfl
  | .tup xs, h => by rw [PV.data, PyData.plain]; exact plain_dataL xs (by rw [PV.plain] at h; exact h)
  | .lst xs, h => by rw [PV.data, PyData.plain]; exact plain_dataL xs (by rw [PV.plain] at h; exact h)
  | .dic _ _, h => by simp [PV.plain] at h
  | .set _, h => by simp [PV.plain] at h
  | .ins _ _, h => by simp [PV.plain] at h
  | .ref _, h => by simp [PV.plain] at h
theorem plain_dataL : ∀ (ps : List PV), PV.plainL ps = true → PyData.plainAll (PV.dataL ps) = true
  | [], _ => rfl
  | p :: ps, h => by
    rw [PV.plainL, Bool.and_eq_true] at h
    rw [PV.dataL, PyData.plainAll, Bool.and_eq_true]
    exact ⟨plain_data p h.1, plain_dataL ps h.2⟩
end
theorem RVs.length : ∀ {xs : List PV} {vs : List V}, RVs Γ H φ M xs vs → vs.length = xs.length
  | [], vs, h => by rw [RVs] at h; subst h; rfl
  | x :: xs, vs, h => by
    rw [RVs] at h
    obtain ⟨v, r, e, _, h2⟩ := h
    subst e
    simp [RVs.length h2]
theorem RVs.get : ∀ {xs : List PV} {vs : List V} {i : Nat} {x : PV}, RVs Γ H φ M xs vs → xs[i]? = some x → ∃ v, vs[i]? = some v ∧ RV Γ H φ M x v
  | [], _, i, x, _, e => by simp at e
  | y :: xs, vs, 0, x, h, e => by
    rw [RVs] at h
    obtain ⟨v, r, e1, h1, _⟩ := h
    subst e1
    simp at e; subst e
    exact ⟨v, rfl, h1⟩
  | y :: xs, vs, i + 1, x, h, e => by
    rw [RVs] at h
    obtain ⟨v, r, e1, _, h2⟩ := h
    subst e1
    exact RVs.get (i := i) h2 (by simpa using e)
theorem RVs.append : ∀ {xs ys : List PV} {vs ws : List V}, RVs Γ H φ M xs vs → RVs Γ H φ M ys ws → RVs Γ H φ M (xs ++ ys) (vs ++ ws)
  | [], ys, vs, ws, h, h' => by rw [RVs] at h; subst h; exact h'
  | x :: xs, ys, vs, ws, h, h' => by
    rw [RVs] at h
    obtain ⟨v, r, e, h1, h2⟩ := h
    subst e
    rw [List.cons_append, RVs]
    exact ⟨v, r ++ ws, rfl, h1, RVs.append h2 h'⟩
theorem RVs.one {x : PV} {v : V} (h : RV Γ H φ M x v) : RVs Γ H φ M [x] [v] := by
  rw [RVs]
  exact ⟨v, [], rfl, h, by rw [RVs]⟩
theorem RVs.take : ∀ {xs : List PV} {vs : List V} (n : Nat), RVs Γ H φ M xs vs → RVs Γ H φ M (xs.take n) (vs.take n)
  | _, _, 0, _ => by simp [RVs]
  | [], vs, n + 1, h => by rw [RVs] at h; subst h; simp [RVs]
  | x :: xs, vs, n + 1, h => by
    rw [RVs] at h
    obtain ⟨v, r, e, h1, h2⟩ := h
    subst e
    rw [List.take_succ_cons, List.take_succ_cons, RVs]
    exact ⟨v, _, rfl, h1, RVs.take n h2⟩
theorem RVs.drop : ∀ {xs : List PV} {vs : List V} (n : Nat), RVs Γ H φ M xs vs → RVs Γ H φ M (xs.drop n) (vs.drop n)
  | _, _, 0, h => by simpa using h
  | [], vs, n + 1, h => by rw [RVs] at h; subst h; simp [RVs]
  | x :: xs, vs, n + 1, h => by
    rw [RVs] at h
    obtain ⟨v, r, e, h1, h2⟩ := h
    subst e
    simpa using RVs.drop n h2
theorem RVs.set : ∀ {xs : List PV} {vs : List V} {x : PV} {v : V} (n : Nat), RVs Γ H φ M xs vs → RV Γ H φ M x v → RVs Γ H φ M (xs.set n x) (vs.set n v)
  | [], vs, _, _, n, h, _ => by rw [RVs] at h; subst h; simp [RVs]
  | x :: xs, vs, y, w, 0, h, r1 => by
    rw [RVs] at h
    obtain ⟨v, r, e, h1, h2⟩ := h
    subst e
    rw [List.set_cons_zero, List.set_cons_zero, RVs]
    exact ⟨w, r, rfl, r1, h2⟩
  | x :: xs, vs, y, w, n + 1, h, r1 => by
    rw [RVs] at h
    obtain ⟨v, r, e, h1, h2⟩ := h
    subst e
    rw [List.set_cons_succ, List.set_cons_succ, RVs]
    exact ⟨v, _, rfl, h1, RVs.set n h2 r1⟩
theorem RVs.reverse : ∀ {xs : List PV} {vs : List V}, RVs Γ H φ M xs vs → RVs Γ H φ M xs.reverse vs.reverse
  | [], vs, h => by rw [RVs] at h; subst h; simp [RVs]
  | x :: xs, vs, h => by
    rw [RVs] at h
    obtain ⟨v, r, e, h1, h2⟩ := h
    subst e
    rw [List.reverse_cons, List.reverse_cons]
    exact RVs.append (RVs.reverse h2) (RVs.one h1)
end

/-! ### ends -/
section
variable {Γ : SE} {H : Hp} {φ ρ : List Addr} {T : Store} {Q : VK}
theorem OutP.here {v : PV} {u : V} (rs : RS Γ H φ ρ T) (o : OutP Γ φ ρ T H (.ok v T) Q) (r : RV Γ H φ (MM φ ρ T) v u) : Q u H := o φ H u Le.refl rs r
theorem OutP.int {i : Int} (rs : RS Γ H φ ρ T) (o : OutP Γ φ ρ T H (.ok (.int i) T) Q) : Q (.int i) H := o.here rs (by rw [RV])
theorem OutP.bl {i : Bool} (rs : RS Γ H φ ρ T) (o : OutP Γ φ ρ T H (.ok (.bl i) T) Q) : Q (.bl i) H := o.here rs (by rw [RV])
theorem OutP.str {i : Str} (rs : RS Γ H φ ρ T) (o : OutP Γ φ ρ T H (.ok (.str i) T) Q) : Q (.str i) H := o.here rs (by rw [RV])
theorem OutP.non (rs : RS Γ H φ ρ T) (o : OutP Γ φ ρ T H (.ok .non T) Q) : Q .non H := o.here rs (by rw [RV])
/-- a new tuple -/
theorem OutP.tup {xs : List PV} {vs : List V} (rs : RS Γ H φ ρ T) (o : OutP Γ φ ρ T H (.ok (.tup xs) T) Q) (r : RVs Γ H φ (MM φ ρ T) xs vs) {p : Addr} (hp : H p = none) : Q (.ref p) (upd H p (.tup vs)) := by
  obtain ⟨L, rs', U, nM⟩ := lay0 rs hp (.tup vs)
  refine o φ _ _ L rs' ?_
  rw [RV]
  exact ⟨p, vs, rfl, .inl ⟨upd_same, nM⟩, r.up U⟩
/-- a new list -/
theorem OutP.lst {m : Bool} {xs : List PV} {vs : List V} (rs : RS Γ H φ ρ T) (o : OutP Γ φ ρ T H (lay m (.lst xs) T) Q) (r : RVs Γ H φ (MM φ ρ T) xs vs) {p : Addr} (hp : H p = none) : Q (.ref p) (upd H p (.lst vs)) := by
  obtain ⟨L0, rs0, U0, nM⟩ := lay0 rs hp (.lst vs)
  cases m with
  | false =>
    refine o φ _ _ L0 rs0 ?_
    rw [RV]
    exact ⟨p, vs, rfl, .inl ⟨.inl upd_same, nM⟩, r.up U0⟩
  | true =>
    have U : Up H φ (MM φ ρ T) (upd H p (.lst vs)) (φ ++ [p]) (MM (φ ++ [p]) ρ (T ++ [.lst xs])) := by
      refine ⟨fun l a h => by rw [List.getElem?_append_left (List.getElem?_eq_some_iff.mp h).1]; exact h, fun a ob e _ n => ?_⟩
      have ha := ne_of_none e hp
      refine ⟨.inl (by rw [upd_ne ha]; exact e), fun z => ?_⟩
      rcases z with ⟨l, x, h1, h2, h3⟩ | z
      · by_cases hl : l < φ.length
        · rw [List.getElem?_append_left hl] at h3
          rw [List.getElem?_append_left (by rw [← rs.len]; exact hl)] at h1
          exact n (.inl ⟨l, x, h1, h2, h3⟩)
        · rw [List.getElem?_append_right (by omega)] at h3
          have : a ∈ [p] := List.mem_of_getElem? h3
          exact ha (by simpa using this)
      · exact n (.inr z)
    obtain ⟨L, rs'⟩ := lay1 rs hp (.lst vs) (.lst xs) ⟨vs, upd_same, r.up U⟩
    refine o _ _ _ L rs' ?_
    rw [RV]
    exact ⟨p, rfl, by rw [rs.len.symm]; simp⟩
end

/-! ### what a context must be -/
structure XG (X : Cx) (Γ : SE) : Prop where
  K : X.K = Γ.K
  P : X.prog = Γ.P
  w : X.w = Γ.w
  mg : X.mg = Γ.mg
  base : X.base = Γ.base

def rP2 (Γ : SE) (p : Pr) : R2 := fun x y H Q => ∃ φ ρ T a b, RS Γ H φ ρ T ∧ RV Γ H φ (MM φ ρ T) a x ∧ RV Γ H φ (MM φ ρ T) b y ∧ OutP Γ φ ρ T H (evP Γ.kc p [a, b] T) Q
def rP1 (Γ : SE) (p : Pr) : V → Hp → VK → Prop := fun x H Q => ∃ φ ρ T a, RS Γ H φ ρ T ∧ RV Γ H φ (MM φ ρ T) a x ∧ OutP Γ φ ρ T H (evP Γ.kc p [a] T) Q
def rPn (Γ : SE) (p : Pr) : List V → Hp → VK → Prop := fun xs H Q => ∃ φ ρ T as, RS Γ H φ ρ T ∧ RVs Γ H φ (MM φ ρ T) as xs ∧ OutP Γ φ ρ T H (evP Γ.kc p as T) Q

section
variable {Γ : SE} {X : Cx}
theorem rv_int {H : Hp} {φ : List Addr} {M : Addr → Prop} {i : Int} {x : V} (h : RV Γ H φ M (.int i) x) : x = .int i := by rw [RV] at h; exact h
theorem rv_bl {H : Hp} {φ : List Addr} {M : Addr → Prop} {i : Bool} {x : V} (h : RV Γ H φ M (.bl i) x) : x = .bl i := by rw [RV] at h; exact h
theorem rv_str {H : Hp} {φ : List Addr} {M : Addr → Prop} {i : Str} {x : V} (h : RV Γ H φ M (.str i) x) : x = .str i := by rw [RV] at h; exact h

/-- two ints under a condition -/
theorem i2_ok {f : Value → Value → Sem Value} {p : Pr} {c : Int → Int → Prop} {g : Int → Int → Int} (h : ∀ a b T, evP Γ.kc p [a, b] T = i2 c g a b T) (o : OpR X f (rI c fun i j => .int (g i j))) : OpR X f (rP2 Γ p) := by
  intro pins s σ H x y v u Q I rx ry hh
  obtain ⟨φ, ρ, T, a, b, rs, ra, rb, out⟩ := hh
  rw [h] at out
  unfold i2 at out
  split at out
  · rename_i i j
    split at out
    · rename_i hc
      have e1 := rv_int ra
      have e2 := rv_int rb
      subst e1; subst e2
      exact o pins s σ H _ _ v u Q I rx ry ⟨i, j, rfl, rfl, hc, out.int rs⟩
    · exact out.elim
  · exact out.elim
theorem op_sub_ok : OpR X (binaryOp .Sub) (rP2 Γ .sub) := by
  intro pins s σ H x y v u Q I rx ry hh
  obtain ⟨φ, ρ, T, a, b, rs, ra, rb, out⟩ := hh
  cases a <;> cases b <;> first | exact out.elim | skip
  have e1 := rv_int ra
  have e2 := rv_int rb
  subst e1; subst e2
  exact op_sub pins s σ H _ _ v u Q I rx ry ⟨_, _, rfl, rfl, OutP.int rs out⟩
theorem op_fdiv_ok : OpR X (binaryOp .FloorDiv) (rP2 Γ .fdiv) := i2_ok (fun _ _ _ => rfl) op_fdivW
theorem op_mod_ok : OpR X (binaryOp .Mod) (rP2 Γ .mod) := i2_ok (fun _ _ _ => rfl) op_mod
theorem op_pow_ok : OpR X (binaryOp .Pow) (rP2 Γ .pow) := i2_ok (fun _ _ _ => rfl) op_pow
theorem op_shl_ok : OpR X (binaryOp .LShift) (rP2 Γ .shl) := i2_ok (fun _ _ _ => rfl) op_shlW
theorem op_shr_ok : OpR X (binaryOp .RShift) (rP2 Γ .shr) := i2_ok (fun _ _ _ => rfl) op_shr
theorem op_band_ok : OpR X (binaryOp .BitAnd) (rP2 Γ .band) := i2_ok (fun _ _ _ => rfl) fun pins s σ H x y v u Q I rx ry ⟨i, j, e1, e2, _, q⟩ => op_and pins s σ H x y v u Q I rx ry ⟨i, j, e1, e2, q⟩
theorem op_bor_ok : OpR X (binaryOp .BitOr) (rP2 Γ .bor) := i2_ok (fun _ _ _ => rfl) fun pins s σ H x y v u Q I rx ry ⟨i, j, e1, e2, _, q⟩ => op_or pins s σ H x y v u Q I rx ry ⟨i, j, e1, e2, q⟩
theorem op_bxor_ok : OpR X (binaryOp .BitXor) (rP2 Γ .bxor) := i2_ok (fun _ _ _ => rfl) fun pins s σ H x y v u Q I rx ry ⟨i, j, e1, e2, _, q⟩ => op_xor pins s σ H x y v u Q I rx ry ⟨i, j, e1, e2, q⟩

/-! ### + -/
theorem rd_list {pins : List (Addr × Obj)} {σ : L2.St} {H : Hp} {s : Shared} {a : Addr} {xs : List V} (I : Inv X pins σ H s) (h : Rd H a (.lst xs)) :
    xs.length ≤ sizeLine ∧ ∃ (its : List Value) (n : Nat), Vals xs its ∧ xs.length = its.length ∧ s.heap.get? a = some { cls := .type "list", data := .seq its.toArray n } := by
  obtain ⟨z, its, n, r, e⟩ := h.ok I.hok
  exact ⟨z, its, n, r, r.length, e⟩
def rCatR (K : PySem.W.Frag) : R2 := fun x y H Q => ∃ l b xs zs, x = .ref l ∧ y = .ref b ∧ SqL K H l xs ∧ SqL K H b zs ∧ xs.length + zs.length ≤ sizeLine ∧ ∀ p, H p = none → Q (.ref p) (upd H p (.lst (xs ++ zs)))
theorem op_catR : OpR X (binaryOp .Add) (rCatR X.K) := by
  intro pins s σ H x y v u Q I rx ry h
  obtain ⟨l, b, xs, zs, rfl, rfl, hH, hB, hz, q⟩ := h
  cases rx
  cases ry
  obtain ⟨its, r, pl, z⟩ := I.list hH
  obtain ⟨its2, r2, pl2, z2⟩ := I.list hB
  have hl := r.length
  have hl2 := r2.length
  obtain ⟨⟨cls, dd, data, sl⟩, ho, hc, n, hd⟩ := pl.isList
  obtain ⟨⟨cls2, dd2, data2, sl2⟩, ho2, hc2, n2, hd2⟩ := pl2.isList
  simp only at hc hd hc2 hd2
  subst hc hd hc2 hd2
  have ea : its.toArray ++ its2.toArray = (its ++ its2).toArray := by simp
  refine concat_meets ⟨_, ho, rfl⟩ ⟨_, ho2, rfl⟩ noFill_list_add seq_list_add PySem.F.slot_list_add PySem.F.entry_list_add (PySem.F.args_list_add_2 _ _) (list_addW l b its.toArray its2.toArray n n2 dd dd2 sl sl2 (by simp only [List.size_toArray]; omega)) ⟨ho, ho2, ?_⟩
  rw [ea]
  exact ⟨.ref _, _, I.lnew (t' := s.toks) (r.append r2) (by rw [List.length_append]; omega), rfl, q _ I.fresh⟩
theorem tup_same {xs : List PV} {vs : List V} {a : Addr} {H : Hp} {φ ρ : List Addr} {T : Store} {Q : VK} (rs : RS Γ H φ ρ T) (o : OutP Γ φ ρ T H (.ok (.tup xs) T) Q) (r : RV Γ H φ (MM φ ρ T) (.tup xs) (.ref a)) : Q (.ref a) H := o.here rs r
/-- a value that is a tuple is one itself -/
theorem dr_tup_self {a : PV} {H : Hp} {φ ρ : List Addr} {T : Store} {x : V} (rs : RS Γ H φ ρ T) (ra : RV Γ H φ (MM φ ρ T) a x) {xs : List PV} (e : dr T a = .tup xs) : a = .tup xs := by
  cases a with
  | ref l =>
    obtain ⟨p, _, _, _, h⟩ := ref_at rs ra e (by simp)
    exact h.elim
  | _ => exact e
theorem op_add_ok (hX : XG X Γ) (m : Bool) : OpR X (binaryOp .Add) (rP2 Γ (.add m)) := by
  intro pins s σ H x y v u Q I rx ry hh
  obtain ⟨φ, ρ, T, a, b, rs, ra, rb, out⟩ := hh
  have da := dr_rv rs ra
  have db := dr_rv rs rb
  change OutP Γ φ ρ T H (addP m a b T) Q at out
  unfold addP at out
  split at out
  · rename_i i j e1 e2
    rw [e1] at da; rw [e2] at db
    cases da; cases db
    exact op_add pins s σ H _ _ v u Q I rx ry ⟨_, _, rfl, rfl, out.int rs⟩
  · rename_i i j e1 e2
    rw [e1] at da; rw [e2] at db
    cases da; cases db
    split at out
    · rename_i hz
      exact op_add_str pins s σ H _ _ v u Q I rx ry ⟨_, _, rfl, rfl, hz, out.str rs⟩
    · exact out.elim
  · rename_i xs ys e1 e2
    rw [e1] at da; rw [e2] at db
    obtain ⟨p, vs, ex, hp, r1⟩ := da
    obtain ⟨q, ws, ey, hq, r2⟩ := db
    subst ex; subst ey
    split at out
    · rename_i hz
      exact op_catR pins s σ H _ _ v u Q I rx ry ⟨_, _, vs, ws, rfl, rfl, by rw [hX.K]; exact hp, by rw [hX.K]; exact hq, by rw [r1.length, r2.length]; exact hz, fun p hp => out.lst rs (r1.append r2) hp⟩
    · exact out.elim
  · rename_i xs ys e1 e2
    have s1 := dr_tup_self rs ra e1
    have s2 := dr_tup_self rs rb e2
    rw [e1] at da; rw [e2] at db
    obtain ⟨p, vs, ex, hp, r1, _⟩ := da
    obtain ⟨q, ws, ey, hq, r2, _⟩ := db
    subst ex; subst ey
    rw [← hX.K] at hp hq
    split at out
    · rename_i hz
      refine op_catA pins s σ H _ _ v u Q I rx ry ⟨_, _, vs, ws, rfl, rfl, hp, hq, by rw [r1.length, r2.length]; exact hz, fun e => ?_, fun _ e => ?_, fun _ _ p hp => out.tup rs (r1.append r2) hp⟩
      · have e' : xs = [] := by
          have := r1.length; rw [e] at this
          exact List.length_eq_zero_iff.mp this.symm
        subst e'
        refine out.here rs ?_
        rw [List.nil_append, ← s2]
        exact rb
      · have e' : ys = [] := by
          have := r2.length; rw [e] at this
          exact List.length_eq_zero_iff.mp this.symm
        subst e'
        refine out.here rs ?_
        rw [List.append_nil, ← s1]
        exact ra
    · exact out.elim
  · exact out.elim
theorem op_mul_ok : OpR X (binaryOp .Mult) (rP2 Γ .mul) := by
  intro pins s σ H x y v u Q I rx ry hh
  obtain ⟨φ, ρ, T, a, b, rs, ra, rb, out⟩ := hh
  change OutP Γ φ ρ T H (mulP a b T) Q at out
  unfold mulP at out
  split at out
  · rename_i i j
    have e1 := rv_int ra
    have e2 := rv_int rb
    subst e1; subst e2
    split at out
    · rename_i hc
      rcases hc with hc | hc
      · exact op_mul pins s σ H _ _ v u Q I rx ry ⟨_, _, rfl, rfl, hc, out.int rs⟩
      · exact op_mulX pins s σ H _ _ v u Q I rx ry ⟨_, _, rfl, rfl, hc, out.int rs⟩
    · exact out.elim
  · rename_i z j
    have e1 := rv_str ra
    have e2 := rv_int rb
    subst e1; subst e2
    split at out
    · rename_i hc
      obtain ⟨h0, h62, hz⟩ := hc
      have q := out.str rs
      obtain ⟨t, rfl⟩ := rx
      obtain ⟨t', rfl⟩ := ry
      have hs := sizeLine_eq
      refine PySem.P.mul_str (by simp; omega) (fun h1 _ => ?_) (fun h1 _ => ?_) ?_
      · have hj : j = (j.toNat : Int) := by omega
        have h2 : (z.length : Int) * j ≤ 2 ^ 63 - 1 := by
          rw [hj]
          have : ((z.length * j.toNat : Nat) : Int) ≤ 2 ^ 63 - 1 := by omega
          simpa using this
        have : (z.length : Int) ≤ (2 ^ 63 - 1) / j := (Int.le_ediv_iff_mul_le (by omega)).mpr h2
        omega
      · unfold Builtin.Str.tooLong
        simp; omega
      · split
        · rename_i h1
          have e : j.toNat = 0 := by omega
          refine ⟨by decide, .str _, H, I.tok _, ⟨_, rfl⟩, ?_⟩
          rw [e] at q
          exact q
        · split
          · rename_i h1 h2
            refine ⟨.str z, H, I, ⟨_, rfl⟩, ?_⟩
            have e : (⟨⟨(List.replicate j.toNat z.cps.toList).flatten⟩⟩ : Str) = z := by
              have e1 : (List.replicate j.toNat z.cps.toList).flatten = z.cps.toList := by
                simp only [Bool.or_eq_true, beq_iff_eq] at h2
                rcases h2 with h2 | h2
                · subst h2; simp
                · have : z.cps.toList = [] := by
                    apply List.eq_nil_of_length_eq_zero
                    rw [Array.length_toList]; exact h2
                  rw [this]; simp
              rw [e1]
            rw [e] at q
            exact q
          · have e : (List.replicate j.toNat z.cps).foldl (· ++ ·) #[] = ⟨(List.replicate j.toNat z.cps.toList).flatten⟩ := by
              have g : ∀ (k : Nat) (acc : Array Nat), (List.replicate k z.cps).foldl (· ++ ·) acc = acc ++ ⟨(List.replicate k z.cps.toList).flatten⟩ := by
                intro k
                induction k with
                | zero => intro acc; simp
                | succ k ih =>
                  intro acc
                  rw [List.replicate_succ, List.foldl_cons, ih, List.replicate_succ, List.flatten_cons]
                  apply Array.toList_inj.mp
                  simp
              rw [g]
              apply Array.toList_inj.mp
              simp
            rw [e]
            refine ⟨?_, .str _, H, I.tok _, ⟨_, rfl⟩, q⟩
            show ((List.replicate j.toNat z.cps.toList).flatten).toArray.size ≤ sizeLine
            rw [List.size_toArray, List.length_flatten, List.map_replicate, List.sum_replicate_nat]
            rw [Array.length_toList]
            have : z.cps.size = z.length := rfl
            rw [this, Nat.mul_comm]
            exact hz
    · exact out.elim
  · exact out.elim
theorem un_neg_ok : UnR X (unaryOp .USub) (rP1 Γ .neg) := by
  intro pins s σ H x v Q I rx hh
  obtain ⟨φ, ρ, T, a, rs, ra, out⟩ := hh
  cases a <;> first | exact out.elim | skip
  have e1 := rv_int ra
  subst e1
  exact un_neg pins s σ H _ v Q I rx ⟨_, rfl, OutP.int rs out⟩

/-! ### comparisons -/
theorem units_ok {A : Around} {k : Nat} (hr : Room k A) {n m : Nat} (h : n ≤ 60 ∨ m ≤ 60) : A.units + 1 + min n m < cLine := by
  have := hr.un
  rcases h with h | h <;> omega
theorem units_ok' {A : Around} {k : Nat} (hr : Room k A) {n m : Nat} (h : n ≤ 60 ∨ m ≤ 60) : A.units + min n m < cLine := by
  have := units_ok hr h
  omega
theorem eqP_ok {a b : PV} {T : Store} {k : Bool} {T' : Store} (h : eqP a b T = .ok k T') : (dr T a).plain = true ∧ (dr T b).plain = true ∧ (dr T a).data.depth ≤ 60 ∧ (dr T b).data.depth ≤ 60 ∧ k = PyData.eqv (dr T a).data (dr T b).data ∧ T' = T := by
  unfold eqP at h
  split at h
  · rename_i hc
    simp only [Bool.and_eq_true, decide_eq_true_eq] at hc
    injection h with h1 h2
    exact ⟨hc.1.1.1, hc.1.1.2, hc.1.2, hc.2, h1.symm, h2.symm⟩
  · cases h
theorem rb_out {r : Ro Bool} {Q : VK} {H : Hp} {φ ρ : List Addr} {T : Store} (o : OutP Γ φ ρ T H (rb r) Q) : ∃ k T', r = .ok k T' ∧ OutP Γ φ ρ T H (.ok (.bl k) T') Q := by
  cases r with
  | ok k T' => exact ⟨k, T', rfl, o⟩
  | ex _ _ => exact o.elim
  | bad => exact o.elim
theorem rn_out {r : Ro Bool} {Q : VK} {H : Hp} {φ ρ : List Addr} {T : Store} (o : OutP Γ φ ρ T H (rn r) Q) : ∃ k T', r = .ok k T' ∧ OutP Γ φ ρ T H (.ok (.bl (!k)) T') Q := by
  cases r with
  | ok k T' => exact ⟨k, T', rfl, o⟩
  | ex _ _ => exact o.elim
  | bad => exact o.elim
theorem op_eq_ok (hX : XG X Γ) {k : Nat} (hr : Room k X.A) : OpR X (compareOp .Eq) (rP2 Γ .eq) := by
  intro pins s σ H x y v u Q I rx ry hh
  obtain ⟨φ, ρ, T, a, b, rs, ra, rb, out⟩ := hh
  obtain ⟨k, T', e, out⟩ := rb_out out
  obtain ⟨p1, p2, d1, d2, rfl, rfl⟩ := eqP_ok e
  obtain ⟨as, r1⟩ := reads_dv I hX.K _ x v p1 (dr_rv rs ra) rx
  obtain ⟨bs, r2⟩ := reads_dv I hX.K _ y u p2 (dr_rv rs rb) ry
  exact PySem.SeqAt.eq_plain r1 r2 (plain_data _ p1) (plain_data _ p2) (units_ok' hr (.inl d1)) ⟨.bl _, H, I, rfl, out.bl rs⟩
theorem op_ne_ok (hX : XG X Γ) {k : Nat} (hr : Room k X.A) : OpR X (compareOp .NotEq) (rP2 Γ .ne) := by
  intro pins s σ H x y v u Q I rx ry hh
  obtain ⟨φ, ρ, T, a, b, rs, ra, rb, out⟩ := hh
  obtain ⟨k, T', e, out⟩ := rn_out out
  obtain ⟨p1, p2, d1, d2, rfl, rfl⟩ := eqP_ok e
  obtain ⟨as, r1⟩ := reads_dv I hX.K _ x v p1 (dr_rv rs ra) rx
  obtain ⟨bs, r2⟩ := reads_dv I hX.K _ y u p2 (dr_rv rs rb) ry
  exact PySem.SeqAt.ne_plain r1 r2 (plain_data _ p1) (plain_data _ p2) (units_ok' hr (.inl d1)) ⟨.bl _, H, I, rfl, out.bl rs⟩
theorem ltP_ok {a b : PV} {T : Store} {k : Bool} {T' : Store} (h : ltP a b T = .ok k T') : (dr T a).plain = true ∧ (dr T b).plain = true ∧ cmpOk (dr T a).data (dr T b).data ∧ k = PySem.W.dataLt (dr T a).data (dr T b).data ∧ T' = T := by
  unfold ltP at h
  split at h
  · rename_i hc
    injection h with h1 h2
    exact ⟨hc.1, hc.2.1, hc.2.2, h1.symm, h2.symm⟩
  · cases h
mutual
theorem alike_symm : ∀ (x y : PyData), PySem.W.alike x y = true → PySem.W.alike y x = true
  | .none, y, h => by cases y <;> first | rfl | cases h
  | .bool _, y, h => by cases y <;> first | rfl | cases h
  | .int _, y, h => by cases y <;> first | rfl | cases h
  | .str _, y, h => by cases y <;> first | rfl | cases h
  | .list xs, y, h => by
    cases y with
    | list ys => rw [PySem.W.alike] at h ⊢; exact alikeL_symm xs ys h
    | _ => cases h
  | .tuple xs, y, h => by
    cases y with
    | tuple ys => rw [PySem.W.alike] at h ⊢; exact alikeL_symm xs ys h
    | _ => cases h
  | .dict _, y, h => by cases y <;> cases h
theorem alikeL_symm : ∀ (xs ys : List PyData), PySem.W.alikeAll xs ys = true → PySem.W.alikeAll ys xs = true
  | [], ys, _ => by cases ys <;> rfl
  | x :: xs, [], _ => rfl
  | x :: xs, y :: ys, h => by
    rw [PySem.W.alikeAll, Bool.and_eq_true] at h ⊢
    exact ⟨alike_symm x y h.1, alikeL_symm xs ys h.2⟩
end
theorem alike_none {x y : PyData} (h : PySem.W.alike x y = true) (n : x ≠ .none) : y ≠ .none := fun e => by
  subst e
  cases x <;> first | exact n rfl | cases h
theorem op_lt_ok (hX : XG X Γ) {k : Nat} (hr : Room k X.A) : OpR X (compareOp .Lt) (rP2 Γ .lt) := by
  intro pins s σ H x y v u Q I rx ry hh
  obtain ⟨φ, ρ, T, a, b, rs, ra, rb, out⟩ := hh
  obtain ⟨k, T', e, out⟩ := rb_out out
  obtain ⟨p1, p2, ⟨hc, hn, d1, d2⟩, rfl, rfl⟩ := ltP_ok e
  obtain ⟨as, r1⟩ := reads_dv I hX.K _ x v p1 (dr_rv rs ra) rx
  obtain ⟨bs, r2⟩ := reads_dv I hX.K _ y u p2 (dr_rv rs rb) ry
  exact PySem.W.lt_data r1 r2 hc hn (units_ok' hr (.inl d1)) ⟨.bl _, H, I, rfl, out.bl rs⟩
theorem op_gt_ok (hX : XG X Γ) {k : Nat} (hr : Room k X.A) : OpR X (compareOp .Gt) (rP2 Γ .gt) := by
  intro pins s σ H x y v u Q I rx ry hh
  obtain ⟨φ, ρ, T, a, b, rs, ra, rb, out⟩ := hh
  obtain ⟨k, T', e, out⟩ := rb_out out
  obtain ⟨p1, p2, ⟨hc, hn, d1, d2⟩, rfl, rfl⟩ := ltP_ok e
  obtain ⟨as, r1⟩ := reads_dv I hX.K _ x v p2 (dr_rv rs ra) rx
  obtain ⟨bs, r2⟩ := reads_dv I hX.K _ y u p1 (dr_rv rs rb) ry
  exact PySem.W.gt_data r1 r2 (alike_symm _ _ hc) (alike_none hc hn) (units_ok' hr (.inl d2)) ⟨.bl _, H, I, rfl, out.bl rs⟩
theorem op_le_ok (hX : XG X Γ) {k : Nat} (hr : Room k X.A) : OpR X (compareOp .LtE) (rP2 Γ .le) := by
  intro pins s σ H x y v u Q I rx ry hh
  obtain ⟨φ, ρ, T, a, b, rs, ra, rb, out⟩ := hh
  obtain ⟨k, T', e, out⟩ := rn_out out
  obtain ⟨p1, p2, ⟨hc, hn, d1, d2⟩, rfl, rfl⟩ := ltP_ok e
  obtain ⟨as, r1⟩ := reads_dv I hX.K _ x v p2 (dr_rv rs ra) rx
  obtain ⟨bs, r2⟩ := reads_dv I hX.K _ y u p1 (dr_rv rs rb) ry
  exact PySem.W.le_data r1 r2 (alike_symm _ _ hc) (alike_none hc hn) (units_ok' hr (.inl d2)) ⟨.bl _, H, I, rfl, out.bl rs⟩
theorem op_ge_ok (hX : XG X Γ) {k : Nat} (hr : Room k X.A) : OpR X (compareOp .GtE) (rP2 Γ .ge) := by
  intro pins s σ H x y v u Q I rx ry hh
  obtain ⟨φ, ρ, T, a, b, rs, ra, rb, out⟩ := hh
  obtain ⟨k, T', e, out⟩ := rn_out out
  obtain ⟨p1, p2, ⟨hc, hn, d1, d2⟩, rfl, rfl⟩ := ltP_ok e
  obtain ⟨as, r1⟩ := reads_dv I hX.K _ x v p1 (dr_rv rs ra) rx
  obtain ⟨bs, r2⟩ := reads_dv I hX.K _ y u p2 (dr_rv rs rb) ry
  exact PySem.W.ge_data r1 r2 hc hn (units_ok' hr (.inl d1)) ⟨.bl _, H, I, rfl, out.bl rs⟩
end
end E
set_option Elab.async false
set_option linter.all false
set_option autoImplicit false
set_option maxRecDepth 100000
set_option maxHeartbeats 1000000
/-! Part 5: members, items, lengths, truth, built-in functions. -/
namespace E
open PySem PySem.Spec PyProof.Rows L2

/-! ### keys -/
theorem key0 {p : PV} (h : isKey0 p = true) : ∃ k, p = kPV k := by
  cases p <;> first | cases h | skip
  · exact ⟨.inl _, rfl⟩
  · exact ⟨.inr _, rfl⟩
theorem key0s : ∀ {xs : List PV}, xs.all isKey0 = true → ∃ ks : List Key, xs = ks.map kPV
  | [], _ => ⟨[], rfl⟩
  | x :: xs, h => by
    rw [List.all_cons, Bool.and_eq_true] at h
    obtain ⟨k, e⟩ := key0 h.1
    obtain ⟨ks, e2⟩ := key0s h.2
    exact ⟨k :: ks, by rw [e, e2]; rfl⟩
theorem kPV_inj {a b : Key} (h : kPV a = kPV b) : a = b := by
  cases a <;> cases b <;> (simp only [kPV] at h; first | cases h | skip) <;> rfl
theorem kPVs_inj : ∀ {a b : List Key}, a.map kPV = b.map kPV → a = b
  | [], [], _ => rfl
  | [], _ :: _, h => by simp at h
  | _ :: _, [], h => by simp at h
  | x :: a, y :: b, h => by
    simp only [List.map_cons, List.cons.injEq] at h
    rw [kPV_inj h.1, kPVs_inj h.2]
section
variable {Γ : SE} {H : Hp} {φ ρ : List Addr} {M : Addr → Prop} {T : Store}
theorem rv_key {k : Key} {y : V} (h : RV Γ H φ M (kPV k) y) : y = kV k := by
  cases k <;> (rw [kPV, RV] at h; exact h)
theorem rv_keys : ∀ {ks : List Key} {ys : List V}, RVs Γ H φ M (ks.map kPV) ys → ys = ks.map kV
  | [], ys, h => by rw [List.map_nil, RVs] at h; exact h
  | k :: ks, ys, h => by
    rw [List.map_cons, RVs] at h
    obtain ⟨v, r, e, h1, h2⟩ := h
    rw [e, rv_key h1, rv_keys h2]
    rfl
theorem key_rv (k : Key) : RV Γ H φ M (kPV k) (kV k) := by
  cases k <;> (rw [kPV, RV]; rfl)
theorem keys_rv : ∀ (ks : List Key), RVs Γ H φ M (ks.map kPV) (ks.map kV)
  | [] => by rw [List.map_nil, RVs]; rfl
  | k :: ks => by
    rw [List.map_cons, RVs]
    exact ⟨_, _, rfl, key_rv k, keys_rv ks⟩
/-- a key's value -/
theorem isKey_f {kc : List PV} {p : PV} (h : isKey kc false p) : ∃ k, p = kPV k := by
  cases p with
  | int i => exact ⟨.inl i, rfl⟩
  | str i => exact ⟨.inr i, rfl⟩
  | tup xs => exact absurd h.1 (by decide)
  | _ => exact absurd h.2 (by simp [isKey0])
theorem isKey_t {kc : List PV} {p : PV} (h : isKey kc true p) : ∃ ks : List Key, p = .tup (ks.map kPV) ∧ p ∉ kc := by
  cases p with
  | tup xs =>
    obtain ⟨_, h1, h2⟩ := h
    obtain ⟨ks, e⟩ := key0s h1
    exact ⟨ks, by rw [e], h2⟩
  | _ => exact absurd h.1 (by decide)
theorem rv_tupKey {ks : List Key} {y : V} (h : RV Γ H φ M (.tup (ks.map kPV)) y) (n : PV.tup (ks.map kPV) ∉ Γ.kc) : ∃ b, y = .ref b ∧ H b = some (.tup (ks.map kV)) ∧ ¬ M b := by
  rw [RV] at h
  obtain ⟨a, vs, e, q, r⟩ := h
  rcases q with ⟨q, m⟩ | ⟨_, q⟩
  · rw [rv_keys r] at q
    exact ⟨a, e, q, m⟩
  · exact absurd q n

/-! ### look-ups -/
theorem look_k : ∀ {kvs : List (PV × PV)} {kv : List (Key × V)} (k : Key), RVk Γ H φ M kvs kv →
    (∃ p v, dlook kvs (kPV k) = some p ∧ valV kv k = some v ∧ RV Γ H φ M p v) ∨ (dlook kvs (kPV k) = none ∧ valV kv k = none)
  | [], kv, k, h => by rw [RVk] at h; subst h; exact .inr ⟨rfl, rfl⟩
  | (k', x) :: kvs, kv, k, h => by
    rw [RVk] at h
    obtain ⟨kk, v, r, e, h0, h1, h2⟩ := h
    subst e h0
    by_cases hk : kk = k
    · subst hk
      exact .inl ⟨x, v, by simp [dlook], valV_pos rfl, h1⟩
    · have hn : ¬ kPV kk = kPV k := fun z => hk (kPV_inj z)
      rw [valV_neg (by exact hk)]
      simp only [dlook, if_neg hn]
      exact look_k k h2
theorem look_t : ∀ {kvs : List (PV × PV)} {kv : List (List Key × V)} (k : List Key), RVt Γ H φ M kvs kv →
    (∃ p v, dlook kvs (.tup (k.map kPV)) = some p ∧ valV kv k = some v ∧ RV Γ H φ M p v) ∨ (dlook kvs (.tup (k.map kPV)) = none ∧ valV kv k = none)
  | [], kv, k, h => by rw [RVt] at h; subst h; exact .inr ⟨rfl, rfl⟩
  | (k', x) :: kvs, kv, k, h => by
    rw [RVt] at h
    obtain ⟨kk, v, r, e, h0, h1, h2⟩ := h
    subst e h0
    by_cases hk : kk = k
    · subst hk
      exact .inl ⟨x, v, by simp [dlook], valV_pos rfl, h1⟩
    · have hn : ¬ PV.tup (kk.map kPV) = .tup (k.map kPV) := fun z => hk (kPVs_inj (PV.tup.inj z))
      rw [valV_neg (by exact hk)]
      simp only [dlook, if_neg hn]
      exact look_t k h2
theorem RVk.length : ∀ {kvs : List (PV × PV)} {kv : List (Key × V)}, RVk Γ H φ M kvs kv → kv.length = kvs.length
  | [], kv, h => by rw [RVk] at h; subst h; rfl
  | (_, _) :: _, kv, h => by
    rw [RVk] at h
    obtain ⟨_, _, r, e, _, _, h2⟩ := h
    subst e
    simp [RVk.length h2]
theorem RVt.length : ∀ {kvs : List (PV × PV)} {kv : List (List Key × V)}, RVt Γ H φ M kvs kv → kv.length = kvs.length
  | [], kv, h => by rw [RVt] at h; subst h; rfl
  | (_, _) :: _, kv, h => by
    rw [RVt] at h
    obtain ⟨_, _, r, e, _, _, h2⟩ := h
    subst e
    simp [RVt.length h2]
/-- what is got -/
theorem dget_f {kvs : List (PV × PV)} {kv : List (Key × V)} {a : Addr} {k : PV} {y : V} {kc : List PV} (hk : isKey kc false k) (hd : Rd H a (.dK kv)) (r : RVk Γ H φ M kvs kv) (ry : RV Γ H φ M k y) :
    ∃ o, DGet H a y o ∧ ((∃ p v, dlook kvs k = some p ∧ o = some v ∧ RV Γ H φ M p v) ∨ (dlook kvs k = none ∧ o = none)) := by
  obtain ⟨kk, rfl⟩ := isKey_f hk
  have e := rv_key ry
  subst e
  refine ⟨valV kv kk, .inl ⟨kv, kk, hd, rfl, rfl⟩, ?_⟩
  rcases look_k kk r with ⟨p, v, e1, e2, q⟩ | ⟨e1, e2⟩
  · exact .inl ⟨p, v, e1, e2, q⟩
  · exact .inr ⟨e1, e2⟩
theorem dget_t {kvs : List (PV × PV)} {kv : List (List Key × V)} {a : Addr} {k : PV} {y : V} (hk : isKey Γ.kc true k) (hd : Rd H a (.dT kv)) (r : RVt Γ H φ M kvs kv) (ry : RV Γ H φ M k y) :
    ∃ o, DGet H a y o ∧ ((∃ p v, dlook kvs k = some p ∧ o = some v ∧ RV Γ H φ M p v) ∨ (dlook kvs k = none ∧ o = none)) := by
  obtain ⟨ks, rfl, hn⟩ := isKey_t hk
  obtain ⟨b, e, hb, _⟩ := rv_tupKey ry hn
  subst e
  refine ⟨valV kv ks, .inr ⟨kv, ks, b, hd, rfl, hb, rfl⟩, ?_⟩
  rcases look_t ks r with ⟨p, v, e1, e2, q⟩ | ⟨e1, e2⟩
  · exact .inl ⟨p, v, e1, e2, q⟩
  · exact .inr ⟨e1, e2⟩
/-- both kinds at once -/
theorem dget_any {t : Bool} {kvs : List (PV × PV)} {x : V} {k : PV} {y : V} (hk : isKey Γ.kc t k) (hd : DV Γ H φ M (.dic t kvs) x) (ry : RV Γ H φ M k y) :
    ∃ a o, x = .ref a ∧ DGet H a y o ∧ IsD H a ∧ ((∃ p v, dlook kvs k = some p ∧ o = some v ∧ RV Γ H φ M p v) ∨ (dlook kvs k = none ∧ o = none)) := by
  cases t with
  | false =>
    obtain ⟨a, kv, e, hd, r⟩ := hd
    obtain ⟨o, g, q⟩ := dget_f hk hd r ry
    exact ⟨a, o, e, g, .inl ⟨kv, hd⟩, q⟩
  | true =>
    obtain ⟨a, kv, e, hd, r⟩ := hd
    obtain ⟨o, g, q⟩ := dget_t hk hd r ry
    exact ⟨a, o, e, g, .inr ⟨kv, hd⟩, q⟩
open Classical in
theorem map_k : ∀ {kvs : List (PV × PV)} {kv : List (Key × V)} (k : Key) {p : PV} {v : V}, RVk Γ H φ M kvs kv → RV Γ H φ M p v →
    RVk Γ H φ M (kvs.map (fun q => if q.1 = kPV k then (q.1, p) else q)) (kv.map fun q => if q.1 = k then (q.1, v) else q)
  | [], kv, k, p, v, h, r => by rw [RVk] at h; subst h; simp [RVk]
  | (k', x) :: kvs, kv, k, p, v, h, r => by
    rw [RVk] at h
    obtain ⟨kk, w, rr, e, h0, h1, h2⟩ := h
    subst e h0
    have ih := map_k k h2 r
    by_cases hk : kk = k
    · subst hk
      simp only [List.map_cons, if_pos rfl]
      rw [RVk]
      exact ⟨kk, v, _, rfl, rfl, r, ih⟩
    · have hn : ¬ kPV kk = kPV k := fun z => hk (kPV_inj z)
      simp only [List.map_cons, if_neg hk, if_neg hn]
      rw [RVk]
      exact ⟨kk, w, _, rfl, rfl, h1, ih⟩
open Classical in
theorem map_t : ∀ {kvs : List (PV × PV)} {kv : List (List Key × V)} (k : List Key) {p : PV} {v : V}, RVt Γ H φ M kvs kv → RV Γ H φ M p v →
    RVt Γ H φ M (kvs.map (fun q => if q.1 = PV.tup (k.map kPV) then (q.1, p) else q)) (kv.map fun q => if q.1 = k then (q.1, v) else q)
  | [], kv, k, p, v, h, r => by rw [RVt] at h; subst h; simp [RVt]
  | (k', x) :: kvs, kv, k, p, v, h, r => by
    rw [RVt] at h
    obtain ⟨kk, w, rr, e, h0, h1, h2⟩ := h
    subst e h0
    have ih := map_t k h2 r
    by_cases hk : kk = k
    · subst hk
      simp only [List.map_cons, if_pos rfl]
      rw [RVt]
      exact ⟨kk, v, _, rfl, rfl, r, ih⟩
    · have hn : ¬ PV.tup (kk.map kPV) = .tup (k.map kPV) := fun z => hk (kPVs_inj (PV.tup.inj z))
      simp only [List.map_cons, if_neg hk, if_neg hn]
      rw [RVt]
      exact ⟨kk, w, _, rfl, rfl, h1, ih⟩
theorem RVk.append : ∀ {a b : List (PV × PV)} {c d : List (Key × V)}, RVk Γ H φ M a c → RVk Γ H φ M b d → RVk Γ H φ M (a ++ b) (c ++ d)
  | [], b, c, d, h, h' => by rw [RVk] at h; subst h; exact h'
  | (k, x) :: a, b, c, d, h, h' => by
    rw [RVk] at h
    obtain ⟨kk, w, rr, e, h0, h1, h2⟩ := h
    subst e h0
    rw [List.cons_append, List.cons_append, RVk]
    exact ⟨kk, w, _, rfl, rfl, h1, RVk.append h2 h'⟩
theorem RVt.append : ∀ {a b : List (PV × PV)} {c d : List (List Key × V)}, RVt Γ H φ M a c → RVt Γ H φ M b d → RVt Γ H φ M (a ++ b) (c ++ d)
  | [], b, c, d, h, h' => by rw [RVt] at h; subst h; exact h'
  | (k, x) :: a, b, c, d, h, h' => by
    rw [RVt] at h
    obtain ⟨kk, w, rr, e, h0, h1, h2⟩ := h
    subst e h0
    rw [List.cons_append, List.cons_append, RVt]
    exact ⟨kk, w, _, rfl, rfl, h1, RVt.append h2 h'⟩
theorem dput_k {kvs : List (PV × PV)} {kv : List (Key × V)} (k : Key) {p : PV} {v : V} (h : RVk Γ H φ M kvs kv) (r : RV Γ H φ M p v) : RVk Γ H φ M (dput kvs (kPV k) p) (putK kv k v) := by
  unfold dput putK
  rw [valV_any]
  rcases look_k k h with ⟨q, w, e1, e2, _⟩ | ⟨e1, e2⟩
  · rw [e1, e2]
    simp only [Option.isSome_some, if_true]
    exact map_k k h r
  · rw [e1, e2]
    simp only [Option.isSome_none, Bool.false_eq_true, if_false]
    refine h.append ?_
    rw [RVk]
    exact ⟨k, v, [], rfl, rfl, r, by rw [RVk]⟩
theorem dput_t {kvs : List (PV × PV)} {kv : List (List Key × V)} (k : List Key) {p : PV} {v : V} (h : RVt Γ H φ M kvs kv) (r : RV Γ H φ M p v) : RVt Γ H φ M (dput kvs (.tup (k.map kPV)) p) (putK kv k v) := by
  unfold dput putK
  rw [valV_any]
  rcases look_t k h with ⟨q, w, e1, e2, _⟩ | ⟨e1, e2⟩
  · rw [e1, e2]
    simp only [Option.isSome_some, if_true]
    exact map_t k h r
  · rw [e1, e2]
    simp only [Option.isSome_none, Bool.false_eq_true, if_false]
    refine h.append ?_
    rw [RVt]
    exact ⟨k, v, [], rfl, rfl, r, by rw [RVt]⟩
end

/-! ### o[i] -/
section
variable {Γ : SE} {X : Cx}
theorem ix_dict (hu : X.A.units + 1 < cLine) : IxR X (fun x y H Q => ∃ a v, x = .ref a ∧ DGet H a y (some v) ∧ Q v H) := by
  intro value slice pins s σ H x y v u Q I rx ry h hs
  obtain ⟨a, w, ex, g, q⟩ := h
  subst ex
  obtain rfl : v = Value.ref a := rx
  have hT := dict_typeIs I g
  have h₂ := d_getItem hu I g ry (A := X.A) (E := X.xe) (Q := EP X pins σ Q) fun w' s3 I3 rw' => ⟨w, H, I3, rw', q⟩
  unfold subscriptTail
  refine wpAny_bind ?_
  rw [getitemInPython_of_ne hT.not_modules]
  refine wpAny_bind (wpAny_specialOf hT PySem.F.slot_dict_getitem.lookup ?_)
  have fin : wpAny (model X.prog X.w) X.A (subscripted slice false (.ref a) u) (fun r s₃ => wpAny (model X.prog X.w) X.A (letTemporaryGo value (.ref a) r >>= fun _ => pure r) (EP X pins σ Q) X.xe s₃) X.xe s := by
    rw [hs]
    exact wpAny_operating (wpAny_mono h₂ (fun r s₃ h₃ => wpAny_bind (wpAny_letTemporaryGo (wpAny_pure h₃))) fun _ _ x => x)
  first
    | exact wpAny_pure (wpAny_bind fin)
    | exact wpAny_bind (wpAny_pure (wpAny_bind fin))
    | exact wpAny_bind fin
theorem S_chr (c : Nat) : S [c] = ⟨#[c]⟩ := rfl
theorem atI_rv {H : Hp} {φ : List Addr} {M : Addr → Prop} {xs : List PV} {vs : List V} {k : Int} {v : PV} (r : RVs Γ H φ M xs vs) (e : atI xs k = some v) : ∃ w, atI vs k = some w ∧ RV Γ H φ M v w := by
  unfold atI at e ⊢
  rw [r.length]
  cases q : ixN xs.length k with
  | none => rw [q] at e; cases e
  | some j =>
    rw [q] at e
    exact r.get e
theorem ix_ok (hX : XG X Γ) (hu : X.A.units + 1 < cLine) : IxR X (rP2 Γ .ix) := by
  intro value slice pins s σ H x y v u Q I rx ry hh hs
  obtain ⟨φ, ρ, T, a, b, rs, ra, rb, out⟩ := hh
  have da := dr_rv rs ra
  change OutP Γ φ ρ T H (ixP Γ.kc a b T) Q at out
  unfold ixP at out
  split at out
  · rename_i xs k e1
    rw [e1] at da
    obtain ⟨p, vs, ex, hp, r1⟩ := da
    have e2 := rv_int rb
    subst ex e2
    split at out
    · rename_i w hw
      obtain ⟨z, hz, rz⟩ := atI_rv r1 hw
      exact ix_list value slice pins s σ H _ _ v u Q I rx ry ⟨p, vs, k, z, rfl, rfl, by rw [hX.K]; exact hp, hz, out.here rs rz⟩ hs
    · exact out.elim
  · rename_i xs k e1
    rw [e1] at da
    obtain ⟨p, vs, ex, hp, r1, _⟩ := da
    have e2 := rv_int rb
    subst ex e2
    split at out
    · rename_i w hw
      obtain ⟨z, hz, rz⟩ := atI_rv r1 hw
      exact ix_tup value slice pins s σ H _ _ v u Q I rx ry ⟨p, vs, k, z, rfl, rfl, by rw [hX.K]; exact hp, hz, out.here rs rz⟩ hs
    · exact out.elim
  · rename_i z k e1
    rw [e1] at da
    have e2 := rv_int rb
    cases da
    subst e2
    split at out
    · rename_i c hc
      split at out
      · rename_i hz
        exact ix_str value slice pins s σ H _ _ v u Q I rx ry ⟨z, k, c, rfl, rfl, hz, hc, out.str rs⟩ hs
      · exact out.elim
    · exact out.elim
  · rename_i t kvs k e1
    rw [e1] at da
    split at out
    · rename_i hk
      obtain ⟨p, o, ex, g, _, q⟩ := dget_any hk da rb
      subst ex
      rcases q with ⟨z, w, e3, e4, rz⟩ | ⟨e3, e4⟩
      · rw [e3] at out
        subst e4
        exact ix_dict hu value slice pins s σ H _ _ v u Q I rx ry ⟨p, w, rfl, g, out.here rs rz⟩ hs
      · rw [e3] at out
        exact out.elim
    · exact out.elim
  · exact out.elim

/-! ### slices -/
theorem cut_eq (xs : List V) (lo hi : Option Int) : cut xs lo hi = cutV xs lo hi := rfl
theorem RVs.cut {H : Hp} {φ : List Addr} {M : Addr → Prop} {xs : List PV} {vs : List V} (r : RVs Γ H φ M xs vs) (lo hi : Option Int) : RVs Γ H φ M (cut xs lo hi) (cutV vs lo hi) := by
  unfold E.cut cutV
  rw [r.length]
  exact (r.drop _).take _
def rSlc (Γ : SE) (m : Bool) : V → Option Int → Option Int → Hp → VK → Prop := fun x lo hi H Q => ∃ φ ρ T a b c, RS Γ H φ ρ T ∧ RV Γ H φ (MM φ ρ T) a x ∧ part b = some lo ∧ part c = some hi ∧ OutP Γ φ ρ T H (evP Γ.kc (.slc m) [a, b, c] T) Q
theorem slc_ok (hX : XG X Γ) (m : Bool) : SlR X (rSlc Γ m) := by
  intro pins s σ H x v vl vu lo hi sl Q I rx hs pl pu hh
  obtain ⟨φ, ρ, T, a, b, c, rs, ra, pb, pc, out⟩ := hh
  have da := dr_rv rs ra
  change OutP Γ φ ρ T H (slcP m a b c T) Q at out
  unfold slcP at out
  rw [pb, pc] at out
  simp only at out
  split at out
  · rename_i xs e1
    rw [e1] at da
    obtain ⟨p, vs, ex, hp, r1⟩ := da
    subst ex
    exact sl_list pins s σ H _ v vl vu lo hi sl Q I rx hs pl pu ⟨p, vs, rfl, by rw [hX.K]; exact hp, fun q hq => out.lst rs (r1.cut lo hi) hq⟩
  · rename_i xs e1
    have s1 := dr_tup_self rs ra e1
    rw [e1] at da
    obtain ⟨p, vs, ex, hp, r1, _⟩ := da
    subst ex
    refine sl_tupA pins s σ H _ v vl vu lo hi sl Q I rx hs pl pu ⟨p, vs, rfl, by rw [hX.K]; exact hp, fun ⟨h1, h2⟩ => ?_, fun _ q hq => out.tup rs (r1.cut lo hi) hq⟩
    refine out.here rs ?_
    have e : cut xs lo hi = xs := by
      unfold cut
      rw [r1.length] at h1 h2
      rw [h1, h2]
      simp
    rw [e, ← s1]
    exact ra
  · rename_i z e1
    rw [e1] at da
    cases da
    split at out
    · rename_i hz
      refine sl_str pins s σ H _ v vl vu lo hi sl Q I rx hs pl pu ⟨z, rfl, hz, ?_⟩
      have q := out.str rs
      have e : cutS z lo hi = ⟨⟨cut z.cps.toList lo hi⟩⟩ := by
        unfold cutS cut
        rw [Array.length_toList]
        rfl
      rw [e]
      exact q
    · exact out.elim
  · exact out.elim
end
end E
set_option Elab.async false
set_option linter.all false
set_option autoImplicit false
set_option maxRecDepth 100000
set_option maxHeartbeats 1000000
/-! Part 6: truth, lengths, members, built-in functions, methods of lists and sets. -/
namespace E
open PySem PySem.Spec PyProof.Rows L2

section
variable {Γ : SE} {X : Cx}
theorem RVs.isEmpty {H : Hp} {φ : List Addr} {M : Addr → Prop} {xs : List PV} {vs : List V} (r : RVs Γ H φ M xs vs) : vs.isEmpty = xs.isEmpty := by
  have := r.length
  cases xs <;> cases vs <;> simp_all
theorem RVk.isEmpty {H : Hp} {φ : List Addr} {M : Addr → Prop} {xs : List (PV × PV)} {vs : List (Key × V)} (r : RVk Γ H φ M xs vs) : vs.isEmpty = xs.isEmpty := by
  have := r.length
  cases xs <;> cases vs <;> simp_all

/-! ### truth -/
def rTru (Γ : SE) : V → Hp → (Bool → Hp → Prop) → Prop := fun x H Q => ∃ φ ρ T a, RS Γ H φ ρ T ∧ RV Γ H φ (MM φ ρ T) a x ∧ OutB Γ φ ρ T H (truP a T) Q
theorem OutB.here {H : Hp} {φ ρ : List Addr} {T : Store} {Q : Bool → Hp → Prop} {k : Bool} (rs : RS Γ H φ ρ T) (o : OutB Γ φ ρ T H (.ok k T) Q) : Q k H := o φ H Le.refl rs
theorem d_truthR {pins : List (Addr × Obj)} {σ : L2.St} {H : Hp} {s : Shared} {a : Addr} {kvs : List (Key × V)} {Q : Bool → Hp → Prop} (I : Inv X pins σ H s) (e : Rd H a (.dK kvs)) (q : Q (!kvs.isEmpty) H) :
    wpAny (model X.prog X.w) X.A (truthy (.ref a)) (TP X pins σ Q) X.xe s := d_truth I e fun s' I' => ⟨H, I', q⟩
theorem tru_is (hX : XG X Γ) : TruR X (rTru Γ) := by
  intro pins s σ H x v Q I rx hh
  obtain ⟨φ, ρ, T, a, rs, ra, out⟩ := hh
  have da := dr_rv rs ra
  unfold truP at out
  have go : ∀ k, TruV X.K x H k → OutB Γ φ ρ T H (.ok k T) Q → wpAny (model X.prog X.w) X.A (truthy v) (TP X pins σ Q) X.xe s := fun k t o => tru_ok pins s σ H x v Q I rx ⟨k, t, o.here rs⟩
  split at out
  · rename_i e; rw [e] at da; cases da; exact go _ rfl out
  · rename_i e; rw [e] at da; cases da; exact go _ rfl out
  · rename_i e; rw [e] at da; cases da; exact go _ rfl out
  · rename_i e; rw [e] at da; cases da
    split at out
    · rename_i z hz
      refine go _ ⟨hz, ?_⟩ out
      have h1 : (((z.length : Nat) : Int) != 0) = (z.length != 0) := by
        cases h : z.length with
        | zero => rfl
        | succ n =>
          have : ((n + 1 : Nat) : Int) ≠ 0 := by omega
          simp only [bne]
          rw [beq_eq_false_iff_ne.mpr this]
          rfl
      exact h1.symm
    · exact out.elim
  · rename_i e; rw [e] at da
    obtain ⟨p, vs, ex, hp, r1⟩ := da
    subst ex
    exact go _ (.inl ⟨vs, by rw [hX.K]; exact hp, by rw [r1.isEmpty]⟩) out
  · rename_i e; rw [e] at da
    obtain ⟨p, vs, ex, hp, r1, _⟩ := da
    subst ex
    exact go _ (.inr (.inl ⟨vs, by rw [hX.K]; exact hp, by rw [r1.isEmpty]⟩)) out
  · rename_i e; rw [e] at da
    obtain ⟨p, vs, ex, hp, r1⟩ := da
    subst ex
    cases (show v = Value.ref p from rx)
    refine d_truthR I hp ?_
    rw [r1.isEmpty]
    exact out.here rs
  · exact out.elim

/-! ### in -/
theorem inP_ok {kc : List PV} {a b : PV} {T : Store} {k : Bool} {T' : Store} (h : inP kc a b T = .ok k T') : T' = T := by
  unfold inP at h
  split at h <;> (first | (split at h <;> first | (cases h; rfl) | cases h) | cases h)
theorem plainAll_of {xs : List PV} (h : PV.plainL xs = true) : PyData.plainAll (PV.dataL xs) = true := plain_dataL xs h
theorem dataL_map : ∀ (xs : List PV), PV.dataL xs = xs.map PV.data
  | [] => rfl
  | x :: xs => by rw [PV.dataL, dataL_map xs]; rfl
theorem any_data (xs : List PV) (d : PyData) : (PV.dataL xs).any (fun y => PyData.eqv y d) = xs.any fun y => PyData.eqv y.data d := by
  rw [dataL_map, List.any_map]
  rfl
theorem set_at {H : Hp} {a : Addr} {xs : List PV} (h : H a = some (setHO Γ a xs)) (hX : XG X Γ) : ∃ S : Key → Bool, H a = some (SetK X.prog X.w a S xs.length) ∧ ∀ k, (S k = true ↔ kPV k ∈ xs) := by
  refine ⟨_, by rw [h, hX.P, hX.w]; rfl, fun k => by simp⟩
theorem op_in_ok (hX : XG X Γ) {k : Nat} (hr : Room k X.A) : OpR X (compareOp .In) (rP2 Γ (.isin false)) := by
  intro pins s σ H x y v u Q I rx ry hh
  obtain ⟨φ, ρ, T, a, b, rs, ra, rb, out⟩ := hh
  change OutP Γ φ ρ T H (E.rb (inP Γ.kc a b T)) Q at out
  obtain ⟨k, T', e, out⟩ := rb_out out
  have eT := inP_ok e
  subst eT
  have q := out.bl rs
  have da := dr_rv rs ra
  have db := dr_rv rs rb
  unfold inP at e
  split at e
  · rename_i xs e1
    split at e
    · rename_i hc
      simp only [Bool.and_eq_true, decide_eq_true_eq] at hc
      injection e with h1 _
      subst h1
      obtain ⟨as, r1⟩ := reads_dv I hX.K _ x v hc.1.1.1 da rx
      rw [e1] at db
      obtain ⟨bs, r2⟩ := reads_dv I hX.K (.lst xs) y u (by rw [PV.plain]; exact hc.1.1.2) db ry
      refine PySem.SeqAt.in_list_data (xs := PV.dataL xs) r2 r1 (plainAll_of hc.1.1.2) (plain_data _ hc.1.1.1) (units_ok hr (.inl hc.2)) ⟨.bl _, H, I, rfl, ?_⟩
      rw [any_data]
      exact q
    · cases e
  · rename_i xs e1
    split at e
    · rename_i hc
      simp only [Bool.and_eq_true, decide_eq_true_eq] at hc
      injection e with h1 _
      subst h1
      obtain ⟨as, r1⟩ := reads_dv I hX.K _ x v hc.1.1.1 da rx
      rw [e1] at db
      obtain ⟨bs, r2⟩ := reads_dv I hX.K (.tup xs) y u (by rw [PV.plain]; exact hc.1.1.2) db ry
      refine PySem.SeqAt.in_tuple_data (xs := PV.dataL xs) r2 r1 (plainAll_of hc.1.1.2) (plain_data _ hc.1.1.1) (units_ok hr (.inl hc.2)) ⟨.bl _, H, I, rfl, ?_⟩
      rw [any_data]
      exact q
    · cases e
  · rename_i z e1
    rw [e1] at db
    cases db
    split at e
    · injection e with h1 _
      subst h1
      have e2 := rv_str ra
      subst e2
      exact op_in_str pins s σ H _ _ v u Q I rx ry ⟨_, _, rfl, rfl, q⟩
    · cases e
  · rename_i t kvs e1
    split at e
    · rename_i hk
      injection e with h1 _
      subst h1
      rw [e1] at db
      obtain ⟨p, o, ex, g, _, hq⟩ := dget_any hk db ra
      subst ex
      cases (show u = Value.ref p from ry)
      refine d_in (hu_of hr) I g rx fun s' I' => ⟨.bl _, H, I', rfl, ?_⟩
      rcases hq with ⟨z, w, e3, e4, _⟩ | ⟨e3, e4⟩
      · rw [e3] at q; rw [e4]; exact q
      · rw [e3] at q; rw [e4]; exact q
    · cases e
  · rename_i xs e1
    split at e
    · rename_i hk
      injection e with h1 _
      subst h1
      rw [e1] at db
      obtain ⟨p, ex, hp, _⟩ := db
      subst ex
      obtain ⟨kk, rfl⟩ := isKey_f hk
      have e2 := rv_key ra
      subst e2
      obtain ⟨S, hS, hm⟩ := set_at hp hX
      refine or_sinK pins s σ H _ _ v u Q I rx ry ⟨kk, p, S, _, rfl, rfl, hS, ?_⟩
      have e : ∀ (i : Decidable (kPV kk ∈ xs)), @decide _ i = S kk := fun i => by rw [Bool.eq_iff_iff, decide_eq_true_iff, hm]
      show Q (.bl (S kk)) H
      rw [e] at q
      exact q
    · cases e
  · cases e
theorem op_notin_ok (hX : XG X Γ) {k : Nat} (hr : Room k X.A) : OpR X (compareOp .NotIn) (rP2 Γ (.isin true)) := by
  intro pins s σ H x y v u Q I rx ry hh
  obtain ⟨φ, ρ, T, a, b, rs, ra, rb, out⟩ := hh
  change OutP Γ φ ρ T H (rn (inP Γ.kc a b T)) Q at out
  obtain ⟨k, T', e, out⟩ := rn_out out
  have eT := inP_ok e
  subst eT
  have q := out.bl rs
  have da := dr_rv rs ra
  have db := dr_rv rs rb
  unfold inP at e
  split at e
  · rename_i xs e1
    split at e
    · rename_i hc
      simp only [Bool.and_eq_true, decide_eq_true_eq] at hc
      injection e with h1 _
      subst h1
      obtain ⟨as, r1⟩ := reads_dv I hX.K _ x v hc.1.1.1 da rx
      rw [e1] at db
      obtain ⟨bs, r2⟩ := reads_dv I hX.K (.lst xs) y u (by rw [PV.plain]; exact hc.1.1.2) db ry
      refine PySem.SeqAt.notIn_list_data (xs := PV.dataL xs) r2 r1 (plainAll_of hc.1.1.2) (plain_data _ hc.1.1.1) (units_ok hr (.inl hc.2)) ⟨.bl _, H, I, rfl, ?_⟩
      rw [any_data]
      exact q
    · cases e
  · rename_i xs e1
    split at e
    · rename_i hc
      simp only [Bool.and_eq_true, decide_eq_true_eq] at hc
      injection e with h1 _
      subst h1
      obtain ⟨as, r1⟩ := reads_dv I hX.K _ x v hc.1.1.1 da rx
      rw [e1] at db
      obtain ⟨bs, r2⟩ := reads_dv I hX.K (.tup xs) y u (by rw [PV.plain]; exact hc.1.1.2) db ry
      refine PySem.SeqAt.notIn_tuple_data (xs := PV.dataL xs) r2 r1 (plainAll_of hc.1.1.2) (plain_data _ hc.1.1.1) (units_ok hr (.inl hc.2)) ⟨.bl _, H, I, rfl, ?_⟩
      rw [any_data]
      exact q
    · cases e
  · rename_i z e1
    rw [e1] at db
    cases db
    split at e
    · injection e with h1 _
      subst h1
      have e2 := rv_str ra
      subst e2
      exact L2.op_notin_str pins s σ H _ _ v u Q I rx ry ⟨_, _, rfl, rfl, q⟩
    · cases e
  · rename_i t kvs e1
    split at e
    · rename_i hk
      injection e with h1 _
      subst h1
      rw [e1] at db
      obtain ⟨p, o, ex, g, _, hq⟩ := dget_any hk db ra
      subst ex
      cases (show u = Value.ref p from ry)
      refine d_notIn (hu_of hr) I g rx fun s' I' => ⟨.bl _, H, I', rfl, ?_⟩
      rcases hq with ⟨z, w, e3, e4, _⟩ | ⟨e3, e4⟩
      · rw [e3] at q; rw [e4]; exact q
      · rw [e3] at q; rw [e4]; exact q
    · cases e
  · rename_i xs e1
    split at e
    · rename_i hk
      injection e with h1 _
      subst h1
      rw [e1] at db
      obtain ⟨p, ex, hp, _⟩ := db
      subst ex
      obtain ⟨kk, rfl⟩ := isKey_f hk
      have e2 := rv_key ra
      subst e2
      obtain ⟨S, hS, hm⟩ := set_at hp hX
      refine or_snotinK pins s σ H _ _ v u Q I rx ry ⟨kk, p, S, _, rfl, rfl, hS, ?_⟩
      have e : ∀ (i : Decidable (kPV kk ∈ xs)), @decide _ i = S kk := fun i => by rw [Bool.eq_iff_iff, decide_eq_true_iff, hm]
      show Q (.bl (!S kk)) H
      rw [e] at q
      exact q
    · cases e
  · cases e

/-! ### is -/
theorem rv_non_iff {H : Hp} {φ : List Addr} {M : Addr → Prop} {a : PV} {x : V} (h : RV Γ H φ M a x) : x = .non ↔ a = .non := by
  cases a with
  | non => rw [RV] at h; simp [h]
  | bl b => rw [RV] at h; simp [h]
  | int b => rw [RV] at h; simp [h]
  | str b => rw [RV] at h; simp [h]
  | tup xs => rw [RV] at h; obtain ⟨p, _, e, _⟩ := h; simp [e]
  | lst xs => rw [RV] at h; obtain ⟨p, _, e, _⟩ := h; simp [e]
  | dic t xs => cases t <;> (rw [RV] at h; obtain ⟨p, _, e, _⟩ := h; simp [e])
  | set xs => rw [RV] at h; obtain ⟨p, e, _⟩ := h; simp [e]
  | ins c xs => rw [RV] at h; obtain ⟨p, _, _, e, _⟩ := h; simp [e]
  | ref l => rw [RV] at h; obtain ⟨p, e, _⟩ := h; simp [e]
end

/-! ### len, isinstance and others, called by name -/
section
variable {Γ : SE} {X : Cx}
theorem rvs1 {H : Hp} {φ : List Addr} {M : Addr → Prop} {a : PV} {xs : List V} (h : RVs Γ H φ M [a] xs) : ∃ x, xs = [x] ∧ RV Γ H φ M a x := by
  rw [RVs] at h
  obtain ⟨v, r, e, h1, h2⟩ := h
  rw [RVs] at h2
  subst h2
  exact ⟨v, e, h1⟩
theorem rvs2 {H : Hp} {φ : List Addr} {M : Addr → Prop} {a b : PV} {xs : List V} (h : RVs Γ H φ M [a, b] xs) : ∃ x y, xs = [x, y] ∧ RV Γ H φ M a x ∧ RV Γ H φ M b y := by
  rw [RVs] at h
  obtain ⟨v, r, e, h1, h2⟩ := h
  obtain ⟨y, e2, h3⟩ := rvs1 h2
  subst e2
  exact ⟨v, y, e, h1, h3⟩
theorem rvs3 {H : Hp} {φ : List Addr} {M : Addr → Prop} {a b c : PV} {xs : List V} (h : RVs Γ H φ M [a, b, c] xs) : ∃ x y z, xs = [x, y, z] ∧ RV Γ H φ M a x ∧ RV Γ H φ M b y ∧ RV Γ H φ M c z := by
  rw [RVs] at h
  obtain ⟨v, r, e, h1, h2⟩ := h
  obtain ⟨y, z, e2, h3, h4⟩ := rvs2 h2
  subst e2
  exact ⟨v, y, z, e, h1, h3, h4⟩
theorem len1 {H : Hp} {φ : List Addr} {M : Addr → Prop} {a : List PV} {x : V} (h : RVs Γ H φ M a [x]) : ∃ p, a = [p] ∧ RV Γ H φ M p x := by
  have l := h.length
  match a, l with
  | [p], _ =>
    obtain ⟨y, e, r⟩ := rvs1 h
    cases e
    exact ⟨p, rfl, r⟩
theorem d_lenR {pins : List (Addr × Obj)} {σ : L2.St} {H : Hp} {s : Shared} {a : Addr} {kvs : List (Key × V)} {Q : VK} (I : Inv X pins σ H s) (e : Rd H a (.dK kvs)) (q : Q (.int kvs.length) H) :
    wpAny (model X.prog X.w) X.A (call (.builtin "len") [.ref a]) (EP X pins σ Q) X.xe s := d_len I e fun t s' I' => ⟨.int _, H, I', ⟨t, rfl⟩, q⟩
theorem cr_len (hX : XG X Γ) : CallR X (.builtin "len") (rPn Γ .len) := by
  intro pins s σ H xs us Q I r hh
  obtain ⟨φ, ρ, T, as, rs, ra, out⟩ := hh
  rcases as with _ | ⟨a, _ | ⟨b, as⟩⟩
  · exact out.elim
  · obtain ⟨x, e, ra1⟩ := rvs1 ra
    subst e
    have da := dr_rv rs ra1
    change OutP Γ φ ρ T H (lenP a T) Q at out
    unfold lenP at out
    split at out
    · rename_i e; rw [e] at da
      obtain ⟨p, vs, ex, hp, r1⟩ := da
      subst ex
      refine call_len_seq pins s σ H _ us Q I r ⟨p, vs, rfl, .inl (by rw [hX.K]; exact hp), ?_⟩
      rw [r1.length]
      exact out.int rs
    · rename_i e; rw [e] at da
      obtain ⟨p, vs, ex, hp, r1, _⟩ := da
      subst ex
      refine call_len_seq pins s σ H _ us Q I r ⟨p, vs, rfl, .inr (by rw [hX.K]; exact hp), ?_⟩
      rw [r1.length]
      exact out.int rs
    · rename_i e; rw [e] at da
      cases da
      split at out
      · rename_i hz
        exact call_len_str pins s σ H _ us Q I r ⟨_, rfl, hz, out.int rs⟩
      · exact out.elim
    · rename_i kvs e; rw [e] at da
      obtain ⟨p, vs, ex, hp, r1⟩ := da
      subst ex
      obtain ⟨u, eu, ru⟩ := vals1 r
      subst eu
      cases (show u = Value.ref p from ru)
      refine d_lenR I hp ?_
      rw [r1.length]
      exact out.int rs
    · rename_i xs e; rw [e] at da
      obtain ⟨p, ex, hp, _⟩ := da
      subst ex
      obtain ⟨u, eu, ru⟩ := vals1 r
      subst eu
      cases (show u = Value.ref p from ru)
      obtain ⟨S, hS, _⟩ := set_at hp hX
      obtain ⟨o, es, ep, t, h1, h2, h3, _, _, h4, h5, h6⟩ := setK_get I hS
      have hb : (es.size : Int) < 2 ^ 63 := by
        have : scanBound = 4096 := rfl
        omega
      refine call_len_set h1 h2 h3 h5 hb ⟨.int es.size, H, I.tok _, ⟨_, rfl⟩, ?_⟩
      rw [h6]
      exact out.int rs
    · exact out.elim
  · exact out.elim
end
end E
set_option Elab.async false
set_option linter.all false
set_option autoImplicit false
set_option maxRecDepth 100000
set_option maxHeartbeats 1000000
/-! Part 7: expressions. -/
namespace E
open PySem PySem.Spec PyProof.Rows L2

/-- an exception -/
def XR (Γ : SE) (x : Exn) (cls : Value) (d : Option Addr) : Prop := cls = .ref (Γ.cls x.cls) ∧ d = none ∧ x.fs = [] ∧ Γ.isx x.cls = true
abbrev Rel (α β : Type) := Hp → List Addr → (Addr → Prop) → α → β → Prop
def OutG {α β : Type} (Γ : SE) (W : WX) (σ : L2.St) (φ ρ : List Addr) (T : Store) (H : Hp) (rel : Rel α β) (r : Ro α) (Q : β → Hp → Prop) : Prop := match r with
  | .ok v T' => ∀ φ' H' u, Le φ T H φ' T' H' → RS Γ H' φ' ρ T' → rel H' φ' (MM φ' ρ T') v u → Q u H'
  | .ex x T' => ∀ φ' H' cls d, Le φ T H φ' T' H' → RS Γ H' φ' ρ T' → XR Γ x cls d → W cls d σ H'
  | .bad => False
def rE {α : Type} : Rel α α := fun _ _ _ a b => a = b
def rO : Rel PV (Option Int) := fun _ _ _ v o => part v = some o
section
variable {α β γ δ : Type} {Γ : SE} {W : WX} {σ : L2.St} {φ ρ φ1 : List Addr} {T T1 : Store} {H H1 : Hp} {s : Slots} {rel : Rel α β} {rel' : Rel γ δ}
theorem OutG.imp {r : Ro α} {Q Q' : β → Hp → Prop} (o : OutG Γ W σ φ ρ T H rel r Q) (h : ∀ u H, Q u H → Q' u H) : OutG Γ W σ φ ρ T H rel r Q' := by
  cases r with
  | ok v T' => exact fun φ' H' u l rs r => h u H' (o φ' H' u l rs r)
  | ex x T' => exact o
  | bad => exact o
theorem OutG.step (l : Le φ T H φ1 T1 H1) {r : Ro α} {Q : β → Hp → Prop} (o : OutG Γ W σ φ ρ T H rel r Q) : OutG Γ W σ φ1 ρ T1 H1 rel r Q := by
  cases r with
  | ok v T' => exact fun φ' H' u l' rs r => o φ' H' u (l.trans l') rs r
  | ex x T' => exact fun φ' H' c d l' rs r => o φ' H' c d (l.trans l') rs r
  | bad => exact o
theorem OutG.bind {r : Ro α} {f : α → Store → Ro γ} {Q : δ → Hp → Prop} {Q' : β → Hp → Prop} (rs : RS Γ H φ ρ T) (o : OutG Γ W σ φ ρ T H rel' (r.bind f) Q)
    (k : ∀ φ1 T1 H1 v u, RS Γ H1 φ1 ρ T1 → Up H φ (MM φ ρ T) H1 φ1 (MM φ1 ρ T1) → rel H1 φ1 (MM φ1 ρ T1) v u → OutG Γ W σ φ1 ρ T1 H1 rel' (f v T1) Q → Q' u H1) : OutG Γ W σ φ ρ T H rel r Q' := by
  cases r with
  | ok v T' => exact fun φ' H' u l rs' r => k φ' T' H' v u rs' (l.up rs) r (OutG.step l o)
  | ex x T' => exact o
  | bad => exact o
theorem OutG.here {v : α} {u : β} {Q : β → Hp → Prop} (rs : RS Γ H φ ρ T) (o : OutG Γ W σ φ ρ T H rel (.ok v T) Q) (r : rel H φ (MM φ ρ T) v u) : Q u H := o φ H u Le.refl rs r
theorem OutG.toP {r : Ro PV} {Q : VK} (o : OutG Γ W σ φ ρ T H (RV Γ) (noEx r) Q) : OutP Γ φ ρ T H r Q := by
  cases r with
  | ok v T' => exact o
  | ex x T' => exact o.elim
  | bad => exact o.elim
theorem OutG.toB {r : Ro Bool} {Q : Bool → Hp → Prop} (n : ∀ x T', r ≠ .ex x T') (o : OutG Γ W σ φ ρ T H rE r Q) : OutB Γ φ ρ T H r Q := by
  cases r with
  | ok v T' => exact fun φ' H' l rs => o φ' H' v l rs rfl
  | ex x T' => exact absurd rfl (n x T')
  | bad => exact o.elim
theorem truP_ok {v : PV} {T : Store} : (∃ k, truP v T = .ok k T) ∨ truP v T = .bad := by
  unfold truP
  split <;> first | exact .inl ⟨_, rfl⟩ | exact .inr rfl | skip
  split
  · exact .inl ⟨_, rfl⟩
  · exact .inr rfl
theorem truP_nex {v : PV} {T : Store} : ∀ x T', truP v T ≠ .ex x T' := fun x T' e => by
  rcases truP_ok (v := v) (T := T) with ⟨k, q⟩ | q <;> rw [q] at e <;> cases e
end

section
variable (Γ : SE) (W : WX) (C : Ctx)
def tE (e : Ex) : TE := fun σ H Q => ∃ φ ρ T s, RS Γ H φ ρ T ∧ RL Γ H φ (MM φ ρ T) σ s ∧ OutG Γ W σ φ ρ T H (RV Γ) (evE C e s T) Q
def tL (es : List Ex) : TA := fun σ H Q => ∃ φ ρ T s, RS Γ H φ ρ T ∧ RL Γ H φ (MM φ ρ T) σ s ∧ OutG Γ W σ φ ρ T H (RVs Γ) (evL C es s T) Q
def tT (e : Ex) : TT := fun σ H Q => ∃ φ ρ T s, RS Γ H φ ρ T ∧ RL Γ H φ (MM φ ρ T) σ s ∧ OutG Γ W σ φ ρ T H rE ((evE C e s T).bind truP) Q
def tO (e : Ex) : TO := fun σ H Q => ∃ φ ρ T s, RS Γ H φ ρ T ∧ RL Γ H φ (MM φ ρ T) σ s ∧ OutG Γ W σ φ ρ T H rO ((evE C e s T).bind fun v T => if (part v).isSome then .ok v T else .bad) Q
end
theorem PE_of {X : Cx} {e : Expr} {t t' : TE} (h : PE X e t) (i : ∀ σ H Q, t' σ H Q → t σ H Q) : PE X e t' := ⟨fun pins s σ H Q I q => h.run pins s σ H Q I (i _ _ _ q)⟩
theorem PT_of {X : Cx} {e : Expr} {t t' : TT} (h : PT X e t) (i : ∀ σ H Q, t' σ H Q → t σ H Q) : PT X e t' := ⟨fun pins s σ H Q I q => h.run pins s σ H Q I (i _ _ _ q)⟩
theorem PA_of {X : Cx} {e : List Expr} {t t' : TA} (h : PA X e t) (i : ∀ σ H Q, t' σ H Q → t σ H Q) : PA X e t' := ⟨fun pos pins s σ H Q I q => h.run pos pins s σ H Q I (i _ _ _ q)⟩

section
variable {Γ : SE} {W : WX} {C : Ctx} {X : Cx} {a b c : Expr} {a' b' c' : Ex} {pos : Pos} {es : List Expr} {es' : List Ex} {p q : Pr} {rest : List Expr}

theorem e_var {i : Nat} {x : Str} (hN : X.N[i]? = some x) (hv : Vis X.env.scope x) (hd : (x == ("__debug__" : Str)) = false := by decide) (hcd : (x == ("__classdict__" : Str)) = false := by decide) : PE X (.Name x pos) (tE Γ W C (.var i)) := by
  refine PE_of (pe_var hN hv hd hcd) fun σ H Q h => ?_
  obtain ⟨φ, ρ, T, s, rs, rl, o⟩ := h
  change OutG Γ W σ φ ρ T H (RV Γ) (getV s i T) Q at o
  unfold getV at o
  split at o
  · rename_i v hv
    obtain ⟨u, h1, h2⟩ := rl.2.1 i v hv
    exact ⟨u, h1, o.here rs h2⟩
  · exact o.elim
/-- a plain constant -/
def litC : Const → Option PV
  | .none => some .non
  | .bool b => some (.bl b)
  | .int i => some (.int i)
  | .str x => some (.str x)
  | _ => none
theorem e_int {i : Int} {j : Nat} : PE X (.Constant (.int i) j pos) (tE Γ W C (.cst (.int i))) :=
  PE_of pe_int fun σ H Q ⟨φ, ρ, T, s, rs, rl, o⟩ => by
    change OutG Γ W σ φ ρ T H (RV Γ) (.ok (.int i) T) Q at o
    exact o.here rs (by rw [RV])
theorem e_bl {i : Bool} {j : Nat} : PE X (.Constant (.bool i) j pos) (tE Γ W C (.cst (.bl i))) :=
  PE_of pe_bl fun σ H Q ⟨φ, ρ, T, s, rs, rl, o⟩ => by
    change OutG Γ W σ φ ρ T H (RV Γ) (.ok (.bl i) T) Q at o
    exact o.here rs (by rw [RV])
theorem e_non {j : Nat} : PE X (.Constant .none j pos) (tE Γ W C (.cst .non)) :=
  PE_of pe_non fun σ H Q ⟨φ, ρ, T, s, rs, rl, o⟩ => by
    change OutG Γ W σ φ ρ T H (RV Γ) (.ok .non T) Q at o
    exact o.here rs (by rw [RV])
theorem e_str {x : Str} {z : PV} {j : Nat} (hz : z = .str x := by rfl) : PE X (.Constant (.str x) j pos) (tE Γ W C (.cst z)) :=
  PE_of pe_str fun σ H Q ⟨φ, ρ, T, s, rs, rl, o⟩ => by
    subst hz
    change OutG Γ W σ φ ρ T H (RV Γ) (.ok (.str x) T) Q at o
    exact o.here rs (by rw [RV])

/-! two in a row, one, several -/
theorem seq2 {σ : L2.St} {H : Hp} {f : PV → PV → Store → Ro PV} {R : V → V → Hp → Prop} {Q : VK} {φ ρ : List Addr} {T : Store} {s : Slots} (rs : RS Γ H φ ρ T) (rl : RL Γ H φ (MM φ ρ T) σ s)
    (o : OutG Γ W σ φ ρ T H (RV Γ) ((evE C a' s T).bind fun x T => (evE C b' s T).bind fun y T => f x y T) Q)
    (k : ∀ φ1 T1 H1 v w x y, RS Γ H1 φ1 ρ T1 → RL Γ H1 φ1 (MM φ1 ρ T1) σ s → RV Γ H1 φ1 (MM φ1 ρ T1) v x → RV Γ H1 φ1 (MM φ1 ρ T1) w y → OutG Γ W σ φ1 ρ T1 H1 (RV Γ) (f v w T1) Q → R x y H1) :
    tE Γ W C a' σ H fun x H1 => tE Γ W C b' σ H1 fun y H2 => R x y H2 :=
  ⟨φ, ρ, T, s, rs, rl, o.bind rs fun φ1 T1 H1 v u rs1 up rv o1 => ⟨φ1, ρ, T1, s, rs1, rl.up up, o1.bind rs1 fun φ2 T2 H2 w y rs2 up2 rw2 o2 => k φ2 T2 H2 v w u y rs2 ((rl.up up).up up2) (rv.up up2) rw2 o2⟩⟩
theorem evL1 (C : Ctx) (a : Ex) (s : Slots) (T : Store) (f : List PV → Store → Ro PV) : (evL C [a] s T).bind f = (evE C a s T).bind fun x T => f [x] T := by
  show ((evE C a s T).bind fun v T => ((Ro.ok [] T : Ro (List PV))).bind fun vs T => .ok (v :: vs) T).bind f = _
  cases evE C a s T <;> rfl
theorem evL2 (C : Ctx) (a b : Ex) (s : Slots) (T : Store) (f : List PV → Store → Ro PV) : (evL C [a, b] s T).bind f = (evE C a s T).bind fun x T => (evE C b s T).bind fun y T => f [x, y] T := by
  show ((evE C a s T).bind fun v T => (evL C [b] s T).bind fun vs T => .ok (v :: vs) T).bind f = _
  cases evE C a s T with
  | ok v T1 =>
    show ((evL C [b] s T1).bind fun vs T => (.ok (v :: vs) T : Ro (List PV))).bind f = (evE C b s T1).bind fun y T => f [v, y] T
    show (((evE C b s T1).bind fun v T => ((Ro.ok [] T : Ro (List PV))).bind fun vs T => .ok (v :: vs) T).bind fun vs T => (.ok (v :: vs) T : Ro (List PV))).bind f = _
    cases evE C b s T1 <;> rfl
  | ex x T => rfl
  | bad => rfl
theorem to2 {σ : L2.St} {H : Hp} {Q : VK} (h : tE Γ W C (.pr p [a', b']) σ H Q) (hk : Γ.kc = C.kc) : tOp (rP2 Γ p) (tE Γ W C a') (tE Γ W C b') σ H Q := by
  obtain ⟨φ, ρ, T, s, rs, rl, o⟩ := h
  change OutG Γ W σ φ ρ T H (RV Γ) ((evL C [a', b'] s T).bind fun vs T => noEx (evP C.kc p vs T)) Q at o
  rw [evL2] at o
  exact seq2 rs rl o fun φ1 T1 H1 v w x y rs1 rl1 rv rw1 o1 => ⟨φ1, ρ, T1, v, w, rs1, rv, rw1, by rw [hk]; exact o1.toP⟩
theorem to1 {σ : L2.St} {H : Hp} {Q : VK} (h : tE Γ W C (.pr p [a']) σ H Q) (hk : Γ.kc = C.kc) : tUn (rP1 Γ p) (tE Γ W C a') σ H Q := by
  obtain ⟨φ, ρ, T, s, rs, rl, o⟩ := h
  change OutG Γ W σ φ ρ T H (RV Γ) ((evL C [a'] s T).bind fun vs T => noEx (evP C.kc p vs T)) Q at o
  rw [evL1] at o
  exact ⟨φ, ρ, T, s, rs, rl, o.bind rs fun φ1 T1 H1 v x rs1 up rv o1 => ⟨φ1, ρ, T1, v, rs1, rv, by rw [hk]; exact o1.toP⟩⟩
theorem toN {σ : L2.St} {H : Hp} {Q : VK} (h : tE Γ W C (.pr p es') σ H Q) (hk : Γ.kc = C.kc) : tCB (rPn Γ p) (tL Γ W C es') σ H Q := by
  obtain ⟨φ, ρ, T, s, rs, rl, o⟩ := h
  change OutG Γ W σ φ ρ T H (RV Γ) ((evL C es' s T).bind fun vs T => noEx (evP C.kc p vs T)) Q at o
  exact ⟨φ, ρ, T, s, rs, rl, o.bind rs fun φ1 T1 H1 v x rs1 up rv o1 => ⟨φ1, ρ, T1, v, rs1, rv, by rw [hk]; exact o1.toP⟩⟩
theorem e_bin {op : Operator} (hk : Γ.kc = C.kc) (ho : OpR X (binaryOp op) (rP2 Γ p)) (ha : PE X a (tE Γ W C a')) (hb : PE X b (tE Γ W C b')) : PE X (.BinOp a op b pos) (tE Γ W C (.pr p [a', b'])) :=
  PE_of (pe_op ho ha hb) fun _ _ _ h => to2 h hk
theorem e_cmp {op : CmpOp} (hk : Γ.kc = C.kc) (ho : OpR X (compareOp op) (rP2 Γ p)) (ha : PE X a (tE Γ W C a')) (hb : PE X b (tE Γ W C b')) (hm : behindInMarks op b = false) : PE X (.Compare a [op] [b] pos) (tE Γ W C (.pr p [a', b'])) :=
  PE_of (pe_cmpR ho ha hb hm) fun _ _ _ h => to2 h hk
theorem e_un {op : UnaryOp} (hk : Γ.kc = C.kc) (ho : UnR X (unaryOp op) (rP1 Γ p)) (ha : PE X a (tE Γ W C a')) : PE X (.UnaryOp op a pos) (tE Γ W C (.pr p [a'])) :=
  PE_of (pe_un ho ha) fun _ _ _ h => to1 h hk
theorem e_ix (hk : Γ.kc = C.kc) (ho : IxR X (rP2 Γ .ix)) (ha : PE X a (tE Γ W C a')) (hb : PE X b (tE Γ W C b')) (hs : PlainIx b) : PE X (.Subscript a b pos) (tE Γ W C (.pr .ix [a', b'])) :=
  PE_of (pe_ix ho ha hb hs) fun _ _ _ h => to2 h hk

/-! arguments -/
theorem l_nil : PA X [] (tL Γ W C []) := PA_of pa_nil fun σ H Q ⟨φ, ρ, T, s, rs, rl, o⟩ => by
  change OutG Γ W σ φ ρ T H (RVs Γ) (.ok [] T) Q at o
  exact o.here rs (by rw [RVs])
theorem l_cons (ha : PE X a (tE Γ W C a')) (hr : PA X es (tL Γ W C es')) (hs : starEach (a :: es) X.env = (false, eval a X.env) :: starEach es X.env := by rfl) : PA X (a :: es) (tL Γ W C (a' :: es')) :=
  PA_of (pa_cons ha hr hs) fun σ H Q ⟨φ, ρ, T, s, rs, rl, o⟩ => by
    change OutG Γ W σ φ ρ T H (RVs Γ) ((evE C a' s T).bind fun v T => (evL C es' s T).bind fun vs T => .ok (v :: vs) T) Q at o
    refine ⟨φ, ρ, T, s, rs, rl, o.bind rs fun φ1 T1 H1 v x rs1 up rv o1 => ⟨φ1, ρ, T1, s, rs1, rl.up up, o1.bind rs1 fun φ2 T2 H2 w y rs2 up2 rw2 o2 => o2.here rs2 ?_⟩⟩
    rw [RVs]
    exact ⟨_, _, rfl, rv.up up2, rw2⟩
theorem e_callB {x : Str} {id : String} {pf : Pos} (hk : Γ.kc = C.kc) (hc : CallR X (.builtin id) (rPn Γ p)) (hg : Gl X x) (hm : X.mg x = none) (hv : bootBuiltins x = some (.builtin id)) (ha : PA X (a :: es) (tL Γ W C es')) (hn : x ≠ "__name__" := by decide) (hdb : (x == ("__debug__" : Str)) = false := by decide)
    (he : starEach (a :: es) X.env = (false, eval a X.env) :: starEach es X.env := by rfl) (hpl : (backTo pos (starEach es X.env)).any (·.1) = false := by rfl) : PE X (.Call (.Name x pf) (a :: es) [] pos) (tE Γ W C (.pr p es')) :=
  PE_of (pe_callB hc hg hm hv ha hn hdb he hpl) fun _ _ _ h => toN h hk
theorem e_callG {x : Str} {id : String} {pf : Pos} (hk : Γ.kc = C.kc) (hc : CallR X (.builtin id) (rPn Γ p)) (hg : Gl X x) (hm : X.mg x = some (.builtin id)) (ha : PA X (a :: es) (tL Γ W C es')) (hdb : (x == ("__debug__" : Str)) = false := by decide)
    (he : starEach (a :: es) X.env = (false, eval a X.env) :: starEach es X.env := by rfl) (hpl : (backTo pos (starEach es X.env)).any (·.1) = false := by rfl) : PE X (.Call (.Name x pf) (a :: es) [] pos) (tE Γ W C (.pr p es')) :=
  PE_of (pe_callBfun hc hg hm ha hdb he hpl) fun _ _ _ h => toN h hk
theorem e_callT {x : Str} {n : String} {pf : Pos} (hk : Γ.kc = C.kc) (hc : CallR X (.type n) (rPn Γ p)) (hg : Gl X x) (hm : X.mg x = none) (hv : bootBuiltins x = some (.type n)) (ha : PA X (a :: es) (tL Γ W C es')) (hn : x ≠ "__name__" := by decide) (hdb : (x == ("__debug__" : Str)) = false := by decide)
    (he : starEach (a :: es) X.env = (false, eval a X.env) :: starEach es X.env := by rfl) (hpl : (backTo pos (starEach es X.env)).any (·.1) = false := by rfl) : PE X (.Call (.Name x pf) (a :: es) [] pos) (tE Γ W C (.pr p es')) :=
  PE_of (pe_callTy hc hg hm hv ha hn hdb he hpl) fun _ _ _ h => toN h hk
theorem e_callT0 {x : Str} {n : String} {pf : Pos} (hk : Γ.kc = C.kc) (hc : CallR X (.type n) (rPn Γ p)) (hg : Gl X x) (hm : X.mg x = none) (hv : bootBuiltins x = some (.type n)) (hn : x ≠ "__name__" := by decide) (hdb : (x == ("__debug__" : Str)) = false := by decide) :
    PE X (.Call (.Name x pf) [] [] pos) (tE Γ W C (.pr p [])) :=
  PE_of (pe_callTy0 hc hg hm hv hn hdb) fun σ H Q ⟨φ, ρ, T, s, rs, rl, o⟩ => by
    change OutG Γ W σ φ ρ T H (RV Γ) (noEx (evP C.kc p [] T)) Q at o
    exact ⟨φ, ρ, T, [], rs, by rw [RVs], by rw [hk]; exact o.toP⟩

/-! slices -/
theorem o_none : PO X none (tO Γ W C (.cst .non)) := ⟨fun pins s σ H Q I ⟨φ, ρ, T, sl, rs, rl, o⟩ => po_none.run pins s σ H Q I (by
  change OutG Γ W σ φ ρ T H rO (.ok .non T) Q at o
  exact o.here rs rfl)⟩
theorem o_some (ha : PE X a (tE Γ W C a')) : PO X (some a) (tO Γ W C a') := ⟨fun pins s σ H Q I ⟨φ, ρ, T, sl, rs, rl, o⟩ => by
  rw [evalPart_some]
  refine thn (ha.run pins s σ H _ I ⟨φ, ρ, T, sl, rs, rl, o.bind rs fun φ1 T1 H1 v x rs1 up rv o1 => (show ∃ o, (∀ u, RelV x u → IsPart u o) ∧ Q o H1 from ?_)⟩) fun u s1 ⟨x, H1, I1, r1, o, h1, h2⟩ => ⟨o, H1, I1, h1 u r1, h2⟩
  cases v with
  | non =>
    refine ⟨none, fun u ru => ?_, o1.here rs1 rfl⟩
    rw [RV] at rv
    subst rv
    cases ru
    exact .none
  | int i =>
    refine ⟨some i, fun u ru => ?_, o1.here rs1 rfl⟩
    rw [RV] at rv
    subst rv
    obtain ⟨t, rfl⟩ := ru
    exact .int i t
  | _ => exact o1.elim⟩
theorem e_sl {m : Bool} {lo hi : Option Expr} {p2 : Pos} (hX : XG X Γ) (hk : Γ.kc = C.kc) (ha : PE X a (tE Γ W C a')) (hl : PO X lo (tO Γ W C b')) (hh : PO X hi (tO Γ W C c')) : PE X (.Subscript a (.Slice lo hi none p2) pos) (tE Γ W C (.sl m a' b' c')) :=
  PE_of (pe_slice (slc_ok hX m) ha hl hh) fun σ H Q ⟨φ, ρ, T, s, rs, rl, o⟩ => by
    change OutG Γ W σ φ ρ T H (RV Γ) ((evE C a' s T).bind fun x T => (evE C b' s T).bind fun y T => if (part y).isSome then (evE C c' s T).bind fun z T => if (part z).isSome then noEx (evP C.kc (.slc m) [x, y, z] T) else .bad else .bad) Q at o
    have as : ∀ (x : PV) (T : Store), ((evE C b' s T).bind fun y T => if (part y).isSome then (evE C c' s T).bind fun z T => if (part z).isSome then noEx (evP C.kc (.slc m) [x, y, z] T) else .bad else .bad) =
        ((evE C b' s T).bind fun v T => if (part v).isSome then .ok v T else .bad).bind fun y T => ((evE C c' s T).bind fun v T => if (part v).isSome then .ok v T else .bad).bind fun z T => noEx (evP C.kc (.slc m) [x, y, z] T) := by
      intro x T
      cases evE C b' s T with
      | ok y T1 =>
        show (if (part y).isSome then _ else _) = (if (part y).isSome then (.ok y T1 : Ro PV) else .bad).bind _
        split
        · show _ = ((evE C c' s T1).bind fun v T => if (part v).isSome then .ok v T else .bad).bind fun z T => noEx (evP C.kc (.slc m) [x, y, z] T)
          cases evE C c' s T1 with
          | ok z T2 =>
            show (if (part z).isSome then _ else _) = (if (part z).isSome then (.ok z T2 : Ro PV) else .bad).bind _
            split <;> rfl
          | ex _ _ => rfl
          | bad => rfl
        · rfl
      | ex _ _ => rfl
      | bad => rfl
    simp only [as] at o
    refine ⟨φ, ρ, T, s, rs, rl, o.bind rs fun φ1 T1 H1 v x rs1 up rv o1 => ⟨φ1, ρ, T1, s, rs1, rl.up up, o1.bind rs1 fun φ2 T2 H2 w l rs2 up2 hw o2 => ⟨φ2, ρ, T2, s, rs2, (rl.up up).up up2, o2.bind rs2 fun φ3 T3 H3 z u rs3 up3 hz o3 => ?_⟩⟩⟩
    exact ⟨φ3, ρ, T3, v, w, z, rs3, (rv.up up2).up up3, hw, hz, by rw [hk]; exact o3.toP⟩

/-! tests, and, or, not, if -/
theorem t_val (hX : XG X Γ) (ha : PE X a (tE Γ W C a')) (he : ∀ whole, isTrue a X.env whole = (do let v ← whole; standAt a.pos; holding [v] (truthy v)) := by intro _; rfl) : PT X a (tT Γ W C a') := by
  refine ⟨fun pins s σ H Q I ⟨φ, ρ, T, sl, rs, rl, o⟩ => ?_⟩
  exact isTrue_plain (thn (ha.run pins s σ H _ I ⟨φ, ρ, T, sl, rs, rl, o.bind rs fun φ1 T1 H1 v x rs1 up rv o1 => (show rTru Γ x H1 Q from ⟨φ1, ρ, T1, v, rs1, rv, o1.toB truP_nex⟩)⟩) fun v s1 ⟨x, H1, I1, r1, q1⟩ => tru_is hX pins s1 σ H1 x v Q I1 r1 q1) (he _)
theorem and_tru (s : Slots) (T : Store) : ((evE C (.and a' b') s T).bind truP) = ((evE C a' s T).bind truP).bind fun k T => if k then (evE C b' s T).bind truP else .ok false T := by
  show ((evE C a' s T).bind fun v T => (truP v T).bind fun c T => if c then evE C b' s T else .ok v T).bind truP = _
  cases evE C a' s T with
  | ok v T1 =>
    show ((truP v T1).bind fun c T => if c then evE C b' s T else .ok v T).bind truP = (truP v T1).bind _
    rcases truP_ok (v := v) (T := T1) with ⟨k, e⟩ | e
    · rw [e]
      show (if k then evE C b' s T1 else .ok v T1).bind truP = if k then (evE C b' s T1).bind truP else .ok false T1
      cases k with
      | true => rfl
      | false => exact e
    · rw [e]; rfl
  | ex _ _ => rfl
  | bad => rfl
theorem or_tru (s : Slots) (T : Store) : ((evE C (.or a' b') s T).bind truP) = ((evE C a' s T).bind truP).bind fun k T => if k then .ok true T else (evE C b' s T).bind truP := by
  show ((evE C a' s T).bind fun v T => (truP v T).bind fun c T => if c then .ok v T else evE C b' s T).bind truP = _
  cases evE C a' s T with
  | ok v T1 =>
    show ((truP v T1).bind fun c T => if c then .ok v T else evE C b' s T).bind truP = (truP v T1).bind _
    rcases truP_ok (v := v) (T := T1) with ⟨k, e⟩ | e
    · rw [e]
      show (if k then .ok v T1 else evE C b' s T1).bind truP = if k then .ok true T1 else (evE C b' s T1).bind truP
      cases k with
      | true => exact e
      | false => rfl
    · rw [e]; rfl
  | ex _ _ => rfl
  | bad => rfl
theorem w_one1 (ha : PT X a (tT Γ W C a')) : PW X (.BoolOp .And [a] pos) (tT Γ W C (.one a')) := ⟨fun wh pins s σ H Q I h => (pw_and1 ha).run wh pins s σ H Q I h⟩
theorem w_one2 (ha : PT X a (tT Γ W C a')) : PW X (.BoolOp .Or [a] pos) (tT Γ W C (.one a')) := ⟨fun wh pins s σ H Q I h => (pw_or1 ha).run wh pins s σ H Q I h⟩
theorem w_and (ha : PT X a (tT Γ W C a')) (hb : PW X (.BoolOp .And (b :: rest) pos) (tT Γ W C b')) : PW X (.BoolOp .And (a :: b :: rest) pos) (tT Γ W C (.and a' b')) := by
  refine ⟨fun wh pins s σ H Q I ⟨φ, ρ, T, sl, rs, rl, o⟩ => (pw_and ha hb).run wh pins s σ H Q I ?_⟩
  rw [and_tru] at o
  refine ⟨φ, ρ, T, sl, rs, rl, o.bind rs fun φ1 T1 H1 v x rs1 up rv o1 => ?_⟩
  cases (show v = x from rv)
  cases v with
  | true => exact ⟨φ1, ρ, T1, sl, rs1, rl.up up, o1⟩
  | false => exact o1.here rs1 rfl
theorem w_or (ha : PT X a (tT Γ W C a')) (hb : PW X (.BoolOp .Or (b :: rest) pos) (tT Γ W C b')) : PW X (.BoolOp .Or (a :: b :: rest) pos) (tT Γ W C (.or a' b')) := by
  refine ⟨fun wh pins s σ H Q I ⟨φ, ρ, T, sl, rs, rl, o⟩ => (pw_or ha hb).run wh pins s σ H Q I ?_⟩
  rw [or_tru] at o
  refine ⟨φ, ρ, T, sl, rs, rl, o.bind rs fun φ1 T1 H1 v x rs1 up rv o1 => ?_⟩
  cases (show v = x from rv)
  cases v with
  | false => exact ⟨φ1, ρ, T1, sl, rs1, rl.up up, o1⟩
  | true => exact o1.here rs1 rfl
theorem not_tru (s : Slots) (T : Store) : ((evE C (.pr .not [a']) s T).bind truP) = ((evE C a' s T).bind truP).bind fun k T => .ok (!k) T := by
  show ((evL C [a'] s T).bind fun vs T => noEx (evP C.kc .not vs T)).bind truP = _
  rw [evL1]
  cases evE C a' s T with
  | ok v T1 =>
    show (noEx (rn (truP v T1))).bind truP = (truP v T1).bind _
    rcases truP_ok (v := v) (T := T1) with ⟨k, e⟩ | e
    · rw [e]; rfl
    · rw [e]; rfl
  | ex _ _ => rfl
  | bad => rfl
theorem t_not (ha : PT X a (tT Γ W C a')) : PT X (.UnaryOp .Not a pos) (tT Γ W C (.pr .not [a'])) :=
  PT_of (pt_not ha) fun σ H Q ⟨φ, ρ, T, sl, rs, rl, o⟩ => by
    rw [not_tru] at o
    exact ⟨φ, ρ, T, sl, rs, rl, o.bind rs fun φ1 T1 H1 v x rs1 up rv o1 => by cases (show v = x from rv); exact o1.here rs1 rfl⟩
theorem e_not (hX : XG X Γ) (ha : PE X a (tE Γ W C a')) : PE X (.UnaryOp .Not a pos) (tE Γ W C (.pr .not [a'])) := by
  refine ⟨fun pins s σ H Q I ⟨φ, ρ, T, sl, rs, rl, o⟩ => ?_⟩
  change OutG Γ W σ φ ρ T H (RV Γ) ((evL C [a'] sl T).bind fun vs T => noEx (evP C.kc .not vs T)) Q at o
  rw [evL1] at o
  refine UnaryOp_ (thn (ha.run pins s σ H _ I ⟨φ, ρ, T, sl, rs, rl, o.bind rs fun φ1 T1 H1 v x rs1 up rv o1 => (show rTru Γ x H1 (fun k H => Q (.bl (!k)) H) from ⟨φ1, ρ, T1, v, rs1, rv, ?_⟩)⟩) fun v s1 ⟨x, H1, I1, r1, q1⟩ =>
    not_of (thn (tru_is hX pins s1 σ H1 x v _ I1 r1 q1) fun k s2 ⟨H2, I2, q2⟩ => ⟨.bl (!k), H2, I2, rfl, q2⟩))
  change OutG Γ W σ φ1 ρ T1 H1 (RV Γ) (noEx (rn (truP v T1))) Q at o1
  rcases truP_ok (v := v) (T := T1) with ⟨k, e⟩ | e
  · rw [e] at o1 ⊢
    exact fun φ' H' l rs' => o1 φ' H' (.bl (!k)) l rs' (by rw [RV])
  · rw [e] at o1
    exact o1.elim
theorem e_one {op : BoolOp} (ha : PE X a (tE Γ W C a')) : PE X (.BoolOp op [a] pos) (tE Γ W C (.one a')) := PE_of (pe_one ha) fun _ _ _ h => h
theorem bool_val {σ : L2.St} (hX : XG X Γ) (ha : PE X a (tE Γ W C a')) {pins : List (Addr × Obj)} {s : Shared} {H : Hp} {φ ρ : List Addr} {T : Store} {sl : Slots} {f : PV → Bool → Store → Ro PV} {Q : VK} (I : Inv X pins σ H s) (rs : RS Γ H φ ρ T) (rl : RL Γ H φ (MM φ ρ T) σ sl)
    (o : OutG Γ W σ φ ρ T H (RV Γ) ((evE C a' sl T).bind fun v T => (truP v T).bind fun c T => f v c T) Q) {F : Value → Bool → Shared → Prop}
    (k : ∀ v s1 H1 x φ1 T1 u c, Inv X pins σ H1 s1 → RelV x v → RS Γ H1 φ1 ρ T1 → RL Γ H1 φ1 (MM φ1 ρ T1) σ sl → RV Γ H1 φ1 (MM φ1 ρ T1) u x → OutG Γ W σ φ1 ρ T1 H1 (RV Γ) (f u c T1) Q → F v c s1) :
    wpAny (model X.prog X.w) X.A (eval a X.env) (fun v s1 => wpAny (model X.prog X.w) X.A (truthy v) (fun c s2 => F v c s2) X.xe s1) X.xe s := by
  refine thn (ha.run pins s σ H _ I ⟨φ, ρ, T, sl, rs, rl, o.bind rs fun φ1 T1 H1 v x rs1 up rv o1 => (show ∃ φ1 T1 v, RS Γ H1 φ1 ρ T1 ∧ RL Γ H1 φ1 (MM φ1 ρ T1) σ sl ∧ RV Γ H1 φ1 (MM φ1 ρ T1) v x ∧ OutG Γ W σ φ1 ρ T1 H1 (RV Γ) ((truP v T1).bind fun c T => f v c T) Q from ⟨φ1, T1, v, rs1, rl.up up, rv, o1⟩)⟩)
    fun v s1 ⟨x, H1, I1, r1, φ1, T1, u, rs1, rl1, rv, o1⟩ => ?_
  rcases truP_ok (v := u) (T := T1) with ⟨c, e⟩ | e
  · rw [e] at o1
    change OutG Γ W σ φ1 ρ T1 H1 (RV Γ) (f u c T1) Q at o1
    refine thn (tru_is hX pins s1 σ H1 x v (fun c' H2 => c' = c ∧ ∃ φ2, Le φ1 T1 H1 φ2 T1 H2 ∧ RS Γ H2 φ2 ρ T1) I1 r1 ⟨φ1, ρ, T1, u, rs1, rv, ?_⟩) fun c' s2 ⟨H2, I2, q1, φ2, l, rs2⟩ => ?_
    · rw [e]
      exact fun φ' H' l rs' => ⟨rfl, φ', l, rs'⟩
    · subst q1
      exact k v s2 H2 x φ2 T1 u _ I2 r1 rs2 (rl1.up (l.up rs1)) (rv.up (l.up rs1)) (o1.step l)
  · rw [e] at o1
    exact o1.elim
theorem e_and (hX : XG X Γ) (ha : PE X a (tE Γ W C a')) (hb : PE X (.BoolOp .And (b :: rest) pos) (tE Γ W C b')) : PE X (.BoolOp .And (a :: b :: rest) pos) (tE Γ W C (.and a' b')) := by
  refine ⟨fun pins s σ H Q I ⟨φ, ρ, T, sl, rs, rl, o⟩ => BoolOp_and (bool_val hX ha I rs rl (o : OutG Γ W σ φ ρ T H (RV Γ) ((evE C a' sl T).bind fun v T => (truP v T).bind fun c T => if c then evE C b' sl T else .ok v T) Q) fun v s1 H1 x φ1 T1 u c I1 r1 rs1 rl1 rv o1 => ?_)⟩
  cases c with
  | true => exact hb.run pins s1 σ H1 Q I1 ⟨φ1, ρ, T1, sl, rs1, rl1, o1⟩
  | false => exact ⟨x, H1, I1, r1, o1.here rs1 rv⟩
theorem e_or (hX : XG X Γ) (ha : PE X a (tE Γ W C a')) (hb : PE X (.BoolOp .Or (b :: rest) pos) (tE Γ W C b')) : PE X (.BoolOp .Or (a :: b :: rest) pos) (tE Γ W C (.or a' b')) := by
  refine ⟨fun pins s σ H Q I ⟨φ, ρ, T, sl, rs, rl, o⟩ => BoolOp_or (bool_val hX ha I rs rl (o : OutG Γ W σ φ ρ T H (RV Γ) ((evE C a' sl T).bind fun v T => (truP v T).bind fun c T => if c then .ok v T else evE C b' sl T) Q) fun v s1 H1 x φ1 T1 u c I1 r1 rs1 rl1 rv o1 => ?_)⟩
  cases c with
  | false => exact hb.run pins s1 σ H1 Q I1 ⟨φ1, ρ, T1, sl, rs1, rl1, o1⟩
  | true => exact ⟨x, H1, I1, r1, o1.here rs1 rv⟩
theorem bind_assoc {α β γ : Type} (r : Ro α) (f : α → Store → Ro β) (g : β → Store → Ro γ) : (r.bind f).bind g = r.bind fun a T => (f a T).bind g := by
  cases r <;> rfl
theorem e_ife (hc : PT X c (tT Γ W C c')) (ha : PE X a (tE Γ W C a')) (hb : PE X b (tE Γ W C b')) : PE X (.IfExp c a b pos) (tE Γ W C (.ife c' a' b')) :=
  PE_of (pe_ifExp hc ha hb) fun σ H Q ⟨φ, ρ, T, s, rs, rl, o⟩ => by
    change OutG Γ W σ φ ρ T H (RV Γ) ((evE C c' s T).bind fun v T => (truP v T).bind fun k T => if k then evE C a' s T else evE C b' s T) Q at o
    rw [← bind_assoc] at o
    exact ⟨φ, ρ, T, s, rs, rl, o.bind rs fun φ1 T1 H1 v x rs1 up rv o1 => by
      cases (show v = x from rv)
      cases v with
      | true => exact ⟨φ1, ρ, T1, s, rs1, rl.up up, o1⟩
      | false => exact ⟨φ1, ρ, T1, s, rs1, rl.up up, o1⟩⟩
theorem toChain {σ : L2.St} {H : Hp} {Q : VK} (hk : Γ.kc = C.kc) (h : tE Γ W C (.ch2 p q a' b' c') σ H Q) : tChain (rP2 Γ p) (rP2 Γ q) (tE Γ W C a') (tE Γ W C b') (tE Γ W C c') σ H Q := by
  obtain ⟨φ, ρ, T, s, rs, rl, o⟩ := h
  refine seq2 (f := fun x y T => (noEx (evP C.kc p [x, y] T)).bind fun r T => match r with
      | .bl true => (evE C c' s T).bind fun z T => noEx (evP C.kc q [y, z] T)
      | .bl false => .ok (.bl false) T
      | _ => .bad) rs rl o fun φ1 T1 H1 v w x y rs1 rl1 rv rw1 o1 => ⟨φ1, ρ, T1, v, w, rs1, rv, rw1, ?_⟩
  rw [hk]
  cases e : evP C.kc p [v, w] T1 with
  | bad => rw [e] at o1; exact o1.elim
  | ex _ _ => rw [e] at o1; exact o1.elim
  | ok r T2 =>
    rw [e] at o1
    intro φ2 H2 u l rs2 ru
    have up := l.up rs1
    have o2 := o1.step l
    cases r with
    | bl k =>
      rw [RV] at ru
      refine ⟨k, ru, ?_⟩
      cases k with
      | true =>
        change OutG Γ W σ φ2 ρ T2 H2 (RV Γ) ((evE C c' s T2).bind fun z T => noEx (evP C.kc q [w, z] T)) Q at o2
        exact ⟨φ2, ρ, T2, s, rs2, rl1.up up, o2.bind rs2 fun φ3 T3 H3 z x rs3 up3 rz o3 => ⟨φ3, ρ, T3, w, z, rs3, (rw1.up up).up up3, rz, by rw [hk]; exact o3.toP⟩⟩
      | false => exact o2.here rs2 (by rw [RV])
    | _ => exact o2.elim
theorem e_chain {op op' : CmpOp} (hk : Γ.kc = C.kc) (ho : OpR X (compareOp op) (rP2 Γ p)) (ho' : OpR X (compareOp op') (rP2 Γ q)) (ha : PE X a (tE Γ W C a')) (hb : PE X b (tE Γ W C b')) (hc : PE X c (tE Γ W C c'))
    (hm : lastMarks [op, op'] [b, c] = false := by with_unfolding_all rfl) : PE X (.Compare a [op, op'] [b, c] pos) (tE Γ W C (.ch2 p q a' b' c')) :=
  PE_of (pe_chain ho ho' ha hb hc hm) fun _ _ _ h => toChain hk h
/-- a test of a bool value -/
theorem tTest_of {t : TE} {e' : Ex} (i : ∀ σ H Q, tE Γ W C e' σ H Q → t σ H Q) (bo : ∀ s T, (∃ k T', evE C e' s T = .ok (.bl k) T') ∨ (∃ x T', evE C e' s T = .ex x T') ∨ (evE C e' s T).bind truP = .bad) : ∀ σ H Q, tT Γ W C e' σ H Q → tTest t σ H Q := fun σ H Q ⟨φ, ρ, T, s, rs, rl, o⟩ => by
  refine i σ H _ ⟨φ, ρ, T, s, rs, rl, ?_⟩
  rcases bo s T with ⟨k, T', e⟩ | ⟨x, T', e⟩ | e
  · rw [e] at o ⊢
    intro φ1 H1 u l rs1 ru
    rw [RV] at ru
    exact ⟨k, ru, o φ1 H1 k l rs1 rfl⟩
  · rw [e] at o ⊢
    exact o
  · rw [e] at o
    exact o.elim
theorem rb_bl {r : Ro Bool} {v : PV} {T : Store} (h : noEx (rb r) = .ok v T) : ∃ k, v = .bl k := by
  cases r with
  | ok k T' => cases h; exact ⟨k, rfl⟩
  | _ => cases h
theorem rn_bl {r : Ro Bool} {v : PV} {T : Store} (h : noEx (rn r) = .ok v T) : ∃ k, v = .bl k := by
  cases r with
  | ok k T' => cases h; exact ⟨_, rfl⟩
  | _ => cases h
/-- these hand back truth values -/
def cmpPr : Pr → Bool
  | .eq | .ne | .lt | .le | .gt | .ge | .isin _ | .not => true
  | _ => false
theorem cmp_bl {kc : List PV} (hp : cmpPr p = true) {vs : List PV} {T T' : Store} {v : PV} (h : noEx (evP kc p vs T) = .ok v T') : ∃ k, v = .bl k := by
  have no : ∀ q vs', (evP kc q vs' T = .bad → noEx (evP kc q vs' T) = .ok v T' → ∃ k, v = .bl k) := fun q vs' e h => by rw [e] at h; cases h
  match vs with
  | [] => cases p <;> first | (exact no _ _ rfl h) | cases hp
  | [x] => cases p <;> first | (exact rn_bl h) | (exact no _ _ rfl h) | cases hp
  | [x, y] =>
    cases p <;> first | (exact rb_bl h) | (exact rn_bl h) | (exact no _ _ rfl h) | cases hp | skip
    rename_i neg
    cases neg with
    | true => exact rn_bl h
    | false => exact rb_bl h
  | _ :: _ :: _ :: _ => cases p <;> first | (exact no _ _ rfl h) | cases hp
theorem bo_pr (hp : cmpPr p = true) (es' : List Ex) (s : Slots) (T : Store) : (∃ k T', evE C (.pr p es') s T = .ok (.bl k) T') ∨ (∃ x T', evE C (.pr p es') s T = .ex x T') ∨ (evE C (.pr p es') s T).bind truP = .bad := by
  show (∃ k T', (evL C es' s T).bind (fun vs T => noEx (evP C.kc p vs T)) = .ok (.bl k) T') ∨ (∃ x T', (evL C es' s T).bind (fun vs T => noEx (evP C.kc p vs T)) = .ex x T') ∨ ((evL C es' s T).bind fun vs T => noEx (evP C.kc p vs T)).bind truP = .bad
  cases evL C es' s T with
  | ok vs T1 =>
    show (∃ k T', noEx (evP C.kc p vs T1) = .ok (.bl k) T') ∨ (∃ x T', noEx (evP C.kc p vs T1) = .ex x T') ∨ (noEx (evP C.kc p vs T1)).bind truP = .bad
    cases e : noEx (evP C.kc p vs T1) with
    | ok v T2 =>
      obtain ⟨k, rfl⟩ := cmp_bl hp e
      exact .inl ⟨k, T2, rfl⟩
    | ex x T2 => exact .inr (.inl ⟨x, T2, rfl⟩)
    | bad => exact .inr (.inr rfl)
  | ex x T1 => exact .inr (.inl ⟨x, T1, rfl⟩)
  | bad => exact .inr (.inr rfl)
theorem t_cmp {op : CmpOp} (hp : cmpPr p = true) (hk : Γ.kc = C.kc) (ho : OpR X (compareOp op) (rP2 Γ p)) (ha : PE X a (tE Γ W C a')) (hb : PE X b (tE Γ W C b')) (hm : behindInMarks op b = false) : PT X (.Compare a [op] [b] pos) (tT Γ W C (.pr p [a', b'])) :=
  PT_of (pt_cmpR ho ha hb hm) (tTest_of (fun _ _ _ h => to2 h hk) (bo_pr hp _))
theorem t_chain {op op' : CmpOp} (hp : cmpPr p = true) (hq : cmpPr q = true) (hk : Γ.kc = C.kc) (ho : OpR X (compareOp op) (rP2 Γ p)) (ho' : OpR X (compareOp op') (rP2 Γ q)) (ha : PE X a (tE Γ W C a')) (hb : PE X b (tE Γ W C b')) (hc : PE X c (tE Γ W C c'))
    (hm : lastMarks [op, op'] [b, c] = false := by with_unfolding_all rfl) : PT X (.Compare a [op, op'] [b, c] pos) (tT Γ W C (.ch2 p q a' b' c')) := by
  refine PT_of (pt_chain ho ho' ha hb hc hm) (tTest_of (fun _ _ _ h => toChain hk h) fun s T => ?_)
  have e : evE C (.ch2 p q a' b' c') s T = ((evE C a' s T).bind fun x T => (evE C b' s T).bind fun y T => (noEx (evP C.kc p [x, y] T)).bind fun r T => match r with
      | .bl true => (evE C c' s T).bind fun z T => noEx (evP C.kc q [y, z] T)
      | .bl false => .ok (.bl false) T
      | _ => .bad) := rfl
  rw [e]
  cases evE C a' s T with
  | ok x T1 =>
    rw [Ro.bind_ok]
    cases evE C b' s T1 with
    | ok y T2 =>
      rw [Ro.bind_ok]
      cases e1 : noEx (evP C.kc p [x, y] T2) with
      | ok r T3 =>
        obtain ⟨k, rfl⟩ := cmp_bl hp e1
        cases k with
        | false => exact .inl ⟨false, T3, rfl⟩
        | true =>
          show (∃ k T', (evE C c' s T3).bind (fun z T => noEx (evP C.kc q [y, z] T)) = .ok (.bl k) T') ∨ (∃ x T', (evE C c' s T3).bind (fun z T => noEx (evP C.kc q [y, z] T)) = .ex x T') ∨ ((evE C c' s T3).bind fun z T => noEx (evP C.kc q [y, z] T)).bind truP = .bad
          cases evE C c' s T3 with
          | ok z T4 =>
            show (∃ k T', noEx (evP C.kc q [y, z] T4) = .ok (.bl k) T') ∨ (∃ x T', noEx (evP C.kc q [y, z] T4) = .ex x T') ∨ (noEx (evP C.kc q [y, z] T4)).bind truP = .bad
            cases e2 : noEx (evP C.kc q [y, z] T4) with
            | ok v T5 =>
              obtain ⟨k, rfl⟩ := cmp_bl hq e2
              exact .inl ⟨k, T5, rfl⟩
            | ex x T2 => exact .inr (.inl ⟨x, T2, rfl⟩)
            | bad => exact .inr (.inr rfl)
          | ex x T1 => exact .inr (.inl ⟨x, T1, rfl⟩)
          | bad => exact .inr (.inr rfl)
      | ex x T1 => exact .inr (.inl ⟨x, T1, rfl⟩)
      | bad => exact .inr (.inr rfl)
    | ex x T1 => exact .inr (.inl ⟨x, T1, rfl⟩)
    | bad => exact .inr (.inr rfl)
  | ex x T1 => exact .inr (.inl ⟨x, T1, rfl⟩)
  | bad => exact .inr (.inr rfl)

/-! displays, globals, is None -/
theorem e_tup {x1 : Nat} (hz : es'.length ≤ sizeLine) (h : PA X es (tL Γ W C es')) : PE X (.Tuple es x1 pos) (tE Γ W C (.tup es')) := by
  refine PE_of (pe_tup h) fun σ H Q ⟨φ, ρ, T, s, rs, rl, o⟩ => ?_
  change OutG Γ W σ φ ρ T H (RV Γ) ((evL C es' s T).bind fun vs T => .ok (.tup vs) T) Q at o
  have len : ∀ (es' : List Ex) (T : Store) vs T', evL C es' s T = .ok vs T' → vs.length = es'.length := by
    intro es'
    induction es' with
    | nil => intro T vs T' e; cases e; rfl
    | cons a es ih =>
      intro T vs T' e
      change ((evE C a s T).bind fun v T => (evL C es s T).bind fun vs T => .ok (v :: vs) T) = .ok vs T' at e
      cases e1 : evE C a s T with
      | ok v T1 =>
        rw [e1, Ro.bind_ok] at e
        cases e2 : evL C es s T1 with
        | ok ws T2 =>
          rw [e2] at e
          cases e
          simp [ih _ _ _ e2]
        | ex _ _ => rw [e2] at e; cases e
        | bad => rw [e2] at e; cases e
      | ex _ _ => rw [e1] at e; cases e
      | bad => rw [e1] at e; cases e
  refine ⟨φ, ρ, T, s, rs, rl, ?_⟩
  cases e : evL C es' s T with
  | ok vs T' =>
    rw [e] at o
    intro φ1 H1 us l rs1 rv
    refine ⟨by rw [rv.length, len _ _ _ _ e]; exact hz, fun p hp => ?_⟩
    have o2 := o.step l
    exact OutP.tup (Q := Q) rs1 o2 rv hp
  | ex _ _ => rw [e] at o; exact o
  | bad => rw [e] at o; exact o
theorem e_lst {m : Bool} (hz : es'.length ≤ sizeLine) (h : PA X es (tL Γ W C es')) : PE X (.List es pos) (tE Γ W C (.lst m es')) := by
  refine PE_of (pe_lst h) fun σ H Q ⟨φ, ρ, T, s, rs, rl, o⟩ => ?_
  change OutG Γ W σ φ ρ T H (RV Γ) ((evL C es' s T).bind fun vs T => lay m (.lst vs) T) Q at o
  have len : ∀ (es' : List Ex) (T : Store) vs T', evL C es' s T = .ok vs T' → vs.length = es'.length := by
    intro es'
    induction es' with
    | nil => intro T vs T' e; cases e; rfl
    | cons a es ih =>
      intro T vs T' e
      change ((evE C a s T).bind fun v T => (evL C es s T).bind fun vs T => .ok (v :: vs) T) = .ok vs T' at e
      cases e1 : evE C a s T with
      | ok v T1 =>
        rw [e1, Ro.bind_ok] at e
        cases e2 : evL C es s T1 with
        | ok ws T2 =>
          rw [e2] at e
          cases e
          simp [ih _ _ _ e2]
        | ex _ _ => rw [e2] at e; cases e
        | bad => rw [e2] at e; cases e
      | ex _ _ => rw [e1] at e; cases e
      | bad => rw [e1] at e; cases e
  refine ⟨φ, ρ, T, s, rs, rl, ?_⟩
  cases e : evL C es' s T with
  | ok vs T' =>
    rw [e] at o
    intro φ1 H1 us l rs1 rv
    refine ⟨by rw [rv.length, len _ _ _ _ e]; exact hz, fun p hp => ?_⟩
    have o2 : OutG Γ W σ φ1 ρ T' H1 (RV Γ) (lay m (.lst vs) T') Q := o.step l
    have o3 : OutP Γ φ1 ρ T' H1 (lay m (.lst vs) T') Q := by cases m <;> exact o2
    exact OutP.lst rs1 o3 rv hp
  | ex _ _ => rw [e] at o; exact o
  | bad => rw [e] at o; exact o
theorem e_glb {x : Str} {v : V} {u : Value} {g : Nat} {z : PV} (hz : C.glob g = some z) (hr : ∀ H φ M, RV Γ H φ M z v) (hg : Gl X x) (hm : X.mg x = some u) (r : RelV v u) (hd : (x == ("__debug__" : Str)) = false := by decide) : PE X (.Name x pos) (tE Γ W C (.glb g)) :=
  PE_of (pe_glob hg hm r hd) fun σ H Q ⟨φ, ρ, T, s, rs, rl, o⟩ => by
    change OutG Γ W σ φ ρ T H (RV Γ) (match C.glob g with | some v => .ok v T | none => .bad) Q at o
    rw [hz] at o
    exact o.here rs (hr _ _ _)
theorem tIsN_of {σ : L2.St} {H : Hp} {Q : VK} {neg : Bool} (h : tE Γ W C (.pr (.isn neg) [a']) σ H Q) : tE Γ W C a' σ H fun x H1 => Q (.bl (neg != decide (x = .non))) H1 := by
  obtain ⟨φ, ρ, T, s, rs, rl, o⟩ := h
  change OutG Γ W σ φ ρ T H (RV Γ) ((evL C [a'] s T).bind fun vs T => noEx (evP C.kc (.isn neg) vs T)) Q at o
  rw [evL1] at o
  refine ⟨φ, ρ, T, s, rs, rl, o.bind rs fun φ1 T1 H1 v x rs1 up rv o1 => o1.here rs1 ?_⟩
  rw [RV]
  have : (decide (x = V.non)) = @decide (v = PV.non) (Classical.propDecidable _) := decide_eq_decide.mpr (rv_non_iff rv)
  rw [this]
theorem e_isN {j : Nat} {pos' : Pos} (ha : PE X a (tE Γ W C a')) (hm : behindInMarks .Is (.Constant .none j pos') = false := by rfl) : PE X (.Compare a [.Is] [.Constant .none j pos'] pos) (tE Γ W C (.pr (.isn false) [a'])) :=
  PE_of (pe_cmp (pc_isN ha) hm) fun σ H Q h => by have := tIsN_of h; simpa [tIsN, tNotN] using this
theorem e_notN {j : Nat} {pos' : Pos} (ha : PE X a (tE Γ W C a')) (hm : behindInMarks .IsNot (.Constant .none j pos') = false := by rfl) : PE X (.Compare a [.IsNot] [.Constant .none j pos'] pos) (tE Γ W C (.pr (.isn true) [a'])) :=
  PE_of (pe_cmp (pc_notN ha) hm) fun σ H Q h => by have := tIsN_of h; simpa [tIsN, tNotN] using this
theorem bo_isn {neg : Bool} (s : Slots) (T : Store) : (∃ k T', evE C (.pr (.isn neg) [a']) s T = .ok (.bl k) T') ∨ (∃ x T', evE C (.pr (.isn neg) [a']) s T = .ex x T') ∨ (evE C (.pr (.isn neg) [a']) s T).bind truP = .bad := by
  show (∃ k T', (evL C [a'] s T).bind (fun vs T => noEx (evP C.kc (.isn neg) vs T)) = .ok (.bl k) T') ∨ (∃ x T', (evL C [a'] s T).bind (fun vs T => noEx (evP C.kc (.isn neg) vs T)) = .ex x T') ∨ ((evL C [a'] s T).bind fun vs T => noEx (evP C.kc (.isn neg) vs T)).bind truP = .bad
  rw [evL1]
  cases evE C a' s T with
  | ok v T1 => exact .inl ⟨_, T1, rfl⟩
  | ex x T1 => exact .inr (.inl ⟨x, T1, rfl⟩)
  | bad => exact .inr (.inr rfl)
theorem t_isN {j : Nat} {pos' : Pos} (ha : PE X a (tE Γ W C a')) (hm : behindInMarks .Is (.Constant .none j pos') = false := by rfl) : PT X (.Compare a [.Is] [.Constant .none j pos'] pos) (tT Γ W C (.pr (.isn false) [a'])) :=
  PT_of (pt_cmp (pc_isN ha) hm) fun σ H Q h => tTest_of (t := tIsN (tE Γ W C a')) (fun σ H Q h => by have := tIsN_of h; simpa [tIsN, tNotN] using this) bo_isn σ H Q h
theorem t_notN {j : Nat} {pos' : Pos} (ha : PE X a (tE Γ W C a')) (hm : behindInMarks .IsNot (.Constant .none j pos') = false := by rfl) : PT X (.Compare a [.IsNot] [.Constant .none j pos'] pos) (tT Γ W C (.pr (.isn true) [a'])) :=
  PT_of (pt_cmp (pc_notN ha) hm) fun σ H Q h => tTest_of (t := tNotN (tE Γ W C a')) (fun σ H Q h => by have := tIsN_of h; simpa [tIsN, tNotN] using this) bo_isn σ H Q h
end
end E
set_option Elab.async false
set_option linter.all false
set_option autoImplicit false
set_option maxRecDepth 100000
set_option maxHeartbeats 1000000
/-! Part 8: built-in functions, types called, methods of lists, dicts, sets. -/
namespace E
open PySem PySem.Spec PyProof.Rows L2

section
variable {Γ : SE} {X : Cx} {Q : VK} {φ ρ : List Addr} {T : Store} {H : Hp}
theorem stoLe {l : Nat} {a : Addr} {x ob : PV} {o : HO} (h1 : T[l]? = some x) (hx : x ≠ dead) (h2 : φ[l]? = some a) : Le φ T H φ (T.set l ob) (upd H a o) := by
  have lva : Lv φ T a := ⟨l, x, h1, hx, h2⟩
  have lv : ∀ b, Lv φ (T.set l ob) b → Lv φ T b := fun b ⟨j, y, q1, q2, q3⟩ => by
    by_cases hj : j = l
    · subst hj; rw [h2] at q3; cases q3; exact lva
    · rw [List.getElem?_set_ne (fun e => hj e.symm)] at q1
      exact ⟨j, y, q1, q2, q3⟩
  have ma : a ∈ φ := List.mem_of_getElem? h2
  refine ⟨⟨[], by simp⟩, fun b u e _ n => ?_, fun b u e n => ⟨n, u, by rw [upd_ne (show b ≠ a from fun z => n (z ▸ ma))]; exact e⟩⟩
  have hb : b ≠ a := fun e => n (e ▸ lva)
  exact ⟨by rw [upd_ne hb]; exact e, fun z => n (lv b z)⟩
/-- a store's end -/
theorem OutP.sto {l : Nat} {a : Addr} {x ob : PV} {o : HO} {v : PV} {u : V} (rs : RS Γ H φ ρ T) (h1 : T[l]? = some x) (hx : x ≠ dead) (h2 : φ[l]? = some a) (hob : ob ≠ dead)
    (out : OutP Γ φ ρ T H (sto (.ref l) ob T v) Q)
    (h : Up H φ (MM φ ρ T) (upd H a o) φ (MM φ ρ (T.set l ob)) → OR Γ (upd H a o) φ (MM φ ρ (T.set l ob)) a ob ∧ RV Γ (upd H a o) φ (MM φ ρ (T.set l ob)) v u) : Q u (upd H a o) := by
  have L := stoLe (ob := ob) (H := H) (o := o) h1 hx h2
  obtain ⟨h3, h4⟩ := h (L.up rs)
  obtain ⟨_, rs'⟩ := sto1 rs h1 hx h2 hob h3
  exact out φ (upd H a o) u L rs' h4
/-- a new thing, or a value -/
theorem OutP.lay {m : Bool} {v : PV} {o : HO} {p : Addr} (rs : RS Γ H φ ρ T) (hp : H p = none) (out : OutP Γ φ ρ T H (lay m v T) Q)
    (h : ∀ φ' M', Up H φ (MM φ ρ T) (upd H p o) φ' M' → OR Γ (upd H p o) φ' M' p v ∧ (¬ M' p → RV Γ (upd H p o) φ' M' v (.ref p))) : Q (.ref p) (upd H p o) := by
  cases m with
  | false =>
    obtain ⟨l, rs1, up, n⟩ := lay0 rs hp o
    exact out φ (upd H p o) (.ref p) l rs1 ((h _ _ up).2 n)
  | true =>
    have n := rs.fresh hp
    have lv : ∀ a, a ≠ p → Lv (φ ++ [p]) (T ++ [v]) a → Lv φ T a := fun a ha ⟨l, x, h1, h2, h3⟩ => by
      by_cases hl : l < φ.length
      · rw [List.getElem?_append_left hl] at h3
        rw [List.getElem?_append_left (by rw [← rs.len]; exact hl)] at h1
        exact ⟨l, x, h1, h2, h3⟩
      · rw [List.getElem?_append_right (by omega)] at h3
        have : a ∈ [p] := List.mem_of_getElem? h3
        exact absurd (by simpa using this) ha
    have L : Le φ T H (φ ++ [p]) (T ++ [v]) (upd H p o) := by
      refine ⟨⟨[p], rfl⟩, fun a o e _ n => ?_, fun a o e n => ?_⟩
      · have ha := ne_of_none e hp
        exact ⟨by rw [upd_ne ha]; exact e, fun z => n (lv a ha z)⟩
      · have ha := ne_of_none e hp
        exact ⟨by simp [n, ha], o, by rw [upd_ne ha]; exact e⟩
    obtain ⟨_, rs1⟩ := lay1 rs hp o v (h _ _ (L.up rs)).1
    refine out (φ ++ [p]) (upd H p o) (.ref p) L rs1 ?_
    rw [RV]
    exact ⟨p, rfl, by rw [← rs.len]; simp⟩

/-! ### numbers, texts, truth -/
theorem bad_elim {α : Type} {Q' : Prop} (o : OutP Γ φ ρ T H .bad Q) : Q' := o.elim
theorem cr_int : CallR X (.type "int") (rPn Γ .int) := by
  intro pins s σ H xs us Q I r hh
  obtain ⟨φ, ρ, T, as, rs, ra, out⟩ := hh
  rcases as with _ | ⟨a, _ | ⟨b, as⟩⟩
  · exact out.elim
  · obtain ⟨x, e, ra1⟩ := rvs1 ra
    subst e
    cases a with
    | int i => rw [rv_int ra1] at r; exact call_int1 pins s σ H _ us Q I r (.inl ⟨i, rfl, out.int rs⟩)
    | bl i => rw [rv_bl ra1] at r; exact call_int1 pins s σ H _ us Q I r (.inr ⟨i, rfl, out.int rs⟩)
    | _ => exact out.elim
  · cases a <;> exact out.elim
theorem cr_abs : CallR X (.builtin "abs") (rPn Γ .abs) := by
  intro pins s σ H xs us Q I r hh
  obtain ⟨φ, ρ, T, as, rs, ra, out⟩ := hh
  rcases as with _ | ⟨a, _ | ⟨b, as⟩⟩
  · exact out.elim
  · obtain ⟨x, e, ra1⟩ := rvs1 ra
    subst e
    cases a with
    | int i => rw [rv_int ra1] at r; exact call_abs pins s σ H _ us Q I r ⟨i, rfl, out.int rs⟩
    | _ => exact out.elim
  · cases a <;> exact out.elim
theorem ofString_cast (s : String) : (Str.ofString s : Str) = (s : Str) := rfl
theorem cr_gcd' : CallR X (.builtin "math.gcd") (rPn Γ .gcd) := by
  intro pins s σ H xs us Q I r hh
  obtain ⟨φ, ρ, T, as, rs, ra, out⟩ := hh
  rcases as with _ | ⟨a, _ | ⟨b, _ | ⟨c, as⟩⟩⟩
  · exact out.elim
  · cases a <;> exact out.elim
  · obtain ⟨x, y, e, r1, r2⟩ := rvs2 ra
    subst e
    cases a with
    | int i =>
      cases b with
      | int j => rw [rv_int r1, rv_int r2] at r; exact cr_gcd pins s σ H _ us Q I r ⟨i, j, rfl, out.int rs⟩
      | _ => exact out.elim
    | _ => exact out.elim
  · cases a with
    | int i => cases b <;> exact out.elim
    | _ => exact out.elim
theorem cr_str : CallR X (.type "str") (rPn Γ .str) := by
  intro pins s σ H xs us Q I r hh
  obtain ⟨φ, ρ, T, as, rs, ra, out⟩ := hh
  rcases as with _ | ⟨a, _ | ⟨b, as⟩⟩
  · exact out.elim
  · obtain ⟨x, e, ra1⟩ := rvs1 ra
    subst e
    cases a with
    | int i =>
      rw [rv_int ra1] at r
      change OutP Γ φ ρ T H (if i.natAbs.log2 < 1920 then .ok (.str (Str.ofString (toString i))) T else .bad) Q at out
      split at out
      · rename_i h
        exact call_str_int pins s σ H _ us Q I r ⟨i, rfl, h, out.str rs⟩
      · exact out.elim
    | _ => exact out.elim
  · cases a <;> exact out.elim

/-! ### tuple, list -/
theorem itemsP_dv {kc : List PV} {a : PV} {xs : List PV} {x : V} (e : itemsP a T = some xs) (rs : RS Γ H φ ρ T) (ra : RV Γ H φ (MM φ ρ T) a x) :
    ∃ p vs, x = .ref p ∧ RVs Γ H φ (MM φ ρ T) xs vs ∧ ((dr T a = .lst xs ∧ SqL Γ.K H p vs) ∨ (dr T a = .tup xs ∧ SqT Γ.K H p vs)) := by
  have da := dr_rv rs ra
  unfold itemsP at e
  split at e
  · rename_i ys e1
    cases e
    rw [e1] at da
    obtain ⟨p, vs, ex, h, r⟩ := da
    exact ⟨p, vs, ex, r, .inl ⟨e1, h⟩⟩
  · rename_i ys e1
    cases e
    rw [e1] at da
    obtain ⟨p, vs, ex, h, r, _⟩ := da
    exact ⟨p, vs, ex, r, .inr ⟨e1, h⟩⟩
  · cases e
theorem cr_tuple (hX : XG X Γ) : CallR X (.type "tuple") (rPn Γ .tuple) := by
  intro pins s σ H xs us Q I r hh
  obtain ⟨φ, ρ, T, as, rs, ra, out⟩ := hh
  rcases as with _ | ⟨a, _ | ⟨b, as⟩⟩
  · exact out.elim
  · obtain ⟨x, e, ra1⟩ := rvs1 ra
    subst e
    change OutP Γ φ ρ T H (match itemsP a T with | some xs => .ok (.tup xs) T | none => .bad) Q at out
    split at out
    · rename_i ys e
      obtain ⟨p, vs, ex, rv, h⟩ := itemsP_dv (kc := []) e rs ra1
      subst ex
      rcases h with ⟨h1, h2⟩ | ⟨h1, h2⟩
      · exact call_tuple_of pins s σ H _ us Q I r ⟨p, vs, rfl, .inl ⟨by rw [hX.K]; exact h2, fun l hl => out.tup rs rv hl⟩⟩
      · have ea := dr_tup_self rs ra1 h1
        subst ea
        exact call_tuple_of pins s σ H _ us Q I r ⟨p, vs, rfl, .inr ⟨by rw [hX.K]; exact h2, out.here rs ra1⟩⟩
    · exact out.elim
  · exact out.elim
theorem cr_list (hX : XG X Γ) (m : Bool) : CallR X (.type "list") (rPn Γ (.list m)) := by
  intro pins s σ H xs us Q I r hh
  obtain ⟨φ, ρ, T, as, rs, ra, out⟩ := hh
  rcases as with _ | ⟨a, _ | ⟨b, as⟩⟩
  · exact out.elim
  · obtain ⟨x, e, ra1⟩ := rvs1 ra
    subst e
    have da := dr_rv rs ra1
    change OutP Γ φ ρ T H (match dr T a with | .lst xs | .tup xs => lay m (.lst xs) T | _ => .bad) Q at out
    split at out
    · rename_i ys e1
      rw [e1] at da
      obtain ⟨p, vs, ex, h, rv⟩ := da
      subst ex
      exact call_list_of pins s σ H _ us Q I r ⟨p, vs, rfl, .inl (by rw [hX.K]; exact h), fun l hl => out.lst rs rv hl⟩
    · rename_i ys e1
      rw [e1] at da
      obtain ⟨p, vs, ex, h, rv, _⟩ := da
      subst ex
      exact call_list_of pins s σ H _ us Q I r ⟨p, vs, rfl, .inr (by rw [hX.K]; exact h), fun l hl => out.lst rs rv hl⟩
    · exact out.elim
  · exact out.elim

/-! ### reading by place -/
theorem data_inj_aux : True := trivial
mutual
theorem data_inj : ∀ (a b : PV), a.plain = true → b.plain = true → a.data = b.data → a = b
  | .non, b, _, hb, e => by cases b <;> simp [PV.data, PV.plain] at e hb ⊢
  | .bl x, b, _, hb, e => by cases b <;> simp [PV.data, PV.plain] at e hb ⊢ <;> exact e
  | .int x, b, _, hb, e => by cases b <;> simp [PV.data, PV.plain] at e hb ⊢ <;> exact e
  | .str x, b, _, hb, e => by cases b <;> simp [PV.data, PV.plain] at e hb ⊢ <;> exact e
  | .tup xs, b, ha, hb, e => by
    cases b <;> simp [PV.data, PV.plain] at e ha hb ⊢
    exact data_injL xs _ ha hb e
  | .lst xs, b, ha, hb, e => by
    cases b <;> simp [PV.data, PV.plain] at e ha hb ⊢
    exact data_injL xs _ ha hb e
  | .dic _ _, _, ha, _, _ => by simp [PV.plain] at ha
  | .set _, _, ha, _, _ => by simp [PV.plain] at ha
  | .ins _ _, _, ha, _, _ => by simp [PV.plain] at ha
  | .ref _, _, ha, _, _ => by simp [PV.plain] at ha
theorem data_injL : ∀ (a b : List PV), PV.plainL a = true → PV.plainL b = true → PV.dataL a = PV.dataL b → a = b
  | [], [], _, _, _ => rfl
  | [], y :: ys, _, _, e => by simp [PV.dataL] at e
  | x :: xs, [], _, _, e => by simp [PV.dataL] at e
  | x :: xs, y :: ys, ha, hb, e => by
    rw [PV.plainL, Bool.and_eq_true] at ha hb
    rw [PV.dataL, PV.dataL] at e
    injection e with e1 e2
    rw [data_inj x y ha.1 hb.1 e1, data_injL xs ys ha.2 hb.2 e2]
end
/-! ### min, max of two; sum, all, any of a list -/
theorem cr_mm2 {big : Bool} {id : String} {p : Pr} (hp : p = if big then .max else .min) (h : CallR X (.builtin id) (fun xs H Q => ∃ i j, xs = [.int i, .int j] ∧ Q (.int (if big then (if j > i then j else i) else (if j < i then j else i))) H))
    (h1 : CallR X (.builtin id) (fun xs H Q => ∃ φ ρ T a, ∃ x, xs = [x] ∧ RS Γ H φ ρ T ∧ RV Γ H φ (MM φ ρ T) a x ∧ OutP Γ φ ρ T H (minP big [a] T) Q)) : CallR X (.builtin id) (rPn Γ p) := by
  intro pins s σ H xs us Q I r hh
  obtain ⟨φ, ρ, T, as, rs, ra, out⟩ := hh
  have out : OutP Γ φ ρ T H (minP big as T) Q := by subst hp; cases big <;> exact out
  rcases as with _ | ⟨a, _ | ⟨b, _ | ⟨c, as⟩⟩⟩
  · exact out.elim
  · obtain ⟨x, e, ra1⟩ := rvs1 ra
    exact h1 pins s σ H xs us Q I r ⟨φ, ρ, T, a, x, e, rs, ra1, out⟩
  · obtain ⟨x, y, e, r1, r2⟩ := rvs2 ra
    subst e
    cases a with
    | int i =>
      cases b with
      | int j => rw [rv_int r1, rv_int r2] at r; exact h pins s σ H _ us Q I r ⟨i, j, rfl, out.int rs⟩
      | _ => exact out.elim
    | _ => cases b <;> exact out.elim
  · cases a with
    | int i => cases b <;> exact out.elim
    | _ => cases b <;> exact out.elim
/-! min, max of a list, a tuple -/
theorem plainL_mem : ∀ {xs : List PV} {x : PV}, PV.plainL xs = true → x ∈ xs → x.plain = true
  | y :: ys, x, h, m => by
    rw [PV.plainL, Bool.and_eq_true] at h
    rcases List.mem_cons.mp m with e | m
    · rw [e]; exact h.1
    · exact plainL_mem h.2 m
  | [], _, _, m => by cases m
theorem fold_data (f : PyData → PyData → Bool) : ∀ (xs : List PV) (x : PV), x.plain = true → PV.plainL xs = true →
    (xs.foldl (fun a y => if f y.data a.data then y else a) x).data = (PV.dataL xs).foldl (fun a y => if f y a then y else a) x.data ∧ (xs.foldl (fun a y => if f y.data a.data then y else a) x).plain = true
  | [], x, hx, _ => ⟨rfl, hx⟩
  | y :: ys, x, hx, h => by
    rw [PV.plainL, Bool.and_eq_true] at h
    rw [List.foldl_cons, PV.dataL, List.foldl_cons]
    have := fold_data f ys (if f y.data x.data then y else x) (by split; exact h.1; exact hx) h.2
    refine ⟨this.1.trans ?_, this.2⟩
    congr 1
    split <;> rfl
theorem pick_rv {M : Addr → Prop} {xs : List PV} {vs : List V} {its : List Value} {i : Nat} {v : Value} {m : PV} {d : PyData} {h' : Heap} {bs : List Addr} {s : Shared} {pins : List (Addr × Obj)} {σ : L2.St} (I : Inv X pins σ H s) (hX : XG X Γ) (hp : PV.plainL xs = true) (rv : RVs Γ H φ M xs vs) (ri : Vals vs its) (hv : its.toArray[i]? = some v)
    (hr : Reads h' v d bs) (k : ∀ b o, s.heap.get? b = some o → h'.get? b = some o) (hm : m.plain = true) (e : m.data = d) : ∃ u, RelV u v ∧ RV Γ H φ M m u := by
  have hv' : its[i]? = some v := by simpa using hv
  have hi : i < its.length := (List.getElem?_eq_some_iff.mp hv').1
  have l1 := ri.length
  have l2 := rv.length
  have hx : xs[i]? = some xs[i] := List.getElem?_eq_getElem (by omega)
  obtain ⟨u, hu, ru⟩ := rv.get hx
  obtain ⟨w, hw, rw1⟩ := ri.get hu
  rw [hv'] at hw; cases hw
  have py := plainL_mem hp (List.mem_of_getElem? hx)
  obtain ⟨as, r⟩ := reads_rv I hX.K _ u v py ru rw1
  have e1 := PySem.SeqAt.readOf_plain (plain_data _ py) (PySem.W.reads_keeps k r)
  have pd : d.plain = true := by rw [← e]; exact plain_data _ hm
  have e2 := PySem.SeqAt.readOf_plain pd hr
  have e3 : xs[i].data = m.data := by rw [e, ← e1, ← e2]
  have := data_inj _ _ py hm e3
  exact ⟨u, rw1, by rw [← this]; exact ru⟩
open Classical in
theorem mm_seq (hX : XG X Γ) {k : Nat} (hr : Room k X.A) (hc : X.calm = true) (big : Bool) {id : String} (hid : id = if big then "max" else "min") :
    CallR X (.builtin id) (fun xs H Q => ∃ φ ρ T a, ∃ x, xs = [x] ∧ RS Γ H φ ρ T ∧ RV Γ H φ (MM φ ρ T) a x ∧ OutP Γ φ ρ T H (minP big [a] T) Q) := by
  intro pins s σ H xs us Q I r hh
  obtain ⟨φ, ρ, T, a, x, ex, rs, ra, out⟩ := hh
  subst ex
  obtain ⟨u, eu, ru⟩ := vals1 r
  subst eu
  change OutP Γ φ ρ T H (match itemsP a T with
    | some xs => if minOk xs then (match (if big then maxL xs else minL xs) with
      | some v => .ok v T
      | none => .bad) else .bad
    | none => .bad) Q at out
  split at out
  · rename_i ys e
    split at out
    · rename_i ok
      obtain ⟨p, vs, ex, rv, h⟩ := itemsP_dv (kc := []) e rs ra
      subst ex
      cases (show u = Value.ref p from ru)
      obtain ⟨hp, ha, hd⟩ := ok
      cases ys with
      | nil => cases big <;> exact out.elim
      | cons y ys =>
        have hp' : y.plain = true ∧ PV.plainL ys = true := by rw [PV.plainL, Bool.and_eq_true] at hp; exact hp
        have hu : X.A.units + 1 + PyData.depthAll (PV.dataL (y :: ys)) < cLine := by
          have := hr.units
          omega
        cases big with
        | false =>
          subst hid
          obtain ⟨f1, f2⟩ := fold_data PySem.W.dataLt ys y hp'.1 hp'.2
          change OutP Γ φ ρ T H (.ok _ T) Q at out
          have fin : ∀ its : List Value, Vals vs its → ∀ (i : Nat) v h' tk bs, its.toArray[i]? = some v → Reads h' v (PySem.W.minD y.data (PV.dataL ys)) bs → (∀ b o, s.heap.get? b = some o → h'.get? b = some o) → EP X pins σ Q v { s with heap := h', toks := tk } := fun its ri i v h' tk bs hv hr hk => by
            obtain ⟨u, r1, r2⟩ := pick_rv I hX hp rv ri hv hr hk f2 f1
            exact ⟨u, H, I.kept hk, r1, out.here rs r2⟩
          rcases h with ⟨_, h⟩ | ⟨_, h⟩
          · obtain ⟨its, ri, pl, _⟩ := I.list (a := p) (xs := vs) (by rw [hX.K]; exact h)
            obtain ⟨as, hrd⟩ := readsAll_rv I hX.K _ _ _ hp rv ri
            exact PySem.W.min_list_data (I.ok.hd hc) pl.isList (by simpa [PV.dataL] using hrd) ha hu (fin its ri)
          · obtain ⟨its, ri, pl, _⟩ := I.tuple (a := p) (xs := vs) (by rw [hX.K]; exact h)
            obtain ⟨as, hrd⟩ := readsAll_rv I hX.K _ _ _ hp rv ri
            exact PySem.W.min_tuple_data (I.ok.hd hc) pl (by simpa [PV.dataL] using hrd) ha hu (fin its ri)
        | true =>
          subst hid
          obtain ⟨f1, f2⟩ := fold_data (fun a b => PySem.W.dataLt b a) ys y hp'.1 hp'.2
          change OutP Γ φ ρ T H (.ok _ T) Q at out
          have fin : ∀ its : List Value, Vals vs its → ∀ (i : Nat) v h' tk bs, its.toArray[i]? = some v → Reads h' v (PySem.W.maxD y.data (PV.dataL ys)) bs → (∀ b o, s.heap.get? b = some o → h'.get? b = some o) → EP X pins σ Q v { s with heap := h', toks := tk } := fun its ri i v h' tk bs hv hr hk => by
            obtain ⟨u, r1, r2⟩ := pick_rv I hX hp rv ri hv hr hk f2 f1
            exact ⟨u, H, I.kept hk, r1, out.here rs r2⟩
          rcases h with ⟨_, h⟩ | ⟨_, h⟩
          · obtain ⟨its, ri, pl, _⟩ := I.list (a := p) (xs := vs) (by rw [hX.K]; exact h)
            obtain ⟨as, hrd⟩ := readsAll_rv I hX.K _ _ _ hp rv ri
            exact PySem.W.max_list_data (I.ok.hd hc) pl.isList (by simpa [PV.dataL] using hrd) ha hu (fin its ri)
          · obtain ⟨its, ri, pl, _⟩ := I.tuple (a := p) (xs := vs) (by rw [hX.K]; exact h)
            obtain ⟨as, hrd⟩ := readsAll_rv I hX.K _ _ _ hp rv ri
            exact PySem.W.max_tuple_data (I.ok.hd hc) pl (by simpa [PV.dataL] using hrd) ha hu (fin its ri)
    · exact out.elim
  · exact out.elim
theorem cr_min' (hX : XG X Γ) {k : Nat} (hr : Room k X.A) (hc : X.calm = true) : CallR X (.builtin "min") (rPn Γ .min) := cr_mm2 (big := false) rfl (call_min2 hc) (mm_seq hX hr hc false rfl)
theorem cr_max' (hX : XG X Γ) {k : Nat} (hr : Room k X.A) (hc : X.calm = true) : CallR X (.builtin "max") (rPn Γ .max) := cr_mm2 (big := true) rfl (call_max2 hc) (mm_seq hX hr hc true rfl)
end
end E
set_option Elab.async false
set_option linter.all false
set_option autoImplicit false
set_option maxRecDepth 100000
set_option maxHeartbeats 1000000
/-! Part 9: isinstance, sums, sorting, methods. -/
namespace E
open PySem PySem.Spec PyProof.Rows L2

section
variable {Γ : SE} {X : Cx} {Q : VK} {φ ρ : List Addr} {T : Store} {H : Hp} {M : Addr → Prop}
theorem rv_ints : ∀ {xs : List PV} {ns : List Int} {vs : List V}, intsOf xs = some ns → RVs Γ H φ M xs vs → vs = ns.map V.int
  | [], ns, vs, e, h => by
    rw [RVs] at h
    cases e
    rw [h]; rfl
  | x :: xs, ns, vs, e, h => by
    cases x with
    | int i =>
      rw [RVs] at h
      obtain ⟨v, r, ev, h1, h2⟩ := h
      rw [intsOf] at e
      obtain ⟨ms, e1, e2⟩ := Option.map_eq_some_iff.mp e
      subst ev e2
      rw [rv_ints e1 h2, rv_int h1]
      rfl
    | _ => cases e
theorem rv_bls : ∀ {xs : List PV} {ns : List Bool} {vs : List V}, blsOf xs = some ns → RVs Γ H φ M xs vs → vs = ns.map V.bl
  | [], ns, vs, e, h => by
    rw [RVs] at h
    cases e
    rw [h]; rfl
  | x :: xs, ns, vs, e, h => by
    cases x with
    | bl i =>
      rw [RVs] at h
      obtain ⟨v, r, ev, h1, h2⟩ := h
      rw [blsOf] at e
      obtain ⟨ms, e1, e2⟩ := Option.map_eq_some_iff.mp e
      subst ev e2
      rw [rv_bls e1 h2, rv_bl h1]
      rfl
    | _ => cases e
theorem cr_sum' (hX : XG X Γ) (hc : X.calm = true) : CallR X (.builtin "sum") (rPn Γ .sum) := by
  intro pins s σ H xs us Q I r hh
  obtain ⟨φ, ρ, T, as, rs, ra, out⟩ := hh
  rcases as with _ | ⟨a, _ | ⟨b, as⟩⟩
  · exact out.elim
  · obtain ⟨x, e, ra1⟩ := rvs1 ra
    subst e
    have da := dr_rv rs ra1
    change OutP Γ φ ρ T H (match dr T a with | .lst xs => (match intsOf xs with | some ns => .ok (.int ns.sum) T | none => .bad) | _ => .bad) Q at out
    split at out
    · rename_i ys e1
      rw [e1] at da
      obtain ⟨p, vs, ex, h, rv⟩ := da
      subst ex
      split at out
      · rename_i ns e2
        have := rv_ints e2 rv
        subst this
        exact cr_sum hc pins s σ H _ us Q I r ⟨p, ns, rfl, by rw [hX.K]; exact h, out.int rs⟩
      · exact out.elim
    · exact out.elim
  · exact out.elim
theorem cr_all' (hX : XG X Γ) (hc : X.calm = true) : CallR X (.builtin "all") (rPn Γ .all) := by
  intro pins s σ H xs us Q I r hh
  obtain ⟨φ, ρ, T, as, rs, ra, out⟩ := hh
  rcases as with _ | ⟨a, _ | ⟨b, as⟩⟩
  · exact out.elim
  · obtain ⟨x, e, ra1⟩ := rvs1 ra
    subst e
    have da := dr_rv rs ra1
    change OutP Γ φ ρ T H (match dr T a with | .lst xs => (match blsOf xs with | some ns => .ok (.bl (ns.all id)) T | none => .bad) | _ => .bad) Q at out
    split at out
    · rename_i ys e1
      rw [e1] at da
      obtain ⟨p, vs, ex, h, rv⟩ := da
      subst ex
      split at out
      · rename_i ns e2
        have := rv_bls e2 rv
        subst this
        exact cr_all hc pins s σ H _ us Q I r ⟨p, ns, rfl, by rw [hX.K]; exact h, out.bl rs⟩
      · exact out.elim
    · exact out.elim
  · exact out.elim
theorem cr_any' (hX : XG X Γ) (hc : X.calm = true) : CallR X (.builtin "any") (rPn Γ .any) := by
  intro pins s σ H xs us Q I r hh
  obtain ⟨φ, ρ, T, as, rs, ra, out⟩ := hh
  rcases as with _ | ⟨a, _ | ⟨b, as⟩⟩
  · exact out.elim
  · obtain ⟨x, e, ra1⟩ := rvs1 ra
    subst e
    have da := dr_rv rs ra1
    change OutP Γ φ ρ T H (match dr T a with | .lst xs => (match blsOf xs with | some ns => .ok (.bl (ns.any id)) T | none => .bad) | _ => .bad) Q at out
    split at out
    · rename_i ys e1
      rw [e1] at da
      obtain ⟨p, vs, ex, h, rv⟩ := da
      subst ex
      split at out
      · rename_i ns e2
        have := rv_bls e2 rv
        subst this
        exact cr_any hc pins s σ H _ us Q I r ⟨p, ns, rfl, by rw [hX.K]; exact h, out.bl rs⟩
      · exact out.elim
    · exact out.elim
  · exact out.elim

/-! ### isinstance -/
def tyS : Ty → String
  | .int => "int" | .bool => "bool" | .str => "str" | .tup => "tuple" | .lst => "list" | .dic => "dict" | .non => "NoneType"
theorem kitB_ty (t u : Ty) : kitB (tyS t) (tyS u) = some (decide (u = t) || (decide (u = .int) && decide (t = .bool))) := by
  cases t <;> cases u <;> decide +kernel
theorem ty_x (hX : XG X Γ) {p : PV} {x : V} {t : Ty} (e : tyOf p = some t) (h : DV Γ H φ M p x) : TyX X.K H x (.type (tyS t)) := by
  cases p with
  | non => cases e; cases h; exact .base .non
  | bl b => cases e; cases h; exact .base (.bl _)
  | int b => cases e; cases h; exact .base (.int _)
  | str b => cases e; cases h; exact .base (.str _)
  | tup xs =>
    cases e
    obtain ⟨p, vs, ex, h, _⟩ := h
    subst ex
    rcases h with (h | ⟨ob, h⟩) | ⟨o, its, n, h1, h2, _⟩
    · exact .base (.tup h)
    · exact .fTuple h
    · exact .kTuple (by rw [hX.K]; exact h1) h2
  | lst xs =>
    cases e
    obtain ⟨p, vs, ex, h, _⟩ := h
    subst ex
    rcases h with (h | ⟨ob, h⟩) | ⟨o, its, n, h1, h2, _⟩
    · exact .base (.lst h)
    · exact .base (.frz h)
    · exact .kList (by rw [hX.K]; exact h1) h2
  | dic t kvs =>
    cases t with
    | true => cases e
    | false =>
      cases e
      obtain ⟨p, vs, ex, h, _⟩ := h
      subst ex
      rcases h with h | ⟨ob, h⟩
      · exact .base (.dK h)
      · exact .fDict h
  | set _ => cases e
  | ins _ _ => cases e
  | ref _ => cases e
theorem kitOne_ty {K : PySem.W.Frag} (t u : Ty) : PySem.W.kitOne K (.type (tyS t)) (.type (tyS u)) = some (tyIs t [u]) := by
  refine kit_ty ((kitB_ty t u).trans ?_)
  simp [tyIs]
theorem kitAny_ty {K : PySem.W.Frag} (t : Ty) : ∀ us : List Ty, PySem.W.kitAny K (.type (tyS t)) (us.map fun u => .type (tyS u)) = some (tyIs t us)
  | [] => rfl
  | u :: us => by
    refine kitAny_cons (kitOne_ty t u) (fun h => ?_) fun h => ?_
    · rw [kitAny_ty t us]
      simp only [tyIs, List.any_cons, List.any_nil, Bool.or_false] at h ⊢
      rw [h, Bool.false_or]
    · simp only [tyIs, List.any_cons, List.any_nil, Bool.or_false] at h ⊢
      rw [h, Bool.true_or]
end
section
variable {Γ : SE} {W : WX} {C : Ctx} {X : Cx} {a : Expr} {a' : Ex} {pos pf pt : Pos}
theorem isi_out {σ : L2.St} {H : Hp} {Q : VK} {ts : List Ty} (h : tE Γ W C (.pr (.isi ts) [a']) σ H Q) : tE Γ W C a' σ H fun x H1 => ∃ φ ρ T v t, RS Γ H1 φ ρ T ∧ RV Γ H1 φ (MM φ ρ T) v x ∧ tyOf (dr T v) = some t ∧ OutP Γ φ ρ T H1 (.ok (.bl (tyIs t ts)) T) Q := by
  obtain ⟨φ, ρ, T, s, rs, rl, o⟩ := h
  change OutG Γ W σ φ ρ T H (RV Γ) ((evL C [a'] s T).bind fun vs T => noEx (evP C.kc (.isi ts) vs T)) Q at o
  rw [evL1] at o
  refine ⟨φ, ρ, T, s, rs, rl, o.bind rs fun φ1 T1 H1 v x rs1 up rv o1 => ?_⟩
  have o2 : OutP Γ φ1 ρ T1 H1 (match tyOf (dr T1 v) with | some t => .ok (.bl (tyIs t ts)) T1 | none => .bad) Q := o1.toP
  split at o2
  · rename_i t e
    exact ⟨φ1, ρ, T1, v, t, rs1, rv, e, o2⟩
  · exact o2.elim
/-- isinstance(e, T) -/
theorem e_isi1 {x n : Str} {u : Ty} {pn : Pos} (hX : XG X Γ) (ha : PE X a (tE Γ W C a')) (hg : Gl X x) (hm : X.mg x = none) (hv : bootBuiltins x = some (.builtin "isinstance"))
    (hg1 : Gl X n) (hm1 : X.mg n = none) (hv1 : bootBuiltins n = some (.type (tyS u))) (hn : x ≠ "__name__" := by decide) (hd : (x == ("__debug__" : Str)) = false := by decide) (hn1 : n ≠ "__name__" := by decide) (hd1 : (n == ("__debug__" : Str)) = false := by decide)
    (h1 : starEach [a, .Name n pn] X.env = (false, eval a X.env) :: starEach [.Name n pn] X.env := by rfl) (h2 : starEach [.Name n pn] X.env = (false, eval (.Name n pn) X.env) :: starEach [] X.env := by rfl) (hpl : (backTo pos (starEach [.Name n pn] X.env)).any (·.1) = false := by rfl) :
    PE X (.Call (.Name x pf) [a, .Name n pn] [] pos) (tE Γ W C (.pr (.isi [u]) [a'])) := by
  refine PE_of (pe_callB call_isi hg hm hv (pa_cons ha (pa_cons (pe_bltn (v := .ty (tyS u)) hg1 hm1 hv1 rfl hn1 hd1) pa_nil h2) h1) hn hd h1 hpl) fun σ H Q h => ?_
  obtain ⟨φ, ρ, T, s, rs, rl, o⟩ := isi_out h
  refine ⟨φ, ρ, T, s, rs, rl, o.imp fun x H1 ⟨φ1, ρ1, T1, v, t, rs1, rv, e, o2⟩ => ?_⟩
  exact ⟨_, _, _, _, _, rfl, .ty _, ty_x hX e (dr_rv rs1 rv), kitOne_ty t u, o2.bl rs1⟩
/-- isinstance(e, (T1, T2)) -/
theorem e_isi2 {x n n2 : Str} {u u2 : Ty} {pn pn2 : Pos} {k : Nat} (hX : XG X Γ) (ha : PE X a (tE Γ W C a')) (hg : Gl X x) (hm : X.mg x = none) (hv : bootBuiltins x = some (.builtin "isinstance"))
    (hg1 : Gl X n) (hm1 : X.mg n = none) (hv1 : bootBuiltins n = some (.type (tyS u))) (hg2 : Gl X n2) (hm2 : X.mg n2 = none) (hv2 : bootBuiltins n2 = some (.type (tyS u2)))
    (hn : x ≠ "__name__" := by decide) (hd : (x == ("__debug__" : Str)) = false := by decide) (hn1 : n ≠ "__name__" := by decide) (hd1 : (n == ("__debug__" : Str)) = false := by decide) (hn2 : n2 ≠ "__name__" := by decide) (hd2 : (n2 == ("__debug__" : Str)) = false := by decide)
    (h1 : starEach [a, .Tuple [.Name n pn, .Name n2 pn2] k pt] X.env = (false, eval a X.env) :: starEach [.Tuple [.Name n pn, .Name n2 pn2] k pt] X.env := by rfl)
    (h2 : starEach [.Tuple [.Name n pn, .Name n2 pn2] k pt] X.env = (false, eval (.Tuple [.Name n pn, .Name n2 pn2] k pt) X.env) :: starEach [] X.env := by rfl) (hpl : (backTo pos (starEach [.Tuple [.Name n pn, .Name n2 pn2] k pt] X.env)).any (·.1) = false := by rfl)
    (h3 : starEach [.Name n pn, .Name n2 pn2] X.env = (false, eval (.Name n pn) X.env) :: starEach [.Name n2 pn2] X.env := by rfl) (h4 : starEach [.Name n2 pn2] X.env = (false, eval (.Name n2 pn2) X.env) :: starEach [] X.env := by rfl) :
    PE X (.Call (.Name x pf) [a, .Tuple [.Name n pn, .Name n2 pn2] k pt] [] pos) (tE Γ W C (.pr (.isi [u, u2]) [a'])) := by
  refine PE_of (pe_callB call_isiT hg hm hv (pa_cons ha (pa_cons (pe_tup (pa_cons (pe_bltn (v := .ty (tyS u)) hg1 hm1 hv1 rfl hn1 hd1) (pa_cons (pe_bltn (v := .ty (tyS u2)) hg2 hm2 hv2 rfl hn2 hd2) pa_nil h4) h3)) pa_nil h2) h1) hn hd h1 hpl) fun σ H Q h => ?_
  obtain ⟨φ, ρ, T, s, rs, rl, o⟩ := isi_out h
  refine ⟨φ, ρ, T, s, rs, rl, o.imp fun x H1 ⟨φ1, ρ1, T1, v, t, rs1, rv, e, o2⟩ => ?_⟩
  refine ⟨by show 2 ≤ sizeLine; decide, fun p hp => ?_⟩
  obtain ⟨l0, rs2, up, n0⟩ := lay0 rs1 hp (.tup [.ty (tyS u), .ty (tyS u2)])
  exact ⟨_, p, _, _, _, _, rfl, upd_same, .cons (.ty _) (.cons (.ty _) .nil), ty_x hX e (dr_rv rs2 (rv.up up)), kitAny_ty t [u, u2], o2 _ _ _ l0 rs2 (by rw [RV])⟩
end
end E
set_option Elab.async false
set_option linter.all false
set_option autoImplicit false
set_option maxRecDepth 100000
set_option maxHeartbeats 1000000
/-! Part 10: sorted. -/
namespace E
open PySem PySem.Spec PyProof.Rows L2

mutual
theorem reads_in {h : Heap} : ∀ (d : PyData) (v : Value) (as : List Addr), d.plain = true → Reads h v d as → ∀ b ∈ as, ∃ o, h.get? b = some o
  | .none, _, _, _, r => by cases r; intro b hb; cases hb
  | .bool _, _, _, _, r => by cases r; intro b hb; cases hb
  | .int _, _, _, _, r => by cases r; intro b hb; cases hb
  | .str _, _, _, _, r => by cases r; intro b hb; cases hb
  | .list xs, _, _, hp, r => by
    cases r with
    | list h1 h2 h3 h4 =>
      intro b hb
      rcases List.mem_cons.mp hb with e | hb
      · rw [e]; exact ⟨_, h1⟩
      · exact readsAll_in xs _ _ (by rw [PyData.plain] at hp; exact hp) h4 b hb
  | .tuple xs, _, _, hp, r => by
    cases r with
    | tuple h1 h2 h3 h4 => exact readsAll_in xs _ _ (by rw [PyData.plain] at hp; exact hp) h4
  | .dict _, _, _, hp, _ => by simp [PyData.plain] at hp
theorem readsAll_in {h : Heap} : ∀ (ds : List PyData) (vs : List Value) (as : List Addr), PyData.plainAll ds = true → ReadsAll h vs ds as → ∀ b ∈ as, ∃ o, h.get? b = some o
  | [], _, _, _, r => by cases r; intro b hb; cases hb
  | d :: ds, _, _, hp, r => by
    rw [PyData.plainAll, Bool.and_eq_true] at hp
    cases r with
    | cons h1 h2 =>
      intro b hb
      rcases List.mem_append.mp hb with hb | hb
      · exact reads_in d _ _ hp.1 h1 b hb
      · exact readsAll_in ds _ _ hp.2 h2 b hb
end

section
variable {prog : Program} {w : World} {A : Around} {EE : Value → Shared → Prop} {s : Shared}
theorem sorted_by {x : Value} {Q : Value → Shared → Prop} (h : wpAny (model prog w) A.in1 (collect x) (fun us s1 => us.length ≤ sizeLine ∧
      wpAny (model prog w) A.in1 (call (.builtin "list.sort") [.ref s1.heap.objs.size]) (fun _ s' => Q (.ref s1.heap.objs.size) s') EE { s1 with heap := s1.heap.push (seqObj "list" us.toArray 0) }) EE s) :
    wpAny (model prog w) A (call (.builtin "sorted") [x]) Q EE s := by
  refine Calls.call_function_entry kind_sorted plain_sorted entry_sorted (args_sorted1 _) ?_
  unfold Builtin.«sorted»
  refine wpAny_bind (m := checkCount "sorted" 1 1 _) (wpAny_pure ?_)
  refine wpAny_bind (thn h fun us s1 ⟨hz, h1⟩ => ?_)
  refine wpAny_bind (wpAny_newList ?_ hz)
  refine wpAny_bind (wpAny_holding (wpAny_mono h1 (fun _ s' x => ?_) fun _ _ e => e))
  exact wpAny_pure ⟨_, rfl, x⟩
theorem collect_tuple {l : Addr} {vs : List Value} {Q : List Value → Shared → Prop} (hl : s.heap.IsTuple l vs.toArray)
    (h : Q vs { s with heap := (s.heap.push (seqObj "list" #[] 0)).update s.heap.objs.size (Obj.mapSeq (· ++ vs.toArray)) }) (hsz : vs.length ≤ sizeLine := by size_fits) :
    wpAny (model prog w) A (collect (.ref l)) Q EE s := by
  obtain ⟨o, ho, hc, n, hd⟩ := id hl
  unfold collect
  refine wpAny_bind (wpAny_runValue (codeAny_builtin entry_proto_collect' ?_))
  show wpAny _ _ (do again (.builtin "list.__iadd__" ⟨[← newList [], .ref l], []⟩)) _ _ s
  refine wpAny_bind (wpAny_newList (wpAny_pure ⟨Code.quiet_builtin _ (by decide +kernel), codeAny_builtin entry_list_iadd' ?_⟩))
  show wpAny _ _ (Builtin.List.listExtendWith (.ref s.heap.objs.size) (.ref l) (.ref s.heap.objs.size)) _ _ { s with heap := s.heap.push (seqObj "list" #[] 0) }
  unfold Builtin.List.listExtendWith
  have ho' : (s.heap.push (seqObj "list" #[] 0)).get? l = some o := Heap.get?_push_of_some _ ho
  refine wpAny_bind (wpAny_typeOf (T := "tuple") ⟨o, ho', hc⟩ ?_)
  have ht : (Value.type "tuple" == Value.type "tuple") = true := by rfl
  rw [if_pos (by rw [ht]; simp)]
  refine wpAny_bind (listItems_at ho' hd ?_)
  refine wpAny_bind (listItems_at (xs := #[]) (n := 0) (Heap.get?_push_size _ rfl) rfl ?_)
  rw [if_neg (by simp)]
  refine wpAny_bind (listUpdate_at (xs := #[]) (n := 0) (Heap.get?_push_size _ rfl) rfl ?_ (Nat.zero_le _) (by show (#[] ++ vs.toArray).size ≤ sizeLine + 1; simp only [Array.size_append, List.size_toArray, List.length_nil]; omega))
  refine wpAny_pure ?_
  show wpAny (model prog w) A (do
      let o ← load s.heap.objs.size
      match o.data with
      | .seq xs _ => pure xs.toList
      | _ => unsupported "internal:collect") Q EE { s with heap := (s.heap.push (seqObj "list" #[] 0)).update s.heap.objs.size (Obj.mapSeq (· ++ vs.toArray)) }
  refine wpAny_bind (wpAny_load (get?_update_seq (Heap.get?_push_size _ rfl) _) ?_)
  show wpAny _ _ (pure ((#[] : Array Value) ++ vs.toArray).toList) Q EE _
  rw [show ((#[] : Array Value) ++ vs.toArray).toList = vs by simp]
  exact wpAny_pure h
theorem copy_keeps (h : Heap) (us : List Value) : ∀ b o, h.get? b = some o → ((h.push (seqObj "list" #[] 0)).update h.objs.size (Obj.mapSeq (· ++ us.toArray))).get? b = some o := fun b o e => by
  rw [Heap.get?_update_ne _ _ _ _ (Nat.ne_of_lt (Heap.lt_size e))]
  exact Heap.get?_push_of_some _ e
end

section
variable {Γ : SE} {X : Cx} {Q : VK} {φ ρ : List Addr} {T : Store} {H : Hp} {M : Addr → Prop}
theorem each_zip {R : Value → PV × V → Prop} : ∀ {xs : List PV} {vs : List V} {us : List Value}, RVs Γ H φ M xs vs → Vals vs us → (∀ x v u, x ∈ xs → RV Γ H φ M x v → RelV v u → R u (x, v)) → PySem.W.EachIs R us (xs.zip vs)
  | [], _, _, h, r, _ => by rw [RVs] at h; subst h; cases r; exact .nil
  | x :: xs, _, _, h, r, k => by
    rw [RVs] at h
    obtain ⟨v, rr, e, h1, h2⟩ := h
    subst e
    cases r with
    | cons r1 r2 => exact .cons (k x v _ List.mem_cons_self h1 r1) (each_zip h2 r2 fun x v u m => k x v u (List.mem_cons_of_mem _ m))
theorem zip_each : ∀ {bs : List (PV × V)} {us : List Value}, PySem.W.EachIs (fun u b => RelV b.2 u ∧ RV Γ H φ M b.1 b.2) us bs → Vals (bs.map (·.2)) us ∧ RVs Γ H φ M (bs.map (·.1)) (bs.map (·.2))
  | [], _, h => by cases h; exact ⟨.nil, by rw [List.map_nil, List.map_nil, RVs]⟩
  | b :: bs, _, h => by
    cases h with
    | cons h1 h2 =>
      obtain ⟨a1, a2⟩ := zip_each h2
      exact ⟨.cons h1.1 a1, by rw [List.map_cons, List.map_cons, RVs]; exact ⟨_, _, rfl, h1.2, a2⟩⟩
theorem fst_zip : ∀ {xs : List PV} {vs : List V}, vs.length = xs.length → (xs.zip vs).map (·.1) = xs
  | [], _, _ => rfl
  | x :: xs, [], h => by simp at h
  | x :: xs, v :: vs, h => by simp only [List.zip_cons_cons, List.map_cons]; rw [fst_zip (by simpa using h)]
theorem dataLe_pv (a b : PV × V) : PySem.W.dataLe false (fun b : PV × V => b.1.data) a b = pvLe a.1 b.1 := by
  rw [PySem.W.dataLe_eq]
  rfl
theorem sort_map (bs : List (PV × V)) : (bs.mergeSort (PySem.W.dataLe false fun b => b.1.data)).map (·.1) = sortL (bs.map (·.1)) := by
  unfold sortL
  exact List.map_mergeSort fun a _ b _ => dataLe_pv a b
theorem map_enc : ∀ {xs : List PV} {vs : List V}, vs.length = xs.length → (xs.zip vs).map (fun b => b.1.data) = PV.dataL xs := fun {xs vs} h => by
  rw [dataL_map]
  have := congrArg (List.map PV.data) (fst_zip h)
  rw [List.map_map] at this
  exact this
theorem depth_mem : ∀ {xs : List PV} {x : PV}, x ∈ xs → x.data.depth ≤ PyData.depthAll (PV.dataL xs)
  | y :: ys, x, m => by
    rw [PV.dataL, PyData.depthAll]
    rcases List.mem_cons.mp m with e | m
    · rw [e]; exact Nat.le_max_left _ _
    · exact Nat.le_trans (depth_mem m) (Nat.le_max_right _ _)
  | [], _, m => by cases m
open Classical in
/-- the collected members, sorted into a new list -/
theorem sort_end {pins : List (Addr × Obj)} {σ : L2.St} {s1 : Shared} {k : Nat} {m : Bool} {xs : List PV} {vs : List V} {us : List Value} (hX : XG X Γ) (hr : Room k X.A) (rs : RS Γ H φ ρ T) (I : Inv X pins σ H s1) (rv : RVs Γ H φ (MM φ ρ T) xs vs) (ru : Vals vs us)
    (ok : sortOk xs) (out : OutP Γ φ ρ T H (lay m (.lst (sortL xs)) T) Q) :
    us.length ≤ sizeLine ∧ wpAny (model X.prog X.w) X.A.in1 (call (.builtin "list.sort") [.ref s1.heap.objs.size]) (fun _ s' => EP X pins σ Q (.ref s1.heap.objs.size) s') X.xe { s1 with heap := s1.heap.push (seqObj "list" us.toArray 0) } := by
  obtain ⟨pl, ha, hs, hz, hd⟩ := ok
  have l1 := rv.length
  have l2 := ru.length
  refine ⟨by omega, ?_⟩
  have kp : ∀ b o, s1.heap.get? b = some o → (s1.heap.push (seqObj "list" us.toArray 0)).get? b = some o := fun b o e => Heap.get?_push_of_some _ e
  have en := map_enc (xs := xs) (vs := vs) l1
  refine PySem.W.list_sort_data (bs := xs.zip vs) (enc := fun b => b.1.data) (R := fun u b => RelV b.2 u ∧ RV Γ H φ (MM φ ρ T) b.1 b.2) (vs := us) (n := 0) (Heap.get?_push_size _ rfl)
    (each_zip rv ru fun x v u _ h1 h2 => ⟨h2, h1⟩) (each_zip rv ru fun x v u mx h1 h2 => ?_) (by rw [en]; exact ha) (by rw [en]; exact hs) (by rw [List.length_zip]; omega) (fun b hb => ?_) fun o ho eo => ?_
  · have px := plainL_mem pl mx
    obtain ⟨as, r⟩ := reads_rv I hX.K x v u px h1 h2
    refine ⟨as, PySem.W.reads_keeps kp r, fun hm => ?_⟩
    obtain ⟨o, e⟩ := reads_in _ _ _ (plain_data _ px) r _ hm
    exact absurd (Heap.lt_size e) (Nat.lt_irrefl _)
  · have hb' : b.1 ∈ xs := by
      have : b.1 ∈ (xs.zip vs).map (·.1) := List.mem_map.mpr ⟨b, hb, rfl⟩
      rw [fst_zip l1] at this
      exact this
    have := depth_mem hb'
    have := hr.units
    show X.A.units + 1 + 1 + _ < _
    omega
  · obtain ⟨q1, q2⟩ := zip_each eo
    rw [sort_map, fst_zip l1] at q2
    have hlen : ((List.mergeSort (xs.zip vs) (PySem.W.dataLe false fun b => b.1.data)).map (·.2)).length ≤ sizeLine := by
      rw [List.length_map, List.length_mergeSort, List.length_zip]; omega
    obtain ⟨ep, he⟩ := sortedHeap_at (vs := us) (out := o.toArray) (h := s1.heap.push (seqObj "list" us.toArray 0)) (a := s1.heap.objs.size) (Heap.get?_push_size _ rfl)
    refine ⟨.ref s1.heap.objs.size, upd H s1.heap.objs.size (.lst _), I.laid (t' := s1.toks) (fun b u e => ?_) (Nat.le_refl _) (show ObjOk X.prog X.w _ _ _ (.lst _) from ⟨hlen, o, ep, q1, he⟩), rfl, OutP.lst rs out q2 (I.hok.fresh (Nat.le_refl _))⟩
    rw [sortedHeap_old (Nat.ne_of_lt (Heap.lt_size e)) (Heap.lt_size (kp _ _ e))]
    exact kp _ _ e
open Classical in
theorem cr_sorted' (hX : XG X Γ) {k : Nat} (hr : Room k X.A) (hc : X.calm = true) (m : Bool) : CallR X (.builtin "sorted") (rPn Γ (.sorted m)) := by
  intro pins s σ H xs us Q I r hh
  obtain ⟨φ, ρ, T, as, rs, ra, out⟩ := hh
  rcases as with _ | ⟨a, _ | ⟨b, as⟩⟩
  · exact out.elim
  · obtain ⟨x, e, ra1⟩ := rvs1 ra
    subst e
    obtain ⟨u, eu, ru⟩ := vals1 r
    subst eu
    have da := dr_rv rs ra1
    change OutP Γ φ ρ T H (sortP m a T) Q at out
    unfold sortP at out
    split at out
    · rename_i ys e1
      rw [e1] at da
      obtain ⟨p, vs, ex, h, rv⟩ := da
      subst ex
      cases (show u = Value.ref p from ru)
      split at out
      · rename_i ok
        obtain ⟨its, ri, pl, hz⟩ := I.list (a := p) (xs := vs) (by rw [hX.K]; exact h)
        exact sorted_by (collect_list pl.isList (sort_end hX hr rs (I.kept (t' := s.toks) (copy_keeps _ _)) rv ri ok out) (by have := ri.length; omega))
      · exact out.elim
    · rename_i ys e1
      rw [e1] at da
      obtain ⟨p, vs, ex, h, rv, _⟩ := da
      subst ex
      cases (show u = Value.ref p from ru)
      split at out
      · rename_i ok
        obtain ⟨its, ri, pl, hz⟩ := I.tuple (a := p) (xs := vs) (by rw [hX.K]; exact h)
        exact sorted_by (collect_tuple pl (sort_end hX hr rs (I.kept (t' := s.toks) (copy_keeps _ _)) rv ri ok out) (by have := ri.length; omega))
      · exact out.elim
    · exact out.elim
  · exact out.elim
end
end E
set_option Elab.async false
set_option linter.all false
set_option autoImplicit false
set_option maxRecDepth 100000
set_option maxHeartbeats 1000000
/-! Part 11: methods of lists, dicts, sets; stores. -/
namespace E
open PySem PySem.Spec PyProof.Rows L2

def rPm (Γ : SE) (p : Pr) : V → List V → Hp → VK → Prop := fun x xs H Q => ∃ φ ρ T a as, RS Γ H φ ρ T ∧ RV Γ H φ (MM φ ρ T) a x ∧ RVs Γ H φ (MM φ ρ T) as xs ∧ OutP Γ φ ρ T H (evP Γ.kc p (a :: as) T) Q
section
variable {Γ : SE} {X : Cx} {Q : VK} {φ ρ : List Addr} {T : Store} {H : Hp} {M : Addr → Prop}
theorem RVs.dropLast : ∀ {xs : List PV} {vs : List V}, RVs Γ H φ M xs vs → RVs Γ H φ M xs.dropLast vs.dropLast
  | [], _, h => by rw [RVs] at h; subst h; simp [RVs]
  | [x], _, h => by obtain ⟨v, e, _⟩ := rvs1 h; subst e; simp [RVs]
  | x :: y :: r, _, h => by
    rw [RVs] at h
    obtain ⟨v, rr, e, h1, h2⟩ := h
    subst e
    have h3 := h2.dropLast
    rw [RVs] at h2
    obtain ⟨w, r2, e2, _, _⟩ := h2
    subst e2
    rw [List.dropLast_cons₂, List.dropLast_cons₂, RVs]
    exact ⟨v, _, rfl, h1, h3⟩
theorem RVs.eraseIdx : ∀ {xs : List PV} {vs : List V} (k : Nat), RVs Γ H φ M xs vs → RVs Γ H φ M (xs.eraseIdx k) (vs.eraseIdx k)
  | [], _, _, h => by rw [RVs] at h; subst h; simp [RVs]
  | x :: xs, _, 0, h => by
    rw [RVs] at h
    obtain ⟨v, rr, e, _, h2⟩ := h
    subst e
    exact h2
  | x :: xs, _, k + 1, h => by
    rw [RVs] at h
    obtain ⟨v, rr, e, h1, h2⟩ := h
    subst e
    rw [List.eraseIdx_cons_succ, List.eraseIdx_cons_succ, RVs]
    exact ⟨v, _, rfl, h1, h2.eraseIdx k⟩
theorem ne_dead {p : PV} (h : ∀ l, p ≠ .ref l) : p ≠ dead := h 0
/-- a list of the store -/
theorem at_lst (rs : RS Γ H φ ρ T) {a : PV} {x : V} (ra : RV Γ H φ (MM φ ρ T) a x) {xs : List PV} (e : dr T a = .lst xs) {l : Nat} (hl : a = .ref l) :
    ∃ p vs, x = .ref p ∧ φ[l]? = some p ∧ T[l]? = some (.lst xs) ∧ H p = some (.lst vs) ∧ RVs Γ H φ (MM φ ρ T) xs vs := by
  subst hl
  obtain ⟨p, ex, h1, h2, h3⟩ := ref_at rs ra e (ne_dead fun l e => nomatch e)
  obtain ⟨vs, h4, h5⟩ := h3
  exact ⟨p, vs, ex, h1, h2, h4, h5⟩
theorem sto_ref {o ob : PV} {a : PV} {T' : Store} {v : PV} (h : sto o ob T a = .ok v T') : ∃ l, o = .ref l := by
  cases o with
  | ref l => exact ⟨l, rfl⟩
  | _ => cases h
theorem out_ref {o ob : PV} {v : PV} (out : OutP Γ φ ρ T H (sto o ob T v) Q) : ∃ l, o = .ref l := by
  cases o with
  | ref l => exact ⟨l, rfl⟩
  | _ => exact out.elim
theorem mt_append' : MtM X "list.append" (rPm Γ .append) := by
  intro pins s σ H x xs v us Q I rx rxs hh
  obtain ⟨φ, ρ, T, a, as, rs, ra, rr, out⟩ := hh
  rcases as with _ | ⟨b, _ | ⟨c, as⟩⟩
  · exact out.elim
  · obtain ⟨y, e, rb⟩ := rvs1 rr
    subst e
    change OutP Γ φ ρ T H (match dr T a with
      | .lst xs => if xs.length < sizeLine then sto a (.lst (xs ++ [b])) T .non else .bad
      | _ => .bad) Q at out
    split at out
    · rename_i ys e1
      split at out
      · rename_i hz
        obtain ⟨l, rfl⟩ := out_ref out
        obtain ⟨p, vs, ex, h1, h2, h3, h4⟩ := at_lst rs ra e1 rfl
        subst ex
        refine mt_append pins s σ H _ _ v us Q I rx rxs ⟨p, vs, y, rfl, rfl, h3, by rw [h4.length]; exact hz, ?_⟩
        refine OutP.sto rs h2 (by intro e; cases e) h1 (by intro e; cases e) out fun up => ⟨⟨_, upd_same, (h4.up up).append (RVs.one (rb.up up))⟩, by rw [RV]⟩
      · exact out.elim
    · exact out.elim
  · exact out.elim
theorem list_extend_gen (l : Addr) (items : Array Value) (n : Nat) (b : Addr) (items2 : Array Value) (n2 : Nat) (sl2 : Array (Option Value)) (hc0 : ¬(!items.isEmpty && Builtin.List.listTooLong (items.size + items2.size)) = true) (hc1 : items.size ≤ sizeLine) (hs2 : items.size + items2.size ≤ sizeLine + 1) :
    Meets (Builtin.«list.extend» ⟨[.ref l, .ref b], []⟩) (fun _ R s => s.heap.get? l = some { cls := .type "list", dict := none, data := .seq items n, slots := #[] } ∧ s.heap.get? b = some { cls := .type "list", dict := none, data := .seq items2 n2, slots := sl2 } ∧ R (.ok (.ret Value.none)) { s with heap := s.heap.update l (Obj.mapSeq fun x => x ++ items2), toks := s.toks }) :=
  .of_wp fun prog w A R s h => by
    obtain ⟨hp, g, d, tk, os⟩ := s; obtain ⟨hl, hb, h⟩ := h; have f1 := AutoSeq1.idx_int; have f2 := sub_tuple_tuple; have f3 := sub_list_list; have f4 := sub_tuple_list; have f5 := sub_list_tuple;
    have hz' : (items ++ items2).size ≤ sizeLine + 1 := by rw [Array.size_append]; exact hs2
    wp_walk using (wpAny_updateSeq hl rfl (hz := hc1) (_hz' := hz')), AutoSeq1.wpAny_loadPart' hl, AutoSeq1.wpAny_loadPart' hb; exact ⟨_, rfl, h⟩
theorem extend_rd {pins : List (Addr × Obj)} {s : Shared} {σ : L2.St} {H : Hp} {l b : Addr} {xs zs : List V} {u : Value} {Q : VK} (I : Inv X pins σ H s) (hH : H l = some (.lst xs)) (hB : SqL X.K H b zs) (ru : RelV (.ref b) u) (hz : xs.length + zs.length ≤ sizeLine) (q : Q .non (upd H l (.lst (xs ++ zs)))) :
    wpAny (model X.prog X.w) X.A (call (.builtin "list.extend") [.ref l, u]) (EP X pins σ Q) X.xe s := by
  cases ru
  obtain ⟨z, its, n, r, hl, e⟩ := I.lstM hH
  obtain ⟨its2, r2, ⟨⟨cls2, dd2, data2, sl2⟩, n2, ho2, hc2, hdn, hd2⟩, z2⟩ := I.list hB
  simp only at hc2 hd2 hdn
  subst hc2 hd2 hdn
  have hl2 := r2.length
  have hsz : its.toArray.size + its2.toArray.size ≤ sizeLine := by rw [List.size_toArray, List.size_toArray]; omega
  have hlong : ¬ (!its.toArray.isEmpty && Builtin.List.listTooLong (its.toArray.size + its2.toArray.size)) = true := by
    rw [notLongL hsz, Bool.and_false]
    exact Bool.false_ne_true
  refine call_meets PySem.F.slot_list_extend ⟨_, e, rfl⟩ PySem.F.entry_list_extend (PySem.F.args_list_extend_2 _ _)
    (list_extend_gen l its.toArray n b its2.toArray n2 sl2 hlong (by simp only [List.size_toArray]; omega) (by simp only [List.size_toArray]; omega)) ⟨e, ho2, ?_⟩
  refine ⟨.non, _, I.lset (its' := its ++ its2) hH e (by simp) (r.append r2) ?_, rfl, q⟩
  rw [List.length_append]
  omega
theorem mt_extend' (hX : XG X Γ) : MtM X "list.extend" (rPm Γ .extend) := by
  intro pins s σ H x xs v us Q I rx rxs hh
  obtain ⟨φ, ρ, T, a, as, rs, ra, rr, out⟩ := hh
  rcases as with _ | ⟨b, _ | ⟨c, as⟩⟩
  · exact out.elim
  · obtain ⟨y, e, rb⟩ := rvs1 rr
    subst e
    change OutP Γ φ ρ T H (match dr T a, dr T b with
      | .lst xs, .lst ys => if xs.length + ys.length ≤ sizeLine then sto a (.lst (xs ++ ys)) T .non else .bad
      | _, _ => .bad) Q at out
    split at out
    · rename_i ys zs e1 e2
      split at out
      · rename_i hz
        obtain ⟨l, rfl⟩ := out_ref out
        obtain ⟨p, vs, ex, h1, h2, h3, h4⟩ := at_lst rs ra e1 rfl
        subst ex
        have db := dr_rv rs rb
        rw [e2] at db
        obtain ⟨q, ws, ey, h5, h6⟩ := db
        subst ey
        obtain ⟨u, eu, ru⟩ := rxs.one
        subst eu
        cases rx
        refine extend_rd I h3 (by rw [hX.K]; exact h5) ru (by rw [h4.length, h6.length]; exact hz) ?_
        refine OutP.sto rs h2 (by intro e; cases e) h1 (by intro e; cases e) out fun up => ⟨⟨_, upd_same, (h4.up up).append (h6.up up)⟩, by rw [RV]⟩
      · exact out.elim
    · exact out.elim
  · exact out.elim
theorem mt_reverse' : MtM X "list.reverse" (rPm Γ .reverse) := by
  intro pins s σ H x xs v us Q I rx rxs hh
  obtain ⟨φ, ρ, T, a, as, rs, ra, rr, out⟩ := hh
  rcases as with _ | ⟨b, as⟩
  · rw [RVs] at rr
    subst rr
    change OutP Γ φ ρ T H (match dr T a with
      | .lst xs => sto a (.lst xs.reverse) T .non
      | _ => .bad) Q at out
    split at out
    · rename_i ys e1
      obtain ⟨l, rfl⟩ := out_ref out
      obtain ⟨p, vs, ex, h1, h2, h3, h4⟩ := at_lst rs ra e1 rfl
      subst ex
      refine mt_reverse pins s σ H _ _ v us Q I rx rxs ⟨p, vs, rfl, rfl, h3, ?_⟩
      refine OutP.sto rs h2 (by intro e; cases e) h1 (by intro e; cases e) out fun up => ⟨⟨_, upd_same, (h4.up up).reverse⟩, by rw [RV]⟩
    · exact out.elim
  · exact out.elim
theorem mt_pop' : MtM X "list.pop" (rPm Γ .pop) := by
  intro pins s σ H x xs v us Q I rx rxs hh
  obtain ⟨φ, ρ, T, a, as, rs, ra, rr, out⟩ := hh
  rcases as with _ | ⟨b, as⟩
  · rw [RVs] at rr
    subst rr
    change OutP Γ φ ρ T H (match dr T a with
      | .lst xs => (match xs[xs.length - 1]? with
        | some y => sto a (.lst xs.dropLast) T y
        | none => .bad)
      | _ => .bad) Q at out
    split at out
    · rename_i ys e1
      split at out
      · rename_i y ey
        obtain ⟨l, rfl⟩ := out_ref out
        obtain ⟨p, vs, ex, h1, h2, h3, h4⟩ := at_lst rs ra e1 rfl
        subst ex
        obtain ⟨w, hw, rw1⟩ := h4.get ey
        refine mt_pop pins s σ H _ _ v us Q I rx rxs ⟨p, vs, w, rfl, rfl, h3, by rw [h4.length]; exact hw, ?_⟩
        refine OutP.sto rs h2 (by intro e; cases e) h1 (by intro e; cases e) out fun up => ⟨⟨_, upd_same, (h4.up up).dropLast⟩, rw1.up up⟩
      · exact out.elim
    · exact out.elim
  · cases b <;> exact out.elim
theorem mt_popAt' : MtM X "list.pop" (rPm Γ .popAt) := by
  intro pins s σ H x xs v us Q I rx rxs hh
  obtain ⟨φ, ρ, T, a, as, rs, ra, rr, out⟩ := hh
  rcases as with _ | ⟨b, _ | ⟨c, as⟩⟩
  · exact out.elim
  · obtain ⟨y, e, rb⟩ := rvs1 rr
    subst e
    cases b with
    | int i =>
      rw [rv_int rb] at rxs
      change OutP Γ φ ρ T H (match dr T a with
        | .lst xs => (match PySem.seqIndex? i xs.length with
          | some k => (match xs[k]? with
            | some y => if -(2 ^ 63) ≤ i ∧ i < 2 ^ 63 then sto a (.lst (xs.eraseIdx k)) T y else .bad
            | none => .bad)
          | none => .bad)
        | _ => .bad) Q at out
      split at out
      · rename_i ys e1
        split at out
        · rename_i k hk
          split at out
          · rename_i y ey
            split at out
            · rename_i hb
              obtain ⟨l, rfl⟩ := out_ref out
              obtain ⟨p, vs, ex, h1, h2, h3, h4⟩ := at_lst rs ra e1 rfl
              subst ex
              obtain ⟨w, hw, rw1⟩ := h4.get ey
              refine mt_popAt pins s σ H _ _ v us Q I rx rxs ⟨p, vs, i, k, w, rfl, rfl, h3, hb.1, hb.2, by rw [h4.length]; exact hk, hw, ?_⟩
              refine OutP.sto rs h2 (by intro e; cases e) h1 (by intro e; cases e) out fun up => ⟨⟨_, upd_same, h4.eraseIdx k |>.up up⟩, rw1.up up⟩
            · exact out.elim
          · exact out.elim
        · exact out.elim
      · exact out.elim
    | _ => exact out.elim
  · cases b <;> exact out.elim
open Classical in
theorem mt_index' (hX : XG X Γ) {k : Nat} (hr : Room k X.A) : MtR X "list.index" (rPm Γ .index) := by
  intro pins s σ H x xs v us Q I rx rxs hh
  obtain ⟨φ, ρ, T, a, as, rs, ra, rr, out⟩ := hh
  rcases as with _ | ⟨b, _ | ⟨c, as⟩⟩
  · exact out.elim
  · obtain ⟨y, e, rb⟩ := rvs1 rr
    subst e
    obtain ⟨u, eu, ru⟩ := rxs.one
    subst eu
    have da := dr_rv rs ra
    have db := dr_rv rs rb
    change OutP Γ φ ρ T H (match dr T a with
      | .lst xs => if (dr T b).plain = true ∧ PV.plainL xs = true ∧ (dr T b).data.depth ≤ 60 then (match xs.findIdx? fun y => PyData.eqv y.data (dr T b).data with
        | some j => .ok (.int j) T
        | none => .bad) else .bad
      | _ => .bad) Q at out
    split at out
    · rename_i ys e1
      rw [e1] at da
      obtain ⟨p, vs, ex, h, rv⟩ := da
      subst ex
      cases rx
      split at out
      · rename_i hp
        split at out
        · rename_i j hj
          obtain ⟨its, ri, ⟨⟨cls, dd, data, sl⟩, n, ho, hcl, hdn, hd⟩, hlen⟩ := I.list (a := p) (xs := vs) (by rw [hX.K]; exact h)
          simp only at hcl hd
          subst hcl hd
          obtain ⟨bs, hrd⟩ := readsAll_rv I hX.K _ _ _ hp.2.1 rv ri
          obtain ⟨cs, hrx⟩ := reads_dv I hX.K _ _ _ hp.1 db ru
          have hpl : PySem.SeqAt.dataPlace (PV.dataL ys) (dr T b).data = some j := by
            unfold PySem.SeqAt.dataPlace
            rw [dataL_map, List.findIdx?_map]
            exact hj
          have hrd' : ReadsAll s.heap its.toArray.toList (PV.dataL ys) bs := by simpa using hrd
          obtain ⟨h1, h2, h3⟩ := PySem.SeqAt.hit_at hrd' (plainAll_of hp.2.1) hpl
          have hl := ri.length
          have hsl := sizeLine_eq
          have hun := hr.units
          refine call_meets PySem.F.slot_list_index ⟨_, ho, rfl⟩ PySem.F.entry_list_index (PySem.F.args_list_index_2 _ _)
            (SeqAt.list_indexAt p its.toArray n dd sl u _ j h1 (by simp only [List.size_toArray] at h1; omega) h2 h3) ⟨ho, PySem.SeqAt.items_plain hrd' hrx (plainAll_of hp.2.1) (plain_data _ hp.1) (by omega), ?_⟩
          exact ⟨.int j, H, I.tok _, ⟨_, rfl⟩, out.int rs⟩
        · exact out.elim
      · exact out.elim
    · exact out.elim
  · exact out.elim
end
end E
set_option Elab.async false
set_option linter.all false
set_option autoImplicit false
set_option maxRecDepth 100000
set_option maxHeartbeats 1000000
/-! Part 12: methods of dicts and sets, stores, fields, calls. -/
namespace E
open PySem PySem.Spec PyProof.Rows L2

section
variable {Γ : SE} {X : Cx} {Q : VK} {φ ρ : List Addr} {T : Store} {H : Hp} {M : Addr → Prop}
open Classical in
theorem mt_dget (hu : X.A.units + 1 < cLine) : MtR X "dict.get" (rPm Γ .dget) := by
  intro pins s σ H x xs v us Q I rx rxs hh
  obtain ⟨φ, ρ, T, a, as, rs, ra, rr, out⟩ := hh
  rcases as with _ | ⟨b, _ | ⟨c, as⟩⟩
  · exact out.elim
  · obtain ⟨y, e, rb⟩ := rvs1 rr
    subst e
    obtain ⟨u, eu, ru⟩ := rxs.one
    subst eu
    have da := dr_rv rs ra
    change OutP Γ φ ρ T H (match dr T a with
      | .dic t kvs => if isKey Γ.kc t b then .ok ((dlook kvs b).getD .non) T else .bad
      | _ => .bad) Q at out
    split at out
    · rename_i t kvs e1
      rw [e1] at da
      split at out
      · rename_i hk
        obtain ⟨p, o, ex, g, _, hq⟩ := dget_any hk da rb
        subst ex
        cases rx
        refine d_get1 hu I g ru fun w' s' I' rw' => ?_
        rcases hq with ⟨z, w, e3, e4, r5⟩ | ⟨e3, e4⟩
        · rw [e4] at rw'
          rw [e3] at out
          exact ⟨w, H, I', rw', out.here rs r5⟩
        · rw [e4] at rw'
          rw [e3] at out
          exact ⟨.non, H, I', rw', out.non rs⟩
      · exact out.elim
    · exact out.elim
  · exact out.elim
open Classical in
theorem mt_dgetd (hu : X.A.units + 1 < cLine) : MtR X "dict.get" (rPm Γ .dgetd) := by
  intro pins s σ H x xs v us Q I rx rxs hh
  obtain ⟨φ, ρ, T, a, as, rs, ra, rr, out⟩ := hh
  rcases as with _ | ⟨b, _ | ⟨c, _ | ⟨d, as⟩⟩⟩
  · exact out.elim
  · exact out.elim
  · obtain ⟨y, z, e, rb, rc⟩ := rvs2 rr
    subst e
    obtain ⟨u, w0, eu, ru, rw0⟩ := rxs.two
    subst eu
    have da := dr_rv rs ra
    change OutP Γ φ ρ T H (match dr T a with
      | .dic t kvs => if isKey Γ.kc t b then .ok ((dlook kvs b).getD c) T else .bad
      | _ => .bad) Q at out
    split at out
    · rename_i t kvs e1
      rw [e1] at da
      split at out
      · rename_i hk
        obtain ⟨p, o, ex, g, _, hq⟩ := dget_any hk da rb
        subst ex
        cases rx
        refine d_get2 hu I g ru rw0 fun w' s' I' rw' => ?_
        rcases hq with ⟨z1, w, e3, e4, r5⟩ | ⟨e3, e4⟩
        · rw [e4] at rw'
          rw [e3] at out
          exact ⟨w, H, I', rw', out.here rs r5⟩
        · rw [e4] at rw'
          rw [e3] at out
          exact ⟨z, H, I', rw', out.here rs rc⟩
      · exact out.elim
    · exact out.elim
  · exact out.elim
/-- a dict of the store -/
theorem at_dic (rs : RS Γ H φ ρ T) {a : PV} {x : V} (ra : RV Γ H φ (MM φ ρ T) a x) {t : Bool} {kvs : List (PV × PV)} (e : dr T a = .dic t kvs) {l : Nat} (hl : a = .ref l) :
    ∃ p, x = .ref p ∧ φ[l]? = some p ∧ T[l]? = some (.dic t kvs) ∧ OR Γ H φ (MM φ ρ T) p (.dic t kvs) := by
  subst hl
  obtain ⟨p, ex, h1, h2, h3⟩ := ref_at rs ra e (ne_dead fun l e => nomatch e)
  exact ⟨p, ex, h1, h2, h3⟩
open Classical in
theorem mt_setd : MtR X "dict.setdefault" (rPm Γ .setdefault) := by
  intro pins s σ H x xs v us Q I rx rxs hh
  obtain ⟨φ, ρ, T, a, as, rs, ra, rr, out⟩ := hh
  rcases as with _ | ⟨b, _ | ⟨c, _ | ⟨d, as⟩⟩⟩
  · exact out.elim
  · exact out.elim
  · obtain ⟨y, z, e, rb, rc⟩ := rvs2 rr
    subst e
    obtain ⟨u, w0, eu, ru, rw0⟩ := rxs.two
    subst eu
    change OutP Γ φ ρ T H (match dr T a with
      | .dic false kvs => if isKey Γ.kc false b ∧ kvs.length < sizeLine then (match dlook kvs b with
        | some v => (match (generalizing := false) a with
          | .ref _ => .ok v T
          | _ => .bad)
        | none => sto a (.dic false (kvs ++ [(b, c)])) T c) else .bad
      | _ => .bad) Q at out
    split at out
    · rename_i kvs e1
      split at out
      · rename_i hk
        obtain ⟨kk, rfl⟩ := isKey_f hk.1
        have ey := rv_key rb
        subst ey
        split at out
        · rename_i w ew
          split at out
          · rename_i l
            obtain ⟨p, ex, h1, h2, h3⟩ := at_dic rs ra e1 rfl
            obtain ⟨kv, h4, h5⟩ := h3
            subst ex
            cases rx
            have hl : kv.length < sizeLine := by rw [h5.length]; exact hk.2
            rcases look_k kk h5 with ⟨z1, w1, e3, e4, r5⟩ | ⟨e3, e4⟩
            · rw [ew] at e3; cases e3
              exact d_setd I h4 ru rw0 hl (fun v q w' s' I' rw' => by rw [e4] at q; cases q; exact ⟨w1, H, I', rw', out.here rs r5⟩) fun q => by rw [e4] at q; cases q
            · rw [ew] at e3; cases e3
          · exact out.elim
        · rename_i ew
          obtain ⟨l, rfl⟩ := out_ref out
          obtain ⟨p, ex, h1, h2, h3⟩ := at_dic rs ra e1 rfl
          obtain ⟨kv, h4, h5⟩ := h3
          subst ex
          cases rx
          have hl : kv.length < sizeLine := by rw [h5.length]; exact hk.2
          have hv : valV kv kk = none := by
            rcases look_k kk h5 with ⟨z1, w, e3, e4, _⟩ | ⟨_, e4⟩
            · rw [ew] at e3; cases e3
            · exact e4
          refine d_setd I h4 ru rw0 hl (fun v q => by rw [hv] at q; cases q) fun _ w' s' I' rw' => ⟨z, _, I', rw', ?_⟩
          have ep : kvs ++ [(kPV kk, c)] = dput kvs (kPV kk) c := by unfold dput; rw [ew]; rfl
          rw [ep] at out
          refine OutP.sto rs h2 (by intro e; cases e) h1 (by intro e; cases e) out fun up => ⟨⟨_, upd_same, dput_k kk (h5.up up) (rc.up up)⟩, rc.up up⟩
      · exact out.elim
    · exact out.elim
  · exact out.elim
open Classical in
theorem mt_sadd (hX : XG X Γ) : MtR X "set.add" (rPm Γ .sadd) := by
  intro pins s σ H x xs v us Q I rx rxs hh
  obtain ⟨φ, ρ, T, a, as, rs, ra, rr, out⟩ := hh
  rcases as with _ | ⟨b, _ | ⟨c, as⟩⟩
  · exact out.elim
  · obtain ⟨y, e, rb⟩ := rvs1 rr
    subst e
    change OutP Γ φ ρ T H (match dr T a with
      | .set xs => if isKey0 b = true ∧ xs.length < 4000 then sto a (.set (addSet xs b)) T .non else .bad
      | _ => .bad) Q at out
    split at out
    · rename_i ys e1
      split at out
      · rename_i hk
        obtain ⟨kk, rfl⟩ := key0 hk.1
        have ey := rv_key rb
        subst ey
        obtain ⟨l, rfl⟩ := out_ref out
        obtain ⟨p, ex, h1, h2, h3⟩ := ref_at rs ra e1 (ne_dead fun l e => nomatch e)
        obtain ⟨h4, h5⟩ := h3
        subst ex
        obtain ⟨S, hS, hm⟩ := set_at h4 hX
        have hb : ys.length + 1 < scanBound := by
          have : scanBound = 4096 := rfl
          omega
        refine mt_saddK pins s σ H _ _ v us Q I rx rxs ⟨p, kk, S, _, rfl, rfl, hS, hb, ?_⟩
        have eS : SetK X.prog X.w p (fun j => S j || decide (j = kk)) (if S kk = true then ys.length else ys.length + 1) = setHO Γ p (addSet ys (kPV kk)) := by
          unfold setHO addSet
          rw [hX.P, hX.w]
          by_cases hh : kPV kk ∈ ys
          · rw [if_pos hh, if_pos ((hm kk).mpr hh)]
            congr 1
            funext j
            rw [Bool.eq_iff_iff, Bool.or_eq_true, decide_eq_true_iff, decide_eq_true_iff, hm]
            exact ⟨fun z => z.elim id fun e => by rw [e]; exact hh, .inl⟩
          · rw [if_neg hh, if_neg fun z => hh ((hm kk).mp z), List.length_append]
            congr 1
            funext j
            rw [Bool.eq_iff_iff, Bool.or_eq_true, decide_eq_true_iff, decide_eq_true_iff, hm, List.mem_append, List.mem_singleton]
            exact ⟨fun z => z.elim .inl fun e => .inr (by rw [e]), fun z => z.elim .inl fun e => .inr (kPV_inj e)⟩
        rw [eS]
        refine OutP.sto rs h2 (by intro e; cases e) h1 (by intro e; cases e) out fun up => ⟨⟨upd_same, ?_⟩, by rw [RV]⟩
        unfold addSet
        split
        · exact h5
        · rw [List.all_append, h5]
          simpa using hk.1
      · exact out.elim
    · exact out.elim
  · exact out.elim
theorem cr_set0 (hX : XG X Γ) : CallR X (.type "set") (rPn Γ .set0) := by
  intro pins s σ H xs us Q I r hh
  obtain ⟨φ, ρ, T, as, rs, ra, out⟩ := hh
  rcases as with _ | ⟨a, as⟩
  · rw [RVs] at ra
    subst ra
    change OutP Γ φ ρ T H (lay true (.set []) T) Q at out
    refine cr_set0K pins s σ H _ us Q I r ⟨rfl, fun p hp => ?_⟩
    have e : SetK X.prog X.w p (fun _ => false) 0 = setHO Γ p [] := by
      unfold setHO
      rw [hX.P, hX.w]
      congr 1 <;> (funext k; simp)
    rw [e]
    exact OutP.lay rs hp out fun φ' M' up => ⟨⟨upd_same, rfl⟩, fun n => by rw [RV]; exact ⟨p, rfl, upd_same, n, rfl⟩⟩
  · exact out.elim
theorem ins_fields_aux : True := trivial
/-! ### fields -/
theorem flook_rv {nmi : ∀ f g n, Γ.nm f = some n → Γ.nm g = some n → f = g} : ∀ {fs : List (Nat × PV)} {fs' : List (Str × V)} {f : Nat} {n : Str}, RVf Γ H φ M fs fs' → Γ.nm f = some n →
    (∃ w u, flook fs f = some w ∧ fs'.lookup n = some u ∧ RV Γ H φ M w u) ∨ (flook fs f = none ∧ fs'.lookup n = none)
  | [], _, f, n, h, _ => by rw [RVf] at h; subst h; exact .inr ⟨rfl, rfl⟩
  | (g, x) :: fs, _, f, n, h, hn => by
    rw [RVf] at h
    obtain ⟨m, v, r, e, hm, h1, h2⟩ := h
    subst e
    by_cases hf : f = g
    · subst hf
      rw [hn] at hm; cases hm
      refine .inl ⟨x, v, ?_, ?_, h1⟩
      · unfold flook; rw [if_pos rfl]
      · simp [List.lookup]
    · have hmn : n ≠ m := fun e => hf (nmi f g n hn (e ▸ hm))
      have hb : (n == m) = false := beq_eq_false_iff_ne.mpr hmn
      have e1 : flook ((g, x) :: fs) f = flook fs f := by rw [flook]; rw [if_neg hf]
      have e2 : List.lookup n ((m, v) :: r) = List.lookup n r := by simp only [List.lookup, hb]
      rw [e1, e2]
      exact flook_rv (nmi := nmi) h2 hn
theorem fput_rv {nmi : ∀ f g n, Γ.nm f = some n → Γ.nm g = some n → f = g} : ∀ {fs : List (Nat × PV)} {fs' : List (Str × V)} {f : Nat} {n : Str} {p : PV} {u : V}, RVf Γ H φ M fs fs' → Γ.nm f = some n → RV Γ H φ M p u → RVf Γ H φ M (fput fs f p) (putF n u fs')
  | [], _, f, n, p, u, h, hn, r => by
    rw [RVf] at h; subst h
    rw [fput, putF, RVf]
    exact ⟨n, u, [], rfl, hn, r, by rw [RVf]⟩
  | (g, x) :: fs, _, f, n, p, u, h, hn, r => by
    rw [RVf] at h
    obtain ⟨m, v, rr, e, hm, h1, h2⟩ := h
    subst e
    by_cases hf : f = g
    · subst hf
      rw [hn] at hm; cases hm
      rw [fput, if_pos rfl, putF, if_pos rfl, RVf]
      exact ⟨n, u, rr, rfl, hn, r, h2⟩
    · have hmn : ¬ m = n := fun e => hf (nmi f g n hn (e ▸ hm))
      rw [fput, if_neg hf, putF, if_neg hmn, RVf]
      exact ⟨m, v, _, rfl, hm, h1, fput_rv (nmi := nmi) h2 hn r⟩
theorem RVf.length : ∀ {fs : List (Nat × PV)} {fs' : List (Str × V)}, RVf Γ H φ M fs fs' → fs'.length = fs.length
  | [], _, h => by rw [RVf] at h; subst h; rfl
  | (g, x) :: fs, _, h => by
    rw [RVf] at h
    obtain ⟨m, v, r, e, hm, h1, h2⟩ := h
    subst e
    simp [RVf.length h2]
end

/-- what the walk knows of the module: names, classes -/
structure Good (Γ : SE) (C : Ctx) : Prop where
  kc : Γ.kc = C.kc
  nmi : ∀ f g n, Γ.nm f = some n → Γ.nm g = some n → f = g
  fld : ∀ c f, C.fo c f = true → ∃ n, Γ.nm f = some n ∧ Cls Γ.K (Γ.cls c) ∧ NoAttr Γ.K (Γ.cls c) n
  meth : ∀ c m f, C.meth c m = some f → ∃ n, Γ.nm m = some n ∧ Cls Γ.K (Γ.cls c) ∧ Meth Γ.K (Γ.cls c) n (Γ.fa f)
  exm : ∀ k c cv, Γ.isx k = true → Γ.cv c = some cv → PySem.W.exmOne Γ.K (.ref (Γ.cls k)) cv = some (C.sub k c)
  kit : ∀ k c cv, Γ.isx k = true → Γ.cv c = some cv → PySem.W.kitOne Γ.K (.ref (Γ.cls k)) cv = some (C.sub k c)
  exc : ∀ k, Γ.isx k = true → ExcC Γ.K (Γ.cls k)

section
variable {Γ : SE} {W : WX} {C : Ctx} {X : Cx} {a b c : Expr} {a' b' c' : Ex} {pos apos pf : Pos} {es : List Expr} {es' : List Ex} {p q : Pr} {rest : List Expr}
theorem e_fld {n : Str} {f : Nat} (hX : XG X Γ) (G : Good Γ C) (hn : Γ.nm f = some n) (ha : PE X a (tE Γ W C a')) (hb : attributeBase a n X.env (eval a X.env) = eval a X.env := by rfl) : PE X (.Attribute a n pos) (tE Γ W C (.fld a' f)) := by
  refine PE_of (pe_fld ha hb) fun σ H Q ⟨φ, ρ, T, s, rs, rl, o⟩ => ?_
  change OutG Γ W σ φ ρ T H (RV Γ) ((evE C a' s T).bind fun v T => match dr T v with
    | .ins c fs => (match C.fo c f, flook fs f with
      | true, some w => .ok w T
      | _, _ => .bad)
    | _ => .bad) Q at o
  refine ⟨φ, ρ, T, s, rs, rl, o.bind rs fun φ1 T1 H1 v x rs1 up rv o1 => ?_⟩
  have da := dr_rv rs1 rv
  split at o1
  · rename_i c fs e1
    rw [e1] at da
    obtain ⟨p, dx, fs', ex, hp, rf⟩ := da
    split at o1
    · rename_i w h1 h2
      obtain ⟨n', hn', cl, na⟩ := G.fld c f h1
      rw [hn] at hn'; cases hn'
      rcases flook_rv (nmi := G.nmi) rf hn with ⟨w', u, e2, e3, r⟩ | ⟨e2, _⟩
      · rw [h2] at e2; cases e2
        exact ⟨p, _, dx, fs', u, ex, hp, by rw [hX.K]; exact cl, by rw [hX.K]; exact na, e3, o1.here rs1 r⟩
      · rw [h2] at e2; cases e2
    · exact o1.elim
  · exact o1.elim

/-! ### a built-in's method -/
def btT : BT → String
  | .lst => "list" | .dic => "dict" | .set => "set" | .str => "str" | .int => "int"
theorem bt_is {pins : List (Addr × Obj)} {σ : L2.St} {H : Hp} {s : Shared} {φ : List Addr} {M : Addr → Prop} {k : BT} {p : PV} {x : V} {v : Value} (hX : XG X Γ) (I : Inv X pins σ H s) (r : RelV x v) (e : isBT k p = true) (d : DV Γ H φ M p x) :
    s.TypeIs v (btT k) ∧ ∀ a, v = .ref a → ∃ ob, s.heap.get? a = some ob ∧ ob.dict = none := by
  cases p with
  | lst xs =>
    cases k <;> first | cases e | skip
    obtain ⟨p, vs, ex, h, _⟩ := d
    subst ex
    exact tyV_is I r (.inl ⟨rfl, vs, by rw [hX.K]; exact h⟩)
  | dic t kvs =>
    cases k <;> first | cases e | skip
    cases t with
    | false =>
      obtain ⟨p, kv, ex, h, _⟩ := d
      subst ex
      cases r
      obtain ⟨z, hd, vs, rel, dd⟩ := dk_rd I.hok h
      obtain ⟨o, es, ep, e, ex, _⟩ := dd
      exact ⟨⟨o, e, ex.1⟩, fun a e2 => by cases e2; exact ⟨o, e, ex.2.1⟩⟩
    | true =>
      obtain ⟨p, kv, ex, h, _⟩ := d
      subst ex
      cases r
      obtain ⟨z, hs, ks, pr, o, es, ep, e, ex, _⟩ := (show ObjOk X.prog X.w H s.heap p (.dT kv) from h.ok I.hok)
      exact ⟨⟨o, e, ex.1⟩, fun a e2 => by cases e2; exact ⟨o, e, ex.2.1⟩⟩
  | set xs =>
    cases k <;> first | cases e | skip
    obtain ⟨p, ex, h, _⟩ := d
    subst ex
    cases r
    obtain ⟨S, hS, _⟩ := set_at h hX
    have := setK_get I hS
    exact ⟨this.typeIs, this.noDict⟩
  | str z =>
    cases k <;> first | cases e | skip
    cases d
    exact tyV_is (x := .str z) I r rfl
  | int z =>
    cases k <;> first | cases e | skip
    cases d
    exact tyV_is (x := .int z) I r rfl
  | _ => cases k <;> cases e
theorem e_bm0 {k : BT} {name : Str} {id : String} (hX : XG X Γ) (hk : Γ.kc = C.kc) (pa : PlainAttrs (btT k)) (slot : Slot (btT k) name id) (hty : typeOf (.builtin id) = pure (.type "method_descriptor")) (hm : MtR X id (rPm Γ p)) (ha : PE X a (tE Γ W C a'))
    (hbase : attributeBase a name X.env (eval a X.env) = eval a X.env := by rfl) (hline : (apos.endLine == pos.line) = true := by rfl) : PE X (.Call (.Attribute a name apos) [] [] pos) (tE Γ W C (.bm k p a' [])) := by
  refine ⟨fun pins s σ H Q I ⟨φ, ρ, T, sl, rs, rl, o⟩ => ?_⟩
  change OutG Γ W σ φ ρ T H (RV Γ) ((evE C a' sl T).bind fun v T => if isBT k (dr T v) then noEx (evP C.kc p [v] T) else .bad) Q at o
  refine wpAny_Call_method0_late hbase hline (thn (ha.run pins s σ H _ I ⟨φ, ρ, T, sl, rs, rl, o.bind rs fun φ1 T1 H1 v x rs1 up rv o1 => (show ∃ φ1 T1 v, RS Γ H1 φ1 ρ T1 ∧ RV Γ H1 φ1 (MM φ1 ρ T1) v x ∧ isBT k (dr T1 v) = true ∧ OutP Γ φ1 ρ T1 H1 (evP C.kc p [v] T1) Q from ?_)⟩)
    fun v s1 ⟨x, H1, I1, r1, φ1, T1, u, rs1, rv, hb, o1⟩ => ?_)
  · split at o1
    · rename_i hb
      exact ⟨φ1, T1, v, rs1, rv, hb, o1.toP⟩
    · exact o1.elim
  · obtain ⟨h1, h2⟩ := bt_is hX I1 r1 hb (dr_rv rs1 rv)
    exact ⟨btT k, id, pa, slot, hty, h1, h2, Calls.callWith_builtin rfl (PySem.evalArgs_none (hm pins s1 σ H1 x [] v [] Q I1 r1 .nil ⟨φ1, ρ, T1, u, [], rs1, rv, by rw [RVs], by rw [hk]; exact o1⟩))⟩
theorem e_bm {k : BT} {name : Str} {id : String} {e0 : Expr} (hX : XG X Γ) (hk : Γ.kc = C.kc) (pa : PlainAttrs (btT k)) (slot : Slot (btT k) name id) (hty : typeOf (.builtin id) = pure (.type "method_descriptor")) (hm : MtR X id (rPm Γ p)) (ha : PE X a (tE Γ W C a')) (hl : PA X (e0 :: es) (tL Γ W C es'))
    (hbase : attributeBase a name X.env (eval a X.env) = eval a X.env := by rfl)
    (hfew : ((backTo pos (starEach (e0 :: es) X.env)).all (fun x => !x.1) && (backToKw pos (keywordEach [] X.env)).all (fun x => x.1.isSome)
      && decide ((e0 :: es).length + ([] : List Keyword).length + (if ([] : List Keyword).isEmpty then 0 else 1) < 30)) = true := by rfl)
    (hline : (apos.endLine == pos.line) = true := by rfl) (hs : starEach (e0 :: es) X.env = (false, eval e0 X.env) :: starEach es X.env := by rfl) (hplain : (backTo pos (starEach es X.env)).any (·.1) = false := by rfl) :
    PE X (.Call (.Attribute a name apos) (e0 :: es) [] pos) (tE Γ W C (.bm k p a' es')) := by
  refine ⟨fun pins s σ H Q I ⟨φ, ρ, T, sl, rs, rl, o⟩ => ?_⟩
  change OutG Γ W σ φ ρ T H (RV Γ) ((evE C a' sl T).bind fun v T => if isBT k (dr T v) then (evL C es' sl T).bind fun vs T => noEx (evP C.kc p (v :: vs) T) else .bad) Q at o
  refine wpAny_Call_method_late hbase hfew hline rfl (thn (ha.run pins s σ H _ I ⟨φ, ρ, T, sl, rs, rl, o.bind rs fun φ1 T1 H1 v x rs1 up rv o1 => (show ∃ φ1 T1 v, RS Γ H1 φ1 ρ T1 ∧ RL Γ H1 φ1 (MM φ1 ρ T1) σ sl ∧ RV Γ H1 φ1 (MM φ1 ρ T1) v x ∧ isBT k (dr T1 v) = true ∧ OutG Γ W σ φ1 ρ T1 H1 (RV Γ) ((evL C es' sl T1).bind fun vs T => noEx (evP C.kc p (v :: vs) T)) Q from ?_)⟩)
    fun v s1 ⟨x, H1, I1, r1, φ1, T1, u, rs1, rl1, rv, hb, o1⟩ => ?_)
  · split at o1
    · rename_i hb
      exact ⟨φ1, T1, v, rs1, rl.up up, rv, hb, o1⟩
    · exact o1.elim
  · obtain ⟨h1, h2⟩ := bt_is hX I1 r1 hb (dr_rv rs1 rv)
    refine ⟨btT k, id, pa, slot, hty, h1, h2, ?_⟩
    have hA := hl.run pos pins s1 σ H1 _ I1 ⟨φ1, ρ, T1, sl, rs1, rl1, o1.bind rs1 fun φ2 T2 H2 vs xs rs2 up2 rvs o2 => (show rPm Γ p x xs H2 Q from ⟨φ2, ρ, T2, u, vs, rs2, rv.up up2, rvs, by rw [hk]; exact o2.toP⟩)⟩
    rw [hs] at hA ⊢
    refine Calls.callWith_builtin (by show (false || (backTo pos (starEach es X.env)).any (·.1)) = false; rw [hplain] <;> rfl) (Calls.evalArgs_plain ?_)
    exact thn hA fun us s2 ⟨vs, H2, I2, r2, q2⟩ => hm pins s2 σ H2 x vs v us Q I2 r1 r2 q2
end
end E
set_option Elab.async false
set_option linter.all false
set_option autoImplicit false
set_option maxRecDepth 100000
set_option maxHeartbeats 1000000
/-! Part 13: calls of defs, of methods, of classes. -/
namespace E
open PySem PySem.Spec PyProof.Rows L2

/-- what a def promises: what cl computes -/
def spE (Γ : SE) (cl : List PV → Store → Ro PV) (n : Nat) : Sp := fun vs H Q E => vs.length = n ∧ ∃ φ ρ T as, RS Γ H φ ρ T ∧ RVs Γ H φ (MM φ ρ T) as vs ∧ OutG Γ (fun c d _ H => E c d H) [] φ ρ T H (RV Γ) (cl as T) Q
/-- a def that may be called -/
structure FunG (Γ : SE) (C : Ctx) (k f : Nat) : Prop where
  ok : FnOk Γ.P Γ.w Γ.K Γ.mg Γ.base (CX Γ.P Γ.w) k (Γ.fa f) (Γ.fd f) (Γ.pn f) (spE Γ (C.call f) (Γ.pn f).length)
  len : ∀ vs T, C.call f vs T ≠ .bad → vs.length = (Γ.pn f).length
  kp : PySem.W.keepIn Γ.K (.ref (Γ.fa f)) = true
  bd : Binds Γ.K (Γ.fd f) (Γ.pn f) []
/-- keywords: m positional arguments, then the values of the names ks; which goes where -/
def KB (Γ : SE) (f m : Nat) (ks : List Str) (perm : List Nat) : Prop := ∀ (s : Shared) (us ws : List Value), us.length = m → ws.length = ks.length → BindsTo s (Γ.fd f) ⟨us, ks.zip ws⟩ ((Γ.pn f).zip (perm.map fun i => (us ++ ws).getD i .none))

section
variable {Γ : SE} {W : WX} {C : Ctx} {X : Cx} {a b c : Expr} {a' b' c' : Ex} {pos apos pf : Pos} {es : List Expr} {es' : List Ex} {f k : Nat}
theorem OutG.nbad {α β : Type} {σ : L2.St} {φ ρ : List Addr} {T : Store} {H : Hp} {rel : Rel α β} {r : Ro α} {Q : β → Hp → Prop} (o : OutG Γ W σ φ ρ T H rel r Q) : r ≠ .bad := fun e => by rw [e] at o; exact o
theorem OutG.wish {α β : Type} {σ σ' : L2.St} {W' : WX} {φ ρ : List Addr} {T : Store} {H : Hp} {rel : Rel α β} {r : Ro α} {Q : β → Hp → Prop} (o : OutG Γ W σ φ ρ T H rel r Q) (h : ∀ c d H', W c d σ H' → W' c d σ' H') : OutG Γ W' σ' φ ρ T H rel r Q := by
  cases r with
  | ok v T' => exact o
  | ex x T' => exact fun φ' H' c d l rs x => h c d H' (o φ' H' c d l rs x)
  | bad => exact o
theorem FunG.fn (hX : XG X Γ) (F : FunG Γ C k f) : FnOk X.prog X.w X.K X.mg X.base (CX X.prog X.w) k (Γ.fa f) (Γ.fd f) (Γ.pn f) (spE Γ (C.call f) (Γ.pn f).length) := by
  have := F.ok
  rw [← hX.P, ← hX.w, ← hX.K, ← hX.mg, ← hX.base] at this
  exact this
theorem run_cx {pins : List (Addr × Obj)} {σ : L2.St} {H : Hp} {s : Shared} {Q : VK} (tk : Takes X W) (I : Inv X pins σ H s) {r : Result} {s' : Shared} (hq : CR (CX X.prog X.w) X.stack X.prog X.w H s Q (fun c d H' => W c d σ H') r s') :
    (match r with
      | .ok (.ret u) => EP X pins σ Q u s'
      | .ok _ => False
      | .error e => X.xe e s') := by
  cases r with
  | error e => exact tk e s' (XE.of_call I (fun cls d H' h => h) hq)
  | ok fl =>
    cases fl with
    | ret u => exact I.after hq
    | next => exact False.elim hq
    | brk => exact False.elim hq
    | cont => exact False.elim hq
theorem call_fn (hX : XG X Γ) (F : FunG Γ C k f) (hr : Room k X.A) (tk : Takes X W) {pins : List (Addr × Obj)} {σ : L2.St} {H : Hp} {s : Shared} {Q : VK} {us : List Value} {vs : List V} (I : Inv X pins σ H s) (r : Vals vs us)
    {φ ρ : List Addr} {T : Store} {as : List PV} (rs : RS Γ H φ ρ T) (ra : RVs Γ H φ (MM φ ρ T) as vs) (o : OutG Γ W σ φ ρ T H (RV Γ) (C.call f as T) Q) : wpAny (model X.prog X.w) X.A (call (.ref (Γ.fa f)) us) (EP X pins σ Q) X.xe s := by
  have hl : vs.length = (Γ.pn f).length := by rw [ra.length]; exact F.len _ _ o.nbad
  have hl2 : (us ++ []).length = (Γ.pn f).length := by rw [List.append_nil, ← r.length]; exact hl
  have hb := F.bd s us (by rw [← hX.K]; exact I.kIn) hl2
  rw [List.append_nil] at hb
  refine wpAny_call (codeAny_mono ((F.fn hX).run X.A X.stack s H ⟨us, []⟩ us vs Q (fun c d H' => W c d σ H') hr I.env0 hb r ⟨hl, φ, ρ, T, as, rs, ra, o.wish fun _ _ _ h => h⟩) fun r s' hq => ?_)
  have := run_cx tk I hq
  cases r with
  | error e => exact this
  | ok fl => cases fl <;> first | exact this | exact this.elim
theorem keepX (hX : XG X Γ) (F : FunG Γ C k f) : PySem.W.keepIn X.K (.ref (Γ.fa f)) = true := by rw [hX.K]; exact F.kp
theorem mgX (hX : XG X Γ) {x : Str} {v : Option Value} (hm : Γ.mg x = v) : X.mg x = v := by rw [hX.mg]; exact hm
theorem e_call {x : Str} {e0 : Expr} (hX : XG X Γ) (F : FunG Γ C k f) (hr : Room k X.A) (tk : Takes X W) (hg : Gl X x) (hm : Γ.mg x = some (.ref (Γ.fa f))) (ha : PA X (e0 :: es) (tL Γ W C es')) (hdb : (x == ("__debug__" : Str)) = false := by decide)
    (he : starEach (e0 :: es) X.env = (false, eval e0 X.env) :: starEach es X.env := by rfl) (hpl : (backTo pos (starEach es X.env)).any (·.1) = false := by rfl) : PE X (.Call (.Name x pf) (e0 :: es) [] pos) (tE Γ W C (.call f es')) := by
  refine ⟨fun pins s σ H Q I ⟨φ, ρ, T, sl, rs, rl, o⟩ => ?_⟩
  change OutG Γ W σ φ ρ T H (RV Γ) ((evL C es' sl T).bind fun vs T => C.call f vs T) Q at o
  refine wpAny_Call_Name_kw (ld_glob I hg (mgX hX hm) ?_ hdb)
  refine PySem.W.callWith_K (h₀ := X.base) I.ok.mod.kin (keepX hX F) (thn (ha.run pos pins s σ H _ I ⟨φ, ρ, T, sl, rs, rl, o.bind rs fun φ1 T1 H1 v x rs1 up rv o1 => (show ∃ φ1 T1 v, RS Γ H1 φ1 ρ T1 ∧ RVs Γ H1 φ1 (MM φ1 ρ T1) v x ∧ OutG Γ W σ φ1 ρ T1 H1 (RV Γ) (C.call f v T1) Q from ⟨φ1, T1, v, rs1, rv, o1⟩)⟩)
    fun us s1 ⟨vs, H1, I1, r, φ1, T1, as, rs1, ra1, o1⟩ => ⟨I1.kIn, ?_⟩) he hpl
  exact call_fn hX F hr tk I1 r rs1 ra1 o1
theorem e_call0 {x : Str} (hX : XG X Γ) (F : FunG Γ C k f) (hr : Room k X.A) (tk : Takes X W) (hg : Gl X x) (hm : Γ.mg x = some (.ref (Γ.fa f))) (hdb : (x == ("__debug__" : Str)) = false := by decide) : PE X (.Call (.Name x pf) [] [] pos) (tE Γ W C (.call f [])) := by
  refine ⟨fun pins s σ H Q I ⟨φ, ρ, T, sl, rs, rl, o⟩ => ?_⟩
  change OutG Γ W σ φ ρ T H (RV Γ) (C.call f [] T) Q at o
  refine wpAny_Call_Name_kw (ld_glob I hg (mgX hX hm) ?_ hdb)
  exact PySem.W.callWith_K0 I.kIn (keepX hX F) (call_fn hX F hr tk (us := []) I .nil rs (by rw [RVs]) o)

/-! keywords -/
theorem getD_rv {φ : List Addr} {H : Hp} {M : Addr → Prop} : ∀ {as : List PV} {vs : List V} (i : Nat), RVs Γ H φ M as vs → RV Γ H φ M (as.getD i .non) (vs.getD i .non)
  | [], _, i, h => by rw [RVs] at h; subst h; simp [RV]
  | a :: as, _, 0, h => by
    rw [RVs] at h
    obtain ⟨v, r, e, h1, h2⟩ := h
    subst e
    exact h1
  | a :: as, _, i + 1, h => by
    rw [RVs] at h
    obtain ⟨v, r, e, h1, h2⟩ := h
    subst e
    exact getD_rv i h2
theorem getD_val : ∀ {vs : List V} {us : List Value} (i : Nat), Vals vs us → RelV (vs.getD i .non) (us.getD i .none)
  | _, _, i, .nil => by cases i <;> rfl
  | _, _, 0, .cons r _ => r
  | _, _, i + 1, .cons _ t => getD_val i t
theorem perm_rv {φ : List Addr} {H : Hp} {M : Addr → Prop} {as : List PV} {vs : List V} (h : RVs Γ H φ M as vs) : ∀ perm : List Nat, RVs Γ H φ M (perm.map fun i => as.getD i .non) (perm.map fun i => vs.getD i .non)
  | [] => by rw [List.map_nil, List.map_nil, RVs]
  | i :: p => by rw [List.map_cons, List.map_cons, RVs]; exact ⟨_, _, rfl, getD_rv i h, perm_rv h p⟩
theorem perm_val {vs : List V} {us : List Value} (h : Vals vs us) : ∀ perm : List Nat, Vals (perm.map fun i => vs.getD i .non) (perm.map fun i => us.getD i .none)
  | [] => .nil
  | i :: p => .cons (getD_val i h) (perm_val h p)
theorem call_fnk {m : Nat} {ks : List Str} {perm : List Nat} (hX : XG X Γ) (F : FunG Γ C k f) (hr : Room k X.A) (tk : Takes X W) (hb : KB Γ f m ks perm) {pins : List (Addr × Obj)} {σ : L2.St} {H : Hp} {s : Shared} {Q : VK} {us ws : List Value} {vs : List V} (I : Inv X pins σ H s) (r : Vals vs (us ++ ws))
    (hm : us.length = m) (hk : ws.length = ks.length)
    {φ ρ : List Addr} {T : Store} {as : List PV} (rs : RS Γ H φ ρ T) (ra : RVs Γ H φ (MM φ ρ T) as vs) (o : OutG Γ W σ φ ρ T H (RV Γ) (C.call f (perm.map fun i => as.getD i .non) T) Q) : wpAny (model X.prog X.w) X.A (call (.ref (Γ.fa f)) us (ks.zip ws)) (EP X pins σ Q) X.xe s := by
  have ra2 := perm_rv ra perm
  have r2 := perm_val r perm
  have hl : (perm.map fun i => vs.getD i .non).length = (Γ.pn f).length := by rw [ra2.length]; exact F.len _ _ o.nbad
  refine wpAny_call (codeAny_mono ((F.fn hX).run X.A X.stack s H ⟨us, ks.zip ws⟩ _ _ Q (fun c d H' => W c d σ H') hr I.env0 (hb s us ws hm hk) r2 ⟨hl, φ, ρ, T, _, rs, ra2, o.wish fun _ _ _ h => h⟩) fun r s' hq => ?_)
  have := run_cx tk I hq
  cases r with
  | error e => exact this
  | ok fl => cases fl <;> first | exact this | exact this.elim
/-- the values of keywords -/
theorem k_nil : PK X [] (tL Γ W C []) := ⟨fun pos pins s σ H Q I ⟨φ, ρ, T, sl, rs, rl, o⟩ => pk_nil.run pos pins s σ H Q I (by
  change OutG Γ W σ φ ρ T H (RVs Γ) (.ok [] T) Q at o
  exact o.here rs (by rw [RVs]))⟩
theorem k_cons {nm : Option Str} {kpos : Pos} {kws : List Keyword} (ha : PE X a (tE Γ W C a')) (hr : PK X kws (tL Γ W C es')) : PK X (⟨nm, a, kpos⟩ :: kws) (tL Γ W C (a' :: es')) :=
  ⟨fun pos pins s σ H Q I ⟨φ, ρ, T, sl, rs, rl, o⟩ => (pk_cons ha hr).run pos pins s σ H Q I (by
    change OutG Γ W σ φ ρ T H (RVs Γ) ((evE C a' sl T).bind fun v T => (evL C es' sl T).bind fun vs T => .ok (v :: vs) T) Q at o
    refine ⟨φ, ρ, T, sl, rs, rl, o.bind rs fun φ1 T1 H1 v x rs1 up rv o1 => ⟨φ1, ρ, T1, sl, rs1, rl.up up, o1.bind rs1 fun φ2 T2 H2 w y rs2 up2 rw2 o2 => o2.here rs2 ?_⟩⟩
    rw [RVs]
    exact ⟨_, _, rfl, rv.up up2, rw2⟩)⟩
theorem e_callK0 {x : Str} {kws : List Keyword} {ks : List Str} {perm : List Nat} (hX : XG X Γ) (F : FunG Γ C k f) (hr : Room k X.A) (tk : Takes X W) (hb : KB Γ f 0 ks perm) (hlk : es'.length = ks.length) (hg : Gl X x) (hm : Γ.mg x = some (.ref (Γ.fa f))) (hkw : PK X kws (tL Γ W C es'))
    (hall : (backToKw pos (keywordEach kws X.env)).all (·.1.isSome) = true := by rfl) (hks : (backToKw pos (keywordEach kws X.env)).filterMap (·.1) = ks := by rfl) (hdb : (x == ("__debug__" : Str)) = false := by decide)
    (hpl : ((backTo pos (starEach [] X.env)).any (·.1) || (backToKw pos (keywordEach kws X.env)).any (·.1.isNone)) = false := by rfl) : PE X (.Call (.Name x pf) [] kws pos) (tE Γ W C (.callK f perm es')) := by
  refine ⟨fun pins s σ H Q I ⟨φ, ρ, T, sl, rs, rl, o⟩ => ?_⟩
  change OutG Γ W σ φ ρ T H (RV Γ) ((evL C es' sl T).bind fun vs T => C.call f (perm.map fun k => vs.getD k .non) T) Q at o
  refine wpAny_Call_Name_kw (ld_glob I hg (mgX hX hm) ?_ hdb)
  have len : ∀ (es' : List Ex) (T : Store) vs T', evL C es' sl T = .ok vs T' → vs.length = es'.length := by
    intro es'
    induction es' with
    | nil => intro T vs T' e; cases e; rfl
    | cons a es ih =>
      intro T vs T' e
      change ((evE C a sl T).bind fun v T => (evL C es sl T).bind fun vs T => .ok (v :: vs) T) = .ok vs T' at e
      cases e1 : evE C a sl T with
      | ok v T1 =>
        rw [e1, Ro.bind_ok] at e
        cases e2 : evL C es sl T1 with
        | ok ws T2 =>
          rw [e2] at e
          cases e
          simp [ih _ _ _ e2]
        | ex _ _ => rw [e2] at e; cases e
        | bad => rw [e2] at e; cases e
      | ex _ _ => rw [e1] at e; cases e
      | bad => rw [e1] at e; cases e
  refine PySem.W.callWith_KW0 (h₀ := X.base) I.ok.mod.kin (keepX hX F) hall (thn (hkw.run pos pins s σ H (fun xs H1 => xs.length = ks.length ∧ ∃ φ1 T1 v, RS Γ H1 φ1 ρ T1 ∧ RVs Γ H1 φ1 (MM φ1 ρ T1) v xs ∧ OutG Γ W σ φ1 ρ T1 H1 (RV Γ) (C.call f (perm.map fun k => v.getD k .non) T1) Q) I ⟨φ, ρ, T, sl, rs, rl, ?_⟩)
    fun ws s2 ⟨zs, H2, I2, rz, hz, φ1, T1, as, rs1, ra1, o1⟩ => ⟨I2.kIn, ?_⟩) hpl
  · cases e : evL C es' sl T with
    | ok vs T' =>
      rw [e] at o
      exact fun φ1 H1 u l rs1 ru => ⟨by rw [ru.length, len _ _ _ _ e, hlk], φ1, T', vs, rs1, ru, o.step l⟩
    | ex _ _ => rw [e] at o; exact o
    | bad => rw [e] at o; exact o
  · rw [hks]
    exact call_fnk hX F hr tk hb (us := []) I2 rz rfl (by rw [← rz.length, hz]) rs1 ra1 o1

/-! methods -/
theorem meth_bind {σ : L2.St} {H : Hp} {Q : VK} {φ ρ : List Addr} {T : Store} {sl : Slots} {m : Nat} {n : Str} (hX : XG X Γ) (G : Good Γ C) (hn : Γ.nm m = some n) (rs : RS Γ H φ ρ T) (rl : RL Γ H φ (MM φ ρ T) σ sl)
    (o : OutG Γ W σ φ ρ T H (RV Γ) (evE C (.meth a' m es') sl T) Q) :
    tE Γ W C a' σ H fun x H1 => ∃ p dx fs C' f φ1 T1 v, x = .ref p ∧ H1 p = some (.ins C' dx fs) ∧ fs.lookup n = none ∧ Cls X.K C' ∧ Meth X.K C' n (Γ.fa f) ∧ (∃ c, C.meth c m = some f ∧ C' = Γ.cls c) ∧ RS Γ H1 φ1 ρ T1 ∧ RL Γ H1 φ1 (MM φ1 ρ T1) σ sl ∧ RV Γ H1 φ1 (MM φ1 ρ T1) v x ∧
      OutG Γ W σ φ1 ρ T1 H1 (RV Γ) ((evL C es' sl T1).bind fun vs T => C.call f (v :: vs) T) Q := by
  change OutG Γ W σ φ ρ T H (RV Γ) ((evE C a' sl T).bind fun v T => match dr T v with
    | .ins c fs => (match C.meth c m, flook fs m with
      | some f, none => (evL C es' sl T).bind fun vs T => C.call f (v :: vs) T
      | _, _ => .bad)
    | _ => .bad) Q at o
  refine ⟨φ, ρ, T, sl, rs, rl, o.bind rs fun φ1 T1 H1 v x rs1 up rv o1 => ?_⟩
  have da := dr_rv rs1 rv
  split at o1
  · rename_i c fs e1
    rw [e1] at da
    obtain ⟨p, dx, fs', ex, hp, rf⟩ := da
    split at o1
    · rename_i f h1 h2
      obtain ⟨n', hn', cl, me⟩ := G.meth c m f h1
      rw [hn] at hn'; cases hn'
      rcases flook_rv (nmi := G.nmi) rf hn with ⟨w', u, e2, e3, r⟩ | ⟨_, e2⟩
      · rw [h2] at e2; cases e2
      · exact ⟨p, dx, fs', _, f, φ1, T1, v, ex, hp, e2, by rw [hX.K]; exact cl, by rw [hX.K]; exact me, ⟨c, h1, rfl⟩, rs1, rl.up up, rv, o1⟩
    · exact o1.elim
  · exact o1.elim
theorem e_meth {m : Nat} {n : Str} {e0 : Expr} {pl : Sem Bool} (hX : XG X Γ) (G : Good Γ C) (F : ∀ c f, C.meth c m = some f → FunG Γ C k f) (hn : Γ.nm m = some n) (hr : Room k X.A) (tk : Takes X W) (ha : PE X a (tE Γ W C a')) (hl : PA X (e0 :: es) (tL Γ W C es'))
    (hst : starEach (e0 :: es) X.env = (false, eval e0 X.env) :: starEach es X.env := by rfl) (hpl : (backTo pos (starEach es X.env)).any (·.1) = false := by rfl)
    (ht : eval (.Call (.Attribute a n apos) (e0 :: es) [] pos) X.env = (do
      let ov ← eval a X.env
      standAt apos.atName
      let (f, first) ← holding [ov] (getMethod ov n pl)
      callWith pos f first (backTo pos (starEach (e0 :: es) X.env)) (backToKw pos (keywordEach [] X.env))) := by rfl) :
    PE X (.Call (.Attribute a n apos) (e0 :: es) [] pos) (tE Γ W C (.meth a' m es')) := by
  refine ⟨fun pins s σ H Q I ⟨φ, ρ, T, sl, rs, rl, o⟩ => ?_⟩
  refine PySem.W.methodCall_KW (pl := pl) (thn (ha.run pins s σ H _ I (meth_bind hX G hn rs rl o)) fun u s1 ⟨x, H1, I1, rx, p, dx, fs, C', f, φ1, T1, v, ex, ea, l, cl, me, ⟨c, hc, _⟩, rs1, rl1, rv, o1⟩ => ?_) ht
  subst ex
  obtain rfl : u = Value.ref p := rx
  refine getmeth_ok I1 ea cl me l ?_
  refine PySem.W.callWith_K (first := [.ref p]) (h₀ := X.base) I.ok.mod.kin me.kp (thn (hl.run pos pins s1 σ H1 _ I1 ⟨φ1, ρ, T1, sl, rs1, rl1, o1.bind rs1 fun φ2 T2 H2 vs xs rs2 up2 rvs o2 => (show ∃ φ2 T2 as, RS Γ H2 φ2 ρ T2 ∧ RVs Γ H2 φ2 (MM φ2 ρ T2) (v :: as) (.ref p :: xs) ∧ OutG Γ W σ φ2 ρ T2 H2 (RV Γ) (C.call f (v :: as) T2) Q from
    ⟨φ2, T2, vs, rs2, by rw [RVs]; exact ⟨_, _, rfl, rv.up up2, rvs⟩, o2⟩)⟩) fun us s2 ⟨vs, H2, I2, r, φ2, T2, as, rs2, ra2, o2⟩ => ⟨I2.kIn, ?_⟩) hst hpl
  exact call_fn hX (F c f hc) hr tk (us := .ref p :: us) (vs := .ref p :: vs) I2 (.cons rfl r) rs2 ra2 o2
theorem e_meth0 {m : Nat} {n : Str} {pl : Sem Bool} (hX : XG X Γ) (G : Good Γ C) (F : ∀ c f, C.meth c m = some f → FunG Γ C k f) (hn : Γ.nm m = some n) (hr : Room k X.A) (tk : Takes X W) (ha : PE X a (tE Γ W C a'))
    (ht : eval (.Call (.Attribute a n apos) [] [] pos) X.env = (do
      let ov ← eval a X.env
      standAt apos.atName
      let (f, first) ← holding [ov] (getMethod ov n pl)
      callWith pos f first (backTo pos (starEach [] X.env)) (backToKw pos (keywordEach [] X.env))) := by rfl) :
    PE X (.Call (.Attribute a n apos) [] [] pos) (tE Γ W C (.meth a' m [])) := by
  refine ⟨fun pins s σ H Q I ⟨φ, ρ, T, sl, rs, rl, o⟩ => ?_⟩
  refine PySem.W.methodCall_KW (pl := pl) (thn (ha.run pins s σ H _ I (meth_bind hX G hn rs rl o)) fun u s1 ⟨x, H1, I1, rx, p, dx, fs, C', f, φ1, T1, v, ex, ea, l, cl, me, ⟨c, hc, _⟩, rs1, rl1, rv, o1⟩ => ?_) ht
  subst ex
  obtain rfl : u = Value.ref p := rx
  refine getmeth_ok I1 ea cl me l ?_
  exact PySem.W.callWith_K0 (first := [.ref p]) I1.kIn me.kp (call_fn hX (F c f hc) hr tk (us := [.ref p]) (vs := [.ref p]) I1 (.cons rfl .nil) rs1 (by rw [RVs]; exact ⟨_, _, rfl, rv, by rw [RVs]⟩) o1)

/-! classes -/
theorem make_out {σ : L2.St} {H : Hp} {Q : VK} {φ ρ : List Addr} {T : Store} {vs : List V} {as : List PV} {c f : Nat} (rs : RS Γ H φ ρ T) (ra : RVs Γ H φ (MM φ ρ T) as vs)
    (o : OutG Γ W σ φ ρ T H (RV Γ) ((C.call f (.ref T.length :: as) (T ++ [.ins c []])).bind fun r T' => match r with
      | .non => .ok (.ref T.length) T'
      | _ => .bad) Q) {x dx : Addr} (hx : H x = none) (hd : H dx = none) (hne : dx ≠ x) :
    ∃ φ1, RS Γ (upd (upd H dx (.own x)) x (.ins (Γ.cls c) dx [])) φ1 ρ (T ++ [.ins c []]) ∧ RVs Γ (upd (upd H dx (.own x)) x (.ins (Γ.cls c) dx [])) φ1 (MM φ1 ρ (T ++ [.ins c []])) (.ref T.length :: as) (.ref x :: vs) ∧
      OutG Γ W σ φ1 ρ (T ++ [.ins c []]) (upd (upd H dx (.own x)) x (.ins (Γ.cls c) dx [])) (RV Γ) (C.call f (.ref T.length :: as) (T ++ [.ins c []])) (fun v H2 => v = .non ∧ Q (.ref x) H2) := by
  obtain ⟨l0, rs0, up0, n0⟩ := lay0 rs hd (.own x)
  have hx0 : upd H dx (.own x) x = none := by rw [upd_ne (Ne.symm hne)]; exact hx
  obtain ⟨l1, rs1⟩ := lay1 rs0 hx0 (.ins (Γ.cls c) dx []) (.ins c []) ⟨dx, [], upd_same, by rw [RVf]⟩
  have up1 := l1.up rs0
  refine ⟨φ ++ [x], rs1, ?_, ?_⟩
  · rw [RVs]
    refine ⟨.ref x, vs, rfl, ?_, (ra.up up0).up up1⟩
    rw [RV]
    exact ⟨x, rfl, by rw [← rs.len]; simp⟩
  · have o1 := o.step (l0.trans l1)
    cases e : C.call f (.ref T.length :: as) (T ++ [.ins c []]) with
    | ok v T2 =>
      rw [e] at o1
      intro φ2 H2 u l2 rs2 ru
      cases v with
      | non =>
        rw [RV] at ru
        refine ⟨ru, (o1.step l2).here rs2 ?_⟩
        rw [RV]
        refine ⟨x, rfl, l2.at ?_⟩
        rw [← rs.len]; simp
      | _ => exact o1.elim
    | ex _ _ => rw [e] at o1; exact o1
    | bad => rw [e] at o1; exact o1
theorem run_mk {c : Nat} (hX : XG X Γ) (M : Mk Γ.K (Γ.cls c) (Γ.fa f)) (F : FunG Γ C k f) (hr : Room (k + 1) X.A) (tk : Takes X W) {pins : List (Addr × Obj)} {σ : L2.St} {H : Hp} {s : Shared} {Q : VK} {us : List Value} {vs : List V} (I : Inv X pins σ H s) (r : Vals vs us)
    {φ ρ : List Addr} {T : Store} {as : List PV} (rs : RS Γ H φ ρ T) (ra : RVs Γ H φ (MM φ ρ T) as vs)
    (o : OutG Γ W σ φ ρ T H (RV Γ) ((C.call f (.ref T.length :: as) (T ++ [.ins c []])).bind fun r T' => match r with
      | .non => .ok (.ref T.length) T'
      | _ => .bad) Q) : wpAny (model X.prog X.w) X.A (call (.ref (Γ.cls c)) us) (EP X pins σ Q) X.xe s := by
  have M' : Mk X.K (Γ.cls c) (Γ.fa f) := by rw [hX.K]; exact M
  obtain ⟨φ1, rs1, ra1, o1⟩ := make_out rs ra o (x := s.heap.objs.size + 1) (dx := s.heap.objs.size) (I.hok.fresh (Nat.le_succ _)) (I.hok.fresh (Nat.le_refl _)) (Nat.ne_of_lt (Nat.lt_succ_self _))
  have I2 := Inv.made (C := Γ.cls c) I
  have hl : (V.ref (s.heap.objs.size + 1) :: vs).length = (Γ.pn f).length := by rw [ra1.length]; exact F.len _ _ o1.nbad
  have r2 : Vals (V.ref (s.heap.objs.size + 1) :: vs) (Value.ref (s.heap.objs.size + 1) :: us) := .cons rfl r
  have hb := F.bd { s with heap := (s.heap.push PySem.W.emptyDict).push (PySem.W.instObj (Γ.cls c) s.heap.objs.size) } (Value.ref (s.heap.objs.size + 1) :: us) (by rw [← hX.K]; exact I2.kIn) (by rw [List.append_nil, ← r2.length]; exact hl)
  rw [List.append_nil] at hb
  refine wpAny_call (make_map (f := Γ.fa f) I.kIn M'.makes M'.init (beq_iff_eq.mp M'.fn) (codeAny_mono ((F.fn hX).run _ X.stack _ _ ⟨Value.ref (s.heap.objs.size + 1) :: us, []⟩ _ _ _ (fun c d H' => W c d σ H') (hr.make (Γ.cls c) us []) (I2.env0.make (Γ.cls c) us []) hb r2
    ⟨hl, φ1, ρ, _, _, rs1, ra1, o1.wish fun _ _ _ h => h⟩) fun r s' hq' => ?_))
  cases r with
  | error e => exact tk e s' (XE.of_call I2 (fun cls d H' h => h) hq')
  | ok fl =>
    cases fl with
    | ret u =>
      obtain ⟨v, H', I', ru, ev, q⟩ := I2.after hq'
      subst ev
      exact ⟨ru, ⟨V.ref (s.heap.objs.size + 1), H', I', rfl, q⟩⟩
    | next => exact False.elim hq'
    | brk => exact False.elim hq'
    | cont => exact False.elim hq'
theorem e_new {x : Str} {e0 : Expr} {c : Nat} (hX : XG X Γ) (hi : C.init c = some f) (M : Mk Γ.K (Γ.cls c) (Γ.fa f)) (F : FunG Γ C k f) (hr : Room (k + 1) X.A) (tk : Takes X W) (hg : Gl X x) (hm : Γ.mg x = some (.ref (Γ.cls c))) (ha : PA X (e0 :: es) (tL Γ W C es')) (hdb : (x == ("__debug__" : Str)) = false := by decide)
    (he : starEach (e0 :: es) X.env = (false, eval e0 X.env) :: starEach es X.env := by rfl) (hpl : (backTo pos (starEach es X.env)).any (·.1) = false := by rfl) : PE X (.Call (.Name x pf) (e0 :: es) [] pos) (tE Γ W C (.new c es')) := by
  refine ⟨fun pins s σ H Q I ⟨φ, ρ, T, sl, rs, rl, o⟩ => ?_⟩
  change OutG Γ W σ φ ρ T H (RV Γ) ((evL C es' sl T).bind fun vs T => match C.init c with
    | some f => (C.call f (.ref T.length :: vs) (T ++ [.ins c []])).bind fun r T' => match r with
      | .non => .ok (.ref T.length) T'
      | _ => .bad
    | none => .bad) Q at o
  simp only [hi] at o
  refine wpAny_Call_Name_kw (ld_glob I hg (mgX hX hm) ?_ hdb)
  refine PySem.W.callWith_K (h₀ := X.base) I.ok.mod.kin (by rw [hX.K]; exact M.kp) (thn (ha.run pos pins s σ H _ I ⟨φ, ρ, T, sl, rs, rl, o.bind rs fun φ1 T1 H1 v x rs1 up rv o1 => (show ∃ φ1 T1 v, RS Γ H1 φ1 ρ T1 ∧ RVs Γ H1 φ1 (MM φ1 ρ T1) v x ∧ OutG Γ W σ φ1 ρ T1 H1 (RV Γ) ((C.call f (.ref T1.length :: v) (T1 ++ [.ins c []])).bind fun r T' => match r with
      | .non => .ok (.ref T1.length) T'
      | _ => .bad) Q from ⟨φ1, T1, v, rs1, rv, o1⟩)⟩)
    fun us s1 ⟨vs, H1, I1, r, φ1, T1, as, rs1, ra1, o1⟩ => ⟨I1.kIn, ?_⟩) he hpl
  exact run_mk hX M F hr tk I1 r rs1 ra1 o1
theorem e_new0 {x : Str} {c : Nat} (hX : XG X Γ) (hi : C.init c = some f) (M : Mk Γ.K (Γ.cls c) (Γ.fa f)) (F : FunG Γ C k f) (hr : Room (k + 1) X.A) (tk : Takes X W) (hg : Gl X x) (hm : Γ.mg x = some (.ref (Γ.cls c))) (hdb : (x == ("__debug__" : Str)) = false := by decide) :
    PE X (.Call (.Name x pf) [] [] pos) (tE Γ W C (.new c [])) := by
  refine ⟨fun pins s σ H Q I ⟨φ, ρ, T, sl, rs, rl, o⟩ => ?_⟩
  change OutG Γ W σ φ ρ T H (RV Γ) (match C.init c with
    | some f => (C.call f (.ref T.length :: []) (T ++ [.ins c []])).bind fun r T' => match r with
      | .non => .ok (.ref T.length) T'
      | _ => .bad
    | none => .bad) Q at o
  simp only [hi] at o
  refine wpAny_Call_Name_kw (ld_glob I hg (mgX hX hm) ?_ hdb)
  exact PySem.W.callWith_K0 I.kIn (by rw [hX.K]; exact M.kp) (run_mk hX M F hr tk (us := []) I .nil rs (by rw [RVs]) o)
end
end E
set_option Elab.async false
set_option linter.all false
set_option autoImplicit false
set_option maxRecDepth 100000
set_option maxHeartbeats 1000000
/-! Part 14: statements. -/
namespace E
open PySem PySem.Spec PyProof.Rows L2

def OutA (Γ : SE) (φ ρ : List Addr) (T : Store) (H : Hp) (r : Ro Slots) (Q : L2.St → Hp → Prop) : Prop := match r with
  | .ok s' T' => ∀ φ' H' σ', Le φ T H φ' T' H' → RS Γ H' φ' ρ T' → RL Γ H' φ' (MM φ' ρ T') σ' s' → Q σ' H'
  | _ => False
def OutS (Γ : SE) (W : WX) (φ ρ : List Addr) (T : Store) (H : Hp) (r : R) (D : Ends) : Prop := match r with
  | .nx s' T' => ∀ φ' H' σ', Le φ T H φ' T' H' → RS Γ H' φ' ρ T' → RL Γ H' φ' (MM φ' ρ T') σ' s' → D.nx σ' H'
  | .bk s' T' => ∀ φ' H' σ', Le φ T H φ' T' H' → RS Γ H' φ' ρ T' → RL Γ H' φ' (MM φ' ρ T') σ' s' → D.bk σ' H'
  | .ct s' T' => ∀ φ' H' σ', Le φ T H φ' T' H' → RS Γ H' φ' ρ T' → RL Γ H' φ' (MM φ' ρ T') σ' s' → D.ct σ' H'
  | .rt v T' => ∀ φ' H' u, Le φ T H φ' T' H' → RS Γ H' φ' ρ T' → RV Γ H' φ' (MM φ' ρ T') v u → D.rt u H'
  | .ex x s' T' => ∀ φ' H' σ' cls d, Le φ T H φ' T' H' → RS Γ H' φ' ρ T' → RL Γ H' φ' (MM φ' ρ T') σ' s' → XR Γ x cls d → W cls d σ' H'
  | .bad => False
def tG (Γ : SE) (C : Ctx) (tg : Tg) : TG := fun v σ H Q => ∃ φ ρ T s p, RS Γ H φ ρ T ∧ RL Γ H φ (MM φ ρ T) σ s ∧ RV Γ H φ (MM φ ρ T) p v ∧ OutA Γ φ ρ T H (asgT C tg p s T) Q
def tGs (Γ : SE) (C : Ctx) (tgs : List Tg) : TGs := fun vs σ H Q => ∃ φ ρ T s ps, RS Γ H φ ρ T ∧ RL Γ H φ (MM φ ρ T) σ s ∧ RVs Γ H φ (MM φ ρ T) ps vs ∧ OutA Γ φ ρ T H (asgL C tgs ps s T) Q
def tS (Γ : SE) (W : WX) (C : Ctx) (st : St) : TS := fun D σ H => ∃ φ ρ T s, RS Γ H φ ρ T ∧ RL Γ H φ (MM φ ρ T) σ s ∧ OutS Γ W φ ρ T H (evS C st s T) D
def tSs (Γ : SE) (W : WX) (C : Ctx) (sts : List St) : TS := fun D σ H => ∃ φ ρ T s, RS Γ H φ ρ T ∧ RL Γ H φ (MM φ ρ T) σ s ∧ OutS Γ W φ ρ T H (evSs C sts s T) D

section
variable {Γ : SE} {W : WX} {C : Ctx} {X : Cx} {σ σ' : L2.St} {φ ρ φ1 : List Addr} {T T1 : Store} {H H1 : Hp} {s s' : Slots}
theorem OutA.step (l : Le φ T H φ1 T1 H1) {r : Ro Slots} {Q : L2.St → Hp → Prop} (o : OutA Γ φ ρ T H r Q) : OutA Γ φ1 ρ T1 H1 r Q := by
  cases r with
  | ok v T' => exact fun φ' H' u l' rs r => o φ' H' u (l.trans l') rs r
  | _ => exact o
theorem OutS.step (l : Le φ T H φ1 T1 H1) {r : R} {D : Ends} (o : OutS Γ W φ ρ T H r D) : OutS Γ W φ1 ρ T1 H1 r D := by
  cases r with
  | nx v T' => exact fun φ' H' u l' rs r => o φ' H' u (l.trans l') rs r
  | bk v T' => exact fun φ' H' u l' rs r => o φ' H' u (l.trans l') rs r
  | ct v T' => exact fun φ' H' u l' rs r => o φ' H' u (l.trans l') rs r
  | rt v T' => exact fun φ' H' u l' rs r => o φ' H' u (l.trans l') rs r
  | ex x v T' => exact fun φ' H' σ' c d l' rs r x => o φ' H' σ' c d (l.trans l') rs r x
  | bad => exact o
/-- an expression within a statement -/
theorem OutS.then {α β : Type} {rel : Rel α β} {r : Ro α} {f : α → Store → R} {D : Ends} {Q' : β → Hp → Prop} (rs : RS Γ H φ ρ T) (rl : RL Γ H φ (MM φ ρ T) σ s) (o : OutS Γ W φ ρ T H (r.then s f) D)
    (k : ∀ φ1 T1 H1 v u, RS Γ H1 φ1 ρ T1 → RL Γ H1 φ1 (MM φ1 ρ T1) σ s → Up H φ (MM φ ρ T) H1 φ1 (MM φ1 ρ T1) → rel H1 φ1 (MM φ1 ρ T1) v u → OutS Γ W φ1 ρ T1 H1 (f v T1) D → Q' u H1) : OutG Γ W σ φ ρ T H rel r Q' := by
  cases r with
  | ok v T' => exact fun φ' H' u l rs' r => k φ' T' H' v u rs' (rl.up (l.up rs)) (l.up rs) r (OutS.step l o)
  | ex x T' => exact fun φ' H' c d l rs' xr => o φ' H' σ c d l rs' (rl.up (l.up rs)) xr
  | bad => exact o
theorem OutS.nx (rs : RS Γ H φ ρ T) {D : Ends} (o : OutS Γ W φ ρ T H (.nx s T) D) (rl : RL Γ H φ (MM φ ρ T) σ s) : D.nx σ H := o φ H σ Le.refl rs rl
theorem OutS.rt {v : PV} {u : V} (rs : RS Γ H φ ρ T) {D : Ends} (o : OutS Γ W φ ρ T H (.rt v T) D) (rv : RV Γ H φ (MM φ ρ T) v u) : D.rt u H := o φ H u Le.refl rs rv
theorem OutA.here {Q : L2.St → Hp → Prop} (rs : RS Γ H φ ρ T) (o : OutA Γ φ ρ T H (.ok s T) Q) (rl : RL Γ H φ (MM φ ρ T) σ s) : Q σ H := o φ H σ Le.refl rs rl
theorem RL.set {i : Nat} {p : PV} {v : V} (rl : RL Γ H φ (MM φ ρ T) σ s) (rv : RV Γ H φ (MM φ ρ T) p v) (hp : ∀ σ, Γ.psi σ) : RL Γ H φ (MM φ ρ T) (σ.set i (some v)) (s.set i (some p)) := by
  refine ⟨by simp [rl.1], fun j w hj => ?_, hp _⟩
  by_cases e : i = j
  · subst e
    by_cases hl : i < s.length
    · rw [List.getElem?_set_self hl] at hj
      cases hj
      exact ⟨v, by rw [List.getElem?_set_self (by rw [rl.1]; exact hl)], rv⟩
    · rw [List.getElem?_eq_none (by simpa using hl)] at hj; cases hj
  · rw [List.getElem?_set_ne e] at hj ⊢
    exact rl.2.1 j w hj
theorem wipe_get : ∀ (w : List Nat) (s : Slots) (i : Nat) v, (wipe s w)[i]? = some (some v) → s[i]? = some (some v)
  | [], _, _, _, h => h
  | j :: w, s, i, v, h => by
    rw [wipe] at h
    by_cases e : j = i
    · subst e
      by_cases hl : j < (wipe s w).length
      · rw [List.getElem?_set_self hl] at h; cases h
      · rw [List.getElem?_eq_none (by simpa using hl)] at h; cases h
    · rw [List.getElem?_set_ne e] at h
      exact wipe_get w s i v h
theorem wipe_len : ∀ (w : List Nat) (s : Slots), (wipe s w).length = s.length
  | [], _ => rfl
  | j :: w, s => by rw [wipe, List.length_set, wipe_len w s]
theorem RL.wipe {M : Addr → Prop} (rl : RL Γ H φ M σ s) (w : List Nat) : RL Γ H φ M σ (wipe s w) :=
  ⟨by rw [wipe_len]; exact rl.1, fun i v h => rl.2.1 i v (wipe_get w s i v h), rl.2.2⟩
theorem OutA.of_noEx {r : Ro Slots} {f : Slots → Store → R} {D : Ends} (o : OutS Γ W φ ρ T H ((noEx r).then s f) D) : OutA Γ φ ρ T H r fun σ' H' => ∃ φ' s' T', r = .ok s' T' ∧ RS Γ H' φ' ρ T' ∧ RL Γ H' φ' (MM φ' ρ T') σ' s' ∧ OutS Γ W φ' ρ T' H' (f s' T') D := by
  cases r with
  | ok s' T' => exact fun φ' H' σ' l rs rl => ⟨φ', s', T', rfl, rs, rl, OutS.step l o⟩
  | ex x T' => exact o.elim
  | bad => exact o.elim
end
theorem PS_of {X : Cx} {st : Stmt} {t t' : TS} (h : PS X st t) (i : ∀ D σ H, t' D σ H → t D σ H) : PS X st t' := ⟨fun pins s σ H D I q => h.run pins s σ H D I (i _ _ _ q)⟩
theorem PSs_of {X : Cx} {st : List Stmt} {t t' : TS} (h : PSs X st t) (i : ∀ D σ H, t' D σ H → t D σ H) : PSs X st t' := ⟨fun pins s σ H D I q => h.run pins s σ H D I (i _ _ _ q)⟩
theorem PG_of {X : Cx} {tg : Expr} {t t' : TG} (h : PG X tg t) (i : ∀ v σ H Q, t' v σ H Q → t v σ H Q) : PG X tg t' := ⟨fun pins s σ H v u Q I r q => h.run pins s σ H v u Q I r (i _ _ _ _ q)⟩
theorem PGs_of {X : Cx} {tg : List Expr} {t t' : TGs} (h : PGs X tg t) (i : ∀ v σ H Q, t' v σ H Q → t v σ H Q) : PGs X tg t' := ⟨fun pins s σ H v u Q I r q => h.run pins s σ H v u Q I r (i _ _ _ _ q)⟩

section
variable {Γ : SE} {W : WX} {C : Ctx} {X : Cx} {e o i c tg : Expr} {e' o' i' c' : Ex} {tg' : Tg} {pos pos' pt : Pos} {es : List Expr} {tgs' : List Tg} {st : Stmt} {st' : St} {a b : List Stmt} {a' b' : List St} {p : Pr}

/-! targets -/
theorem g_name {j : Nat} {x : Str} (hp : ∀ σ, Γ.psi σ) (hN : X.N.Nodup) (hi : X.N[j]? = some x) (hx : Loc X.env.scope x) (hf : X.fn x = true ∨ X.env.scope.names.lookup x = some .local := by first | exact .inl rfl | exact .inr rfl | assumption) : PG X (.Name x pos) (tG Γ C (.var j)) :=
  PG_of (pg_name hN hi hx hf) fun v σ H Q ⟨φ, ρ, T, s, p, rs, rl, rv, o⟩ => by
    change OutA Γ φ ρ T H (.ok (s.set j (some p)) T) Q at o
    exact o.here rs (rl.set rv hp)
theorem gs_nil : PGs X [] (tGs Γ C []) := PGs_of pgs_nil fun v σ H Q ⟨φ, ρ, T, s, ps, rs, rl, rv, o⟩ => by
  cases ps with
  | nil =>
    change OutA Γ φ ρ T H (.ok s T) Q at o
    rw [RVs] at rv
    exact ⟨rv, o.here rs rl⟩
  | cons p ps => exact o.elim
theorem gs_cons {tgs : List Expr} (h1 : PG X tg (tG Γ C tg')) (h2 : PGs X tgs (tGs Γ C tgs')) (hs : (assignEach (tg :: tgs) X.env).map (·.2) = assign tg X.env :: (assignEach tgs X.env).map (·.2) := by rfl) : PGs X (tg :: tgs) (tGs Γ C (tg' :: tgs')) :=
  PGs_of (pgs_cons h1 h2 hs) fun v σ H Q ⟨φ, ρ, T, s, ps, rs, rl, rv, o⟩ => by
    cases ps with
    | nil => exact o.elim
    | cons p ps =>
      rw [RVs] at rv
      obtain ⟨w, r, ev, r1, r2⟩ := rv
      change OutA Γ φ ρ T H ((asgT C tg' p s T).bind fun σ T => asgL C tgs' ps σ T) Q at o
      refine ⟨w, r, ev, φ, ρ, T, s, p, rs, rl, r1, ?_⟩
      cases e : asgT C tg' p s T with
      | ok s1 T1 =>
        rw [e] at o
        exact fun φ1 H1 σ1 l rs1 rl1 => ⟨φ1, ρ, T1, s1, ps, rs1, rl1, r2.up (l.up rs), o.step l⟩
      | ex _ _ => rw [e] at o; exact o
      | bad => rw [e] at o; exact o
theorem g_tup {k n : Nat} (hX : XG X Γ) (hc : X.calm = true) (h : PGs X es (tGs Γ C tgs')) (hl : tgs'.length = n) (hn : (assignEach es X.env).length = n := by rfl) (hst : (assignEach es X.env).findIdx? (·.1) = none := by rfl) : PG X (.Tuple es k pos) (tG Γ C (.tup tgs')) := by
  have len : ∀ (ts : List Tg) (xs : List PV) (s : Slots) (T : Store), asgL C ts xs s T ≠ .bad → (∀ x T', asgL C ts xs s T ≠ .ex x T') → xs.length = ts.length := by
    intro ts
    induction ts with
    | nil => intro xs s T h _; cases xs with
      | nil => rfl
      | cons _ _ => exact absurd rfl h
    | cons t ts ih =>
      intro xs s T h h2
      cases xs with
      | nil => exact absurd rfl h
      | cons x xs =>
        change ((asgT C t x s T).bind fun σ T => asgL C ts xs σ T) ≠ .bad at h
        change ∀ x' T', ((asgT C t x s T).bind fun σ T => asgL C ts xs σ T) ≠ .ex x' T' at h2
        cases e : asgT C t x s T with
        | ok s1 T1 => rw [e] at h h2; simp [ih xs s1 T1 h h2]
        | ex x T' => rw [e] at h2; exact absurd rfl (h2 x T')
        | bad => rw [e] at h; exact absurd rfl h
  refine ⟨fun pins s σ H v u Q I r ⟨φ, ρ, T, sl, p, rs, rl, rv, o⟩ => ?_⟩
  change OutA Γ φ ρ T H (match unpack p T with
    | some xs => asgL C tgs' xs sl T
    | none => .bad) Q at o
  have da := dr_rv rs rv
  unfold unpack at o
  split at o
  · rename_i xs e
    have hl2 : xs.length = n := by
      rw [← hl]
      refine len tgs' xs sl T (fun e => by rw [e] at o; exact o) fun x T' e => by rw [e] at o; exact o
    split at e
    · rename_i ys e1
      cases e
      rw [e1] at da
      obtain ⟨q, vs, ex, h1, h2⟩ := da
      exact (pg_lst hc h hn hst).run pins s σ H v u Q I r ⟨q, vs, ex, by rw [hX.K]; exact h1, by rw [h2.length]; exact hl2, φ, ρ, T, sl, _, rs, rl, h2, o⟩
    · rename_i ys e1
      cases e
      rw [e1] at da
      obtain ⟨q, vs, ex, h1, h2, _⟩ := da
      exact (pg_tup hc h hn hst).run pins s σ H v u Q I r ⟨q, vs, ex, by rw [hX.K]; exact h1, by rw [h2.length]; exact hl2, φ, ρ, T, sl, _, rs, rl, h2, o⟩
    · cases e
  · exact o.elim
end
end E
set_option Elab.async false
set_option linter.all false
set_option autoImplicit false
set_option maxRecDepth 100000
set_option maxHeartbeats 1000000
/-! Part 15: stores, statements. -/
namespace E
open PySem PySem.Spec PyProof.Rows L2

def rSub (Γ : SE) : TSet := fun o i v H Q => ∃ φ ρ T a b p, RS Γ H φ ρ T ∧ RV Γ H φ (MM φ ρ T) a o ∧ RV Γ H φ (MM φ ρ T) b i ∧ RV Γ H φ (MM φ ρ T) p v ∧ OutP Γ φ ρ T H (subP Γ.kc a b p T) fun _ H => Q H
section
variable {Γ : SE} {X : Cx}
open Classical in
theorem set_ok {k : Nat} (hr : Room k X.A) : PSet X (rSub Γ) := by
  intro pins s σ H o i v ov iv u Q I ro ri rv hh
  obtain ⟨φ, ρ, T, a, b, p, rs, ra, rb, rp, out⟩ := hh
  unfold subP at out
  split at out
  · rename_i xs j e1
    rw [rv_int rb] at ri
    split at out
    · rename_i n hn
      obtain ⟨l, rfl⟩ := out_ref out
      obtain ⟨q, vs, ex, h1, h2, h3, h4⟩ := at_lst rs ra e1 rfl
      subst ex
      refine set_list pins s σ H _ _ _ ov iv u Q I ro ri rv ⟨q, vs, j, n, rfl, rfl, h3, by rw [h4.length]; exact hn, ?_⟩
      exact OutP.sto (Q := fun _ H => Q H) (u := .non) rs h2 (by intro e; cases e) h1 (by intro e; cases e) out fun up => ⟨⟨_, upd_same, (h4.up up).set n (rp.up up)⟩, by rw [RV]⟩
    · exact out.elim
  · rename_i b x1 i1 t kvs e1
    split at out
    · rename_i hk
      obtain ⟨l, rfl⟩ := out_ref out
      obtain ⟨q, ex, h1, h2, h3⟩ := at_dic rs ra e1 rfl
      subst ex
      cases (show ov = Value.ref q from ro)
      cases t with
      | false =>
        obtain ⟨kv, h4, h5⟩ := h3
        obtain ⟨kk, rfl⟩ := isKey_f hk.1
        have ey := rv_key rb
        subst ey
        refine d_setItem (hu_of hr) I (DPut.k (k := kk) h4 (by rw [h5.length]; exact hk.2)) ri rv fun s' I' => ⟨_, I', ?_⟩
        exact OutP.sto (Q := fun _ H => Q H) (u := .non) rs h2 (by intro e; cases e) h1 (by intro e; cases e) out fun up => ⟨⟨_, upd_same, dput_k kk (h5.up up) (rp.up up)⟩, by rw [RV]⟩
      | true =>
        obtain ⟨kv, h4, h5⟩ := h3
        obtain ⟨ks, rfl, nk⟩ := isKey_t hk.1
        obtain ⟨b', eb, hb, nb⟩ := rv_tupKey rb nk
        subst eb
        refine d_setItem (hu_of hr) I (DPut.t (k := ks) h4 hb (by rw [h5.length]; exact hk.2)) ri rv fun s' I' => ⟨_, I', ?_⟩
        exact OutP.sto (Q := fun _ H => Q H) (u := .non) rs h2 (by intro e; cases e) h1 (by intro e; cases e) out fun up => ⟨⟨_, upd_same, dput_t ks (h5.up up) (rp.up up)⟩, by rw [RV]⟩
    · exact out.elim
  · exact out.elim
end

section
variable {Γ : SE} {W : WX} {C : Ctx} {X : Cx} {e o i c tg : Expr} {e' o' i' c' : Ex} {tg' : Tg} {pos pos' pt : Pos} {es : List Expr} {tgs' : List Tg} {st : Stmt} {st' : St} {a b rest : List Stmt} {a' b' rest' : List St} {p : Pr} {k : Nat}
/-- o[i] = .. -/
theorem g_sub (hX : XG X Γ) (hk : Γ.kc = C.kc) (hr : Room k X.A) (ho : PE X o (tE Γ (fun _ _ _ _ => False) C o')) (hi : PE X i (tE Γ (fun _ _ _ _ => False) C i'))
    (ha : ∀ v, assign (.Subscript o i pos) X.env v = (do
      let ov ← holding [v] (eval o X.env)
      let iv ← holding [v, ov] (eval i X.env)
      standAt pos
      holding [v, ov, iv] (setItem ov iv v)
      release [v, ov, iv] []) := by intro _; rfl) : PG X (.Subscript o i pos) (tG Γ C (.sub o' i')) :=
  PG_of (pg_sub ho hi (set_ok hr) ha) fun v σ H Q ⟨φ, ρ, T, s, p, rs, rl, rv, out⟩ => by
    change OutA Γ φ ρ T H ((evE C o' s T).bind fun ov T => (evE C i' s T).bind fun iv T => (subP C.kc ov iv p T).bind fun _ T => .ok s T) Q at out
    have go : ∀ {r : Ro PV} {f : PV → Store → Ro Slots} {φ ρ T H} {Q' : VK}, RS Γ H φ ρ T → OutA Γ φ ρ T H (r.bind f) Q → (∀ φ1 T1 H1 v u, RS Γ H1 φ1 ρ T1 → Up H φ (MM φ ρ T) H1 φ1 (MM φ1 ρ T1) → RV Γ H1 φ1 (MM φ1 ρ T1) v u → OutA Γ φ1 ρ T1 H1 (f v T1) Q → Q' u H1) →
        OutG Γ (fun _ _ _ _ => False) σ φ ρ T H (RV Γ) r Q' := fun {r f φ ρ T H Q'} rs o k => by
      cases r with
      | ok v T' => exact fun φ' H' u l rs' r => k φ' T' H' v u rs' (l.up rs) r (OutA.step l o)
      | ex x T' => exact o.elim
      | bad => exact o.elim
    refine ⟨φ, ρ, T, s, rs, rl, go rs out fun φ1 T1 H1 ov x rs1 up1 r1 o1 => ⟨φ1, ρ, T1, s, rs1, rl.up up1, go rs1 o1 fun φ2 T2 H2 iv y rs2 up2 r2 o2 => ?_⟩⟩
    refine ⟨φ2, ρ, T2, ov, iv, p, rs2, r1.up up2, r2, (rv.up up1).up up2, ?_⟩
    rw [hk]
    cases e : subP C.kc ov iv p T2 with
    | ok z T3 =>
      rw [e] at o2
      exact fun φ3 H3 u l rs3 _ => o2 φ3 H3 σ l rs3 (((rl.up up1).up up2).up (l.up rs2))
    | ex _ _ => rw [e] at o2; exact o2.elim
    | bad => rw [e] at o2; exact o2.elim

/-! blocks -/
theorem ss_nil : PSs X [] (tSs Γ W C []) := PSs_of pss_nil fun D σ H ⟨φ, ρ, T, s, rs, rl, o⟩ => by
  change OutS Γ W φ ρ T H (.nx s T) D at o
  exact o.nx rs rl
theorem evSs_cons (st : St) (ss : List St) (s : Slots) (T : Store) : evSs C (st :: ss) s T = match evS C st s T with
    | .nx σ' T' => evSs C ss σ' T'
    | r => r := rfl
theorem seq_of {D : Ends} {r : R} {φ ρ : List Addr} {T : Store} {H : Hp} (rs : RS Γ H φ ρ T) (o : OutS Γ W φ ρ T H (match r with
    | .nx σ' T' => evSs C rest' σ' T'
    | r => r) D) : OutS Γ W φ ρ T H r { D with nx := tSs Γ W C rest' D } := by
  cases r with
  | nx s' T' => exact fun φ' H' σ' l rs' rl => ⟨φ', ρ, T', s', rs', rl, o.step l⟩
  | _ => exact o
theorem ss_cons (h1 : PS X st (tS Γ W C st')) (h2 : PSs X rest (tSs Γ W C rest')) : PSs X (st :: rest) (tSs Γ W C (st' :: rest')) :=
  PSs_of (pss_cons h1 h2) fun D σ H ⟨φ, ρ, T, s, rs, rl, o⟩ => by
    rw [evSs_cons] at o
    exact ⟨φ, ρ, T, s, rs, rl, seq_of rs o⟩
/-- nothing is run: what changes, changes in our eyes alone -/
theorem ss_ghost (hg : ∀ {φ ρ : List Addr} {T : Store} {H : Hp} {σ : L2.St} {s : Slots} {D : Ends}, RS Γ H φ ρ T → RL Γ H φ (MM φ ρ T) σ s → OutS Γ W φ ρ T H (match evS C st' s T with
    | .nx σ' T' => evSs C rest' σ' T'
    | r => r) D → tSs Γ W C rest' D σ H) (h2 : PSs X rest (tSs Γ W C rest')) : PSs X rest (tSs Γ W C (st' :: rest')) :=
  PSs_of h2 fun D σ H ⟨φ, ρ, T, s, rs, rl, o⟩ => by
    rw [evSs_cons] at o
    exact hg rs rl o

/-! simple statements -/
theorem s_ret (he : PE X e (tE Γ W C e')) : PS X (.Return (some e) pos) (tS Γ W C (.ret e')) :=
  PS_of (ps_ret he) fun D σ H ⟨φ, ρ, T, s, rs, rl, o⟩ => by
    change OutS Γ W φ ρ T H ((evE C e' s T).then s fun v T => .rt v T) D at o
    exact ⟨φ, ρ, T, s, rs, rl, o.then rs rl fun φ1 T1 H1 v u rs1 rl1 up r o1 => o1.rt rs1 r⟩
theorem s_retN : PS X (.Return none pos) (tS Γ W C .retN) :=
  PS_of ps_retN fun D σ H ⟨φ, ρ, T, s, rs, rl, o⟩ => by
    change OutS Γ W φ ρ T H (.rt .non T) D at o
    exact o.rt rs (by rw [RV])
theorem s_pass : PS X (.Pass pos) (tS Γ W C .pass) :=
  PS_of ps_pass fun D σ H ⟨φ, ρ, T, s, rs, rl, o⟩ => by
    change OutS Γ W φ ρ T H (.nx s T) D at o
    exact o.nx rs rl
theorem s_brk : PS X (.Break pos) (tS Γ W C .brk) :=
  PS_of ps_break fun D σ H ⟨φ, ρ, T, s, rs, rl, o⟩ => by
    change OutS Γ W φ ρ T H (.bk s T) D at o
    exact o φ H σ Le.refl rs rl
theorem s_cnt : PS X (.Continue pos) (tS Γ W C .cnt) :=
  PS_of ps_continue fun D σ H ⟨φ, ρ, T, s, rs, rl, o⟩ => by
    change OutS Γ W φ ρ T H (.ct s T) D at o
    exact o φ H σ Le.refl rs rl
theorem s_exp (he : PE X e (tE Γ W C e')) (hs : swapsWith e none pos.line X.env = pure false := by rfl) : PS X (.Expr e pos) (tS Γ W C (.exp e')) :=
  PS_of (ps_expr he hs) fun D σ H ⟨φ, ρ, T, s, rs, rl, o⟩ => by
    change OutS Γ W φ ρ T H ((evE C e' s T).then s fun _ T => .nx s T) D at o
    exact ⟨φ, ρ, T, s, rs, rl, o.then rs rl fun φ1 T1 H1 v u rs1 rl1 up r o1 => o1.nx rs1 rl1⟩
theorem s_doc {x : Str} {j : Nat} : PS X (.Expr (.Constant (.str x) j pos) pos') (tS Γ W C .pass) :=
  PS_of ps_doc fun D σ H ⟨φ, ρ, T, s, rs, rl, o⟩ => by
    change OutS Γ W φ ρ T H (.nx s T) D at o
    exact o.nx rs rl
theorem then_assoc {α β : Type} (r : Ro α) (f : α → Store → Ro β) (s : Slots) (g : β → Store → R) : (r.bind f).then s g = r.then s fun a T => (f a T).then s g := by cases r <;> rfl
theorem s_if (hc : PT X c (tT Γ W C c')) (ha : PSs X a (tSs Γ W C a')) (hb : PSs X b (tSs Γ W C b')) : PS X (.If c a b pos) (tS Γ W C (.ife c' a' b')) :=
  PS_of (ps_if hc ha hb) fun D σ H ⟨φ, ρ, T, s, rs, rl, o⟩ => by
    change OutS Γ W φ ρ T H ((evE C c' s T).then s fun v T => (truP v T).then s fun k T => if k then evSs C a' s T else evSs C b' s T) D at o
    rw [← then_assoc] at o
    refine ⟨φ, ρ, T, s, rs, rl, o.then rs rl fun φ1 T1 H1 v u rs1 rl1 up r o1 => ?_⟩
    cases (show v = u from r)
    cases v with
    | true => exact ⟨φ1, ρ, T1, s, rs1, rl1, o1⟩
    | false => exact ⟨φ1, ρ, T1, s, rs1, rl1, o1⟩
theorem asg_of {D : Ends} {σ : L2.St} {H : Hp} (h : tS Γ W C (.asg tg' e') D σ H) : tE Γ W C e' σ H fun x H1 => tG Γ C tg' x σ H1 fun σ' H' => D.nx σ' H' := by
  obtain ⟨φ, ρ, T, s, rs, rl, o⟩ := h
  change OutS Γ W φ ρ T H ((evE C e' s T).then s fun v T => (noEx (asgT C tg' v s T)).then s fun σ' T => .nx σ' T) D at o
  refine ⟨φ, ρ, T, s, rs, rl, o.then rs rl fun φ1 T1 H1 v u rs1 rl1 up r o1 => ⟨φ1, ρ, T1, s, v, rs1, rl1, r, ?_⟩⟩
  have o2 := OutA.of_noEx o1
  cases e : asgT C tg' v s T1 with
  | ok s' T' =>
    rw [e] at o2
    intro φ2 H2 σ2 l rs2 rl2
    obtain ⟨φ3, s3, T3, e3, rs3, rl3, o3⟩ := o2 φ2 H2 σ2 l rs2 rl2
    exact o3.nx rs3 rl3
  | ex _ _ => rw [e] at o2; exact o2.elim
  | bad => rw [e] at o2; exact o2.elim
theorem s_set {j : Nat} {x : Str} {px : Pos} (hp : ∀ σ, Γ.psi σ) (hN : X.N.Nodup) (hi : X.N[j]? = some x) (hx : Loc X.env.scope x) (he : PE X e (tE Γ W C e')) (hs : swapsWith e (some (.Name x px)) pos.line X.env = pure false := by rfl) (hf : X.fn x = true ∨ X.env.scope.names.lookup x = some .local := by first | exact .inl rfl | exact .inr rfl | assumption) :
    PS X (.Assign [.Name x px] e pos) (tS Γ W C (.asg (.var j) e')) :=
  PS_of (ps_set hN hi hx he hs hf) fun D σ H h => by
    obtain ⟨φ, ρ, T, s, rs, rl, o⟩ := asg_of h
    refine ⟨φ, ρ, T, s, rs, rl, o.imp fun x H1 ⟨φ1, ρ1, T1, s1, p, rs1, rl1, rv, o1⟩ => ?_⟩
    change OutA Γ φ1 ρ1 T1 H1 (.ok (s1.set j (some p)) T1) _ at o1
    exact o1.here rs1 (rl1.set rv hp)
theorem s_asg (he : PE X e (tE Γ W C e')) (hg : PG X tg (tG Γ C tg')) (hs : swapsWithSole [tg] e pos.line X.env = pure false := by rfl) (hw : swappedStores [tg] e X.env = pure none := by rfl)
    (h1 : (assignEach [tg] X.env).map (·.2) = [assign tg X.env] := by rfl) : PS X (.Assign [tg] e pos) (tS Γ W C (.asg tg' e')) :=
  PS_of (ps_asg he hg hs hw h1) fun D σ H h => by
    obtain ⟨φ, ρ, T, s, rs, rl, o⟩ := asg_of h
    exact ⟨φ, ρ, T, s, rs, rl, o.imp fun x H1 h1 => h1⟩
theorem s_par {j n : Nat} {x y : Str} {ea eb : Expr} {ea' eb' : Ex} {px py : Pos} {kt k2 : Nat} {pt2 : Pos} (hp : ∀ σ, Γ.psi σ) (hc : X.calm = true) (hN : X.N.Nodup) (hi : X.N[j]? = some x) (hj : X.N[n]? = some y) (hij : j ≠ n)
    (hx : X.env.scope.names.lookup x = some .local) (hy : X.env.scope.names.lookup y = some .local) (ha : PA X [ea, eb] (tL Γ W C [ea', eb']))
    (hw : swappedStores [.Tuple [.Name x px, .Name y py] kt pt] (.Tuple [ea, eb] k2 pt2) X.env = pure (some [x, y]))
    (hs : swapsWithSole [.Tuple [.Name x px, .Name y py] kt pt] (.Tuple [ea, eb] k2 pt2) pos.line X.env = pure false := by rfl) :
    PS X (.Assign [.Tuple [.Name x px, .Name y py] kt pt] (.Tuple [ea, eb] k2 pt2) pos) (tS Γ W C (.par j n ea' eb')) :=
  PS_of (ps_par hc hN hi hj hij hx hy ha hw hs) fun D σ H ⟨φ, ρ, T, s, rs, rl, o⟩ => by
    change OutS Γ W φ ρ T H ((evE C ea' s T).then s fun v T => (evE C eb' s T).then s fun w T => .nx ((s.set j (some v)).set n (some w)) T) D at o
    have e : ((evE C ea' s T).then s fun v T => (evE C eb' s T).then s fun w T => .nx ((s.set j (some v)).set n (some w)) T) = (evL C [ea', eb'] s T).then s fun vs T => match vs with
        | [v, w] => .nx ((s.set j (some v)).set n (some w)) T
        | _ => .bad := by
      show _ = ((evE C ea' s T).bind fun v T => (evL C [eb'] s T).bind fun vs T => .ok (v :: vs) T).then s _
      cases evE C ea' s T with
      | ok v T1 =>
        show (evE C eb' s T1).then s _ = (((evE C eb' s T1).bind fun w T => (Ro.ok [] T : Ro (List PV)).bind fun vs T => .ok (w :: vs) T).bind fun vs T => .ok (v :: vs) T).then s _
        cases evE C eb' s T1 <;> rfl
      | ex _ _ => rfl
      | bad => rfl
    rw [e] at o
    refine ⟨φ, ρ, T, s, rs, rl, o.then rs rl fun φ1 T1 H1 vs us rs1 rl1 up r o1 => ?_⟩
    match vs, o1, r with
    | [v, w], o1, r =>
      obtain ⟨x, y, e, r1, r2⟩ := rvs2 r
      exact ⟨x, y, e, o1.nx rs1 ((rl1.set r1 hp).set r2 hp)⟩
    | [], o1, _ => exact o1.elim
    | [_], o1, _ => exact o1.elim
    | _ :: _ :: _ :: _, o1, _ => exact o1.elim
/-- a op= b, ints -/
def rIp (Γ : SE) (p : Pr) : TIp := fun x y H Q => ∃ φ ρ T i j, RS Γ H φ ρ T ∧ x = .int i ∧ y = .int j ∧ OutP Γ φ ρ T H (evP Γ.kc p [.int i, .int j] T) Q
theorem ip_add' : PIp X .Add (rIp Γ (.add false)) := fun pins s σ H x y v u Q I rx ry ⟨φ, ρ, T, i, j, rs, e1, e2, o⟩ => ip_add pins s σ H x y v u Q I rx ry ⟨i, j, e1, e2, OutP.int (i := i + j) rs o⟩
theorem ip_sub' : PIp X .Sub (rIp Γ .sub) := fun pins s σ H x y v u Q I rx ry ⟨φ, ρ, T, i, j, rs, e1, e2, o⟩ => ip_sub pins s σ H x y v u Q I rx ry ⟨i, j, e1, e2, OutP.int (i := i - j) rs o⟩
theorem aug_of {v w : PV} {x y : V} {T : Store} {H : Hp} {φ ρ : List Addr} {s : Slots} {f : PV → Store → R} {D : Ends} {Q' : VK} {σ : L2.St} (hk : Γ.kc = C.kc) (rs : RS Γ H φ ρ T) (rl : RL Γ H φ (MM φ ρ T) σ s) (r1 : RV Γ H φ (MM φ ρ T) v x) (r2 : RV Γ H φ (MM φ ρ T) w y) (o : OutS Γ W φ ρ T H ((augP C.kc p v w T).then s f) D)
    (k : ∀ φ1 T1 H1 v u, RS Γ H1 φ1 ρ T1 → RL Γ H1 φ1 (MM φ1 ρ T1) σ s → Up H φ (MM φ ρ T) H1 φ1 (MM φ1 ρ T1) → RV Γ H1 φ1 (MM φ1 ρ T1) v u → OutS Γ W φ1 ρ T1 H1 (f v T1) D → Q' u H1) : rIp Γ p x y H Q' := by
  have o1 := o.then (rel := RV Γ) rs rl k
  cases v with
  | int i =>
    cases w with
    | int j =>
      refine ⟨φ, ρ, T, i, j, rs, rv_int r1, rv_int r2, ?_⟩
      rw [hk]
      exact OutG.toP (W := W) (σ := σ) o1
    | _ => exact o1.elim
  | _ => exact o1.elim
theorem s_aug {op : Operator} {j : Nat} {x : Str} {px : Pos} (hk : Γ.kc = C.kc) (hp : ∀ σ, Γ.psi σ) (hN : X.N.Nodup) (hi : X.N[j]? = some x) (hx : Loc X.env.scope x) (ho : PIp X op (rIp Γ p)) (he : PE X e (tE Γ W C e')) (hf : X.fn x = true ∨ X.env.scope.names.lookup x = some .local := by first | exact .inl rfl | exact .inr rfl | assumption) :
    PS X (.AugAssign (.Name x px) op e pos) (tS Γ W C (.aug p j e')) :=
  PS_of (ps_aug hN hi hx he ho hf) fun D σ H ⟨φ, ρ, T, s, rs, rl, o⟩ => by
    change OutS Γ W φ ρ T H ((getV s j T).then s fun v T => (evE C e' s T).then s fun w T => (augP C.kc p v w T).then s fun z T => .nx (s.set j (some z)) T) D at o
    unfold getV at o
    split at o
    · rename_i v hv
      obtain ⟨u, hu, ru⟩ := rl.2.1 j v hv
      change OutS Γ W φ ρ T H ((evE C e' s T).then s fun w T => (augP C.kc p v w T).then s fun z T => .nx (s.set j (some z)) T) D at o
      refine ⟨u, hu, φ, ρ, T, s, rs, rl, o.then rs rl fun φ1 T1 H1 w y rs1 rl1 up r o1 => ?_⟩
      exact aug_of hk rs1 rl1 (ru.up up) r o1 fun φ2 T2 H2 z zz rs2 rl2 up2 rz o2 => o2.nx rs2 (rl2.set rz hp)
    · exact o.elim
theorem s_raise {t : L2.St → Hp → XK → Prop} {n : Nat} (hn : Γ.isx n = true) (hc : X.calm = true) (tk : Takes X W) (he : PMk X e t) (ht : ∀ σ H Q, Q (.ref (Γ.cls n)) none H → t σ H Q) : PS X (.Raise (some e) none pos) (tS Γ W C (.raise n)) :=
  PS_of (ps_raise hc tk he) fun D σ H ⟨φ, ρ, T, s, rs, rl, o⟩ => by
    change OutS Γ W φ ρ T H (.ex ⟨n, []⟩ s T) D at o
    exact ht _ _ _ (o φ H σ _ _ Le.refl rs rl ⟨rfl, rfl, rfl, hn⟩)
end
end E
set_option Elab.async false
set_option linter.all false
set_option autoImplicit false
set_option maxRecDepth 100000
set_option maxHeartbeats 1000000
/-! Part T: enumerate over a tuple. -/
namespace E
open PySem PySem.Spec PyProof.Rows L2
open AutoSeq1 (wpAny_loadPart')

theorem new_enum_tup (l : Addr) (items : Array Value) (n : Nat) (dct : Option Addr) (sl : Array (Option Value)) :
    Meets (Builtin.«enumerate.__new__» ⟨[.type "enumerate", .ref l], []⟩) (fun _ R s => s.heap.get? l = some { cls := .type "tuple", dict := dct, data := .seq items n, slots := sl } ∧
      R (.ok (.ret (.ref (s.heap.push { cls := .type "tuple_iterator", data := .fields #[.ref l, .int 0 0] }).objs.size)))
        { s with heap := (s.heap.push { cls := .type "tuple_iterator", data := .fields #[.ref l, .int 0 0] }).push { cls := .type "enumerate", data := .fields #[.none, .bool false, .ref s.heap.objs.size, rawInt 0, .none, .none] } }) :=
  .of_wp fun prog w A R s h => by
    obtain ⟨hp, g, d, tk, os⟩ := s; obtain ⟨hl, h⟩ := h
    have hsub := sub_enumerate
    have hL : Heap.IsTuple (Shared.heap ⟨hp, g, d, tk, os⟩) l items := ⟨_, hl, rfl, n, rfl⟩
    wp_walk using wpAny_loadPart' hl
    refine wpAny_stack_any fun st => wpAny_pure ?_
    split
    · rename_i c _ _ _ _ _
      cases (c == Value.type "enumerate")
      · wp_walk using wpAny_loadPart' hl, wpAny_pyIter_tuple hL
        exact ⟨_, rfl, h⟩
      · wp_walk using wpAny_loadPart' hl, wpAny_pyIter_tuple hL
        exact ⟨_, rfl, h⟩
    · wp_walk using wpAny_loadPart' hl, wpAny_pyIter_tuple hL
      exact ⟨_, rfl, h⟩
section
variable {prog : Program} {w : World} {A : Around} {EE : Value → Shared → Prop} {s : Shared}
theorem call_enum_tup {l : Addr} {items : Array Value} {Q : Value → Shared → Prop} (hL : s.heap.IsTuple l items)
    (h : ∀ h', IsEnum h' (s.heap.objs.size + 1) s.heap.objs.size 0 .none → h'.IsTupleIter s.heap.objs.size l 0 → h'.objs.size = s.heap.objs.size + 2 →
      (∀ b o, s.heap.get? b = some o → h'.get? b = some o) → Q (.ref (s.heap.objs.size + 1)) { s with heap := h' }) :
    wpAny (model prog w) A (call (.type "enumerate") [.ref l]) Q EE s := by
  obtain ⟨⟨c, dct, dt, sl⟩, hl, hc, n, hd⟩ := hL
  replace hc : c = .type "tuple" := hc
  replace hd : dt = .seq items n := hd
  subst hc hd
  refine callType_new PySem.F.called_enumerate (by decide) (PySem.F.typeCall_enumerate_1 _) (PySem.F.newCall_enumerate_1 _) (fun obj => PySem.F.args_object_init_2 obj _) PySem.F.entry_enumerate_new
    (new_enum_tup l items n dct sl) ⟨hl, ?_⟩
  have hz : (s.heap.push { cls := .type "tuple_iterator", data := .fields #[.ref l, .int 0 0] }).objs.size = s.heap.objs.size + 1 := Heap.size_push ..
  show _ ∧ _
  rw [hz]
  have he : IsEnum ((s.heap.push { cls := .type "tuple_iterator", data := .fields #[.ref l, .int 0 0] }).push
      { cls := .type "enumerate", data := .fields #[.none, .bool false, .ref s.heap.objs.size, rawInt 0, .none, .none] }) (s.heap.objs.size + 1) s.heap.objs.size 0 .none := by
    have := Heap.get?_push_size (s.heap.push { cls := .type "tuple_iterator", data := .fields #[.ref l, .int 0 0] })
      (o := { cls := .type "enumerate", data := .fields #[.none, .bool false, .ref s.heap.objs.size, rawInt 0, .none, .none] }) rfl
    rw [hz] at this; exact this
  refine ⟨⟨_, he, rfl⟩, h _ he ⟨_, Heap.get?_push_of_some _ (Heap.get?_push_size _ rfl), rfl, rfl⟩ (by rw [Heap.size_push, hz]) fun b o x => Heap.get?_push_of_some _ (Heap.get?_push_of_some _ x)⟩
end
/-- a tuple's items in new pairs -/
def IteT (K : PySem.W.Frag) (a : Addr) : L2.It :=
  ⟨fun i H => ∃ (xs : List V) (x : V), SqT K H a xs ∧ xs[i]? = some x, fun i H v H' => ∃ T x, v = .ref T ∧ H T = none ∧ H' = upd H T (.tup [.int (i : Nat), x]) ∧ ∀ xs, SqT K H a xs → xs[i]? = some x, fun i H => ∃ xs : List V, SqT K H a xs ∧ xs.length ≤ i⟩
theorem turn_enumT {P : Program} {w : World} {K : PySem.W.Frag} {elts : List Expr} {kk : Nat} {tpos : Pos} (a e it : Addr) :
    Turn P w K (.Tuple elts kk tpos) (IteT K a) [e, it] e (fun i h => (∃ old, IsEnum h e it ((i : Nat) : Int) old) ∧ h.IsTupleIter it a i ∧ e ≠ it) where
  mem := by simp
  obj := fun i h st b hb => by
    obtain ⟨⟨old, he⟩, ⟨o, ho, hc, hd⟩, _⟩ := st
    have e' : b = e ∨ b = it := by simpa using hb
    rcases e' with z | z
    · rw [z]; exact ⟨_, he, fun v q => nomatch q⟩
    · rw [z]; exact ⟨o, ho, fun v q => by rw [hd] at q; cases q⟩
  keep := fun i h h' st k => let ⟨⟨old, he⟩, hi, hne⟩ := st; ⟨⟨old, k e (by simp) _ he⟩, hi.at fun o q => k it (by simp) o q, hne⟩
  item := by
    intro X hP hw hK hc i pins s σ H EE I hf st hg
    subst hP hw hK
    obtain ⟨⟨old, he⟩, hit, hne⟩ := st
    obtain ⟨xs, x, hq, hx⟩ := hg
    obtain ⟨its, rv, p, hz⟩ := I.tuple hq
    obtain ⟨u, hu, ru⟩ := rv.get hx
    have hel : e < s.heap.objs.size := Heap.lt_size he
    have hil : it < s.heap.objs.size := by obtain ⟨_, q, _⟩ := hit; exact Heap.lt_size q
    have hai : a ≠ it := by
      rintro rfl
      obtain ⟨o1, q1, c1, _⟩ := hit
      obtain ⟨o2, q2, c2, _⟩ := p
      rw [q1] at q2; cases q2
      rw [c1] at c2
      exact absurd c2 (by decide)
    have hea : e ≠ a := by
      rintro rfl
      obtain ⟨o2, q2, c2, _⟩ := p
      rw [show s.heap.get? e = some _ from he] at q2; cases q2
      exact absurd (show Value.type "enumerate" = Value.type "tuple" from c2) (by decide)
    have D := Draws.tuple (prog := X.prog) (w := X.w) (A := X.A.in1) (I.ok.hd hc) it a hai its.toArray
    have hu' : its.toArray[i]? = some u := by simpa using hu
    refine wpAny_pyNext_enum_itemD D he ⟨hit, p⟩ (Array.getElem?_eq_some_iff.mp hu').1 hne (by simp [hne, hea]) fun y h' tk hy ho hit' hT hsz hk => ?_
    have ey : y = u := by
      have : its.toArray[i]? = some y := hy
      rw [hu'] at this
      exact (Option.some.inj this).symm
    subst ey
    refine ⟨_, rfl, wpAny_letOwnedTupleGo_enum (s := { s with heap := h', toks := tk + 1 }) ho fun h'' he' sb => ?_⟩
    have hT2 : h''.get? s.heap.objs.size = some { cls := .type "tuple", data := .seq #[.int i tk, y] } := (sb.2 _ (Nat.ne_of_gt hel)).trans hT
    have new : ObjOk X.prog X.w (upd H s.heap.objs.size (.tup [.int (i : Nat), x])) h'' s.heap.objs.size (.tup [.int (i : Nat), x]) :=
      ⟨by show 2 ≤ sizeLine; decide, [.int i tk, y], .cons ⟨_, rfl⟩ (.cons ru .nil), ⟨_, hT2, rfl, _, rfl⟩⟩
    have I1 : Inv X pins σ (upd H s.heap.objs.size (.tup [.int (i : Nat), x])) { s with heap := h'', toks := tk + 1 } :=
      I.turnedNew (ch := [e, it]) (fun b ob hb q => (sb.2 b (fun z => hb (by simp [z]))).trans (hk b ob (fun z => hb (by simp [z])) (fun z => hb (by simp [z])) q)) hf (Nat.le_refl _) new
    refine ⟨.ref s.heap.objs.size, _, I1, rfl, ⟨_, x, rfl, I.hok.fresh (Nat.le_refl _), rfl, fun ys hy => by rw [I.tuple_inj hy hq]; exact hx⟩, ⟨⟨y, ?_⟩, hit'.1.at fun o q => (sb.2 it (Ne.symm hne)).trans q, hne⟩, fun b hb => ?_⟩
    · have e1 : ((i + 1 : Nat) : Int) = (i : Int) + 1 := by omega
      rw [e1]; exact he'
    · have hb' : b < s.heap.objs.size := by
        have e' : b = e ∨ b = it := by simpa using hb
        rcases e' with z | z
        · rw [z]; exact hel
        · rw [z]; exact hil
      rw [upd_ne (Nat.ne_of_lt hb')]
      exact (hf b hb).1
  done := by
    intro X hP hw hK hc i pins s σ H EE I hf st hg
    subst hP hw hK
    obtain ⟨⟨old, he⟩, hit, hne⟩ := st
    obtain ⟨xs, hq, hx⟩ := hg
    obtain ⟨its, rv, p, hz⟩ := I.tuple hq
    obtain ⟨f0, f1, f2, f3, f4, f5⟩ := hf it (by simp)
    have hl := rv.length
    have hT : s.TypeIs (.ref e) "enumerate" := ⟨_, he, rfl⟩
    unfold pyNext
    refine wpAny_bind (wpAny_attempt (wpAny_callSpecial?_slot (name := Str.ofString "__next__") hT PySem.F.slot_enumerate_next
      (wpAny_call_entry PySem.F.slot_enumerate_next hT PySem.F.entry_enumerate_next ?_ (PySem.F.args_enumerate_next_1 _))))
    show wpAny _ _ (field (.ref e) 2 >>= _) _ _ _
    refine wpAny_bind (wpAny_field he rfl (x := .ref it) rfl ?_)
    refine wpAny_bind (PySem.wpAny_nextOf_tuple_end (A := X.A.in1) (I.ok.hd hc) hit p (by simp; omega) fun h' x he' hx' => ?_)
    obtain ⟨o, ho, hcx⟩ := hx'
    refine wpAny_bind (wpAny_isInstance (T := "StopIteration") (b := true) ⟨o, ho, hcx⟩ isSubtype_stop ?_)
    exact wpAny_pure ⟨rfl, I.turned (t' := s.toks) (fun b o hb q => he' b o hb q) f0 f1 f3 f4 f5⟩
  self := fun A i s Q EE st h => let ⟨⟨_, he⟩, _⟩ := st; wpAny_pyIter_enum he h
def iEnumT (K : PySem.W.Frag) (ta : TA) : TI := fun σ H R => ta σ H fun vs H1 => ∃ a xs, vs = [.ref a] ∧ SqT K H1 a xs ∧ R (IteT K a) H1
theorem pi_enumT {X : Cx} {e : Expr} {ta : TA} {p pos tpos : Pos} {elts : List Expr} {kk : Nat} (hg : Gl X "enumerate") (hm : X.mg "enumerate" = none) (ha : PA X [e] ta) (hs : starEach [e] X.env = [(false, eval e X.env)] := by rfl) :
    PI X (.Tuple elts kk tpos) (.Call (.Name "enumerate" p) [e] [] pos) (iEnumT X.K ta) := by
  refine ⟨fun pins s σ H R I h => ?_⟩
  refine Call_ (ld_blt I hg hm boot_enumerate (PyProof.Rows.callWith_type1 (thn (ha.run pos pins s σ H _ I h) fun us s1 ⟨vs, H1, I1, r1, q1⟩ => ?_) hs rfl))
  obtain ⟨a, xs, ex, hq, q⟩ := q1
  subst ex
  cases r1 with
  | cons r rr =>
    cases rr
    cases r
    obtain ⟨its, rv, p', hz⟩ := I1.tuple hq
    refine call_enum_tup p' fun h' he hit hsz hk => wpAny_pyIter_enum he ?_
    have I2 : Inv X pins σ H1 { s1 with heap := h' } := I1.kept (t' := s1.toks) hk
    refine ⟨s1.heap.objs.size + 1, [s1.heap.objs.size + 1, s1.heap.objs.size], _, _, H1, rfl, I2, turn_enumT a (s1.heap.objs.size + 1) s1.heap.objs.size, ⟨⟨.none, he⟩, hit, Nat.succ_ne_self _⟩, fun b hb => ?_, q⟩
    have e' : b = s1.heap.objs.size + 1 ∨ b = s1.heap.objs.size := by simpa using hb
    have hle : s1.heap.objs.size ≤ b := by
      rcases e' with z | z
      · rw [z]; exact Nat.le_succ _
      · rw [z]; exact Nat.le_refl _
    exact I1.fpOk hle (I1.hok.fresh hle)
end E
set_option Elab.async false
set_option linter.all false
set_option autoImplicit false
set_option maxRecDepth 100000
set_option maxHeartbeats 1000000
/-! Part 16: what is walked; for, while, fields, try. -/
namespace E
open PySem PySem.Spec PyProof.Rows L2

/-- what an iterator will hand out, as long as what it walks stands -/
def ItOk (Γ : SE) (H : Hp) (φ : List Addr) (M : Addr → Prop) (sx : Src × List PV) (J : L2.It) : Prop := ∀ (φ' ρ' : List Addr) (T' : Store) (H' : Hp), Up H φ M H' φ' (MM φ' ρ' T') → RS Γ H' φ' ρ' T' → grd sx.1 T' →
  (∀ (i : Nat) p, sx.2[i]? = some p → J.go i H' ∧ ∀ x H'', J.yld i H' x H'' → ∃ φ'', Le φ' T' H' φ'' T' H'' ∧ RS Γ H'' φ'' ρ' T' ∧ RV Γ H'' φ'' (MM φ'' ρ' T') p x) ∧ ∀ i, sx.2.length ≤ i → J.stop i H'
def tI (Γ : SE) (W : WX) (C : Ctx) (it : It) : TI := fun σ H R => ∃ φ ρ T s, RS Γ H φ ρ T ∧ RL Γ H φ (MM φ ρ T) σ s ∧ OutG Γ W σ φ ρ T H (ItOk Γ) (evI C it s T) R

section
variable {Γ : SE} {W : WX} {C : Ctx} {X : Cx} {σ σ' : L2.St} {φ ρ φ1 : List Addr} {T T1 : Store} {H H1 : Hp} {s s' : Slots} {M : Addr → Prop}
theorem src_dv {v ob : PV} {u : V} (rv : RV Γ H φ M v u) (e : dr T v = ob) {φ' ρ' : List Addr} {T' : Store} {H' : Hp} (up : Up H φ M H' φ' (MM φ' ρ' T')) (rs : RS Γ H' φ' ρ' T') (g : grd (srcOf v T) T') : DV Γ H' φ' (MM φ' ρ' T') ob u := by
  have r2 := rv.up up
  have d := dr_rv rs r2
  have e2 : dr T' v = ob := by
    cases v with
    | ref l =>
      have g' : T'[l]? = some (T.getD l dead) := g
      show T'.getD l dead = ob
      rw [List.getD_eq_getElem?_getD, g']
      exact e
    | _ => exact e
  rw [e2] at d
  exact d
theorem it_list {v : PV} {xs : List PV} {p : Addr} (hX : XG X Γ) (rv : RV Γ H φ M v (.ref p)) (e : dr T v = .lst xs) : ItOk Γ H φ M (srcOf v T, xs) (Itl X.K p) := fun φ' ρ' T' H' up rs g => by
  obtain ⟨q, vs, eq, h, r⟩ := src_dv rv e up rs g
  cases eq
  rw [← hX.K] at h
  refine ⟨fun i x hx => ?_, fun i hi => ⟨vs, h, by rw [r.length]; exact hi⟩⟩
  obtain ⟨w, hw, rw1⟩ := r.get hx
  refine ⟨⟨vs, w, h, hw⟩, fun y H'' ⟨e1, e2⟩ => ?_⟩
  subst e1
  have := e2 vs h
  rw [hw] at this
  cases this
  exact ⟨φ', Le.refl, rs, rw1⟩
theorem it_tup {v : PV} {xs : List PV} {p : Addr} (hX : XG X Γ) (rv : RV Γ H φ M v (.ref p)) (e : dr T v = .tup xs) : ItOk Γ H φ M (srcOf v T, xs) (Itt X.K p) := fun φ' ρ' T' H' up rs g => by
  obtain ⟨q, vs, eq, h, r, _⟩ := src_dv rv e up rs g
  cases eq
  rw [← hX.K] at h
  refine ⟨fun i x hx => ?_, fun i hi => ⟨vs, h, by rw [r.length]; exact hi⟩⟩
  obtain ⟨w, hw, rw1⟩ := r.get hx
  refine ⟨⟨vs, w, h, hw⟩, fun y H'' ⟨e1, e2⟩ => ?_⟩
  subst e1
  have := e2 vs h
  rw [hw] at this
  cases this
  exact ⟨φ', Le.refl, rs, rw1⟩
theorem it_str {x : Str} (src : Src) : ItOk Γ H φ M (src, x.cps.toList.map fun c => .str (S [c])) (Its x) := fun φ' ρ' T' H' up rs g => by
  refine ⟨fun i p hp => ?_, fun i hi => ?_⟩
  · rw [List.getElem?_map] at hp
    obtain ⟨c, hc, ec⟩ := Option.map_eq_some_iff.mp hp
    have hc' : x.cps[i]? = some c := by simpa using hc
    refine ⟨(Array.getElem?_eq_some_iff.mp hc').1, fun y H'' ⟨e1, c', h1, h2⟩ => ?_⟩
    subst e1
    rw [hc'] at h1; cases h1
    exact ⟨φ', Le.refl, rs, by rw [← ec, RV]; exact h2⟩
  · show x.cps.size ≤ i
    simpa using hi
theorem it_range {lo : Int} {n : Nat} (src : Src) : ItOk Γ H φ M (src, (List.range n).map fun (k : Nat) => .int (lo + k)) (Itr lo n) := fun φ' ρ' T' H' up rs g => by
  refine ⟨fun i p hp => ?_, fun i hi => ?_⟩
  · rw [List.getElem?_map] at hp
    obtain ⟨c, hc, ec⟩ := Option.map_eq_some_iff.mp hp
    obtain ⟨hl, e⟩ := List.getElem?_eq_some_iff.mp hc
    rw [List.getElem_range] at e
    subst e
    refine ⟨(by simpa using hl : i < n), fun y H'' ⟨e1, h2⟩ => ?_⟩
    subst e1
    exact ⟨φ', Le.refl, rs, by rw [← ec, RV]; exact h2⟩
  · show n ≤ i
    simpa using hi
theorem it_rev {v : PV} {xs : List PV} {p : Addr} (hX : XG X Γ) (rv : RV Γ H φ M v (.ref p)) (e : dr T v = .lst xs) : ItOk Γ H φ M (srcOf v T, xs.reverse) (Itv X.K p xs.length) := fun φ' ρ' T' H' up rs g => by
  obtain ⟨q, vs, eq, h, r⟩ := src_dv rv e up rs g
  cases eq
  rw [← hX.K] at h
  refine ⟨fun i x hx => ?_, fun i hi => ?_⟩
  · have hl : i < xs.length := by
      have := (List.getElem?_eq_some_iff.mp hx).1
      simpa using this
    change xs.reverse[i]? = some x at hx
    rw [List.getElem?_reverse hl] at hx
    obtain ⟨w, hw, rw1⟩ := r.get hx
    refine ⟨⟨hl, vs, w, h, hw⟩, fun y H'' ⟨e1, e2⟩ => ?_⟩
    subst e1
    have := e2 vs h
    rw [hw] at this
    cases this
    exact ⟨φ', Le.refl, rs, rw1⟩
  · show xs.length ≤ i
    simpa using hi
theorem enumL_get : ∀ (xs : List PV) (k i : Nat), (enumL k xs)[i]? = xs[i]?.map fun x => .tup [.int (k + i : Nat), x]
  | [], _, _ => by simp [enumL]
  | x :: xs, k, 0 => by simp [enumL]
  | x :: xs, k, i + 1 => by
    rw [enumL, List.getElem?_cons_succ, List.getElem?_cons_succ, enumL_get xs (k + 1) i]
    have : k + 1 + i = k + (i + 1) := by omega
    rw [this]
theorem enumL_len : ∀ (xs : List PV) (k : Nat), (enumL k xs).length = xs.length
  | [], _ => rfl
  | x :: xs, k => by rw [enumL, List.length_cons, List.length_cons, enumL_len xs]
/-- a new pair is handed out -/
theorem new_tup {ps : List PV} {vs : List V} {t : Addr} (rs : RS Γ H φ ρ T) (r : RVs Γ H φ (MM φ ρ T) ps vs) (ht : H t = none) : ∃ φ'', Le φ T H φ'' T (upd H t (.tup vs)) ∧ RS Γ (upd H t (.tup vs)) φ'' ρ T ∧ RV Γ (upd H t (.tup vs)) φ'' (MM φ'' ρ T) (.tup ps) (.ref t) := by
  obtain ⟨l, rs1, up, n⟩ := lay0 rs ht (.tup vs)
  refine ⟨φ, l, rs1, ?_⟩
  rw [RV]
  exact ⟨t, vs, rfl, .inl ⟨upd_same, n⟩, r.up up⟩
theorem it_enum {v : PV} {xs : List PV} {p : Addr} (hX : XG X Γ) (rv : RV Γ H φ M v (.ref p)) (e : dr T v = .lst xs) : ItOk Γ H φ M (srcOf v T, enumL 0 xs) (Ite X.K p) := fun φ' ρ' T' H' up rs g => by
  obtain ⟨q, vs, eq, h, r⟩ := src_dv rv e up rs g
  cases eq
  rw [← hX.K] at h
  refine ⟨fun i x hx => ?_, fun i hi => ⟨vs, h, by rw [r.length]; rw [enumL_len] at hi; exact hi⟩⟩
  rw [enumL_get] at hx
  obtain ⟨y, hy, ey⟩ := Option.map_eq_some_iff.mp hx
  obtain ⟨w, hw, rw1⟩ := r.get hy
  refine ⟨⟨vs, w, h, hw⟩, fun z H'' ⟨t, w', e1, e2, e3, e4⟩ => ?_⟩
  have := e4 vs h
  rw [hw] at this
  cases this
  subst e1 e3
  rw [← ey, Nat.zero_add]
  exact new_tup rs (by rw [RVs]; exact ⟨.int i, [w], rfl, by rw [RV], RVs.one rw1⟩) e2
theorem zipL_get : ∀ (xs ys : List PV) (i : Nat) p, (zipL xs ys)[i]? = some p → ∃ x y, xs[i]? = some x ∧ ys[i]? = some y ∧ p = .tup [x, y]
  | [], _, i, p, h => by simp [zipL] at h
  | _ :: _, [], i, p, h => by simp [zipL] at h
  | x :: xs, y :: ys, 0, p, h => by
    simp [zipL] at h
    exact ⟨x, y, rfl, rfl, h.symm⟩
  | x :: xs, y :: ys, i + 1, p, h => by
    rw [zipL, List.getElem?_cons_succ] at h
    exact zipL_get xs ys i p h
theorem zipL_len : ∀ (xs ys : List PV), (zipL xs ys).length = min xs.length ys.length
  | [], _ => by simp [zipL]
  | _ :: _, [] => by simp [zipL]
  | x :: xs, y :: ys => by rw [zipL, List.length_cons, zipL_len xs ys, List.length_cons, List.length_cons]; omega
end

theorem PI_of {X : Cx} {tg it : Expr} {t t' : TI} (h : PI X tg it t) (i : ∀ σ H R, t' σ H R → t σ H R) : PI X tg it t' := ⟨fun pins s σ H R I q => h.run pins s σ H R I (i _ _ _ q)⟩
section
variable {Γ : SE} {W : WX} {C : Ctx} {X : Cx} {a b c tg : Expr} {a' b' c' : Ex} {pos pf : Pos} {es : List Expr} {es' : List Ex}
theorem rv_ref {H : Hp} {φ : List Addr} {M : Addr → Prop} {v : PV} {u : V} {xs : List PV} {T : Store} {ρ : List Addr} (rs : RS Γ H φ ρ T) (rv : RV Γ H φ (MM φ ρ T) v u) (e : dr T v = .lst xs ∨ dr T v = .tup xs) : ∃ p, u = .ref p := by
  have d := dr_rv rs rv
  rcases e with e | e <;> rw [e] at d <;> obtain ⟨p, _, e, _⟩ := d <;> exact ⟨p, e⟩
theorem i_seq (hX : XG X Γ) (ha : PE X a (tE Γ W C a')) : PI X tg a (tI Γ W C (.seq a')) := by
  refine ⟨fun pins s σ H R I ⟨φ, ρ, T, sl, rs, rl, o⟩ => ?_⟩
  change OutG Γ W σ φ ρ T H (ItOk Γ) ((evE C a' sl T).bind seqP) R at o
  cases e : evE C a' sl T with
  | bad => rw [e] at o; exact o.elim
  | ex x T' =>
    rw [e] at o
    exact (pi_list ha).run pins s σ H R I ⟨φ, ρ, T, sl, rs, rl, by rw [e]; exact o⟩
  | ok v T1 =>
    rw [e] at o
    change OutG Γ W σ φ ρ T H (ItOk Γ) (seqP v T1) R at o
    unfold seqP at o
    split at o
    · rename_i xs e1
      refine (pi_list ha).run pins s σ H R I ⟨φ, ρ, T, sl, rs, rl, ?_⟩
      rw [e]
      intro φ1 H1 u l rs1 rv
      have d := dr_rv rs1 rv
      rw [e1] at d
      obtain ⟨p, vs, ex, h, r⟩ := d
      subst ex
      exact ⟨p, rfl, ⟨vs, by rw [hX.K]; exact h⟩, o φ1 H1 _ l rs1 (it_list hX rv e1)⟩
    · rename_i xs e1
      refine (pi_tup ha).run pins s σ H R I ⟨φ, ρ, T, sl, rs, rl, ?_⟩
      rw [e]
      intro φ1 H1 u l rs1 rv
      have d := dr_rv rs1 rv
      rw [e1] at d
      obtain ⟨p, vs, ex, h, r⟩ := d
      subst ex
      exact ⟨p, rfl, ⟨vs, by rw [hX.K]; exact h⟩, o φ1 H1 _ l rs1 (it_tup hX rv e1)⟩
    · rename_i x e1
      refine (pi_str ha).run pins s σ H R I ⟨φ, ρ, T, sl, rs, rl, ?_⟩
      rw [e]
      intro φ1 H1 u l rs1 rv
      have d := dr_rv rs1 rv
      rw [e1] at d
      exact ⟨x, d, o φ1 H1 _ l rs1 (it_str none)⟩
    · exact o.elim
theorem evL_len : ∀ (es' : List Ex) (s : Slots) (T : Store) vs T', evL C es' s T = .ok vs T' → vs.length = es'.length
  | [], s, T, vs, T', e => by cases e; rfl
  | a :: es, s, T, vs, T', e => by
    change ((evE C a s T).bind fun v T => (evL C es s T).bind fun vs T => .ok (v :: vs) T) = .ok vs T' at e
    cases e1 : evE C a s T with
    | ok v T1 =>
      rw [e1, Ro.bind_ok] at e
      cases e2 : evL C es s T1 with
      | ok ws T2 =>
        rw [e2] at e
        cases e
        simp [evL_len es s T1 _ _ e2]
      | ex _ _ => rw [e2] at e; cases e
      | bad => rw [e2] at e; cases e
    | ex _ _ => rw [e1] at e; cases e
    | bad => rw [e1] at e; cases e
theorem OutG.bindE {α β γ δ : Type} {σ : L2.St} {φ ρ : List Addr} {T : Store} {H : Hp} {rel : Rel α β} {rel' : Rel γ δ} {r : Ro α} {f : α → Store → Ro γ} {Q : δ → Hp → Prop} {Q' : β → Hp → Prop} (rs : RS Γ H φ ρ T) (o : OutG Γ W σ φ ρ T H rel' (r.bind f) Q)
    (k : ∀ φ1 T1 H1 v u, r = .ok v T1 → RS Γ H1 φ1 ρ T1 → Up H φ (MM φ ρ T) H1 φ1 (MM φ1 ρ T1) → rel H1 φ1 (MM φ1 ρ T1) v u → OutG Γ W σ φ1 ρ T1 H1 rel' (f v T1) Q → Q' u H1) : OutG Γ W σ φ ρ T H rel r Q' := by
  cases r with
  | ok v T' => exact fun φ' H' u l rs' r => k φ' T' H' v u rfl rs' (l.up rs) r (OutG.step l o)
  | ex x T' => exact o
  | bad => exact o
theorem rngP_1 {p : PV} {T : Store} (h : rngP [p] T ≠ .bad) : ∃ j, p = .int j ∧ b62 j ∧ rngP [p] T = .ok (none, (List.range j.toNat).map fun (k : Nat) => .int k) T := by
  cases p with
  | int j =>
    by_cases hb : b62 j
    · exact ⟨j, rfl, hb, if_pos hb⟩
    · exact absurd (if_neg hb) h
  | _ => exact absurd rfl h
theorem rngP_2 {p q : PV} {T : Store} (h : rngP [p, q] T ≠ .bad) : ∃ i j, p = .int i ∧ q = .int j ∧ b62 i ∧ b62 j ∧ rngP [p, q] T = .ok (none, (List.range (j - i).toNat).map fun (k : Nat) => .int (i + k)) T := by
  cases p with
  | int i =>
    cases q with
    | int j =>
      by_cases hb : b62 i ∧ b62 j
      · exact ⟨i, j, rfl, rfl, hb.1, hb.2, if_pos hb⟩
      · exact absurd (if_neg hb) h
    | _ => exact absurd rfl h
  | _ => cases q <;> exact absurd rfl h
theorem rngP_3 {p q r : PV} {T : Store} (h : rngP [p, q, r] T ≠ .bad) : ∃ i j, p = .int i ∧ q = .int j ∧ r = .int (-1) ∧ b62 i ∧ b62 j ∧ rngP [p, q, r] T = .ok (none, (List.range (i - j).toNat).map fun (k : Nat) => .int (i - k)) T := by
  cases p with
  | int i =>
    cases q with
    | int j =>
      cases r with
      | int c =>
        by_cases hb : b62 i ∧ b62 j ∧ c = -1
        · obtain ⟨h1, h2, h3⟩ := hb
          subst h3
          exact ⟨i, j, rfl, rfl, rfl, h1, h2, if_pos ⟨h1, h2, rfl⟩⟩
        · exact absurd (if_neg hb) h
      | _ => exact absurd rfl h
    | _ => cases r <;> exact absurd rfl h
  | _ => cases q <;> cases r <;> exact absurd rfl h
theorem i_range1 {x : Str} (hx : x = "range") (hg : Gl X x) (hm : X.mg x = none) (ha : PA X [a] (tL Γ W C [a'])) (hs : starEach [a] X.env = [(false, eval a X.env)] := by rfl) : PI X tg (.Call (.Name x pf) [a] [] pos) (tI Γ W C (.rng [a'])) := by
  subst hx
  refine PI_of (pi_range1 hg hm ha hs) fun σ H R ⟨φ, ρ, T, sl, rs, rl, o⟩ => ?_
  change OutG Γ W σ φ ρ T H (ItOk Γ) ((evL C [a'] sl T).bind rngP) R at o
  refine ⟨φ, ρ, T, sl, rs, rl, o.bindE rs fun φ1 T1 H1 vs us er rs1 up rv o1 => ?_⟩
  have hl := evL_len _ _ _ _ _ er
  match vs, hl with
  | [p], _ =>
    obtain ⟨x, e, r⟩ := rvs1 rv
    obtain ⟨j, ep, hb, e2⟩ := rngP_1 o1.nbad
    subst ep
    rw [e2] at o1
    rw [rv_int r] at e
    refine ⟨j, e, hb.1, hb.2, o1.here rs1 ?_⟩
    have := it_range (Γ := Γ) (H := H1) (φ := φ1) (M := MM φ1 ρ T1) (lo := 0) (n := j.toNat) none
    simpa using this
theorem i_range2 {x : Str} (hx : x = "range") (hg : Gl X x) (hm : X.mg x = none) (ha : PA X [a, b] (tL Γ W C [a', b'])) (hs : starEach [a, b] X.env = [(false, eval a X.env), (false, eval b X.env)] := by rfl) (hs2 : starEach [b] X.env = [(false, eval b X.env)] := by rfl) : PI X tg (.Call (.Name x pf) [a, b] [] pos) (tI Γ W C (.rng [a', b'])) := by
  subst hx
  refine PI_of (pi_range2 hg hm ha hs hs2) fun σ H R ⟨φ, ρ, T, sl, rs, rl, o⟩ => ?_
  change OutG Γ W σ φ ρ T H (ItOk Γ) ((evL C [a', b'] sl T).bind rngP) R at o
  refine ⟨φ, ρ, T, sl, rs, rl, o.bindE rs fun φ1 T1 H1 vs us er rs1 up rv o1 => ?_⟩
  have hl := evL_len _ _ _ _ _ er
  match vs, hl with
  | [p, q], _ =>
    obtain ⟨x, y, e, r, r2⟩ := rvs2 rv
    obtain ⟨i, j, ep, eq, hb, hb2, e2⟩ := rngP_2 o1.nbad
    subst ep eq
    rw [e2] at o1
    rw [rv_int r, rv_int r2] at e
    exact ⟨i, j, e, ⟨hb.1, hb.2, hb2.1, hb2.2⟩, o1.here rs1 (it_range none)⟩
theorem it_enumT {v : PV} {xs : List PV} {p : Addr} {H : Hp} {φ : List Addr} {M : Addr → Prop} {T : Store} (hX : XG X Γ) (rv : RV Γ H φ M v (.ref p)) (e : dr T v = .tup xs) : ItOk Γ H φ M (srcOf v T, enumL 0 xs) (IteT X.K p) := fun φ' ρ' T' H' up rs g => by
  obtain ⟨q, vs, eq, h, r, _⟩ := src_dv rv e up rs g
  cases eq
  rw [← hX.K] at h
  refine ⟨fun i x hx => ?_, fun i hi => ⟨vs, h, by rw [r.length]; rw [enumL_len] at hi; exact hi⟩⟩
  rw [enumL_get] at hx
  obtain ⟨y, hy, ey⟩ := Option.map_eq_some_iff.mp hx
  obtain ⟨w, hw, rw1⟩ := r.get hy
  refine ⟨⟨vs, w, h, hw⟩, fun z H'' ⟨t, w', e1, e2, e3, e4⟩ => ?_⟩
  have := e4 vs h
  rw [hw] at this
  cases this
  subst e1 e3
  rw [← ey, Nat.zero_add]
  exact new_tup rs (by rw [RVs]; exact ⟨.int i, [w], rfl, by rw [RV], RVs.one rw1⟩) e2
/-- one argument -/
theorem one_arg {σ : L2.St} {H : Hp} {Q : List V → Hp → Prop} {φ ρ : List Addr} {T : Store} {sl : Slots} (rs : RS Γ H φ ρ T) (rl : RL Γ H φ (MM φ ρ T) σ sl) (o : OutG Γ W σ φ ρ T H (RV Γ) (evE C a' sl T) fun x H1 => Q [x] H1) : tL Γ W C [a'] σ H Q := by
  refine ⟨φ, ρ, T, sl, rs, rl, ?_⟩
  change OutG Γ W σ φ ρ T H (RVs Γ) ((evE C a' sl T).bind fun v T => ((Ro.ok [] T : Ro (List PV))).bind fun vs T => .ok (v :: vs) T) Q
  cases e : evE C a' sl T with
  | ok v T1 =>
    rw [e] at o
    intro φ1 H1 us l rs1 ru
    obtain ⟨x, ex, r⟩ := rvs1 ru
    subst ex
    exact o φ1 H1 x l rs1 r
  | ex _ _ => rw [e] at o; exact o
  | bad => rw [e] at o; exact o
theorem i_enum {x : Str} {elts : List Expr} {kk : Nat} {tpos : Pos} (hX : XG X Γ) (hx : x = "enumerate") (hg : Gl X x) (hm : X.mg x = none) (ha : PA X [a] (tL Γ W C [a'])) (hs : starEach [a] X.env = [(false, eval a X.env)] := by rfl) : PI X (.Tuple elts kk tpos) (.Call (.Name x pf) [a] [] pos) (tI Γ W C (.enum a')) := by
  subst hx
  refine ⟨fun pins s σ H R I ⟨φ, ρ, T, sl, rs, rl, o⟩ => ?_⟩
  change OutG Γ W σ φ ρ T H (ItOk Γ) ((evE C a' sl T).bind enumP) R at o
  cases e : evE C a' sl T with
  | bad => rw [e] at o; exact o.elim
  | ex x T' =>
    rw [e] at o
    exact (pi_enum hg hm ha hs).run pins s σ H R I (one_arg rs rl (by rw [e]; exact o))
  | ok v T1 =>
    rw [e] at o
    change OutG Γ W σ φ ρ T H (ItOk Γ) (enumP v T1) R at o
    unfold enumP at o
    split at o
    · rename_i xs e1
      refine (pi_enum hg hm ha hs).run pins s σ H R I (one_arg rs rl ?_)
      rw [e]
      intro φ1 H1 u l rs1 rv
      have d := dr_rv rs1 rv
      rw [e1] at d
      obtain ⟨p, vs, ex, h, r⟩ := d
      subst ex
      exact ⟨p, vs, rfl, by rw [hX.K]; exact h, o φ1 H1 _ l rs1 (it_enum hX rv e1)⟩
    · rename_i xs e1
      refine (pi_enumT hg hm ha hs).run pins s σ H R I (one_arg rs rl ?_)
      rw [e]
      intro φ1 H1 u l rs1 rv
      have d := dr_rv rs1 rv
      rw [e1] at d
      obtain ⟨p, vs, ex, h, r⟩ := d
      subst ex
      exact ⟨p, vs, rfl, by rw [hX.K]; exact h, o φ1 H1 _ l rs1 (it_enumT hX rv e1)⟩
    · exact o.elim
theorem i_rev {x : Str} (hX : XG X Γ) (hx : x = "reversed") (hg : Gl X x) (hm : X.mg x = none) (ha : PA X [a] (tL Γ W C [a'])) (hs : starEach [a] X.env = [(false, eval a X.env)] := by rfl) : PI X tg (.Call (.Name x pf) [a] [] pos) (tI Γ W C (.rev a')) := by
  subst hx
  refine ⟨fun pins s σ H R I ⟨φ, ρ, T, sl, rs, rl, o⟩ => ?_⟩
  change OutG Γ W σ φ ρ T H (ItOk Γ) ((evE C a' sl T).bind revI) R at o
  cases e : evE C a' sl T with
  | bad => rw [e] at o; exact o.elim
  | ex x T' =>
    rw [e] at o
    exact (pi_reversed hg hm ha hs).run pins s σ H R I (one_arg rs rl (by rw [e]; exact o))
  | ok v T1 =>
    rw [e] at o
    change OutG Γ W σ φ ρ T H (ItOk Γ) (revI v T1) R at o
    unfold revI at o
    split at o
    · rename_i xs e1
      refine (pi_reversed hg hm ha hs).run pins s σ H R I (one_arg rs rl ?_)
      rw [e]
      intro φ1 H1 u l rs1 rv
      have d := dr_rv rs1 rv
      rw [e1] at d
      obtain ⟨p, vs, ex, h, r⟩ := d
      subst ex
      exact ⟨p, vs, rfl, by rw [hX.K]; exact h, o φ1 H1 _ l rs1 (by rw [r.length]; exact it_rev hX rv e1)⟩
    · exact o.elim
end

theorem Up.le {Ha H H' : Hp} {φa φ φ' ρ : List Addr} {Ma : Addr → Prop} {T T' : Store} (u : Up Ha φa Ma H φ (MM φ ρ T)) (l : Le φ T H φ' T' H') : Up Ha φa Ma H' φ' (MM φ' ρ T') := by
  refine ⟨fun i x h => l.at (u.ph i x h), fun x o e b0 n => ?_⟩
  obtain ⟨q, m⟩ := u.kp x o e b0 n
  have n0 : ¬ Lv φ T x := fun z => m (.inl z)
  have fin : ∀ o', ¬ isTb o' → H x = some o' → H' x = some o' ∧ ¬ MM φ' ρ T' x := fun o' b1 e => by
    obtain ⟨e1, n1⟩ := l.keep x o' e b1 n0
    exact ⟨e1, fun z => z.elim n1 fun z => m (.inr z)⟩
  rcases q with q | ⟨d, ob, q⟩
  · exact ⟨.inl (fin _ b0 q).1, (fin _ b0 q).2⟩
  · have f := fin (.frz ob o) (fun z => z) q
    exact ⟨.inr ⟨d, ob, f.1⟩, f.2⟩
/-! ### loops -/
section
variable {Γ : SE} {W : WX} {C : Ctx} {X : Cx} {tg iter c : Expr} {tg' : Tg} {it' : It} {c' : Ex} {pos : Pos} {body : List Stmt} {body' : List St} {w : List Nat}
open Classical in
theorem s_for (hp : PassesOwn (model X.prog X.w) X.A X.env X.xe) (hc : X.calm = true) (hi : PI X tg iter (tI Γ W C it')) (hg : PG X tg (tG Γ C tg')) (hb : PSs X body (tSs Γ W C body'))
    (hs : ∀ x, foldedSetIterable iter X.env x = pure x := by intro _; rfl) : PS X (.For tg iter body [] pos) (tS Γ W C (.for_ tg' it' w body')) :=
  PS_of (ps_for hp hc hi hg hb hs) fun D σ H ⟨φ, ρ, T, s, rs, rl, o⟩ => by
    change OutS Γ W φ ρ T H ((evI C it' s T).then s fun sx T => forL sx.1 w (fun x σ T => (noEx (asgT C tg' x σ T)).then σ fun σ' T => evSs C body' σ' T) sx.2 s T) D at o
    refine ⟨φ, ρ, T, s, rs, rl, o.then rs rl fun φ1 T1 H1 sx J rs1 rl1 up1 ok o1 => ?_⟩
    refine ⟨fun i m σ H => m = sx.2.length - i ∧ i ≤ sx.2.length ∧ ∃ φ T s, RS Γ H φ ρ T ∧ RL Γ H φ (MM φ ρ T) σ s ∧ Up H1 φ1 (MM φ1 ρ T1) H φ (MM φ ρ T) ∧ OutS Γ W φ ρ T H (forL sx.1 w (fun x σ T => (noEx (asgT C tg' x σ T)).then σ fun σ' T => evSs C body' σ' T) (sx.2.drop i) s T) D,
      ⟨_, rfl, Nat.zero_le _, φ1, T1, s, rs1, rl1, (Le.refl).up rs1, o1⟩, ?_⟩
    rintro i m σ2 H2 ⟨rfl, hi, φ2, T2, s2, rs2, rl2, up2, o2⟩
    by_cases hlt : i < sx.2.length
    · have ed : sx.2.drop i = sx.2[i] :: sx.2.drop (i + 1) := List.drop_eq_getElem_cons hlt
      rw [ed] at o2
      change OutS Γ W φ2 ρ T2 H2 (if grd sx.1 T2 then (match ((noEx (asgT C tg' sx.2[i] s2 T2)).then s2 fun σ' T => evSs C body' σ' T) with
        | .nx σ' T' => forL sx.1 w (fun x σ T => (noEx (asgT C tg' x σ T)).then σ fun σ' T => evSs C body' σ' T) (sx.2.drop (i + 1)) (E.wipe σ' w) T'
        | .ct σ' T' => forL sx.1 w (fun x σ T => (noEx (asgT C tg' x σ T)).then σ fun σ' T => evSs C body' σ' T) (sx.2.drop (i + 1)) (E.wipe σ' w) T'
        | .bk σ' T' => .nx (E.wipe σ' w) T'
        | r => r) else .bad) D at o2
      split at o2
      · rename_i hgd
        obtain ⟨k1, k2⟩ := (ok φ2 ρ T2 H2 up2 rs2 hgd).1 i sx.2[i] (List.getElem?_eq_getElem hlt)
        refine .inr ⟨k1, fun σ' H' => ∃ φ T s, RS Γ H' φ ρ T ∧ RL Γ H' φ (MM φ ρ T) σ' s ∧ Up H1 φ1 (MM φ1 ρ T1) H' φ (MM φ ρ T) ∧ OutS Γ W φ ρ T H' (forL sx.1 w (fun x σ T => (noEx (asgT C tg' x σ T)).then σ fun σ' T => evSs C body' σ' T) (sx.2.drop (i + 1)) s T) D,
          fun σ' H' hN => ⟨sx.2.length - (i + 1), by omega, rfl, hlt, hN⟩, fun x H' hy => ?_⟩
        obtain ⟨φ3, l3, rs3, rx⟩ := k2 x H' hy
        have up3 := l3.up rs2
        have o3 := o2.step l3
        refine ⟨φ3, ρ, T2, s2, sx.2[i], rs3, rl2.up up3, rx, ?_⟩
        cases e : asgT C tg' sx.2[i] s2 T2 with
        | bad => rw [e] at o3; exact o3.elim
        | ex _ _ => rw [e] at o3; exact o3.elim
        | ok s4 T4 =>
          rw [e] at o3
          intro φ4 H4 σ4 l4 rs4 rl4
          have o4 := o3.step l4
          change OutS Γ W φ4 ρ T4 H4 (match evSs C body' s4 T4 with
            | .nx σ' T' => forL sx.1 w (fun x σ T => (noEx (asgT C tg' x σ T)).then σ fun σ' T => evSs C body' σ' T) (sx.2.drop (i + 1)) (E.wipe σ' w) T'
            | .ct σ' T' => forL sx.1 w (fun x σ T => (noEx (asgT C tg' x σ T)).then σ fun σ' T => evSs C body' σ' T) (sx.2.drop (i + 1)) (E.wipe σ' w) T'
            | .bk σ' T' => .nx (E.wipe σ' w) T'
            | r => r) D at o4
          refine ⟨φ4, ρ, T4, s4, rs4, rl4, ?_⟩
          have upT : ∀ {φ5 H5 T5}, Le φ4 T4 H4 φ5 T5 H5 → Up H1 φ1 (MM φ1 ρ T1) H5 φ5 (MM φ5 ρ T5) := fun {φ5 H5 T5} l5 => by
            exact up2.le (l3.trans (l4.trans l5))
          cases eb : evSs C body' s4 T4 with
          | nx s5 T5 =>
            rw [eb] at o4
            exact fun φ5 H5 σ5 l5 rs5 rl5 => ⟨φ5, T5, E.wipe s5 w, rs5, rl5.wipe w, upT l5, OutS.step l5 o4⟩
          | ct s5 T5 =>
            rw [eb] at o4
            exact fun φ5 H5 σ5 l5 rs5 rl5 => ⟨φ5, T5, E.wipe s5 w, rs5, rl5.wipe w, upT l5, OutS.step l5 o4⟩
          | bk s5 T5 =>
            rw [eb] at o4
            exact fun φ5 H5 σ5 l5 rs5 rl5 => o4 φ5 H5 σ5 l5 rs5 (rl5.wipe w)
          | rt v T5 => rw [eb] at o4; exact o4
          | ex x s5 T5 => rw [eb] at o4; exact o4
          | bad => rw [eb] at o4; exact o4
      · exact o2.elim
    · have hi' : i = sx.2.length := by omega
      subst hi'
      rw [List.drop_length] at o2
      change OutS Γ W φ2 ρ T2 H2 (if grd sx.1 T2 then .nx (E.wipe s2 w) T2 else .bad) D at o2
      split at o2
      · rename_i hgd
        exact .inl ⟨(ok φ2 ρ T2 H2 up2 rs2 hgd).2 _ (Nat.le_refl _), o2.nx rs2 (rl2.wipe w)⟩
      · exact o2.elim
theorem s_while (hp : PassesOwn (model X.prog X.w) X.A X.env X.xe) (hc : PT X c (tT Γ W C c')) (hb : PSs X body (tSs Γ W C body')) : PS X (.While c body [] pos) (tS Γ W C (.whl c' w body')) :=
  PS_of (ps_while hp hc hb) fun D σ H ⟨φ, ρ, T, s, rs, rl, o⟩ => by
    change OutS Γ W φ ρ T H (whlR (fun σ T => (evE C c' σ T).bind truP) w (evSs C body') s T) D at o
    have hn : ∃ n, OutS Γ W φ ρ T H (whlN (fun σ T => (evE C c' σ T).bind truP) w (evSs C body') n s T) D := by
      unfold whlR at o
      split at o
      · exact ⟨_, o⟩
      · exact o.elim
    obtain ⟨n, o⟩ := hn
    refine ⟨fun m σ H => ∃ φ T s, RS Γ H φ ρ T ∧ RL Γ H φ (MM φ ρ T) σ s ∧ OutS Γ W φ ρ T H (whlN (fun σ T => (evE C c' σ T).bind truP) w (evSs C body') m s T) D, ⟨n, φ, T, s, rs, rl, o⟩, ?_⟩
    rintro m σ2 H2 ⟨φ2, T2, s2, rs2, rl2, o2⟩
    cases m with
    | zero => exact o2.elim
    | succ m =>
      change OutS Γ W φ2 ρ T2 H2 (match (evE C c' s2 T2).bind truP with
        | .ok true T' => (match evSs C body' s2 T' with
          | .nx σ' T'' => whlN (fun σ T => (evE C c' σ T).bind truP) w (evSs C body') m (E.wipe σ' w) T''
          | .ct σ' T'' => whlN (fun σ T => (evE C c' σ T).bind truP) w (evSs C body') m (E.wipe σ' w) T''
          | .bk σ' T'' => .nx (E.wipe σ' w) T''
          | r => r)
        | .ok false T' => .nx s2 T'
        | .ex x T' => .ex x s2 T'
        | .bad => .bad) D at o2
      refine ⟨φ2, ρ, T2, s2, rs2, rl2, ?_⟩
      cases e : (evE C c' s2 T2).bind truP with
      | bad => rw [e] at o2; exact o2.elim
      | ex x T3 =>
        rw [e] at o2
        exact fun φ3 H3 cls d l rs3 xr => o2 φ3 H3 σ2 cls d l rs3 (rl2.up (l.up rs2)) xr
      | ok b T3 =>
        rw [e] at o2
        intro φ3 H3 b' l rs3 eb
        cases (show b = b' from eb)
        have rl3 := rl2.up (l.up rs2)
        have o3 := OutS.step l o2
        cases b with
        | false =>
          rw [if_neg Bool.false_ne_true]
          exact o3.nx rs3 rl3
        | true =>
          rw [if_pos rfl]
          change OutS Γ W φ3 ρ T3 H3 (match evSs C body' s2 T3 with
            | .nx σ' T'' => whlN (fun σ T => (evE C c' σ T).bind truP) w (evSs C body') m (E.wipe σ' w) T''
            | .ct σ' T'' => whlN (fun σ T => (evE C c' σ T).bind truP) w (evSs C body') m (E.wipe σ' w) T''
            | .bk σ' T'' => .nx (E.wipe σ' w) T''
            | r => r) D at o3
          refine ⟨fun σ' H' => ∃ φ T s, RS Γ H' φ ρ T ∧ RL Γ H' φ (MM φ ρ T) σ' s ∧ OutS Γ W φ ρ T H' (whlN (fun σ T => (evE C c' σ T).bind truP) w (evSs C body') m s T) D, fun σ' H' h => ⟨m, Nat.lt_succ_self _, h⟩, φ3, ρ, T3, s2, rs3, rl3, ?_⟩
          cases eb : evSs C body' s2 T3 with
          | nx s5 T5 =>
            rw [eb] at o3
            exact fun φ5 H5 σ5 l5 rs5 rl5 => ⟨φ5, T5, E.wipe s5 w, rs5, rl5.wipe w, OutS.step l5 o3⟩
          | ct s5 T5 =>
            rw [eb] at o3
            exact fun φ5 H5 σ5 l5 rs5 rl5 => ⟨φ5, T5, E.wipe s5 w, rs5, rl5.wipe w, OutS.step l5 o3⟩
          | bk s5 T5 =>
            rw [eb] at o3
            exact fun φ5 H5 σ5 l5 rs5 rl5 => o3 φ5 H5 σ5 l5 rs5 (rl5.wipe w)
          | rt v T5 => rw [eb] at o3; exact o3
          | ex x s5 T5 => rw [eb] at o3; exact o3
          | bad => rw [eb] at o3; exact o3
end
end E
set_option Elab.async false
set_option linter.all false
set_option autoImplicit false
set_option maxRecDepth 100000
set_option maxHeartbeats 1000000
/-! Part 17: fields are set; try. -/
namespace E
open PySem PySem.Spec PyProof.Rows L2

def SE.at (Γ : SE) (p : L2.St → Prop) : SE := { Γ with psi := p }
section
variable {Γ : SE} {p : L2.St → Prop} {H : Hp} {φ ρ : List Addr} {M : Addr → Prop} {T : Store}
mutual
theorem RV.toAt : ∀ (x : PV) (v : V), RV Γ H φ M x v ↔ RV (Γ.at p) H φ M x v
  | .non, v => by rw [RV, RV]
  | .bl _, v => by rw [RV, RV]
  | .int _, v => by rw [RV, RV]
  | .str _, v => by rw [RV, RV]
  | .tup xs, v => by
    rw [RV, RV]
    exact ⟨fun ⟨a, vs, e, q, r⟩ => ⟨a, vs, e, q, (RVs.toAt xs vs).mp r⟩, fun ⟨a, vs, e, q, r⟩ => ⟨a, vs, e, q, (RVs.toAt xs vs).mpr r⟩⟩
  | .lst xs, v => by
    rw [RV, RV]
    exact ⟨fun ⟨a, vs, e, q, r⟩ => ⟨a, vs, e, q, (RVs.toAt xs vs).mp r⟩, fun ⟨a, vs, e, q, r⟩ => ⟨a, vs, e, q, (RVs.toAt xs vs).mpr r⟩⟩
  | .dic false kvs, v => by
    rw [RV, RV]
    exact ⟨fun ⟨a, vs, e, q, n, r⟩ => ⟨a, vs, e, q, n, (RVk.toAt kvs vs).mp r⟩, fun ⟨a, vs, e, q, n, r⟩ => ⟨a, vs, e, q, n, (RVk.toAt kvs vs).mpr r⟩⟩
  | .dic true kvs, v => by
    rw [RV, RV]
    exact ⟨fun ⟨a, vs, e, q, n, r⟩ => ⟨a, vs, e, q, n, (RVt.toAt kvs vs).mp r⟩, fun ⟨a, vs, e, q, n, r⟩ => ⟨a, vs, e, q, n, (RVt.toAt kvs vs).mpr r⟩⟩
  | .set xs, v => by rw [RV, RV]; rfl
  | .ins c fs, v => by
    rw [RV, RV]
    exact ⟨fun ⟨a, dx, vs, e, q, n, r⟩ => ⟨a, dx, vs, e, q, n, (RVf.toAt fs vs).mp r⟩, fun ⟨a, dx, vs, e, q, n, r⟩ => ⟨a, dx, vs, e, q, n, (RVf.toAt fs vs).mpr r⟩⟩
  | .ref l, v => by rw [RV, RV]
theorem RVs.toAt : ∀ (x : List PV) (v : List V), RVs Γ H φ M x v ↔ RVs (Γ.at p) H φ M x v
  | [], _ => by rw [RVs, RVs]
  | x :: xs, _ => by
    rw [RVs, RVs]
    exact ⟨fun ⟨v, r, e, h1, h2⟩ => ⟨v, r, e, (RV.toAt x v).mp h1, (RVs.toAt xs r).mp h2⟩, fun ⟨v, r, e, h1, h2⟩ => ⟨v, r, e, (RV.toAt x v).mpr h1, (RVs.toAt xs r).mpr h2⟩⟩
theorem RVk.toAt : ∀ (x : List (PV × PV)) (v : List (Key × V)), RVk Γ H φ M x v ↔ RVk (Γ.at p) H φ M x v
  | [], _ => by rw [RVk, RVk]
  | (k, x) :: xs, _ => by
    rw [RVk, RVk]
    exact ⟨fun ⟨kk, v, r, e, h0, h1, h2⟩ => ⟨kk, v, r, e, h0, (RV.toAt x v).mp h1, (RVk.toAt xs r).mp h2⟩, fun ⟨kk, v, r, e, h0, h1, h2⟩ => ⟨kk, v, r, e, h0, (RV.toAt x v).mpr h1, (RVk.toAt xs r).mpr h2⟩⟩
theorem RVt.toAt : ∀ (x : List (PV × PV)) (v : List (List Key × V)), RVt Γ H φ M x v ↔ RVt (Γ.at p) H φ M x v
  | [], _ => by rw [RVt, RVt]
  | (k, x) :: xs, _ => by
    rw [RVt, RVt]
    exact ⟨fun ⟨kk, v, r, e, h0, h1, h2⟩ => ⟨kk, v, r, e, h0, (RV.toAt x v).mp h1, (RVt.toAt xs r).mp h2⟩, fun ⟨kk, v, r, e, h0, h1, h2⟩ => ⟨kk, v, r, e, h0, (RV.toAt x v).mpr h1, (RVt.toAt xs r).mpr h2⟩⟩
theorem RVf.toAt : ∀ (x : List (Nat × PV)) (v : List (Str × V)), RVf Γ H φ M x v ↔ RVf (Γ.at p) H φ M x v
  | [], _ => by rw [RVf, RVf]
  | (k, x) :: xs, _ => by
    rw [RVf, RVf]
    exact ⟨fun ⟨kk, v, r, e, h0, h1, h2⟩ => ⟨kk, v, r, e, h0, (RV.toAt x v).mp h1, (RVf.toAt xs r).mp h2⟩, fun ⟨kk, v, r, e, h0, h1, h2⟩ => ⟨kk, v, r, e, h0, (RV.toAt x v).mpr h1, (RVf.toAt xs r).mpr h2⟩⟩
end
theorem OR.toAt {a : Addr} {ob : PV} : OR Γ H φ M a ob ↔ OR (Γ.at p) H φ M a ob := by
  cases ob with
  | lst xs => exact ⟨fun ⟨vs, e, r⟩ => ⟨vs, e, (RVs.toAt xs vs).mp r⟩, fun ⟨vs, e, r⟩ => ⟨vs, e, (RVs.toAt xs vs).mpr r⟩⟩
  | dic t kvs =>
    cases t with
    | false => exact ⟨fun ⟨vs, e, r⟩ => ⟨vs, e, (RVk.toAt kvs vs).mp r⟩, fun ⟨vs, e, r⟩ => ⟨vs, e, (RVk.toAt kvs vs).mpr r⟩⟩
    | true => exact ⟨fun ⟨vs, e, r⟩ => ⟨vs, e, (RVt.toAt kvs vs).mp r⟩, fun ⟨vs, e, r⟩ => ⟨vs, e, (RVt.toAt kvs vs).mpr r⟩⟩
  | set xs => exact Iff.rfl
  | ins c fs => exact ⟨fun ⟨dx, vs, e, r⟩ => ⟨dx, vs, e, (RVf.toAt fs vs).mp r⟩, fun ⟨dx, vs, e, r⟩ => ⟨dx, vs, e, (RVf.toAt fs vs).mpr r⟩⟩
  | _ => exact Iff.rfl
theorem RS.toAt : RS Γ H φ ρ T ↔ RS (Γ.at p) H φ ρ T :=
  ⟨fun r => ⟨r.len, r.nd, r.trk, r.res, fun l ob a h1 h2 => OR.toAt.mp (r.obj l ob a h1 h2), r.tab⟩, fun r => ⟨r.len, r.nd, r.trk, r.res, fun l ob a h1 h2 => OR.toAt.mpr (r.obj l ob a h1 h2), r.tab⟩⟩
end

section
variable {Γ : SE} {W : WX} {C : Ctx} {X : Cx} {e o : Expr} {e' o' : Ex} {pos pos' : Pos} {k : Nat}
/-- o.f = e -/
theorem s_fld {n : Str} {f : Nat} (hX : XG X Γ) (G : Good Γ C) (hn : Γ.nm f = some n) (ho : PE X o (tE Γ (fun _ _ _ _ => False) C o')) (he : PE X e (tE Γ W C e')) (hs : swapsWith e (some (.Attribute o n pos')) pos.line X.env = pure false := by rfl) :
    PS X (.Assign [.Attribute o n pos'] e pos) (tS Γ W C (.asg (.fld o' f) e')) :=
  PS_of (ps_fld ho he hs) fun D σ H h => by
    obtain ⟨φ, ρ, T, s, rs, rl, out⟩ := asg_of h
    refine ⟨φ, ρ, T, s, rs, rl, out.imp fun y H1 ⟨φ1, ρ1, T1, s1, p, rs1, rl1, rv, o1⟩ => ?_⟩
    change OutA Γ φ1 ρ1 T1 H1 ((evE C o' s1 T1).bind fun ov T => (fldP C.fo ov f p T).bind fun _ T => .ok s1 T) (fun σ' H' => D.nx σ' H') at o1
    refine ⟨φ1, ρ1, T1, s1, rs1, rl1, ?_⟩
    cases eo : evE C o' s1 T1 with
    | bad => rw [eo] at o1; exact o1.elim
    | ex _ _ => rw [eo] at o1; exact o1.elim
    | ok v T2 =>
      rw [eo] at o1
      intro φ2 H2 x l rs2 rx
      have up := l.up rs1
      have o2 := OutA.step l o1
      change OutA Γ φ2 ρ1 T2 H2 ((fldP C.fo v f p T2).bind fun _ T => .ok s1 T) (fun σ' H' => D.nx σ' H') at o2
      have d := dr_rv rs2 rx
      cases ef : fldP C.fo v f p T2 with
      | bad => rw [ef] at o2; exact o2.elim
      | ex _ _ => rw [ef] at o2; exact o2.elim
      | ok z T3 =>
        rw [ef] at o2
        unfold fldP at ef
        split at ef
        · rename_i c fs e1
          split at ef
          · rename_i hc
            rw [e1] at d
            obtain ⟨q, dx, fs', ex, hq, rf⟩ := d
            obtain ⟨l2, rfl⟩ := sto_ref ef
            obtain ⟨q2, ex2, h1, h2, h3⟩ := ref_at rs2 rx e1 (ne_dead fun l e => nomatch e)
            rw [ex] at ex2
            cases ex2
            obtain ⟨n', hn', cl, na⟩ := G.fld c f hc.1
            rw [hn] at hn'; cases hn'
            refine ⟨q, _, dx, fs', ex, hq, by rw [hX.K]; exact cl, by rw [hX.K]; exact na, by rw [rf.length]; omega, ?_⟩
            have o3 : OutP Γ φ2 ρ1 T2 H2 (sto (.ref l2) (.ins c (fput fs f p)) T2 .non) (fun _ H => D.nx σ H) := by
              rw [ef]
              exact fun φ3 H3 u l3 rs3 _ => o2 φ3 H3 σ l3 rs3 ((rl1.up up).up (l3.up rs2))
            exact OutP.sto (Q := fun _ H => D.nx σ H) (u := .non) rs2 h2 (by intro e; cases e) h1 (by intro e; cases e) o3 fun up3 => ⟨⟨dx, _, upd_same, fput_rv (nmi := G.nmi) (RVf.up up3 _ _ rf) hn ((rv.up up).up up3)⟩, by rw [RV]⟩
          · cases ef
        · cases ef
end
end E
set_option Elab.async false
set_option linter.all false
set_option autoImplicit false
set_option maxRecDepth 100000
set_option maxHeartbeats 1000000
/-! Part 18: try, except. -/
namespace E
open PySem PySem.Spec PyProof.Rows L2

/-- what stands at a slot -/
def isAt (j : Nat) (a : Addr) : L2.St → Prop := fun σ => j < σ.length → σ[j]? = some (some (.ref a))
section
variable {Γ : SE} {W W' : WX} {C : Ctx} {X : Cx} {φ ρ : List Addr} {T : Store} {H : Hp}
theorem XG.tr {pn : List (Addr × Obj)} {xe : Value → Shared → Prop} (h : XG X Γ) : XG (X.tr pn xe) Γ := ⟨h.K, h.P, h.w, h.mg, h.base⟩
theorem XG.suite {a : Addr} {pn : List (Addr × Obj)} (h : XG X Γ) : XG (X.suite a pn) Γ := ⟨h.K, h.P, h.w, h.mg, h.base⟩
theorem XG.at {p : L2.St → Prop} (h : XG X Γ) : XG X (Γ.at p) := ⟨h.K, h.P, h.w, h.mg, h.base⟩
theorem Good.at {p : L2.St → Prop} {cur : Option Nat} (h : Good Γ C) : Good (Γ.at p) { C with cur := cur } := ⟨h.kc, h.nmi, h.fld, h.meth, h.exm, h.kit, h.exc⟩
theorem Good.cur {cur : Option Nat} (h : Good Γ C) : Good Γ { C with cur := cur } := ⟨h.kc, h.nmi, h.fld, h.meth, h.exm, h.kit, h.exc⟩
theorem OutS.wish {r : R} {D : Ends} (o : OutS Γ W φ ρ T H r D) (n : ∀ x s' T', r ≠ .ex x s' T') : OutS Γ W' φ ρ T H r D := by
  cases r with
  | ex x s' T' => exact absurd rfl (n x s' T')
  | _ => exact o
theorem RL.gone {j : Nat} {σ : L2.St} {s : Slots} {M : Addr → Prop} {p : L2.St → Prop} (rl : RL (Γ.at p) H φ M σ s) (hp : ∀ σ, Γ.psi σ) : RL Γ H φ M (σ.set j none) (s.set j none) := by
  refine ⟨by simp [rl.1], fun i v hi => ?_, hp _⟩
  by_cases e : j = i
  · subst e
    by_cases hl : j < s.length
    · rw [List.getElem?_set_self hl] at hi; cases hi
    · rw [List.getElem?_eq_none (by simpa using hl)] at hi; cases hi
  · rw [List.getElem?_set_ne e] at hi ⊢
    obtain ⟨u, h1, h2⟩ := rl.2.1 i v hi
    exact ⟨u, h1, RV.toAt _ _ |>.mpr h2⟩
theorem s_try_as {x n : Str} {cv : Value} {c j : Nat} {body suite : List Stmt} {b₀ : Stmt} {np pos pos' : Pos} {body' suite' : List St} (hX : XG X Γ) (G : Good Γ C) (hp : ∀ σ, Γ.psi σ) (hcv : Γ.cv c = some cv) (hs : X.stack = X.env :: X.outer) (hf : X.env.frame = some X.env.locals) (hN : X.N.Nodup) (hi : X.N[j]? = some n) (hln : X.env.kindOf n = some .local) (hc : Names X x cv) (tk : Takes X W)
    (hb : ∀ (W : WX) (pn : List (Addr × Obj)) (xe : Value → Shared → Prop), Takes (X.tr pn xe) W → PassesOwn (model X.prog X.w) X.A X.env xe → PSs (X.tr pn xe) body (tSs Γ W C body'))
    (hsu : ∀ (a : Addr) (oe : Obj) (k : Nat) (pn : List (Addr × Obj)), Zc (.ref (Γ.cls k)) none oe → (∃ vs, oe.data = .fields vs) → Γ.isx k = true → C.sub k c = true → PSs (X.suite a ((a, oe) :: pn)) (b₀ :: suite) (tSs (Γ.at (isAt j a)) (fun _ _ _ _ => False) { C with cur := some k } suite')) :
    PS X (.Try body [.ExceptHandler (some (.Name x np)) (some n) (b₀ :: suite) pos'] [] [] pos) (tS Γ W C (.tr body' (.cons c (some j) suite' .nil))) := by
  refine PS_of (ps_try_as (tb := fun W => tSs Γ W C body') (ts := fun a cls d D σ H => ∃ k, cls = .ref (Γ.cls k) ∧ d = none ∧ Γ.isx k = true ∧ C.sub k c = true ∧ tSs (Γ.at (isAt j a)) (fun _ _ _ _ => False) { C with cur := some k } suite' D σ H) hs hf hN hi hln hc tk hb
    fun a oe cls d pn hz hd => ⟨fun pins s σ H D I ⟨k, e1, e2, e3, e4, h⟩ => ?_⟩) fun D σ H ⟨φ, ρ, T, s, rs, rl, o⟩ => ?_
  · subst e1 e2
    exact (hsu a oe k pn hz hd e3 e4).run pins s σ H D I h
  refine ⟨φ, ρ, T, s, rs, rl, ?_⟩
  change OutS Γ W φ ρ T H (match evSs C body' s T with
    | .ex x σ' T' => evH C (.cons c (some j) suite' .nil) x σ' T'
    | r => r) D at o
  cases e : evSs C body' s T with
  | ex x s' T' =>
    rw [e] at o
    change OutS Γ W φ ρ T H (if C.sub x.cls c then E.gone (some j) (evSs { C with cur := some x.cls } suite' (s'.set j none) T') else .ex x s' T') D at o
    intro φ1 H1 σ1 cls d l rs1 rl1 ⟨e1, e2, _, e4⟩
    subst e1 e2
    have o1 := OutS.step l o
    refine ⟨C.sub x.cls c, by rw [hX.K]; exact G.exm _ _ _ e4 hcv, fun hb a ha => ⟨x.cls, rfl, rfl, e4, hb, φ1, ρ, T', s'.set j none, RS.toAt.mp rs1, ⟨by simp [rl1.1], fun i v hv => ?_, fun hl => ?_⟩, ?_⟩, fun hb => ?_⟩
    · by_cases ej : j = i
      · subst ej
        by_cases hl : j < s'.length
        · rw [List.getElem?_set_self hl] at hv; cases hv
        · rw [List.getElem?_eq_none (by simpa using hl)] at hv; cases hv
      · rw [List.getElem?_set_ne ej] at hv ⊢
        obtain ⟨u, h1, h2⟩ := rl1.2.1 i v hv
        exact ⟨u, h1, RV.toAt _ _ |>.mp h2⟩
    · rw [List.getElem?_set_self (by simpa using hl)]
    · rw [if_pos hb] at o1
      cases er : evSs { C with cur := some x.cls } suite' (s'.set j none) T' with
      | nx s2 T2 => rw [er] at o1; exact fun φ2 H2 σ2 l2 rs2 rl2 => o1 φ2 H2 _ l2 (RS.toAt.mpr rs2) (rl2.gone hp)
      | bk s2 T2 => rw [er] at o1; exact fun φ2 H2 σ2 l2 rs2 rl2 => o1 φ2 H2 _ l2 (RS.toAt.mpr rs2) (rl2.gone hp)
      | ct s2 T2 => rw [er] at o1; exact fun φ2 H2 σ2 l2 rs2 rl2 => o1 φ2 H2 _ l2 (RS.toAt.mpr rs2) (rl2.gone hp)
      | rt v T2 => rw [er] at o1; exact fun φ2 H2 u l2 rs2 rv => o1 φ2 H2 u l2 (RS.toAt.mpr rs2) (RV.toAt _ _ |>.mpr rv)
      | ex _ _ _ => rw [er] at o1; exact o1.elim
      | bad => rw [er] at o1; exact o1.elim
    · rw [if_neg (by rw [hb]; exact Bool.false_ne_true)] at o1
      exact o1 φ1 H1 σ1 _ _ Le.refl rs1 rl1 ⟨rfl, rfl, by assumption, e4⟩
  | nx s' T' => rw [e] at o; exact o
  | bk s' T' => rw [e] at o; exact o
  | ct s' T' => rw [e] at o; exact o
  | rt s' T' => rw [e] at o; exact o
  | bad => rw [e] at o; exact o
theorem s_try_only {x : Str} {cv : Value} {c : Nat} {body suite : List Stmt} {b₀ : Stmt} {np pos pos' : Pos} {body' suite' : List St} (hX : XG X Γ) (G : Good Γ C) (hcv : Γ.cv c = some cv) (hs : X.stack = X.env :: X.outer) (hf : X.env.frame = some X.env.locals) (hc : Names X x cv) (tk : Takes X W)
    (hb : ∀ (W : WX) (pn : List (Addr × Obj)) (xe : Value → Shared → Prop), Takes (X.tr pn xe) W → PassesOwn (model X.prog X.w) X.A X.env xe → PSs (X.tr pn xe) body (tSs Γ W C body'))
    (hsu : ∀ (a : Addr) (oe : Obj) (k : Nat) (pn : List (Addr × Obj)), PSs (X.suite a ((a, oe) :: pn)) (b₀ :: suite) (tSs Γ (fun _ _ _ _ => False) { C with cur := some k } suite')) :
    PS X (.Try body [.ExceptHandler (some (.Name x np)) none (b₀ :: suite) pos'] [] [] pos) (tS Γ W C (.tr body' (.cons c none suite' .nil))) := by
  refine PS_of (ps_try_only (tb := fun W => tSs Γ W C body') (ts := fun a cls d D σ H => ∃ k, tSs Γ (fun _ _ _ _ => False) { C with cur := some k } suite' D σ H) hs hf hc tk hb
    fun a oe cls d pn hz hd => ⟨fun pins s σ H D I ⟨k, h⟩ => (hsu a oe k pn).run pins s σ H D I h⟩) fun D σ H ⟨φ, ρ, T, s, rs, rl, o⟩ => ?_
  refine ⟨φ, ρ, T, s, rs, rl, ?_⟩
  change OutS Γ W φ ρ T H (match evSs C body' s T with
    | .ex x σ' T' => evH C (.cons c none suite' .nil) x σ' T'
    | r => r) D at o
  cases e : evSs C body' s T with
  | ex x s' T' =>
    rw [e] at o
    change OutS Γ W φ ρ T H (if C.sub x.cls c then E.gone none (evSs { C with cur := some x.cls } suite' s' T') else .ex x s' T') D at o
    intro φ1 H1 σ1 cls d l rs1 rl1 ⟨e1, e2, _, e4⟩
    subst e1 e2
    have o1 := OutS.step l o
    refine ⟨C.sub x.cls c, by rw [hX.K]; exact G.exm _ _ _ e4 hcv, fun hb a ha => ⟨x.cls, φ1, ρ, T', s', rs1, rl1, ?_⟩, fun hb => ?_⟩
    · rw [if_pos hb] at o1
      cases er : evSs { C with cur := some x.cls } suite' s' T' with
      | ex _ _ _ => rw [er] at o1; exact o1.elim
      | nx s2 T2 => rw [er] at o1; exact o1
      | bk s2 T2 => rw [er] at o1; exact o1
      | ct s2 T2 => rw [er] at o1; exact o1
      | rt v T2 => rw [er] at o1; exact o1
      | bad => rw [er] at o1; exact o1.elim
    · rw [if_neg (by rw [hb]; exact Bool.false_ne_true)] at o1
      exact o1 φ1 H1 σ1 _ _ Le.refl rs1 rl1 ⟨rfl, rfl, by assumption, e4⟩
  | nx s' T' => rw [e] at o; exact o
  | bk s' T' => rw [e] at o; exact o
  | ct s' T' => rw [e] at o; exact o
  | rt s' T' => rw [e] at o; exact o
  | bad => rw [e] at o; exact o
/-- isinstance(e, c), e the caught one -/
theorem e_exi {x n m : Str} {a : Addr} {oe : Obj} {pn : List (Addr × Obj)} {k c j : Nat} {cv : Value} {cV : V} {pos pf pe pc : Pos} (hX : XG X Γ) (G : Good Γ C) (hcur : C.cur = some k) (hk : Γ.isx k = true) (hz : Zc (.ref (Γ.cls k)) none oe) (hd : ∃ vs, oe.data = .fields vs) (hcv : Γ.cv c = some cv) (hu : ∀ u, RelV cV u → u = cv)
    (hg : Gl X x) (hm : X.mg x = none) (hv : bootBuiltins x = some (.builtin "isinstance")) (hN : X.N[j]? = some n) (hvis : Vis X.env.scope n) (hc : PE (X.suite a ((a, oe) :: pn)) (.Name m pc) (tC cV))
    (hn : x ≠ "__name__" := by decide) (hdb : (x == ("__debug__" : Str)) = false := by decide) (hd2 : (n == ("__debug__" : Str)) = false := by decide) (hcd : (n == ("__classdict__" : Str)) = false := by decide)
    (h1 : starEach [.Name n pe, .Name m pc] X.env = (false, eval (.Name n pe) X.env) :: starEach [.Name m pc] X.env := by rfl) (h2 : starEach [.Name m pc] X.env = (false, eval (.Name m pc) X.env) :: starEach [] X.env := by rfl) (hpl : (backTo pos (starEach [.Name m pc] X.env)).any (·.1) = false := by rfl) :
    PE (X.suite a ((a, oe) :: pn)) (.Call (.Name x pf) [.Name n pe, .Name m pc] [] pos) (tE (Γ.at (isAt j a)) W C (.exi c)) := by
  have EC := G.exc k hk
  rw [← hX.K] at EC
  have P := pe_callB (X := X.suite a ((a, oe) :: pn)) (p := pf) (pos := pos) (call_isE EC hz hd) hg hm hv (pa_cons (pe_var (i := j) (x := n) (pos := pe) hN hvis hd2 hcd) (pa_cons hc pa_nil h2) h1) hn hdb h1 hpl
  refine ⟨fun pins s σ H Q I ⟨φ, ρ, T, sl, rs, rl, o⟩ => P.run pins s σ H Q I ?_⟩
  change OutG (Γ.at (isAt j a)) W σ φ ρ T H (RV (Γ.at (isAt j a))) (match C.cur with
    | some k => .ok (.bl (C.sub k c)) T
    | none => .bad) Q at o
  rw [hcur] at o
  have hl : j < σ.length := by rw [I.len]; exact (List.getElem?_eq_some_iff.mp hN).1
  exact ⟨_, rl.2.2 hl, _, cv, _, rfl, hu, by rw [hX.K]; exact G.kit k c cv hk hcv, o.here rs (by rw [RV])⟩
end
end E
set_option Elab.async false
set_option linter.all false
set_option autoImplicit false
set_option maxRecDepth 100000
set_option maxHeartbeats 1000000
/-! Part 19: a def is left; a def. -/
namespace E
open PySem PySem.Spec PyProof.Rows L2

section
variable {Γ : SE} {H : Hp} {φ φ' ρ : List Addr} {M M' : Addr → Prop} {T T' : Store}
/-! values that name what stood before -/
theorem undS_of (n : Nat) : ∀ (xs : List PV), xs.all isKey0 = true → PV.undL n xs = true
  | [], _ => rfl
  | x :: xs, h => by
    rw [List.all_cons, Bool.and_eq_true] at h
    rw [PV.undL, undS_of n xs h.2]
    cases x <;> first | rfl | (simp [isKey0] at h)
mutual
theorem mapR_id {r : Nat → PV} : ∀ (p : PV), p.und 0 = true → PV.mapR r p = p
  | .non, _ => rfl
  | .bl _, _ => rfl
  | .int _, _ => rfl
  | .str _, _ => rfl
  | .tup xs, h => by rw [PV.mapR, mapRL_id xs h]
  | .lst xs, h => by rw [PV.mapR, mapRL_id xs h]
  | .set xs, h => by rw [PV.mapR, mapRL_id xs h]
  | .dic _ kvs, h => by rw [PV.mapR, mapRD_id kvs h]
  | .ins _ fs, h => by rw [PV.mapR, mapRF_id fs h]
  | .ref l, h => by simp [PV.und] at h
theorem mapRL_id {r : Nat → PV} : ∀ (p : List PV), PV.undL 0 p = true → PV.mapRL r p = p
  | [], _ => rfl
  | x :: xs, h => by
    rw [PV.undL, Bool.and_eq_true] at h
    rw [PV.mapRL, mapR_id x h.1, mapRL_id xs h.2]
theorem mapRD_id {r : Nat → PV} : ∀ (p : List (PV × PV)), PV.undD 0 p = true → PV.mapRD r p = p
  | [], _ => rfl
  | (k, x) :: xs, h => by
    rw [PV.undD, Bool.and_eq_true, Bool.and_eq_true] at h
    rw [PV.mapRD, mapR_id k h.1.1, mapR_id x h.1.2, mapRD_id xs h.2]
theorem mapRF_id {r : Nat → PV} : ∀ (p : List (Nat × PV)), PV.undF 0 p = true → PV.mapRF r p = p
  | [], _ => rfl
  | (g, x) :: xs, h => by
    rw [PV.undF, Bool.and_eq_true] at h
    rw [PV.mapRF, mapR_id x h.1, mapRF_id xs h.2]
end
mutual
theorem und_of : ∀ (p : PV) (v : V), RV Γ H φ M p v → p.und φ.length = true
  | .non, _, _ => rfl
  | .bl _, _, _ => rfl
  | .int _, _, _ => rfl
  | .str _, _, _ => rfl
  | .tup xs, v, h => by rw [RV] at h; obtain ⟨_, vs, _, _, r⟩ := h; exact undL_of xs vs r
  | .lst xs, v, h => by rw [RV] at h; obtain ⟨_, vs, _, _, r⟩ := h; exact undL_of xs vs r
  | .dic false kvs, v, h => by rw [RV] at h; obtain ⟨_, vs, _, _, _, r⟩ := h; exact undK_of kvs vs r
  | .dic true kvs, v, h => by rw [RV] at h; obtain ⟨_, vs, _, _, _, r⟩ := h; exact undT_of kvs vs r
  | .set xs, v, h => by
    rw [RV] at h
    obtain ⟨_, _, _, _, k⟩ := h
    exact undS_of _ xs k
  | .ins c fs, v, h => by rw [RV] at h; obtain ⟨_, _, vs, _, _, _, r⟩ := h; exact undF_of fs vs r
  | .ref l, v, h => by
    rw [RV] at h
    obtain ⟨a, _, e⟩ := h
    exact decide_eq_true (List.getElem?_eq_some_iff.mp e).1
theorem undL_of : ∀ (p : List PV) (v : List V), RVs Γ H φ M p v → PV.undL φ.length p = true
  | [], _, _ => rfl
  | x :: xs, _, h => by
    rw [RVs] at h
    obtain ⟨v, r, _, h1, h2⟩ := h
    rw [PV.undL, und_of x v h1, undL_of xs r h2]; rfl
theorem undK_of : ∀ (p : List (PV × PV)) (v : List (Key × V)), RVk Γ H φ M p v → PV.undD φ.length p = true
  | [], _, _ => rfl
  | (k, x) :: xs, _, h => by
    rw [RVk] at h
    obtain ⟨kk, v, r, _, h0, h1, h2⟩ := h
    rw [PV.undD, und_of x v h1, undK_of xs r h2, h0]
    cases kk <;> rfl
theorem undT_of : ∀ (p : List (PV × PV)) (v : List (List Key × V)), RVt Γ H φ M p v → PV.undD φ.length p = true
  | [], _, _ => rfl
  | (k, x) :: xs, _, h => by
    rw [RVt] at h
    obtain ⟨kk, v, r, e0, h0, h1, h2⟩ := h
    clear e0
    have e : PV.und φ.length k = true := by
      rw [h0, PV.und]
      generalize φ.length = n
      clear h0
      induction kk with
      | nil => rfl
      | cons a t ih => rw [List.map_cons, PV.undL, ih]; cases a <;> rfl
    rw [PV.undD, und_of x v h1, undT_of xs r h2, e]; rfl
theorem undF_of : ∀ (p : List (Nat × PV)) (v : List (Str × V)), RVf Γ H φ M p v → PV.undF φ.length p = true
  | [], _, _ => rfl
  | (g, x) :: xs, _, h => by
    rw [RVf] at h
    obtain ⟨n, v, r, _, h0, h1, h2⟩ := h
    rw [PV.undF, und_of x v h1, undF_of xs r h2]; rfl
end
/-- fewer places -/
structure Cut (n : Nat) (φ' : List Addr) (M' : Addr → Prop) (φ : List Addr) (M : Addr → Prop) : Prop where
  eq : φ = φ'.take n
  le : ∀ a, M a → M' a
mutual
theorem RV.lessen {n : Nat} (c : Cut n φ' M' φ M) : ∀ (p : PV) (v : V), p.und n = true → RV Γ H φ' M' p v → RV Γ H φ M p v
  | .non, _, _, h => by rw [RV] at h ⊢; exact h
  | .bl _, _, _, h => by rw [RV] at h ⊢; exact h
  | .int _, _, _, h => by rw [RV] at h ⊢; exact h
  | .str _, _, _, h => by rw [RV] at h ⊢; exact h
  | .tup xs, v, u, h => by
    rw [RV] at h ⊢
    obtain ⟨a, vs, e, q, r⟩ := h
    exact ⟨a, vs, e, q.imp (fun ⟨q, m⟩ => ⟨q, fun z => m (c.le a z)⟩) id, RVs.lessen c xs vs u r⟩
  | .lst xs, v, u, h => by
    rw [RV] at h ⊢
    obtain ⟨a, vs, e, q, r⟩ := h
    exact ⟨a, vs, e, q.imp (fun ⟨q, m⟩ => ⟨q, fun z => m (c.le a z)⟩) id, RVs.lessen c xs vs u r⟩
  | .dic false kvs, v, u, h => by
    rw [RV] at h ⊢
    obtain ⟨a, vs, e, q, m, r⟩ := h
    exact ⟨a, vs, e, q, fun z => m (c.le a z), RVk.lessen c kvs vs u r⟩
  | .dic true kvs, v, u, h => by
    rw [RV] at h ⊢
    obtain ⟨a, vs, e, q, m, r⟩ := h
    exact ⟨a, vs, e, q, fun z => m (c.le a z), RVt.lessen c kvs vs u r⟩
  | .set xs, v, u, h => by
    rw [RV] at h ⊢
    obtain ⟨a, e, q, m, k⟩ := h
    exact ⟨a, e, q, fun z => m (c.le a z), k⟩
  | .ins cc fs, v, u, h => by
    rw [RV] at h ⊢
    obtain ⟨a, dx, vs, e, q, m, r⟩ := h
    exact ⟨a, dx, vs, e, q, fun z => m (c.le a z), RVf.lessen c fs vs u r⟩
  | .ref l, v, u, h => by
    rw [RV] at h ⊢
    obtain ⟨a, e, q⟩ := h
    refine ⟨a, e, ?_⟩
    have hl : l < n := of_decide_eq_true u
    rw [c.eq, List.getElem?_take, if_pos hl]
    exact q
theorem RVs.lessen {n : Nat} (c : Cut n φ' M' φ M) : ∀ (p : List PV) (v : List V), PV.undL n p = true → RVs Γ H φ' M' p v → RVs Γ H φ M p v
  | [], _, _, h => by rw [RVs] at h ⊢; exact h
  | x :: xs, _, u, h => by
    rw [RVs] at h ⊢
    rw [PV.undL, Bool.and_eq_true] at u
    obtain ⟨v, r, e, h1, h2⟩ := h
    exact ⟨v, r, e, RV.lessen c x v u.1 h1, RVs.lessen c xs r u.2 h2⟩
theorem RVk.lessen {n : Nat} (c : Cut n φ' M' φ M) : ∀ (p : List (PV × PV)) (v : List (Key × V)), PV.undD n p = true → RVk Γ H φ' M' p v → RVk Γ H φ M p v
  | [], _, _, h => by rw [RVk] at h ⊢; exact h
  | (k, x) :: xs, _, u, h => by
    rw [RVk] at h ⊢
    rw [PV.undD, Bool.and_eq_true, Bool.and_eq_true] at u
    obtain ⟨kk, v, r, e, h0, h1, h2⟩ := h
    exact ⟨kk, v, r, e, h0, RV.lessen c x v u.1.2 h1, RVk.lessen c xs r u.2 h2⟩
theorem RVt.lessen {n : Nat} (c : Cut n φ' M' φ M) : ∀ (p : List (PV × PV)) (v : List (List Key × V)), PV.undD n p = true → RVt Γ H φ' M' p v → RVt Γ H φ M p v
  | [], _, _, h => by rw [RVt] at h ⊢; exact h
  | (k, x) :: xs, _, u, h => by
    rw [RVt] at h ⊢
    rw [PV.undD, Bool.and_eq_true, Bool.and_eq_true] at u
    obtain ⟨kk, v, r, e, h0, h1, h2⟩ := h
    exact ⟨kk, v, r, e, h0, RV.lessen c x v u.1.2 h1, RVt.lessen c xs r u.2 h2⟩
theorem RVf.lessen {n : Nat} (c : Cut n φ' M' φ M) : ∀ (p : List (Nat × PV)) (v : List (Str × V)), PV.undF n p = true → RVf Γ H φ' M' p v → RVf Γ H φ M p v
  | [], _, _, h => by rw [RVf] at h ⊢; exact h
  | (g, x) :: xs, _, u, h => by
    rw [RVf] at h ⊢
    rw [PV.undF, Bool.and_eq_true] at u
    obtain ⟨kk, v, r, e, h0, h1, h2⟩ := h
    exact ⟨kk, v, r, e, h0, RV.lessen c x v u.1 h1, RVf.lessen c xs r u.2 h2⟩
end
theorem OR.lessen {n : Nat} (c : Cut n φ' M' φ M) {a : Addr} {ob : PV} (u : ob.und n = true) (h : OR Γ H φ' M' a ob) : OR Γ H φ M a ob := by
  cases ob with
  | lst xs => obtain ⟨vs, e, r⟩ := h; exact ⟨vs, e, RVs.lessen c xs vs u r⟩
  | dic t kvs =>
    cases t with
    | false => obtain ⟨vs, e, r⟩ := h; exact ⟨vs, e, RVk.lessen c kvs vs u r⟩
    | true => obtain ⟨vs, e, r⟩ := h; exact ⟨vs, e, RVt.lessen c kvs vs u r⟩
  | set xs => exact h
  | ins cc fs => obtain ⟨dx, vs, e, r⟩ := h; exact ⟨dx, vs, e, RVf.lessen c fs vs u r⟩
  | ref _ => trivial
  | _ => exact h.elim
theorem OR.und {a : Addr} {ob : PV} (hd : ob = dead → 0 < φ.length) (h : OR Γ H φ M a ob) : ob.und φ.length = true ∨ ∃ l, ob = .ref l := by
  cases ob with
  | lst xs => obtain ⟨vs, e, r⟩ := h; exact .inl (undL_of xs vs r)
  | dic t kvs =>
    cases t with
    | false => obtain ⟨vs, e, r⟩ := h; exact .inl (undK_of kvs vs r)
    | true => obtain ⟨vs, e, r⟩ := h; exact .inl (undT_of kvs vs r)
  | set xs => exact .inl (undS_of _ xs h.2)
  | ins cc fs => obtain ⟨dx, vs, e, r⟩ := h; exact .inl (undF_of fs vs r)
  | ref l => exact .inr ⟨l, rfl⟩
  | _ => exact h.elim

/-! the store is cut -/
theorem cut_mm {n : Nat} (l : φ'.length = T'.length) : Cut n φ' (MM φ' ρ T') (φ'.take n) (MM (φ'.take n) ρ (T'.take n)) := by
  refine ⟨rfl, fun a z => ?_⟩
  rcases z with ⟨i, ob, h1, h2, h3⟩ | z
  · rw [List.getElem?_take] at h1 h3
    split at h1
    · rename_i hi
      rw [if_pos hi] at h3
      exact .inl ⟨i, ob, h1, h2, h3⟩
    · cases h1
  · exact .inr z
theorem RS.cut (rs : RS Γ H φ ρ T) {H' : Hp} (l : Le φ T H φ' T' H') (rs' : RS Γ H' φ' ρ T') (g : gcOk T T') : RS Γ H' φ ρ (T'.take T.length) ∧ Le φ T H φ (T'.take T.length) H' ∧ φ = φ'.take T.length := by
  obtain ⟨ψ, eψ⟩ := l.ext
  have eφ : φ = φ'.take T.length := by rw [eψ, ← rs.len, List.take_left]
  have c := cut_mm (n := T.length) (ρ := ρ) rs'.len
  rw [← eφ] at c
  refine ⟨⟨?_, rs.nd, fun a ha => ?_, fun a ha => ?_, fun i ob a h1 h2 => ?_, fun P hP => ⟨(rs'.tab P hP).1, (rs.tab P hP).2⟩⟩, ⟨⟨[], by simp⟩, fun a o e b0 n => ?_, fun a o e n => ⟨n, (l.new a o e n).2⟩⟩, eφ⟩
  · rw [List.length_take, rs.len]
    have := g.1
    omega
  · exact rs'.trk a (by rw [eψ]; exact List.mem_append_left _ ha)
  · obtain ⟨n1, o, e⟩ := rs'.res a ha
    exact ⟨(rs.res a ha).1, o, e⟩
  · rw [List.getElem?_take] at h1
    split at h1
    · rename_i hi
      have h3 : φ'[i]? = some a := l.at h2
      have o := rs'.obj i ob a h1 h3
      have hu : ob.und T.length = true ∨ ∃ l, ob = .ref l := by
        rcases g.2 i hi with e | ⟨ob', e, u⟩
        · rw [e] at h1
          have := (rs.obj i ob a h1 h2).und (fun _ => by
            have := (List.getElem?_eq_some_iff.mp h2).1
            omega)
          rw [rs.len] at this
          exact this
        · rw [h1] at e; cases e
          exact .inl u
      rcases hu with hu | ⟨l, rfl⟩
      · exact OR.lessen c hu o
      · trivial
    · cases h1
  · obtain ⟨e1, n1⟩ := l.keep a o e b0 n
    refine ⟨e1, fun ⟨i, ob, h1, h2, h3⟩ => n1 ?_⟩
    rw [List.getElem?_take] at h1
    split at h1
    · exact ⟨i, ob, h1, h2, l.at h3⟩
    · cases h1
/-! what is handed back is frozen -/
mutual
theorem RV.map {r : Nat → PV} (hr : ∀ (l : Nat) (a : Addr), φ[l]? = some a → (∃ l', r l = .ref l') ∨ RV Γ H φ M (r l) (.ref a)) (hk : ∀ (l : Nat) l', r l = .ref l' → l' = l) (hc : ∀ xs, PV.tup xs ∈ Γ.kc → PV.undL 0 xs = true) : ∀ (p : PV) (v : V), RV Γ H φ M p v → RV Γ H φ M (PV.mapR r p) v
  | .non, _, h => h
  | .bl _, _, h => h
  | .int _, _, h => h
  | .str _, _, h => h
  | .tup xs, v, h => by
    rw [PV.mapR]
    rw [RV] at h ⊢
    obtain ⟨a, vs, e, q, rr⟩ := h
    have r2 := RVs.map hr hk hc xs vs rr
    rcases q with q | ⟨q1, q2⟩
    · exact ⟨a, vs, e, .inl q, r2⟩
    · rw [mapRL_id xs (hc xs q2)]
      exact ⟨a, vs, e, .inr ⟨q1, q2⟩, rr⟩
  | .lst xs, v, h => by
    rw [PV.mapR]
    rw [RV] at h ⊢
    obtain ⟨a, vs, e, q, rr⟩ := h
    exact ⟨a, vs, e, q, RVs.map hr hk hc xs vs rr⟩
  | .dic false kvs, v, h => by
    rw [PV.mapR]
    rw [RV] at h ⊢
    obtain ⟨a, vs, e, q, m, rr⟩ := h
    exact ⟨a, vs, e, q, m, RVk.map hr hk hc kvs vs rr⟩
  | .dic true kvs, v, h => by
    rw [PV.mapR]
    rw [RV] at h ⊢
    obtain ⟨a, vs, e, q, m, rr⟩ := h
    exact ⟨a, vs, e, q, m, RVt.map hr hk hc kvs vs rr⟩
  | .set xs, v, h => by
    rw [PV.mapR]
    rw [RV] at h ⊢
    obtain ⟨a, e, q, m, k⟩ := h
    rw [mapRL_id xs (undS_of 0 xs k)]
    exact ⟨a, e, q, m, k⟩
  | .ins c fs, v, h => by
    rw [PV.mapR]
    rw [RV] at h ⊢
    obtain ⟨a, dx, vs, e, q, m, rr⟩ := h
    exact ⟨a, dx, vs, e, q, m, RVf.map hr hk hc fs vs rr⟩
  | .ref l, v, h => by
    rw [PV.mapR]
    have h0 := h
    rw [RV] at h
    obtain ⟨a, e, q⟩ := h
    rcases hr l a q with ⟨l', e'⟩ | z
    · rw [e', hk l l' e']; exact h0
    · rw [e]; exact z
theorem RVs.map {r : Nat → PV} (hr : ∀ (l : Nat) (a : Addr), φ[l]? = some a → (∃ l', r l = .ref l') ∨ RV Γ H φ M (r l) (.ref a)) (hk : ∀ (l : Nat) l', r l = .ref l' → l' = l) (hc : ∀ xs, PV.tup xs ∈ Γ.kc → PV.undL 0 xs = true) : ∀ (p : List PV) (v : List V), RVs Γ H φ M p v → RVs Γ H φ M (PV.mapRL r p) v
  | [], _, h => h
  | x :: xs, _, h => by
    rw [PV.mapRL]
    rw [RVs] at h ⊢
    obtain ⟨v, rr, e, h1, h2⟩ := h
    exact ⟨v, rr, e, RV.map hr hk hc x v h1, RVs.map hr hk hc xs rr h2⟩
theorem RVk.map {r : Nat → PV} (hr : ∀ (l : Nat) (a : Addr), φ[l]? = some a → (∃ l', r l = .ref l') ∨ RV Γ H φ M (r l) (.ref a)) (hk : ∀ (l : Nat) l', r l = .ref l' → l' = l) (hc : ∀ xs, PV.tup xs ∈ Γ.kc → PV.undL 0 xs = true) : ∀ (p : List (PV × PV)) (v : List (Key × V)), RVk Γ H φ M p v → RVk Γ H φ M (PV.mapRD r p) v
  | [], _, h => h
  | (k, x) :: xs, _, h => by
    rw [PV.mapRD]
    rw [RVk] at h ⊢
    obtain ⟨kk, v, rr, e, h0, h1, h2⟩ := h
    exact ⟨kk, v, rr, e, by rw [h0]; cases kk <;> rfl, RV.map hr hk hc x v h1, RVk.map hr hk hc xs rr h2⟩
theorem RVt.map {r : Nat → PV} (hr : ∀ (l : Nat) (a : Addr), φ[l]? = some a → (∃ l', r l = .ref l') ∨ RV Γ H φ M (r l) (.ref a)) (hk : ∀ (l : Nat) l', r l = .ref l' → l' = l) (hc : ∀ xs, PV.tup xs ∈ Γ.kc → PV.undL 0 xs = true) : ∀ (p : List (PV × PV)) (v : List (List Key × V)), RVt Γ H φ M p v → RVt Γ H φ M (PV.mapRD r p) v
  | [], _, h => h
  | (k, x) :: xs, _, h => by
    rw [PV.mapRD]
    rw [RVt] at h ⊢
    obtain ⟨kk, v, rr, e, h0, h1, h2⟩ := h
    have e2 : PV.mapR r (.tup (kk.map kPV)) = .tup (kk.map kPV) := by
      rw [PV.mapR]
      congr 1
      clear h0 e
      induction kk with
      | nil => rfl
      | cons a t ih =>
        rw [List.map_cons, PV.mapRL, ih]
        cases a <;> rfl
    exact ⟨kk, v, rr, e, by rw [h0, e2], RV.map hr hk hc x v h1, RVt.map hr hk hc xs rr h2⟩
theorem RVf.map {r : Nat → PV} (hr : ∀ (l : Nat) (a : Addr), φ[l]? = some a → (∃ l', r l = .ref l') ∨ RV Γ H φ M (r l) (.ref a)) (hk : ∀ (l : Nat) l', r l = .ref l' → l' = l) (hc : ∀ xs, PV.tup xs ∈ Γ.kc → PV.undL 0 xs = true) : ∀ (p : List (Nat × PV)) (v : List (Str × V)), RVf Γ H φ M p v → RVf Γ H φ M (PV.mapRF r p) v
  | [], _, h => h
  | (g, x) :: xs, _, h => by
    rw [PV.mapRF]
    rw [RVf] at h ⊢
    obtain ⟨n, v, rr, e, h0, h1, h2⟩ := h
    exact ⟨n, v, rr, e, h0, RV.map hr hk hc x v h1, RVf.map hr hk hc xs rr h2⟩
end
theorem OR.frozen {r : Nat → PV} (hr : ∀ (l : Nat) (a : Addr), φ[l]? = some a → (∃ l', r l = .ref l') ∨ RV Γ H φ M (r l) (.ref a)) (hk : ∀ (l : Nat) l', r l = .ref l' → l' = l) (hc : ∀ xs, PV.tup xs ∈ Γ.kc → PV.undL 0 xs = true)
    {a : Addr} {ob : PV} (o : OR Γ H φ M a ob) (nr : ∀ l, ob ≠ .ref l) (nm : ¬ M a) : RV Γ H φ M (PV.mapR r ob) (.ref a) := by
  cases ob with
  | lst xs => obtain ⟨vs, e, rr⟩ := o; rw [PV.mapR, RV]; exact ⟨a, vs, rfl, .inl ⟨.inl e, nm⟩, RVs.map hr hk hc xs vs rr⟩
  | dic t kvs =>
    cases t with
    | false => obtain ⟨vs, e, rr⟩ := o; rw [PV.mapR, RV]; exact ⟨a, vs, rfl, .inl e, nm, RVk.map hr hk hc kvs vs rr⟩
    | true => obtain ⟨vs, e, rr⟩ := o; rw [PV.mapR, RV]; exact ⟨a, vs, rfl, .inl e, nm, RVt.map hr hk hc kvs vs rr⟩
  | set xs =>
    obtain ⟨e, k⟩ := o
    rw [PV.mapR, mapRL_id xs (undS_of 0 xs k), RV]
    exact ⟨a, rfl, e, nm, k⟩
  | ins c fs => obtain ⟨dx, vs, e, rr⟩ := o; rw [PV.mapR, RV]; exact ⟨a, dx, vs, rfl, e, nm, RVf.map hr hk hc fs vs rr⟩
  | ref l => exact absurd rfl (nr l)
  | _ => exact o.elim
theorem OR.rv {a : Addr} {ob : PV} (o : OR Γ H φ M a ob) (nr : ∀ l, ob ≠ .ref l) (nm : ¬ M a) : RV Γ H φ M ob (.ref a) := by
  cases ob with
  | lst xs => obtain ⟨vs, e, rr⟩ := o; rw [RV]; exact ⟨a, vs, rfl, .inl ⟨.inl e, nm⟩, rr⟩
  | dic t kvs =>
    cases t with
    | false => obtain ⟨vs, e, rr⟩ := o; rw [RV]; exact ⟨a, vs, rfl, .inl e, nm, rr⟩
    | true => obtain ⟨vs, e, rr⟩ := o; rw [RV]; exact ⟨a, vs, rfl, .inl e, nm, rr⟩
  | set xs => obtain ⟨e, k⟩ := o; rw [RV]; exact ⟨a, rfl, e, nm, k⟩
  | ins c fs => obtain ⟨dx, vs, e, rr⟩ := o; rw [RV]; exact ⟨a, dx, vs, rfl, e, nm, rr⟩
  | ref l => exact absurd rfl (nr l)
  | _ => exact o.elim
theorem mapR_nr {r : Nat → PV} {p : PV} (h : ∀ l, p ≠ .ref l) : ∀ l, PV.mapR r p ≠ .ref l := by
  intro l
  cases p <;> first | (exact absurd rfl (h _)) | (rw [PV.mapR]; intro e; cases e)
theorem frz_nr {n : Nat} : ∀ (d : Nat) (p : PV), (∀ l, p ≠ .ref l) → ∀ l, PV.frz T' n d p ≠ .ref l
  | 0, _, h => h
  | d + 1, p, h => mapR_nr h
/-- frz of an object, of a value -/
theorem frz_ok {n : Nat} (hor : ∀ (l : Nat) ob a, T'[l]? = some ob → φ'[l]? = some a → OR Γ H φ' M a ob) (hc : ∀ xs, PV.tup xs ∈ Γ.kc → PV.undL 0 xs = true) (hM : ∀ (l : Nat) (a : Addr), n ≤ l → φ'[l]? = some a → ¬ M a) : ∀ (d : Nat) (p : PV),
    (∀ v, RV Γ H φ' M p v → RV Γ H φ' M (PV.frz T' n d p) v) ∧ (∀ a, (∀ l, p ≠ .ref l) → ¬ M a → OR Γ H φ' M a p → RV Γ H φ' M (PV.frz T' n d p) (.ref a))
  | 0, p => ⟨fun v h => h, fun a nr nm o => OR.rv o nr nm⟩
  | d + 1, p => by
    have hr : ∀ (l : Nat) (a : Addr), φ'[l]? = some a → (∃ l', (if l < n then PV.ref l else match T'[l]? with
      | some (.ref _) => .ref l
      | some ob => PV.frz T' n d ob
      | none => .ref l) = .ref l') ∨ RV Γ H φ' M (if l < n then PV.ref l else match T'[l]? with
      | some (.ref _) => .ref l
      | some ob => PV.frz T' n d ob
      | none => .ref l) (.ref a) := fun l a h => by
      by_cases hl : l < n
      · exact .inl ⟨l, by rw [if_pos hl]⟩
      · rw [if_neg hl]
        cases e : T'[l]? with
        | none => exact .inl ⟨l, rfl⟩
        | some ob =>
          have ih := (frz_ok (n := n) hor hc hM d ob).2 a
          have o := hor l ob a e h
          have nm := hM l a (by omega) h
          cases ob with
          | ref l' => exact .inl ⟨l, rfl⟩
          | _ => exact .inr (ih (by intro l e; cases e) nm o)
    have hk : ∀ (l : Nat) l', (if l < n then PV.ref l else match T'[l]? with
      | some (.ref _) => .ref l
      | some ob => PV.frz T' n d ob
      | none => .ref l) = .ref l' → l' = l := fun l l' e => by
      by_cases hl : l < n
      · rw [if_pos hl] at e; cases e; rfl
      · rw [if_neg hl] at e
        cases e2 : T'[l]? with
        | none => rw [e2] at e; cases e; rfl
        | some ob =>
          rw [e2] at e
          cases ob with
          | ref l'' => cases e; rfl
          | _ => exact absurd e (frz_nr d _ (by intro l e; cases e) l')
    exact ⟨fun v h => RV.map hr hk hc p v h, fun a nr nm o => OR.frozen hr hk hc o nr nm⟩
/-- what a def hands back, its store cut -/
theorem leave_rv (rs : RS Γ H φ ρ T) {H' : Hp} (l : Le φ T H φ' T' H') (rs' : RS Γ H' φ' ρ T') (g : gcOk T T') (hc : ∀ xs, PV.tup xs ∈ Γ.kc → PV.undL 0 xs = true) {p : PV} {u : V} (rv : RV Γ H' φ' (MM φ' ρ T') p u)
    (hu : (PV.frz T' T.length 4 p).und T.length = true) : RV Γ H' φ (MM φ ρ (T'.take T.length)) (PV.frz T' T.length 4 p) u := by
  obtain ⟨_, _, eφ⟩ := rs.cut l rs' g
  have c := cut_mm (n := T.length) (ρ := ρ) rs'.len
  rw [← eφ] at c
  have c2 : Cut φ'.length φ' (MM φ' ρ T') φ' (MM φ ρ (T'.take T.length)) := ⟨by rw [List.take_length], c.le⟩
  have hM : ∀ (i : Nat) (a : Addr), T.length ≤ i → φ'[i]? = some a → ¬ MM φ ρ (T'.take T.length) a := fun i a hi ha z => by
    rcases z with ⟨j, ob, h1, h2, h3⟩ | z
    · have hj : j < φ.length := (List.getElem?_eq_some_iff.mp h3).1
      have h4 := l.at h3
      obtain ⟨p1, e1⟩ := List.getElem?_eq_some_iff.mp ha
      obtain ⟨p2, e2⟩ := List.getElem?_eq_some_iff.mp h4
      have := (List.getElem_inj rs'.nd).mp (e1.trans e2.symm)
      have := rs.len
      omega
    · exact (rs'.res a z).1 (List.mem_of_getElem? ha)
  have rv2 := RV.lessen c2 p u (und_of p u rv) rv
  have hor : ∀ (i : Nat) ob a, T'[i]? = some ob → φ'[i]? = some a → OR Γ H' φ' (MM φ ρ (T'.take T.length)) a ob := fun i ob a h1 h2 => by
    have o := rs'.obj i ob a h1 h2
    rcases o.und (fun _ => by have := (List.getElem?_eq_some_iff.mp h2).1; omega) with hu | ⟨l, rfl⟩
    · exact OR.lessen c2 hu o
    · trivial
  have r3 := (frz_ok (n := T.length) hor hc hM 4 p).1 u rv2
  have c3 : Cut T.length φ' (MM φ ρ (T'.take T.length)) φ (MM φ ρ (T'.take T.length)) := ⟨eφ, fun _ z => z⟩
  exact RV.lessen c3 _ u hu r3
end

/-! ### a def -/
section
variable {Γ : SE} {C : Ctx} {P : Nat → Option Def}
open Classical in
/-- what the body has come to -/
theorem leave_ok {φ ρ : List Addr} {T : Store} {H : Hp} {D : Def} {r : R} {Q : VK} {E : XK} (hc : ∀ xs, PV.tup xs ∈ Γ.kc → PV.undL 0 xs = true) (rs : RS Γ H φ ρ T) (o : OutG Γ (fun c d _ H => E c d H) [] φ ρ T H (RV Γ) (leave D.raw T r) Q) :
    OutS Γ (fun c d _ H => E c d H) φ ρ T H r { nx := fun _ H' => Q .non H', rt := Q } := by
  cases hr : D.raw with
  | true =>
    rw [hr] at o
    cases r with
    | nx s' T' => exact fun φ' H' σ' l rs' rl => o φ' H' .non l rs' (by rw [RV])
    | rt v T' => exact o
    | ex x s' T' => exact fun φ' H' σ' cls d l rs' rl xr => o φ' H' cls d l rs' xr
    | bk s' T' => exact o.elim
    | ct s' T' => exact o.elim
    | bad => exact o.elim
  | false =>
    rw [hr] at o
    cases r with
    | nx s' T' =>
      change OutG Γ _ [] φ ρ T H (RV Γ) (if false = true then .ok .non T' else if gcOk T T' then .ok .non (T'.take T.length) else .bad) Q at o
      rw [if_neg Bool.false_ne_true] at o
      by_cases g : gcOk T T'
      · rw [if_pos g] at o
        intro φ' H' σ' l rs' rl
        obtain ⟨rs2, l2, _⟩ := rs.cut l rs' g
        exact o φ H' .non l2 rs2 (by rw [RV])
      · rw [if_neg g] at o; exact o.elim
    | rt v T' =>
      change OutG Γ _ [] φ ρ T H (RV Γ) (if false = true then .ok v T' else if gcOk T T' ∧ (PV.frz T' T.length 4 v).und T.length = true then .ok (PV.frz T' T.length 4 v) (T'.take T.length) else .bad) Q at o
      rw [if_neg Bool.false_ne_true] at o
      by_cases g : gcOk T T' ∧ (PV.frz T' T.length 4 v).und T.length = true
      · rw [if_pos g] at o
        intro φ' H' u l rs' rv
        obtain ⟨rs2, l2, _⟩ := rs.cut l rs' g.1
        exact o φ H' u l2 rs2 (leave_rv rs l rs' g.1 hc rv g.2)
      · rw [if_neg g] at o; exact o.elim
    | ex x s' T' =>
      change OutG Γ _ [] φ ρ T H (RV Γ) (if false = true then .ex x T' else if gcOk T T' ∧ PV.undF T.length x.fs = true then .ex x (T'.take T.length) else .bad) Q at o
      rw [if_neg Bool.false_ne_true] at o
      by_cases g : gcOk T T' ∧ PV.undF T.length x.fs = true
      · rw [if_pos g] at o
        intro φ' H' σ' cls d l rs' rl xr
        obtain ⟨rs2, l2, _⟩ := rs.cut l rs' g.1
        exact o φ H' cls d l2 rs2 xr
      · rw [if_neg g] at o; exact o.elim
    | bk s' T' => exact o.elim
    | ct s' T' => exact o.elim
    | bad => exact o.elim
theorem start_rl {φ : List Addr} {H : Hp} {M : Addr → Prop} {N : List Str} {D : Def} {as : List PV} {vs : List V} (hp : ∀ σ, Γ.psi σ) (hn : N.length = D.n) (hl : as.length = D.ps) (r : RVs Γ H φ M as vs) : RL Γ H φ M (L2.start N vs) (start D as) := by
  have hl2 := r.length
  refine ⟨?_, fun i v hv => ?_, hp _⟩
  · unfold L2.start start
    simp only [List.length_append, List.length_map, List.length_replicate]
    omega
  · unfold start at hv
    unfold L2.start
    by_cases hi : i < as.length
    · rw [List.getElem?_append_left (by simpa using hi), List.getElem?_map] at hv
      obtain ⟨p, hp, e⟩ := Option.map_eq_some_iff.mp hv
      cases e
      obtain ⟨w, hw, rw1⟩ := r.get hp
      exact ⟨w, by rw [List.getElem?_append_left (by simp; omega), List.getElem?_map, hw]; rfl, rw1⟩
    · rw [List.getElem?_append_right (by simpa using hi)] at hv
      have := List.mem_of_getElem? hv
      rw [List.mem_replicate] at this
      exact absurd this.2 (by simp)
/-- the context of a def's body -/
noncomputable abbrev bodyC (P : Nat → Option Def) (C : Ctx) (d : Nat) : Ctx := { C with call := callD P C d, cur := none }
theorem fun_ok {x qual : Str} {st : Stmt} {f k d : Nat} {D : Def} {N : List Str} (hp : ∀ σ, Γ.psi σ) (hc : ∀ xs, PV.tup xs ∈ Γ.kc → PV.undL 0 xs = true) (hP : P f = some D) (F : Fun Γ.K x qual st (Γ.fa f) (Γ.fd f)) (S : FnScope N (Γ.pn f) (defScope st)) (hn : N.length = D.n) (hps : (Γ.pn f).length = D.ps)
    (hb : ∀ (W : WX) (cdv : Value) (A : Around) (outer : List Env) (s : Shared) (H : Hp) (E : XK), Room k (A.deeper (envOfC qual (defScope st) s.heap.objs.size (Γ.fa f) cdv)) →
      Takes (cxOf (L2.CX Γ.P Γ.w) Γ.P Γ.w Γ.K Γ.mg Γ.base N qual (defScope st) (Γ.fa f) cdv A outer s H E) W → PSs (cxOf (L2.CX Γ.P Γ.w) Γ.P Γ.w Γ.K Γ.mg Γ.base N qual (defScope st) (Γ.fa f) cdv A outer s H E) (defBody st) (tSs Γ W (bodyC P C d) D.body)) :
    FnOk Γ.P Γ.w Γ.K Γ.mg Γ.base (L2.CX Γ.P Γ.w) (k + 1) (Γ.fa f) (Γ.fd f) (Γ.pn f) (spE Γ (callD P C (d + 1) f) (Γ.pn f).length) := by
  refine F.okX S (fun vs H Q E h => h.1) fun cdv A outer s H vs Q E hr ⟨hl, φ, ρ, T, as, rs, ra, o⟩ => ?_
  refine ⟨tSs Γ (fun cls d _ H' => E cls d H') (bodyC P C d) D.body, hb _ cdv A outer s H E hr (takes_of rfl rfl rfl rfl), φ, ρ, T, start D as, rs, start_rl hp hn (by rw [← ra.length, hl, hps]) ra, ?_⟩
  rw [callD, hP] at o
  change OutG Γ _ [] φ ρ T H (RV Γ) (if as.length = D.ps then leave D.raw T (evSs (bodyC P C d) D.body (start D as) T) else .bad) Q at o
  rw [if_pos (by rw [← ra.length, hl, hps])] at o
  exact leave_ok hc rs o
theorem call_len {f d : Nat} {D : Def} (hP : P f = some D) {vs : List PV} {T : Store} (h : callD P C d f vs T ≠ .bad) : vs.length = D.ps := by
  cases d with
  | zero => exact absurd rfl h
  | succ d =>
    rw [callD, hP] at h
    by_cases e : vs.length = D.ps
    · exact e
    · exact absurd (if_neg e) h
end
end E
set_option Elab.async false
set_option linter.all false
set_option autoImplicit false
set_option maxRecDepth 100000
set_option maxHeartbeats 1000000
/-! Part 20: comprehensions. -/
namespace E
open PySem PySem.Spec PyProof.Rows L2

/-- a target within a comprehension: of the slots, only those at vs change -/
def OutV (Γ : SE) (vs : List Nat) (σ0 : L2.St) (φ ρ : List Addr) (T : Store) (H : Hp) (r : Ro Slots) (Q : L2.St → Hp → Prop) : Prop := match r with
  | .ok s' T' => ∀ φ' H' σ', Le φ T H φ' T' H' → RS Γ H' φ' ρ T' → RL Γ H' φ' (MM φ' ρ T') σ' s' → L2.wipe σ' vs = L2.wipe σ0 vs → Q σ' H'
  | _ => False
def tV (Γ : SE) (C : Ctx) (vs : List Nat) (tg : Tg) : TG := fun v σ H Q => ∃ φ ρ T s p, RS Γ H φ ρ T ∧ RL Γ H φ (MM φ ρ T) σ s ∧ RV Γ H φ (MM φ ρ T) p v ∧ OutV Γ vs σ φ ρ T H (asgT C tg p s T) Q
def tVs (Γ : SE) (C : Ctx) (vs : List Nat) (tgs : List Tg) : TGs := fun ws σ H Q => ∃ φ ρ T s ps, RS Γ H φ ρ T ∧ RL Γ H φ (MM φ ρ T) σ s ∧ RVs Γ H φ (MM φ ρ T) ps ws ∧ OutV Γ vs σ φ ρ T H (asgL C tgs ps s T) Q
def tTs (Γ : SE) (W : WX) (C : Ctx) (ifs : List Ex) : TT := fun σ H Q => ∃ φ ρ T s, RS Γ H φ ρ T ∧ RL Γ H φ (MM φ ρ T) σ s ∧ OutG Γ W σ φ ρ T H rE (evT C ifs s T) Q
theorem wipe_eq : ∀ (vs : List Nat) (σ : L2.St) (i : Nat), (L2.wipe σ vs)[i]? = if i ∈ vs then (if i < σ.length then some none else none) else σ[i]?
  | [], σ, i => by simp [L2.wipe]
  | v :: vs, σ, i => by
    rw [L2.wipe, List.getElem?_set, wipe_eq vs σ i, L2.wipe_length]
    by_cases h : v = i
    · subst h; simp
    · rw [if_neg h]
      by_cases h2 : i ∈ vs
      · rw [if_pos h2, if_pos (List.mem_cons_of_mem _ h2)]
      · rw [if_neg h2, if_neg (by simp only [List.mem_cons, not_or]; exact ⟨fun e => h e.symm, h2⟩)]
theorem wipe_set {vs : List Nat} {σ : L2.St} {j : Nat} {x : Option V} (h : j ∈ vs) : L2.wipe (σ.set j x) vs = L2.wipe σ vs := by
  apply List.ext_getElem?
  intro i
  rw [wipe_eq, wipe_eq, List.length_set]
  by_cases hi : i ∈ vs
  · rw [if_pos hi, if_pos hi]
  · rw [if_neg hi, if_neg hi, List.getElem?_set_ne]
    exact fun e => hi (e ▸ h)
section
variable {Γ : SE} {W : WX} {C : Ctx} {X : Cx} {σ σ' : L2.St} {φ ρ φ1 : List Addr} {T T1 : Store} {H H1 : Hp} {s : Slots} {vs : List Nat}
theorem RL.blk {M : Addr → Prop} (rl : RL Γ H φ M σ s) (hp : ∀ σ, Γ.psi σ) (vs : List Nat) : RL Γ H φ M (L2.wipe σ vs) (E.wipe s vs) := by
  refine ⟨by rw [L2.wipe_length, wipe_len]; exact rl.1, fun i v h => ?_, hp _⟩
  have h1 := wipe_get vs s i v h
  have h2 : i ∉ vs := by
    intro hi
    have : ∀ (vs : List Nat) (s : Slots), i ∈ vs → (E.wipe s vs)[i]? ≠ some (some v) := by
      intro vs
      induction vs with
      | nil => intro s h; cases h
      | cons w vs ih =>
        intro s hm
        rw [E.wipe]
        by_cases e : w = i
        · subst e
          by_cases hl : w < (E.wipe s vs).length
          · rw [List.getElem?_set_self hl]; simp
          · rw [List.getElem?_eq_none (by simpa using hl)]; simp
        · rw [List.getElem?_set_ne e]
          exact ih s ((List.mem_cons.mp hm).resolve_left fun z => e z.symm)
    exact this vs s hi h
  rw [wipe_eq, if_neg h2]
  exact rl.2.1 i v h1
theorem v_name {j : Nat} {x : Str} {pos : Pos} (hj : j ∈ vs) (hp : ∀ σ, Γ.psi σ) (hN : X.N.Nodup) (hi : X.N[j]? = some x) (hx : Loc X.env.scope x) (hf : X.fn x = true ∨ X.env.scope.names.lookup x = some .local) : PG X (.Name x pos) (tV Γ C vs (.var j)) :=
  PG_of (pg_name hN hi hx hf) fun v σ H Q ⟨φ, ρ, T, s, p, rs, rl, rv, o⟩ => by
    change OutV Γ vs σ φ ρ T H (.ok (s.set j (some p)) T) Q at o
    exact o φ H _ Le.refl rs (rl.set rv hp) (wipe_set hj)
theorem vs_nil : PGs X [] (tVs Γ C vs []) := PGs_of pgs_nil fun v σ H Q ⟨φ, ρ, T, s, ps, rs, rl, rv, o⟩ => by
  cases ps with
  | nil =>
    change OutV Γ vs σ φ ρ T H (.ok s T) Q at o
    rw [RVs] at rv
    exact ⟨rv, o φ H σ Le.refl rs rl rfl⟩
  | cons p ps => exact o.elim
theorem vs_cons {tg : Expr} {tgs : List Expr} {tg' : Tg} {tgs' : List Tg} (h1 : PG X tg (tV Γ C vs tg')) (h2 : PGs X tgs (tVs Γ C vs tgs')) (hs : (assignEach (tg :: tgs) X.env).map (·.2) = assign tg X.env :: (assignEach tgs X.env).map (·.2) := by rfl) : PGs X (tg :: tgs) (tVs Γ C vs (tg' :: tgs')) :=
  PGs_of (pgs_cons h1 h2 hs) fun v σ H Q ⟨φ, ρ, T, s, ps, rs, rl, rv, o⟩ => by
    cases ps with
    | nil => exact o.elim
    | cons p ps =>
      rw [RVs] at rv
      obtain ⟨w, r, ev, r1, r2⟩ := rv
      change OutV Γ vs σ φ ρ T H ((asgT C tg' p s T).bind fun σ T => asgL C tgs' ps σ T) Q at o
      refine ⟨w, r, ev, φ, ρ, T, s, p, rs, rl, r1, ?_⟩
      cases e : asgT C tg' p s T with
      | ok s1 T1 =>
        rw [e] at o
        intro φ1 H1 σ1 l rs1 rl1 w1
        refine ⟨φ1, ρ, T1, s1, ps, rs1, rl1, r2.up (l.up rs), ?_⟩
        change OutV Γ vs σ φ ρ T H (asgL C tgs' ps s1 T1) Q at o
        cases e2 : asgL C tgs' ps s1 T1 with
        | ok s2 T2 =>
          rw [e2] at o
          exact fun φ2 H2 σ2 l2 rs2 rl2 w2 => o φ2 H2 σ2 (l.trans l2) rs2 rl2 (w2.trans w1)
        | ex _ _ => rw [e2] at o; exact o
        | bad => rw [e2] at o; exact o
      | ex _ _ => rw [e] at o; exact o
      | bad => rw [e] at o; exact o
theorem v_tup {es : List Expr} {tgs' : List Tg} {pos : Pos} {k n : Nat} (hX : XG X Γ) (hc : X.calm = true) (h : PGs X es (tVs Γ C vs tgs')) (hl : tgs'.length = n) (hn : (assignEach es X.env).length = n := by rfl) (hst : (assignEach es X.env).findIdx? (·.1) = none := by rfl) : PG X (.Tuple es k pos) (tV Γ C vs (.tup tgs')) := by
  have len : ∀ (ts : List Tg) (xs : List PV) (s : Slots) (T : Store), asgL C ts xs s T ≠ .bad → (∀ x T', asgL C ts xs s T ≠ .ex x T') → xs.length = ts.length := by
    intro ts
    induction ts with
    | nil => intro xs s T h _; cases xs with
      | nil => rfl
      | cons _ _ => exact absurd rfl h
    | cons t ts ih =>
      intro xs s T h h2
      cases xs with
      | nil => exact absurd rfl h
      | cons x xs =>
        change ((asgT C t x s T).bind fun σ T => asgL C ts xs σ T) ≠ .bad at h
        change ∀ x' T', ((asgT C t x s T).bind fun σ T => asgL C ts xs σ T) ≠ .ex x' T' at h2
        cases e : asgT C t x s T with
        | ok s1 T1 => rw [e] at h h2; simp [ih xs s1 T1 h h2]
        | ex x T' => rw [e] at h2; exact absurd rfl (h2 x T')
        | bad => rw [e] at h; exact absurd rfl h
  refine ⟨fun pins s σ H v u Q I r ⟨φ, ρ, T, sl, p, rs, rl, rv, o⟩ => ?_⟩
  change OutV Γ vs σ φ ρ T H (match unpack p T with
    | some xs => asgL C tgs' xs sl T
    | none => .bad) Q at o
  have da := dr_rv rs rv
  unfold unpack at o
  split at o
  · rename_i xs e
    have hl2 : xs.length = n := by
      rw [← hl]
      refine len tgs' xs sl T (fun e => by rw [e] at o; exact o) fun x T' e => by rw [e] at o; exact o
    split at e
    · rename_i ys e1
      cases e
      rw [e1] at da
      obtain ⟨q, ws, ex, h1, h2⟩ := da
      exact (pg_lst hc h hn hst).run pins s σ H v u Q I r ⟨q, ws, ex, by rw [hX.K]; exact h1, by rw [h2.length]; exact hl2, φ, ρ, T, sl, _, rs, rl, h2, o⟩
    · rename_i ys e1
      cases e
      rw [e1] at da
      obtain ⟨q, ws, ex, h1, h2, _⟩ := da
      exact (pg_tup hc h hn hst).run pins s σ H v u Q I r ⟨q, ws, ex, by rw [hX.K]; exact h1, by rw [h2.length]; exact hl2, φ, ρ, T, sl, _, rs, rl, h2, o⟩
    · cases e
  · exact o.elim
/-! tests -/
theorem ts_nil : PTs X [] (tTs Γ W C []) := ⟨fun pins s σ H Q I ⟨φ, ρ, T, sl, rs, rl, o⟩ => pts_nil.run pins s σ H Q I (by
  change OutG Γ W σ φ ρ T H rE (.ok true T) Q at o
  exact o.here rs rfl)⟩
theorem ts_one {c : Expr} {c' : Ex} (h : PT X c (tT Γ W C c')) : PTs X [c] (tTs Γ W C [c']) := ⟨fun pins s σ H Q I ⟨φ, ρ, T, sl, rs, rl, o⟩ => (pts_one h).run pins s σ H Q I (by
  change OutG Γ W σ φ ρ T H rE ((evE C c' sl T).bind fun v T => (truP v T).bind fun b T => if b then .ok true T else .ok false T) Q at o
  rw [← bind_assoc] at o
  have e : (((evE C c' sl T).bind truP).bind fun b T => (if b then .ok true T else .ok false T : Ro Bool)) = (evE C c' sl T).bind truP := by
    cases (evE C c' sl T).bind truP with
    | ok b T' => cases b <;> rfl
    | _ => rfl
  rw [e] at o
  exact ⟨φ, ρ, T, sl, rs, rl, o⟩)⟩

/-! the new list: reserved, then given -/
theorem Le.upD {D : Addr} (rs : RS Γ H1 φ1 ρ T1) (l : Le φ1 T1 H1 φ T H) (hD : H1 D = none) : Up H1 φ1 (MM φ1 ρ T1) H φ (MM φ (D :: ρ) T) := by
  refine ⟨fun i x h => l.at h, fun x o e b0 n => ?_⟩
  have n0 : ¬ Lv φ1 T1 x := fun z => n (.inl z)
  obtain ⟨e1, n1⟩ := l.keep x o e b0 n0
  refine ⟨.inl e1, fun z => ?_⟩
  rcases z with z | z
  · exact n1 z
  · rcases List.mem_cons.mp z with z | z
    · rw [z, hD] at e; cases e
    · exact n (.inr z)
theorem RS.hold {D : Addr} (rs : RS Γ H φ ρ T) (hD : H D = none) (o : HO) : RS Γ (upd H D o) φ (D :: ρ) T ∧ Le φ T H φ T (upd H D o) ∧ D ∉ ρ := by
  obtain ⟨l, rs1, up, n⟩ := lay0 rs hD o
  obtain ⟨n1, n2⟩ := rs.fresh hD
  refine ⟨⟨rs.len, rs.nd, rs1.trk, fun a ha => ?_, fun i ob a h1 h2 => ?_, fun P hP => let ⟨t, m1, m2⟩ := rs.tab P hP; ⟨tab_upd t (tab_new t hD), m1, by simp [m2, tab_new t hD]⟩⟩, l, n2⟩
  · rcases List.mem_cons.mp ha with e | ha
    · rw [e]; exact ⟨n1, o, upd_same⟩
    · exact rs1.res a ha
  · exact (rs.obj i ob a h1 h2).up (l.upD rs hD) fun o' e => by rw [upd_ne (ne_of_none e hD)]; exact e
theorem mm_cons {D : Addr} : ∀ a, MM φ ρ T a → MM φ (D :: ρ) T a := fun a z => z.imp id (List.mem_cons_of_mem _)
theorem cut_all {M M' : Addr → Prop} (h : ∀ a, M a → M' a) : Cut φ.length φ M' φ M := ⟨by rw [List.take_length], h⟩
theorem OR.less {M M' : Addr → Prop} (h : ∀ a, M a → M' a) {a : Addr} {ob : PV} (o : OR Γ H φ M' a ob) (h0 : ∀ l, ob = .ref l → True) (hl : 0 < φ.length) : OR Γ H φ M a ob := by
  rcases o.und (fun _ => hl) with u | ⟨l, rfl⟩
  · exact OR.lessen (cut_all h) u o
  · trivial
theorem RS.drop {D : Addr} (rs : RS Γ H φ (D :: ρ) T) : RS Γ H φ ρ T :=
  ⟨rs.len, rs.nd, rs.trk, fun a ha => rs.res a (List.mem_cons_of_mem _ ha), fun i ob a h1 h2 => (rs.obj i ob a h1 h2).less mm_cons (fun _ _ => trivial) (by have := (List.getElem?_eq_some_iff.mp h2).1; omega), fun P hP => let ⟨t, m1, m2⟩ := rs.tab P hP; ⟨t, m1, fun z => m2 (List.mem_cons_of_mem _ z)⟩⟩
theorem RVs.less {M M' : Addr → Prop} (h : ∀ a, M a → M' a) {xs : List PV} {ws : List V} (r : RVs Γ H φ M' xs ws) : RVs Γ H φ M xs ws := RVs.lessen (cut_all h) xs ws (undL_of xs ws r) r
theorem RVk.less {M M' : Addr → Prop} (h : ∀ a, M a → M' a) {xs : List (PV × PV)} {ws : List (Key × V)} (r : RVk Γ H φ M' xs ws) : RVk Γ H φ M xs ws := RVk.lessen (cut_all h) xs ws (undK_of xs ws r) r
/-- a value at D, or a thing that changes -/
theorem lay_held {m : Bool} {D : Addr} {v : PV} {Q : VK} {H0 : Hp} {φ0 : List Addr} {T0 : Store} (rs : RS Γ H φ (D :: ρ) T) (hD : D ∉ ρ) (l : Le φ0 T0 H0 φ T H) (h0 : H0 D = none) (out : OutP Γ φ0 ρ T0 H0 (lay m v T) Q)
    (h : ∀ φ' M', Up H φ (MM φ (D :: ρ) T) H φ' M' → OR Γ H φ' M' D v ∧ (¬ M' D → RV Γ H φ' M' v (.ref D))) : Q (.ref D) H := by
  have nD := (rs.res D List.mem_cons_self).1
  cases m with
  | false => 
    refine out φ H (.ref D) l rs.drop ((h φ (MM φ ρ T) ⟨fun _ _ e => e, fun a o e _ n => ⟨.inl e, fun z => n (mm_cons a z)⟩⟩).2 fun z => ?_)
    rcases z with z | z
    · exact nD z.mem
    · exact hD z
  | true =>
    have lv : ∀ a, a ≠ D → MM (φ ++ [D]) ρ (T ++ [v]) a → MM φ (D :: ρ) T a := fun a ha z => by
      rcases z with ⟨i, x, h1, h2, h3⟩ | z
      · by_cases hl : i < φ.length
        · rw [List.getElem?_append_left hl] at h3
          rw [List.getElem?_append_left (by rw [← rs.len]; exact hl)] at h1
          exact .inl ⟨i, x, h1, h2, h3⟩
        · rw [List.getElem?_append_right (by omega)] at h3
          have : a ∈ [D] := List.mem_of_getElem? h3
          exact absurd (by simpa using this) ha
      · exact .inr (List.mem_cons_of_mem _ z)
    have at0 : ∀ (i : Nat) a, φ[i]? = some a → (φ ++ [D])[i]? = some a := fun i a e => by
      rw [List.getElem?_append_left (List.getElem?_eq_some_iff.mp e).1]; exact e
    have up : Up H φ (MM φ (D :: ρ) T) H (φ ++ [D]) (MM (φ ++ [D]) ρ (T ++ [v])) := ⟨at0, fun a o e _ n => ⟨.inl e, fun z => by
      by_cases ha : a = D
      · subst ha; exact n (.inr List.mem_cons_self)
      · exact n (lv a ha z)⟩⟩
    refine out (φ ++ [D]) H (.ref D) ?_ ?_ (by rw [RV]; exact ⟨D, rfl, by rw [← rs.len]; simp⟩)
    · obtain ⟨ψ, eψ⟩ := l.ext
      refine ⟨⟨ψ ++ [D], by rw [eψ, List.append_assoc]⟩, fun a o e b0 n => ?_, fun a o e n => ?_⟩
      · obtain ⟨e1, n1⟩ := l.keep a o e b0 n
        have ha : a ≠ D := fun z => by rw [z, h0] at e; cases e
        refine ⟨e1, fun ⟨i, x, q1, q2, q3⟩ => n1 ?_⟩
        by_cases hl : i < φ.length
        · rw [List.getElem?_append_left hl] at q3
          rw [List.getElem?_append_left (by rw [← rs.len]; exact hl)] at q1
          exact ⟨i, x, q1, q2, q3⟩
        · rw [List.getElem?_append_right (by omega)] at q3
          have : a ∈ [D] := List.mem_of_getElem? q3
          exact absurd (by simpa using this) ha
      · have ha : a ≠ D := fun z => by rw [z, h0] at e; cases e
        obtain ⟨q1, q2⟩ := l.new a o e n
        exact ⟨by simp [q1, ha], q2⟩
    · refine ⟨by simp [rs.len], ?_, fun a ha => ?_, fun a ha => ?_, fun i ob a q1 q2 => ?_, fun P hP => let ⟨t, m1, m2⟩ := rs.tab P hP; ⟨t, by simp [m1]; exact fun z => m2 (z ▸ List.mem_cons_self), fun z => m2 (List.mem_cons_of_mem _ z)⟩⟩
      · rw [List.nodup_append]
        exact ⟨rs.nd, by simp, fun a ha b hb => by
          have : b = D := by simpa using hb
          subst this
          exact fun e => nD (e ▸ ha)⟩
      · rcases List.mem_append.mp ha with ha | ha
        · exact rs.trk a ha
        · have : a = D := by simpa using ha
          subst this
          exact (rs.res a List.mem_cons_self).2
      · obtain ⟨n1, o, e⟩ := rs.res a (List.mem_cons_of_mem _ ha)
        have hne : a ≠ D := fun z => hD (z ▸ ha)
        exact ⟨by simp [n1, hne], o, e⟩
      · by_cases hl : i < T.length
        · rw [List.getElem?_append_left hl] at q1
          rw [List.getElem?_append_left (by rw [rs.len]; exact hl)] at q2
          exact (rs.obj i ob a q1 q2).up up fun _ e => e
        · rw [List.getElem?_append_right (by omega)] at q1
          rw [List.getElem?_append_right (by rw [rs.len]; omega)] at q2
          have e1 : i - T.length = 0 := by
            rcases Nat.eq_zero_or_pos (i - T.length) with z | z
            · exact z
            · rw [List.getElem?_eq_none (by simp; omega)] at q1; cases q1
          rw [e1] at q1
          rw [rs.len, e1] at q2
          cases q1; cases q2
          exact (h _ _ up).1
theorem held_upd {D : Addr} (o : HO) : Up H φ (MM φ (D :: ρ) T) (upd H D o) φ (MM φ (D :: ρ) T) :=
  ⟨fun _ _ e => e, fun a o' e _ n => by
    have ha : a ≠ D := fun z => n (.inr (by rw [z]; exact List.mem_cons_self))
    exact ⟨.inl (by rw [upd_ne ha]; exact e), n⟩⟩
theorem RS.reset {D : Addr} (rs : RS Γ H φ (D :: ρ) T) (o : HO) : RS Γ (upd H D o) φ (D :: ρ) T := by
  have nD := (rs.res D List.mem_cons_self).1
  refine ⟨rs.len, rs.nd, fun a ha => ?_, fun a ha => ?_, fun i ob a h1 h2 => ?_, fun P hP => let ⟨t, m1, m2⟩ := rs.tab P hP; ⟨tab_upd t (fun z => m2 (z ▸ List.mem_cons_self)), m1, m2⟩⟩
  · obtain ⟨x, e⟩ := rs.trk a ha
    exact ⟨x, by rw [upd_ne (show a ≠ D from fun z => nD (z ▸ ha))]; exact e⟩
  · by_cases e : a = D
    · rw [e]; exact ⟨nD, o, upd_same⟩
    · obtain ⟨n, x, q⟩ := rs.res a ha
      exact ⟨n, x, by rw [upd_ne e]; exact q⟩
  · refine (rs.obj i ob a h1 h2).up (held_upd o) fun o' e => ?_
    rw [upd_ne (show a ≠ D from fun z => nD (z ▸ List.mem_of_getElem? h2))]
    exact e
theorem Le.reset {D : Addr} (l : Le φ1 T1 H1 φ T H) (hD : H1 D = none) (o : HO) : Le φ1 T1 H1 φ T (upd H D o) := by
  refine ⟨l.ext, fun a o' e b0 n => ?_, fun a o' e n => ?_⟩
  rotate_left
  · obtain ⟨q1, o2, q2⟩ := l.new a o' e n
    exact ⟨q1, o2, by rw [upd_ne (fun z => by rw [z, hD] at e; cases e)]; exact q2⟩
  obtain ⟨e1, n1⟩ := l.keep a o' e b0 n
  exact ⟨by rw [upd_ne (fun z => by rw [z, hD] at e; cases e)]; exact e1, n1⟩
theorem Le.heldD {D : Addr} {φ2 : List Addr} {T2 : Store} {H2 : Hp} (rs : RS Γ H φ (D :: ρ) T) (l : Le φ T H φ2 T2 H2) {o : HO} (e : H D = some o) (b0 : ¬ isTb o := by exact fun z => z) : H2 D = some o :=
  (l.keep D o e b0 fun z => (rs.res D List.mem_cons_self).1 z.mem).1
theorem wipe_idem (vs : List Nat) (σ : L2.St) : L2.wipe (L2.wipe σ vs) vs = L2.wipe σ vs := by
  apply List.ext_getElem?
  intro i
  rw [wipe_eq, L2.wipe_length, wipe_eq]
  by_cases hi : i ∈ vs
  · rw [if_pos hi, if_pos hi]
  · rw [if_neg hi, if_neg hi]

/-! [elt for target in iter if ..] -/
/-- one turn -/
noncomputable abbrev lcStep (C : Ctx) (own : List Nat) (tg : Tg) (ifs : List Ex) (elt : Ex) (s : Slots) : PV → Store → Ro (Option PV) := fun x T => (asgT C tg x (E.wipe s own) T).bind fun σ2 T => (evT C ifs σ2 T).bind fun b T =>
  if b then (evE C elt σ2 T).bind fun y T => .ok (some y) T else .ok none T
abbrev WF : WX := fun _ _ _ _ => False
open Classical in
theorem lc_to {m : Bool} {own : List Nat} {tg : Tg} {it : It} {ifs : List Ex} {elt : Ex} {σ : L2.St} {H : Hp} {Q : VK} (hp : ∀ σ, Γ.psi σ) (h : tE Γ W C (.lc m own tg it ifs elt) σ H Q) :
    tLc (tI Γ W C it) (tV Γ C own tg) (tTs Γ WF C ifs) (tE Γ WF C elt) own σ H Q := by
  obtain ⟨φ, ρ, T, s, rs, rl, out⟩ := h
  change OutG Γ W σ φ ρ T H (RV Γ) (noEx ((evI C it s T).bind fun sx T => (compL sx.1 (lcStep C own tg ifs elt s) sx.2 [] T).bind fun ys T => lay m (.lst ys) T)) Q at out
  have out := out.toP
  refine ⟨φ, ρ, T, s, rs, rl, ?_⟩
  cases ei : evI C it s T with
  | bad => rw [ei] at out; exact out.elim
  | ex _ _ => rw [ei] at out; exact out.elim
  | ok sx T1 =>
    rw [ei] at out
    intro φ1 H1 J l1 rs1 ok D hD
    have out1 : OutP Γ φ1 ρ T1 H1 ((compL sx.1 (lcStep C own tg ifs elt s) sx.2 [] T1).bind fun ys T => lay m (.lst ys) T) Q := by
      change OutP Γ φ ρ T H ((compL sx.1 (lcStep C own tg ifs elt s) sx.2 [] T1).bind fun ys T => lay m (.lst ys) T) Q at out
      cases e : ((compL sx.1 (lcStep C own tg ifs elt s) sx.2 [] T1).bind fun ys T => lay m (.lst ys) T) with
      | ok v T' => rw [e] at out; exact fun φ' H' u l rs r => out φ' H' u (l1.trans l) rs r
      | ex _ _ => rw [e] at out; exact out
      | bad => rw [e] at out; exact out
    obtain ⟨rs2, l2, nD⟩ := rs1.hold hD (.lst [])
    refine ⟨fun i k H => k = sx.2.length - i ∧ i ≤ sx.2.length ∧ ∃ φ T acc ws, RS Γ H φ (D :: ρ) T ∧ Le φ1 T1 H1 φ T H ∧ H D = some (.lst ws) ∧ RVs Γ H φ (MM φ (D :: ρ) T) acc ws ∧
      OutP Γ φ1 ρ T1 H1 ((compL sx.1 (lcStep C own tg ifs elt s) (sx.2.drop i) acc T).bind fun ys T => lay m (.lst ys) T) Q,
      ⟨_, rfl, Nat.zero_le _, φ1, T1, [], [], rs2, l2, upd_same, by rw [RVs], out1⟩, ?_⟩
    rintro i k H2 ⟨rfl, hi, φ2, T2, acc, ws, rs2, l2, hD2, ra, o2⟩
    by_cases hlt : i < sx.2.length
    · have ed : sx.2.drop i = sx.2[i] :: sx.2.drop (i + 1) := List.drop_eq_getElem_cons hlt
      rw [ed] at o2
      change OutP Γ φ1 ρ T1 H1 ((if grd sx.1 T2 then (lcStep C own tg ifs elt s sx.2[i] T2).bind fun o T' => match o with
        | some y => if acc.length < sizeLine then compL sx.1 (lcStep C own tg ifs elt s) (sx.2.drop (i + 1)) (acc ++ [y]) T' else .bad
        | none => compL sx.1 (lcStep C own tg ifs elt s) (sx.2.drop (i + 1)) acc T' else .bad).bind fun ys T => lay m (.lst ys) T) Q at o2
      by_cases hgd : grd sx.1 T2
      · rw [if_pos hgd] at o2
        obtain ⟨k1, k2⟩ := (ok φ2 (D :: ρ) T2 H2 (l2.upD rs1 hD) rs2 hgd).1 i sx.2[i] (List.getElem?_eq_getElem hlt)
        refine .inr ⟨k1, fun H' => ∃ φ T acc ws, RS Γ H' φ (D :: ρ) T ∧ Le φ1 T1 H1 φ T H' ∧ H' D = some (.lst ws) ∧ RVs Γ H' φ (MM φ (D :: ρ) T) acc ws ∧
          OutP Γ φ1 ρ T1 H1 ((compL sx.1 (lcStep C own tg ifs elt s) (sx.2.drop (i + 1)) acc T).bind fun ys T => lay m (.lst ys) T) Q,
          fun H' hN => ⟨sx.2.length - (i + 1), by omega, rfl, hlt, hN⟩, fun x H' hy => ?_⟩
        obtain ⟨φ3, l3, rs3, rx⟩ := k2 x H' hy
        refine ⟨φ3, D :: ρ, T2, E.wipe s own, sx.2[i], rs3, ((rl.up (l1.up rs)).up ((l2.trans l3).upD rs1 hD)).blk hp own, rx, ?_⟩
        cases ea : asgT C tg sx.2[i] (E.wipe s own) T2 with
        | bad => unfold lcStep at o2; rw [ea] at o2; exact o2.elim
        | ex _ _ => unfold lcStep at o2; rw [ea] at o2; exact o2.elim
        | ok s4 T4 =>
          unfold lcStep at o2
          rw [ea] at o2
          intro φ4 H4 σ4 l4 rs4 rl4 w4
          refine ⟨w4.trans (wipe_idem own σ), φ4, D :: ρ, T4, s4, rs4, rl4, ?_⟩
          rw [Ro.bind_ok] at o2
          cases et : evT C ifs s4 T4 with
          | bad => rw [et] at o2; exact o2.elim
          | ex _ _ => rw [et] at o2; exact o2.elim
          | ok b T5 =>
            rw [et, Ro.bind_ok] at o2
            intro φ5 H5 b' l5 rs5 eb
            cases (show b = b' from eb)
            have L5 := l3.trans (l4.trans l5)
            cases b with
            | false =>
              rw [if_neg Bool.false_ne_true]
              rw [if_neg Bool.false_ne_true, Ro.bind_ok] at o2
              exact ⟨φ5, T5, acc, ws, rs5, l2.trans L5, L5.heldD rs2 hD2, ra.up (L5.up rs2), o2⟩
            | true =>
              rw [if_pos rfl]
              rw [if_pos rfl] at o2
              refine ⟨φ5, D :: ρ, T5, s4, rs5, rl4.up (l5.up rs4), ?_⟩
              cases ee : evE C elt s4 T5 with
              | bad => rw [ee] at o2; exact o2.elim
              | ex _ _ => rw [ee] at o2; exact o2.elim
              | ok y T6 =>
                rw [ee, Ro.bind_ok, Ro.bind_ok] at o2
                intro φ6 H6 u l6 rs6 ru
                have L6 := L5.trans l6
                have h6 := L6.heldD rs2 hD2
                by_cases hz : acc.length < sizeLine
                · dsimp only at o2
                  rw [if_pos hz] at o2
                  refine ⟨ws, h6, by rw [ra.length]; exact hz, φ6, T6, acc ++ [y], ws ++ [u], rs6.reset _, (l2.trans L6).reset hD _, upd_same, ?_, o2⟩
                  exact ((ra.up (L6.up rs2)).append (RVs.one ru)).up (held_upd _)
                · dsimp only at o2
                  rw [if_neg hz] at o2; exact o2.elim
      · rw [if_neg hgd] at o2; exact o2.elim
    · have hi' : i = sx.2.length := by omega
      subst hi'
      rw [List.drop_length] at o2
      change OutP Γ φ1 ρ T1 H1 ((if grd sx.1 T2 then .ok acc T2 else .bad : Ro (List PV)).bind fun ys T => lay m (.lst ys) T) Q at o2
      by_cases hgd : grd sx.1 T2
      · rw [if_pos hgd] at o2
        refine .inl ⟨(ok φ2 (D :: ρ) T2 H2 (l2.upD rs1 hD) rs2 hgd).2 _ (Nat.le_refl _), lay_held rs2 nD l2 hD o2 fun φ' M' up => ⟨⟨ws, hD2, ra.up up⟩, fun n => ?_⟩⟩
        rw [RV]
        exact ⟨D, ws, rfl, .inl ⟨.inl hD2, n⟩, ra.up up⟩
      · rw [if_neg hgd] at o2; exact o2.elim
/-! {k: v for target in iter if ..} -/
noncomputable abbrev dcStep (C : Ctx) (own : List Nat) (tg : Tg) (ifs : List Ex) (ek ev : Ex) (s : Slots) : PV → Store → Ro (Option (PV × PV)) := fun x T => (asgT C tg x (E.wipe s own) T).bind fun σ2 T => (evT C ifs σ2 T).bind fun b T =>
  if b then (evE C ek σ2 T).bind fun y T => (evE C ev σ2 T).bind fun z T => .ok (some (y, z)) T else .ok none T
open Classical in
theorem dc_to {m : Bool} {own : List Nat} {tg : Tg} {it : It} {ifs : List Ex} {ek ev : Ex} {σ : L2.St} {H : Hp} {Q : VK} (hp : ∀ σ, Γ.psi σ) (h : tE Γ W C (.dc m false own tg it ifs ek ev) σ H Q) :
    tDc (tI Γ W C it) (tV Γ C own tg) (tTs Γ WF C ifs) (tE Γ WF C ek) (tE Γ WF C ev) own σ H Q := by
  obtain ⟨φ, ρ, T, s, rs, rl, out⟩ := h
  change OutG Γ W σ φ ρ T H (RV Γ) (noEx ((evI C it s T).bind fun sx T => (compD sx.1 C.kc false (dcStep C own tg ifs ek ev s) sx.2 [] T).bind fun ys T => lay m (.dic false ys) T)) Q at out
  have out := out.toP
  refine ⟨φ, ρ, T, s, rs, rl, ?_⟩
  cases ei : evI C it s T with
  | bad => rw [ei] at out; exact out.elim
  | ex _ _ => rw [ei] at out; exact out.elim
  | ok sx T1 =>
    rw [ei] at out
    intro φ1 H1 J l1 rs1 ok D hD
    have out1 : OutP Γ φ1 ρ T1 H1 ((compD sx.1 C.kc false (dcStep C own tg ifs ek ev s) sx.2 [] T1).bind fun ys T => lay m (.dic false ys) T) Q := by
      change OutP Γ φ ρ T H ((compD sx.1 C.kc false (dcStep C own tg ifs ek ev s) sx.2 [] T1).bind fun ys T => lay m (.dic false ys) T) Q at out
      cases e : ((compD sx.1 C.kc false (dcStep C own tg ifs ek ev s) sx.2 [] T1).bind fun ys T => lay m (.dic false ys) T) with
      | ok v T' => rw [e] at out; exact fun φ' H' u l rs r => out φ' H' u (l1.trans l) rs r
      | ex _ _ => rw [e] at out; exact out
      | bad => rw [e] at out; exact out
    obtain ⟨rs2, l2, nD⟩ := rs1.hold hD (.dK [])
    refine ⟨fun i k H => k = sx.2.length - i ∧ i ≤ sx.2.length ∧ ∃ φ T acc ws, RS Γ H φ (D :: ρ) T ∧ Le φ1 T1 H1 φ T H ∧ H D = some (.dK ws) ∧ RVk Γ H φ (MM φ (D :: ρ) T) acc ws ∧
      OutP Γ φ1 ρ T1 H1 ((compD sx.1 C.kc false (dcStep C own tg ifs ek ev s) (sx.2.drop i) acc T).bind fun ys T => lay m (.dic false ys) T) Q,
      ⟨_, rfl, Nat.zero_le _, φ1, T1, [], [], rs2, l2, upd_same, by rw [RVk], out1⟩, ?_⟩
    rintro i k H2 ⟨rfl, hi, φ2, T2, acc, ws, rs2, l2, hD2, ra, o2⟩
    by_cases hlt : i < sx.2.length
    · have ed : sx.2.drop i = sx.2[i] :: sx.2.drop (i + 1) := List.drop_eq_getElem_cons hlt
      rw [ed] at o2
      change OutP Γ φ1 ρ T1 H1 ((if grd sx.1 T2 then (dcStep C own tg ifs ek ev s sx.2[i] T2).bind fun o T' => match o with
        | some (k, v) => if acc.length < sizeLine ∧ isKey C.kc false k then compD sx.1 C.kc false (dcStep C own tg ifs ek ev s) (sx.2.drop (i + 1)) (dput acc k v) T' else .bad
        | none => compD sx.1 C.kc false (dcStep C own tg ifs ek ev s) (sx.2.drop (i + 1)) acc T' else .bad).bind fun ys T => lay m (.dic false ys) T) Q at o2
      by_cases hgd : grd sx.1 T2
      · rw [if_pos hgd] at o2
        obtain ⟨k1, k2⟩ := (ok φ2 (D :: ρ) T2 H2 (l2.upD rs1 hD) rs2 hgd).1 i sx.2[i] (List.getElem?_eq_getElem hlt)
        refine .inr ⟨k1, fun H' => ∃ φ T acc ws, RS Γ H' φ (D :: ρ) T ∧ Le φ1 T1 H1 φ T H' ∧ H' D = some (.dK ws) ∧ RVk Γ H' φ (MM φ (D :: ρ) T) acc ws ∧
          OutP Γ φ1 ρ T1 H1 ((compD sx.1 C.kc false (dcStep C own tg ifs ek ev s) (sx.2.drop (i + 1)) acc T).bind fun ys T => lay m (.dic false ys) T) Q,
          fun H' hN => ⟨sx.2.length - (i + 1), by omega, rfl, hlt, hN⟩, fun x H' hy => ?_⟩
        obtain ⟨φ3, l3, rs3, rx⟩ := k2 x H' hy
        refine ⟨φ3, D :: ρ, T2, E.wipe s own, sx.2[i], rs3, ((rl.up (l1.up rs)).up ((l2.trans l3).upD rs1 hD)).blk hp own, rx, ?_⟩
        cases ea : asgT C tg sx.2[i] (E.wipe s own) T2 with
        | bad => unfold dcStep at o2; rw [ea] at o2; exact o2.elim
        | ex _ _ => unfold dcStep at o2; rw [ea] at o2; exact o2.elim
        | ok s4 T4 =>
          unfold dcStep at o2
          rw [ea] at o2
          intro φ4 H4 σ4 l4 rs4 rl4 w4
          refine ⟨w4.trans (wipe_idem own σ), φ4, D :: ρ, T4, s4, rs4, rl4, ?_⟩
          rw [Ro.bind_ok] at o2
          cases et : evT C ifs s4 T4 with
          | bad => rw [et] at o2; exact o2.elim
          | ex _ _ => rw [et] at o2; exact o2.elim
          | ok b T5 =>
            rw [et, Ro.bind_ok] at o2
            intro φ5 H5 b' l5 rs5 eb
            cases (show b = b' from eb)
            have L5 := l3.trans (l4.trans l5)
            cases b with
            | false =>
              rw [if_neg Bool.false_ne_true]
              rw [if_neg Bool.false_ne_true, Ro.bind_ok] at o2
              exact ⟨φ5, T5, acc, ws, rs5, l2.trans L5, L5.heldD rs2 hD2, RVk.up (L5.up rs2) _ _ ra, o2⟩
            | true =>
              rw [if_pos rfl]
              rw [if_pos rfl] at o2
              refine ⟨φ5, D :: ρ, T5, s4, rs5, rl4.up (l5.up rs4), ?_⟩
              cases ee : evE C ek s4 T5 with
              | bad => rw [ee] at o2; exact o2.elim
              | ex _ _ => rw [ee] at o2; exact o2.elim
              | ok y T6 =>
                rw [ee, Ro.bind_ok] at o2
                intro φ6 H6 u l6 rs6 ru
                refine ⟨φ6, D :: ρ, T6, s4, rs6, (rl4.up (l5.up rs4)).up (l6.up rs5), ?_⟩
                cases ev2 : evE C ev s4 T6 with
                | bad => rw [ev2] at o2; exact o2.elim
                | ex _ _ => rw [ev2] at o2; exact o2.elim
                | ok z T7 =>
                  rw [ev2, Ro.bind_ok, Ro.bind_ok] at o2
                  intro φ7 H7 w l7 rs7 rw7
                  have L7 := L5.trans (l6.trans l7)
                  have h7 := L7.heldD rs2 hD2
                  dsimp only at o2
                  by_cases hz : acc.length < sizeLine ∧ isKey C.kc false y
                  · rw [if_pos hz] at o2
                    obtain ⟨kk, rfl⟩ := isKey_f hz.2
                    have ey := rv_key ru
                    refine ⟨ws, kk, ey, h7, by rw [ra.length]; exact hz.1, φ7, T7, dput acc (kPV kk) z, putK ws kk w, rs7.reset _, (l2.trans L7).reset hD _, upd_same, ?_, o2⟩
                    exact dput_k kk (RVk.up (held_upd _) _ _ (RVk.up (L7.up rs2) _ _ ra)) (rw7.up (held_upd _))
                  · rw [if_neg hz] at o2; exact o2.elim
      · rw [if_neg hgd] at o2; exact o2.elim
    · have hi' : i = sx.2.length := by omega
      subst hi'
      rw [List.drop_length] at o2
      change OutP Γ φ1 ρ T1 H1 ((if grd sx.1 T2 then .ok acc T2 else .bad : Ro (List (PV × PV))).bind fun ys T => lay m (.dic false ys) T) Q at o2
      by_cases hgd : grd sx.1 T2
      · rw [if_pos hgd] at o2
        refine .inl ⟨(ok φ2 (D :: ρ) T2 H2 (l2.upD rs1 hD) rs2 hgd).2 _ (Nat.le_refl _), lay_held rs2 nD l2 hD o2 fun φ' M' up => ⟨⟨ws, hD2, RVk.up up _ _ ra⟩, fun n => ?_⟩⟩
        rw [RV]
        exact ⟨D, ws, rfl, .inl hD2, n, RVk.up up _ _ ra⟩
      · rw [if_neg hgd] at o2; exact o2.elim
end

section
variable {Γ : SE} {W : WX} {C : Ctx} {X : Cx} {elt kx vx tg iter : Expr} {elt' kx' vx' : Ex} {tg' : Tg} {it' : It} {ifs : List Expr} {ifs' : List Ex} {scope : Scope} {own : List (Str × Nat)} {own' : List Nat} {pos spos py : Pos} {m : Bool}
theorem e_lc (hp : ∀ σ, Γ.psi σ) (hc : X.calm = true) (hN : X.N.Nodup) (ho : own.map (·.2) = own') (hi : PI X tg iter (tI Γ W C it')) (ok : BlkOk X.N X.env.scope scope own)
    (hg : ∀ (s : Shared) (H : Hp) (B : Addr) (cl : List (Str × Addr)) (fp : List Addr), PG (X.blk s H scope (compEnvC scope cl B X.env) fp) tg (tV Γ C own' tg')) (ht : ∀ (s : Shared) (H : Hp) (B : Addr) (cl : List (Str × Addr)) (fp : List Addr), PTs (X.blk s H scope (compEnvC scope cl B X.env) fp) ifs (tTs Γ WF C ifs'))
    (he : ∀ (s : Shared) (H : Hp) (B : Addr) (cl : List (Str × Addr)) (fp : List Addr), PE (X.blk s H scope (compEnvC scope cl B X.env) fp) elt (tE Γ WF C elt')) (hs : ∀ x, foldedSetIterable iter X.env x = pure x := by intro _; rfl) :
    PE X (.ListComp elt [⟨tg, iter, ifs, 0⟩] scope pos) (tE Γ W C (.lc m own' tg' it' ifs' elt')) := by
  subst ho
  exact PE_of (pe_lc hc hN hi ok hg ht he hs) fun _ _ _ h => lc_to hp h
theorem s_setLc {i : Nat} {y : Str} (hp : ∀ σ, Γ.psi σ) (hc : X.calm = true) (hN : X.N.Nodup) (hy : X.N[i]? = some y) (hyl : X.env.scope.names.lookup y = some .local)
    (hsw : swapsWith (.ListComp elt [⟨tg, iter, ifs, 0⟩] scope pos) (some (.Name y py)) spos.line X.env = pure true) (ho : own.map (·.2) = own') (hi : PI X tg iter (tI Γ W C it')) (ok : BlkOk X.N X.env.scope scope own)
    (hg : ∀ (s : Shared) (H : Hp) (B : Addr) (cl : List (Str × Addr)) (fp : List Addr), PG (X.blk s H scope (compEnvC scope cl B X.env) fp) tg (tV Γ C own' tg')) (ht : ∀ (s : Shared) (H : Hp) (B : Addr) (cl : List (Str × Addr)) (fp : List Addr), PTs (X.blk s H scope (compEnvC scope cl B X.env) fp) ifs (tTs Γ WF C ifs'))
    (he : ∀ (s : Shared) (H : Hp) (B : Addr) (cl : List (Str × Addr)) (fp : List Addr), PE (X.blk s H scope (compEnvC scope cl B X.env) fp) elt (tE Γ WF C elt')) (hs : ∀ x, foldedSetIterable iter X.env x = pure x := by intro _; rfl) :
    PS X (.Assign [.Name y py] (.ListComp elt [⟨tg, iter, ifs, 0⟩] scope pos) spos) (tS Γ W C (.asg (.var i) (.lc m own' tg' it' ifs' elt'))) := by
  subst ho
  refine PS_of (ps_setLc hc hN hy hyl hsw hi ok hg ht he hs) fun D σ H h => ?_
  obtain ⟨φ, ρ, T, s, rs, rl, o⟩ := asg_of h
  refine lc_to (m := m) hp ⟨φ, ρ, T, s, rs, rl, o.imp fun x H1 ⟨φ1, ρ1, T1, s1, p, rs1, rl1, rv, o1⟩ => ?_⟩
  change OutA Γ φ1 ρ1 T1 H1 (.ok (s1.set i (some p)) T1) _ at o1
  exact o1.here rs1 (rl1.set rv hp)
theorem e_dc (hp : ∀ σ, Γ.psi σ) (hc : X.calm = true) (hN : X.N.Nodup) (ho : own.map (·.2) = own') (hi : PI X tg iter (tI Γ W C it')) (ok : BlkOk X.N X.env.scope scope own)
    (hg : ∀ (s : Shared) (H : Hp) (B : Addr) (cl : List (Str × Addr)) (fp : List Addr), PG (X.blk s H scope (compEnvC scope cl B X.env) fp) tg (tV Γ C own' tg')) (ht : ∀ (s : Shared) (H : Hp) (B : Addr) (cl : List (Str × Addr)) (fp : List Addr), PTs (X.blk s H scope (compEnvC scope cl B X.env) fp) ifs (tTs Γ WF C ifs'))
    (hk : ∀ (s : Shared) (H : Hp) (B : Addr) (cl : List (Str × Addr)) (fp : List Addr), PE (X.blk s H scope (compEnvC scope cl B X.env) fp) kx (tE Γ WF C kx'))
    (he : ∀ (s : Shared) (H : Hp) (B : Addr) (cl : List (Str × Addr)) (fp : List Addr), PE (X.blk s H scope (compEnvC scope cl B X.env) fp) vx (tE Γ WF C vx')) (hs : ∀ x, foldedSetIterable iter X.env x = pure x := by intro _; rfl) :
    PE X (.DictComp kx vx [⟨tg, iter, ifs, 0⟩] scope pos) (tE Γ W C (.dc m false own' tg' it' ifs' kx' vx')) := by
  subst ho
  exact PE_of (pe_dc hc hN hi ok hg ht hk he hs) fun _ _ _ h => dc_to hp h
theorem ps_setDc {i : Nat} {y : Str} {wi : TI} {g : TG} {tt : TT} {tk tv : TE} (hc : X.calm = true) (hN : X.N.Nodup) (hy : X.N[i]? = some y) (hyl : X.env.scope.names.lookup y = some .local)
    (hsw : swapsWith (.DictComp kx vx [⟨tg, iter, ifs, 0⟩] scope pos) (some (.Name y py)) spos.line X.env = pure true) (hi : PI X tg iter wi) (ok : BlkOk X.N X.env.scope scope own)
    (hg : ∀ (s : Shared) (H : Hp) (C : Addr) (cl : List (Str × Addr)) (fp : List Addr), PG (X.blk s H scope (compEnvC scope cl C X.env) fp) tg g) (ht : ∀ (s : Shared) (H : Hp) (C : Addr) (cl : List (Str × Addr)) (fp : List Addr), PTs (X.blk s H scope (compEnvC scope cl C X.env) fp) ifs tt)
    (hk : ∀ (s : Shared) (H : Hp) (C : Addr) (cl : List (Str × Addr)) (fp : List Addr), PE (X.blk s H scope (compEnvC scope cl C X.env) fp) kx tk)
    (he : ∀ (s : Shared) (H : Hp) (C : Addr) (cl : List (Str × Addr)) (fp : List Addr), PE (X.blk s H scope (compEnvC scope cl C X.env) fp) vx tv) (hs : ∀ x, foldedSetIterable iter X.env x = pure x := by intro _; rfl) :
    PS X (.Assign [.Name y py] (.DictComp kx vx [⟨tg, iter, ifs, 0⟩] scope pos) spos) (tAsg (tDc wi g tt tk tv (own.map (·.2))) (gName i)) := by
  refine ⟨fun pins s σ H D I h => ?_⟩
  rw [exec_Assign_Name_used _ _ _ _ hsw]
  refine wpAny_bind (wpAny_standAt (wpAny_bind ?_))
  show wpAny _ X.A (do let _ ← comprehension (.DictComp kx vx [⟨tg, iter, ifs, 0⟩] scope pos) scope X.env (firstIterPos [⟨tg, iter, ifs, 0⟩] pos) newDict false (eval iter X.env) (some (assign (.Name y py) X.env))) _ _ s
  have h : tDc wi g tt tk tv (own.map (·.2)) σ H (fun x H1 => gName i x σ H1 D.nx) := h
  refine wpAny_bind (thn (dc_core (Qf := fun _ s' => SP X pins D .next s') hc hN I hi ok hg ht hk he hs h fun L C s' m H' I' q hn f => ?_) fun _ s' hq => wpAny_pure (wpAny_pure hq))
  show wpAny _ _ (assign (.Name y py) X.env (.ref L)) _ _ _
  refine wpAny_assign_Name (store_ok2 (v := V.ref L) I' hN hy (.inl hyl) rfl (fun s2 I2 ⟨a, sb, ha⟩ => ?_) (.inr hyl))
  obtain ⟨f0, f1, f2, f3, f4, f5⟩ := f
  have haC : C ≠ a := by
    rcases ha with z | z
    · rw [z]; exact f1
    · exact fun e => f4 y a z e.symm
  refine ⟨m, hn.sameBut sb haC, fun h3 sb3 => ?_⟩
  exact ⟨_, H', I2.turned (t' := s2.toks) (fun b o hb e => (sb3.2 b hb).trans e) f0 f1 f3 f4 f5, q⟩
theorem s_setDc {i : Nat} {y : Str} (hp : ∀ σ, Γ.psi σ) (hc : X.calm = true) (hN : X.N.Nodup) (hy : X.N[i]? = some y) (hyl : X.env.scope.names.lookup y = some .local)
    (hsw : swapsWith (.DictComp kx vx [⟨tg, iter, ifs, 0⟩] scope pos) (some (.Name y py)) spos.line X.env = pure true) (ho : own.map (·.2) = own') (hi : PI X tg iter (tI Γ W C it')) (ok : BlkOk X.N X.env.scope scope own)
    (hg : ∀ (s : Shared) (H : Hp) (B : Addr) (cl : List (Str × Addr)) (fp : List Addr), PG (X.blk s H scope (compEnvC scope cl B X.env) fp) tg (tV Γ C own' tg')) (ht : ∀ (s : Shared) (H : Hp) (B : Addr) (cl : List (Str × Addr)) (fp : List Addr), PTs (X.blk s H scope (compEnvC scope cl B X.env) fp) ifs (tTs Γ WF C ifs'))
    (hk : ∀ (s : Shared) (H : Hp) (B : Addr) (cl : List (Str × Addr)) (fp : List Addr), PE (X.blk s H scope (compEnvC scope cl B X.env) fp) kx (tE Γ WF C kx'))
    (he : ∀ (s : Shared) (H : Hp) (B : Addr) (cl : List (Str × Addr)) (fp : List Addr), PE (X.blk s H scope (compEnvC scope cl B X.env) fp) vx (tE Γ WF C vx')) (hs : ∀ x, foldedSetIterable iter X.env x = pure x := by intro _; rfl) :
    PS X (.Assign [.Name y py] (.DictComp kx vx [⟨tg, iter, ifs, 0⟩] scope pos) spos) (tS Γ W C (.asg (.var i) (.dc m false own' tg' it' ifs' kx' vx'))) := by
  subst ho
  refine PS_of (ps_setDc hc hN hy hyl hsw hi ok hg ht hk he hs) fun D σ H h => ?_
  obtain ⟨φ, ρ, T, s, rs, rl, o⟩ := asg_of h
  refine dc_to (m := m) hp ⟨φ, ρ, T, s, rs, rl, o.imp fun x H1 ⟨φ1, ρ1, T1, s1, p, rs1, rl1, rv, o1⟩ => ?_⟩
  change OutA Γ φ1 ρ1 T1 H1 (.ok (s1.set i (some p)) T1) _ at o1
  exact o1.here rs1 (rl1.set rv hp)
end
end E
set_option Elab.async false
set_option linter.all false
set_option autoImplicit false
set_option maxRecDepth 100000
set_option maxHeartbeats 1000000
/-! Part 21: generator expressions: their frame, their turns. -/
namespace E
open PySem PySem.Spec PyProof.Rows L2 GenW

/-- the scope of a generator expression -/
structure GnOk (N : List Str) (sc scope : Scope) (own : List (Str × Nat)) : Prop where
  blk : BlkOk N sc scope own
  co : scope.isCoroutine = false
  nc : ∀ y ∈ scope.names, y.2 ≠ .cell
  dot : scope.names.lookup (".0" : Str) = some NameKind.local

abbrev gnEnv (X : Cx) (s : Shared) (scope : Scope) (code : Value) : Env := genEnv scope (cloFrom X.env.cells scope.names []) s.heap.objs.size code builtinsNs X.env
def genCx (X : Cx) (B : Around) (s : Shared) (H : Hp) (scope : Scope) (code : Value) (fp : List Addr) (pn : List (Addr × Obj)) : Cx where
  prog := X.prog
  w := X.w
  K := X.K
  mg := X.mg
  base := X.base
  A := B.deeper (gnEnv X s scope code)
  N := X.N
  s_0 := s
  H_0 := H
  env := gnEnv X s scope code
  outer := X.stack
  stack := gnEnv X s scope code :: X.stack
  ex := fp
  fn := fun _ => false
  calm := true
  pn := pn
  xe := fun _ _ => False

theorem over_loopG {B : Around} {elt : Expr} {gs : List Comprehension} {scope : Scope} {pos : Pos} {it acc : Value} {env : Env} :
    B.over (.compLoop (.GeneratorExp elt gs scope pos) 0 it acc env) [] = B.deeper env := by
  first
    | rfl
    | (obtain ⟨hd, d, fr, gs, u⟩ := B; simp [Around.over, Around.deeper, marksOver, frameCount, unitsOf, envsOf, guardsOf, pushEnvs, pushGuards, Code.envs, Code.env?, Code.isFrame, Code.guards, Code.isGuard, Code.weight, Code.frames, Code.isCreation, Code.isCaller, Code.cUnits, Code.isInlined])
theorem over_startG {B : Around} {elt : Expr} {gs : List Comprehension} {scope : Scope} {pos : Pos} {it acc : Value} {env : Env} :
    B.over (.compStart (.GeneratorExp elt gs scope pos) 0 it acc env) [] = B.deeper env := by
  first
    | rfl
    | (obtain ⟨hd, d, fr, gs, u⟩ := B; simp [Around.over, Around.deeper, marksOver, frameCount, unitsOf, envsOf, guardsOf, pushEnvs, pushGuards, Code.envs, Code.env?, Code.isFrame, Code.guards, Code.isGuard, Code.weight, Code.frames, Code.isCreation, Code.isCaller, Code.cUnits, Code.isInlined])

section
variable {X : Cx} {pins : List (Addr × Obj)} {σ : L2.St} {H : Hp} {s : Shared}
/-- the frame stands -/
theorem gen_start {B : Around} {scope : Scope} {own : List (Str × Nat)} {code : Value} {fp : List Addr} {pn pl : List (Addr × Obj)} {s' : Shared} {m0 : Str → Option Value} (I : Inv X pins σ H s) (ok : GnOk X.N X.env.scope scope own) (hN : X.N.Nodup)
    (hd : B.handled = none) (hf : B.frames = some X.stack) (hfp : ∀ b ∈ fp, FpOk X pins H b ∧ b < s.heap.objs.size) (kp : ∀ b o, s.heap.get? b = some o → s'.heap.get? b = some o) (hns : s'.heap.Ns s.heap.objs.size m0) (hos : s'.os = s.os) (hb : AllBare s'.gens)
    (hpn : ∀ p ∈ pn ++ pl, s'.heap.get? p.1 = some p.2 ∧ s.heap.objs.size < p.1 ∧ ∀ v, p.2.data ≠ .cell v) :
    Inv (genCx X B s H scope code fp pn) pl (L2.wipe σ (own.map (·.2))) H s' := by
  have bok := ok.blk
  have hfree : ∀ y ∈ scope.names, y.2 = .free → ∃ c, X.env.cells.lookup y.1 = some c := fun y hy e => by
    rcases bok.free y hy e with k | k
    · exact I.ok.has _ (.inl k)
    · exact I.ok.has _ (.inr k)
  have cm : ∀ {y c}, (cloFrom X.env.cells scope.names []).lookup y = some c → X.env.cells.lookup y = some c := fun e => NdefX.clo_cm hfree e
  have young : ∀ b, s.heap.objs.size ≤ b → H b = none ∧ b ∉ frs X.stack := fun b hb => by
    refine ⟨I.hok.fresh hb, fun z => ?_⟩
    rcases List.mem_cons.mp (I.stkSub b z) with e | z
    · have := I.lt
      rw [e] at hb
      exact absurd (Nat.lt_of_lt_of_le this hb) (Nat.lt_irrefl _)
    · exact I.nofs hb z
  have okG : (genCx X B s H scope code fp pn).Ok := by
    refine ⟨I.ok.mod, bok.kind, I.ok.glob, rfl, Nat.le_refl _, fun y z c e1 e2 => I.ok.inj y z c (cm e1) (cm e2), fun y hy => ?_, fun y c z e => absurd z Bool.false_ne_true, fun _ => hd, Around.frames_deeper hf, .inr ⟨rfl, rfl⟩, fun b hb => ⟨Nat.ne_of_lt (hfp b hb).2, fun y c e => (hfp b hb).1.2.2.2.2.1 y c (cm e)⟩, I.bs, Nat.le_trans I.ok.bsz I.sz, fun b o e hb => ?_, fun b hb z => ?_, I.stack, I.stkFree⟩
    · have hy : scope.names.lookup y = some .cell ∨ scope.names.lookup y = some .free := hy
      rcases hy with hy | hy
      · exact absurd rfl (ok.nc _ (PySem.mem_of_lookup hy))
      · have hm := PySem.mem_of_lookup hy
        obtain ⟨c, hc⟩ := hfree _ hm rfl
        exact ⟨c, NdefX.clo_has hfree hm hc⟩
    · obtain ⟨_, _, _, f3, _⟩ := (hfp b hb).1
      rcases f3 with z | z
      · exact I.ok.noex b o e z
      · have := Heap.lt_size (I.ok.bs b o e).1
        exact absurd (Nat.lt_of_lt_of_le this z) (Nat.lt_irrefl _)
    · obtain ⟨_, f1, f2, _⟩ := (hfp b hb).1
      rcases List.mem_cons.mp (I.stkSub b z) with e | z
      · exact f1 e
      · exact f2 z
  refine ⟨okG, hos, hb, Un.kept kp, ⟨m0, hns, fun i x v h1 h2 h3 => ?_⟩, fun y c e => ?_, I.hok.fresh (Nat.le_refl _), fun y c e => I.freeC y c (cm e), fun p hp => ?_, I.hok.kept kp, ?_⟩
  · obtain ⟨h4, h5⟩ := wipe_some h2
    have h3 : scope.names.lookup x = some .local ∨ scope.names.lookup x = some .cell ∨ scope.names.lookup x = some .free := h3
    have loc : scope.names.lookup x = some .local → False := fun z => by
      rcases bok.own _ (PySem.mem_of_lookup z) (.inl rfl) with q | q
      · obtain ⟨p, hp, e⟩ := List.mem_map.mp q
        have hi := bok.ix p hp
        have e : p.1 = x := e
        rw [e] at hi
        exact h5 (List.mem_map.mpr ⟨p, hp, nodup_ix hN hi h1⟩)
      · exact q (List.mem_of_getElem? h1)
    rcases h3 with z | z | z
    · exact (loc z).elim
    · exact absurd rfl (ok.nc _ (PySem.mem_of_lookup z))
    · have hm := PySem.mem_of_lookup z
      have hfr := bok.free _ hm rfl
      obtain ⟨m, _, hl⟩ := I.loc
      obtain ⟨u, ru, lk⟩ := hl i x v h1 h4 (.inr hfr)
      refine ⟨u, ru, .inr ⟨.inr z, ?_⟩⟩
      rcases lk with ⟨k, _⟩ | ⟨_, c, hc, ic⟩
      · have k : X.env.scope.names.lookup x = some .local := k
        rcases hfr with q | q <;> (rw [show X.env.scope.names.lookup x = _ from q] at k; cases k)
      · obtain ⟨o, ho, hd⟩ := ic
        exact ⟨c, NdefX.clo_has hfree hm hc, o, kp c o ho, hd⟩
  · obtain ⟨v, o, ho, hd⟩ := I.cell y c (cm e)
    exact ⟨v, o, kp c o ho, hd⟩
  · obtain ⟨q1, q2, q3⟩ := hpn p hp
    obtain ⟨y1, y2⟩ := young p.1 (Nat.le_of_lt q2)
    exact ⟨q1, y1, Nat.ne_of_gt q2, y2, q3⟩
  · rw [L2.wipe_length]; exact I.len
end

/-! ### turns -/
/-- who consumes: what it holds, what it goes on for -/
structure Cons where
  /-- its own objects when ys is out -/
  SI : List V → List (Addr × Obj) → Prop
  cont : V → Prop
  halt : V → Prop
/-- while the generator sleeps only the consumer's objects change -/
structure Wkn (K : Cons) (ys : List V) (sp : List (Addr × Obj)) (s s' : Shared) : Prop where
  os : s'.os = s.os
  bare : AllBare s'.gens
  keep : ∀ b o, b ∉ sp.map (·.1) → s.heap.get? b = some o → s'.heap.get? b = some o
  own : ∃ sp', K.SI ys sp' ∧ sp'.map (·.1) = sp.map (·.1) ∧ ∀ p ∈ sp', s'.heap.get? p.1 = some p.2 ∧ ∀ v, p.2.data ≠ .cell v
/-- handed out -/
def YG (X : Cx) (K : Cons) (D : V → Hp → Prop) : Protocol := fun n s₀ v s kap =>
  ∃ ys y σ H sp, K.SI ys sp ∧ RelV y v ∧ Inv X sp σ H s ∧ ((K.cont y ∧ ∀ s', Wkn K (ys ++ [y]) sp s s' → kap (.send .none) s') ∨ (K.halt y ∧ D y H))
/-- its end -/
def RG (X : Cx) (K : Cons) (F : List V → Hp → Prop) : Nat → Shared → Shared → Prop := fun n s₀ s => ∃ ys σ H sp, K.SI ys sp ∧ Inv X sp σ H s ∧ F ys H
abbrev REG (X : Cx) (K : Cons) (F : List V → Hp → Prop) : GenEnd := fun n s₀ r s₁ => ((r = .ok (.ret .none) ∨ r = .ok .next) ∧ RG X K F n s₀ s₁) ∨ ∃ e, r = .error e ∧ (fun _ _ => False : Value → Shared → Prop) e s₁
/-- the consumer's objects lie apart -/
structure Apt (X : Cx) (K : Cons) (fp : List Addr) : Prop where
  at_ : ∀ ys sp, K.SI ys sp → ∀ p ∈ sp, p.1 ∉ fp ∧ X.s_0.heap.objs.size ≤ p.1 ∧ p.1 ≠ X.env.locals ∧ (∀ x c, X.env.cells.lookup x = some c → c ≠ p.1) ∧ ∀ q ∈ X.pn, q.1 ≠ p.1
/-- what a turn may come to: by the turn, a measure, what is out -/
def tGn (J : L2.It) (g : TG) (tt : TT) (te : TE) (vs : List Nat) (σ0 : L2.St) (K : Cons) (D : V → Hp → Prop) (F : List V → Hp → Prop) (W : Nat → Nat → List V → Hp → Prop) : Prop := ∀ i m ys H, W i m ys H →
  (J.stop i H ∧ F ys H) ∨ (J.go i H ∧ ∃ Nx : List V → Hp → Prop, (∀ ys H', Nx ys H' → ∃ m', m' < m ∧ W (i + 1) m' ys H') ∧ ∀ x H', J.yld i H x H' → g x σ0 H' fun σ2 H2 => L2.wipe σ2 vs = σ0 ∧ tt σ2 H2 fun b H3 =>
    if b = true then te σ2 H3 fun y H4 => (K.cont y ∧ Nx (ys ++ [y]) H4) ∨ (K.halt y ∧ D y H4) else Nx ys H3)

section
variable {X : Cx} {pins : List (Addr × Obj)} {σ : L2.St} {H : Hp} {s : Shared}
theorem Inv.woken {sp : List (Addr × Obj)} {ys : List V} {s' : Shared} {K : Cons} {fp : List Addr} (ap : Apt X K fp) (I : Inv X sp σ H s) {ys0 : List V} (h0 : K.SI ys0 sp) (z : Wkn K ys sp s s') : ∃ sp', K.SI ys sp' ∧ sp'.map (·.1) = sp.map (·.1) ∧ Inv X sp' σ H s' := by
  obtain ⟨sp', h1, h2, h3⟩ := z.own
  refine ⟨sp', h1, h2, ?_⟩
  have no : ∀ b ∈ sp.map (·.1), H b = none ∧ b ∉ X.fs := fun b hb => by
    obtain ⟨p, hp, e⟩ := List.mem_map.mp hb
    obtain ⟨_, q2, _, q4, _⟩ := I.pin p (List.mem_append_right _ hp)
    rw [← e]; exact ⟨q2, q4⟩
  have I0 : Inv X [] σ H s := I.pins_of fun p hp => absurd hp (by simp)
  have u : Un (frs X.stack) (sp.map (·.1)) H H s.heap s'.heap := ⟨fun b o e n hf hx => z.keep b o hx e, fun b o e n hf hx => ⟨o.slots, z.keep b o hx e⟩, fun b o e n hx => n, fun b o e hx => ⟨o, z.keep b o hx e⟩, fun b xs e => e, fun b o u e => e, fun b ps e => ⟨#[], by rw [e]; simp⟩⟩
  have hok : HOk X.prog X.w H s'.heap := fun b u e => by
    have nt : ∀ b u, H b = some u → b ∉ sp.map (·.1) := fun b u e hb => by rw [(no b hb).1] at e; cases e
    refine (I.hok b u e).stay (fun c v hc y => z.keep c v ?_ y) (fun _ y => y) fun _ _ y => y
    rcases hc with y | y
    · rw [y]; exact nt b u e
    · exact nt c _ y
  have J := I0.call' (ch := sp.map (·.1)) z.os u hok z.bare fun b hb => by
    obtain ⟨p, hp, e⟩ := List.mem_map.mp hb
    obtain ⟨_, a2, a3, a4, a5⟩ := ap.at_ _ _ h0 p hp
    rw [← e]
    exact ⟨.inr a2, a3, a4, fun q hq => by
      rcases List.mem_append.mp hq with hq | hq
      · exact a5 q hq
      · exact absurd hq (by simp)⟩
  refine J.pins_of fun p hp => ?_
  obtain ⟨q1, q2⟩ := h3 p hp
  have hb : p.1 ∈ sp.map (·.1) := by rw [← h2]; exact List.mem_map_of_mem hp
  obtain ⟨n1, n2⟩ := no _ hb
  obtain ⟨p0, hp0, e0⟩ := List.mem_map.mp hb
  obtain ⟨_, _, a3, _, _⟩ := ap.at_ _ _ h0 p0 hp0
  rw [e0] at a3
  exact ⟨q1, n1, a3, n2, q2⟩

theorem seg_turn {B : Around} {elt iter tg : Expr} {ifs : List Expr} {scope : Scope} {pos : Pos} {it : Addr} {fp : List Addr} {tn : Nat → Heap → Prop} {J : L2.It} {g : TG} {tt : TT} {te : TE} {vs : List Nat} {σ0 : L2.St} {K : Cons} {D : V → Hp → Prop} {F : List V → Hp → Prop} {W : Nat → Nat → List V → Hp → Prop}
    (hA : X.A = B.deeper X.env) (hc : X.calm = true) (hxe : X.xe = fun _ _ => False) (hco : X.env.scope.isCoroutine = false) (T : Turn X.prog X.w X.K tg J fp it tn) (hexf : ∀ b ∈ fp, b ∈ X.ex) (hpn : ∀ p ∈ X.pn, p.1 ∉ fp) (ap : Apt X K fp)
    (hg : PG X tg g) (ht : PTs X ifs tt) (he : PE X elt te) (h : tGn J g tt te vs σ0 K D F W) :
    ∀ (m i : Nat) (ys : List V) (s₀ s : Shared) (H : Hp) (sp : List (Addr × Obj)), W i m ys H → K.SI ys sp → Inv X sp σ0 H s → tn i s.heap → (∀ b ∈ fp, H b = none) → ∀ n, m < n →
      Seg (model X.prog X.w) B (REG X K F) (YG X K D) n s₀ (.compLoop (.GeneratorExp elt [⟨tg, iter, ifs, 0⟩] scope pos) 0 (.ref it) .none X.env)
        ((model X.prog X.w).den (.compLoop (.GeneratorExp elt [⟨tg, iter, ifs, 0⟩] scope pos) 0 (.ref it) .none X.env)) [] s := by
  have stat : ∀ {pl : List (Addr × Obj)} {σ' : L2.St} {H' : Hp} {s' : Shared}, Inv X pl σ' H' s' → (∀ p ∈ pl, p.1 ∉ fp) → (∀ b ∈ fp, H' b = none) → ∀ b ∈ fp, FpOk X pl H' b := fun {pl σ' H' s'} I' hpl hn b hb =>
    ⟨hn b hb, (I'.ok.exf b (hexf b hb)).1, I'.ok.exfs b (hexf b hb), .inl (hexf b hb), fun x c e => (I'.ok.exf b (hexf b hb)).2 x c e, fun p hp z => by
      rcases List.mem_append.mp hp with hp | hp
      · exact hpn p hp (z ▸ hb)
      · exact hpl p hp (z ▸ hb)⟩
  intro m
  induction m using Nat.strongRecOn with
  | _ m ih =>
    intro i ys s₀ s H sp w hSI I st nf n hn
    have hsp : ∀ p ∈ sp, p.1 ∉ fp := fun p hp => (ap.at_ _ _ hSI p hp).1
    show Seg _ B _ _ n s₀ _ ((compTurn (.GeneratorExp elt [⟨tg, iter, ifs, 0⟩] scope pos) 0 (.ref it) .none X.env).onRaise (leaving X.env)) [] s
    rw [compTurn_gen, Sem.onRaise_eq_wrap]
    refine seg_bind_wrap (wpAny_standAt ?_)
    rcases h i m ys H w with ⟨stop, hF⟩ | ⟨go, Nx, hNx, step⟩
    · have td := T.done X rfl rfl rfl hc i sp s σ0 H (fun _ _ => False) I (stat I hsp nf) st stop
      refine seg_bind_wrap ?_
      rw [over_loopG, ← hA]
      refine wpAny_mono td (fun r s6 ⟨hr, I6⟩ => ?_) fun _ _ z => z.elim
      subst hr
      exact seg_end (.ok .next) (.inl ⟨.inr rfl, ys, σ0, H, sp, hSI, I6, hF⟩)
    · have ti := T.item X rfl rfl rfl hc i sp s σ0 H (fun _ _ => False) I (stat I hsp nf) st go
      refine seg_bind_wrap ?_
      rw [over_loopG, ← hA]
      refine wpAny_mono ti (fun r s6 ⟨u, hr, h6⟩ => ?_) fun _ _ z => z.elim
      subst hr
      refine seg_bind_wrap ?_
      rw [over_loopG, ← hA]
      refine wpAny_mono h6 (fun _ s7 ⟨x, H7, I7, r7, y7, st7, n7⟩ => ?_) fun _ _ z => z.elim
      have I7' := I7.pinned (stat I7 hsp n7) (T.obj _ _ st7)
      have pg := hg.run _ s7 _ H7 x u _ I7' r7 (step x H7 y7)
      rw [hxe] at pg
      refine seg_bind_wrap ?_
      rw [over_loopG, ← hA]
      refine wpAny_mono pg (fun _ s8 ⟨σ8, H8, I8, hw8, q8⟩ => ?_) fun _ _ z => z.elim
      have pt := ht.run _ s8 σ8 H8 _ I8 q8
      rw [hxe] at pt
      refine seg_bind_wrap ?_
      rw [over_loopG, ← hA]
      refine wpAny_mono pt (fun b s9 ⟨H9, I9, q9⟩ => ?_) fun _ _ z => z.elim
      -- the turn's end
      have hl : ∀ {s' : Shared} {H' : Hp} {pl : List (Addr × Obj)}, Inv X pl σ8 H' s' → Inv X pl σ0 H' s' := fun {s' H' pl} I' => by
        refine I'.weak (by rw [← hw8, L2.wipe_length]) fun j v e => ?_
        rw [← hw8] at e
        exact (wipe_some e).1
      have pin' : ∀ {s' : Shared} {H' : Hp}, Inv X (sp ++ pinsAt fp s7.heap) σ8 H' s' → ∀ b ∈ fp, ∀ o, s7.heap.get? b = some o → s'.heap.get? b = some o ∧ H' b = none := fun {s' H'} I' b hb o e =>
        let z := I'.pin (b, o) (List.mem_append_right _ (List.mem_append_right _ (mem_pinsAt hb e)))
        ⟨z.1, z.2.1⟩
      have nfp : ∀ {s' : Shared} {H' : Hp}, Inv X (sp ++ pinsAt fp s7.heap) σ8 H' s' → ∀ b ∈ fp, H' b = none := fun {s' H'} I' b hb => by
        obtain ⟨o, e, _⟩ := T.obj _ _ st7 b hb
        exact (pin' I' b hb o e).2
      cases b with
      | false =>
        simp only [Bool.false_eq_true, if_false] at q9 ⊢
        obtain ⟨m', hm, w'⟩ := hNx ys H9 q9
        exact seg_again rfl (ih m' hm (i + 1) ys s₀ s9 H9 sp w' hSI (hl I9.unpinned) (T.keep _ _ _ st7 fun b hb o e => (pin' I9 b hb o e).1) (nfp I9) n (by omega))
      | true =>
        simp only [if_true] at q9 ⊢
        have hy : ∀ v, yieldOut X.env v = yieldValue v := fun v => by simp only [yieldOut, hco, Bool.false_eq_true, if_false]
        simp only [hy]
        rw [Sem.bind_eq_wrap', Sem.bind_eq_wrap', Sem.wrap_wrap, Sem.wrap_wrap]
        have pe := he.run _ s9 σ8 H9 _ I9 q9
        rw [hxe] at pe
        refine seg_wrap ?_
        rw [over_loopG, ← hA]
        refine wpAny_mono pe (fun z s10 ⟨yv, H10, I10, r10, q10⟩ => ?_) fun _ _ z => z.elim
        obtain ⟨n', rfl⟩ : ∃ n', n = n' + 1 := ⟨n - 1, by omega⟩
        have st10 : tn (i + 1) s10.heap := T.keep _ _ _ st7 fun b hb o e => (pin' I10 b hb o e).1
        refine seg_at (seg_yield rfl rfl rfl ⟨ys, yv, σ8, H10, sp, hSI, r10, I10.unpinned, ?_⟩)
        rcases q10 with ⟨hc1, nx⟩ | hd
        · refine .inl ⟨hc1, fun s' hz => ?_⟩
          obtain ⟨m', hm, w'⟩ := hNx _ H10 nx
          obtain ⟨sp', h1, h2, I11⟩ := Inv.woken ap I10.unpinned hSI hz
          refine seg_again rfl (ih m' hm (i + 1) _ s' s' H10 sp' w' h1 (hl I11) (T.keep _ _ _ st10 fun b hb o e => hz.keep b o (fun hm => ?_) e) (nfp I10) n' (by omega))
          obtain ⟨p, hp, e⟩ := List.mem_map.mp hm
          exact hsp p hp (e ▸ hb)
        · exact .inr hd

theorem seg_begin {B : Around} {elt iter tg : Expr} {ifs : List Expr} {scope : Scope} {pos : Pos} {it : Addr} {fp : List Addr} {tn : Nat → Heap → Prop} {J : L2.It} {R : GenEnd} {Y : Protocol} {n : Nat} {s₀ : Shared} (T : Turn X.prog X.w X.K tg J fp it tn) (st : tn 0 s.heap)
    (loop : Seg (model X.prog X.w) B R Y n s₀ (.compLoop (.GeneratorExp elt [⟨tg, iter, ifs, 0⟩] scope pos) 0 (.ref it) .none X.env)
        ((model X.prog X.w).den (.compLoop (.GeneratorExp elt [⟨tg, iter, ifs, 0⟩] scope pos) 0 (.ref it) .none X.env)) [] s) :
    Seg (model X.prog X.w) B R Y n s₀ (.compStart (.GeneratorExp elt [⟨tg, iter, ifs, 0⟩] scope pos) 0 (.ref it) .none X.env)
      ((model X.prog X.w).den (.compStart (.GeneratorExp elt [⟨tg, iter, ifs, 0⟩] scope pos) 0 (.ref it) .none X.env)) [] s := by
  show Seg _ B _ _ _ s₀ _ ((compStart (.GeneratorExp elt [⟨tg, iter, ifs, 0⟩] scope pos) 0 (.ref it) .none X.env).onRaise (leaving X.env)) [] s
  unfold compStart
  rw [Sem.onRaise_eq_wrap]
  show Seg _ B _ _ _ s₀ _ ((ask >>= _).wrap _ _ _ _) [] s
  refine seg_bind_wrap (wpAny_askSetting ?_)
  split
  · exact seg_again rfl loop
  · first
      | exact seg_bind_wrap (wpAny_rule (seg_bind_wrap (wpAny_standAt (seg_bind_wrap (T.self _ 0 s _ _ st (seg_again rfl loop))))))
      | (refine seg_bind_wrap (wpAny_rule ?_); show Seg _ B _ _ _ s₀ _ ((standAt iter.pos >>= _).wrap _ _ _ _) [] s; exact seg_bind_wrap (wpAny_standAt (seg_bind_wrap (T.self _ 0 s _ _ st (seg_again rfl loop)))))
end
end E
set_option Elab.async false
set_option linter.all false
set_option autoImplicit false
set_option maxRecDepth 100000
set_option maxHeartbeats 1000000
/-! Part 22: all, any of a generator expression. -/
namespace E
open PySem PySem.Spec PyProof.Rows L2 GenW

section
variable {X : Cx} {pins : List (Addr × Obj)} {σ : L2.St} {H : Hp} {s : Shared}
/-- back in the def's frame -/
theorem gen_back {B : Around} {scope : Scope} {code : Value} {fp : List Addr} {pn sp : List (Addr × Obj)} {σ' : L2.St} {H2 H' : Hp} {s4 s1 s2 : Shared} (I : Inv X pins σ H2 s4) (hfp : ∀ b ∈ fp, FpOk X pins H2 b) (J : Inv (genCx X B s4 H2 scope code fp pn) sp σ' H' s1)
    (os : s2.os = s1.os) (kp : ∀ b o, s1.heap.get? b = some o → s2.heap.get? b = some o) (bare : AllBare s2.gens) : Inv X pins σ H' s2 := by
  have u : Un (frs X.stack) fp H2 H' s4.heap s1.heap := J.base
  have I1 : Inv X pins σ H' s1 := I.call' (ch := fp) J.os u J.hok J.bare fun b hb => ⟨(hfp b hb).2.2.2.1, (hfp b hb).2.1, (hfp b hb).2.2.2.2.1, (hfp b hb).2.2.2.2.2⟩
  exact I1.call' (ch := []) os (Un.kept kp) (I1.hok.kept kp) bare fun b z => by simp at z

/-- a generator that has not begun -/
structure Rdy (X : Cx) (pins : List (Addr × Obj)) (σ : L2.St) (H2 : Hp) (tg elt iter : Expr) (ifs : List Expr) (scope : Scope) (pos : Pos) (J : L2.It) (it : Addr) (fp : List Addr) (tn : Nat → Heap → Prop) (s4 : Shared) (code : Value) (a g : Nat) (go : Obj) (s5 : Shared) : Prop where
  inv : Inv X pins σ H2 s4
  fpo : ∀ b ∈ fp, FpOk X pins H2 b ∧ b < s4.heap.objs.size
  turn : Turn X.prog X.w X.K tg J fp it tn
  tn0 : tn 0 s4.heap
  keep : ∀ b o, s4.heap.get? b = some o → s5.heap.get? b = some o
  os : s5.os = s4.os
  bare : AllBare s5.gens
  ns : ∃ m0, s5.heap.Ns s4.heap.objs.size m0
  lt : s4.heap.objs.size < a
  at_ : s5.heap.get? a = some go
  cl : go.cls = .type "generator"
  dat : ∃ nm qn, go.data = .fields #[.int g 0, nm, qn]
  sl : go.slots = #[]
  gen : s5.gens[g]? = some (.fresh (.compStart (.GeneratorExp elt [⟨tg, iter, ifs, 0⟩] scope pos) 0 (.ref it) .none (gnEnv X s4 scope code)))

theorem gen_make {c P : Addr} {elt iter tg : Expr} {ifs : List Expr} {gpos : Pos} {scope : Scope} {own : List (Str × Nat)} {wi : TI} {k : Nat} {Q' : Value → Shared → Prop} {R : L2.It → Hp → Prop}
    (hr : Room k X.A) (TB : GxR.TabB X.base X.mg c P) (hcode : X.env.code = .ref c) (S : GnOk X.N X.env.scope scope own) (hi : PI X tg iter wi)
    (hs : ∀ v, genFold iter X.env v = pure v) (I : Inv X pins σ H s) (h : wi σ H fun J H1 => GxR.TabG H1 P ∧ R J H1)
    (hQ : ∀ J H1 H2 it fp tn s4 code a g go s5, R J H1 → GxR.Tabbed P H1 H2 → Rdy X pins σ H2 tg elt iter ifs scope gpos J it fp tn s4 code a g go s5 → Q' (.ref a) s5) :
    wpAny (model X.prog X.w) X.A (eval (.GeneratorExp elt [⟨tg, iter, ifs, 0⟩] scope gpos) X.env) Q' X.xe s := by
  have bok := S.blk
  have hfree : ∀ y ∈ scope.names, y.2 = .free → ∃ c, X.env.cells.lookup y.1 = some c := fun y hy e => by
    rcases bok.free y hy e with k | k
    · exact I.ok.has _ (.inl k)
    · exact I.ok.has _ (.inr k)
  refine wpAny_GeneratorExp_make S.co (closure_ok hfree) S.nc S.dot bok.kind hr.depth ?_ hs
  refine wpAny_mono (hi.run pins s σ H _ I h) (fun xv s1 hx => wpAny_mono hx (fun itv s2 h2 => ?_) fun _ _ e => e) fun _ _ e => e
  obtain ⟨it, fp, tn, J, H1, e, I2, T, st2, f2, ⟨ps, hP, ht⟩, q⟩ := h2
  subst e
  refine ⟨I2.nolimit, ?_⟩
  have hPs : s2.heap.get? P = some { cls := .none, data := .fields ps } := I2.hok P _ hP
  have cd : PySem.W.CodeHd s2.heap c P := TB.code.keeps fun b u e => I2.bk b u e
  have cont : ∀ (code : Value) (h3 : Heap) (tk : Nat) (ps' : Array Value), Heap.ExtBut P s2.heap h3 → s2.heap.objs.size ≤ h3.objs.size → h3.get? P = some { cls := .none, data := .fields ps' } → (∃ more, ps' = ps ++ more) → TriplesOk ps'.toList →
      wpAny (model X.prog X.w) X.A (builtinsFor X.env.globals X.env.builtins) (fun bi s₄ =>
        ∀ h', h'.Ns s₄.heap.objs.size (fun y => if y = ".0" then some (.ref it) else none) → Heap.SameBut s₄.heap.objs.size (s₄.heap.push { cls := .type "frame", data := .dict #[] }) h' →
          Q' (.ref h'.objs.size) { s₄ with
            gens := s₄.gens.push (.fresh (.compStart (.GeneratorExp elt [⟨tg, iter, ifs, 0⟩] scope gpos) 0 (.ref it) .none (genEnv scope (cloFrom X.env.cells scope.names []) s₄.heap.objs.size code bi X.env))),
            toks := s₄.toks + 1 + 1 + 1,
            heap := h'.push { cls := .type "generator", data := .fields #[.int s₄.gens.size 0, .str "<genexpr>" (s₄.toks + 1), .str (X.env.qual ++ "<genexpr>") (s₄.toks + 1 + 1)] } }) X.xe { s2 with heap := h3, toks := tk } := by
    intro code h3 tk ps' hx hsz hP3 hmore ht3
    obtain ⟨bm, ob, e1, e2, e3, e4, e5, e6, e7, e8⟩ := TB.bm
    have keep3 : ∀ b u, b ≠ P → s2.heap.get? b = some u → h3.get? b = some u := fun b u hb e => hx b u hb e
    refine wpAny_builtinsFor (m := X.mg) (by rw [I2.ok.glob]; exact (I2.mod.glob.keeps I2.bk).extBut hx TB.gP) e1 e2 (keep3 _ _ e4 (I2.bk _ _ e5)) e6 e7 e8 ?_
    obtain ⟨more, em⟩ := hmore
    have I3 : Inv X pins σ (upd H1 P (.tbl (ps ++ more))) { s2 with heap := h3, toks := tk } := GxR.inv_tab (g' := s2.gens) (d' := s2.drawn) I2 hP keep3 (by rw [← em]; exact hP3) I2.bare
    intro h' hn' hs'
    have hsz' : h'.objs.size = h3.objs.size + 1 := by rw [hs'.1, Heap.size_push]
    have kp4 : ∀ b o, h3.get? b = some o → h'.get? b = some o := fun b o e => hs'.extBut b o (Nat.ne_of_lt (Heap.lt_size e)) (Heap.get?_push_of_some _ e)
    refine hQ J H1 (upd H1 P (.tbl (ps ++ more))) it fp tn { s2 with heap := h3, toks := tk } code h'.objs.size s2.gens.size _ _ q ⟨⟨ps ++ more, upd_same, by rw [← em]; exact ht3⟩, fun b hb => upd_ne hb⟩
      ⟨I3, fun b hb => ?_, T, T.keep _ _ _ st2 fun b hb o e => keep3 b o (fun z => ?_) e, fun b o e => Heap.get?_push_of_some _ (kp4 b o e), rfl, AllBare.push I2.bare rfl, ⟨_, hn'.push _⟩, ?_, Heap.get?_push_size _ rfl, rfl, ⟨_, _, rfl⟩, rfl, Array.getElem?_push_size ..⟩
    · obtain ⟨f0, f1⟩ := f2 b hb
      have nP : b ≠ P := fun z => by rw [z, hP] at f0; cases f0
      refine ⟨⟨by rw [upd_ne nP]; exact f0, f1⟩, ?_⟩
      obtain ⟨o, e, _⟩ := T.obj _ _ st2 b hb
      exact Nat.lt_of_lt_of_le (Heap.lt_size e) hsz
    · have f0 := (f2 b hb).1
      rw [z, hP] at f0; cases f0
    · show h3.objs.size < h'.objs.size
      omega
  cases hf : codeAmong gpos ps.toList with
  | none =>
    refine wpAny_genexprCodeX hcode (cd.code hPs ht) (cd.tab hPs) hf fun c' h' tk hx hge hlt hco' _ htab' _ => ?_
    obtain ⟨o1, vs, f1, tf, fl, tg, inF, tx, tt, op, _, _, _, _, _, _, _, _, _, htr, _⟩ := hco'
    exact cont _ h' tk _ hx (Nat.le_trans hge (Nat.le_of_lt hlt)) htab'.2 ⟨_, rfl⟩ htr
  | some cv =>
    refine wpAny_genexprCode_hit hcode (cd.code hPs ht) hf ?_
    exact cont cv s2.heap s2.toks ps (Heap.ExtBut.refl _ _) (Nat.le_refl _) hPs ⟨#[], by simp⟩ ht

def Kag (a : Bool) : Cons where
  SI := fun _ sp => sp = []
  cont := fun y => y = .bl a
  halt := fun y => y = .bl (!a)

theorem Rdy.goes {tg elt iter : Expr} {ifs : List Expr} {scope : Scope} {pos : Pos} {own : List (Str × Nat)} {J : L2.It} {it : Addr} {fp : List Addr} {tn : Nat → Heap → Prop} {s4 s5 s6 : Shared} {code : Value} {a g : Nat} {go : Obj} {H2 : Hp} {B : Around} {K : Cons} {D : V → Hp → Prop} {F : List V → Hp → Prop}
    {gg : TG} {tt : TT} {te : TE} {vs : List Nat} {W : Nat → Nat → List V → Hp → Prop} {m : Nat} {sp : List (Addr × Obj)}
    (rd : Rdy X pins σ H2 tg elt iter ifs scope pos J it fp tn s4 code a g go s5) (S : GnOk X.N X.env.scope scope own) (hN : X.N.Nodup) (hd : B.handled = none) (hf : B.frames = some X.stack)
    (kp : ∀ b o, s5.heap.get? b = some o → s6.heap.get? b = some o) (os : s6.os = s5.os) (bare : AllBare s6.gens)
    (hsp : K.SI [] sp) (hspk : ∀ p ∈ sp, s6.heap.get? p.1 = some p.2 ∧ a < p.1 ∧ ∀ v, p.2.data ≠ .cell v) (hsi : ∀ ys sp', K.SI ys sp' → ∀ p ∈ sp', a < p.1)
    (hg : PG (genCx X B s4 H2 scope code fp [(a, go)]) tg gg) (ht : PTs (genCx X B s4 H2 scope code fp [(a, go)]) ifs tt) (he : PE (genCx X B s4 H2 scope code fp [(a, go)]) elt te) (hv : vs = own.map (·.2)) (h : tGn J gg tt te vs (L2.wipe σ vs) K D F W) (w0 : W 0 m [] H2) :
    GenState.Goes (model X.prog X.w) B (REG (genCx X B s4 H2 scope code fp [(a, go)]) K F) (YG (genCx X B s4 H2 scope code fp [(a, go)]) K D) (m + 1) (.fresh (.compStart (.GeneratorExp elt [⟨tg, iter, ifs, 0⟩] scope pos) 0 (.ref it) .none (gnEnv X s4 scope code))) (.send .none) s6 := by
  refine ⟨rfl, ?_⟩
  subst hv
  obtain ⟨m0, hn⟩ := rd.ns
  have I := rd.inv
  have kp6 : ∀ b o, s4.heap.get? b = some o → s6.heap.get? b = some o := fun b o e => kp b o (rd.keep b o e)
  obtain ⟨nm, qn, hdat⟩ := rd.dat
  have IG : Inv (genCx X B s4 H2 scope code fp [(a, go)]) sp (L2.wipe σ (own.map (·.2))) H2 s6 := gen_start I S hN hd hf rd.fpo kp6 (hn.keeps kp) (os.trans rd.os) bare fun p hp => by
    rcases List.mem_append.mp hp with hp | hp
    · rw [List.mem_singleton.mp hp]
      exact ⟨kp _ _ rd.at_, rd.lt, fun v q => by rw [hdat] at q; cases q⟩
    · obtain ⟨q1, q2, q3⟩ := hspk p hp
      exact ⟨q1, Nat.lt_trans rd.lt q2, q3⟩
  have hlt : ∀ b ∈ fp, b < s4.heap.objs.size := fun b hb => (rd.fpo b hb).2
  have ap : Apt (genCx X B s4 H2 scope code fp [(a, go)]) K fp := ⟨fun ys sp' h1 p hp => by
    have q := hsi ys sp' h1 p hp
    have q2 : s4.heap.objs.size < p.1 := Nat.lt_trans rd.lt q
    refine ⟨fun z => absurd (Nat.lt_trans (hlt _ z) q2) (Nat.lt_irrefl _), Nat.le_of_lt q2, Nat.ne_of_gt q2, fun x c e z => ?_, fun r hr => ?_⟩
    · obtain ⟨v, ic⟩ := I.cell x c (NdefX.clo_cm (fun y hy e => by
        rcases S.blk.free y hy e with k | k
        · exact I.ok.has _ (.inl k)
        · exact I.ok.has _ (.inr k)) e)
      have := ic.lt
      rw [z] at this
      exact absurd (Nat.lt_trans this q2) (Nat.lt_irrefl _)
    · rw [List.mem_singleton.mp hr]
      exact Nat.ne_of_lt q⟩
  have st6 : tn 0 s6.heap := rd.turn.keep _ _ _ rd.tn0 fun b _ o e => kp6 b o e
  exact seg_begin (X := genCx X B s4 H2 scope code fp [(a, go)]) rd.turn st6 (seg_turn (X := genCx X B s4 H2 scope code fp [(a, go)]) rfl rfl rfl S.co rd.turn (fun b hb => hb) (fun p hp => by
    rw [List.mem_singleton.mp hp]
    exact fun z => absurd (Nat.lt_trans (hlt _ z) rd.lt) (Nat.lt_irrefl _)) ap hg ht he h m 0 [] s6 s6 H2 sp w0 hsp IG st6 (fun b hb => (rd.fpo b hb).1.1) (m + 1) (Nat.lt_succ_self _))

/-- the loop of all, of any -/
theorem all_loop {A : Around} {R : Result → Shared → Prop} {XG : Cx} {D : V → Hp → Prop} {F : List V → Hp → Prop} {a g : Nat} {go : Obj} (hP : XG.prog = X.prog) (hw : XG.w = X.w) (hh : A.handled = none) (hd : A.depth < recursionLimit) (hpn : (a, go) ∈ XG.pn) (hgo : ∀ h : Heap, h.get? a = some go → h.IsGen a g)
    (hF : ∀ s1 s2 σ' H', Inv XG [] σ' H' s1 → s2.os = s1.os → (∀ b o, s1.heap.get? b = some o → s2.heap.get? b = some o) → AllBare s2.gens → (∃ ys, F ys H') → R (.ok (.ret (.bool true))) s2)
    (hD : ∀ s1 s2 σ' H', Inv XG [] σ' H' s1 → s2.os = s1.os → (∀ b o, s1.heap.get? b = some o → s2.heap.get? b = some o) → AllBare s2.gens → D (.bl false) H' → R (.ok (.ret (.bool false))) s2) :
    ∀ (n : Nat) (s : Shared), s.heap.IsGen a g → s.heap.NoLimit → AllBare s.gens →
      (∃ gs, s.gens[g]? = some gs ∧ gs.Goes (model X.prog X.w) A.in1.in1 (REG XG (Kag true) F) (YG XG (Kag true) D) n (.send .none) (s.setGen g .running)) →
      codeAny (model X.prog X.w) A (.builtin "all.loop" ⟨[.ref a], []⟩) R s := by
  intro n
  induction n with
  | zero =>
    intro s hg hl hb ⟨gs, hgs, hgo'⟩
    refine codeAny_builtin PySem.F.entry_all_loop ?_
    rw [Around.under_plainId PySem.F.plain_all_loop _]
    show wpAny _ A.in1 (pyNext (.ref a) >>= _) _ _ s
    refine wpAny_bind (next_genG (A := A.in1) hh hl hd hg hgs hgo' (fun v s₁ gs' hbare hv => ?_) (fun s₁ hp h' hk => ?_) fun e s₁ he => he.elim)
    · obtain ⟨ys, y, σ1, H1, sp, hsi, ry, I1, hv⟩ := hv
      have hsi : sp = [] := hsi
      subst hsi
      rcases hv with ⟨hc, hk⟩ | ⟨hc, hd'⟩
      · exact False.elim (hk s₁ ⟨rfl, I1.bare, fun _ _ _ e => e, [], rfl, rfl, fun p hp => absurd hp (by simp)⟩)
      · have hc : y = .bl false := hc
        subst hc
        have ry : v = .bool false := ry
        subst ry
        refine wpAny_bind (wpAny_holding (wpAny_truthy_bool ?_))
        refine wpAny_bind (wpAny_letGo ?_)
        simp only [Bool.false_eq_true, if_false]
        refine wpAny_bind (wpAny_rule (wpAny_pure ?_))
        exact hD s₁ _ _ _ I1 rfl (fun _ _ e => e) (allBare_setGen I1.bare hbare) hd'
    · obtain ⟨ys, σ1, H1, sp, hsi, I1, hF'⟩ := hp
      have hsi : sp = [] := hsi
      subst hsi
      refine wpAny_bind (wpAny_rule (wpAny_pure ?_))
      exact hF s₁ _ _ _ I1 rfl hk (allBare_setGen I1.bare rfl) ⟨ys, hF'⟩
  | succ n ih =>
    intro s hg hl hb ⟨gs, hgs, hgo'⟩
    have hgl : g < s.gens.size := (Array.getElem?_eq_some_iff.mp hgs).1
    refine codeAny_builtin PySem.F.entry_all_loop ?_
    rw [Around.under_plainId PySem.F.plain_all_loop _]
    show wpAny _ A.in1 (pyNext (.ref a) >>= _) _ _ s
    refine wpAny_bind (wpAny_gsz (n := g + 1) hgl (next_genG (A := A.in1) hh hl hd hg hgs hgo' (fun v s₁ gs' hbare hv => ?_) (fun s₁ hp h' hk => ?_) fun e s₁ he => he.elim))
    · intro hsz
      obtain ⟨ys, y, σ1, H1, sp, hsi, ry, I1, hv⟩ := hv
      have hsi : sp = [] := hsi
      subst hsi
      have hsz1 : g < s₁.gens.size := by
        have q : (s₁.setGen g gs').gens.size = s₁.gens.size := setGen_size _ _ _
        have hsz' : g + 1 ≤ (s₁.setGen g gs').gens.size := hsz
        omega
      rcases hv with ⟨hc, hk⟩ | ⟨hc, hd'⟩
      · have hc : y = .bl true := hc
        subst hc
        have ry : v = .bool true := ry
        subst ry
        refine wpAny_bind (wpAny_holding (wpAny_truthy_bool ?_))
        refine wpAny_bind (wpAny_letGo ?_)
        simp only [if_true]
        refine wpAny_pure ⟨plainId_quiet PySem.F.plain_all_loop _, ih _ ?_ I1.nolimit (allBare_setGen I1.bare hbare) ⟨gs', setGen_at hsz1, ?_⟩⟩
        · exact hgo _ (I1.pin (a, go) (List.mem_append_left _ hpn)).1
        · exact hk _ ⟨rfl, allBare_setGen (s := s₁.setGen g gs') (allBare_setGen I1.bare hbare) rfl, fun _ _ _ e => e, [], rfl, rfl, fun p hp => absurd hp (by simp)⟩
      · have hc : y = .bl false := hc
        subst hc
        have ry : v = .bool false := ry
        subst ry
        refine wpAny_bind (wpAny_holding (wpAny_truthy_bool ?_))
        refine wpAny_bind (wpAny_letGo ?_)
        simp only [Bool.false_eq_true, if_false]
        refine wpAny_bind (wpAny_rule (wpAny_pure ?_))
        exact hD s₁ _ _ _ I1 rfl (fun _ _ e => e) (allBare_setGen I1.bare hbare) hd'
    · intro _
      obtain ⟨ys, σ1, H1, sp, hsi, I1, hF'⟩ := hp
      have hsi : sp = [] := hsi
      subst hsi
      refine wpAny_bind (wpAny_rule (wpAny_pure ?_))
      exact hF s₁ _ _ _ I1 rfl hk (allBare_setGen I1.bare rfl) ⟨ys, hF'⟩
end
end E
set_option Elab.async false
set_option linter.all false
set_option autoImplicit false
set_option maxRecDepth 100000
set_option maxHeartbeats 1000000
/-! Part 23: all, any: what they compute. -/
namespace E
open PySem PySem.Spec PyProof.Rows L2 GenW

section
variable {X : Cx} {pins : List (Addr × Obj)} {σ : L2.St} {H : Hp} {s : Shared}
theorem any_loop {A : Around} {R : Result → Shared → Prop} {XG : Cx} {D : V → Hp → Prop} {F : List V → Hp → Prop} {a g : Nat} {go : Obj} (hP : XG.prog = X.prog) (hw : XG.w = X.w) (hh : A.handled = none) (hd : A.depth < recursionLimit) (hpn : (a, go) ∈ XG.pn) (hgo : ∀ h : Heap, h.get? a = some go → h.IsGen a g)
    (hF : ∀ s1 s2 σ' H', Inv XG [] σ' H' s1 → s2.os = s1.os → (∀ b o, s1.heap.get? b = some o → s2.heap.get? b = some o) → AllBare s2.gens → (∃ ys, F ys H') → R (.ok (.ret (.bool false))) s2)
    (hD : ∀ s1 s2 σ' H', Inv XG [] σ' H' s1 → s2.os = s1.os → (∀ b o, s1.heap.get? b = some o → s2.heap.get? b = some o) → AllBare s2.gens → D (.bl true) H' → R (.ok (.ret (.bool true))) s2) :
    ∀ (n : Nat) (s : Shared), s.heap.IsGen a g → s.heap.NoLimit → AllBare s.gens →
      (∃ gs, s.gens[g]? = some gs ∧ gs.Goes (model X.prog X.w) A.in1.in1 (REG XG (Kag false) F) (YG XG (Kag false) D) n (.send .none) (s.setGen g .running)) →
      codeAny (model X.prog X.w) A (.builtin "any.loop" ⟨[.ref a], []⟩) R s := by
  intro n
  induction n with
  | zero =>
    intro s hg hl hb ⟨gs, hgs, hgo'⟩
    refine codeAny_builtin PySem.F.entry_any_loop ?_
    rw [Around.under_plainId PySem.F.plain_any_loop _]
    show wpAny _ A.in1 (pyNext (.ref a) >>= _) _ _ s
    refine wpAny_bind (next_genG (A := A.in1) hh hl hd hg hgs hgo' (fun v s₁ gs' hbare hv => ?_) (fun s₁ hp h' hk => ?_) fun e s₁ he => he.elim)
    · obtain ⟨ys, y, σ1, H1, sp, hsi, ry, I1, hv⟩ := hv
      have hsi : sp = [] := hsi
      subst hsi
      rcases hv with ⟨hc, hk⟩ | ⟨hc, hd'⟩
      · exact False.elim (hk s₁ ⟨rfl, I1.bare, fun _ _ _ e => e, [], rfl, rfl, fun p hp => absurd hp (by simp)⟩)
      · have hc : y = .bl true := hc
        subst hc
        have ry : v = .bool true := ry
        subst ry
        refine wpAny_bind (wpAny_holding (wpAny_truthy_bool ?_))
        refine wpAny_bind (wpAny_letGo ?_)
        simp only [if_true]
        refine wpAny_bind (wpAny_rule (wpAny_pure ?_))
        exact hD s₁ _ _ _ I1 rfl (fun _ _ e => e) (allBare_setGen I1.bare hbare) hd'
    · obtain ⟨ys, σ1, H1, sp, hsi, I1, hF'⟩ := hp
      have hsi : sp = [] := hsi
      subst hsi
      refine wpAny_bind (wpAny_rule (wpAny_pure ?_))
      exact hF s₁ _ _ _ I1 rfl hk (allBare_setGen I1.bare rfl) ⟨ys, hF'⟩
  | succ n ih =>
    intro s hg hl hb ⟨gs, hgs, hgo'⟩
    have hgl : g < s.gens.size := (Array.getElem?_eq_some_iff.mp hgs).1
    refine codeAny_builtin PySem.F.entry_any_loop ?_
    rw [Around.under_plainId PySem.F.plain_any_loop _]
    show wpAny _ A.in1 (pyNext (.ref a) >>= _) _ _ s
    refine wpAny_bind (wpAny_gsz (n := g + 1) hgl (next_genG (A := A.in1) hh hl hd hg hgs hgo' (fun v s₁ gs' hbare hv => ?_) (fun s₁ hp h' hk => ?_) fun e s₁ he => he.elim))
    · intro hsz
      obtain ⟨ys, y, σ1, H1, sp, hsi, ry, I1, hv⟩ := hv
      have hsi : sp = [] := hsi
      subst hsi
      have hsz1 : g < s₁.gens.size := by
        have q : (s₁.setGen g gs').gens.size = s₁.gens.size := setGen_size _ _ _
        have hsz' : g + 1 ≤ (s₁.setGen g gs').gens.size := hsz
        omega
      rcases hv with ⟨hc, hk⟩ | ⟨hc, hd'⟩
      · have hc : y = .bl false := hc
        subst hc
        have ry : v = .bool false := ry
        subst ry
        refine wpAny_bind (wpAny_holding (wpAny_truthy_bool ?_))
        refine wpAny_bind (wpAny_letGo ?_)
        simp only [Bool.false_eq_true, if_false]
        refine wpAny_pure ⟨plainId_quiet PySem.F.plain_any_loop _, ih _ ?_ I1.nolimit (allBare_setGen I1.bare hbare) ⟨gs', setGen_at hsz1, ?_⟩⟩
        · exact hgo _ (I1.pin (a, go) (List.mem_append_left _ hpn)).1
        · exact hk _ ⟨rfl, allBare_setGen (s := s₁.setGen g gs') (allBare_setGen I1.bare hbare) rfl, fun _ _ _ e => e, [], rfl, rfl, fun p hp => absurd hp (by simp)⟩
      · have hc : y = .bl true := hc
        subst hc
        have ry : v = .bool true := ry
        subst ry
        refine wpAny_bind (wpAny_holding (wpAny_truthy_bool ?_))
        refine wpAny_bind (wpAny_letGo ?_)
        simp only [if_true]
        refine wpAny_bind (wpAny_rule (wpAny_pure ?_))
        exact hD s₁ _ _ _ I1 rfl (fun _ _ e => e) (allBare_setGen I1.bare hbare) hd'
    · intro _
      obtain ⟨ys, σ1, H1, sp, hsi, I1, hF'⟩ := hp
      have hsi : sp = [] := hsi
      subst hsi
      refine wpAny_bind (wpAny_rule (wpAny_pure ?_))
      exact hF s₁ _ _ _ I1 rfl hk (allBare_setGen I1.bare rfl) ⟨ys, hF'⟩

/-- the frame of a generator expression that a built-in walks -/
abbrev gX (X : Cx) (s : Shared) (H : Hp) (scope : Scope) (code : Value) (fp : List Addr) (pn : List (Addr × Obj)) : Cx := genCx X X.A.in1.in1 s H scope code fp pn
def tAg (a : Bool) (P : Addr) (wi : TI) (g : TG) (tt : TT) (te : TE) (vs : List Nat) : TE := fun σ H Q => wi σ H fun J H1 => GxR.TabG H1 P ∧ ∀ H2, GxR.Tabbed P H1 H2 → ∃ W : Nat → Nat → List V → Hp → Prop, (∃ m, W 0 m [] H2) ∧ tGn J g tt te vs (L2.wipe σ vs) (Kag a) (fun y H => Q y H) (fun _ H => Q (.bl a) H) W

theorem pe_all {c P : Addr} {elt iter tg : Expr} {ifs : List Expr} {p pos gpos : Pos} {scope : Scope} {own : List (Str × Nat)} {wi : TI} {g : TG} {tt : TT} {te : TE} {k : Nat}
    (hr : Room k X.A) (hgl : Gl X "all") (hm : X.mg "all" = none) (TB : GxR.TabB X.base X.mg c P) (hcode : X.env.code = .ref c) (hN : X.N.Nodup) (S : GnOk X.N X.env.scope scope own) (hi : PI X tg iter wi)
    (hg : ∀ s H code fp pn, PG (gX X s H scope code fp pn) tg g) (ht : ∀ s H code fp pn, PTs (gX X s H scope code fp pn) ifs tt) (he : ∀ s H code fp pn, PE (gX X s H scope code fp pn) elt te)
    (hs : ∀ v, genFold iter X.env v = pure v := by intro _; rfl)
    (hst : starEach [.GeneratorExp elt [⟨tg, iter, ifs, 0⟩] scope gpos] X.env = (false, eval (.GeneratorExp elt [⟨tg, iter, ifs, 0⟩] scope gpos) X.env) :: starEach [] X.env := by rfl) :
    PE X (.Call (.Name "all" p) [.GeneratorExp elt [⟨tg, iter, ifs, 0⟩] scope gpos] [] pos) (tAg true P wi g tt te (own.map (·.2))) := by
  refine ⟨fun pins s σ H Q I h => ?_⟩
  refine wpAny_Call_Name_kw (ld_blt I hgl hm boot_all ?_)
  refine PyProof.Rows.callWith_builtin1 ?_ hst (by rfl)
  rw [hst]
  show wpAny _ _ (spliced ((false, eval (.GeneratorExp elt [⟨tg, iter, ifs, 0⟩] scope gpos) X.env) :: backTo pos (starEach [] X.env))) _ _ s
  refine Calls.spliced_cons (gen_make hr TB hcode S hi hs I h fun J H1 H2 it fp tn s4 code a gn go s5 hR hT rd => ?_)
  refine Calls.spliced_nil ?_
  obtain ⟨W, ⟨m, w0⟩, hW⟩ := hR H2 hT
  have I4 := rd.inv
  have hfr : X.A.in1.in1.frames = some X.stack := I4.ok.frames
  have hgen : ∀ h : Heap, h.get? a = some go → h.IsGen a gn := fun h e => let ⟨nm, qn, hd⟩ := rd.dat; ⟨go, nm, qn, e, rd.cl, hd, rd.sl⟩
  have lim5 : s5.heap.NoLimit := I4.nolimit.keeps rd.keep
  refine call_function_tree PySem.F.kind_all PySem.F.plain_all PySem.F.entry_all (PySem.F.args_all1 _) ?_
  unfold Builtin.«all»
  refine wpAny_bind (m := oneArg "all" _) (wpAny_pure ?_)
  refine wpAny_bind (wpAny_pyIter_gen (hgen _ rd.at_) ?_)
  have go0 := Rdy.goes (K := Kag true) (m := m) (sp := []) (s6 := s5.setGen gn .running) rd S hN (B := X.A.in1.in1) hr.hd hfr (fun _ _ e => e) rfl (allBare_setGen rd.bare rfl) rfl (fun p hp => absurd hp (by simp)) (fun ys sp' h1 p hp => by
    have h1 : sp' = [] := h1
    subst h1
    exact absurd hp (by simp)) (hg _ _ _ _ _) (ht _ _ _ _ _) (he _ _ _ _ _) rfl hW w0
  refine wpAny_pure ⟨plainId_quiet PySem.F.plain_all_loop _, all_loop (X := X) (XG := gX X s4 H2 scope code fp [(a, go)]) (go := go) rfl rfl hr.hd (by have := hr.dp; show X.A.depth < _; omega) (List.mem_singleton.mpr rfl) hgen
    (fun s1 s2 σ' H' J' ho hk hb ⟨ys, hf⟩ => ?_) (fun s1 s2 σ' H' J' ho hk hb hf => ?_) (m + 1) s5 (hgen _ rd.at_) lim5 rd.bare ⟨_, rd.gen, go0⟩⟩
  · exact ⟨.bl false, H', gen_back I4 (fun b hb => (rd.fpo b hb).1) J' ho hk hb, rfl, hf⟩
  · exact ⟨.bl true, H', gen_back I4 (fun b hb => (rd.fpo b hb).1) J' ho hk hb, rfl, hf⟩
theorem pe_any {c P : Addr} {elt iter tg : Expr} {ifs : List Expr} {p pos gpos : Pos} {scope : Scope} {own : List (Str × Nat)} {wi : TI} {g : TG} {tt : TT} {te : TE} {k : Nat}
    (hr : Room k X.A) (hgl : Gl X "any") (hm : X.mg "any" = none) (TB : GxR.TabB X.base X.mg c P) (hcode : X.env.code = .ref c) (hN : X.N.Nodup) (S : GnOk X.N X.env.scope scope own) (hi : PI X tg iter wi)
    (hg : ∀ s H code fp pn, PG (gX X s H scope code fp pn) tg g) (ht : ∀ s H code fp pn, PTs (gX X s H scope code fp pn) ifs tt) (he : ∀ s H code fp pn, PE (gX X s H scope code fp pn) elt te)
    (hs : ∀ v, genFold iter X.env v = pure v := by intro _; rfl)
    (hst : starEach [.GeneratorExp elt [⟨tg, iter, ifs, 0⟩] scope gpos] X.env = (false, eval (.GeneratorExp elt [⟨tg, iter, ifs, 0⟩] scope gpos) X.env) :: starEach [] X.env := by rfl) :
    PE X (.Call (.Name "any" p) [.GeneratorExp elt [⟨tg, iter, ifs, 0⟩] scope gpos] [] pos) (tAg false P wi g tt te (own.map (·.2))) := by
  refine ⟨fun pins s σ H Q I h => ?_⟩
  refine wpAny_Call_Name_kw (ld_blt I hgl hm boot_any ?_)
  refine PyProof.Rows.callWith_builtin1 ?_ hst (by rfl)
  rw [hst]
  show wpAny _ _ (spliced ((false, eval (.GeneratorExp elt [⟨tg, iter, ifs, 0⟩] scope gpos) X.env) :: backTo pos (starEach [] X.env))) _ _ s
  refine Calls.spliced_cons (gen_make hr TB hcode S hi hs I h fun J H1 H2 it fp tn s4 code a gn go s5 hR hT rd => ?_)
  refine Calls.spliced_nil ?_
  obtain ⟨W, ⟨m, w0⟩, hW⟩ := hR H2 hT
  have I4 := rd.inv
  have hfr : X.A.in1.in1.frames = some X.stack := I4.ok.frames
  have hgen : ∀ h : Heap, h.get? a = some go → h.IsGen a gn := fun h e => let ⟨nm, qn, hd⟩ := rd.dat; ⟨go, nm, qn, e, rd.cl, hd, rd.sl⟩
  have lim5 : s5.heap.NoLimit := I4.nolimit.keeps rd.keep
  refine call_function_tree PySem.F.kind_any PySem.F.plain_any PySem.F.entry_any (PySem.F.args_any1 _) ?_
  unfold Builtin.«any»
  refine wpAny_bind (m := oneArg "any" _) (wpAny_pure ?_)
  refine wpAny_bind (wpAny_pyIter_gen (hgen _ rd.at_) ?_)
  have go0 := Rdy.goes (K := Kag false) (m := m) (sp := []) (s6 := s5.setGen gn .running) rd S hN (B := X.A.in1.in1) hr.hd hfr (fun _ _ e => e) rfl (allBare_setGen rd.bare rfl) rfl (fun p hp => absurd hp (by simp)) (fun ys sp' h1 p hp => by
    have h1 : sp' = [] := h1
    subst h1
    exact absurd hp (by simp)) (hg _ _ _ _ _) (ht _ _ _ _ _) (he _ _ _ _ _) rfl hW w0
  refine wpAny_pure ⟨plainId_quiet PySem.F.plain_any_loop _, any_loop (X := X) (XG := gX X s4 H2 scope code fp [(a, go)]) (go := go) rfl rfl hr.hd (by have := hr.dp; show X.A.depth < _; omega) (List.mem_singleton.mpr rfl) hgen
    (fun s1 s2 σ' H' J' ho hk hb ⟨ys, hf⟩ => ?_) (fun s1 s2 σ' H' J' ho hk hb hf => ?_) (m + 1) s5 (hgen _ rd.at_) lim5 rd.bare ⟨_, rd.gen, go0⟩⟩
  · exact ⟨.bl true, H', gen_back I4 (fun b hb => (rd.fpo b hb).1) J' ho hk hb, rfl, hf⟩
  · exact ⟨.bl false, H', gen_back I4 (fun b hb => (rd.fpo b hb).1) J' ho hk hb, rfl, hf⟩
end
end E
set_option Elab.async false
set_option linter.all false
set_option autoImplicit false
set_option maxRecDepth 100000
set_option maxHeartbeats 1000000
/-! Part 24: all, any: their terms. -/
namespace E
open PySem PySem.Spec PyProof.Rows L2 GenW

section
variable {Γ : SE} {W : WX} {C : Ctx} {X : Cx} {σ σ' : L2.St} {φ ρ φ1 : List Addr} {T T1 : Store} {H H1 H2 : Hp} {s : Slots}
/-- a table has grown -/
theorem RS.tabbed {P : Addr} (rs : RS Γ H1 φ ρ T) (hP : P ∈ Γ.tabs) (t : GxR.Tabbed P H1 H2) : RS Γ H2 φ ρ T ∧ Le φ T H1 φ T H2 := by
  obtain ⟨t1, t2⟩ := t
  obtain ⟨⟨ps, hps, _⟩, n1, n2⟩ := rs.tab P hP
  have ne : ∀ a o, H1 a = some o → ¬ isTb o → a ≠ P := fun a o e b0 z => by
    rw [z, hps] at e; cases e; exact b0 trivial
  have L : Le φ T H1 φ T H2 := by
    refine ⟨⟨[], by simp⟩, fun a o e b0 n => ⟨by rw [t2 a (ne a o e b0)]; exact e, n⟩, fun a o e n => ⟨n, ?_⟩⟩
    by_cases z : a = P
    · obtain ⟨qs, h1, _⟩ := t1
      rw [z]; exact ⟨_, h1⟩
    · exact ⟨o, by rw [t2 a z]; exact e⟩
  have U := L.up rs
  refine ⟨⟨rs.len, rs.nd, fun a ha => ?_, fun a ha => ?_, fun l ob a h1 h2 => ?_, fun Q hQ => ?_⟩, L⟩
  · obtain ⟨o, e⟩ := rs.trk a ha
    exact ⟨o, by rw [t2 a (fun z => n1 (z ▸ ha))]; exact e⟩
  · obtain ⟨m, o, e⟩ := rs.res a ha
    exact ⟨m, o, by rw [t2 a (fun z => n2 (z ▸ ha))]; exact e⟩
  · exact (rs.obj l ob a h1 h2).up U fun o e => by rw [t2 a (fun z => n1 (z ▸ List.mem_of_getElem? h2))]; exact e
  · obtain ⟨⟨qs, h1, h2⟩, m1, m2⟩ := rs.tab Q hQ
    refine ⟨?_, m1, m2⟩
    by_cases z : Q = P
    · rw [z]; exact t1
    · exact ⟨qs, by rw [t2 Q z]; exact h1, h2⟩

noncomputable abbrev agStep (C : Ctx) (own : List Nat) (tg : Tg) (ifs : List Ex) (elt : Ex) (s : Slots) : PV → Store → Ro (Option Bool) := fun x T => (asgT C tg x (E.wipe s own) T).bind fun σ2 T => (evT C ifs σ2 T).bind fun b T =>
  if b then (evE C elt σ2 T).bind blP else .ok none T
open Classical in
theorem ag_to {a : Bool} {P : Addr} {own : List Nat} {tg : Tg} {it : It} {ifs : List Ex} {elt : Ex} {σ : L2.St} {H : Hp} {Q : VK} (hp : ∀ σ, Γ.psi σ) (hP : P ∈ Γ.tabs) (h : tE Γ W C (.ag a own tg it ifs elt) σ H Q) :
    tAg a P (tI Γ W C it) (tV Γ C own tg) (tTs Γ WF C ifs) (tE Γ WF C elt) own σ H Q := by
  obtain ⟨φ, ρ, T, s, rs, rl, out⟩ := h
  change OutG Γ W σ φ ρ T H (RV Γ) (noEx ((evI C it s T).bind fun sx T => (agL sx.1 a (agStep C own tg ifs elt s) sx.2 T).bind fun c T => .ok (.bl c) T)) Q at out
  have out := out.toP
  refine ⟨φ, ρ, T, s, rs, rl, ?_⟩
  cases ei : evI C it s T with
  | bad => rw [ei] at out; exact out.elim
  | ex _ _ => rw [ei] at out; exact out.elim
  | ok sx T1 =>
    rw [ei] at out
    intro φ1 H1 J l1 rs1 ok
    refine ⟨(rs1.tab P hP).1, fun H1' ht => ?_⟩
    obtain ⟨rs1', lt⟩ := rs1.tabbed hP ht
    have out1 : OutP Γ φ1 ρ T1 H1' ((agL sx.1 a (agStep C own tg ifs elt s) sx.2 T1).bind fun c T => .ok (.bl c) T) Q := by
      change OutP Γ φ ρ T H ((agL sx.1 a (agStep C own tg ifs elt s) sx.2 T1).bind fun c T => .ok (.bl c) T) Q at out
      cases e : ((agL sx.1 a (agStep C own tg ifs elt s) sx.2 T1).bind fun c T => (.ok (.bl c) T : Ro PV)) with
      | ok v T' => rw [e] at out; exact fun φ' H' u l rs r => out φ' H' u (l1.trans (lt.trans l)) rs r
      | ex _ _ => rw [e] at out; exact out
      | bad => rw [e] at out; exact out
    refine ⟨fun i k _ H => k = sx.2.length - i ∧ i ≤ sx.2.length ∧ ∃ φ T, RS Γ H φ ρ T ∧ Le φ1 T1 H1' φ T H ∧
      OutP Γ φ1 ρ T1 H1' ((agL sx.1 a (agStep C own tg ifs elt s) (sx.2.drop i) T).bind fun c T => .ok (.bl c) T) Q,
      ⟨_, rfl, Nat.zero_le _, φ1, T1, rs1', Le.refl, out1⟩, ?_⟩
    rintro i k ys H2 ⟨rfl, hi, φ2, T2, rs2, l2, o2⟩
    by_cases hlt : i < sx.2.length
    · have ed : sx.2.drop i = sx.2[i] :: sx.2.drop (i + 1) := List.drop_eq_getElem_cons hlt
      rw [ed] at o2
      change OutP Γ φ1 ρ T1 H1' ((if grd sx.1 T2 then (agStep C own tg ifs elt s sx.2[i] T2).bind fun o T' => match o with
        | some c => if c = a then agL sx.1 a (agStep C own tg ifs elt s) (sx.2.drop (i + 1)) T' else .ok c T'
        | none => agL sx.1 a (agStep C own tg ifs elt s) (sx.2.drop (i + 1)) T' else .bad).bind fun c T => .ok (.bl c) T) Q at o2
      by_cases hgd : grd sx.1 T2
      · rw [if_pos hgd] at o2
        obtain ⟨k1, k2⟩ := (ok φ2 ρ T2 H2 ((lt.trans l2).up rs1) rs2 hgd).1 i sx.2[i] (List.getElem?_eq_getElem hlt)
        refine .inr ⟨k1, fun _ H' => ∃ φ T, RS Γ H' φ ρ T ∧ Le φ1 T1 H1' φ T H' ∧
          OutP Γ φ1 ρ T1 H1' ((agL sx.1 a (agStep C own tg ifs elt s) (sx.2.drop (i + 1)) T).bind fun c T => .ok (.bl c) T) Q,
          fun ys H' hN => ⟨sx.2.length - (i + 1), by omega, rfl, hlt, hN⟩, fun x H' hy => ?_⟩
        obtain ⟨φ3, l3, rs3, rx⟩ := k2 x H' hy
        refine ⟨φ3, ρ, T2, E.wipe s own, sx.2[i], rs3, ((rl.up (l1.up rs)).up ((lt.trans (l2.trans l3)).up rs1)).blk hp own, rx, ?_⟩
        cases ea : asgT C tg sx.2[i] (E.wipe s own) T2 with
        | bad => unfold agStep at o2; rw [ea] at o2; exact o2.elim
        | ex _ _ => unfold agStep at o2; rw [ea] at o2; exact o2.elim
        | ok s4 T4 =>
          unfold agStep at o2
          rw [ea] at o2
          intro φ4 H4 σ4 l4 rs4 rl4 w4
          refine ⟨w4.trans (wipe_idem own σ), φ4, ρ, T4, s4, rs4, rl4, ?_⟩
          rw [Ro.bind_ok] at o2
          cases et : evT C ifs s4 T4 with
          | bad => rw [et] at o2; exact o2.elim
          | ex _ _ => rw [et] at o2; exact o2.elim
          | ok b T5 =>
            rw [et, Ro.bind_ok] at o2
            intro φ5 H5 b' l5 rs5 eb
            cases (show b = b' from eb)
            have L5 := l3.trans (l4.trans l5)
            cases b with
            | false =>
              rw [if_neg Bool.false_ne_true]
              rw [if_neg Bool.false_ne_true, Ro.bind_ok] at o2
              exact ⟨φ5, T5, rs5, l2.trans L5, o2⟩
            | true =>
              rw [if_pos rfl]
              rw [if_pos rfl] at o2
              refine ⟨φ5, ρ, T5, s4, rs5, rl4.up (l5.up rs4), ?_⟩
              cases ee : evE C elt s4 T5 with
              | bad => rw [ee] at o2; exact o2.elim
              | ex _ _ => rw [ee] at o2; exact o2.elim
              | ok y T6 =>
                rw [ee, Ro.bind_ok] at o2
                intro φ6 H6 u l6 rs6 ru
                have L6 := L5.trans l6
                unfold blP at o2
                cases y with
                | bl c =>
                  rw [Ro.bind_ok] at o2
                  dsimp only at o2
                  rw [RV] at ru
                  subst ru
                  by_cases hc : c = a
                  · rw [if_pos hc] at o2
                    refine .inl ⟨congrArg V.bl hc, φ6, T6, rs6, l2.trans L6, o2⟩
                  · rw [if_neg hc, Ro.bind_ok] at o2
                    refine .inr ⟨?_, o2 φ6 H6 (.bl c) (l2.trans L6) rs6 (by rw [RV])⟩
                    show V.bl c = V.bl (!a)
                    cases c <;> cases a <;> first | rfl | exact absurd rfl hc
                | _ => exact o2.elim
      · rw [if_neg hgd] at o2; exact o2.elim
    · have hi' : i = sx.2.length := by omega
      subst hi'
      rw [List.drop_length] at o2
      change OutP Γ φ1 ρ T1 H1' ((if grd sx.1 T2 then .ok a T2 else .bad : Ro Bool).bind fun c T => .ok (.bl c) T) Q at o2
      by_cases hgd : grd sx.1 T2
      · rw [if_pos hgd, Ro.bind_ok] at o2
        exact .inl ⟨(ok φ2 ρ T2 H2 ((lt.trans l2).up rs1) rs2 hgd).2 _ (Nat.le_refl _), o2 φ2 H2 (.bl a) l2 rs2 (by rw [RV])⟩
      · rw [if_neg hgd] at o2; exact o2.elim
end
end E
set_option Elab.async false
set_option linter.all false
set_option autoImplicit false
set_option maxRecDepth 100000
set_option maxHeartbeats 400000
/-! Part 25: all, any as expressions; the least of three; backwards. -/
namespace E
open PySem PySem.Spec PyProof.Rows L2 GenW

section
variable {Γ : SE} {W : WX} {C : Ctx} {X : Cx}
theorem XG.gen (hX : XG X Γ) {s : Shared} {H : Hp} {scope : Scope} {code : Value} {fp : List Addr} {pn : List (Addr × Obj)} : XG (gX X s H scope code fp pn) Γ := ⟨hX.K, hX.P, hX.w, hX.mg, hX.base⟩
theorem Room.gen {k : Nat} (hr : Room (k + 1) X.A) {s : Shared} {H : Hp} {scope : Scope} {code : Value} {fp : List Addr} {pn : List (Addr × Obj)} : Room k (gX X s H scope code fp pn).A :=
  ⟨hr.hd, by have := hr.dp; show X.A.depth + 1 + 3 * k + 5 < _; omega, by have := hr.un; show X.A.units + 1 + 1 + 3 + 16 * k + 200 < _; omega⟩
section
variable {P c : Addr} {elt iter tg : Expr} {ifs : List Expr} {p pos gpos : Pos} {scope : Scope} {own : List (Str × Nat)} {own' : List Nat} {k : Nat} {tg' : Tg} {it' : It} {ifs' : List Ex} {elt' : Ex}
theorem e_all (hp : ∀ σ, Γ.psi σ) (hP : P ∈ Γ.tabs) (hr : Room k X.A) (hgl : Gl X "all") (hm : X.mg "all" = none) (TB : GxR.TabB X.base X.mg c P) (hcode : X.env.code = .ref c) (hN : X.N.Nodup) (ho : own.map (·.2) = own') (S : GnOk X.N X.env.scope scope own) (hi : PI X tg iter (tI Γ W C it'))
    (hg : ∀ s H code fp pn, PG (gX X s H scope code fp pn) tg (tV Γ C own' tg')) (ht : ∀ s H code fp pn, PTs (gX X s H scope code fp pn) ifs (tTs Γ WF C ifs')) (he : ∀ s H code fp pn, PE (gX X s H scope code fp pn) elt (tE Γ WF C elt'))
    (hs : ∀ v, genFold iter X.env v = pure v := by intro _; rfl)
    (hst : starEach [.GeneratorExp elt [⟨tg, iter, ifs, 0⟩] scope gpos] X.env = (false, eval (.GeneratorExp elt [⟨tg, iter, ifs, 0⟩] scope gpos) X.env) :: starEach [] X.env := by rfl) :
    PE X (.Call (.Name "all" p) [.GeneratorExp elt [⟨tg, iter, ifs, 0⟩] scope gpos] [] pos) (tE Γ W C (.ag true own' tg' it' ifs' elt')) := by
  subst ho
  exact PE_of (pe_all hr hgl hm TB hcode hN S hi hg ht he hs hst) fun _ _ _ h => ag_to hp hP h
theorem e_any (hp : ∀ σ, Γ.psi σ) (hP : P ∈ Γ.tabs) (hr : Room k X.A) (hgl : Gl X "any") (hm : X.mg "any" = none) (TB : GxR.TabB X.base X.mg c P) (hcode : X.env.code = .ref c) (hN : X.N.Nodup) (ho : own.map (·.2) = own') (S : GnOk X.N X.env.scope scope own) (hi : PI X tg iter (tI Γ W C it'))
    (hg : ∀ s H code fp pn, PG (gX X s H scope code fp pn) tg (tV Γ C own' tg')) (ht : ∀ s H code fp pn, PTs (gX X s H scope code fp pn) ifs (tTs Γ WF C ifs')) (he : ∀ s H code fp pn, PE (gX X s H scope code fp pn) elt (tE Γ WF C elt'))
    (hs : ∀ v, genFold iter X.env v = pure v := by intro _; rfl)
    (hst : starEach [.GeneratorExp elt [⟨tg, iter, ifs, 0⟩] scope gpos] X.env = (false, eval (.GeneratorExp elt [⟨tg, iter, ifs, 0⟩] scope gpos) X.env) :: starEach [] X.env := by rfl) :
    PE X (.Call (.Name "any" p) [.GeneratorExp elt [⟨tg, iter, ifs, 0⟩] scope gpos] [] pos) (tE Γ W C (.ag false own' tg' it' ifs' elt')) := by
  subst ho
  exact PE_of (pe_any hr hgl hm TB hcode hN S hi hg ht he hs hst) fun _ _ _ h => ag_to hp hP h
end
theorem min2i (i j : Int) : nuMin2 (.int i) (.int j) = some (.int (if j < i then j else i)) := by
  by_cases h : j < i
  · rw [if_pos h]; simp [nuMin2, nuLt, nuCB, h]
  · rw [if_neg h]
    have h' : i ≤ j := by omega
    simp [nuMin2, nuLt, nuCB]; omega
theorem max2i (i j : Int) : nuMax2 (.int i) (.int j) = some (.int (if i < j then j else i)) := by
  by_cases h : i < j
  · rw [if_pos h]; simp [nuMax2, nuGt, nuLt, nuCB, h]
  · rw [if_neg h]
    have h' : j ≤ i := by omega
    simp [nuMax2, nuGt, nuLt, nuCB]; omega
theorem cr_mm3 (hc : X.calm = true) {big : Bool} {id : String} (h : CallR X (.builtin id) (rNuC3 (if big then nuMax3 else nuMin3))) : CallR X (.builtin id) (fun xs H Q => ∃ φ ρ T as, RS Γ H φ ρ T ∧ RVs Γ H φ (MM φ ρ T) as xs ∧ OutP Γ φ ρ T H (mm3 big as T) Q) := by
  intro pins s σ H xs us Q I r ⟨φ, ρ, T, as, rs, ra, out⟩
  unfold mm3 at out
  split at out
  · rename_i i j k
    obtain ⟨x, y, z, e, r1, r2, r3⟩ := rvs3 ra
    rw [rv_int r1, rv_int r2, rv_int r3] at e
    subst e
    refine h pins s σ H _ us Q I r ⟨_, _, _, _, rfl, ?_, out.int rs⟩
    cases big
    · rw [if_neg Bool.false_ne_true, if_neg Bool.false_ne_true]
      unfold nuMin3
      rw [min2i, Option.bind_some, min2i]
    · rw [if_pos rfl, if_pos rfl]
      unfold nuMax3
      rw [max2i, Option.bind_some, max2i]
  · exact out.elim
theorem cr_min3' (hc : X.calm = true) : CallR X (.builtin "min") (rPn Γ .min3) := cr_mm3 (big := false) hc (call_min3Nu hc)
theorem cr_max3' (hc : X.calm = true) : CallR X (.builtin "max") (rPn Γ .max3) := cr_mm3 (big := true) hc (call_max3Nu hc)
/-- xs[::-1] -/
theorem e_rev {m : Bool} {a : Expr} {a' : Ex} {k : Nat} {p1 p2 p3 pos : Pos} (hX : XG X Γ) (ha : PE X a (tE Γ W C a')) : PE X (.Subscript a (.Slice none none (some (.UnaryOp .USub (.Constant (.int 1) k p1) p2)) p3) pos) (tE Γ W C (.pr (.rev m) [a'])) := by
  refine PE_of (pe_revL ha) fun σ H Q ⟨φ, ρ, T, s, rs, rl, o⟩ => ?_
  refine ⟨φ, ρ, T, s, rs, rl, ?_⟩
  change OutG Γ W σ φ ρ T H (RV Γ) ((evL C [a'] s T).bind fun vs T => noEx (evP C.kc (.rev m) vs T)) Q at o
  change OutG Γ W σ φ ρ T H (RV Γ) (((evE C a' s T).bind fun v T => (Ro.ok [] T).bind fun vs T => .ok (v :: vs) T).bind fun vs T => noEx (evP C.kc (.rev m) vs T)) Q at o
  rw [bind_assoc] at o
  refine o.bind rs fun φ1 T1 H1 v u rs1 up rv o1 => ?_
  change OutG Γ W σ φ1 ρ T1 H1 (RV Γ) (noEx (revP m v T1)) Q at o1
  have o1 := o1.toP
  have d := dr_rv rs1 rv
  unfold revP at o1
  split at o1
  · rename_i xs e
    rw [e] at d
    obtain ⟨q, ws, ex, h1, h2⟩ := d
    refine ⟨q, ws, ex, by rw [hX.K]; exact h1, fun p hp => o1.lst rs1 h2.reverse hp⟩
  · exact o1.elim
end
end E
set_option Elab.async false
set_option linter.all false
set_option autoImplicit false
set_option maxRecDepth 100000
set_option maxHeartbeats 1000000
/-! Part 26: all defs at once. -/
namespace E
open PySem PySem.Spec PyProof.Rows L2 GenW

/-- a def of the text, its code object known -/
structure FunC (K : PySem.W.Frag) (x qual : Str) (st : Stmt) (f : Addr) (fd : FuncData) (cdv : Value) : Prop where
  ex : ∃ (oc : Value) (od : Option Addr) (kV doc pm : Value) (an : Option Addr) (ct : Value) (osl : Array (Option Value)),
    fd = PySem.W.fnOf x qual (defArgs st) (defBody st) (defScope st) .none kV doc pm an cdv ct ∧ K.lookup f = some ⟨oc, od, .func fd, osl⟩ ∧ PySem.W.codeIn K cdv qual = true
  kp : PySem.W.keepIn K (.ref f) = true
theorem FunC.fn {K : PySem.W.Frag} {x qual : Str} {st : Stmt} {f : Addr} {fd : FuncData} {cdv : Value} (F : FunC K x qual st f fd cdv) : Fun K x qual st f fd := by
  obtain ⟨oc, od, kV, doc, pm, an, ct, osl, h⟩ := F.ex
  exact ⟨⟨oc, od, kV, doc, pm, an, cdv, ct, osl, h⟩, F.kp⟩
theorem FunC.okX {P : Program} {w : World} {K : PySem.W.Frag} {mg : Str → Option Value} {base : Heap} {x qual : Str} {st : Stmt} {f : Addr} {fd : FuncData} {cdv : Value} {N ps : List Str} {k : Nat} {sp : Sp} (F : FunC K x qual st f fd cdv) (S : FnScope N ps (defScope st)) (len : ∀ vs H Q E, sp vs H Q E → vs.length = ps.length)
    (hbody : ∀ (A : Around) (outer : List Env) (s : Shared) (H : Hp) (vs : List V) (Q : VK) (E : XK), Room k (A.deeper (envOfC qual (defScope st) s.heap.objs.size f cdv)) → sp vs H Q E →
      ∃ t, PSs (cxOf (L2.CX P w) P w K mg base N qual (defScope st) f cdv A outer s H E) (defBody st) t ∧ t { nx := fun _ H' => Q .non H', rt := Q } (L2.start N vs) H) : FnOk P w K mg base (L2.CX P w) (k + 1) f fd ps sp := by
  obtain ⟨oc, od, kV, doc, pm, an, ct, osl, rfl, lk, hcd⟩ := F.ex
  exact fn_of lk hcd S len fun A outer s H vs Q E hr hsp => hbody A outer s H vs Q E hr hsp

section
variable {Γ : SE} {C : Ctx} {P : Nat → Option Def}
/-- the body's context -/
abbrev bX (Γ : SE) (N : List Str) (qual : Str) (st : Stmt) (f : Nat) (cdv : Value) (A : Around) (outer : List Env) (s : Shared) (H : Hp) (E : XK) : Cx :=
  cxOf (L2.CX Γ.P Γ.w) Γ.P Γ.w Γ.K Γ.mg Γ.base N qual (defScope st) (Γ.fa f) cdv A outer s H E
theorem fun_okC {x qual : Str} {st : Stmt} {f k d : Nat} {D : Def} {N : List Str} {cdv : Value} (hp : ∀ σ, Γ.psi σ) (hc : ∀ xs, PV.tup xs ∈ Γ.kc → PV.undL 0 xs = true) (hP : P f = some D) (F : FunC Γ.K x qual st (Γ.fa f) (Γ.fd f) cdv) (S : FnScope N (Γ.pn f) (defScope st)) (hn : N.length = D.n) (hps : (Γ.pn f).length = D.ps)
    (hb : ∀ (W : WX) (A : Around) (outer : List Env) (s : Shared) (H : Hp) (E : XK), Room k (bX Γ N qual st f cdv A outer s H E).A →
      Takes (bX Γ N qual st f cdv A outer s H E) W → PSs (bX Γ N qual st f cdv A outer s H E) (defBody st) (tSs Γ W (bodyC P C d) D.body)) :
    FnOk Γ.P Γ.w Γ.K Γ.mg Γ.base (L2.CX Γ.P Γ.w) (k + 1) (Γ.fa f) (Γ.fd f) (Γ.pn f) (spE Γ (callD P C (d + 1) f) (Γ.pn f).length) := by
  refine F.okX S (fun vs H Q E h => h.1) fun A outer s H vs Q E hr ⟨hl, φ, ρ, T, as, rs, ra, o⟩ => ?_
  refine ⟨tSs Γ (fun cls d _ H' => E cls d H') (bodyC P C d) D.body, hb _ A outer s H E hr (takes_of rfl rfl rfl rfl), φ, ρ, T, _root_.E.start D as, rs, start_rl hp hn (by rw [← ra.length, hl, hps]) ra, ?_⟩
  rw [callD, hP] at o
  change OutG Γ _ [] φ ρ T H (RV Γ) (if as.length = D.ps then leave D.raw T (evSs (bodyC P C d) D.body (_root_.E.start D as) T) else .bad) Q at o
  rw [if_pos (by rw [← ra.length, hl, hps])] at o
  exact leave_ok hc rs o
/-- what is known of all defs with d calls left -/
def AllF (Γ : SE) (P : Nat → Option Def) (C : Ctx) (d : Nat) : Prop := ∀ f D, P f = some D → FunG Γ (bodyC P C d) (3 * d) f
/-- the text's side of a def: what the call of it needs -/
structure Side (Γ : SE) (P : Nat → Option Def) : Prop where
  kp : ∀ f D, P f = some D → PySem.W.keepIn Γ.K (.ref (Γ.fa f)) = true
  bd : ∀ f D, P f = some D → Binds Γ.K (Γ.fd f) (Γ.pn f) []
  ps : ∀ f D, P f = some D → (Γ.pn f).length = D.ps
theorem all_f (S : Side Γ P) (step : ∀ d, AllF Γ P C d → ∀ f D, P f = some D → FnOk Γ.P Γ.w Γ.K Γ.mg Γ.base (L2.CX Γ.P Γ.w) (3 * (d + 1)) (Γ.fa f) (Γ.fd f) (Γ.pn f) (spE Γ (callD P C (d + 1) f) (Γ.pn f).length)) : ∀ d, AllF Γ P C d := by
  have mk : ∀ d, (∀ f D, P f = some D → FnOk Γ.P Γ.w Γ.K Γ.mg Γ.base (L2.CX Γ.P Γ.w) (3 * d) (Γ.fa f) (Γ.fd f) (Γ.pn f) (spE Γ (callD P C d f) (Γ.pn f).length)) → AllF Γ P C d := fun d h f D hP =>
    ⟨h f D hP, fun vs T hb => by rw [S.ps f D hP]; exact call_len (d := d) (C := C) hP hb, S.kp f D hP, S.bd f D hP⟩
  intro d
  induction d with
  | zero =>
    refine mk 0 fun f D hP => ?_
    have no : ∀ vs H Q E, ¬ spE Γ (callD P C 0 f) (Γ.pn f).length vs H Q E := fun vs H Q E ⟨_, φ, ρ, T, as, _, _, o⟩ => by
      rw [callD] at o; exact o
    exact ⟨fun vs H Q E h => absurd h (no vs H Q E), fun A outer s H args us vs Q E _ _ _ _ h => absurd h (no vs H Q E)⟩
  | succ d ih => exact mk (d + 1) (step d ih)
end
/-- raise X('..') -/
theorem s_raiseM {Γ : SE} {W : WX} {C : Ctx} {X : Cx} {x m : Str} {j n : Nat} {p p2 pos pos' : Pos} {bmB : List Value} {B newId initId : String} (hX : XG X Γ) (F : ExcBaseFacts B newId initId bmB) (hn : Γ.isx n = true) (hc : X.calm = true) (tk : Takes X W) (q : PySem.W.excIn Γ.K (Γ.cls n) bmB newId = true) (gC : Γ.mg x = some (.ref (Γ.cls n))) (kC : PySem.W.keepIn Γ.K (.ref (Γ.cls n)) = true)
    (r1 : PySem.W.subIn Γ.K (.ref (Γ.cls n)) (.type "BaseException") = some true) (r2 : PySem.W.typeIn Γ.K (.ref (Γ.cls n)) = some (.type "type")) (hg : Gl X x) (hdb : (x == ("__debug__" : Str)) = false := by decide) :
    PS X (.Raise (some (.Call (.Name x p) [.Constant (.str m) j p2] [] pos)) none pos') (tS Γ W C (.raise n)) :=
  s_raise hn hc tk (pmk_own F (by rw [hX.K]; exact q) (by rw [hX.mg]; exact gC) (by rw [hX.K]; exact kC) (raises_own (by rw [hX.K]; exact r1) (by rw [hX.K]; exact r2)) hg hdb) fun _ _ _ h => h

/-! looks at scopes -/
def blkB (N : List Str) (sc scope : Scope) (own : List (Str × Nat)) : Bool :=
  decide (scope.kind = .function) && scope.names.all (fun y => scope.names.lookup y.1 == some y.2) && own.all (fun p => N[p.2]? == some p.1) &&
  scope.names.all (fun y => !decide (y.2 = .free) || sc.names.lookup y.1 == some .cell || sc.names.lookup y.1 == some .free) &&
  scope.names.all (fun y => !(decide (y.2 = .local) || decide (y.2 = .cell)) || (own.map (·.1)).contains y.1 || !N.contains y.1)
theorem blkOk_by {N : List Str} {sc scope : Scope} {own : List (Str × Nat)} (h : blkB N sc scope own = true) : BlkOk N sc scope own := by
  unfold blkB at h
  simp only [Bool.and_eq_true, decide_eq_true_eq, List.all_eq_true, beq_iff_eq, Bool.or_eq_true, Bool.not_eq_true', decide_eq_false_iff_not] at h
  obtain ⟨⟨⟨⟨h1, h2⟩, h3⟩, h4⟩, h5⟩ := h
  refine ⟨h1, h2, h3, fun y hy e => ?_, fun y hy e => ?_⟩
  · rcases h4 y hy with (z | z) | z
    · exact absurd e z
    · exact .inl z
    · exact .inr z
  · rcases h5 y hy with (z | z) | z
    · rw [Bool.or_eq_false_iff] at z
      rcases e with e | e
      · simp [e] at z
      · simp [e] at z
    · exact .inl (by simpa using z)
    · exact .inr (by simpa using z)
def gnB (N : List Str) (sc scope : Scope) (own : List (Str × Nat)) : Bool := blkB N sc scope own && !scope.isCoroutine && scope.names.all (fun y => !decide (y.2 = .cell)) && scope.names.lookup (".0" : Str) == some NameKind.local
theorem gnOk_by {N : List Str} {sc scope : Scope} {own : List (Str × Nat)} (h : gnB N sc scope own = true) : GnOk N sc scope own := by
  unfold gnB at h
  simp only [Bool.and_eq_true, List.all_eq_true, beq_iff_eq, Bool.not_eq_true', decide_eq_false_iff_not] at h
  obtain ⟨⟨⟨h1, h2⟩, h3⟩, h4⟩ := h
  exact ⟨blkOk_by h1, h2, h3, h4⟩
end E
set_option Elab.async false
set_option linter.all false
set_option autoImplicit false
set_option maxRecDepth 100000
set_option maxHeartbeats 1000000
/-! Part 27: the head's facts. -/
namespace E
open PySem PySem.Spec PyProof.Rows L2 GenW

def fdOf (K : PySem.W.Frag) (a : Addr) : FuncData := match K.lookup a with
  | some ⟨_, _, .func fd, _⟩ => fd
  | _ => PySem.W.fnOf "" "" ⟨[], [], none, [], [], none, []⟩ [] ⟨.function, [], false, false, []⟩ .none .none .none .none none .none .none
theorem funC_of {K : PySem.W.Frag} {x : Str} {st : Stmt} {fd : FuncData} (F : FunD K x x (defArgs st) (defBody st) (defScope st) [] [] (He.fAd K (x, none)) fd) :
    FunC K x x st (He.fAd K (x, none)) (fdOf K (He.fAd K (x, none))) (.ref (He.codeOf K (x, none))) := by
  obtain ⟨oc, od, dV, kV, doc, pm, an, cdv, ct, osl, e1, e2, e3, e4, e5⟩ := F.ex
  have ed : dV = .none := by
    rcases e4 with ⟨_, h⟩ | ⟨h, _⟩
    · exact h
    · exact absurd rfl h
  subst ed
  obtain ⟨c, hc⟩ := He.codeIn_ref e3
  subst hc
  have h1 : fdOf K (He.fAd K (x, none)) = fd := by unfold fdOf; rw [e2]
  have h2 : He.codeOf K (x, none) = c := He.codeOf_eq e2 (by rw [e1])
  rw [h1, h2]
  exact ⟨⟨oc, od, kV, doc, pm, an, ct, osl, e1, e2, e3⟩, F.kp⟩
/-- an exception's class -/
def excB (K : PySem.W.Frag) (D : Addr) : Bool :=
  decide (PySem.W.findIn K (.ref D) "__getattribute__" = some (some (.builtin "BaseException.__getattribute__"))) && decide (PySem.W.findIn K (.ref D) "__getattr__" = some none) &&
  decide (PySem.W.subIn K (.ref D) (.type "BaseException") = some true) && PySem.W.hasDictIn K D && decide (PySem.W.findIn K (.ref D) "__class__" = some (some (.builtin "object.__class__"))) &&
  decide (PySem.W.specialIn K (.builtin "object.__class__") "__get__" = some (some (.builtin "getset_descriptor.__get__"))) && decide (PySem.W.takesIn K (.builtin "object.__class__") = some true) && decide (PySem.W.mroIn K D (.type "object") = some true)
theorem excB_ok {K : PySem.W.Frag} {D : Addr} (h : excB K D = true) : ExcC K D := by
  unfold excB at h
  simp only [Bool.and_eq_true, decide_eq_true_eq] at h
  obtain ⟨⟨⟨⟨⟨⟨⟨h1, h2⟩, h3⟩, h4⟩, h5⟩, h6⟩, h7⟩, h8⟩ := h
  exact ⟨h1, h2, h3, h4, h5, h6, h7, h8⟩
def undB (K : PySem.W.Frag) (a : Addr) (cv : Value) (b : Bool) : Bool := decide (PySem.W.exmOne K (.ref a) cv = some b) && decide (PySem.W.kitOne K (.ref a) cv = some b)
theorem undB_ok {K : PySem.W.Frag} {a : Addr} {cv : Value} {b : Bool} (h : undB K a cv b = true) : PySem.W.exmOne K (.ref a) cv = some b ∧ PySem.W.kitOne K (.ref a) cv = some b := by
  unfold undB at h
  simp only [Bool.and_eq_true, decide_eq_true_eq] at h
  exact h
def gloB (K : PySem.W.Frag) (x : Str) (v : Value) : Bool := decide (PySem.W.nsIn K mainGlobals x = some (some v))
end E
set_option Elab.async false
set_option linter.all false
set_option autoImplicit false
set_option maxRecDepth 100000
set_option maxHeartbeats 1000000
/-! Part 28: the law's end. -/
namespace E
open PySem PySem.Spec PyProof.Rows L2 GenW

/-- the law's promise, with the code tables as they are at its start -/
def spLaw (K : PySem.W.Frag) (tabs : List Addr) : Sp := fun vs H Q _ => ∃ (a : Addr) (ns : List Int), vs = [.ref a] ∧ SqL K H a (ns.map V.int) ∧ ns.length ≤ 63 ∧ (∀ z ∈ ns, Builtin.Int.intBits z ≤ 1048576) ∧ (∀ p ∈ tabs, H p = some (.tbl #[])) ∧ ∀ H', Q (.bl true) H'
theorem rvs_ints {Γ : SE} {H : Hp} {φ : List Addr} {M : Addr → Prop} : ∀ ns : List Int, RVs Γ H φ M (ns.map PV.int) (ns.map V.int)
  | [] => by simp [RVs]
  | n :: ns => by
    simp only [List.map_cons, RVs, RV]
    exact ⟨_, _, rfl, rfl, rvs_ints ns⟩
theorem rv_sql {Γ : SE} {H : Hp} {φ : List Addr} {M : Addr → Prop} {a : Addr} {ns : List Int} (h : SqL Γ.K H a (ns.map V.int)) (hM : ¬ M a) : RV Γ H φ M (.lst (ns.map PV.int)) (.ref a) := by
  rw [RV]
  refine ⟨a, ns.map V.int, rfl, ?_, rvs_ints ns⟩
  rcases h with h | h
  · exact .inl ⟨h, hM⟩
  · exact .inr (.inr h)
theorem spLaw_in {Γ : SE} {cl : List PV → Store → Ro PV} (hp : ∀ σ, Γ.psi σ) (plain : ∀ ns : List Int, ns.length ≤ 63 → (∀ z ∈ ns, Builtin.Int.intBits z ≤ 1048576) → cl [.lst (ns.map .int)] [] = .ok (.bl true) []) (vs : List V) (H : Hp) (Q : VK) (E : XK)
    (h : spLaw Γ.K Γ.tabs vs H Q E) : spE Γ cl 1 vs H Q E := by
  obtain ⟨a, ns, rfl, hS, hl, hb, ht, hQ⟩ := h
  have hM : ¬ MM [] [] ([] : Store) a := by
    rintro (⟨l, ob, h1, _⟩ | h)
    · simp at h1
    · simp at h
  refine ⟨rfl, [], [], [], [.lst (ns.map .int)], ⟨rfl, List.nodup_nil, by simp, by simp, by simp, fun P hP => ⟨⟨#[], ht P hP, ?_⟩, by simp, by simp⟩⟩, ?_, ?_⟩
  · simp [TriplesOk]
  · rw [RVs]
    exact ⟨_, _, rfl, rv_sql hS hM, by rw [RVs]⟩
  · rw [plain ns hl hb]
    intro φ' H' u _ _ r
    rw [RV] at r
    rw [r]
    exact hQ H'
theorem cx_no {P : Program} {w : World} {H : Hp} {s s' : Shared} {e : Value} (h : L2.CX P w [] H s (fun _ _ _ => False) e s') : False := by
  obtain ⟨a, B, H', cls, d, _, _, _, _, _, _, _, hE⟩ := h
  exact hE
theorem tabB_to {base : Heap} {mg : Str → Option Value} {c P : Addr} (h : LamX.TabB base mg c P) : GxR.TabB base mg c P := ⟨h.code, h.bm, h.gP⟩
theorem funC_one {K : PySem.W.Frag} {x qual p : Str} {st : Stmt} {f : Addr} {fd : FuncData} {cdv : Value} (F : FunC K x qual st f fd cdv)
    (h : ∀ (kV doc pm : Value) (an : Option Addr) (cdv ct u : Value), bindArgs (PySem.W.fnOf x qual (defArgs st) (defBody st) (defScope st) .none kV doc pm an cdv ct) ⟨[u], []⟩ = pure [(p, u)]) (s : Shared) (u : Value) : BindsTo s fd ⟨[u], []⟩ [(p, u)] := by
  obtain ⟨oc, od, kV, doc, pm, an, ct, osl, rfl, _⟩ := F.ex
  exact .of_eq (h kV doc pm an cdv ct u)
end E
set_option Elab.async false
set_option linter.all false
set_option autoImplicit false
set_option maxRecDepth 100000
set_option maxHeartbeats 1000000
/-! Part 29: the evaluator's rows as rules. -/
namespace E
open PySem (Str PyData sizeLine)
open Classical

/-! ### sizes -/
class Sz (x : Int) (n : outParam Nat) : Prop where
  h : x.natAbs < 2 ^ n
theorem two_le (m n : Nat) : 2 ^ m + 2 ^ n ≤ 2 ^ (m + n + 1) := by
  have h1 : 2 ^ m ≤ 2 ^ (m + n) := Nat.pow_le_pow_right (by omega) (by omega)
  have h2 : 2 ^ n ≤ 2 ^ (m + n) := Nat.pow_le_pow_right (by omega) (by omega)
  rw [Nat.pow_succ]
  omega
instance (priority := low) szLit {k : Nat} : Sz (no_index (@OfNat.ofNat Int k (@instOfNat k))) (k.log2 + 1) := ⟨by
  show k < _
  exact Nat.lt_log2_self⟩
instance szNeg {x : Int} {n : Nat} [a : Sz x n] : Sz (-x) n := ⟨by rw [Int.natAbs_neg]; exact a.h⟩
instance szAdd {x y : Int} {m n : Nat} [a : Sz x m] [b : Sz y n] : Sz (x + y) (m + n + 1) := ⟨by
  have := a.h; have := b.h; have := two_le m n; have := Int.natAbs_add_le x y
  omega⟩
instance szSub {x y : Int} {m n : Nat} [a : Sz x m] [b : Sz y n] : Sz (x - y) (m + n + 1) := ⟨by
  have := a.h; have := b.h; have := two_le m n; have := Int.natAbs_sub_le x y
  omega⟩
instance szMul {x y : Int} {m n : Nat} [a : Sz x m] [b : Sz y n] : Sz (x * y) (m + n) := ⟨by
  rw [Int.natAbs_mul, Nat.pow_add]
  exact Nat.mul_lt_mul_of_lt_of_le a.h (Nat.le_of_lt b.h) (Nat.two_pow_pos n)⟩
theorem natAbs_ediv_le (x y : Int) : (x / y).natAbs ≤ x.natAbs := by
  exact Int.natAbs_ediv_le_natAbs x y
instance szDiv {x y : Int} {m : Nat} [a : Sz x m] : Sz (x / y) m := ⟨Nat.lt_of_le_of_lt (natAbs_ediv_le x y) a.h⟩
instance szMod {x y : Int} {m n : Nat} [a : Sz x m] [b : Sz y n] : Sz (x % y) (m + n) := ⟨by
  by_cases h : y = 0
  · subst h
    rw [Int.emod_zero]
    exact Nat.lt_of_lt_of_le a.h (Nat.pow_le_pow_right (by omega) (by omega))
  · have h1 := Int.emod_nonneg x h
    have h3 : (x % y).natAbs < y.natAbs := by
      have h2 : x % y < y.natAbs := Int.emod_lt x h
      omega
    exact Nat.lt_of_lt_of_le (Nat.lt_trans h3 b.h) (Nat.pow_le_pow_right (by omega) (by omega))⟩
instance szPow {x : Int} {m k : Nat} [a : Sz x m] : Sz (x ^ k) (m * k + 1) := ⟨by
  rw [Int.natAbs_pow, Nat.pow_succ, Nat.pow_mul]
  have h1 : x.natAbs ^ k ≤ (2 ^ m) ^ k := Nat.pow_le_pow_left (Nat.le_of_lt a.h) k
  have h2 : 0 < (2 ^ m) ^ k := Nat.pow_pos (Nat.two_pow_pos m)
  omega⟩
instance szGcd {x y : Int} {m n : Nat} [a : Sz x m] [b : Sz y n] : Sz ((Nat.gcd x.natAbs y.natAbs : Nat) : Int) (m + n + 1) := ⟨by
  have := a.h; have := b.h; have := two_le m n
  rw [Int.natAbs_natCast]
  by_cases h : x.natAbs = 0
  · rw [h, Nat.gcd_zero_left]
    omega
  · have := Nat.gcd_le_left y.natAbs (Nat.pos_of_ne_zero h)
    omega⟩
instance szIte {c : Prop} [Decidable c] {x y : Int} {m n : Nat} [a : Sz x m] [b : Sz y n] : Sz (if c then x else y) (m + n) := ⟨by
  split
  · exact Nat.lt_of_lt_of_le a.h (Nat.pow_le_pow_right (by omega) (by omega))
  · exact Nat.lt_of_lt_of_le b.h (Nat.pow_le_pow_right (by omega) (by omega))⟩
theorem Sz.of {x : Int} {n : Nat} (h : x.natAbs < 2 ^ n) : Sz x n := ⟨h⟩
theorem Sz.up {x : Int} {m n : Nat} (h : Sz x m) (l : m ≤ n) : Sz x n := ⟨Nat.lt_of_lt_of_le h.h (Nat.pow_le_pow_right (by omega) l)⟩
theorem Sz.le {x : Int} {m : Nat} (n : Nat) [h : Sz x m] (l : m ≤ n) : Sz x n := h.up l
theorem sz_bits {x : Int} {n : Nat} (h : Sz x n) : PySem.Builtin.Int.intBits x ≤ n := by
  unfold PySem.Builtin.Int.intBits
  have := h.h
  split
  · omega
  · rename_i h0
    have := (Nat.log2_lt (n := x.natAbs) (k := n) (by simpa using h0)).mpr this
    omega
theorem mulX_ok {x y : Int} {m n : Nat} [a : Sz x m] [b : Sz y n] (h : m + n ≤ 134217728) : L2.CMulX x y := by
  unfold L2.CMulX
  have := sz_bits a; have := sz_bits b
  omega
theorem mul_ok {x y : Int} {m n : Nat} [a : Sz x m] [b : Sz y n] (h : m + n ≤ 134217728) : L2.CMul x y ∨ L2.CMulX x y := .inr (mulX_ok h)
theorem mul_r {x y : Int} {n : Nat} [b : Sz y n] (h : n ≤ 64) : L2.CMul x y ∨ L2.CMulX x y := .inl (.inr (by
  have h1 := b.h
  have h2 : (2 : Nat) ^ n ≤ 2 ^ 64 := Nat.pow_le_pow_right (by omega) h
  constructor <;> omega))
theorem mul_l {x y : Int} {n : Nat} [b : Sz x n] (h : n ≤ 64) : L2.CMul x y ∨ L2.CMulX x y := .inl (.inl (by
  have h1 := b.h
  have h2 : (2 : Nat) ^ n ≤ 2 ^ 64 := Nat.pow_le_pow_right (by omega) h
  constructor <;> omega))
theorem div_ok {y : Int} {n : Nat} [b : Sz y n] (h0 : 0 < y) (h : n ≤ 9000) : 0 < y ∧ y.natAbs.log2 < 9000 := ⟨h0, by
  have := (Nat.log2_lt (n := y.natAbs) (k := n) (by omega)).mpr b.h
  omega⟩

/-! ### rows -/
section
variable {C : Ctx} {σ : Slots} {T : Store}
@[simp] theorem r_var (i : Nat) : evE C (.var i) σ T = getV σ i T := by simp only [evE]
@[simp] theorem r_cst (c : PV) : evE C (.cst c) σ T = .ok c T := by simp only [evE]
@[simp] theorem r_glb (g : Nat) : evE C (.glb g) σ T = match C.glob g with
    | some v => .ok v T
    | none => .bad := by
  rw [evE] <;> rfl
@[simp] theorem r_pr (p : Pr) (es : List Ex) : evE C (.pr p es) σ T = (evL C es σ T).bind fun vs T => noEx (evP C.kc p vs T) := by rw [evE]
@[simp] theorem r_and (a b : Ex) : evE C (.and a b) σ T = (evE C a σ T).bind fun v T => (truP v T).bind fun c T => if c then evE C b σ T else .ok v T := by rw [evE]
@[simp] theorem r_or (a b : Ex) : evE C (.or a b) σ T = (evE C a σ T).bind fun v T => (truP v T).bind fun c T => if c then .ok v T else evE C b σ T := by rw [evE]
@[simp] theorem r_one (a : Ex) : evE C (.one a) σ T = evE C a σ T := by rw [evE]
@[simp] theorem r_ife (c a b : Ex) : evE C (.ife c a b) σ T = (evE C c σ T).bind fun v T => (truP v T).bind fun k T => if k then evE C a σ T else evE C b σ T := by rw [evE]
@[simp] theorem r_ch2 (p q : Pr) (a b c : Ex) : evE C (.ch2 p q a b c) σ T = (evE C a σ T).bind fun x T => (evE C b σ T).bind fun y T => (noEx (evP C.kc p [x, y] T)).bind fun r T =>
      match r with
      | .bl true => (evE C c σ T).bind fun z T => noEx (evP C.kc q [y, z] T)
      | .bl false => .ok (.bl false) T
      | _ => .bad := by
  rw [evE] <;> rfl
@[simp] theorem r_tup (es : List Ex) : evE C (.tup es) σ T = (evL C es σ T).bind fun vs T => .ok (.tup vs) T := by rw [evE]
@[simp] theorem r_lst (m : Bool) (es : List Ex) : evE C (.lst m es) σ T = (evL C es σ T).bind fun vs T => lay m (.lst vs) T := by rw [evE]
@[simp] theorem r_dic0 (m t : Bool) : evE C (.dic0 m t) σ T = lay m (.dic t []) T := by rw [evE]
@[simp] theorem r_call (f : Nat) (es : List Ex) : evE C (.call f es) σ T = (evL C es σ T).bind fun vs T => C.call f vs T := by rw [evE]
@[simp] theorem r_callK (f : Nat) (ks : List Nat) (es : List Ex) : evE C (.callK f ks es) σ T = (evL C es σ T).bind fun vs T => C.call f (ks.map fun k => vs.getD k .non) T := by rw [evE]
@[simp] theorem r_bm (k : BT) (p : Pr) (o : Ex) (es : List Ex) : evE C (.bm k p o es) σ T = (evE C o σ T).bind fun v T => if isBT k (dr T v) then (evL C es σ T).bind fun vs T => noEx (evP C.kc p (v :: vs) T) else .bad := by rw [evE]
@[simp] theorem r_sl (m : Bool) (a lo hi : Ex) : evE C (.sl m a lo hi) σ T = (evE C a σ T).bind fun x T => (evE C lo σ T).bind fun y T => if (part y).isSome then (evE C hi σ T).bind fun z T => if (part z).isSome then noEx (evP C.kc (.slc m) [x, y, z] T) else .bad else .bad := by rw [evE]
@[simp] theorem r_exi (c : Nat) : evE C (.exi c) σ T = match C.cur with
    | some k => .ok (.bl (C.sub k c)) T
    | none => .bad := by
  rw [evE] <;> rfl
theorem r_lc (m : Bool) (own : List Nat) (tg : Tg) (it : It) (ifs : List Ex) (elt : Ex) : evE C (.lc m own tg it ifs elt) σ T = noEx ((evI C it σ T).bind fun sx T => (compL sx.1 (fun x T => (asgT C tg x (wipe σ own) T).bind fun σ2 T => (evT C ifs σ2 T).bind fun b T =>
      if b then (evE C elt σ2 T).bind fun y T => .ok (some y) T else .ok none T) sx.2 [] T).bind fun ys T => lay m (.lst ys) T) := by rw [evE]
theorem r_dc (m t : Bool) (own : List Nat) (tg : Tg) (it : It) (ifs : List Ex) (k v : Ex) : evE C (.dc m t own tg it ifs k v) σ T = noEx ((evI C it σ T).bind fun sx T => (compD sx.1 C.kc t (fun x T => (asgT C tg x (wipe σ own) T).bind fun σ2 T => (evT C ifs σ2 T).bind fun b T =>
      if b then (evE C k σ2 T).bind fun y T => (evE C v σ2 T).bind fun z T => .ok (some (y, z)) T else .ok none T) sx.2 [] T).bind fun ys T => lay m (.dic t ys) T) := by rw [evE]
theorem r_ag (a : Bool) (own : List Nat) (tg : Tg) (it : It) (ifs : List Ex) (elt : Ex) : evE C (.ag a own tg it ifs elt) σ T = noEx ((evI C it σ T).bind fun sx T => (agL sx.1 a (fun x T => (asgT C tg x (wipe σ own) T).bind fun σ2 T => (evT C ifs σ2 T).bind fun b T =>
      if b then (evE C elt σ2 T).bind blP else .ok none T) sx.2 T).bind fun c T => .ok (.bl c) T) := by rw [evE]
@[simp] theorem r_nil : evL C [] σ T = .ok [] T := by rw [evL]
@[simp] theorem r_cons (e : Ex) (es : List Ex) : evL C (e :: es) σ T = (evE C e σ T).bind fun v T => (evL C es σ T).bind fun vs T => .ok (v :: vs) T := by rw [evL]
@[simp] theorem r_tnil : evT C [] σ T = .ok true T := by rw [evT]
@[simp] theorem r_tcons (e : Ex) (es : List Ex) : evT C (e :: es) σ T = (evE C e σ T).bind fun v T => (truP v T).bind fun b T => if b then evT C es σ T else .ok false T := by rw [evT]
@[simp] theorem r_seq (e : Ex) : evI C (.seq e) σ T = (evE C e σ T).bind seqP := by rw [evI]
@[simp] theorem r_rng (es : List Ex) : evI C (.rng es) σ T = (evL C es σ T).bind rngP := by rw [evI]
@[simp] theorem r_enum (e : Ex) : evI C (.enum e) σ T = (evE C e σ T).bind enumP := by rw [evI]
@[simp] theorem r_zip (a b : Ex) : evI C (.zip a b) σ T = (evE C a σ T).bind fun v T => (evE C b σ T).bind fun w T => zipP v w T := by rw [evI]
@[simp] theorem r_vals (e : Ex) : evI C (.vals e) σ T = (evE C e σ T).bind valsP := by rw [evI]
@[simp] theorem r_items (e : Ex) : evI C (.items e) σ T = (evE C e σ T).bind itemsD := by rw [evI]
@[simp] theorem r_revI (e : Ex) : evI C (.rev e) σ T = (evE C e σ T).bind revI := by rw [evI]
@[simp] theorem r_avar (i : Nat) (v : PV) : asgT C (.var i) v σ T = .ok (σ.set i (some v)) T := by rw [asgT]
@[simp] theorem r_atup (ts : List Tg) (v : PV) : asgT C (.tup ts) v σ T = match unpack v T with
    | some xs => asgL C ts xs σ T
    | none => .bad := by
  rw [asgT] <;> rfl
@[simp] theorem r_asub (o i : Ex) (v : PV) : asgT C (.sub o i) v σ T = (evE C o σ T).bind fun ov T => (evE C i σ T).bind fun iv T => (subP C.kc ov iv v T).bind fun _ T => .ok σ T := by rw [asgT]
@[simp] theorem r_anil : asgL C [] [] σ T = .ok σ T := by rw [asgL]
@[simp] theorem r_acons (t : Tg) (ts : List Tg) (x : PV) (xs : List PV) : asgL C (t :: ts) (x :: xs) σ T = (asgT C t x σ T).bind fun σ T => asgL C ts xs σ T := by rw [asgL]
@[simp] theorem r_asg (tg : Tg) (e : Ex) : evS C (.asg tg e) σ T = (evE C e σ T).then σ fun v T => (noEx (asgT C tg v σ T)).then σ fun σ' T => .nx σ' T := by rw [evS]
@[simp] theorem r_par (i j : Nat) (a b : Ex) : evS C (.par i j a b) σ T = (evE C a σ T).then σ fun v T => (evE C b σ T).then σ fun w T => .nx ((σ.set i (some v)).set j (some w)) T := by rw [evS]
@[simp] theorem r_aug (p : Pr) (i : Nat) (e : Ex) : evS C (.aug p i e) σ T = (getV σ i T).then σ fun v T => (evE C e σ T).then σ fun w T => (augP C.kc p v w T).then σ fun z T => .nx (σ.set i (some z)) T := by rw [evS]
@[simp] theorem r_exp (e : Ex) : evS C (.exp e) σ T = (evE C e σ T).then σ fun _ T => .nx σ T := by rw [evS]
@[simp] theorem r_ret (e : Ex) : evS C (.ret e) σ T = (evE C e σ T).then σ fun v T => .rt v T := by rw [evS]
@[simp] theorem r_retN : evS C .retN σ T = .rt .non T := by rw [evS]
@[simp] theorem r_if (c : Ex) (a b : List St) : evS C (.ife c a b) σ T = (evE C c σ T).then σ fun v T => (truP v T).then σ fun k T => if k then evSs C a σ T else evSs C b σ T := by rw [evS]
theorem r_for (tg : Tg) (it : It) (w : List Nat) (body : List St) : evS C (.for_ tg it w body) σ T = (evI C it σ T).then σ fun sx T => forL sx.1 w (fun x σ T => (noEx (asgT C tg x σ T)).then σ fun σ' T => evSs C body σ' T) sx.2 σ T := by rw [evS]
theorem r_whl (c : Ex) (w : List Nat) (body : List St) : evS C (.whl c w body) σ T = whlR (fun σ T => (evE C c σ T).bind truP) w (evSs C body) σ T := by rw [evS]
@[simp] theorem r_raise (c : Nat) : evS C (.raise c) σ T = .ex ⟨c, []⟩ σ T := by rw [evS]
@[simp] theorem r_try (body : List St) (h : Hd) : evS C (.tr body h) σ T = match evSs C body σ T with
    | .ex x σ' T' => evH C h x σ' T'
    | r => r := by
  rw [evS] <;> rfl
@[simp] theorem r_pass : evS C .pass σ T = .nx σ T := by rw [evS]
@[simp] theorem r_brk : evS C .brk σ T = .bk σ T := by rw [evS]
@[simp] theorem r_cnt : evS C .cnt σ T = .ct σ T := by rw [evS]
@[simp] theorem r_snil : evSs C [] σ T = .nx σ T := by rw [evSs]
@[simp] theorem r_scons (s : St) (ss : List St) : evSs C (s :: ss) σ T = match evS C s σ T with
    | .nx σ' T' => evSs C ss σ' T'
    | r => r := by
  rw [evSs] <;> rfl
@[simp] theorem r_hcons (c : Nat) (i : Option Nat) (suite : List St) (h : Hd) (x : Exn) : evH C (.cons c i suite h) x σ T = if C.sub x.cls c then gone i (evSs { C with cur := some x.cls } suite (match i with
    | some i => σ.set i none
    | none => σ) T) else evH C h x σ T := by
  rw [evH.eq_def] <;> rfl
end
/-! ### values -/
@[simp] theorem dr_non (T : Store) : dr T .non = .non := rfl
@[simp] theorem dr_bl (T : Store) (b : Bool) : dr T (.bl b) = .bl b := rfl
@[simp] theorem dr_int (T : Store) (i : Int) : dr T (.int i) = .int i := rfl
@[simp] theorem dr_str (T : Store) (x : Str) : dr T (.str x) = .str x := rfl
@[simp] theorem dr_tup (T : Store) (xs : List PV) : dr T (.tup xs) = .tup xs := rfl
@[simp] theorem dr_lst (T : Store) (xs : List PV) : dr T (.lst xs) = .lst xs := rfl
@[simp] theorem dr_dic (T : Store) (t : Bool) (xs : List (PV × PV)) : dr T (.dic t xs) = .dic t xs := rfl
@[simp] theorem dr_set (T : Store) (xs : List PV) : dr T (.set xs) = .set xs := rfl
@[simp] theorem dr_ref (T : Store) (l : Nat) : dr T (.ref l) = T.getD l dead := rfl
@[simp] theorem tru_non (T : Store) : truP .non T = .ok false T := rfl
@[simp] theorem tru_bl (T : Store) (b : Bool) : truP (.bl b) T = .ok b T := rfl
@[simp] theorem tru_int (T : Store) (i : Int) : truP (.int i) T = .ok (i != 0) T := rfl
@[simp] theorem tru_tup (T : Store) (xs : List PV) : truP (.tup xs) T = .ok (!xs.isEmpty) T := rfl
@[simp] theorem tru_lst (T : Store) (xs : List PV) : truP (.lst xs) T = .ok (!xs.isEmpty) T := rfl
@[simp] theorem rb_ok (b : Bool) (T : Store) : rb (.ok b T) = .ok (.bl b) T := rfl
@[simp] theorem rn_ok (b : Bool) (T : Store) : rn (.ok b T) = .ok (.bl (!b)) T := rfl
section
variable {kc : List PV} {T : Store}
@[simp] theorem q_add (m : Bool) (i j : Int) : evP kc (.add m) [.int i, .int j] T = .ok (.int (i + j)) T := rfl
@[simp] theorem q_sub (i j : Int) : evP kc .sub [.int i, .int j] T = .ok (.int (i - j)) T := rfl
@[simp] theorem q_neg (i : Int) : evP kc .neg [.int i] T = .ok (.int (-i)) T := rfl
theorem q_mul0 {i j : Int} (h : L2.CMul i j ∨ L2.CMulX i j) : evP kc .mul [.int i, .int j] T = .ok (.int (i * j)) T := if_pos h
@[simp] theorem q_mul {i j : Int} {m n : Nat} [a : Sz i m] [b : Sz j n] (h : m + n ≤ 134217728) : evP kc .mul [.int i, .int j] T = .ok (.int (i * j)) T := q_mul0 (mul_ok h)
@[simp] theorem q_mulr {i j : Int} {n : Nat} [b : Sz j n] (h : n ≤ 64) : evP kc .mul [.int i, .int j] T = .ok (.int (i * j)) T := q_mul0 (mul_r h)
@[simp] theorem q_mull {i j : Int} {n : Nat} [b : Sz i n] (h : n ≤ 64) : evP kc .mul [.int i, .int j] T = .ok (.int (i * j)) T := q_mul0 (mul_l h)
@[simp] theorem q_fdiv {i j : Int} {n : Nat} [b : Sz j n] (h0 : 0 < j) (h : n ≤ 9000) : evP kc .fdiv [.int i, .int j] T = .ok (.int (i / j)) T := if_pos (div_ok h0 h)
@[simp] theorem q_mod {i j : Int} (h0 : 0 < j) : evP kc .mod [.int i, .int j] T = .ok (.int (i % j)) T := if_pos h0
@[simp] theorem q_pow {i j : Int} (h : L2.CPow i j) : evP kc .pow [.int i, .int j] T = .ok (.int (i ^ j.toNat)) T := if_pos h
@[simp] theorem q_not (a : PV) : evP kc .not [a] T = rn (truP a T) := rfl
@[simp] theorem eq_ints (i j : Int) : eqP (.int i) (.int j) T = .ok (decide (i = j)) T := by
  unfold eqP
  simp [PV.plain, PV.data, PyData.depth, PyData.eqv]
  by_cases h : i = j <;> simp [h]
@[simp] theorem q_eq (a b : PV) : evP kc .eq [a, b] T = rb (eqP a b T) := rfl
@[simp] theorem q_ne (a b : PV) : evP kc .ne [a, b] T = rn (eqP a b T) := rfl
@[simp] theorem q_lt (a b : PV) : evP kc .lt [a, b] T = rb (ltP a b T) := rfl
@[simp] theorem q_gt (a b : PV) : evP kc .gt [a, b] T = rb (ltP b a T) := rfl
@[simp] theorem q_le (a b : PV) : evP kc .le [a, b] T = rn (ltP b a T) := rfl
@[simp] theorem q_ge (a b : PV) : evP kc .ge [a, b] T = rn (ltP a b T) := rfl
@[simp] theorem lt_ints (i j : Int) : ltP (.int i) (.int j) T = .ok (decide (i < j)) T := by
  have h : (dr T (.int i)).plain = true ∧ (dr T (.int j)).plain = true ∧ cmpOk (dr T (.int i)).data (dr T (.int j)).data := by
    rw [dr_int, dr_int, PV.data, PV.data]
    refine ⟨rfl, rfl, rfl, ?_, ?_, ?_⟩
    · intro h
      cases h
    · simp [PyData.depth]
    · simp [PyData.depth]
  unfold ltP
  rw [if_pos h, dr_int, dr_int, PV.data, PV.data, PySem.W.dataLt_int]
@[simp] theorem q_isn (neg : Bool) (a : PV) : evP kc (.isn neg) [a] T = .ok (.bl (neg != decide (a = .non))) T := rfl
@[simp] theorem q_ix (a i : PV) : evP kc .ix [a, i] T = ixP kc a i T := rfl
theorem ix_tup0 (xs : List PV) (k : Int) : ixP kc (.tup xs) (.int k) T = match L2.atI xs k with
    | some v => .ok v T
    | none => .bad := rfl
theorem atI_nat {α : Type} {xs : List α} {k : Nat} {v : α} (h : xs[k]? = some v) : L2.atI xs (k : Int) = some v := by
  have hl : k < xs.length := by
    rcases Nat.lt_or_ge k xs.length with h1 | h1
    · exact h1
    · rw [List.getElem?_eq_none h1] at h
      cases h
  unfold L2.atI L2.ixN
  rw [if_pos (by omega), if_pos (by omega)]
  simpa using h
theorem atI_int {α : Type} {xs : List α} {k : Int} {v : α} (h0 : 0 ≤ k) (h : xs[k.toNat]? = some v) : L2.atI xs k = some v := by
  have e : k = (k.toNat : Int) := by omega
  rw [e]
  exact atI_nat h
@[simp] theorem ix_tup {xs : List PV} {k : Int} {v : PV} (h : L2.atI xs k = some v) : ixP kc (.tup xs) (.int k) T = .ok v T := by rw [ix_tup0, h]
@[simp] theorem ix_lst {xs : List PV} {k : Int} {v : PV} (h : L2.atI xs k = some v) : ixP kc (.lst xs) (.int k) T = .ok v T := by
  show (match L2.atI xs k with
    | some v => Ro.ok v T
    | none => .bad) = _
  rw [h]
@[simp] theorem at0 {α : Type} (a : α) (r : List α) : L2.atI (a :: r) 0 = some a := atI_nat (k := 0) rfl
@[simp] theorem at1 {α : Type} (a b : α) (r : List α) : L2.atI (a :: b :: r) 1 = some b := atI_nat (k := 1) rfl
@[simp] theorem at2 {α : Type} (a b c : α) (r : List α) : L2.atI (a :: b :: c :: r) 2 = some c := atI_nat (k := 2) rfl
@[simp] theorem at3 {α : Type} (a b c d : α) (r : List α) : L2.atI (a :: b :: c :: d :: r) 3 = some d := atI_nat (k := 3) rfl
@[simp] theorem ix_t0 (a : PV) (r : List PV) : ixP kc (.tup (a :: r)) (.int 0) T = .ok a T := ix_tup (at0 a r)
@[simp] theorem ix_t1 (a b : PV) (r : List PV) : ixP kc (.tup (a :: b :: r)) (.int 1) T = .ok b T := ix_tup (at1 a b r)
@[simp] theorem ix_t2 (a b c : PV) (r : List PV) : ixP kc (.tup (a :: b :: c :: r)) (.int 2) T = .ok c T := ix_tup (at2 a b c r)
@[simp] theorem ix_t3 (a b c d : PV) (r : List PV) : ixP kc (.tup (a :: b :: c :: d :: r)) (.int 3) T = .ok d T := ix_tup (at3 a b c d r)
@[simp] theorem q_len (a : PV) : evP kc .len [a] T = lenP a T := rfl
@[simp] theorem len_tup (xs : List PV) : lenP (.tup xs) T = .ok (.int xs.length) T := rfl
@[simp] theorem len_lst (xs : List PV) : lenP (.lst xs) T = .ok (.int xs.length) T := rfl
@[simp] theorem q_int (i : Int) : evP kc .int [.int i] T = .ok (.int i) T := rfl
@[simp] theorem q_abs (i : Int) : evP kc .abs [.int i] T = .ok (.int (if i < 0 then -i else i)) T := rfl
@[simp] theorem q_gcd (i j : Int) : evP kc .gcd [.int i, .int j] T = .ok (.int ((Nat.gcd i.natAbs j.natAbs : Nat) : Int)) T := rfl
@[simp] theorem q_min3 (i j k : Int) : evP kc .min3 [.int i, .int j, .int k] T = .ok (.int (if k < (if j < i then j else i) then k else if j < i then j else i)) T := rfl
@[simp] theorem q_isi (ts : List Ty) (a : PV) : evP kc (.isi ts) [a] T = match tyOf (dr T a) with
    | some t => .ok (.bl (tyIs t ts)) T
    | none => .bad := rfl
@[simp] theorem seq_tup (xs : List PV) : seqP (.tup xs) T = .ok (none, xs) T := rfl
@[simp] theorem seq_lst (xs : List PV) : seqP (.lst xs) T = .ok (none, xs) T := rfl
@[simp] theorem grd_none (T : Store) : grd none T = True := rfl
end
/-! ### no places -/
mutual
def PV.nor : PV → Bool
  | .tup xs | .lst xs | .set xs => PV.norL xs
  | .dic _ kvs => PV.norD kvs
  | .ins _ fs => PV.norF fs
  | .ref _ => false
  | _ => true
def PV.norL : List PV → Bool
  | [] => true
  | x :: xs => PV.nor x && PV.norL xs
def PV.norD : List (PV × PV) → Bool
  | [] => true
  | (k, v) :: xs => PV.nor k && PV.nor v && PV.norD xs
def PV.norF : List (Nat × PV) → Bool
  | [] => true
  | (_, v) :: xs => PV.nor v && PV.norF xs
end
mutual
theorem nor_map (r : Nat → PV) : ∀ v : PV, v.nor = true → v.mapR r = v
  | .tup xs, h => by rw [PV.mapR, nor_mapL r xs (by simpa [PV.nor] using h)]
  | .lst xs, h => by rw [PV.mapR, nor_mapL r xs (by simpa [PV.nor] using h)]
  | .set xs, h => by rw [PV.mapR, nor_mapL r xs (by simpa [PV.nor] using h)]
  | .dic t kvs, h => by rw [PV.mapR, nor_mapD r kvs (by simpa [PV.nor] using h)]
  | .ins c fs, h => by rw [PV.mapR, nor_mapF r fs (by simpa [PV.nor] using h)]
  | .ref l, h => by simp [PV.nor] at h
  | .non, _ => by rw [PV.mapR]
  | .bl b, _ => by rw [PV.mapR]
  | .int i, _ => by rw [PV.mapR]
  | .str x, _ => by rw [PV.mapR]
theorem nor_mapL (r : Nat → PV) : ∀ xs : List PV, PV.norL xs = true → PV.mapRL r xs = xs
  | [], _ => by rw [PV.mapRL]
  | x :: xs, h => by
    simp only [PV.norL, Bool.and_eq_true] at h
    rw [PV.mapRL, nor_map r x h.1, nor_mapL r xs h.2]
theorem nor_mapD (r : Nat → PV) : ∀ xs : List (PV × PV), PV.norD xs = true → PV.mapRD r xs = xs
  | [], _ => by rw [PV.mapRD]
  | (k, v) :: xs, h => by
    simp only [PV.norD, Bool.and_eq_true] at h
    rw [PV.mapRD, nor_map r k h.1.1, nor_map r v h.1.2, nor_mapD r xs h.2]
theorem nor_mapF (r : Nat → PV) : ∀ xs : List (Nat × PV), PV.norF xs = true → PV.mapRF r xs = xs
  | [], _ => by rw [PV.mapRF]
  | (k, v) :: xs, h => by
    simp only [PV.norF, Bool.and_eq_true] at h
    rw [PV.mapRF, nor_map r v h.1, nor_mapF r xs h.2]
end
mutual
theorem nor_und (n : Nat) : ∀ v : PV, v.nor = true → v.und n = true
  | .tup xs, h => by rw [PV.und]; exact nor_undL n xs (by simpa [PV.nor] using h)
  | .lst xs, h => by rw [PV.und]; exact nor_undL n xs (by simpa [PV.nor] using h)
  | .set xs, h => by rw [PV.und]; exact nor_undL n xs (by simpa [PV.nor] using h)
  | .dic t kvs, h => by rw [PV.und]; exact nor_undD n kvs (by simpa [PV.nor] using h)
  | .ins c fs, h => by rw [PV.und]; exact nor_undF n fs (by simpa [PV.nor] using h)
  | .ref l, h => by simp [PV.nor] at h
  | .non, _ => by simp [PV.und]
  | .bl b, _ => by simp [PV.und]
  | .int i, _ => by simp [PV.und]
  | .str x, _ => by simp [PV.und]
theorem nor_undL (n : Nat) : ∀ xs : List PV, PV.norL xs = true → PV.undL n xs = true
  | [], _ => by rw [PV.undL]
  | x :: xs, h => by
    simp only [PV.norL, Bool.and_eq_true] at h
    rw [PV.undL, nor_und n x h.1, nor_undL n xs h.2]
    rfl
theorem nor_undD (n : Nat) : ∀ xs : List (PV × PV), PV.norD xs = true → PV.undD n xs = true
  | [], _ => by rw [PV.undD]
  | (k, v) :: xs, h => by
    simp only [PV.norD, Bool.and_eq_true] at h
    rw [PV.undD, nor_und n k h.1.1, nor_und n v h.1.2, nor_undD n xs h.2]
    rfl
theorem nor_undF (n : Nat) : ∀ xs : List (Nat × PV), PV.norF xs = true → PV.undF n xs = true
  | [], _ => by rw [PV.undF]
  | (k, v) :: xs, h => by
    simp only [PV.norF, Bool.and_eq_true] at h
    rw [PV.undF, nor_und n v h.1, nor_undF n xs h.2]
    rfl
end
@[simp] theorem nor_int (i : Int) : PV.nor (.int i) = true := by simp [PV.nor]
@[simp] theorem nor_bl (i : Bool) : PV.nor (.bl i) = true := by simp [PV.nor]
@[simp] theorem nor_str (i : Str) : PV.nor (.str i) = true := by simp [PV.nor]
@[simp] theorem nor_non : PV.nor .non = true := by simp [PV.nor]
@[simp] theorem nor_tup (xs : List PV) : PV.nor (.tup xs) = PV.norL xs := by simp [PV.nor]
@[simp] theorem nor_lst (xs : List PV) : PV.nor (.lst xs) = PV.norL xs := by simp [PV.nor]
@[simp] theorem norL_nil : PV.norL [] = true := by simp [PV.norL]
@[simp] theorem norL_cons (x : PV) (xs : List PV) : PV.norL (x :: xs) = (x.nor && PV.norL xs) := by simp [PV.norL]
@[simp] theorem norL_ints (ns : List Int) : PV.norL (ns.map PV.int) = true := by
  induction ns with
  | nil => rfl
  | cons n ns ih => simp [PV.norL, PV.nor, ih]
theorem nor_frz (T : Store) (n d : Nat) (v : PV) (h : v.nor = true) : v.frz T n d = v := by
  cases d with
  | zero => rw [PV.frz]
  | succ d => rw [PV.frz]; exact nor_map _ v h
theorem gc_app (T R : Store) : gcOk T (T ++ R) := ⟨by simp, fun l h => .inl (by rw [List.getElem?_append_left h])⟩
theorem gc_self (T : Store) : gcOk T T := ⟨Nat.le_refl _, fun l h => .inl rfl⟩
@[simp] theorem lv_rt {T : Store} {v : PV} (h : v.nor = true) : leave false T (.rt v T) = .ok v T := by
  unfold leave
  simp only [nor_frz T T.length 4 v h, nor_und T.length v h, gc_self, Bool.false_eq_true, if_false, and_self, if_true, List.take_length]
@[simp] theorem lv_rtA {T R : Store} {v : PV} (h : v.nor = true) : leave false T (.rt v (T ++ R)) = .ok v T := by
  unfold leave
  simp only [nor_frz _ T.length 4 v h, nor_und T.length v h, gc_app, Bool.false_eq_true, if_false, and_self, if_true, List.take_left']
@[simp] theorem lv_nx {T : Store} {σ : Slots} : leave false T (.nx σ T) = .ok .non T := by
  unfold leave
  simp [gc_self]
@[simp] theorem lv_nxA {T R : Store} {σ : Slots} : leave false T (.nx σ (T ++ R)) = .ok .non T := by
  unfold leave
  simp [gc_app]
@[simp] theorem lv_ex {T : Store} {σ : Slots} {c : Nat} : leave false T (.ex ⟨c, []⟩ σ T) = .ex ⟨c, []⟩ T := by
  unfold leave
  simp [gc_self, PV.undF]
@[simp] theorem lv_ref {T R : Store} {xs : List PV} (h : PV.norL xs = true) : leave false T (.rt (.ref T.length) (T ++ .lst xs :: R)) = .ok (.lst xs) T := by
  have e : PV.frz (T ++ .lst xs :: R) T.length 4 (.ref T.length) = .lst xs := by
    rw [PV.frz, PV.mapR]
    simp only [Nat.lt_irrefl, if_false]
    rw [List.getElem?_append_right (Nat.le_refl _), Nat.sub_self]
    simp only [List.getElem?_cons_zero]
    exact nor_frz _ _ _ _ (by simpa [PV.nor] using h)
  unfold leave
  simp only [e, gc_app, nor_und T.length (.lst xs) (by simpa [PV.nor] using h), Bool.false_eq_true, if_false, and_self, if_true]
  rw [List.take_left' rfl]
theorem call_S {P : Nat → Option Def} {C : Ctx} {d f : Nat} {vs : List PV} {T : Store} {D : Def} (h : P f = some D) (hl : vs.length = D.ps) : callD P C (d + 1) f vs T = leave D.raw T (evSs { C with call := callD P C d, cur := none } D.body (start D vs) T) := by
  rw [callD, h]
  simp only [hl, if_true]
end E
set_option Elab.async false
set_option linter.all false
set_option autoImplicit false
set_option maxRecDepth 100000
set_option maxHeartbeats 1000000
/-! Part 30: loops. -/
namespace E
open PySem (Str PyData sizeLine)
open Classical

theorem whlN_uniq {c : Slots → Store → Ro Bool} {w : List Nat} {body : Slots → Store → R} : ∀ (n k : Nat) (σ : Slots) (T : Store), whlN c w body n σ T ≠ .bad → whlN c w body k σ T ≠ .bad → whlN c w body n σ T = whlN c w body k σ T
  | 0, _, _, _, h, _ => absurd rfl h
  | n + 1, 0, _, _, _, h => absurd rfl h
  | n + 1, k + 1, σ, T, h1, h2 => by
    rw [whlN] at h1 h2 ⊢
    rw [whlN]
    cases hc : c σ T with
    | bad => rfl
    | ex x T' => rfl
    | ok b T' =>
      cases b with
      | false => rfl
      | true =>
        rw [hc] at h1 h2
        dsimp only at h1 h2 ⊢
        cases hb : body σ T' with
        | nx σ' T'' =>
          rw [hb] at h1 h2
          exact whlN_uniq n k _ _ h1 h2
        | ct σ' T'' =>
          rw [hb] at h1 h2
          exact whlN_uniq n k _ _ h1 h2
        | bk σ' T'' => rfl
        | rt v T'' => rfl
        | ex x σ' T'' => rfl
        | bad => rfl
theorem whlR_eq {c : Slots → Store → Ro Bool} {w : List Nat} {body : Slots → Store → R} {σ : Slots} {T : Store} {n : Nat} (h : whlN c w body n σ T ≠ .bad) : whlR c w body σ T = whlN c w body n σ T := by
  unfold whlR
  have e : ∃ n, whlN c w body n σ T ≠ .bad := ⟨n, h⟩
  rw [dif_pos e]
  exact whlN_uniq _ _ _ _ (choose_spec e) h
/-- a while by its invariant -/
theorem whl_run {c : Slots → Store → Ro Bool} {w : List Nat} {body : Slots → Store → R} (J : Slots → Store → Prop) (m : Slots → Store → Nat) (K : R → Prop) (hK : ¬ K .bad)
    (step : ∀ σ T, J σ T → (∃ T', c σ T = .ok false T' ∧ K (.nx σ T')) ∨ (∃ T', c σ T = .ok true T' ∧ ((∃ σ' T'', (body σ T' = .nx σ' T'' ∨ body σ T' = .ct σ' T'') ∧ J (wipe σ' w) T'' ∧ m (wipe σ' w) T'' < m σ T) ∨
      (∃ σ' T'', body σ T' = .bk σ' T'' ∧ K (.nx (wipe σ' w) T'')) ∨ (∃ v T'', body σ T' = .rt v T'' ∧ K (.rt v T'')))))
    {σ : Slots} {T : Store} (h : J σ T) : K (whlR c w body σ T) := by
  have main : ∀ k σ T, m σ T ≤ k → J σ T → ∃ n, K (whlN c w body n σ T) := by
    intro k
    induction k with
    | zero =>
      intro σ T hm hJ
      rcases step σ T hJ with ⟨T', h1, h2⟩ | ⟨T', h1, ⟨σ', T'', _, _, h5⟩ | ⟨σ', T'', h3, h4⟩ | ⟨v, T'', h3, h4⟩⟩
      · exact ⟨1, by rw [whlN, h1]; exact h2⟩
      · omega
      · exact ⟨1, by rw [whlN, h1]; dsimp only; rw [h3]; exact h4⟩
      · exact ⟨1, by rw [whlN, h1]; dsimp only; rw [h3]; exact h4⟩
    | succ k ih =>
      intro σ T hm hJ
      rcases step σ T hJ with ⟨T', h1, h2⟩ | ⟨T', h1, ⟨σ', T'', h3, h4, h5⟩ | ⟨σ', T'', h3, h4⟩ | ⟨v, T'', h3, h4⟩⟩
      · exact ⟨1, by rw [whlN, h1]; exact h2⟩
      · obtain ⟨n, hn⟩ := ih _ _ (by omega) h4
        refine ⟨n + 1, ?_⟩
        rw [whlN, h1]
        dsimp only
        rcases h3 with h3 | h3
        · rw [h3]; exact hn
        · rw [h3]; exact hn
      · exact ⟨1, by rw [whlN, h1]; dsimp only; rw [h3]; exact h4⟩
      · exact ⟨1, by rw [whlN, h1]; dsimp only; rw [h3]; exact h4⟩
  obtain ⟨n, hn⟩ := main _ σ T (Nat.le_refl _) h
  rw [whlR_eq (n := n) fun e => hK (e ▸ hn)]
  exact hn
/-- a for by its invariant: J i holds ahead of the member i -/
theorem for_run {src : Src} {w : List Nat} {step : PV → Slots → Store → R} (J : Nat → Slots → Store → Prop) (K : R → Prop) : ∀ (xs : List PV) (i : Nat) (σ : Slots) (T : Store), J i σ T →
    (∀ k σ T, i ≤ k → k ≤ i + xs.length → J k σ T → grd src T) →
    (∀ k x σ T, xs[k]? = some x → J (i + k) σ T → (∃ σ' T', (step x σ T = .nx σ' T' ∨ step x σ T = .ct σ' T') ∧ J (i + k + 1) (wipe σ' w) T') ∨ (∃ σ' T', step x σ T = .bk σ' T' ∧ K (.nx (wipe σ' w) T')) ∨ (∃ v T', step x σ T = .rt v T' ∧ K (.rt v T'))) →
    (∀ σ T, J (i + xs.length) σ T → K (.nx (wipe σ w) T)) → K (forL src w step xs σ T)
  | [], i, σ, T, hJ, hg, _, hK => by
    rw [forL, if_pos (hg i σ T (Nat.le_refl _) (by simp) hJ)]
    exact hK σ T hJ
  | x :: xs, i, σ, T, hJ, hg, hs, hK => by
    rw [forL, if_pos (hg i σ T (Nat.le_refl _) (by simp) hJ)]
    rcases hs 0 x σ T rfl hJ with ⟨σ', T', h, hJ'⟩ | ⟨σ', T', h, h2⟩ | ⟨v, T', h, h2⟩
    · have r := for_run J K xs (i + 1) (wipe σ' w) T' hJ' (fun k σ T a b => hg k σ T (by omega) (by simp only [List.length_cons]; omega)) (fun k x σ T e j => by
        have z := hs (k + 1) x σ T (by simpa using e) (by rw [show i + (k + 1) = i + 1 + k by omega]; exact j)
        rw [show i + (k + 1) + 1 = i + 1 + k + 1 by omega] at z
        exact z) (fun σ T j => hK σ T (by rw [show i + (x :: xs).length = i + 1 + xs.length by simp only [List.length_cons]; omega]; exact j))
      rcases h with h | h
      · rw [h]; exact r
      · rw [h]; exact r
    · rw [h]; exact h2
    · rw [h]; exact h2
/-- a for that ends of itself -/
theorem for_end {w : List Nat} {step : PV → Slots → Store → R} (J : Nat → Slots → Store → Prop) {xs : List PV} {σ : Slots} {T : Store} (h : J 0 σ T)
    (hs : ∀ k x σ T, xs[k]? = some x → J k σ T → ∃ σ' T', (step x σ T = .nx σ' T' ∨ step x σ T = .ct σ' T') ∧ J (k + 1) (wipe σ' w) T') :
    ∃ σ' T', forL none w step xs σ T = .nx (wipe σ' w) T' ∧ J xs.length σ' T' := by
  refine for_run (src := none) (w := w) J (fun r => ∃ σ' T', r = .nx (wipe σ' w) T' ∧ J xs.length σ' T') xs 0 σ T h (fun _ _ _ _ _ _ => trivial) (fun k x σ T e j => ?_) (fun σ T j => ⟨σ, T, rfl, by rwa [Nat.zero_add] at j⟩)
  rw [Nat.zero_add] at j ⊢
  exact .inl (hs k x σ T e j)
/-! stores laid behind T -/
@[simp] theorem sto_get (T R : Store) (x d : PV) : (T ++ x :: R).getD T.length d = x := by simp [List.getD]
@[simp] theorem sto_get1 (T : Store) (x d : PV) : (T ++ [x]).getD T.length d = x := by simp [List.getD]
@[simp] theorem sto_set (T R : Store) (x y : PV) : (T ++ x :: R).set T.length y = T ++ y :: R := by simp
section
variable {T R : Store} {kc : List PV}
@[simp] theorem tru_r (xs : List PV) : truP (.ref T.length) (T ++ .lst xs :: R) = .ok (!xs.isEmpty) (T ++ .lst xs :: R) := by
  unfold truP
  rw [dr_ref, sto_get]
@[simp] theorem bt_lst (xs : List PV) : isBT .lst (.lst xs) = true := rfl
@[simp] theorem len_r (xs : List PV) : lenP (.ref T.length) (T ++ .lst xs :: R) = .ok (.int xs.length) (T ++ .lst xs :: R) := by
  unfold lenP
  rw [dr_ref, sto_get]
theorem app_r {xs : List PV} {y : PV} (h : xs.length < sizeLine) : evP kc .append [.ref T.length, y] (T ++ .lst xs :: R) = .ok .non (T ++ .lst (xs ++ [y]) :: R) := by
  show (match dr (T ++ .lst xs :: R) (.ref T.length) with
    | .lst us => if us.length < sizeLine then sto (.ref T.length) (.lst (us ++ [y])) (T ++ PV.lst xs :: R) .non else .bad
    | _ => .bad) = _
  rw [dr_ref, sto_get]
  dsimp only
  rw [if_pos h]
  show Ro.ok PV.non (List.set _ _ _) = _
  rw [sto_set]
theorem pop_r (xs : List PV) (y : PV) : evP kc .pop [.ref T.length] (T ++ .lst (xs ++ [y]) :: R) = .ok y (T ++ .lst xs :: R) := by
  show (match dr (T ++ .lst (xs ++ [y]) :: R) (.ref T.length) with
    | .lst us => (match us[us.length - 1]? with
      | some z => sto (.ref T.length) (.lst us.dropLast) (T ++ PV.lst (xs ++ [y]) :: R) z
      | none => .bad)
    | _ => .bad) = _
  rw [dr_ref, sto_get]
  dsimp only
  have e : (xs ++ [y])[(xs ++ [y]).length - 1]? = some y := by simp
  rw [e]
  show Ro.ok y (List.set _ _ _) = _
  rw [sto_set, List.dropLast_concat]
@[simp] theorem ix_r {xs : List PV} {k : Int} {v : PV} (h : L2.atI xs k = some v) : ixP kc (.ref T.length) (.int k) (T ++ .lst xs :: R) = .ok v (T ++ .lst xs :: R) := by
  unfold ixP
  rw [dr_ref, sto_get]
  dsimp only
  rw [h]
theorem seq_r (xs : List PV) : seqP (.ref T.length) (T ++ .lst xs :: R) = .ok (some (T.length, .lst xs), xs) (T ++ .lst xs :: R) := by
  unfold seqP
  rw [dr_ref, sto_get]
  unfold srcOf
  dsimp only
  rw [sto_get]
end
theorem ss_nx {C : Ctx} {s : St} {ss : List St} {σ σ' : Slots} {T T' : Store} (h : evS C s σ T = .nx σ' T') : evSs C (s :: ss) σ T = evSs C ss σ' T' := by rw [r_scons, h]
theorem ss_rt {C : Ctx} {s : St} {ss : List St} {σ : Slots} {T T' : Store} {v : PV} (h : evS C s σ T = .rt v T') : evSs C (s :: ss) σ T = .rt v T' := by rw [r_scons, h]
end E
set_option Elab.async false
set_option linter.all false
set_option autoImplicit false
set_option maxRecDepth 100000
set_option maxHeartbeats 1000000
/-! Part 31: two defs that many laws share. -/
namespace E
open PySem (Str PyData sizeLine)
open Classical

def poolB1 : List St := [(.asg (.var 5) (.pr .int [(.var 4)])), (.asg (.var 3) (.pr .mod [(.pr .int [(.pr (.add false) [(.pr .mul [(.var 3), (.cst (.int 31))]), (.var 5)])]), (.cst (.int 2147483647))])), (.ife (.pr .lt [(.var 5), (.pr .pow [(.cst (.int 10)), (.cst (.int 18))])]) [(.exp (.bm .lst .append (.var 2) [(.pr .mod [(.pr .mod [(.pr (.add false) [(.pr .mod [(.var 5), (.cst (.int 1000003))]), (.pr .mul [(.cst (.int 48271)), (.pr .len [(.var 2)])])]), (.cst (.int 65521))]), (.cst (.int 10000))])]))] [(.for_ (.var 6) (.rng [(.cst (.int 60))]) [] [(.ife (.and (.pr .gt [(.var 5), (.cst (.int 0))]) (.one (.pr .lt [(.pr .len [(.var 2)]), (.var 1)]))) [(.exp (.bm .lst .append (.var 2) [(.pr .mod [(.var 5), (.cst (.int 10000))])])), (.asg (.var 5) (.pr .fdiv [(.var 5), (.cst (.int 10000))]))] [])])])]
def poolB2 : List St := [(.asg (.var 3) (.pr .mod [(.pr (.add false) [(.pr (.add false) [(.pr .mul [(.var 3), (.cst (.int 48271))]), (.cst (.int 12345))]), (.var 6)]), (.cst (.int 2147483647))])), (.exp (.bm .lst .append (.var 2) [(.pr .mod [(.pr (.add false) [(.pr .fdiv [(.var 3), (.cst (.int 7))]), (.pr .mod [(.pr .mul [(.var 3), (.var 3)]), (.cst (.int 69621))])]), (.cst (.int 10000))])]))]
def Dpool2 : Def := ⟨7, 2, false, [(.par 2 3 (.lst true []) (.cst (.int 7))), (.for_ (.var 4) (.seq (.sl false (.var 0) (.cst .non) (.cst (.int 63)))) [] poolB1), (.for_ (.var 6) (.rng [(.var 1)]) [] poolB2), (.ret (.var 2))]⟩
def Dsame : Def := ⟨6, 2, false, [(.asg (.var 2) (.lst true [(.tup [(.var 0), (.var 1)])])), (.whl (.var 2) [] [(.asg (.tup [(.var 3), (.var 4)]) (.bm .lst .pop (.var 2) [])), (.ife (.pr (.isn false) [(.var 4)]) [(.ife (.pr (.isn true) [(.var 3)]) [(.ret (.cst (.bl false)))] [])] [(.ife (.pr (.isi [.tup]) [(.var 4)]) [(.ife (.or (.pr .not [(.pr (.isi [.tup]) [(.var 3)])]) (.one (.pr .ne [(.pr .len [(.var 3)]), (.pr .len [(.var 4)])]))) [(.ret (.cst (.bl false)))] []), (.for_ (.var 5) (.rng [(.pr .len [(.var 4)])]) [] [(.exp (.bm .lst .append (.var 2) [(.tup [(.pr .ix [(.var 3), (.var 5)]), (.pr .ix [(.var 4), (.var 5)])])]))])] [(.ife (.pr (.isi [.str]) [(.var 4)]) [(.ife (.or (.pr .not [(.pr (.isi [.str]) [(.var 3)])]) (.one (.pr .ne [(.var 3), (.var 4)]))) [(.ret (.cst (.bl false)))] [])] [(.ife (.or (.pr .ne [(.pr (.isi [.bool]) [(.var 4)]), (.pr (.isi [.bool]) [(.var 3)])]) (.or (.pr .not [(.pr (.isi [.int]) [(.var 3)])]) (.one (.pr .ne [(.var 3), (.var 4)])))) [(.ret (.cst (.bl false)))] [])])])])]), (.ret (.cst (.bl true)))]⟩
section
variable {T : Store}
@[simp] theorem eq_bls (a b : Bool) : eqP (.bl a) (.bl b) T = .ok (decide (a = b)) T := by
  unfold eqP
  simp [PV.plain, PV.data, PyData.depth, PyData.eqv]
  cases a <;> cases b <;> rfl
@[simp] theorem eq_strs (a b : Str) : eqP (.str a) (.str b) T = .ok (a == b) T := by
  unfold eqP
  simp [PV.plain, PV.data, PyData.depth, PyData.eqv]
end
mutual
/-- what _law_same may be asked -/
def PV.gd : PV → Bool
  | .non => true | .bl _ => true | .int _ => true | .str _ => true
  | .tup xs => PV.gdL xs
  | _ => false
def PV.gdL : List PV → Bool
  | [] => true
  | x :: xs => PV.gd x && PV.gdL xs
end
mutual
def PV.big : PV → Nat
  | .tup xs => PV.bigL xs + 1
  | _ => 1
def PV.bigL : List PV → Nat
  | [] => 0
  | x :: xs => PV.big x + PV.bigL xs
end
theorem big_app : ∀ xs ys : List PV, PV.bigL (xs ++ ys) = PV.bigL xs + PV.bigL ys
  | [], ys => by simp [PV.bigL]
  | x :: xs, ys => by
    rw [List.cons_append, PV.bigL, PV.bigL, big_app xs ys]
    omega
theorem gd_app : ∀ xs ys : List PV, PV.gdL (xs ++ ys) = (PV.gdL xs && PV.gdL ys)
  | [], ys => by simp [PV.gdL]
  | x :: xs, ys => by rw [List.cons_append, PV.gdL, PV.gdL, gd_app xs ys, Bool.and_assoc]
theorem big_pos (v : PV) : 0 < v.big := by
  cases v <;> simp [PV.big]
theorem len_big : ∀ xs : List PV, xs.length ≤ PV.bigL xs
  | [] => by simp [PV.bigL]
  | x :: xs => by
    have := len_big xs; have := big_pos x
    rw [PV.bigL, List.length_cons]
    omega
abbrev p2 (v : PV) : PV := .tup [v, v]
theorem rng1 {j : Int} {T : Store} (h : b62 j) : rngP [.int j] T = .ok (none, (List.range j.toNat).map fun (k : Nat) => .int k) T := if_pos h
def fst2 : PV → PV
  | .tup [a, _] => a
  | v => v
theorem fst_p2 (ws : List PV) : (ws.map p2).map fst2 = ws := by
  induction ws with
  | nil => rfl
  | cons w ws ih => simp [fst2, ih]
def sameM (n : Nat) (_ : Slots) (T : Store) : Nat := match T.getD n dead with
  | .lst ps => PV.bigL (ps.map fst2)
  | _ => 0
theorem sameM_eq (T : Store) (σ : Slots) (ws : List PV) : sameM T.length σ (T ++ [.lst (ws.map p2)]) = PV.bigL ws := by
  unfold sameM
  rw [sto_get1]
  dsimp only
  rw [fst_p2]
theorem same_ok {P : Nat → Option Def} {C : Ctx} {d f : Nat} {T : Store} (hP : P f = some Dsame) {v : PV} (hv : v.gd = true) (hs : v.big < sizeLine) : callD P C (d + 1) f [v, v] T = .ok (.bl true) T := by
  rw [call_S hP rfl]
  have inner : ∀ (C : Ctx) (xs ws : List PV) (z : Option PV), ws.length + xs.length < sizeLine → ∃ z', evS C (.for_ (.var 5) (.rng [(.pr .len [(.var 4)])]) [] [(.exp (.bm .lst .append (.var 2) [(.tup [(.pr .ix [(.var 3), (.var 5)]), (.pr .ix [(.var 4), (.var 5)])])]))])
      [some v, some v, some (.ref T.length), some (.tup xs), some (.tup xs), z] (T ++ [.lst (ws.map p2)]) = .nx [some v, some v, some (.ref T.length), some (.tup xs), some (.tup xs), z'] (T ++ [.lst ((ws ++ xs).map p2)]) := by
    intro C xs ws z hl
    have hb : b62 ((xs.length : Nat) : Int) := by
      unfold b62
      unfold sizeLine at hl
      omega
    rw [r_for]
    simp only [r_rng, r_cons, r_nil, r_pr, r_var, getV, q_len, List.getElem?_cons_succ, List.getElem?_cons_zero, Ro.bind_ok, len_tup, noEx_ok, rng1 hb, Ro.then_ok, Int.toNat_natCast]
    obtain ⟨σ', T', h1, z', h2, h3⟩ := for_end (w := []) (step := fun x σ T => (noEx (asgT C (.var 5) x σ T)).then σ fun σ' T => evSs C [(.exp (.bm .lst .append (.var 2) [(.tup [(.pr .ix [(.var 3), (.var 5)]), (.pr .ix [(.var 4), (.var 5)])])]))] σ' T)
      (fun i σ T' => ∃ z, σ = [some v, some v, some (.ref T.length), some (.tup xs), some (.tup xs), z] ∧ T' = T ++ [.lst ((ws ++ xs.take i).map p2)])
      (xs := (List.range xs.length).map fun (k : Nat) => PV.int k) (σ := [some v, some v, some (.ref T.length), some (.tup xs), some (.tup xs), z]) (T := T ++ [.lst (ws.map p2)]) ⟨z, rfl, by simp⟩ (by
        rintro k x σ T' hx ⟨z, rfl, rfl⟩
        have hk : k < xs.length := by
          rcases Nat.lt_or_ge k xs.length with h | h
          · exact h
          · rw [List.getElem?_eq_none (by simpa using h)] at hx
            cases hx
        have ex : x = .int k := by
          rw [List.getElem?_map, List.getElem?_range hk] at hx
          exact (Option.some.inj hx).symm
        subst ex
        have ea : L2.atI xs (k : Int) = some xs[k] := atI_nat (List.getElem?_eq_getElem hk)
        have el : ((ws ++ xs.take k).map p2).length < sizeLine := by
          simp only [List.length_map, List.length_append, List.length_take]
          omega
        refine ⟨[some v, some v, some (.ref T.length), some (.tup xs), some (.tup xs), some (.int k)], T ++ [.lst ((ws ++ xs.take (k + 1)).map p2)], .inl ?_, ⟨_, rfl, rfl⟩⟩
        have et : (ws ++ xs.take (k + 1)).map p2 = (ws ++ xs.take k).map p2 ++ [p2 xs[k]] := by
          rw [List.take_add_one, List.getElem?_eq_getElem hk, Option.toList_some, ← List.append_assoc, List.map_append, List.map_cons, List.map_nil]
        rw [et]
        have ap := app_r (T := T) (R := []) (kc := C.kc) (y := p2 xs[k]) el
        simp only [r_avar, noEx_ok, Ro.then_ok, r_scons, r_exp, r_bm, r_var, getV, List.set_cons_succ, List.set_cons_zero, List.getElem?_cons_succ, List.getElem?_cons_zero, Ro.bind_ok, dr_ref, sto_get1, bt_lst, if_true, r_cons, r_nil, r_tup, r_pr, q_ix, ix_tup ea, ap, r_snil])
    refine ⟨z', ?_⟩
    rw [h1, h2, h3]
    simp [wipe]
  have loop : ∀ C : Ctx, ∃ x y z : Option PV, evS C (Dsame.body.getD 1 .pass) [some v, some v, some (.ref T.length), none, none, none] (T ++ [.lst [p2 v]]) = .nx [some v, some v, some (.ref T.length), x, y, z] (T ++ [.lst []]) := by
    intro C
    unfold Dsame
    simp only [List.getD_cons_succ, List.getD_cons_zero]
    rw [r_whl]
    refine whl_run (fun σ T' => ∃ (x y z : Option PV) (ws : List PV), σ = [some v, some v, some (.ref T.length), x, y, z] ∧ T' = T ++ [.lst (ws.map p2)] ∧ PV.gdL ws = true ∧ PV.bigL ws < sizeLine) (sameM T.length)
      (fun r => ∃ x y z : Option PV, r = .nx [some v, some v, some (.ref T.length), x, y, z] (T ++ [.lst []])) (by rintro ⟨_, _, _, h⟩; cases h) ?_ ⟨none, none, none, [v], rfl, rfl, by simp [PV.gdL, hv], by simp [PV.bigL, hs]⟩
    rintro σ T' ⟨x, y, z, ws, rfl, rfl, hg, hb⟩
    rcases List.eq_nil_or_concat ws with rfl | ⟨ws, w, rfl⟩
    · exact .inl ⟨T ++ [.lst []], by simp [getV], x, y, z, rfl⟩
    · right
      rw [List.concat_eq_append] at *
      rw [gd_app, Bool.and_eq_true] at hg
      obtain ⟨hg1, hg2⟩ := hg
      rw [big_app] at hb
      have hg3 : w.gd = true := by simpa [PV.gdL] using hg2
      have eb : PV.bigL [w] = w.big := by simp [PV.bigL]
      rw [eb] at hb
      have hl := len_big ws
      have po := fun kc => pop_r (T := T) (R := []) (kc := kc) (ws.map p2) (p2 w)
      have sm : ∀ σ, sameM T.length σ (T ++ [.lst ((ws ++ [w]).map p2)]) = PV.bigL ws + w.big := fun σ => by rw [sameM_eq, big_app, eb]
      have e0 : (ws ++ [w]).map p2 = ws.map p2 ++ [p2 w] := by simp
      refine ⟨T ++ [.lst ((ws ++ [w]).map p2)], by simp [getV], .inl ?_⟩
      have bp := big_pos w
      have fin : ∀ z : Option PV, (∃ x y z : Option PV, ∃ ws' : List PV, [some v, some v, some (.ref T.length), some w, some w, z] = [some v, some v, some (.ref T.length), x, y, z] ∧ T ++ [.lst (ws.map p2)] = T ++ [.lst (ws'.map p2)] ∧ PV.gdL ws' = true ∧ PV.bigL ws' < sizeLine) := fun z => ⟨_, _, z, ws, rfl, rfl, hg1, by omega⟩
      cases w with
      | tup xs =>
        have hx : PV.big (.tup xs) = PV.bigL xs + 1 := by rw [PV.big]
        have hgx : PV.gdL xs = true := by simpa [PV.gd] using hg3
        have hl2 := len_big xs
        obtain ⟨z', hz⟩ := inner C xs ws z (by omega)
        refine ⟨[some v, some v, some (.ref T.length), some (.tup xs), some (.tup xs), z'], T ++ [.lst ((ws ++ xs).map p2)], .inl ?_, ⟨_, _, _, ws ++ xs, rfl, rfl, by rw [gd_app, hg1, hgx]; rfl, by rw [big_app]; omega⟩, ?_⟩
        · rw [e0]
          simp [getV, po, unpack, tyOf, tyIs, hz]
        · rw [sm]
          show sameM T.length _ (T ++ [.lst ((ws ++ xs).map p2)]) < _
          rw [sameM_eq, big_app]
          omega
      | non =>
        refine ⟨[some v, some v, some (.ref T.length), some .non, some .non, z], T ++ [.lst (ws.map p2)], .inl ?_, ⟨_, _, z, ws, rfl, rfl, hg1, by omega⟩, ?_⟩
        · rw [e0]
          simp [getV, po, unpack, tyOf, tyIs]
        · rw [sm]
          show sameM T.length _ (T ++ [.lst (ws.map p2)]) < _
          rw [sameM_eq]
          omega
      | bl b =>
        refine ⟨[some v, some v, some (.ref T.length), some (.bl b), some (.bl b), z], T ++ [.lst (ws.map p2)], .inl ?_, ⟨_, _, z, ws, rfl, rfl, hg1, by omega⟩, ?_⟩
        · rw [e0]
          simp [getV, po, unpack, tyOf, tyIs]
        · rw [sm]
          show sameM T.length _ (T ++ [.lst (ws.map p2)]) < _
          rw [sameM_eq]
          omega
      | int i =>
        refine ⟨[some v, some v, some (.ref T.length), some (.int i), some (.int i), z], T ++ [.lst (ws.map p2)], .inl ?_, ⟨_, _, z, ws, rfl, rfl, hg1, by omega⟩, ?_⟩
        · rw [e0]
          simp [getV, po, unpack, tyOf, tyIs]
        · rw [sm]
          show sameM T.length _ (T ++ [.lst (ws.map p2)]) < _
          rw [sameM_eq]
          omega
      | str i =>
        refine ⟨[some v, some v, some (.ref T.length), some (.str i), some (.str i), z], T ++ [.lst (ws.map p2)], .inl ?_, ⟨_, _, z, ws, rfl, rfl, hg1, by omega⟩, ?_⟩
        · rw [e0]
          simp [getV, po, unpack, tyOf, tyIs]
        · rw [sm]
          show sameM T.length _ (T ++ [.lst (ws.map p2)]) < _
          rw [sameM_eq]
          omega
      | lst _ => simp [PV.gd] at hg3
      | dic _ _ => simp [PV.gd] at hg3
      | set _ => simp [PV.gd] at hg3
      | ins _ _ => simp [PV.gd] at hg3
      | ref _ => simp [PV.gd] at hg3
  obtain ⟨x, y, z, e⟩ := loop { C with call := callD P C d, cur := none }
  show leave false T (evSs _ Dsame.body [some v, some v, none, none, none, none] T) = _
  unfold Dsame at e ⊢
  simp only [List.getD_cons_succ, List.getD_cons_zero] at e
  rw [ss_nx (σ' := [some v, some v, some (.ref T.length), none, none, none]) (T' := T ++ [.lst [p2 v]]) (by simp [getV, lay]), ss_nx e]
  simp
end E
set_option Elab.async false
set_option linter.all false
set_option autoImplicit false
set_option maxRecDepth 100000
set_option maxHeartbeats 1000000
/-! Part 32: the pool of drawn numbers. -/
namespace E
open PySem (Str PyData sizeLine)
open Classical

/-- a pool's numbers -/
def Dig (ps : List Int) : Prop := ∀ p ∈ ps, 0 ≤ p ∧ p < 10000
theorem Dig.add {ps : List Int} (h : Dig ps) {x : Int} (h0 : 0 ≤ x) (h1 : x < 10000) : Dig (ps ++ [x]) := by
  intro p hp
  rcases List.mem_append.mp hp with hp | hp
  · exact h p hp
  · rw [List.mem_singleton] at hp
    subst hp
    exact ⟨h0, h1⟩
theorem app_int {T : Store} {kc : List PV} {ps : List Int} {x : Int} (h : ps.length < sizeLine) : evP kc .append [.ref T.length, .int x] (T ++ [.lst (ps.map .int)]) = .ok .non (T ++ [.lst ((ps ++ [x]).map .int)]) := by
  rw [app_r (R := []) (by simpa using h)]
  simp
theorem cpow_1018 : L2.CPow 10 18 := ⟨by decide, by decide, by decide⟩
theorem cut_map {α β : Type} (g : α → β) (xs : List α) (lo hi : Option Int) : cut (xs.map g) lo hi = (cut xs lo hi).map g := by
  unfold cut
  rw [List.length_map, List.map_take, List.map_drop]
theorem cut_len {α : Type} (xs : List α) (lo hi : Option Int) : (cut xs lo hi).length ≤ xs.length := by
  unfold cut
  rw [List.length_take, List.length_drop]
  omega
abbrev sPool (v : PV) (m : Int) (n : Nat) (seed : Int) (x y z : Option PV) : Slots := [some v, some (.int m), some (.ref n), some (.int seed), x, y, z]
section
variable {T : Store} {v : PV} {m : Int}
theorem pool_in (C : Ctx) (ps : List Int) (seed left : Int) (x z : Option PV) (hd : Dig ps) (hl : ps.length + 60 < sizeLine) : ∃ (ps' : List Int) (left' : Int) (z' : Option PV), Dig ps' ∧ ps'.length ≤ ps.length + 60 ∧
    evS C (.for_ (.var 6) (.rng [(.cst (.int 60))]) [] [(.ife (.and (.pr .gt [(.var 5), (.cst (.int 0))]) (.one (.pr .lt [(.pr .len [(.var 2)]), (.var 1)]))) [(.exp (.bm .lst .append (.var 2) [(.pr .mod [(.var 5), (.cst (.int 10000))])])), (.asg (.var 5) (.pr .fdiv [(.var 5), (.cst (.int 10000))]))] [])])
      (sPool v m T.length seed x (some (.int left)) z) (T ++ [.lst (ps.map .int)]) = .nx (sPool v m T.length seed x (some (.int left')) z') (T ++ [.lst (ps'.map .int)]) := by
  rw [r_for]
  have hb : b62 60 := by unfold b62; omega
  simp only [r_rng, r_cons, r_nil, r_cst, Ro.bind_ok, rng1 hb, Ro.then_ok]
  obtain ⟨σ', T', h1, ps', left', z', rfl, rfl, h2, h3⟩ := for_end (w := []) (step := fun x σ T => (noEx (asgT C (.var 6) x σ T)).then σ fun σ' T => evSs C [(.ife (.and (.pr .gt [(.var 5), (.cst (.int 0))]) (.one (.pr .lt [(.pr .len [(.var 2)]), (.var 1)]))) [(.exp (.bm .lst .append (.var 2) [(.pr .mod [(.var 5), (.cst (.int 10000))])])), (.asg (.var 5) (.pr .fdiv [(.var 5), (.cst (.int 10000))]))] [])] σ' T)
    (fun i σ T' => ∃ (ps' : List Int) (left' : Int) (z' : Option PV), σ = sPool v m T.length seed x (some (.int left')) z' ∧ T' = T ++ [.lst (ps'.map .int)] ∧ Dig ps' ∧ ps'.length ≤ ps.length + i)
    (xs := (List.range (60 : Int).toNat).map fun (k : Nat) => PV.int k) (σ := sPool v m T.length seed x (some (.int left)) z) (T := T ++ [.lst (ps.map .int)]) ⟨ps, left, z, rfl, rfl, hd, by omega⟩ (by
      rintro k y σ T' hx ⟨ps', left', z', rfl, rfl, h2, h3⟩
      have hk : k < 60 := by
        rcases Nat.lt_or_ge k 60 with h | h
        · exact h
        · rw [List.getElem?_eq_none (by simpa using h)] at hx
          cases hx
      by_cases h : 0 < left' ∧ (ps'.length : Int) < m
      · have ap := app_int (T := T) (kc := C.kc) (ps := ps') (x := left' % 10000) (by omega)
        refine ⟨sPool v m T.length seed x (some (.int (left' / 10000))) (some y), T ++ [.lst ((ps' ++ [left' % 10000]).map .int)], .inl ?_, ps' ++ [left' % 10000], _, _, rfl, rfl, h2.add (by omega) (by omega), by simp only [List.length_append, List.length_singleton]; omega⟩
        simp (disch := first | omega | decide | simp) [getV, h.1, h.2, ap]
      · refine ⟨sPool v m T.length seed x (some (.int left')) (some y), T ++ [.lst (ps'.map .int)], .inl ?_, ps', _, _, rfl, rfl, h2, by omega⟩
        by_cases h1 : 0 < left'
        · have h4 : ¬ (ps'.length : Int) < m := fun z => h ⟨h1, z⟩
          simp [getV, h1, h4]
        · simp [getV, h1])
  exact ⟨ps', left', z', h2, by simpa using h3, by rw [h1]; rfl⟩
theorem pool_1 (C : Ctx) (ns : List Int) (hn : ns.length ≤ 63) : ∃ (ps : List Int) (seed : Int) (x y z : Option PV), Dig ps ∧ ps.length ≤ 63 * 61 ∧ 0 ≤ seed ∧ seed < 2147483647 ∧
    evS C (Dpool2.body.getD 1 .pass) (sPool (.lst (ns.map .int)) m T.length 7 none none none) (T ++ [.lst []]) = .nx (sPool (.lst (ns.map .int)) m T.length seed x y z) (T ++ [.lst (ps.map .int)]) := by
  have cl := cut_len ns none (some 63)
  unfold Dpool2
  simp only [List.getD_cons_succ, List.getD_cons_zero]
  rw [r_for]
  have sl : ∀ C : Ctx, ∀ T : Store, slcP false (.lst (ns.map .int)) .non (.int 63) T = .ok (.lst ((cut ns none (some 63)).map .int)) T := fun C T => by
    unfold slcP
    simp [part, lay, cut_map]
  simp only [r_seq, r_sl, r_var, r_cst, getV, List.getElem?_cons_succ, List.getElem?_cons_zero, Ro.bind_ok, part, Option.isSome_some, if_true, evP, sl C, noEx_ok, seq_lst, Ro.then_ok]
  generalize hc : cut ns none (some 63) = cs at *
  obtain ⟨σ', T', h1, ps, seed, x, y, z, rfl, rfl, h2, h3, h4, h5⟩ := for_end (w := []) (step := fun x σ T => (noEx (asgT C (.var 4) x σ T)).then σ fun σ' T => evSs C poolB1 σ' T)
    (fun i σ T' => ∃ (ps : List Int) (seed : Int) (x y z : Option PV), σ = sPool (.lst (ns.map .int)) m T.length seed x y z ∧ T' = T ++ [.lst (ps.map .int)] ∧ Dig ps ∧ ps.length ≤ i * 61 ∧ 0 ≤ seed ∧ seed < 2147483647)
    (xs := cs.map PV.int) (σ := sPool (.lst (ns.map .int)) m T.length 7 none none none) (T := T ++ [.lst []]) ⟨[], 7, none, none, none, rfl, rfl, (fun p h => nomatch h), by simp, by decide, by decide⟩ (by
      rintro k c σ T' hx ⟨ps, seed, x, y, z, rfl, rfl, h2, h3, h4, h5⟩
      have hk : k < cs.length := by
        rcases Nat.lt_or_ge k cs.length with h | h
        · exact h
        · rw [List.getElem?_eq_none (by simpa using h)] at hx
          cases hx
      have ec : c = .int cs[k] := by
        rw [List.getElem?_map, List.getElem?_eq_getElem hk] at hx
        exact (Option.some.inj hx).symm
      subst ec
      generalize cs[k] = left
      have hl : ps.length + 60 < sizeLine := by
        unfold sizeLine
        omega
      have s1 : 0 ≤ (seed * 31 + left) % 2147483647 := by omega
      have s2 : (seed * 31 + left) % 2147483647 < 2147483647 := by omega
      by_cases h : left < 1000000000000000000
      · have ap := app_int (T := T) (kc := C.kc) (ps := ps) (x := (left % 1000003 + 48271 * (ps.length : Int)) % 65521 % 10000) (by omega)
        refine ⟨sPool (.lst (ns.map .int)) m T.length ((seed * 31 + left) % 2147483647) (some (.int left)) (some (.int left)) z, T ++ [.lst ((ps ++ [(left % 1000003 + 48271 * (ps.length : Int)) % 65521 % 10000]).map .int)], .inl ?_,
          _, _, _, _, _, rfl, rfl, h2.add (by omega) (by omega), by simp only [List.length_append, List.length_singleton]; omega, s1, s2⟩
        simp (disch := first | omega | exact cpow_1018 | decide | simp) [poolB1, getV, h, ap]
      · obtain ⟨ps', left', z', g1, g2, g3⟩ := pool_in (T := T) (v := .lst (ns.map .int)) (m := m) C ps ((seed * 31 + left) % 2147483647) left (some (.int left)) z h2 hl
        refine ⟨sPool (.lst (ns.map .int)) m T.length ((seed * 31 + left) % 2147483647) (some (.int left)) (some (.int left')) z', T ++ [.lst (ps'.map .int)], .inl ?_, _, _, _, _, _, rfl, rfl, g1, by omega, s1, s2⟩
        simp (disch := first | omega | exact cpow_1018 | decide | simp) [poolB1, getV, h, g3])
  refine ⟨ps, seed, x, y, z, h2, ?_, h4, h5, by rw [h1]; rfl⟩
  rw [List.length_map] at h3
  omega
theorem pool_2 (C : Ctx) (ps : List Int) (seed : Int) (x y z : Option PV) (hd : Dig ps) (hl : ps.length ≤ 63 * 61) (h0 : 0 ≤ seed) (h1 : seed < 2147483647) (hm : 0 ≤ m) (hm2 : m < 100000) : ∃ (ps' : List Int) (seed' : Int) (z' : Option PV), Dig ps' ∧ m ≤ ps'.length ∧
    evS C (Dpool2.body.getD 2 .pass) (sPool v m T.length seed x y z) (T ++ [.lst (ps.map .int)]) = .nx (sPool v m T.length seed' x y z') (T ++ [.lst (ps'.map .int)]) := by
  unfold Dpool2
  simp only [List.getD_cons_succ, List.getD_cons_zero]
  rw [r_for]
  have hb : b62 m := by unfold b62; omega
  simp only [r_rng, r_cons, r_nil, r_var, getV, List.getElem?_cons_succ, List.getElem?_cons_zero, Ro.bind_ok, rng1 hb, Ro.then_ok]
  obtain ⟨σ', T', e, ps', seed', z', rfl, rfl, h2, h3, h4, h5⟩ := for_end (w := []) (step := fun x σ T => (noEx (asgT C (.var 6) x σ T)).then σ fun σ' T => evSs C poolB2 σ' T)
    (fun i σ T' => ∃ (ps' : List Int) (seed' : Int) (z' : Option PV), σ = sPool v m T.length seed' x y z' ∧ T' = T ++ [.lst (ps'.map .int)] ∧ Dig ps' ∧ ps'.length = ps.length + i ∧ 0 ≤ seed' ∧ seed' < 2147483647)
    (xs := (List.range m.toNat).map fun (k : Nat) => PV.int k) (σ := sPool v m T.length seed x y z) (T := T ++ [.lst (ps.map .int)]) ⟨ps, seed, z, rfl, rfl, hd, rfl, h0, h1⟩ (by
      rintro k c σ T' hx ⟨ps', seed', z', rfl, rfl, h2, h3, h4, h5⟩
      have hk : k < m.toNat := by
        rcases Nat.lt_or_ge k m.toNat with h | h
        · exact h
        · rw [List.getElem?_eq_none (by simpa using h)] at hx
          cases hx
      have ec : c = .int k := by
        rw [List.getElem?_map, List.getElem?_range hk] at hx
        exact (Option.some.inj hx).symm
      subst ec
      have hl : ps'.length < sizeLine := by
        unfold sizeLine
        omega
      generalize hs : (seed' * 48271 + 12345 + (k : Int)) % 2147483647 = s
      have s1 : 0 ≤ s := by omega
      have s2 : s < 2147483647 := by omega
      have sz : Sz s 31 := ⟨by omega⟩
      have ap := app_int (T := T) (kc := C.kc) (ps := ps') (x := (s / 7 + s * s % 69621) % 10000) hl
      refine ⟨sPool v m T.length s x y (some (.int k)), T ++ [.lst ((ps' ++ [(s / 7 + s * s % 69621) % 10000]).map .int)], .inl ?_, _, _, _, rfl, rfl, h2.add (by omega) (by omega), by simp only [List.length_append, List.length_singleton]; omega, s1, s2⟩
      simp (disch := first | omega | decide | simp) [poolB2, getV, hs, ap])
  refine ⟨ps', seed', z', h2, ?_, by rw [e]; rfl⟩
  rw [List.length_map, List.length_range] at h3
  omega
theorem pool_ok {P : Nat → Option Def} {C : Ctx} {d f : Nat} (hP : P f = some Dpool2) (ns : List Int) (hn : ns.length ≤ 63) (hm : 0 ≤ m) (hm2 : m < 100000) : ∃ ps : List Int, callD P C (d + 1) f [.lst (ns.map .int), .int m] T = .ok (.lst (ps.map .int)) T ∧ Dig ps ∧ m ≤ ps.length := by
  rw [call_S hP rfl]
  obtain ⟨p1, s1, x1, y1, z1, g1, g2, g3, g4, e1⟩ := pool_1 (T := T) (m := m) { C with call := callD P C d, cur := none } ns hn
  obtain ⟨p2, s2, z2, k1, k2, e2⟩ := pool_2 (T := T) (v := .lst (ns.map .int)) { C with call := callD P C d, cur := none } p1 s1 x1 y1 z1 g1 g2 g3 g4 hm hm2
  refine ⟨p2, ?_, k1, k2⟩
  show leave false T (evSs _ Dpool2.body [some (.lst (ns.map .int)), some (.int m), none, none, none, none, none] T) = _
  unfold Dpool2 at e1 e2 ⊢
  simp only [List.getD_cons_succ, List.getD_cons_zero] at e1 e2
  rw [ss_nx (σ' := sPool (.lst (ns.map .int)) m T.length 7 none none none) (T' := T ++ [.lst []]) (by simp [getV, lay]), ss_nx e1, ss_nx e2]
  simp [getV]
end
def pl (ps : List Int) (k : Int) : Int := ps.getD k.toNat 0
theorem pl_ix {kc : List PV} {T : Store} {ps : List Int} {k : Int} (h0 : 0 ≤ k) (h1 : k < ps.length) : ixP kc (.lst (ps.map .int)) (.int k) T = .ok (.int (pl ps k)) T := by
  apply ix_lst
  apply atI_int h0
  have h : k.toNat < ps.length := by omega
  rw [List.getElem?_map, List.getElem?_eq_getElem h]
  simp [pl, h]
theorem pl_bd {ps : List Int} (h : Dig ps) (k : Int) : 0 ≤ pl ps k ∧ pl ps k < 10000 := by
  unfold pl
  rcases Nat.lt_or_ge k.toNat ps.length with h1 | h1
  · rw [List.getD_eq_getElem?_getD, List.getElem?_eq_getElem h1]
    exact h _ (List.getElem_mem h1)
  · rw [List.getD_eq_getElem?_getD, List.getElem?_eq_none h1]
    decide
theorem pl_sz {ps : List Int} (h : Dig ps) (k : Int) : Sz (pl ps k) 14 := ⟨by
  have := pl_bd h k
  omega⟩
theorem ix_two {kc : List PV} {T : Store} {a b : PV} {i : Int} (h0 : 0 ≤ i) (h1 : i < 2) : ixP kc (.tup [a, b]) (.int i) T = .ok (if i = 0 then a else b) T := by
  have : i = 0 ∨ i = 1 := by omega
  rcases this with rfl | rfl <;> simp
theorem ix_three {kc : List PV} {T : Store} {a b c : PV} {i : Int} (h0 : 0 ≤ i) (h1 : i < 3) : ixP kc (.tup [a, b, c]) (.int i) T = .ok (if i = 0 then a else if i = 1 then b else c) T := by
  have : i = 0 ∨ i = 1 ∨ i = 2 := by omega
  rcases this with rfl | rfl | rfl <;> simp
@[simp] theorem lv_nil {R : Store} {v : PV} (h : v.nor = true) : leave false [] (.rt v R) = .ok v [] := by
  have := lv_rtA (T := []) (R := R) h
  simpa using this
end E
set_option Elab.async false
set_option linter.all false
set_option autoImplicit false
set_option maxRecDepth 100000
set_option maxHeartbeats 4000000
namespace LW
open PySem PySem.Spec PyProof.Rows L2 E
def top (i : Nat) : Stmt := PySem.Challenge.pw_streakbook_k48_shares_of_a_lump.main.body.getD i (.Pass ⟨0, 0, 0, 0⟩)
abbrev N0 : List Str := ["value"]
theorem nd0 : N0.Nodup := by decide +kernel
/-- is_whole -/
def D0 : E.Def := ⟨1, 1, false, [(.ife (.pr (.isi [.bool]) [(.var 0)]) [(.ret (.cst (.bl false)))] []), (.ret (.pr (.isi [.int]) [(.var 0)]))]⟩
abbrev N1 : List Str := ["value", "least"]
theorem nd1 : N1.Nodup := by decide +kernel
/-- is_whole_from -/
def D1 : E.Def := ⟨2, 2, false, [(.ret (.and (.call 0 [(.var 0)]) (.one (.pr .ge [(.var 0), (.var 1)]))))]⟩
abbrev N2 : List Str := ["value", "least", "greatest"]
theorem nd2 : N2.Nodup := by decide +kernel
/-- is_whole_between -/
def D2 : E.Def := ⟨3, 3, false, [(.ret (.and (.call 0 [(.var 0)]) (.one (.ch2 .le .le (.var 1) (.var 0) (.var 2)))))]⟩
abbrev N3 : List Str := ["values", "value"]
theorem nd3 : N3.Nodup := by decide +kernel
/-- are_wholes -/
def D3 : E.Def := ⟨2, 1, false, [(.ret (.ag true [1] (.var 1) (.seq (.var 0)) [] (.call 0 [(.var 1)])))]⟩
abbrev N4 : List Str := ["over", "under", "shared"]
theorem nd4 : N4.Nodup := by decide +kernel
/-- lowest -/
def D4 : E.Def := ⟨3, 2, false, [(.ife (.pr .lt [(.var 1), (.cst (.int 0))]) [(.par 0 1 (.pr .neg [(.var 0)]) (.pr .neg [(.var 1)]))] []), (.asg (.var 2) (.pr .gcd [(.var 0), (.var 1)])), (.ret (.tup [(.pr .fdiv [(.var 0), (.var 2)]), (.pr .fdiv [(.var 1), (.var 2)])]))]⟩
abbrev N5 : List Str := ["one", "other"]
theorem nd5 : N5.Nodup := by decide +kernel
/-- is_less -/
def D5 : E.Def := ⟨2, 2, false, [(.ret (.pr .lt [(.pr .mul [(.pr .ix [(.var 0), (.cst (.int 0))]), (.pr .ix [(.var 1), (.cst (.int 1))])]), (.pr .mul [(.pr .ix [(.var 1), (.cst (.int 0))]), (.pr .ix [(.var 0), (.cst (.int 1))])])]))]⟩
abbrev N6 : List Str := ["value"]
theorem nd6 : N6.Nodup := by decide +kernel
/-- is_fraction -/
def D6 : E.Def := ⟨1, 1, false, [(.ife (.or (.pr .not [(.pr (.isi [.tup]) [(.var 0)])]) (.one (.pr .ne [(.pr .len [(.var 0)]), (.cst (.int 2))]))) [(.ret (.cst (.bl false)))] []), (.ife (.pr .not [(.call 3 [(.var 0)])]) [(.ret (.cst (.bl false)))] []), (.ret (.and (.pr .gt [(.pr .ix [(.var 0), (.cst (.int 1))]), (.cst (.int 0))]) (.one (.pr .eq [(.pr .gcd [(.pr .ix [(.var 0), (.cst (.int 0))]), (.pr .ix [(.var 0), (.cst (.int 1))])]), (.cst (.int 1))]))))]⟩
abbrev N7 : List Str := ["one", "other"]
theorem nd7 : N7.Nodup := by decide +kernel
/-- minus -/
def D7 : E.Def := ⟨2, 2, false, [(.ret (.call 4 [(.pr .sub [(.pr .mul [(.pr .ix [(.var 0), (.cst (.int 0))]), (.pr .ix [(.var 1), (.cst (.int 1))])]), (.pr .mul [(.pr .ix [(.var 1), (.cst (.int 0))]), (.pr .ix [(.var 0), (.cst (.int 1))])])]), (.pr .mul [(.pr .ix [(.var 0), (.cst (.int 1))]), (.pr .ix [(.var 1), (.cst (.int 1))])])]))]⟩
abbrev N8 : List Str := ["one", "other"]
theorem nd8 : N8.Nodup := by decide +kernel
/-- divided -/
def D8 : E.Def := ⟨2, 2, false, [(.ret (.call 4 [(.pr .mul [(.pr .ix [(.var 0), (.cst (.int 0))]), (.pr .ix [(.var 1), (.cst (.int 1))])]), (.pr .mul [(.pr .ix [(.var 0), (.cst (.int 1))]), (.pr .ix [(.var 1), (.cst (.int 0))])])]))]⟩
abbrev N9 : List Str := ["one", "other"]
theorem nd9 : N9.Nodup := by decide +kernel
/-- less_of -/
def D9 : E.Def := ⟨2, 2, false, [(.ife (.call 5 [(.var 1), (.var 0)]) [(.ret (.var 1))] []), (.ret (.var 0))]⟩
abbrev N10 : List Str := ["one", "other"]
theorem nd10 : N10.Nodup := by decide +kernel
/-- greater_of -/
def D10 : E.Def := ⟨2, 2, false, [(.ife (.call 5 [(.var 0), (.var 1)]) [(.ret (.var 1))] []), (.ret (.var 0))]⟩
abbrev N11 : List Str := ["air", "water", "error", "least"]
theorem nd11 : N11.Nodup := by decide +kernel
/-- span_of_weights -/
def D11 : E.Def := ⟨4, 3, false, [(.asg (.var 3) (.call 4 [(.pr (.add false) [(.var 0), (.var 2)]), (.pr (.add false) [(.pr .sub [(.var 0), (.var 1)]), (.pr .mul [(.cst (.int 2)), (.var 2)])])])), (.ife (.pr .le [(.pr .sub [(.var 0), (.var 1)]), (.pr .mul [(.cst (.int 2)), (.var 2)])]) [(.ret (.tup [(.var 3), (.cst .non)]))] []), (.ret (.tup [(.var 3), (.call 4 [(.pr .sub [(.var 0), (.var 2)]), (.pr .sub [(.pr .sub [(.var 0), (.var 1)]), (.pr .mul [(.cst (.int 2)), (.var 2)])])])]))]⟩
abbrev N12 : List Str := ["one", "other", "density"]
theorem nd12 : N12.Nodup := by decide +kernel
/-- share_at -/
def D12 : E.Def := ⟨3, 3, false, [(.ret (.call 8 [(.call 7 [(.var 2), (.var 1)]), (.call 7 [(.var 0), (.var 1)])]))]⟩
abbrev N13 : List Str := ["first", "last", "least", "greatest"]
theorem nd13 : N13.Nodup := by decide +kernel
/-- cut_shares -/
def D13 : E.Def := ⟨4, 2, false, [(.asg (.var 2) (.call 10 [(.var 0), (.glb 0)])), (.asg (.var 3) (.call 9 [(.var 1), (.glb 1)])), (.ife (.call 5 [(.var 3), (.var 2)]) [(.ret (.cst .non))] []), (.ret (.tup [(.var 2), (.var 3)]))]⟩
abbrev N14 : List Str := ["air", "water", "error"]
theorem nd14 : N14.Nodup := by decide +kernel
/-- check_weights -/
def D14 : E.Def := ⟨3, 3, false, [(.ife (.or (.pr .not [(.call 0 [(.var 0)])]) (.one (.pr .not [(.call 1 [(.var 1), (.cst (.int 0))])]))) [(.raise 1)] []), (.ife (.pr .le [(.var 0), (.var 1)]) [(.raise 1)] []), (.ife (.pr .not [(.call 2 [(.var 2), (.cst (.int 0)), (.var 1)])]) [(.raise 1)] [])]⟩
abbrev N15 : List Str := ["air", "water", "error"]
theorem nd15 : N15.Nodup := by decide +kernel
/-- density -/
def D15 : E.Def := ⟨3, 3, false, [(.exp (.call 14 [(.var 0), (.var 1), (.var 2)])), (.ret (.call 11 [(.var 0), (.var 1), (.var 2)]))]⟩
abbrev N16 : List Str := ["one", "other", "least", "greatest", "value"]
theorem nd16 : N16.Nodup := by decide +kernel
/-- share_bounds -/
def D16 : E.Def := ⟨5, 4, false, [(.ife (.pr .not [(.ag true [4] (.var 4) (.seq (.tup [(.var 0), (.var 1), (.var 2), (.var 3)])) [] (.call 6 [(.var 4)]))]) [(.raise 1)] []), (.ife (.pr .eq [(.var 0), (.var 1)]) [(.raise 1)] []), (.ife (.call 5 [(.var 0), (.var 1)]) [(.ret (.call 13 [(.call 12 [(.var 0), (.var 1), (.var 3)]), (.call 12 [(.var 0), (.var 1), (.var 2)])]))] []), (.ret (.call 13 [(.call 12 [(.var 0), (.var 1), (.var 2)]), (.call 12 [(.var 0), (.var 1), (.var 3)])]))]⟩
abbrev N17 : List Str := ["script", "many", "pool", "seed", "cell", "left", "k"]
theorem nd17 : N17.Nodup := by decide +kernel
/-- _law_pool -/
def D17 : E.Def := ⟨7, 2, false, [(.par 2 3 (.lst true []) (.cst (.int 7))), (.for_ (.var 4) (.seq (.sl false (.var 0) (.cst .non) (.cst (.int 63)))) [] [(.asg (.var 5) (.pr .int [(.var 4)])), (.asg (.var 3) (.pr .mod [(.pr .int [(.pr (.add false) [(.pr .mul [(.var 3), (.cst (.int 31))]), (.var 5)])]), (.cst (.int 2147483647))])), (.ife (.pr .lt [(.var 5), (.pr .pow [(.cst (.int 10)), (.cst (.int 18))])]) [(.exp (.bm .lst .append (.var 2) [(.pr .mod [(.pr .mod [(.pr (.add false) [(.pr .mod [(.var 5), (.cst (.int 1000003))]), (.pr .mul [(.cst (.int 48271)), (.pr .len [(.var 2)])])]), (.cst (.int 65521))]), (.cst (.int 10000))])]))] [(.for_ (.var 6) (.rng [(.cst (.int 60))]) [] [(.ife (.and (.pr .gt [(.var 5), (.cst (.int 0))]) (.one (.pr .lt [(.pr .len [(.var 2)]), (.var 1)]))) [(.exp (.bm .lst .append (.var 2) [(.pr .mod [(.var 5), (.cst (.int 10000))])])), (.asg (.var 5) (.pr .fdiv [(.var 5), (.cst (.int 10000))]))] [])])])]), (.for_ (.var 6) (.rng [(.var 1)]) [] [(.asg (.var 3) (.pr .mod [(.pr (.add false) [(.pr (.add false) [(.pr .mul [(.var 3), (.cst (.int 48271))]), (.cst (.int 12345))]), (.var 6)]), (.cst (.int 2147483647))])), (.exp (.bm .lst .append (.var 2) [(.pr .mod [(.pr (.add false) [(.pr .fdiv [(.var 3), (.cst (.int 7))]), (.pr .mod [(.pr .mul [(.var 3), (.var 3)]), (.cst (.int 69621))])]), (.cst (.int 10000))])]))]), (.ret (.var 2))]⟩
abbrev N18 : List Str := ["found", "due", "left", "a", "b", "k"]
theorem nd18 : N18.Nodup := by decide +kernel
/-- _law_same -/
def D18 : E.Def := ⟨6, 2, false, [(.asg (.var 2) (.lst true [(.tup [(.var 0), (.var 1)])])), (.whl (.var 2) [] [(.asg (.tup [(.var 3), (.var 4)]) (.bm .lst .pop (.var 2) [])), (.ife (.pr (.isn false) [(.var 4)]) [(.ife (.pr (.isn true) [(.var 3)]) [(.ret (.cst (.bl false)))] [])] [(.ife (.pr (.isi [.tup]) [(.var 4)]) [(.ife (.or (.pr .not [(.pr (.isi [.tup]) [(.var 3)])]) (.one (.pr .ne [(.pr .len [(.var 3)]), (.pr .len [(.var 4)])]))) [(.ret (.cst (.bl false)))] []), (.for_ (.var 5) (.rng [(.pr .len [(.var 4)])]) [] [(.exp (.bm .lst .append (.var 2) [(.tup [(.pr .ix [(.var 3), (.var 5)]), (.pr .ix [(.var 4), (.var 5)])])]))])] [(.ife (.pr (.isi [.str]) [(.var 4)]) [(.ife (.or (.pr .not [(.pr (.isi [.str]) [(.var 3)])]) (.one (.pr .ne [(.var 3), (.var 4)]))) [(.ret (.cst (.bl false)))] [])] [(.ife (.or (.pr .ne [(.pr (.isi [.bool]) [(.var 4)]), (.pr (.isi [.bool]) [(.var 3)])]) (.or (.pr .not [(.pr (.isi [.int]) [(.var 3)])]) (.one (.pr .ne [(.var 3), (.var 4)])))) [(.ret (.cst (.bl false)))] [])])])])]), (.ret (.cst (.bl true)))]⟩
abbrev N19 : List Str := ["over", "under", "a", "b"]
theorem nd19 : N19.Nodup := by decide +kernel
/-- _law_lowest -/
def D19 : E.Def := ⟨4, 2, false, [(.par 2 3 (.pr .abs [(.var 0)]) (.var 1)), (.whl (.pr .gt [(.var 3), (.cst (.int 0))]) [] [(.par 2 3 (.var 3) (.pr .mod [(.var 2), (.var 3)]))]), (.ret (.tup [(.pr .fdiv [(.var 0), (.var 2)]), (.pr .fdiv [(.var 1), (.var 2)])]))]⟩
abbrev N20 : List Str := ["pool", "at", "great", "over", "under"]
theorem nd20 : N20.Nodup := by decide +kernel
/-- _law_fraction -/
def D20 : E.Def := ⟨5, 3, false, [(.par 3 4 (.pr .mod [(.pr .ix [(.var 0), (.var 1)]), (.pr .ix [(.tup [(.cst (.int 30)), (.cst (.int 4000))]), (.pr .mod [(.pr .ix [(.var 0), (.pr (.add false) [(.var 1), (.cst (.int 1))])]), (.cst (.int 2))])])]) (.pr (.add false) [(.cst (.int 1)), (.pr .mod [(.pr .fdiv [(.pr .ix [(.var 0), (.pr (.add false) [(.var 1), (.cst (.int 1))])]), (.cst (.int 2))]), (.pr .ix [(.tup [(.cst (.int 1)), (.cst (.int 12)), (.cst (.int 3000))]), (.pr .mod [(.pr .ix [(.var 0), (.pr (.add false) [(.var 1), (.cst (.int 2))])]), (.cst (.int 3))])])])])), (.ife (.var 2) [(.par 3 4 (.pr (.add false) [(.pr (.add false) [(.pr .mul [(.var 3), (.pr .pow [(.cst (.int 10000)), (.cst (.int 2))])]), (.pr .mul [(.pr .ix [(.var 0), (.pr (.add false) [(.var 1), (.cst (.int 3))])]), (.cst (.int 7))])]), (.cst (.int 1))]) (.pr (.add false) [(.pr .mul [(.var 4), (.pr .pow [(.cst (.int 10000)), (.cst (.int 2))])]), (.pr .ix [(.var 0), (.pr (.add false) [(.var 1), (.cst (.int 4))])])]))] []), (.ret (.call 19 [(.var 3), (.var 4)]))]⟩
abbrev N21 : List Str := ["one", "other", "part", "whole", "over"]
theorem nd21 : N21.Nodup := by decide +kernel
/-- _law_between -/
def D21 : E.Def := ⟨5, 4, false, [(.asg (.var 4) (.pr (.add false) [(.pr .mul [(.pr .mul [(.pr .ix [(.var 0), (.cst (.int 0))]), (.pr .ix [(.var 1), (.cst (.int 1))])]), (.var 2)]), (.pr .mul [(.pr .mul [(.pr .ix [(.var 1), (.cst (.int 0))]), (.pr .ix [(.var 0), (.cst (.int 1))])]), (.pr .sub [(.var 3), (.var 2)])])])), (.ret (.call 19 [(.var 4), (.pr .mul [(.pr .mul [(.pr .ix [(.var 0), (.cst (.int 1))]), (.pr .ix [(.var 1), (.cst (.int 1))])]), (.var 3)])]))]⟩
abbrev N22 : List Str := ["pool", "great", "one", "other", "tips", "k", "end"]
theorem nd22 : N22.Nodup := by decide +kernel
/-- _law_case -/
def D22 : E.Def := ⟨7, 1, false, [(.asg (.var 1) (.pr .eq [(.pr .mod [(.pr .ix [(.var 0), (.cst (.int 0))]), (.cst (.int 4))]), (.cst (.int 0))])), (.asg (.tup [(.var 2), (.var 3)]) (.tup [(.call 20 [(.var 0), (.cst (.int 10)), (.var 1)]), (.call 20 [(.var 0), (.cst (.int 20)), (.var 1)])])), (.ife (.pr .eq [(.var 2), (.var 3)]) [(.asg (.var 3) (.call 19 [(.pr (.add false) [(.pr .ix [(.var 3), (.cst (.int 0))]), (.cst (.int 1))]), (.pr .ix [(.var 3), (.cst (.int 1))])]))] []), (.asg (.var 4) (.lst true [(.call 20 [(.var 0), (.cst (.int 30)), (.var 1)]), (.call 20 [(.var 0), (.cst (.int 40)), (.cst (.bl false))])])), (.ife (.pr .gt [(.pr .mod [(.pr .ix [(.var 0), (.cst (.int 1))]), (.cst (.int 3))]), (.cst (.int 0))]) [(.asg (.var 4) (.lc true [5] (.var 5) (.rng [(.cst (.int 2))]) [] (.call 21 [(.var 2), (.var 3), (.pr .mod [(.pr .ix [(.var 0), (.pr (.add false) [(.cst (.int 2)), (.var 5)])]), (.cst (.int 14))]), (.pr (.add false) [(.cst (.int 12)), (.pr .mod [(.pr .ix [(.var 0), (.cst (.int 4))]), (.cst (.int 2))])])]))), (.asg (.var 4) (.lc true [6] (.var 6) (.seq (.var 4)) [] (.ife (.pr .ge [(.pr .ix [(.var 6), (.cst (.int 0))]), (.cst (.int 0))]) (.var 6) (.tup [(.cst (.int 0)), (.cst (.int 1))]))))] []), (.ife (.pr .eq [(.pr .mod [(.pr .ix [(.var 0), (.cst (.int 1))]), (.cst (.int 7))]), (.cst (.int 0))]) [(.asg (.sub (.var 4) (.cst (.int 0))) (.pr .ix [(.var 4), (.cst (.int 1))]))] []), (.ife (.and (.pr .gt [(.pr .mod [(.pr .ix [(.var 0), (.cst (.int 5))]), (.cst (.int 3))]), (.cst (.int 0))]) (.one (.pr .gt [(.pr .mul [(.pr .ix [(.pr .ix [(.var 4), (.cst (.int 0))]), (.cst (.int 0))]), (.pr .ix [(.pr .ix [(.var 4), (.cst (.int 1))]), (.cst (.int 1))])]), (.pr .mul [(.pr .ix [(.pr .ix [(.var 4), (.cst (.int 1))]), (.cst (.int 0))]), (.pr .ix [(.pr .ix [(.var 4), (.cst (.int 0))]), (.cst (.int 1))])])]))) [(.asg (.var 4) (.pr (.rev true) [(.var 4)]))] []), (.ret (.tup [(.var 2), (.var 3), (.pr .ix [(.var 4), (.cst (.int 0))]), (.pr .ix [(.var 4), (.cst (.int 1))])]))]⟩
abbrev N23 : List Str := ["one", "other", "least", "greatest", "shares", "end", "over", "under", "low", "high"]
theorem nd23 : N23.Nodup := by decide +kernel
/-- _law_due -/
def D23 : E.Def := ⟨10, 4, false, [(.ife (.pr .gt [(.pr .mul [(.pr .ix [(.var 2), (.cst (.int 0))]), (.pr .ix [(.var 3), (.cst (.int 1))])]), (.pr .mul [(.pr .ix [(.var 3), (.cst (.int 0))]), (.pr .ix [(.var 2), (.cst (.int 1))])])]) [(.ret (.cst .non))] []), (.asg (.var 4) (.lst true [])), (.for_ (.var 5) (.seq (.tup [(.var 2), (.var 3)])) [] [(.asg (.var 6) (.pr .mul [(.pr .sub [(.pr .mul [(.pr .ix [(.var 5), (.cst (.int 0))]), (.pr .ix [(.var 1), (.cst (.int 1))])]), (.pr .mul [(.pr .ix [(.var 1), (.cst (.int 0))]), (.pr .ix [(.var 5), (.cst (.int 1))])])]), (.pr .ix [(.var 0), (.cst (.int 1))])])), (.asg (.var 7) (.pr .mul [(.pr .sub [(.pr .mul [(.pr .ix [(.var 0), (.cst (.int 0))]), (.pr .ix [(.var 1), (.cst (.int 1))])]), (.pr .mul [(.pr .ix [(.var 1), (.cst (.int 0))]), (.pr .ix [(.var 0), (.cst (.int 1))])])]), (.pr .ix [(.var 5), (.cst (.int 1))])])), (.ife (.pr .lt [(.var 7), (.cst (.int 0))]) [(.par 6 7 (.pr .sub [(.cst (.int 0)), (.var 6)]) (.pr .sub [(.cst (.int 0)), (.var 7)]))] []), (.exp (.bm .lst .append (.var 4) [(.tup [(.var 6), (.var 7)])]))]), (.ife (.pr .lt [(.pr .mul [(.pr .ix [(.var 0), (.cst (.int 0))]), (.pr .ix [(.var 1), (.cst (.int 1))])]), (.pr .mul [(.pr .ix [(.var 1), (.cst (.int 0))]), (.pr .ix [(.var 0), (.cst (.int 1))])])]) [(.asg (.var 4) (.pr (.rev true) [(.var 4)]))] []), (.asg (.tup [(.var 8), (.var 9)]) (.var 4)), (.ife (.or (.pr .gt [(.pr .ix [(.var 8), (.cst (.int 0))]), (.pr .ix [(.var 8), (.cst (.int 1))])]) (.one (.pr .lt [(.pr .ix [(.var 9), (.cst (.int 0))]), (.cst (.int 0))]))) [(.ret (.cst .non))] []), (.ife (.pr .lt [(.pr .ix [(.var 8), (.cst (.int 0))]), (.cst (.int 0))]) [(.asg (.var 8) (.tup [(.cst (.int 0)), (.cst (.int 1))]))] []), (.ife (.pr .gt [(.pr .ix [(.var 9), (.cst (.int 0))]), (.pr .ix [(.var 9), (.cst (.int 1))])]) [(.asg (.var 9) (.tup [(.cst (.int 1)), (.cst (.int 1))]))] []), (.ret (.tup [(.call 19 [(.pr .ix [(.var 8), (.cst (.int 0))]), (.pr .ix [(.var 8), (.cst (.int 1))])]), (.call 19 [(.pr .ix [(.var 9), (.cst (.int 0))]), (.pr .ix [(.var 9), (.cst (.int 1))])])]))]⟩
abbrev N24 : List Str := ["one", "other", "least", "greatest", "due", "k", "dense", "within", "here"]
theorem nd24 : N24.Nodup := by decide +kernel
/-- _law_twelfths -/
def D24 : E.Def := ⟨9, 5, false, [(.for_ (.var 5) (.rng [(.cst (.int 13))]) [] [(.asg (.var 6) (.call 21 [(.var 0), (.var 1), (.var 5), (.cst (.int 12))])), (.asg (.var 7) (.and (.pr .le [(.pr .mul [(.pr .ix [(.var 2), (.cst (.int 0))]), (.pr .ix [(.var 6), (.cst (.int 1))])]), (.pr .mul [(.pr .ix [(.var 6), (.cst (.int 0))]), (.pr .ix [(.var 2), (.cst (.int 1))])])]) (.one (.pr .le [(.pr .mul [(.pr .ix [(.var 6), (.cst (.int 0))]), (.pr .ix [(.var 3), (.cst (.int 1))])]), (.pr .mul [(.pr .ix [(.var 3), (.cst (.int 0))]), (.pr .ix [(.var 6), (.cst (.int 1))])])])))), (.asg (.var 8) (.and (.pr (.isn true) [(.var 4)]) (.and (.pr .le [(.pr .mul [(.pr .ix [(.pr .ix [(.var 4), (.cst (.int 0))]), (.cst (.int 0))]), (.cst (.int 12))]), (.pr .mul [(.var 5), (.pr .ix [(.pr .ix [(.var 4), (.cst (.int 0))]), (.cst (.int 1))])])]) (.one (.pr .le [(.pr .mul [(.var 5), (.pr .ix [(.pr .ix [(.var 4), (.cst (.int 1))]), (.cst (.int 1))])]), (.pr .mul [(.pr .ix [(.pr .ix [(.var 4), (.cst (.int 1))]), (.cst (.int 0))]), (.cst (.int 12))])]))))), (.ife (.pr .ne [(.var 7), (.var 8)]) [(.ret (.cst (.bl false)))] [])]), (.ret (.cst (.bl true)))]⟩
abbrev N25 : List Str := ["due"]
theorem nd25 : N25.Nodup := by decide +kernel
/-- _law_left -/
def D25 : E.Def := ⟨1, 1, false, [(.ife (.pr (.isn false) [(.var 0)]) [(.ret (.cst .non))] []), (.ret (.tup [(.tup [(.pr .sub [(.pr .ix [(.pr .ix [(.var 0), (.cst (.int 1))]), (.cst (.int 1))]), (.pr .ix [(.pr .ix [(.var 0), (.cst (.int 1))]), (.cst (.int 0))])]), (.pr .ix [(.pr .ix [(.var 0), (.cst (.int 1))]), (.cst (.int 1))])]), (.tup [(.pr .sub [(.pr .ix [(.pr .ix [(.var 0), (.cst (.int 0))]), (.cst (.int 1))]), (.pr .ix [(.pr .ix [(.var 0), (.cst (.int 0))]), (.cst (.int 0))])]), (.pr .ix [(.pr .ix [(.var 0), (.cst (.int 0))]), (.cst (.int 1))])])]))]⟩
abbrev N26 : List Str := ["row", "e"]
theorem nd26 : N26.Nodup := by decide +kernel
/-- _law_refused -/
def D26 : E.Def := ⟨2, 1, false, [(.tr [(.exp (.call 16 [(.pr .ix [(.var 0), (.cst (.int 0))]), (.pr .ix [(.var 0), (.cst (.int 1))]), (.pr .ix [(.var 0), (.cst (.int 2))]), (.pr .ix [(.var 0), (.cst (.int 3))])]))] (.cons 1 (some 1) [(.ret (.and (.exi 0) (.one (.exi 2))))] .nil)), (.ret (.cst (.bl false)))]⟩
abbrev N27 : List Str := ["script", "pool", "one", "other", "least", "greatest", "due", "lost", "water", "error", "low", "high", "row", "at", "by"]
theorem nd27 : N27.Nodup := by decide +kernel
/-- law -/
def D27 : E.Def := ⟨15, 1, false, [(.asg (.var 1) (.call 17 [(.var 0), (.cst (.int 70))])), (.asg (.tup [(.var 2), (.var 3), (.var 4), (.var 5)]) (.call 22 [(.var 1)])), (.asg (.var 6) (.call 23 [(.var 2), (.var 3), (.var 4), (.var 5)])), (.ife (.pr .not [(.call 24 [(.var 2), (.var 3), (.var 4), (.var 5), (.var 6)])]) [(.ret (.cst (.bl false)))] []), (.ife (.pr .not [(.call 18 [(.call 16 [(.var 2), (.var 3), (.var 4), (.var 5)]), (.var 6)])]) [(.ret (.cst (.bl false)))] []), (.ife (.pr .not [(.call 18 [(.callK 16 [3, 2, 1, 0] [(.var 5), (.var 4), (.var 2), (.var 3)]), (.call 25 [(.var 6)])])]) [(.ret (.cst (.bl false)))] []), (.par 7 8 (.pr (.add false) [(.cst (.int 1)), (.pr .mod [(.pr .ix [(.var 1), (.cst (.int 50))]), (.cst (.int 300))])]) (.pr .mod [(.pr .ix [(.var 1), (.cst (.int 51))]), (.cst (.int 2000))])), (.asg (.var 9) (.pr .min3 [(.var 8), (.pr .mod [(.pr .ix [(.var 1), (.cst (.int 52))]), (.cst (.int 4))]), (.pr .fdiv [(.pr .sub [(.var 7), (.cst (.int 1))]), (.cst (.int 2))])])), (.asg (.var 10) (.call 19 [(.pr (.add false) [(.pr (.add false) [(.var 8), (.var 7)]), (.var 9)]), (.pr (.add false) [(.var 7), (.pr .mul [(.cst (.int 2)), (.var 9)])])])), (.asg (.var 11) (.call 19 [(.pr .sub [(.pr (.add false) [(.var 8), (.var 7)]), (.var 9)]), (.pr .sub [(.var 7), (.pr .mul [(.cst (.int 2)), (.var 9)])])])), (.ife (.pr .not [(.call 18 [(.callK 15 [2, 1, 0] [(.var 9), (.var 8), (.pr (.add false) [(.var 8), (.var 7)])]), (.tup [(.var 10), (.var 11)])])]) [(.ret (.cst (.bl false)))] []), (.ife (.pr .not [(.call 18 [(.call 16 [(.var 2), (.var 3), (.var 10), (.var 11)]), (.call 23 [(.var 2), (.var 3), (.var 10), (.var 11)])])]) [(.ret (.cst (.bl false)))] []), (.asg (.var 12) (.lst true [(.var 2), (.var 3), (.var 4), (.var 5)])), (.par 13 14 (.pr .mod [(.pr .ix [(.var 1), (.cst (.int 53))]), (.cst (.int 4))]) (.pr (.add false) [(.cst (.int 2)), (.pr .mod [(.pr .ix [(.var 1), (.cst (.int 54))]), (.cst (.int 5))])])), (.asg (.sub (.var 12) (.var 13)) (.pr .ix [(.tup [(.tup [(.pr .mul [(.pr .ix [(.pr .ix [(.var 12), (.var 13)]), (.cst (.int 0))]), (.var 14)]), (.pr .mul [(.pr .ix [(.pr .ix [(.var 12), (.var 13)]), (.cst (.int 1))]), (.var 14)])]), (.tup [(.pr .ix [(.pr .ix [(.var 12), (.var 13)]), (.cst (.int 0))]), (.cst (.int 0))]), (.tup [(.pr (.add false) [(.pr .ix [(.pr .ix [(.var 12), (.var 13)]), (.cst (.int 0))]), (.cst (.int 1))]), (.pr .sub [(.cst (.int 0)), (.pr .ix [(.pr .ix [(.var 12), (.var 13)]), (.cst (.int 1))])])])]), (.pr .mod [(.pr .ix [(.var 1), (.cst (.int 55))]), (.cst (.int 3))])])), (.ife (.pr .eq [(.pr .mod [(.pr .ix [(.var 1), (.cst (.int 56))]), (.cst (.int 4))]), (.cst (.int 0))]) [(.asg (.var 12) (.lst true [(.var 2), (.var 2), (.var 5), (.var 4)]))] []), (.ret (.call 26 [(.var 12)]))]⟩
def PG : Nat → Option E.Def
  | 0 => some D0
  | 1 => some D1
  | 2 => some D2
  | 3 => some D3
  | 4 => some D4
  | 5 => some D5
  | 6 => some D6
  | 7 => some D7
  | 8 => some D8
  | 9 => some D9
  | 10 => some D10
  | 11 => some D11
  | 12 => some D12
  | 13 => some D13
  | 14 => some D14
  | 15 => some D15
  | 16 => some D16
  | 17 => some D17
  | 18 => some D18
  | 19 => some D19
  | 20 => some D20
  | 21 => some D21
  | 22 => some D22
  | 23 => some D23
  | 24 => some D24
  | 25 => some D25
  | 26 => some D26
  | 27 => some D27
  | _ => none
noncomputable def C0 : E.Ctx where
  kc := [.tup [.int 0, .int 1], .tup [.int 1, .int 1]]
  call := fun _ _ _ => .bad
  glob := fun g => match g with
    | 0 => some (.tup [.int 0, .int 1])
    | 1 => some (.tup [.int 1, .int 1])
    | _ => none
  meth := fun _ _ => none
  init := fun _ => none
  fo := fun _ _ => false
  sub := fun k c => match k, c with
    | 0, 0 => true
    | 0, 2 => true
    | 1, 0 => true
    | 1, 1 => true
    | 1, 2 => true
    | 2, 2 => true
    | _, _ => false
  cur := none
end LW
set_option Elab.async false
set_option linter.all false
set_option autoImplicit false
set_option maxRecDepth 100000
set_option maxHeartbeats 4000000
namespace LW
open PySem PySem.Spec PyProof.Rows L2 E
structure GF (Γ : SE) (cd tb : Nat → Addr) : Prop where
  psi : ∀ σ, Γ.psi σ
  hc : ∀ xs, PV.tup xs ∈ Γ.kc → PV.undL 0 xs = true
  kc : Γ.kc = C0.kc
  g0 : Good Γ C0
  mg__law_pool : Γ.mg "_law_pool" = some (.ref (Γ.fa 17))
  mg__law_case : Γ.mg "_law_case" = some (.ref (Γ.fa 22))
  mg__law_due : Γ.mg "_law_due" = some (.ref (Γ.fa 23))
  mg__law_twelfths : Γ.mg "_law_twelfths" = some (.ref (Γ.fa 24))
  mg__law_same : Γ.mg "_law_same" = some (.ref (Γ.fa 18))
  mg_share_bounds : Γ.mg "share_bounds" = some (.ref (Γ.fa 16))
  kb_16_3_2_1_0 : KB Γ 16 0 ["greatest", "least", "other", "one"] [3, 2, 1, 0]
  mg__law_left : Γ.mg "_law_left" = some (.ref (Γ.fa 25))
  mg_min : Γ.mg "min" = none
  mg__law_lowest : Γ.mg "_law_lowest" = some (.ref (Γ.fa 19))
  mg_density : Γ.mg "density" = some (.ref (Γ.fa 15))
  kb_15_2_1_0 : KB Γ 15 0 ["error", "water", "air"] [2, 1, 0]
  mg__law_refused : Γ.mg "_law_refused" = some (.ref (Γ.fa 26))
  mg_is_fraction : Γ.mg "is_fraction" = some (.ref (Γ.fa 6))
  mg_all : Γ.mg "all" = none
  ri_1 : Γ.isx 1 = true
  rq_1 : PySem.W.excIn Γ.K (Γ.cls 1) [.type "ValueError", .type "Exception", .type "BaseException", .type "object"] "ValueError.__new__" = true
  rk_1 : PySem.W.keepIn Γ.K (.ref (Γ.cls 1)) = true
  rb_1 : PySem.W.subIn Γ.K (.ref (Γ.cls 1)) (.type "BaseException") = some true
  rt_1 : PySem.W.typeIn Γ.K (.ref (Γ.cls 1)) = some (.type "type")
  mgc_BadNumber : Γ.mg "BadNumber" = some (.ref (Γ.cls 1))
  mg_is_less : Γ.mg "is_less" = some (.ref (Γ.fa 5))
  mg_cut_shares : Γ.mg "cut_shares" = some (.ref (Γ.fa 13))
  mg_share_at : Γ.mg "share_at" = some (.ref (Γ.fa 12))
  mg_divided : Γ.mg "divided" = some (.ref (Γ.fa 8))
  mg_minus : Γ.mg "minus" = some (.ref (Γ.fa 7))
  mg_lowest : Γ.mg "lowest" = some (.ref (Γ.fa 4))
  mg_gcd : Γ.mg "gcd" = some (.builtin "math.gcd")
  mg_isinstance : Γ.mg "isinstance" = none
  mg_tuple : Γ.mg "tuple" = none
  mg_len : Γ.mg "len" = none
  mg_are_wholes : Γ.mg "are_wholes" = some (.ref (Γ.fa 3))
  mg_is_whole : Γ.mg "is_whole" = some (.ref (Γ.fa 0))
  mg_bool : Γ.mg "bool" = none
  mg_int : Γ.mg "int" = none
  mg_greater_of : Γ.mg "greater_of" = some (.ref (Γ.fa 10))
  gglob_NOTHING : ∃ v u, Γ.mg "NOTHING" = some u ∧ RelV v u ∧ ∀ H φ M, RV Γ H φ M (.tup [.int 0, .int 1]) v
  mg_less_of : Γ.mg "less_of" = some (.ref (Γ.fa 9))
  gglob_ALL : ∃ v u, Γ.mg "ALL" = some u ∧ RelV v u ∧ ∀ H φ M, RV Γ H φ M (.tup [.int 1, .int 1]) v
  mg_check_weights : Γ.mg "check_weights" = some (.ref (Γ.fa 14))
  mg_span_of_weights : Γ.mg "span_of_weights" = some (.ref (Γ.fa 11))
  mg_is_whole_from : Γ.mg "is_whole_from" = some (.ref (Γ.fa 1))
  mg_is_whole_between : Γ.mg "is_whole_between" = some (.ref (Γ.fa 2))
  mg_range : Γ.mg "range" = none
  mg__law_between : Γ.mg "_law_between" = some (.ref (Γ.fa 21))
  mg_abs : Γ.mg "abs" = none
  mg_str : Γ.mg "str" = none
  cv_1 : Γ.cv 1 = some (.ref (Γ.cls 1))
  cv_0 : Γ.cv 0 = some (.ref (Γ.cls 0))
  mgc_StoneError : Γ.mg "StoneError" = some (.ref (Γ.cls 0))
  cv_2 : Γ.cv 2 = some (.type "ValueError")
  mg_ValueError : Γ.mg "ValueError" = none
  mg__law_fraction : Γ.mg "_law_fraction" = some (.ref (Γ.fa 20))
  tab_3 : tb 3 ∈ Γ.tabs
  tb_3 : GxR.TabB Γ.base Γ.mg (cd 3) (tb 3)
  tab_16 : tb 16 ∈ Γ.tabs
  tb_16 : GxR.TabB Γ.base Γ.mg (cd 16) (tb 16)
section
variable {Γ : SE} {cd tb : Nat → Addr} {d : Nat} {X : Cx} {W : WX}
theorem GF.good (gf : GF Γ cd tb) {cl} {cu} : Good Γ { C0 with call := cl, cur := cu } := ⟨gf.g0.kc, gf.g0.nmi, gf.g0.fld, gf.g0.meth, gf.g0.exm, gf.g0.kit, gf.g0.exc⟩
theorem GF.raise_1 (gf : GF Γ cd tb) {p p2 pos pos2 : Pos} {m : Str} {j : Nat} (hX : XG X Γ) (hc : X.calm = true) (tk : Takes X W) (hg : Gl X "BadNumber") : PS X (.Raise (some (.Call (.Name "BadNumber" p) [.Constant (.str m) j p2] [] pos)) none pos2) (tS Γ W (bodyC PG C0 d) (.raise 1)) :=
  s_raiseM hX PySem.F.excBase_ValueError gf.ri_1 hc tk gf.rq_1 gf.mgc_BadNumber gf.rk_1 gf.rb_1 gf.rt_1 hg
theorem GF.glob_NOTHING (gf : GF Γ cd tb) {pos : Pos} (hX : XG X Γ) (hg : Gl X "NOTHING") : PE X (.Name "NOTHING" pos) (tE Γ W (bodyC PG C0 d) (.glb 0)) := by
  obtain ⟨v, u, h1, h2, h3⟩ := gf.gglob_NOTHING
  exact e_glb (C := bodyC PG C0 d) (z := .tup [.int 0, .int 1]) rfl h3 hg (by rw [hX.mg]; exact h1) h2
theorem GF.glob_ALL (gf : GF Γ cd tb) {pos : Pos} (hX : XG X Γ) (hg : Gl X "ALL") : PE X (.Name "ALL" pos) (tE Γ W (bodyC PG C0 d) (.glb 1)) := by
  obtain ⟨v, u, h1, h2, h3⟩ := gf.gglob_ALL
  exact e_glb (C := bodyC PG C0 d) (z := .tup [.int 1, .int 1]) rfl h3 hg (by rw [hX.mg]; exact h1) h2
theorem GF.names_1 (gf : GF Γ cd tb) (hX : XG X Γ) (hg : Gl X "BadNumber") : Names X "BadNumber" (.ref (Γ.cls 1)) := ⟨hg, by decide, .inl (by rw [hX.mg]; exact gf.mgc_BadNumber)⟩
/-- is_whole -/
theorem b0 (gf : GF Γ cd tb) (ih : AllF Γ PG C0 d) (W : WX) (A : Around) (outer : List Env) (s : Shared) (H : Hp) (E : XK) (hr : Room (3 * d + 2) (bX Γ N0 "is_whole" (top 5) 0 (.ref (cd 0)) A outer s H E).A) (tk : Takes (bX Γ N0 "is_whole" (top 5) 0 (.ref (cd 0)) A outer s H E) W) :
    PSs (bX Γ N0 "is_whole" (top 5) 0 (.ref (cd 0)) A outer s H E) (defBody (top 5)) (tSs Γ W (bodyC PG C0 d) D0.body) := by
  have hr0 : Room (3 * d) (bX Γ N0 "is_whole" (top 5) 0 (.ref (cd 0)) A outer s H E).A := hr.mono (by omega)
  have hr1 : Room (3 * d + 1) (bX Γ N0 "is_whole" (top 5) 0 (.ref (cd 0)) A outer s H E).A := hr.mono (by omega)
  have po : PassesOwn (model (bX Γ N0 "is_whole" (top 5) 0 (.ref (cd 0)) A outer s H E).prog (bX Γ N0 "is_whole" (top 5) 0 (.ref (cd 0)) A outer s H E).w) (bX Γ N0 "is_whole" (top 5) 0 (.ref (cd 0)) A outer s H E).A (bX Γ N0 "is_whole" (top 5) 0 (.ref (cd 0)) A outer s H E).env (bX Γ N0 "is_whole" (top 5) 0 (.ref (cd 0)) A outer s H E).xe := passes_of rfl
  exact (ss_cons (s_if (t_val ⟨rfl, rfl, rfl, rfl, rfl⟩ (e_isi1 (x := "isinstance") (n := "bool") (u := .bool) ⟨rfl, rfl, rfl, rfl, rfl⟩ (e_var (i := 0) rfl (.inl rfl)) rfl gf.mg_isinstance (by kernel_rfl) rfl gf.mg_bool (by kernel_rfl))) (ss_cons (s_ret e_bl)
  ss_nil) ss_nil)
  (ss_cons (s_ret (e_isi1 (x := "isinstance") (n := "int") (u := .int) ⟨rfl, rfl, rfl, rfl, rfl⟩ (e_var (i := 0) rfl (.inl rfl)) rfl gf.mg_isinstance (by kernel_rfl) rfl gf.mg_int (by kernel_rfl)))
  ss_nil))
/-- is_whole_from -/
theorem b1 (gf : GF Γ cd tb) (ih : AllF Γ PG C0 d) (W : WX) (A : Around) (outer : List Env) (s : Shared) (H : Hp) (E : XK) (hr : Room (3 * d + 2) (bX Γ N1 "is_whole_from" (top 6) 1 (.ref (cd 1)) A outer s H E).A) (tk : Takes (bX Γ N1 "is_whole_from" (top 6) 1 (.ref (cd 1)) A outer s H E) W) :
    PSs (bX Γ N1 "is_whole_from" (top 6) 1 (.ref (cd 1)) A outer s H E) (defBody (top 6)) (tSs Γ W (bodyC PG C0 d) D1.body) := by
  have hr0 : Room (3 * d) (bX Γ N1 "is_whole_from" (top 6) 1 (.ref (cd 1)) A outer s H E).A := hr.mono (by omega)
  have hr1 : Room (3 * d + 1) (bX Γ N1 "is_whole_from" (top 6) 1 (.ref (cd 1)) A outer s H E).A := hr.mono (by omega)
  have po : PassesOwn (model (bX Γ N1 "is_whole_from" (top 6) 1 (.ref (cd 1)) A outer s H E).prog (bX Γ N1 "is_whole_from" (top 6) 1 (.ref (cd 1)) A outer s H E).w) (bX Γ N1 "is_whole_from" (top 6) 1 (.ref (cd 1)) A outer s H E).A (bX Γ N1 "is_whole_from" (top 6) 1 (.ref (cd 1)) A outer s H E).env (bX Γ N1 "is_whole_from" (top 6) 1 (.ref (cd 1)) A outer s H E).xe := passes_of rfl
  exact (ss_cons (s_ret (e_and ⟨rfl, rfl, rfl, rfl, rfl⟩ (e_call (x := "is_whole") ⟨rfl, rfl, rfl, rfl, rfl⟩ (ih 0 _ rfl) hr0 tk rfl gf.mg_is_whole (l_cons (e_var (i := 0) rfl (.inl rfl)) l_nil)) (e_one (e_cmp gf.kc (op_ge_ok ⟨rfl, rfl, rfl, rfl, rfl⟩ hr0) (e_var (i := 0) rfl (.inl rfl)) (e_var (i := 1) rfl (.inl rfl)) rfl))))
  ss_nil)
/-- is_whole_between -/
theorem b2 (gf : GF Γ cd tb) (ih : AllF Γ PG C0 d) (W : WX) (A : Around) (outer : List Env) (s : Shared) (H : Hp) (E : XK) (hr : Room (3 * d + 2) (bX Γ N2 "is_whole_between" (top 7) 2 (.ref (cd 2)) A outer s H E).A) (tk : Takes (bX Γ N2 "is_whole_between" (top 7) 2 (.ref (cd 2)) A outer s H E) W) :
    PSs (bX Γ N2 "is_whole_between" (top 7) 2 (.ref (cd 2)) A outer s H E) (defBody (top 7)) (tSs Γ W (bodyC PG C0 d) D2.body) := by
  have hr0 : Room (3 * d) (bX Γ N2 "is_whole_between" (top 7) 2 (.ref (cd 2)) A outer s H E).A := hr.mono (by omega)
  have hr1 : Room (3 * d + 1) (bX Γ N2 "is_whole_between" (top 7) 2 (.ref (cd 2)) A outer s H E).A := hr.mono (by omega)
  have po : PassesOwn (model (bX Γ N2 "is_whole_between" (top 7) 2 (.ref (cd 2)) A outer s H E).prog (bX Γ N2 "is_whole_between" (top 7) 2 (.ref (cd 2)) A outer s H E).w) (bX Γ N2 "is_whole_between" (top 7) 2 (.ref (cd 2)) A outer s H E).A (bX Γ N2 "is_whole_between" (top 7) 2 (.ref (cd 2)) A outer s H E).env (bX Γ N2 "is_whole_between" (top 7) 2 (.ref (cd 2)) A outer s H E).xe := passes_of rfl
  exact (ss_cons (s_ret (e_and ⟨rfl, rfl, rfl, rfl, rfl⟩ (e_call (x := "is_whole") ⟨rfl, rfl, rfl, rfl, rfl⟩ (ih 0 _ rfl) hr0 tk rfl gf.mg_is_whole (l_cons (e_var (i := 0) rfl (.inl rfl)) l_nil)) (e_one (e_chain gf.kc (op_le_ok ⟨rfl, rfl, rfl, rfl, rfl⟩ hr0) (op_le_ok ⟨rfl, rfl, rfl, rfl, rfl⟩ hr0) (e_var (i := 1) rfl (.inl rfl)) (e_var (i := 0) rfl (.inl rfl)) (e_var (i := 2) rfl (.inl rfl)) rfl))))
  ss_nil)
/-- are_wholes -/
theorem b3 (gf : GF Γ cd tb) (ih : AllF Γ PG C0 d) (W : WX) (A : Around) (outer : List Env) (s : Shared) (H : Hp) (E : XK) (hr : Room (3 * d + 2) (bX Γ N3 "are_wholes" (top 8) 3 (.ref (cd 3)) A outer s H E).A) (tk : Takes (bX Γ N3 "are_wholes" (top 8) 3 (.ref (cd 3)) A outer s H E) W) :
    PSs (bX Γ N3 "are_wholes" (top 8) 3 (.ref (cd 3)) A outer s H E) (defBody (top 8)) (tSs Γ W (bodyC PG C0 d) D3.body) := by
  have hr0 : Room (3 * d) (bX Γ N3 "are_wholes" (top 8) 3 (.ref (cd 3)) A outer s H E).A := hr.mono (by omega)
  have hr1 : Room (3 * d + 1) (bX Γ N3 "are_wholes" (top 8) 3 (.ref (cd 3)) A outer s H E).A := hr.mono (by omega)
  have po : PassesOwn (model (bX Γ N3 "are_wholes" (top 8) 3 (.ref (cd 3)) A outer s H E).prog (bX Γ N3 "are_wholes" (top 8) 3 (.ref (cd 3)) A outer s H E).w) (bX Γ N3 "are_wholes" (top 8) 3 (.ref (cd 3)) A outer s H E).A (bX Γ N3 "are_wholes" (top 8) 3 (.ref (cd 3)) A outer s H E).env (bX Γ N3 "are_wholes" (top 8) 3 (.ref (cd 3)) A outer s H E).xe := passes_of rfl
  exact (ss_cons (s_ret (e_all (own := [("value", 1)]) gf.psi gf.tab_3 hr0 rfl gf.mg_all gf.tb_3 rfl nd3 rfl (_root_.E.gnOk_by (by kernel_rfl)) (i_seq ⟨rfl, rfl, rfl, rfl, rfl⟩ (e_var (i := 0) rfl (.inl rfl))) (fun s h code fp pn => (v_name (j := 1) (by decide) gf.psi nd3 rfl (.inl rfl) (.inr rfl))) (fun s h code fp pn => ts_nil) (fun s h code fp pn => (e_call (x := "is_whole") ⟨rfl, rfl, rfl, rfl, rfl⟩ (ih 0 _ rfl) (Room.gen (k := 3 * d) hr1) LamX.takes0 rfl gf.mg_is_whole (l_cons (e_var (i := 1) rfl (.inl rfl)) l_nil)))))
  ss_nil)
/-- lowest -/
theorem b4 (gf : GF Γ cd tb) (ih : AllF Γ PG C0 d) (W : WX) (A : Around) (outer : List Env) (s : Shared) (H : Hp) (E : XK) (hr : Room (3 * d + 2) (bX Γ N4 "lowest" (top 10) 4 (.ref (cd 4)) A outer s H E).A) (tk : Takes (bX Γ N4 "lowest" (top 10) 4 (.ref (cd 4)) A outer s H E) W) :
    PSs (bX Γ N4 "lowest" (top 10) 4 (.ref (cd 4)) A outer s H E) (defBody (top 10)) (tSs Γ W (bodyC PG C0 d) D4.body) := by
  have hr0 : Room (3 * d) (bX Γ N4 "lowest" (top 10) 4 (.ref (cd 4)) A outer s H E).A := hr.mono (by omega)
  have hr1 : Room (3 * d + 1) (bX Γ N4 "lowest" (top 10) 4 (.ref (cd 4)) A outer s H E).A := hr.mono (by omega)
  have po : PassesOwn (model (bX Γ N4 "lowest" (top 10) 4 (.ref (cd 4)) A outer s H E).prog (bX Γ N4 "lowest" (top 10) 4 (.ref (cd 4)) A outer s H E).w) (bX Γ N4 "lowest" (top 10) 4 (.ref (cd 4)) A outer s H E).A (bX Γ N4 "lowest" (top 10) 4 (.ref (cd 4)) A outer s H E).env (bX Γ N4 "lowest" (top 10) 4 (.ref (cd 4)) A outer s H E).xe := passes_of rfl
  exact (ss_cons (s_if (t_cmp rfl gf.kc (op_lt_ok ⟨rfl, rfl, rfl, rfl, rfl⟩ hr0) (e_var (i := 1) rfl (.inl rfl)) e_int rfl) (ss_cons (s_par (j := 0) (n := 1) gf.psi rfl nd4 rfl rfl (by decide) rfl rfl (l_cons (e_un gf.kc un_neg_ok (e_var (i := 0) rfl (.inl rfl))) (l_cons (e_un gf.kc un_neg_ok (e_var (i := 1) rfl (.inl rfl))) l_nil)) rfl)
  ss_nil) ss_nil)
  (ss_cons (s_set (j := 2) gf.psi nd4 rfl (.inl rfl) (e_callG (x := "gcd") gf.kc cr_gcd' rfl gf.mg_gcd (l_cons (e_var (i := 0) rfl (.inl rfl)) (l_cons (e_var (i := 1) rfl (.inl rfl)) l_nil))))
  (ss_cons (s_ret (e_tup (by show _ ≤ sizeLine; decide) (l_cons (e_bin gf.kc op_fdiv_ok (e_var (i := 0) rfl (.inl rfl)) (e_var (i := 2) rfl (.inl rfl))) (l_cons (e_bin gf.kc op_fdiv_ok (e_var (i := 1) rfl (.inl rfl)) (e_var (i := 2) rfl (.inl rfl))) l_nil))))
  ss_nil)))
/-- is_less -/
theorem b5 (gf : GF Γ cd tb) (ih : AllF Γ PG C0 d) (W : WX) (A : Around) (outer : List Env) (s : Shared) (H : Hp) (E : XK) (hr : Room (3 * d + 2) (bX Γ N5 "is_less" (top 11) 5 (.ref (cd 5)) A outer s H E).A) (tk : Takes (bX Γ N5 "is_less" (top 11) 5 (.ref (cd 5)) A outer s H E) W) :
    PSs (bX Γ N5 "is_less" (top 11) 5 (.ref (cd 5)) A outer s H E) (defBody (top 11)) (tSs Γ W (bodyC PG C0 d) D5.body) := by
  have hr0 : Room (3 * d) (bX Γ N5 "is_less" (top 11) 5 (.ref (cd 5)) A outer s H E).A := hr.mono (by omega)
  have hr1 : Room (3 * d + 1) (bX Γ N5 "is_less" (top 11) 5 (.ref (cd 5)) A outer s H E).A := hr.mono (by omega)
  have po : PassesOwn (model (bX Γ N5 "is_less" (top 11) 5 (.ref (cd 5)) A outer s H E).prog (bX Γ N5 "is_less" (top 11) 5 (.ref (cd 5)) A outer s H E).w) (bX Γ N5 "is_less" (top 11) 5 (.ref (cd 5)) A outer s H E).A (bX Γ N5 "is_less" (top 11) 5 (.ref (cd 5)) A outer s H E).env (bX Γ N5 "is_less" (top 11) 5 (.ref (cd 5)) A outer s H E).xe := passes_of rfl
  exact (ss_cons (s_ret (e_cmp gf.kc (op_lt_ok ⟨rfl, rfl, rfl, rfl, rfl⟩ hr0) (e_bin gf.kc op_mul_ok (e_ix gf.kc (ix_ok ⟨rfl, rfl, rfl, rfl, rfl⟩ (hu_of hr0)) (e_var (i := 0) rfl (.inl rfl)) e_int (fun _ _ => rfl)) (e_ix gf.kc (ix_ok ⟨rfl, rfl, rfl, rfl, rfl⟩ (hu_of hr0)) (e_var (i := 1) rfl (.inl rfl)) e_int (fun _ _ => rfl))) (e_bin gf.kc op_mul_ok (e_ix gf.kc (ix_ok ⟨rfl, rfl, rfl, rfl, rfl⟩ (hu_of hr0)) (e_var (i := 1) rfl (.inl rfl)) e_int (fun _ _ => rfl)) (e_ix gf.kc (ix_ok ⟨rfl, rfl, rfl, rfl, rfl⟩ (hu_of hr0)) (e_var (i := 0) rfl (.inl rfl)) e_int (fun _ _ => rfl))) rfl))
  ss_nil)
/-- is_fraction -/
theorem b6 (gf : GF Γ cd tb) (ih : AllF Γ PG C0 d) (W : WX) (A : Around) (outer : List Env) (s : Shared) (H : Hp) (E : XK) (hr : Room (3 * d + 2) (bX Γ N6 "is_fraction" (top 15) 6 (.ref (cd 6)) A outer s H E).A) (tk : Takes (bX Γ N6 "is_fraction" (top 15) 6 (.ref (cd 6)) A outer s H E) W) :
    PSs (bX Γ N6 "is_fraction" (top 15) 6 (.ref (cd 6)) A outer s H E) (defBody (top 15)) (tSs Γ W (bodyC PG C0 d) D6.body) := by
  have hr0 : Room (3 * d) (bX Γ N6 "is_fraction" (top 15) 6 (.ref (cd 6)) A outer s H E).A := hr.mono (by omega)
  have hr1 : Room (3 * d + 1) (bX Γ N6 "is_fraction" (top 15) 6 (.ref (cd 6)) A outer s H E).A := hr.mono (by omega)
  have po : PassesOwn (model (bX Γ N6 "is_fraction" (top 15) 6 (.ref (cd 6)) A outer s H E).prog (bX Γ N6 "is_fraction" (top 15) 6 (.ref (cd 6)) A outer s H E).w) (bX Γ N6 "is_fraction" (top 15) 6 (.ref (cd 6)) A outer s H E).A (bX Γ N6 "is_fraction" (top 15) 6 (.ref (cd 6)) A outer s H E).env (bX Γ N6 "is_fraction" (top 15) 6 (.ref (cd 6)) A outer s H E).xe := passes_of rfl
  exact (ss_cons (s_if (PW.pt (w_or (t_not (t_val ⟨rfl, rfl, rfl, rfl, rfl⟩ (e_isi1 (x := "isinstance") (n := "tuple") (u := .tup) ⟨rfl, rfl, rfl, rfl, rfl⟩ (e_var (i := 0) rfl (.inl rfl)) rfl gf.mg_isinstance (by kernel_rfl) rfl gf.mg_tuple (by kernel_rfl)))) (w_one2 (t_cmp rfl gf.kc (op_ne_ok ⟨rfl, rfl, rfl, rfl, rfl⟩ hr0) (e_callB (x := "len") gf.kc (cr_len ⟨rfl, rfl, rfl, rfl, rfl⟩) rfl gf.mg_len (by kernel_rfl) (l_cons (e_var (i := 0) rfl (.inl rfl)) l_nil)) e_int rfl)))) (ss_cons (s_ret e_bl)
  ss_nil) ss_nil)
  (ss_cons (s_if (t_not (t_val ⟨rfl, rfl, rfl, rfl, rfl⟩ (e_call (x := "are_wholes") ⟨rfl, rfl, rfl, rfl, rfl⟩ (ih 3 _ rfl) hr0 tk rfl gf.mg_are_wholes (l_cons (e_var (i := 0) rfl (.inl rfl)) l_nil)))) (ss_cons (s_ret e_bl)
  ss_nil) ss_nil)
  (ss_cons (s_ret (e_and ⟨rfl, rfl, rfl, rfl, rfl⟩ (e_cmp gf.kc (op_gt_ok ⟨rfl, rfl, rfl, rfl, rfl⟩ hr0) (e_ix gf.kc (ix_ok ⟨rfl, rfl, rfl, rfl, rfl⟩ (hu_of hr0)) (e_var (i := 0) rfl (.inl rfl)) e_int (fun _ _ => rfl)) e_int rfl) (e_one (e_cmp gf.kc (op_eq_ok ⟨rfl, rfl, rfl, rfl, rfl⟩ hr0) (e_callG (x := "gcd") gf.kc cr_gcd' rfl gf.mg_gcd (l_cons (e_ix gf.kc (ix_ok ⟨rfl, rfl, rfl, rfl, rfl⟩ (hu_of hr0)) (e_var (i := 0) rfl (.inl rfl)) e_int (fun _ _ => rfl)) (l_cons (e_ix gf.kc (ix_ok ⟨rfl, rfl, rfl, rfl, rfl⟩ (hu_of hr0)) (e_var (i := 0) rfl (.inl rfl)) e_int (fun _ _ => rfl)) l_nil))) e_int rfl))))
  ss_nil)))
/-- minus -/
theorem b7 (gf : GF Γ cd tb) (ih : AllF Γ PG C0 d) (W : WX) (A : Around) (outer : List Env) (s : Shared) (H : Hp) (E : XK) (hr : Room (3 * d + 2) (bX Γ N7 "minus" (top 16) 7 (.ref (cd 7)) A outer s H E).A) (tk : Takes (bX Γ N7 "minus" (top 16) 7 (.ref (cd 7)) A outer s H E) W) :
    PSs (bX Γ N7 "minus" (top 16) 7 (.ref (cd 7)) A outer s H E) (defBody (top 16)) (tSs Γ W (bodyC PG C0 d) D7.body) := by
  have hr0 : Room (3 * d) (bX Γ N7 "minus" (top 16) 7 (.ref (cd 7)) A outer s H E).A := hr.mono (by omega)
  have hr1 : Room (3 * d + 1) (bX Γ N7 "minus" (top 16) 7 (.ref (cd 7)) A outer s H E).A := hr.mono (by omega)
  have po : PassesOwn (model (bX Γ N7 "minus" (top 16) 7 (.ref (cd 7)) A outer s H E).prog (bX Γ N7 "minus" (top 16) 7 (.ref (cd 7)) A outer s H E).w) (bX Γ N7 "minus" (top 16) 7 (.ref (cd 7)) A outer s H E).A (bX Γ N7 "minus" (top 16) 7 (.ref (cd 7)) A outer s H E).env (bX Γ N7 "minus" (top 16) 7 (.ref (cd 7)) A outer s H E).xe := passes_of rfl
  exact (ss_cons (s_ret (e_call (x := "lowest") ⟨rfl, rfl, rfl, rfl, rfl⟩ (ih 4 _ rfl) hr0 tk rfl gf.mg_lowest (l_cons (e_bin gf.kc op_sub_ok (e_bin gf.kc op_mul_ok (e_ix gf.kc (ix_ok ⟨rfl, rfl, rfl, rfl, rfl⟩ (hu_of hr0)) (e_var (i := 0) rfl (.inl rfl)) e_int (fun _ _ => rfl)) (e_ix gf.kc (ix_ok ⟨rfl, rfl, rfl, rfl, rfl⟩ (hu_of hr0)) (e_var (i := 1) rfl (.inl rfl)) e_int (fun _ _ => rfl))) (e_bin gf.kc op_mul_ok (e_ix gf.kc (ix_ok ⟨rfl, rfl, rfl, rfl, rfl⟩ (hu_of hr0)) (e_var (i := 1) rfl (.inl rfl)) e_int (fun _ _ => rfl)) (e_ix gf.kc (ix_ok ⟨rfl, rfl, rfl, rfl, rfl⟩ (hu_of hr0)) (e_var (i := 0) rfl (.inl rfl)) e_int (fun _ _ => rfl)))) (l_cons (e_bin gf.kc op_mul_ok (e_ix gf.kc (ix_ok ⟨rfl, rfl, rfl, rfl, rfl⟩ (hu_of hr0)) (e_var (i := 0) rfl (.inl rfl)) e_int (fun _ _ => rfl)) (e_ix gf.kc (ix_ok ⟨rfl, rfl, rfl, rfl, rfl⟩ (hu_of hr0)) (e_var (i := 1) rfl (.inl rfl)) e_int (fun _ _ => rfl))) l_nil))))
  ss_nil)
/-- divided -/
theorem b8 (gf : GF Γ cd tb) (ih : AllF Γ PG C0 d) (W : WX) (A : Around) (outer : List Env) (s : Shared) (H : Hp) (E : XK) (hr : Room (3 * d + 2) (bX Γ N8 "divided" (top 17) 8 (.ref (cd 8)) A outer s H E).A) (tk : Takes (bX Γ N8 "divided" (top 17) 8 (.ref (cd 8)) A outer s H E) W) :
    PSs (bX Γ N8 "divided" (top 17) 8 (.ref (cd 8)) A outer s H E) (defBody (top 17)) (tSs Γ W (bodyC PG C0 d) D8.body) := by
  have hr0 : Room (3 * d) (bX Γ N8 "divided" (top 17) 8 (.ref (cd 8)) A outer s H E).A := hr.mono (by omega)
  have hr1 : Room (3 * d + 1) (bX Γ N8 "divided" (top 17) 8 (.ref (cd 8)) A outer s H E).A := hr.mono (by omega)
  have po : PassesOwn (model (bX Γ N8 "divided" (top 17) 8 (.ref (cd 8)) A outer s H E).prog (bX Γ N8 "divided" (top 17) 8 (.ref (cd 8)) A outer s H E).w) (bX Γ N8 "divided" (top 17) 8 (.ref (cd 8)) A outer s H E).A (bX Γ N8 "divided" (top 17) 8 (.ref (cd 8)) A outer s H E).env (bX Γ N8 "divided" (top 17) 8 (.ref (cd 8)) A outer s H E).xe := passes_of rfl
  exact (ss_cons (s_ret (e_call (x := "lowest") ⟨rfl, rfl, rfl, rfl, rfl⟩ (ih 4 _ rfl) hr0 tk rfl gf.mg_lowest (l_cons (e_bin gf.kc op_mul_ok (e_ix gf.kc (ix_ok ⟨rfl, rfl, rfl, rfl, rfl⟩ (hu_of hr0)) (e_var (i := 0) rfl (.inl rfl)) e_int (fun _ _ => rfl)) (e_ix gf.kc (ix_ok ⟨rfl, rfl, rfl, rfl, rfl⟩ (hu_of hr0)) (e_var (i := 1) rfl (.inl rfl)) e_int (fun _ _ => rfl))) (l_cons (e_bin gf.kc op_mul_ok (e_ix gf.kc (ix_ok ⟨rfl, rfl, rfl, rfl, rfl⟩ (hu_of hr0)) (e_var (i := 0) rfl (.inl rfl)) e_int (fun _ _ => rfl)) (e_ix gf.kc (ix_ok ⟨rfl, rfl, rfl, rfl, rfl⟩ (hu_of hr0)) (e_var (i := 1) rfl (.inl rfl)) e_int (fun _ _ => rfl))) l_nil))))
  ss_nil)
/-- less_of -/
theorem b9 (gf : GF Γ cd tb) (ih : AllF Γ PG C0 d) (W : WX) (A : Around) (outer : List Env) (s : Shared) (H : Hp) (E : XK) (hr : Room (3 * d + 2) (bX Γ N9 "less_of" (top 18) 9 (.ref (cd 9)) A outer s H E).A) (tk : Takes (bX Γ N9 "less_of" (top 18) 9 (.ref (cd 9)) A outer s H E) W) :
    PSs (bX Γ N9 "less_of" (top 18) 9 (.ref (cd 9)) A outer s H E) (defBody (top 18)) (tSs Γ W (bodyC PG C0 d) D9.body) := by
  have hr0 : Room (3 * d) (bX Γ N9 "less_of" (top 18) 9 (.ref (cd 9)) A outer s H E).A := hr.mono (by omega)
  have hr1 : Room (3 * d + 1) (bX Γ N9 "less_of" (top 18) 9 (.ref (cd 9)) A outer s H E).A := hr.mono (by omega)
  have po : PassesOwn (model (bX Γ N9 "less_of" (top 18) 9 (.ref (cd 9)) A outer s H E).prog (bX Γ N9 "less_of" (top 18) 9 (.ref (cd 9)) A outer s H E).w) (bX Γ N9 "less_of" (top 18) 9 (.ref (cd 9)) A outer s H E).A (bX Γ N9 "less_of" (top 18) 9 (.ref (cd 9)) A outer s H E).env (bX Γ N9 "less_of" (top 18) 9 (.ref (cd 9)) A outer s H E).xe := passes_of rfl
  exact (ss_cons (s_if (t_val ⟨rfl, rfl, rfl, rfl, rfl⟩ (e_call (x := "is_less") ⟨rfl, rfl, rfl, rfl, rfl⟩ (ih 5 _ rfl) hr0 tk rfl gf.mg_is_less (l_cons (e_var (i := 1) rfl (.inl rfl)) (l_cons (e_var (i := 0) rfl (.inl rfl)) l_nil)))) (ss_cons (s_ret (e_var (i := 1) rfl (.inl rfl)))
  ss_nil) ss_nil)
  (ss_cons (s_ret (e_var (i := 0) rfl (.inl rfl)))
  ss_nil))
/-- greater_of -/
theorem b10 (gf : GF Γ cd tb) (ih : AllF Γ PG C0 d) (W : WX) (A : Around) (outer : List Env) (s : Shared) (H : Hp) (E : XK) (hr : Room (3 * d + 2) (bX Γ N10 "greater_of" (top 19) 10 (.ref (cd 10)) A outer s H E).A) (tk : Takes (bX Γ N10 "greater_of" (top 19) 10 (.ref (cd 10)) A outer s H E) W) :
    PSs (bX Γ N10 "greater_of" (top 19) 10 (.ref (cd 10)) A outer s H E) (defBody (top 19)) (tSs Γ W (bodyC PG C0 d) D10.body) := by
  have hr0 : Room (3 * d) (bX Γ N10 "greater_of" (top 19) 10 (.ref (cd 10)) A outer s H E).A := hr.mono (by omega)
  have hr1 : Room (3 * d + 1) (bX Γ N10 "greater_of" (top 19) 10 (.ref (cd 10)) A outer s H E).A := hr.mono (by omega)
  have po : PassesOwn (model (bX Γ N10 "greater_of" (top 19) 10 (.ref (cd 10)) A outer s H E).prog (bX Γ N10 "greater_of" (top 19) 10 (.ref (cd 10)) A outer s H E).w) (bX Γ N10 "greater_of" (top 19) 10 (.ref (cd 10)) A outer s H E).A (bX Γ N10 "greater_of" (top 19) 10 (.ref (cd 10)) A outer s H E).env (bX Γ N10 "greater_of" (top 19) 10 (.ref (cd 10)) A outer s H E).xe := passes_of rfl
  exact (ss_cons (s_if (t_val ⟨rfl, rfl, rfl, rfl, rfl⟩ (e_call (x := "is_less") ⟨rfl, rfl, rfl, rfl, rfl⟩ (ih 5 _ rfl) hr0 tk rfl gf.mg_is_less (l_cons (e_var (i := 0) rfl (.inl rfl)) (l_cons (e_var (i := 1) rfl (.inl rfl)) l_nil)))) (ss_cons (s_ret (e_var (i := 1) rfl (.inl rfl)))
  ss_nil) ss_nil)
  (ss_cons (s_ret (e_var (i := 0) rfl (.inl rfl)))
  ss_nil))
/-- span_of_weights -/
theorem b11 (gf : GF Γ cd tb) (ih : AllF Γ PG C0 d) (W : WX) (A : Around) (outer : List Env) (s : Shared) (H : Hp) (E : XK) (hr : Room (3 * d + 2) (bX Γ N11 "span_of_weights" (top 20) 11 (.ref (cd 11)) A outer s H E).A) (tk : Takes (bX Γ N11 "span_of_weights" (top 20) 11 (.ref (cd 11)) A outer s H E) W) :
    PSs (bX Γ N11 "span_of_weights" (top 20) 11 (.ref (cd 11)) A outer s H E) (defBody (top 20)) (tSs Γ W (bodyC PG C0 d) D11.body) := by
  have hr0 : Room (3 * d) (bX Γ N11 "span_of_weights" (top 20) 11 (.ref (cd 11)) A outer s H E).A := hr.mono (by omega)
  have hr1 : Room (3 * d + 1) (bX Γ N11 "span_of_weights" (top 20) 11 (.ref (cd 11)) A outer s H E).A := hr.mono (by omega)
  have po : PassesOwn (model (bX Γ N11 "span_of_weights" (top 20) 11 (.ref (cd 11)) A outer s H E).prog (bX Γ N11 "span_of_weights" (top 20) 11 (.ref (cd 11)) A outer s H E).w) (bX Γ N11 "span_of_weights" (top 20) 11 (.ref (cd 11)) A outer s H E).A (bX Γ N11 "span_of_weights" (top 20) 11 (.ref (cd 11)) A outer s H E).env (bX Γ N11 "span_of_weights" (top 20) 11 (.ref (cd 11)) A outer s H E).xe := passes_of rfl
  exact (ss_cons (s_set (j := 3) gf.psi nd11 rfl (.inl rfl) (e_call (x := "lowest") ⟨rfl, rfl, rfl, rfl, rfl⟩ (ih 4 _ rfl) hr0 tk rfl gf.mg_lowest (l_cons (e_bin gf.kc (op_add_ok ⟨rfl, rfl, rfl, rfl, rfl⟩ false) (e_var (i := 0) rfl (.inl rfl)) (e_var (i := 2) rfl (.inl rfl))) (l_cons (e_bin gf.kc (op_add_ok ⟨rfl, rfl, rfl, rfl, rfl⟩ false) (e_bin gf.kc op_sub_ok (e_var (i := 0) rfl (.inl rfl)) (e_var (i := 1) rfl (.inl rfl))) (e_bin gf.kc op_mul_ok e_int (e_var (i := 2) rfl (.inl rfl)))) l_nil))))
  (ss_cons (s_if (t_cmp rfl gf.kc (op_le_ok ⟨rfl, rfl, rfl, rfl, rfl⟩ hr0) (e_bin gf.kc op_sub_ok (e_var (i := 0) rfl (.inl rfl)) (e_var (i := 1) rfl (.inl rfl))) (e_bin gf.kc op_mul_ok e_int (e_var (i := 2) rfl (.inl rfl))) rfl) (ss_cons (s_ret (e_tup (by show _ ≤ sizeLine; decide) (l_cons (e_var (i := 3) rfl (.inl rfl)) (l_cons e_non l_nil))))
  ss_nil) ss_nil)
  (ss_cons (s_ret (e_tup (by show _ ≤ sizeLine; decide) (l_cons (e_var (i := 3) rfl (.inl rfl)) (l_cons (e_call (x := "lowest") ⟨rfl, rfl, rfl, rfl, rfl⟩ (ih 4 _ rfl) hr0 tk rfl gf.mg_lowest (l_cons (e_bin gf.kc op_sub_ok (e_var (i := 0) rfl (.inl rfl)) (e_var (i := 2) rfl (.inl rfl))) (l_cons (e_bin gf.kc op_sub_ok (e_bin gf.kc op_sub_ok (e_var (i := 0) rfl (.inl rfl)) (e_var (i := 1) rfl (.inl rfl))) (e_bin gf.kc op_mul_ok e_int (e_var (i := 2) rfl (.inl rfl)))) l_nil))) l_nil))))
  ss_nil)))
/-- share_at -/
theorem b12 (gf : GF Γ cd tb) (ih : AllF Γ PG C0 d) (W : WX) (A : Around) (outer : List Env) (s : Shared) (H : Hp) (E : XK) (hr : Room (3 * d + 2) (bX Γ N12 "share_at" (top 21) 12 (.ref (cd 12)) A outer s H E).A) (tk : Takes (bX Γ N12 "share_at" (top 21) 12 (.ref (cd 12)) A outer s H E) W) :
    PSs (bX Γ N12 "share_at" (top 21) 12 (.ref (cd 12)) A outer s H E) (defBody (top 21)) (tSs Γ W (bodyC PG C0 d) D12.body) := by
  have hr0 : Room (3 * d) (bX Γ N12 "share_at" (top 21) 12 (.ref (cd 12)) A outer s H E).A := hr.mono (by omega)
  have hr1 : Room (3 * d + 1) (bX Γ N12 "share_at" (top 21) 12 (.ref (cd 12)) A outer s H E).A := hr.mono (by omega)
  have po : PassesOwn (model (bX Γ N12 "share_at" (top 21) 12 (.ref (cd 12)) A outer s H E).prog (bX Γ N12 "share_at" (top 21) 12 (.ref (cd 12)) A outer s H E).w) (bX Γ N12 "share_at" (top 21) 12 (.ref (cd 12)) A outer s H E).A (bX Γ N12 "share_at" (top 21) 12 (.ref (cd 12)) A outer s H E).env (bX Γ N12 "share_at" (top 21) 12 (.ref (cd 12)) A outer s H E).xe := passes_of rfl
  exact (ss_cons (s_ret (e_call (x := "divided") ⟨rfl, rfl, rfl, rfl, rfl⟩ (ih 8 _ rfl) hr0 tk rfl gf.mg_divided (l_cons (e_call (x := "minus") ⟨rfl, rfl, rfl, rfl, rfl⟩ (ih 7 _ rfl) hr0 tk rfl gf.mg_minus (l_cons (e_var (i := 2) rfl (.inl rfl)) (l_cons (e_var (i := 1) rfl (.inl rfl)) l_nil))) (l_cons (e_call (x := "minus") ⟨rfl, rfl, rfl, rfl, rfl⟩ (ih 7 _ rfl) hr0 tk rfl gf.mg_minus (l_cons (e_var (i := 0) rfl (.inl rfl)) (l_cons (e_var (i := 1) rfl (.inl rfl)) l_nil))) l_nil))))
  ss_nil)
/-- cut_shares -/
theorem b13 (gf : GF Γ cd tb) (ih : AllF Γ PG C0 d) (W : WX) (A : Around) (outer : List Env) (s : Shared) (H : Hp) (E : XK) (hr : Room (3 * d + 2) (bX Γ N13 "cut_shares" (top 22) 13 (.ref (cd 13)) A outer s H E).A) (tk : Takes (bX Γ N13 "cut_shares" (top 22) 13 (.ref (cd 13)) A outer s H E) W) :
    PSs (bX Γ N13 "cut_shares" (top 22) 13 (.ref (cd 13)) A outer s H E) (defBody (top 22)) (tSs Γ W (bodyC PG C0 d) D13.body) := by
  have hr0 : Room (3 * d) (bX Γ N13 "cut_shares" (top 22) 13 (.ref (cd 13)) A outer s H E).A := hr.mono (by omega)
  have hr1 : Room (3 * d + 1) (bX Γ N13 "cut_shares" (top 22) 13 (.ref (cd 13)) A outer s H E).A := hr.mono (by omega)
  have po : PassesOwn (model (bX Γ N13 "cut_shares" (top 22) 13 (.ref (cd 13)) A outer s H E).prog (bX Γ N13 "cut_shares" (top 22) 13 (.ref (cd 13)) A outer s H E).w) (bX Γ N13 "cut_shares" (top 22) 13 (.ref (cd 13)) A outer s H E).A (bX Γ N13 "cut_shares" (top 22) 13 (.ref (cd 13)) A outer s H E).env (bX Γ N13 "cut_shares" (top 22) 13 (.ref (cd 13)) A outer s H E).xe := passes_of rfl
  exact (ss_cons (s_set (j := 2) gf.psi nd13 rfl (.inl rfl) (e_call (x := "greater_of") ⟨rfl, rfl, rfl, rfl, rfl⟩ (ih 10 _ rfl) hr0 tk rfl gf.mg_greater_of (l_cons (e_var (i := 0) rfl (.inl rfl)) (l_cons (gf.glob_NOTHING ⟨rfl, rfl, rfl, rfl, rfl⟩ rfl) l_nil))))
  (ss_cons (s_set (j := 3) gf.psi nd13 rfl (.inl rfl) (e_call (x := "less_of") ⟨rfl, rfl, rfl, rfl, rfl⟩ (ih 9 _ rfl) hr0 tk rfl gf.mg_less_of (l_cons (e_var (i := 1) rfl (.inl rfl)) (l_cons (gf.glob_ALL ⟨rfl, rfl, rfl, rfl, rfl⟩ rfl) l_nil))))
  (ss_cons (s_if (t_val ⟨rfl, rfl, rfl, rfl, rfl⟩ (e_call (x := "is_less") ⟨rfl, rfl, rfl, rfl, rfl⟩ (ih 5 _ rfl) hr0 tk rfl gf.mg_is_less (l_cons (e_var (i := 3) rfl (.inl rfl)) (l_cons (e_var (i := 2) rfl (.inl rfl)) l_nil)))) (ss_cons (s_ret e_non)
  ss_nil) ss_nil)
  (ss_cons (s_ret (e_tup (by show _ ≤ sizeLine; decide) (l_cons (e_var (i := 2) rfl (.inl rfl)) (l_cons (e_var (i := 3) rfl (.inl rfl)) l_nil))))
  ss_nil))))
/-- check_weights -/
theorem b14 (gf : GF Γ cd tb) (ih : AllF Γ PG C0 d) (W : WX) (A : Around) (outer : List Env) (s : Shared) (H : Hp) (E : XK) (hr : Room (3 * d + 2) (bX Γ N14 "check_weights" (top 24) 14 (.ref (cd 14)) A outer s H E).A) (tk : Takes (bX Γ N14 "check_weights" (top 24) 14 (.ref (cd 14)) A outer s H E) W) :
    PSs (bX Γ N14 "check_weights" (top 24) 14 (.ref (cd 14)) A outer s H E) (defBody (top 24)) (tSs Γ W (bodyC PG C0 d) D14.body) := by
  have hr0 : Room (3 * d) (bX Γ N14 "check_weights" (top 24) 14 (.ref (cd 14)) A outer s H E).A := hr.mono (by omega)
  have hr1 : Room (3 * d + 1) (bX Γ N14 "check_weights" (top 24) 14 (.ref (cd 14)) A outer s H E).A := hr.mono (by omega)
  have po : PassesOwn (model (bX Γ N14 "check_weights" (top 24) 14 (.ref (cd 14)) A outer s H E).prog (bX Γ N14 "check_weights" (top 24) 14 (.ref (cd 14)) A outer s H E).w) (bX Γ N14 "check_weights" (top 24) 14 (.ref (cd 14)) A outer s H E).A (bX Γ N14 "check_weights" (top 24) 14 (.ref (cd 14)) A outer s H E).env (bX Γ N14 "check_weights" (top 24) 14 (.ref (cd 14)) A outer s H E).xe := passes_of rfl
  exact (ss_cons (s_if (PW.pt (w_or (t_not (t_val ⟨rfl, rfl, rfl, rfl, rfl⟩ (e_call (x := "is_whole") ⟨rfl, rfl, rfl, rfl, rfl⟩ (ih 0 _ rfl) hr0 tk rfl gf.mg_is_whole (l_cons (e_var (i := 0) rfl (.inl rfl)) l_nil)))) (w_one2 (t_not (t_val ⟨rfl, rfl, rfl, rfl, rfl⟩ (e_call (x := "is_whole_from") ⟨rfl, rfl, rfl, rfl, rfl⟩ (ih 1 _ rfl) hr0 tk rfl gf.mg_is_whole_from (l_cons (e_var (i := 1) rfl (.inl rfl)) (l_cons e_int l_nil)))))))) (ss_cons (gf.raise_1 ⟨rfl, rfl, rfl, rfl, rfl⟩ rfl tk rfl)
  ss_nil) ss_nil)
  (ss_cons (s_if (t_cmp rfl gf.kc (op_le_ok ⟨rfl, rfl, rfl, rfl, rfl⟩ hr0) (e_var (i := 0) rfl (.inl rfl)) (e_var (i := 1) rfl (.inl rfl)) rfl) (ss_cons (gf.raise_1 ⟨rfl, rfl, rfl, rfl, rfl⟩ rfl tk rfl)
  ss_nil) ss_nil)
  (ss_cons (s_if (t_not (t_val ⟨rfl, rfl, rfl, rfl, rfl⟩ (e_call (x := "is_whole_between") ⟨rfl, rfl, rfl, rfl, rfl⟩ (ih 2 _ rfl) hr0 tk rfl gf.mg_is_whole_between (l_cons (e_var (i := 2) rfl (.inl rfl)) (l_cons e_int (l_cons (e_var (i := 1) rfl (.inl rfl)) l_nil)))))) (ss_cons (gf.raise_1 ⟨rfl, rfl, rfl, rfl, rfl⟩ rfl tk rfl)
  ss_nil) ss_nil)
  ss_nil)))
/-- density -/
theorem b15 (gf : GF Γ cd tb) (ih : AllF Γ PG C0 d) (W : WX) (A : Around) (outer : List Env) (s : Shared) (H : Hp) (E : XK) (hr : Room (3 * d + 2) (bX Γ N15 "density" (top 25) 15 (.ref (cd 15)) A outer s H E).A) (tk : Takes (bX Γ N15 "density" (top 25) 15 (.ref (cd 15)) A outer s H E) W) :
    PSs (bX Γ N15 "density" (top 25) 15 (.ref (cd 15)) A outer s H E) (defBody (top 25)) (tSs Γ W (bodyC PG C0 d) D15.body) := by
  have hr0 : Room (3 * d) (bX Γ N15 "density" (top 25) 15 (.ref (cd 15)) A outer s H E).A := hr.mono (by omega)
  have hr1 : Room (3 * d + 1) (bX Γ N15 "density" (top 25) 15 (.ref (cd 15)) A outer s H E).A := hr.mono (by omega)
  have po : PassesOwn (model (bX Γ N15 "density" (top 25) 15 (.ref (cd 15)) A outer s H E).prog (bX Γ N15 "density" (top 25) 15 (.ref (cd 15)) A outer s H E).w) (bX Γ N15 "density" (top 25) 15 (.ref (cd 15)) A outer s H E).A (bX Γ N15 "density" (top 25) 15 (.ref (cd 15)) A outer s H E).env (bX Γ N15 "density" (top 25) 15 (.ref (cd 15)) A outer s H E).xe := passes_of rfl
  exact (ss_cons (s_exp (e_call (x := "check_weights") ⟨rfl, rfl, rfl, rfl, rfl⟩ (ih 14 _ rfl) hr0 tk rfl gf.mg_check_weights (l_cons (e_var (i := 0) rfl (.inl rfl)) (l_cons (e_var (i := 1) rfl (.inl rfl)) (l_cons (e_var (i := 2) rfl (.inl rfl)) l_nil)))))
  (ss_cons (s_ret (e_call (x := "span_of_weights") ⟨rfl, rfl, rfl, rfl, rfl⟩ (ih 11 _ rfl) hr0 tk rfl gf.mg_span_of_weights (l_cons (e_var (i := 0) rfl (.inl rfl)) (l_cons (e_var (i := 1) rfl (.inl rfl)) (l_cons (e_var (i := 2) rfl (.inl rfl)) l_nil)))))
  ss_nil))
/-- share_bounds -/
theorem b16 (gf : GF Γ cd tb) (ih : AllF Γ PG C0 d) (W : WX) (A : Around) (outer : List Env) (s : Shared) (H : Hp) (E : XK) (hr : Room (3 * d + 2) (bX Γ N16 "share_bounds" (top 26) 16 (.ref (cd 16)) A outer s H E).A) (tk : Takes (bX Γ N16 "share_bounds" (top 26) 16 (.ref (cd 16)) A outer s H E) W) :
    PSs (bX Γ N16 "share_bounds" (top 26) 16 (.ref (cd 16)) A outer s H E) (defBody (top 26)) (tSs Γ W (bodyC PG C0 d) D16.body) := by
  have hr0 : Room (3 * d) (bX Γ N16 "share_bounds" (top 26) 16 (.ref (cd 16)) A outer s H E).A := hr.mono (by omega)
  have hr1 : Room (3 * d + 1) (bX Γ N16 "share_bounds" (top 26) 16 (.ref (cd 16)) A outer s H E).A := hr.mono (by omega)
  have po : PassesOwn (model (bX Γ N16 "share_bounds" (top 26) 16 (.ref (cd 16)) A outer s H E).prog (bX Γ N16 "share_bounds" (top 26) 16 (.ref (cd 16)) A outer s H E).w) (bX Γ N16 "share_bounds" (top 26) 16 (.ref (cd 16)) A outer s H E).A (bX Γ N16 "share_bounds" (top 26) 16 (.ref (cd 16)) A outer s H E).env (bX Γ N16 "share_bounds" (top 26) 16 (.ref (cd 16)) A outer s H E).xe := passes_of rfl
  exact (ss_cons (s_if (t_not (t_val ⟨rfl, rfl, rfl, rfl, rfl⟩ (e_all (own := [("value", 4)]) gf.psi gf.tab_16 hr0 rfl gf.mg_all gf.tb_16 rfl nd16 rfl (_root_.E.gnOk_by (by kernel_rfl)) (i_seq ⟨rfl, rfl, rfl, rfl, rfl⟩ (e_tup (by show _ ≤ sizeLine; decide) (l_cons (e_var (i := 0) rfl (.inl rfl)) (l_cons (e_var (i := 1) rfl (.inl rfl)) (l_cons (e_var (i := 2) rfl (.inl rfl)) (l_cons (e_var (i := 3) rfl (.inl rfl)) l_nil)))))) (fun s h code fp pn => (v_name (j := 4) (by decide) gf.psi nd16 rfl (.inl rfl) (.inr rfl))) (fun s h code fp pn => ts_nil) (fun s h code fp pn => (e_call (x := "is_fraction") ⟨rfl, rfl, rfl, rfl, rfl⟩ (ih 6 _ rfl) (Room.gen (k := 3 * d) hr1) LamX.takes0 rfl gf.mg_is_fraction (l_cons (e_var (i := 4) rfl (.inl rfl)) l_nil)))))) (ss_cons (gf.raise_1 ⟨rfl, rfl, rfl, rfl, rfl⟩ rfl tk rfl)
  ss_nil) ss_nil)
  (ss_cons (s_if (t_cmp rfl gf.kc (op_eq_ok ⟨rfl, rfl, rfl, rfl, rfl⟩ hr0) (e_var (i := 0) rfl (.inl rfl)) (e_var (i := 1) rfl (.inl rfl)) rfl) (ss_cons (gf.raise_1 ⟨rfl, rfl, rfl, rfl, rfl⟩ rfl tk rfl)
  ss_nil) ss_nil)
  (ss_cons (s_if (t_val ⟨rfl, rfl, rfl, rfl, rfl⟩ (e_call (x := "is_less") ⟨rfl, rfl, rfl, rfl, rfl⟩ (ih 5 _ rfl) hr0 tk rfl gf.mg_is_less (l_cons (e_var (i := 0) rfl (.inl rfl)) (l_cons (e_var (i := 1) rfl (.inl rfl)) l_nil)))) (ss_cons (s_ret (e_call (x := "cut_shares") ⟨rfl, rfl, rfl, rfl, rfl⟩ (ih 13 _ rfl) hr0 tk rfl gf.mg_cut_shares (l_cons (e_call (x := "share_at") ⟨rfl, rfl, rfl, rfl, rfl⟩ (ih 12 _ rfl) hr0 tk rfl gf.mg_share_at (l_cons (e_var (i := 0) rfl (.inl rfl)) (l_cons (e_var (i := 1) rfl (.inl rfl)) (l_cons (e_var (i := 3) rfl (.inl rfl)) l_nil)))) (l_cons (e_call (x := "share_at") ⟨rfl, rfl, rfl, rfl, rfl⟩ (ih 12 _ rfl) hr0 tk rfl gf.mg_share_at (l_cons (e_var (i := 0) rfl (.inl rfl)) (l_cons (e_var (i := 1) rfl (.inl rfl)) (l_cons (e_var (i := 2) rfl (.inl rfl)) l_nil)))) l_nil))))
  ss_nil) ss_nil)
  (ss_cons (s_ret (e_call (x := "cut_shares") ⟨rfl, rfl, rfl, rfl, rfl⟩ (ih 13 _ rfl) hr0 tk rfl gf.mg_cut_shares (l_cons (e_call (x := "share_at") ⟨rfl, rfl, rfl, rfl, rfl⟩ (ih 12 _ rfl) hr0 tk rfl gf.mg_share_at (l_cons (e_var (i := 0) rfl (.inl rfl)) (l_cons (e_var (i := 1) rfl (.inl rfl)) (l_cons (e_var (i := 2) rfl (.inl rfl)) l_nil)))) (l_cons (e_call (x := "share_at") ⟨rfl, rfl, rfl, rfl, rfl⟩ (ih 12 _ rfl) hr0 tk rfl gf.mg_share_at (l_cons (e_var (i := 0) rfl (.inl rfl)) (l_cons (e_var (i := 1) rfl (.inl rfl)) (l_cons (e_var (i := 3) rfl (.inl rfl)) l_nil)))) l_nil))))
  ss_nil))))
/-- _law_pool -/
theorem b17 (gf : GF Γ cd tb) (ih : AllF Γ PG C0 d) (W : WX) (A : Around) (outer : List Env) (s : Shared) (H : Hp) (E : XK) (hr : Room (3 * d + 2) (bX Γ N17 "_law_pool" (top 28) 17 (.ref (cd 17)) A outer s H E).A) (tk : Takes (bX Γ N17 "_law_pool" (top 28) 17 (.ref (cd 17)) A outer s H E) W) :
    PSs (bX Γ N17 "_law_pool" (top 28) 17 (.ref (cd 17)) A outer s H E) (defBody (top 28)) (tSs Γ W (bodyC PG C0 d) D17.body) := by
  have hr0 : Room (3 * d) (bX Γ N17 "_law_pool" (top 28) 17 (.ref (cd 17)) A outer s H E).A := hr.mono (by omega)
  have hr1 : Room (3 * d + 1) (bX Γ N17 "_law_pool" (top 28) 17 (.ref (cd 17)) A outer s H E).A := hr.mono (by omega)
  have po : PassesOwn (model (bX Γ N17 "_law_pool" (top 28) 17 (.ref (cd 17)) A outer s H E).prog (bX Γ N17 "_law_pool" (top 28) 17 (.ref (cd 17)) A outer s H E).w) (bX Γ N17 "_law_pool" (top 28) 17 (.ref (cd 17)) A outer s H E).A (bX Γ N17 "_law_pool" (top 28) 17 (.ref (cd 17)) A outer s H E).env (bX Γ N17 "_law_pool" (top 28) 17 (.ref (cd 17)) A outer s H E).xe := passes_of rfl
  exact (ss_cons (s_par (j := 2) (n := 3) gf.psi rfl nd17 rfl rfl (by decide) rfl rfl (l_cons (e_lst (m := true) (by show _ ≤ sizeLine; decide) l_nil) (l_cons e_int l_nil)) rfl)
  (ss_cons (s_for po rfl (i_seq ⟨rfl, rfl, rfl, rfl, rfl⟩ (e_sl (m := false) ⟨rfl, rfl, rfl, rfl, rfl⟩ gf.kc (e_var (i := 0) rfl (.inl rfl)) o_none (o_some e_int))) (g_name (j := 4) gf.psi nd17 rfl (.inl rfl) (.inr rfl)) (ss_cons (s_set (j := 5) gf.psi nd17 rfl (.inl rfl) (e_callT (x := "int") gf.kc cr_int rfl gf.mg_int (by kernel_rfl) (l_cons (e_var (i := 4) rfl (.inl rfl)) l_nil)))
  (ss_cons (s_set (j := 3) gf.psi nd17 rfl (.inl rfl) (e_bin gf.kc op_mod_ok (e_callT (x := "int") gf.kc cr_int rfl gf.mg_int (by kernel_rfl) (l_cons (e_bin gf.kc (op_add_ok ⟨rfl, rfl, rfl, rfl, rfl⟩ false) (e_bin gf.kc op_mul_ok (e_var (i := 3) rfl (.inl rfl)) e_int) (e_var (i := 5) rfl (.inl rfl))) l_nil)) e_int))
  (ss_cons (s_if (t_cmp rfl gf.kc (op_lt_ok ⟨rfl, rfl, rfl, rfl, rfl⟩ hr0) (e_var (i := 5) rfl (.inl rfl)) (e_bin gf.kc op_pow_ok e_int e_int) rfl) (ss_cons (s_exp (e_bm (k := .lst) (p := .append) ⟨rfl, rfl, rfl, rfl, rfl⟩ gf.kc PySem.F.plainAttrs_list PySem.F.slot_list_append PySem.F.type_list_append mt_append' (e_var (i := 2) rfl (.inl rfl)) (l_cons (e_bin gf.kc op_mod_ok (e_bin gf.kc op_mod_ok (e_bin gf.kc (op_add_ok ⟨rfl, rfl, rfl, rfl, rfl⟩ false) (e_bin gf.kc op_mod_ok (e_var (i := 5) rfl (.inl rfl)) e_int) (e_bin gf.kc op_mul_ok e_int (e_callB (x := "len") gf.kc (cr_len ⟨rfl, rfl, rfl, rfl, rfl⟩) rfl gf.mg_len (by kernel_rfl) (l_cons (e_var (i := 2) rfl (.inl rfl)) l_nil)))) e_int) e_int) l_nil)))
  ss_nil) (ss_cons (s_for po rfl (i_range1 rfl rfl gf.mg_range (l_cons e_int l_nil)) (g_name (j := 6) gf.psi nd17 rfl (.inl rfl) (.inr rfl)) (ss_cons (s_if (PW.pt (w_and (t_cmp rfl gf.kc (op_gt_ok ⟨rfl, rfl, rfl, rfl, rfl⟩ hr0) (e_var (i := 5) rfl (.inl rfl)) e_int rfl) (w_one1 (t_cmp rfl gf.kc (op_lt_ok ⟨rfl, rfl, rfl, rfl, rfl⟩ hr0) (e_callB (x := "len") gf.kc (cr_len ⟨rfl, rfl, rfl, rfl, rfl⟩) rfl gf.mg_len (by kernel_rfl) (l_cons (e_var (i := 2) rfl (.inl rfl)) l_nil)) (e_var (i := 1) rfl (.inl rfl)) rfl)))) (ss_cons (s_exp (e_bm (k := .lst) (p := .append) ⟨rfl, rfl, rfl, rfl, rfl⟩ gf.kc PySem.F.plainAttrs_list PySem.F.slot_list_append PySem.F.type_list_append mt_append' (e_var (i := 2) rfl (.inl rfl)) (l_cons (e_bin gf.kc op_mod_ok (e_var (i := 5) rfl (.inl rfl)) e_int) l_nil)))
  (ss_cons (s_set (j := 5) gf.psi nd17 rfl (.inl rfl) (e_bin gf.kc op_fdiv_ok (e_var (i := 5) rfl (.inl rfl)) e_int))
  ss_nil)) ss_nil)
  ss_nil))
  ss_nil))
  ss_nil))))
  (ss_cons (s_for po rfl (i_range1 rfl rfl gf.mg_range (l_cons (e_var (i := 1) rfl (.inl rfl)) l_nil)) (g_name (j := 6) gf.psi nd17 rfl (.inl rfl) (.inr rfl)) (ss_cons (s_set (j := 3) gf.psi nd17 rfl (.inl rfl) (e_bin gf.kc op_mod_ok (e_bin gf.kc (op_add_ok ⟨rfl, rfl, rfl, rfl, rfl⟩ false) (e_bin gf.kc (op_add_ok ⟨rfl, rfl, rfl, rfl, rfl⟩ false) (e_bin gf.kc op_mul_ok (e_var (i := 3) rfl (.inl rfl)) e_int) e_int) (e_var (i := 6) rfl (.inl rfl))) e_int))
  (ss_cons (s_exp (e_bm (k := .lst) (p := .append) ⟨rfl, rfl, rfl, rfl, rfl⟩ gf.kc PySem.F.plainAttrs_list PySem.F.slot_list_append PySem.F.type_list_append mt_append' (e_var (i := 2) rfl (.inl rfl)) (l_cons (e_bin gf.kc op_mod_ok (e_bin gf.kc (op_add_ok ⟨rfl, rfl, rfl, rfl, rfl⟩ false) (e_bin gf.kc op_fdiv_ok (e_var (i := 3) rfl (.inl rfl)) e_int) (e_bin gf.kc op_mod_ok (e_bin gf.kc op_mul_ok (e_var (i := 3) rfl (.inl rfl)) (e_var (i := 3) rfl (.inl rfl))) e_int)) e_int) l_nil)))
  ss_nil)))
  (ss_cons (s_ret (e_var (i := 2) rfl (.inl rfl)))
  ss_nil))))
/-- _law_same -/
theorem b18 (gf : GF Γ cd tb) (ih : AllF Γ PG C0 d) (W : WX) (A : Around) (outer : List Env) (s : Shared) (H : Hp) (E : XK) (hr : Room (3 * d + 2) (bX Γ N18 "_law_same" (top 29) 18 (.ref (cd 18)) A outer s H E).A) (tk : Takes (bX Γ N18 "_law_same" (top 29) 18 (.ref (cd 18)) A outer s H E) W) :
    PSs (bX Γ N18 "_law_same" (top 29) 18 (.ref (cd 18)) A outer s H E) (defBody (top 29)) (tSs Γ W (bodyC PG C0 d) D18.body) := by
  have hr0 : Room (3 * d) (bX Γ N18 "_law_same" (top 29) 18 (.ref (cd 18)) A outer s H E).A := hr.mono (by omega)
  have hr1 : Room (3 * d + 1) (bX Γ N18 "_law_same" (top 29) 18 (.ref (cd 18)) A outer s H E).A := hr.mono (by omega)
  have po : PassesOwn (model (bX Γ N18 "_law_same" (top 29) 18 (.ref (cd 18)) A outer s H E).prog (bX Γ N18 "_law_same" (top 29) 18 (.ref (cd 18)) A outer s H E).w) (bX Γ N18 "_law_same" (top 29) 18 (.ref (cd 18)) A outer s H E).A (bX Γ N18 "_law_same" (top 29) 18 (.ref (cd 18)) A outer s H E).env (bX Γ N18 "_law_same" (top 29) 18 (.ref (cd 18)) A outer s H E).xe := passes_of rfl
  exact (ss_cons (s_set (j := 2) gf.psi nd18 rfl (.inl rfl) (e_lst (m := true) (by show _ ≤ sizeLine; decide) (l_cons (e_tup (by show _ ≤ sizeLine; decide) (l_cons (e_var (i := 0) rfl (.inl rfl)) (l_cons (e_var (i := 1) rfl (.inl rfl)) l_nil))) l_nil)))
  (ss_cons (s_while po (t_val ⟨rfl, rfl, rfl, rfl, rfl⟩ (e_var (i := 2) rfl (.inl rfl))) (ss_cons (s_asg (e_bm0 (k := .lst) (p := .pop) ⟨rfl, rfl, rfl, rfl, rfl⟩ gf.kc PySem.F.plainAttrs_list PySem.F.slot_list_pop PySem.F.type_list_pop mt_pop' (e_var (i := 2) rfl (.inl rfl))) (g_tup ⟨rfl, rfl, rfl, rfl, rfl⟩ rfl (gs_cons (g_name (j := 3) gf.psi nd18 rfl (.inl rfl) (.inr rfl)) (gs_cons (g_name (j := 4) gf.psi nd18 rfl (.inl rfl) (.inr rfl)) gs_nil)) rfl))
  (ss_cons (s_if (t_isN (e_var (i := 4) rfl (.inl rfl))) (ss_cons (s_if (t_notN (e_var (i := 3) rfl (.inl rfl))) (ss_cons (s_ret e_bl)
  ss_nil) ss_nil)
  ss_nil) (ss_cons (s_if (t_val ⟨rfl, rfl, rfl, rfl, rfl⟩ (e_isi1 (x := "isinstance") (n := "tuple") (u := .tup) ⟨rfl, rfl, rfl, rfl, rfl⟩ (e_var (i := 4) rfl (.inl rfl)) rfl gf.mg_isinstance (by kernel_rfl) rfl gf.mg_tuple (by kernel_rfl))) (ss_cons (s_if (PW.pt (w_or (t_not (t_val ⟨rfl, rfl, rfl, rfl, rfl⟩ (e_isi1 (x := "isinstance") (n := "tuple") (u := .tup) ⟨rfl, rfl, rfl, rfl, rfl⟩ (e_var (i := 3) rfl (.inl rfl)) rfl gf.mg_isinstance (by kernel_rfl) rfl gf.mg_tuple (by kernel_rfl)))) (w_one2 (t_cmp rfl gf.kc (op_ne_ok ⟨rfl, rfl, rfl, rfl, rfl⟩ hr0) (e_callB (x := "len") gf.kc (cr_len ⟨rfl, rfl, rfl, rfl, rfl⟩) rfl gf.mg_len (by kernel_rfl) (l_cons (e_var (i := 3) rfl (.inl rfl)) l_nil)) (e_callB (x := "len") gf.kc (cr_len ⟨rfl, rfl, rfl, rfl, rfl⟩) rfl gf.mg_len (by kernel_rfl) (l_cons (e_var (i := 4) rfl (.inl rfl)) l_nil)) rfl)))) (ss_cons (s_ret e_bl)
  ss_nil) ss_nil)
  (ss_cons (s_for po rfl (i_range1 rfl rfl gf.mg_range (l_cons (e_callB (x := "len") gf.kc (cr_len ⟨rfl, rfl, rfl, rfl, rfl⟩) rfl gf.mg_len (by kernel_rfl) (l_cons (e_var (i := 4) rfl (.inl rfl)) l_nil)) l_nil)) (g_name (j := 5) gf.psi nd18 rfl (.inl rfl) (.inr rfl)) (ss_cons (s_exp (e_bm (k := .lst) (p := .append) ⟨rfl, rfl, rfl, rfl, rfl⟩ gf.kc PySem.F.plainAttrs_list PySem.F.slot_list_append PySem.F.type_list_append mt_append' (e_var (i := 2) rfl (.inl rfl)) (l_cons (e_tup (by show _ ≤ sizeLine; decide) (l_cons (e_ix gf.kc (ix_ok ⟨rfl, rfl, rfl, rfl, rfl⟩ (hu_of hr0)) (e_var (i := 3) rfl (.inl rfl)) (e_var (i := 5) rfl (.inl rfl)) (fun _ _ => rfl)) (l_cons (e_ix gf.kc (ix_ok ⟨rfl, rfl, rfl, rfl, rfl⟩ (hu_of hr0)) (e_var (i := 4) rfl (.inl rfl)) (e_var (i := 5) rfl (.inl rfl)) (fun _ _ => rfl)) l_nil))) l_nil)))
  ss_nil))
  ss_nil)) (ss_cons (s_if (t_val ⟨rfl, rfl, rfl, rfl, rfl⟩ (e_isi1 (x := "isinstance") (n := "str") (u := .str) ⟨rfl, rfl, rfl, rfl, rfl⟩ (e_var (i := 4) rfl (.inl rfl)) rfl gf.mg_isinstance (by kernel_rfl) rfl gf.mg_str (by kernel_rfl))) (ss_cons (s_if (PW.pt (w_or (t_not (t_val ⟨rfl, rfl, rfl, rfl, rfl⟩ (e_isi1 (x := "isinstance") (n := "str") (u := .str) ⟨rfl, rfl, rfl, rfl, rfl⟩ (e_var (i := 3) rfl (.inl rfl)) rfl gf.mg_isinstance (by kernel_rfl) rfl gf.mg_str (by kernel_rfl)))) (w_one2 (t_cmp rfl gf.kc (op_ne_ok ⟨rfl, rfl, rfl, rfl, rfl⟩ hr0) (e_var (i := 3) rfl (.inl rfl)) (e_var (i := 4) rfl (.inl rfl)) rfl)))) (ss_cons (s_ret e_bl)
  ss_nil) ss_nil)
  ss_nil) (ss_cons (s_if (PW.pt (w_or (t_cmp rfl gf.kc (op_ne_ok ⟨rfl, rfl, rfl, rfl, rfl⟩ hr0) (e_isi1 (x := "isinstance") (n := "bool") (u := .bool) ⟨rfl, rfl, rfl, rfl, rfl⟩ (e_var (i := 4) rfl (.inl rfl)) rfl gf.mg_isinstance (by kernel_rfl) rfl gf.mg_bool (by kernel_rfl)) (e_isi1 (x := "isinstance") (n := "bool") (u := .bool) ⟨rfl, rfl, rfl, rfl, rfl⟩ (e_var (i := 3) rfl (.inl rfl)) rfl gf.mg_isinstance (by kernel_rfl) rfl gf.mg_bool (by kernel_rfl)) rfl) (w_or (t_not (t_val ⟨rfl, rfl, rfl, rfl, rfl⟩ (e_isi1 (x := "isinstance") (n := "int") (u := .int) ⟨rfl, rfl, rfl, rfl, rfl⟩ (e_var (i := 3) rfl (.inl rfl)) rfl gf.mg_isinstance (by kernel_rfl) rfl gf.mg_int (by kernel_rfl)))) (w_one2 (t_cmp rfl gf.kc (op_ne_ok ⟨rfl, rfl, rfl, rfl, rfl⟩ hr0) (e_var (i := 3) rfl (.inl rfl)) (e_var (i := 4) rfl (.inl rfl)) rfl))))) (ss_cons (s_ret e_bl)
  ss_nil) ss_nil)
  ss_nil))
  ss_nil))
  ss_nil))
  ss_nil)))
  (ss_cons (s_ret e_bl)
  ss_nil)))
/-- _law_lowest -/
theorem b19 (gf : GF Γ cd tb) (ih : AllF Γ PG C0 d) (W : WX) (A : Around) (outer : List Env) (s : Shared) (H : Hp) (E : XK) (hr : Room (3 * d + 2) (bX Γ N19 "_law_lowest" (top 30) 19 (.ref (cd 19)) A outer s H E).A) (tk : Takes (bX Γ N19 "_law_lowest" (top 30) 19 (.ref (cd 19)) A outer s H E) W) :
    PSs (bX Γ N19 "_law_lowest" (top 30) 19 (.ref (cd 19)) A outer s H E) (defBody (top 30)) (tSs Γ W (bodyC PG C0 d) D19.body) := by
  have hr0 : Room (3 * d) (bX Γ N19 "_law_lowest" (top 30) 19 (.ref (cd 19)) A outer s H E).A := hr.mono (by omega)
  have hr1 : Room (3 * d + 1) (bX Γ N19 "_law_lowest" (top 30) 19 (.ref (cd 19)) A outer s H E).A := hr.mono (by omega)
  have po : PassesOwn (model (bX Γ N19 "_law_lowest" (top 30) 19 (.ref (cd 19)) A outer s H E).prog (bX Γ N19 "_law_lowest" (top 30) 19 (.ref (cd 19)) A outer s H E).w) (bX Γ N19 "_law_lowest" (top 30) 19 (.ref (cd 19)) A outer s H E).A (bX Γ N19 "_law_lowest" (top 30) 19 (.ref (cd 19)) A outer s H E).env (bX Γ N19 "_law_lowest" (top 30) 19 (.ref (cd 19)) A outer s H E).xe := passes_of rfl
  exact (ss_cons (s_par (j := 2) (n := 3) gf.psi rfl nd19 rfl rfl (by decide) rfl rfl (l_cons (e_callB (x := "abs") gf.kc cr_abs rfl gf.mg_abs (by kernel_rfl) (l_cons (e_var (i := 0) rfl (.inl rfl)) l_nil)) (l_cons (e_var (i := 1) rfl (.inl rfl)) l_nil)) rfl)
  (ss_cons (s_while po (t_cmp rfl gf.kc (op_gt_ok ⟨rfl, rfl, rfl, rfl, rfl⟩ hr0) (e_var (i := 3) rfl (.inl rfl)) e_int rfl) (ss_cons (s_par (j := 2) (n := 3) gf.psi rfl nd19 rfl rfl (by decide) rfl rfl (l_cons (e_var (i := 3) rfl (.inl rfl)) (l_cons (e_bin gf.kc op_mod_ok (e_var (i := 2) rfl (.inl rfl)) (e_var (i := 3) rfl (.inl rfl))) l_nil)) rfl)
  ss_nil))
  (ss_cons (s_ret (e_tup (by show _ ≤ sizeLine; decide) (l_cons (e_bin gf.kc op_fdiv_ok (e_var (i := 0) rfl (.inl rfl)) (e_var (i := 2) rfl (.inl rfl))) (l_cons (e_bin gf.kc op_fdiv_ok (e_var (i := 1) rfl (.inl rfl)) (e_var (i := 2) rfl (.inl rfl))) l_nil))))
  ss_nil)))
/-- _law_fraction -/
theorem b20 (gf : GF Γ cd tb) (ih : AllF Γ PG C0 d) (W : WX) (A : Around) (outer : List Env) (s : Shared) (H : Hp) (E : XK) (hr : Room (3 * d + 2) (bX Γ N20 "_law_fraction" (top 31) 20 (.ref (cd 20)) A outer s H E).A) (tk : Takes (bX Γ N20 "_law_fraction" (top 31) 20 (.ref (cd 20)) A outer s H E) W) :
    PSs (bX Γ N20 "_law_fraction" (top 31) 20 (.ref (cd 20)) A outer s H E) (defBody (top 31)) (tSs Γ W (bodyC PG C0 d) D20.body) := by
  have hr0 : Room (3 * d) (bX Γ N20 "_law_fraction" (top 31) 20 (.ref (cd 20)) A outer s H E).A := hr.mono (by omega)
  have hr1 : Room (3 * d + 1) (bX Γ N20 "_law_fraction" (top 31) 20 (.ref (cd 20)) A outer s H E).A := hr.mono (by omega)
  have po : PassesOwn (model (bX Γ N20 "_law_fraction" (top 31) 20 (.ref (cd 20)) A outer s H E).prog (bX Γ N20 "_law_fraction" (top 31) 20 (.ref (cd 20)) A outer s H E).w) (bX Γ N20 "_law_fraction" (top 31) 20 (.ref (cd 20)) A outer s H E).A (bX Γ N20 "_law_fraction" (top 31) 20 (.ref (cd 20)) A outer s H E).env (bX Γ N20 "_law_fraction" (top 31) 20 (.ref (cd 20)) A outer s H E).xe := passes_of rfl
  exact (ss_cons (s_par (j := 3) (n := 4) gf.psi rfl nd20 rfl rfl (by decide) rfl rfl (l_cons (e_bin gf.kc op_mod_ok (e_ix gf.kc (ix_ok ⟨rfl, rfl, rfl, rfl, rfl⟩ (hu_of hr0)) (e_var (i := 0) rfl (.inl rfl)) (e_var (i := 1) rfl (.inl rfl)) (fun _ _ => rfl)) (e_ix gf.kc (ix_ok ⟨rfl, rfl, rfl, rfl, rfl⟩ (hu_of hr0)) (e_tup (by show _ ≤ sizeLine; decide) (l_cons e_int (l_cons e_int l_nil))) (e_bin gf.kc op_mod_ok (e_ix gf.kc (ix_ok ⟨rfl, rfl, rfl, rfl, rfl⟩ (hu_of hr0)) (e_var (i := 0) rfl (.inl rfl)) (e_bin gf.kc (op_add_ok ⟨rfl, rfl, rfl, rfl, rfl⟩ false) (e_var (i := 1) rfl (.inl rfl)) e_int) (fun _ _ => rfl)) e_int) (fun _ _ => rfl))) (l_cons (e_bin gf.kc (op_add_ok ⟨rfl, rfl, rfl, rfl, rfl⟩ false) e_int (e_bin gf.kc op_mod_ok (e_bin gf.kc op_fdiv_ok (e_ix gf.kc (ix_ok ⟨rfl, rfl, rfl, rfl, rfl⟩ (hu_of hr0)) (e_var (i := 0) rfl (.inl rfl)) (e_bin gf.kc (op_add_ok ⟨rfl, rfl, rfl, rfl, rfl⟩ false) (e_var (i := 1) rfl (.inl rfl)) e_int) (fun _ _ => rfl)) e_int) (e_ix gf.kc (ix_ok ⟨rfl, rfl, rfl, rfl, rfl⟩ (hu_of hr0)) (e_tup (by show _ ≤ sizeLine; decide) (l_cons e_int (l_cons e_int (l_cons e_int l_nil)))) (e_bin gf.kc op_mod_ok (e_ix gf.kc (ix_ok ⟨rfl, rfl, rfl, rfl, rfl⟩ (hu_of hr0)) (e_var (i := 0) rfl (.inl rfl)) (e_bin gf.kc (op_add_ok ⟨rfl, rfl, rfl, rfl, rfl⟩ false) (e_var (i := 1) rfl (.inl rfl)) e_int) (fun _ _ => rfl)) e_int) (fun _ _ => rfl)))) l_nil)) rfl)
  (ss_cons (s_if (t_val ⟨rfl, rfl, rfl, rfl, rfl⟩ (e_var (i := 2) rfl (.inl rfl))) (ss_cons (s_par (j := 3) (n := 4) gf.psi rfl nd20 rfl rfl (by decide) rfl rfl (l_cons (e_bin gf.kc (op_add_ok ⟨rfl, rfl, rfl, rfl, rfl⟩ false) (e_bin gf.kc (op_add_ok ⟨rfl, rfl, rfl, rfl, rfl⟩ false) (e_bin gf.kc op_mul_ok (e_var (i := 3) rfl (.inl rfl)) (e_bin gf.kc op_pow_ok e_int e_int)) (e_bin gf.kc op_mul_ok (e_ix gf.kc (ix_ok ⟨rfl, rfl, rfl, rfl, rfl⟩ (hu_of hr0)) (e_var (i := 0) rfl (.inl rfl)) (e_bin gf.kc (op_add_ok ⟨rfl, rfl, rfl, rfl, rfl⟩ false) (e_var (i := 1) rfl (.inl rfl)) e_int) (fun _ _ => rfl)) e_int)) e_int) (l_cons (e_bin gf.kc (op_add_ok ⟨rfl, rfl, rfl, rfl, rfl⟩ false) (e_bin gf.kc op_mul_ok (e_var (i := 4) rfl (.inl rfl)) (e_bin gf.kc op_pow_ok e_int e_int)) (e_ix gf.kc (ix_ok ⟨rfl, rfl, rfl, rfl, rfl⟩ (hu_of hr0)) (e_var (i := 0) rfl (.inl rfl)) (e_bin gf.kc (op_add_ok ⟨rfl, rfl, rfl, rfl, rfl⟩ false) (e_var (i := 1) rfl (.inl rfl)) e_int) (fun _ _ => rfl))) l_nil)) rfl)
  ss_nil) ss_nil)
  (ss_cons (s_ret (e_call (x := "_law_lowest") ⟨rfl, rfl, rfl, rfl, rfl⟩ (ih 19 _ rfl) hr0 tk rfl gf.mg__law_lowest (l_cons (e_var (i := 3) rfl (.inl rfl)) (l_cons (e_var (i := 4) rfl (.inl rfl)) l_nil))))
  ss_nil)))
/-- _law_between -/
theorem b21 (gf : GF Γ cd tb) (ih : AllF Γ PG C0 d) (W : WX) (A : Around) (outer : List Env) (s : Shared) (H : Hp) (E : XK) (hr : Room (3 * d + 2) (bX Γ N21 "_law_between" (top 32) 21 (.ref (cd 21)) A outer s H E).A) (tk : Takes (bX Γ N21 "_law_between" (top 32) 21 (.ref (cd 21)) A outer s H E) W) :
    PSs (bX Γ N21 "_law_between" (top 32) 21 (.ref (cd 21)) A outer s H E) (defBody (top 32)) (tSs Γ W (bodyC PG C0 d) D21.body) := by
  have hr0 : Room (3 * d) (bX Γ N21 "_law_between" (top 32) 21 (.ref (cd 21)) A outer s H E).A := hr.mono (by omega)
  have hr1 : Room (3 * d + 1) (bX Γ N21 "_law_between" (top 32) 21 (.ref (cd 21)) A outer s H E).A := hr.mono (by omega)
  have po : PassesOwn (model (bX Γ N21 "_law_between" (top 32) 21 (.ref (cd 21)) A outer s H E).prog (bX Γ N21 "_law_between" (top 32) 21 (.ref (cd 21)) A outer s H E).w) (bX Γ N21 "_law_between" (top 32) 21 (.ref (cd 21)) A outer s H E).A (bX Γ N21 "_law_between" (top 32) 21 (.ref (cd 21)) A outer s H E).env (bX Γ N21 "_law_between" (top 32) 21 (.ref (cd 21)) A outer s H E).xe := passes_of rfl
  exact (ss_cons (s_set (j := 4) gf.psi nd21 rfl (.inl rfl) (e_bin gf.kc (op_add_ok ⟨rfl, rfl, rfl, rfl, rfl⟩ false) (e_bin gf.kc op_mul_ok (e_bin gf.kc op_mul_ok (e_ix gf.kc (ix_ok ⟨rfl, rfl, rfl, rfl, rfl⟩ (hu_of hr0)) (e_var (i := 0) rfl (.inl rfl)) e_int (fun _ _ => rfl)) (e_ix gf.kc (ix_ok ⟨rfl, rfl, rfl, rfl, rfl⟩ (hu_of hr0)) (e_var (i := 1) rfl (.inl rfl)) e_int (fun _ _ => rfl))) (e_var (i := 2) rfl (.inl rfl))) (e_bin gf.kc op_mul_ok (e_bin gf.kc op_mul_ok (e_ix gf.kc (ix_ok ⟨rfl, rfl, rfl, rfl, rfl⟩ (hu_of hr0)) (e_var (i := 1) rfl (.inl rfl)) e_int (fun _ _ => rfl)) (e_ix gf.kc (ix_ok ⟨rfl, rfl, rfl, rfl, rfl⟩ (hu_of hr0)) (e_var (i := 0) rfl (.inl rfl)) e_int (fun _ _ => rfl))) (e_bin gf.kc op_sub_ok (e_var (i := 3) rfl (.inl rfl)) (e_var (i := 2) rfl (.inl rfl))))))
  (ss_cons (s_ret (e_call (x := "_law_lowest") ⟨rfl, rfl, rfl, rfl, rfl⟩ (ih 19 _ rfl) hr0 tk rfl gf.mg__law_lowest (l_cons (e_var (i := 4) rfl (.inl rfl)) (l_cons (e_bin gf.kc op_mul_ok (e_bin gf.kc op_mul_ok (e_ix gf.kc (ix_ok ⟨rfl, rfl, rfl, rfl, rfl⟩ (hu_of hr0)) (e_var (i := 0) rfl (.inl rfl)) e_int (fun _ _ => rfl)) (e_ix gf.kc (ix_ok ⟨rfl, rfl, rfl, rfl, rfl⟩ (hu_of hr0)) (e_var (i := 1) rfl (.inl rfl)) e_int (fun _ _ => rfl))) (e_var (i := 3) rfl (.inl rfl))) l_nil))))
  ss_nil))
/-- _law_case -/
theorem b22 (gf : GF Γ cd tb) (ih : AllF Γ PG C0 d) (W : WX) (A : Around) (outer : List Env) (s : Shared) (H : Hp) (E : XK) (hr : Room (3 * d + 2) (bX Γ N22 "_law_case" (top 33) 22 (.ref (cd 22)) A outer s H E).A) (tk : Takes (bX Γ N22 "_law_case" (top 33) 22 (.ref (cd 22)) A outer s H E) W) :
    PSs (bX Γ N22 "_law_case" (top 33) 22 (.ref (cd 22)) A outer s H E) (defBody (top 33)) (tSs Γ W (bodyC PG C0 d) D22.body) := by
  have hr0 : Room (3 * d) (bX Γ N22 "_law_case" (top 33) 22 (.ref (cd 22)) A outer s H E).A := hr.mono (by omega)
  have hr1 : Room (3 * d + 1) (bX Γ N22 "_law_case" (top 33) 22 (.ref (cd 22)) A outer s H E).A := hr.mono (by omega)
  have po : PassesOwn (model (bX Γ N22 "_law_case" (top 33) 22 (.ref (cd 22)) A outer s H E).prog (bX Γ N22 "_law_case" (top 33) 22 (.ref (cd 22)) A outer s H E).w) (bX Γ N22 "_law_case" (top 33) 22 (.ref (cd 22)) A outer s H E).A (bX Γ N22 "_law_case" (top 33) 22 (.ref (cd 22)) A outer s H E).env (bX Γ N22 "_law_case" (top 33) 22 (.ref (cd 22)) A outer s H E).xe := passes_of rfl
  exact (ss_cons (s_set (j := 1) gf.psi nd22 rfl (.inl rfl) (e_cmp gf.kc (op_eq_ok ⟨rfl, rfl, rfl, rfl, rfl⟩ hr0) (e_bin gf.kc op_mod_ok (e_ix gf.kc (ix_ok ⟨rfl, rfl, rfl, rfl, rfl⟩ (hu_of hr0)) (e_var (i := 0) rfl (.inr (.inl rfl))) e_int (fun _ _ => rfl)) e_int) e_int rfl))
  (ss_cons (s_asg (e_tup (by show _ ≤ sizeLine; decide) (l_cons (e_call (x := "_law_fraction") ⟨rfl, rfl, rfl, rfl, rfl⟩ (ih 20 _ rfl) hr0 tk rfl gf.mg__law_fraction (l_cons (e_var (i := 0) rfl (.inr (.inl rfl))) (l_cons e_int (l_cons (e_var (i := 1) rfl (.inl rfl)) l_nil)))) (l_cons (e_call (x := "_law_fraction") ⟨rfl, rfl, rfl, rfl, rfl⟩ (ih 20 _ rfl) hr0 tk rfl gf.mg__law_fraction (l_cons (e_var (i := 0) rfl (.inr (.inl rfl))) (l_cons e_int (l_cons (e_var (i := 1) rfl (.inl rfl)) l_nil)))) l_nil))) (g_tup ⟨rfl, rfl, rfl, rfl, rfl⟩ rfl (gs_cons (g_name (j := 2) gf.psi nd22 rfl (.inr rfl) (.inl rfl)) (gs_cons (g_name (j := 3) gf.psi nd22 rfl (.inr rfl) (.inl rfl)) gs_nil)) rfl))
  (ss_cons (s_if (t_cmp rfl gf.kc (op_eq_ok ⟨rfl, rfl, rfl, rfl, rfl⟩ hr0) (e_var (i := 2) rfl (.inr (.inl rfl))) (e_var (i := 3) rfl (.inr (.inl rfl))) rfl) (ss_cons (s_set (j := 3) gf.psi nd22 rfl (.inr rfl) (e_call (x := "_law_lowest") ⟨rfl, rfl, rfl, rfl, rfl⟩ (ih 19 _ rfl) hr0 tk rfl gf.mg__law_lowest (l_cons (e_bin gf.kc (op_add_ok ⟨rfl, rfl, rfl, rfl, rfl⟩ false) (e_ix gf.kc (ix_ok ⟨rfl, rfl, rfl, rfl, rfl⟩ (hu_of hr0)) (e_var (i := 3) rfl (.inr (.inl rfl))) e_int (fun _ _ => rfl)) e_int) (l_cons (e_ix gf.kc (ix_ok ⟨rfl, rfl, rfl, rfl, rfl⟩ (hu_of hr0)) (e_var (i := 3) rfl (.inr (.inl rfl))) e_int (fun _ _ => rfl)) l_nil))))
  ss_nil) ss_nil)
  (ss_cons (s_set (j := 4) gf.psi nd22 rfl (.inl rfl) (e_lst (m := true) (by show _ ≤ sizeLine; decide) (l_cons (e_call (x := "_law_fraction") ⟨rfl, rfl, rfl, rfl, rfl⟩ (ih 20 _ rfl) hr0 tk rfl gf.mg__law_fraction (l_cons (e_var (i := 0) rfl (.inr (.inl rfl))) (l_cons e_int (l_cons (e_var (i := 1) rfl (.inl rfl)) l_nil)))) (l_cons (e_call (x := "_law_fraction") ⟨rfl, rfl, rfl, rfl, rfl⟩ (ih 20 _ rfl) hr0 tk rfl gf.mg__law_fraction (l_cons (e_var (i := 0) rfl (.inr (.inl rfl))) (l_cons e_int (l_cons e_bl l_nil)))) l_nil))))
  (ss_cons (s_if (t_cmp rfl gf.kc (op_gt_ok ⟨rfl, rfl, rfl, rfl, rfl⟩ hr0) (e_bin gf.kc op_mod_ok (e_ix gf.kc (ix_ok ⟨rfl, rfl, rfl, rfl, rfl⟩ (hu_of hr0)) (e_var (i := 0) rfl (.inr (.inl rfl))) e_int (fun _ _ => rfl)) e_int) e_int rfl) (ss_cons (s_setLc (m := true) (own := [("k", 5)]) (i := 4) gf.psi rfl nd22 rfl rfl (sw_true rfl rfl rfl (by decide +kernel)) rfl (i_range1 rfl rfl gf.mg_range (l_cons e_int l_nil)) (_root_.E.blkOk_by (by kernel_rfl)) (fun s h bb cl fp => (v_name (j := 5) (by decide) gf.psi nd22 rfl (.inl rfl) (.inr rfl))) (fun s h bb cl fp => ts_nil) (fun s h bb cl fp => (e_call (x := "_law_between") ⟨rfl, rfl, rfl, rfl, rfl⟩ (ih 21 _ rfl) hr0 LamX.takes0 rfl gf.mg__law_between (l_cons (e_var (i := 2) rfl (.inr (.inl rfl))) (l_cons (e_var (i := 3) rfl (.inr (.inl rfl))) (l_cons (e_bin gf.kc op_mod_ok (e_ix gf.kc (ix_ok ⟨rfl, rfl, rfl, rfl, rfl⟩ (hu_of hr0)) (e_var (i := 0) rfl (.inr (.inl rfl))) (e_bin gf.kc (op_add_ok ⟨rfl, rfl, rfl, rfl, rfl⟩ false) e_int (e_var (i := 5) rfl (.inl rfl))) (fun _ _ => rfl)) e_int) (l_cons (e_bin gf.kc (op_add_ok ⟨rfl, rfl, rfl, rfl, rfl⟩ false) e_int (e_bin gf.kc op_mod_ok (e_ix gf.kc (ix_ok ⟨rfl, rfl, rfl, rfl, rfl⟩ (hu_of hr0)) (e_var (i := 0) rfl (.inr (.inl rfl))) e_int (fun _ _ => rfl)) e_int)) l_nil)))))))
  (ss_cons (s_setLc (m := true) (own := [("end", 6)]) (i := 4) gf.psi rfl nd22 rfl rfl (sw_true rfl rfl rfl (by decide +kernel)) rfl (i_seq ⟨rfl, rfl, rfl, rfl, rfl⟩ (e_var (i := 4) rfl (.inl rfl))) (_root_.E.blkOk_by (by kernel_rfl)) (fun s h bb cl fp => (v_name (j := 6) (by decide) gf.psi nd22 rfl (.inl rfl) (.inr rfl))) (fun s h bb cl fp => ts_nil) (fun s h bb cl fp => (e_ife (t_cmp rfl gf.kc (op_ge_ok ⟨rfl, rfl, rfl, rfl, rfl⟩ hr0) (e_ix gf.kc (ix_ok ⟨rfl, rfl, rfl, rfl, rfl⟩ (hu_of hr0)) (e_var (i := 6) rfl (.inl rfl)) e_int (fun _ _ => rfl)) e_int rfl) (e_var (i := 6) rfl (.inl rfl)) (e_tup (by show _ ≤ sizeLine; decide) (l_cons e_int (l_cons e_int l_nil))))))
  ss_nil)) ss_nil)
  (ss_cons (s_if (t_cmp rfl gf.kc (op_eq_ok ⟨rfl, rfl, rfl, rfl, rfl⟩ hr0) (e_bin gf.kc op_mod_ok (e_ix gf.kc (ix_ok ⟨rfl, rfl, rfl, rfl, rfl⟩ (hu_of hr0)) (e_var (i := 0) rfl (.inr (.inl rfl))) e_int (fun _ _ => rfl)) e_int) e_int rfl) (ss_cons (s_asg (e_ix gf.kc (ix_ok ⟨rfl, rfl, rfl, rfl, rfl⟩ (hu_of hr0)) (e_var (i := 4) rfl (.inl rfl)) e_int (fun _ _ => rfl)) (g_sub ⟨rfl, rfl, rfl, rfl, rfl⟩ gf.kc hr0 (e_var (i := 4) rfl (.inl rfl)) e_int))
  ss_nil) ss_nil)
  (ss_cons (s_if (PW.pt (w_and (t_cmp rfl gf.kc (op_gt_ok ⟨rfl, rfl, rfl, rfl, rfl⟩ hr0) (e_bin gf.kc op_mod_ok (e_ix gf.kc (ix_ok ⟨rfl, rfl, rfl, rfl, rfl⟩ (hu_of hr0)) (e_var (i := 0) rfl (.inr (.inl rfl))) e_int (fun _ _ => rfl)) e_int) e_int rfl) (w_one1 (t_cmp rfl gf.kc (op_gt_ok ⟨rfl, rfl, rfl, rfl, rfl⟩ hr0) (e_bin gf.kc op_mul_ok (e_ix gf.kc (ix_ok ⟨rfl, rfl, rfl, rfl, rfl⟩ (hu_of hr0)) (e_ix gf.kc (ix_ok ⟨rfl, rfl, rfl, rfl, rfl⟩ (hu_of hr0)) (e_var (i := 4) rfl (.inl rfl)) e_int (fun _ _ => rfl)) e_int (fun _ _ => rfl)) (e_ix gf.kc (ix_ok ⟨rfl, rfl, rfl, rfl, rfl⟩ (hu_of hr0)) (e_ix gf.kc (ix_ok ⟨rfl, rfl, rfl, rfl, rfl⟩ (hu_of hr0)) (e_var (i := 4) rfl (.inl rfl)) e_int (fun _ _ => rfl)) e_int (fun _ _ => rfl))) (e_bin gf.kc op_mul_ok (e_ix gf.kc (ix_ok ⟨rfl, rfl, rfl, rfl, rfl⟩ (hu_of hr0)) (e_ix gf.kc (ix_ok ⟨rfl, rfl, rfl, rfl, rfl⟩ (hu_of hr0)) (e_var (i := 4) rfl (.inl rfl)) e_int (fun _ _ => rfl)) e_int (fun _ _ => rfl)) (e_ix gf.kc (ix_ok ⟨rfl, rfl, rfl, rfl, rfl⟩ (hu_of hr0)) (e_ix gf.kc (ix_ok ⟨rfl, rfl, rfl, rfl, rfl⟩ (hu_of hr0)) (e_var (i := 4) rfl (.inl rfl)) e_int (fun _ _ => rfl)) e_int (fun _ _ => rfl))) rfl)))) (ss_cons (s_set (j := 4) gf.psi nd22 rfl (.inl rfl) (e_rev (m := true) ⟨rfl, rfl, rfl, rfl, rfl⟩ (e_var (i := 4) rfl (.inl rfl))))
  ss_nil) ss_nil)
  (ss_cons (s_ret (e_tup (by show _ ≤ sizeLine; decide) (l_cons (e_var (i := 2) rfl (.inr (.inl rfl))) (l_cons (e_var (i := 3) rfl (.inr (.inl rfl))) (l_cons (e_ix gf.kc (ix_ok ⟨rfl, rfl, rfl, rfl, rfl⟩ (hu_of hr0)) (e_var (i := 4) rfl (.inl rfl)) e_int (fun _ _ => rfl)) (l_cons (e_ix gf.kc (ix_ok ⟨rfl, rfl, rfl, rfl, rfl⟩ (hu_of hr0)) (e_var (i := 4) rfl (.inl rfl)) e_int (fun _ _ => rfl)) l_nil))))))
  ss_nil))))))))
/-- _law_due -/
theorem b23 (gf : GF Γ cd tb) (ih : AllF Γ PG C0 d) (W : WX) (A : Around) (outer : List Env) (s : Shared) (H : Hp) (E : XK) (hr : Room (3 * d + 2) (bX Γ N23 "_law_due" (top 34) 23 (.ref (cd 23)) A outer s H E).A) (tk : Takes (bX Γ N23 "_law_due" (top 34) 23 (.ref (cd 23)) A outer s H E) W) :
    PSs (bX Γ N23 "_law_due" (top 34) 23 (.ref (cd 23)) A outer s H E) (defBody (top 34)) (tSs Γ W (bodyC PG C0 d) D23.body) := by
  have hr0 : Room (3 * d) (bX Γ N23 "_law_due" (top 34) 23 (.ref (cd 23)) A outer s H E).A := hr.mono (by omega)
  have hr1 : Room (3 * d + 1) (bX Γ N23 "_law_due" (top 34) 23 (.ref (cd 23)) A outer s H E).A := hr.mono (by omega)
  have po : PassesOwn (model (bX Γ N23 "_law_due" (top 34) 23 (.ref (cd 23)) A outer s H E).prog (bX Γ N23 "_law_due" (top 34) 23 (.ref (cd 23)) A outer s H E).w) (bX Γ N23 "_law_due" (top 34) 23 (.ref (cd 23)) A outer s H E).A (bX Γ N23 "_law_due" (top 34) 23 (.ref (cd 23)) A outer s H E).env (bX Γ N23 "_law_due" (top 34) 23 (.ref (cd 23)) A outer s H E).xe := passes_of rfl
  exact (ss_cons (s_if (t_cmp rfl gf.kc (op_gt_ok ⟨rfl, rfl, rfl, rfl, rfl⟩ hr0) (e_bin gf.kc op_mul_ok (e_ix gf.kc (ix_ok ⟨rfl, rfl, rfl, rfl, rfl⟩ (hu_of hr0)) (e_var (i := 2) rfl (.inl rfl)) e_int (fun _ _ => rfl)) (e_ix gf.kc (ix_ok ⟨rfl, rfl, rfl, rfl, rfl⟩ (hu_of hr0)) (e_var (i := 3) rfl (.inl rfl)) e_int (fun _ _ => rfl))) (e_bin gf.kc op_mul_ok (e_ix gf.kc (ix_ok ⟨rfl, rfl, rfl, rfl, rfl⟩ (hu_of hr0)) (e_var (i := 3) rfl (.inl rfl)) e_int (fun _ _ => rfl)) (e_ix gf.kc (ix_ok ⟨rfl, rfl, rfl, rfl, rfl⟩ (hu_of hr0)) (e_var (i := 2) rfl (.inl rfl)) e_int (fun _ _ => rfl))) rfl) (ss_cons (s_ret e_non)
  ss_nil) ss_nil)
  (ss_cons (s_set (j := 4) gf.psi nd23 rfl (.inl rfl) (e_lst (m := true) (by show _ ≤ sizeLine; decide) l_nil))
  (ss_cons (s_for po rfl (i_seq ⟨rfl, rfl, rfl, rfl, rfl⟩ (e_tup (by show _ ≤ sizeLine; decide) (l_cons (e_var (i := 2) rfl (.inl rfl)) (l_cons (e_var (i := 3) rfl (.inl rfl)) l_nil)))) (g_name (j := 5) gf.psi nd23 rfl (.inl rfl) (.inr rfl)) (ss_cons (s_set (j := 6) gf.psi nd23 rfl (.inl rfl) (e_bin gf.kc op_mul_ok (e_bin gf.kc op_sub_ok (e_bin gf.kc op_mul_ok (e_ix gf.kc (ix_ok ⟨rfl, rfl, rfl, rfl, rfl⟩ (hu_of hr0)) (e_var (i := 5) rfl (.inl rfl)) e_int (fun _ _ => rfl)) (e_ix gf.kc (ix_ok ⟨rfl, rfl, rfl, rfl, rfl⟩ (hu_of hr0)) (e_var (i := 1) rfl (.inl rfl)) e_int (fun _ _ => rfl))) (e_bin gf.kc op_mul_ok (e_ix gf.kc (ix_ok ⟨rfl, rfl, rfl, rfl, rfl⟩ (hu_of hr0)) (e_var (i := 1) rfl (.inl rfl)) e_int (fun _ _ => rfl)) (e_ix gf.kc (ix_ok ⟨rfl, rfl, rfl, rfl, rfl⟩ (hu_of hr0)) (e_var (i := 5) rfl (.inl rfl)) e_int (fun _ _ => rfl)))) (e_ix gf.kc (ix_ok ⟨rfl, rfl, rfl, rfl, rfl⟩ (hu_of hr0)) (e_var (i := 0) rfl (.inl rfl)) e_int (fun _ _ => rfl))))
  (ss_cons (s_set (j := 7) gf.psi nd23 rfl (.inl rfl) (e_bin gf.kc op_mul_ok (e_bin gf.kc op_sub_ok (e_bin gf.kc op_mul_ok (e_ix gf.kc (ix_ok ⟨rfl, rfl, rfl, rfl, rfl⟩ (hu_of hr0)) (e_var (i := 0) rfl (.inl rfl)) e_int (fun _ _ => rfl)) (e_ix gf.kc (ix_ok ⟨rfl, rfl, rfl, rfl, rfl⟩ (hu_of hr0)) (e_var (i := 1) rfl (.inl rfl)) e_int (fun _ _ => rfl))) (e_bin gf.kc op_mul_ok (e_ix gf.kc (ix_ok ⟨rfl, rfl, rfl, rfl, rfl⟩ (hu_of hr0)) (e_var (i := 1) rfl (.inl rfl)) e_int (fun _ _ => rfl)) (e_ix gf.kc (ix_ok ⟨rfl, rfl, rfl, rfl, rfl⟩ (hu_of hr0)) (e_var (i := 0) rfl (.inl rfl)) e_int (fun _ _ => rfl)))) (e_ix gf.kc (ix_ok ⟨rfl, rfl, rfl, rfl, rfl⟩ (hu_of hr0)) (e_var (i := 5) rfl (.inl rfl)) e_int (fun _ _ => rfl))))
  (ss_cons (s_if (t_cmp rfl gf.kc (op_lt_ok ⟨rfl, rfl, rfl, rfl, rfl⟩ hr0) (e_var (i := 7) rfl (.inl rfl)) e_int rfl) (ss_cons (s_par (j := 6) (n := 7) gf.psi rfl nd23 rfl rfl (by decide) rfl rfl (l_cons (e_bin gf.kc op_sub_ok e_int (e_var (i := 6) rfl (.inl rfl))) (l_cons (e_bin gf.kc op_sub_ok e_int (e_var (i := 7) rfl (.inl rfl))) l_nil)) rfl)
  ss_nil) ss_nil)
  (ss_cons (s_exp (e_bm (k := .lst) (p := .append) ⟨rfl, rfl, rfl, rfl, rfl⟩ gf.kc PySem.F.plainAttrs_list PySem.F.slot_list_append PySem.F.type_list_append mt_append' (e_var (i := 4) rfl (.inl rfl)) (l_cons (e_tup (by show _ ≤ sizeLine; decide) (l_cons (e_var (i := 6) rfl (.inl rfl)) (l_cons (e_var (i := 7) rfl (.inl rfl)) l_nil))) l_nil)))
  ss_nil)))))
  (ss_cons (s_if (t_cmp rfl gf.kc (op_lt_ok ⟨rfl, rfl, rfl, rfl, rfl⟩ hr0) (e_bin gf.kc op_mul_ok (e_ix gf.kc (ix_ok ⟨rfl, rfl, rfl, rfl, rfl⟩ (hu_of hr0)) (e_var (i := 0) rfl (.inl rfl)) e_int (fun _ _ => rfl)) (e_ix gf.kc (ix_ok ⟨rfl, rfl, rfl, rfl, rfl⟩ (hu_of hr0)) (e_var (i := 1) rfl (.inl rfl)) e_int (fun _ _ => rfl))) (e_bin gf.kc op_mul_ok (e_ix gf.kc (ix_ok ⟨rfl, rfl, rfl, rfl, rfl⟩ (hu_of hr0)) (e_var (i := 1) rfl (.inl rfl)) e_int (fun _ _ => rfl)) (e_ix gf.kc (ix_ok ⟨rfl, rfl, rfl, rfl, rfl⟩ (hu_of hr0)) (e_var (i := 0) rfl (.inl rfl)) e_int (fun _ _ => rfl))) rfl) (ss_cons (s_set (j := 4) gf.psi nd23 rfl (.inl rfl) (e_rev (m := true) ⟨rfl, rfl, rfl, rfl, rfl⟩ (e_var (i := 4) rfl (.inl rfl))))
  ss_nil) ss_nil)
  (ss_cons (s_asg (e_var (i := 4) rfl (.inl rfl)) (g_tup ⟨rfl, rfl, rfl, rfl, rfl⟩ rfl (gs_cons (g_name (j := 8) gf.psi nd23 rfl (.inl rfl) (.inr rfl)) (gs_cons (g_name (j := 9) gf.psi nd23 rfl (.inl rfl) (.inr rfl)) gs_nil)) rfl))
  (ss_cons (s_if (PW.pt (w_or (t_cmp rfl gf.kc (op_gt_ok ⟨rfl, rfl, rfl, rfl, rfl⟩ hr0) (e_ix gf.kc (ix_ok ⟨rfl, rfl, rfl, rfl, rfl⟩ (hu_of hr0)) (e_var (i := 8) rfl (.inl rfl)) e_int (fun _ _ => rfl)) (e_ix gf.kc (ix_ok ⟨rfl, rfl, rfl, rfl, rfl⟩ (hu_of hr0)) (e_var (i := 8) rfl (.inl rfl)) e_int (fun _ _ => rfl)) rfl) (w_one2 (t_cmp rfl gf.kc (op_lt_ok ⟨rfl, rfl, rfl, rfl, rfl⟩ hr0) (e_ix gf.kc (ix_ok ⟨rfl, rfl, rfl, rfl, rfl⟩ (hu_of hr0)) (e_var (i := 9) rfl (.inl rfl)) e_int (fun _ _ => rfl)) e_int rfl)))) (ss_cons (s_ret e_non)
  ss_nil) ss_nil)
  (ss_cons (s_if (t_cmp rfl gf.kc (op_lt_ok ⟨rfl, rfl, rfl, rfl, rfl⟩ hr0) (e_ix gf.kc (ix_ok ⟨rfl, rfl, rfl, rfl, rfl⟩ (hu_of hr0)) (e_var (i := 8) rfl (.inl rfl)) e_int (fun _ _ => rfl)) e_int rfl) (ss_cons (s_set (j := 8) gf.psi nd23 rfl (.inl rfl) (e_tup (by show _ ≤ sizeLine; decide) (l_cons e_int (l_cons e_int l_nil))))
  ss_nil) ss_nil)
  (ss_cons (s_if (t_cmp rfl gf.kc (op_gt_ok ⟨rfl, rfl, rfl, rfl, rfl⟩ hr0) (e_ix gf.kc (ix_ok ⟨rfl, rfl, rfl, rfl, rfl⟩ (hu_of hr0)) (e_var (i := 9) rfl (.inl rfl)) e_int (fun _ _ => rfl)) (e_ix gf.kc (ix_ok ⟨rfl, rfl, rfl, rfl, rfl⟩ (hu_of hr0)) (e_var (i := 9) rfl (.inl rfl)) e_int (fun _ _ => rfl)) rfl) (ss_cons (s_set (j := 9) gf.psi nd23 rfl (.inl rfl) (e_tup (by show _ ≤ sizeLine; decide) (l_cons e_int (l_cons e_int l_nil))))
  ss_nil) ss_nil)
  (ss_cons (s_ret (e_tup (by show _ ≤ sizeLine; decide) (l_cons (e_call (x := "_law_lowest") ⟨rfl, rfl, rfl, rfl, rfl⟩ (ih 19 _ rfl) hr0 tk rfl gf.mg__law_lowest (l_cons (e_ix gf.kc (ix_ok ⟨rfl, rfl, rfl, rfl, rfl⟩ (hu_of hr0)) (e_var (i := 8) rfl (.inl rfl)) e_int (fun _ _ => rfl)) (l_cons (e_ix gf.kc (ix_ok ⟨rfl, rfl, rfl, rfl, rfl⟩ (hu_of hr0)) (e_var (i := 8) rfl (.inl rfl)) e_int (fun _ _ => rfl)) l_nil))) (l_cons (e_call (x := "_law_lowest") ⟨rfl, rfl, rfl, rfl, rfl⟩ (ih 19 _ rfl) hr0 tk rfl gf.mg__law_lowest (l_cons (e_ix gf.kc (ix_ok ⟨rfl, rfl, rfl, rfl, rfl⟩ (hu_of hr0)) (e_var (i := 9) rfl (.inl rfl)) e_int (fun _ _ => rfl)) (l_cons (e_ix gf.kc (ix_ok ⟨rfl, rfl, rfl, rfl, rfl⟩ (hu_of hr0)) (e_var (i := 9) rfl (.inl rfl)) e_int (fun _ _ => rfl)) l_nil))) l_nil))))
  ss_nil)))))))))
/-- _law_twelfths -/
theorem b24 (gf : GF Γ cd tb) (ih : AllF Γ PG C0 d) (W : WX) (A : Around) (outer : List Env) (s : Shared) (H : Hp) (E : XK) (hr : Room (3 * d + 2) (bX Γ N24 "_law_twelfths" (top 35) 24 (.ref (cd 24)) A outer s H E).A) (tk : Takes (bX Γ N24 "_law_twelfths" (top 35) 24 (.ref (cd 24)) A outer s H E) W) :
    PSs (bX Γ N24 "_law_twelfths" (top 35) 24 (.ref (cd 24)) A outer s H E) (defBody (top 35)) (tSs Γ W (bodyC PG C0 d) D24.body) := by
  have hr0 : Room (3 * d) (bX Γ N24 "_law_twelfths" (top 35) 24 (.ref (cd 24)) A outer s H E).A := hr.mono (by omega)
  have hr1 : Room (3 * d + 1) (bX Γ N24 "_law_twelfths" (top 35) 24 (.ref (cd 24)) A outer s H E).A := hr.mono (by omega)
  have po : PassesOwn (model (bX Γ N24 "_law_twelfths" (top 35) 24 (.ref (cd 24)) A outer s H E).prog (bX Γ N24 "_law_twelfths" (top 35) 24 (.ref (cd 24)) A outer s H E).w) (bX Γ N24 "_law_twelfths" (top 35) 24 (.ref (cd 24)) A outer s H E).A (bX Γ N24 "_law_twelfths" (top 35) 24 (.ref (cd 24)) A outer s H E).env (bX Γ N24 "_law_twelfths" (top 35) 24 (.ref (cd 24)) A outer s H E).xe := passes_of rfl
  exact (ss_cons (s_for po rfl (i_range1 rfl rfl gf.mg_range (l_cons e_int l_nil)) (g_name (j := 5) gf.psi nd24 rfl (.inl rfl) (.inr rfl)) (ss_cons (s_set (j := 6) gf.psi nd24 rfl (.inl rfl) (e_call (x := "_law_between") ⟨rfl, rfl, rfl, rfl, rfl⟩ (ih 21 _ rfl) hr0 tk rfl gf.mg__law_between (l_cons (e_var (i := 0) rfl (.inl rfl)) (l_cons (e_var (i := 1) rfl (.inl rfl)) (l_cons (e_var (i := 5) rfl (.inl rfl)) (l_cons e_int l_nil))))))
  (ss_cons (s_set (j := 7) gf.psi nd24 rfl (.inl rfl) (e_and ⟨rfl, rfl, rfl, rfl, rfl⟩ (e_cmp gf.kc (op_le_ok ⟨rfl, rfl, rfl, rfl, rfl⟩ hr0) (e_bin gf.kc op_mul_ok (e_ix gf.kc (ix_ok ⟨rfl, rfl, rfl, rfl, rfl⟩ (hu_of hr0)) (e_var (i := 2) rfl (.inl rfl)) e_int (fun _ _ => rfl)) (e_ix gf.kc (ix_ok ⟨rfl, rfl, rfl, rfl, rfl⟩ (hu_of hr0)) (e_var (i := 6) rfl (.inl rfl)) e_int (fun _ _ => rfl))) (e_bin gf.kc op_mul_ok (e_ix gf.kc (ix_ok ⟨rfl, rfl, rfl, rfl, rfl⟩ (hu_of hr0)) (e_var (i := 6) rfl (.inl rfl)) e_int (fun _ _ => rfl)) (e_ix gf.kc (ix_ok ⟨rfl, rfl, rfl, rfl, rfl⟩ (hu_of hr0)) (e_var (i := 2) rfl (.inl rfl)) e_int (fun _ _ => rfl))) rfl) (e_one (e_cmp gf.kc (op_le_ok ⟨rfl, rfl, rfl, rfl, rfl⟩ hr0) (e_bin gf.kc op_mul_ok (e_ix gf.kc (ix_ok ⟨rfl, rfl, rfl, rfl, rfl⟩ (hu_of hr0)) (e_var (i := 6) rfl (.inl rfl)) e_int (fun _ _ => rfl)) (e_ix gf.kc (ix_ok ⟨rfl, rfl, rfl, rfl, rfl⟩ (hu_of hr0)) (e_var (i := 3) rfl (.inl rfl)) e_int (fun _ _ => rfl))) (e_bin gf.kc op_mul_ok (e_ix gf.kc (ix_ok ⟨rfl, rfl, rfl, rfl, rfl⟩ (hu_of hr0)) (e_var (i := 3) rfl (.inl rfl)) e_int (fun _ _ => rfl)) (e_ix gf.kc (ix_ok ⟨rfl, rfl, rfl, rfl, rfl⟩ (hu_of hr0)) (e_var (i := 6) rfl (.inl rfl)) e_int (fun _ _ => rfl))) rfl))))
  (ss_cons (s_set (j := 8) gf.psi nd24 rfl (.inl rfl) (e_and ⟨rfl, rfl, rfl, rfl, rfl⟩ (e_notN (e_var (i := 4) rfl (.inl rfl))) (e_and ⟨rfl, rfl, rfl, rfl, rfl⟩ (e_cmp gf.kc (op_le_ok ⟨rfl, rfl, rfl, rfl, rfl⟩ hr0) (e_bin gf.kc op_mul_ok (e_ix gf.kc (ix_ok ⟨rfl, rfl, rfl, rfl, rfl⟩ (hu_of hr0)) (e_ix gf.kc (ix_ok ⟨rfl, rfl, rfl, rfl, rfl⟩ (hu_of hr0)) (e_var (i := 4) rfl (.inl rfl)) e_int (fun _ _ => rfl)) e_int (fun _ _ => rfl)) e_int) (e_bin gf.kc op_mul_ok (e_var (i := 5) rfl (.inl rfl)) (e_ix gf.kc (ix_ok ⟨rfl, rfl, rfl, rfl, rfl⟩ (hu_of hr0)) (e_ix gf.kc (ix_ok ⟨rfl, rfl, rfl, rfl, rfl⟩ (hu_of hr0)) (e_var (i := 4) rfl (.inl rfl)) e_int (fun _ _ => rfl)) e_int (fun _ _ => rfl))) rfl) (e_one (e_cmp gf.kc (op_le_ok ⟨rfl, rfl, rfl, rfl, rfl⟩ hr0) (e_bin gf.kc op_mul_ok (e_var (i := 5) rfl (.inl rfl)) (e_ix gf.kc (ix_ok ⟨rfl, rfl, rfl, rfl, rfl⟩ (hu_of hr0)) (e_ix gf.kc (ix_ok ⟨rfl, rfl, rfl, rfl, rfl⟩ (hu_of hr0)) (e_var (i := 4) rfl (.inl rfl)) e_int (fun _ _ => rfl)) e_int (fun _ _ => rfl))) (e_bin gf.kc op_mul_ok (e_ix gf.kc (ix_ok ⟨rfl, rfl, rfl, rfl, rfl⟩ (hu_of hr0)) (e_ix gf.kc (ix_ok ⟨rfl, rfl, rfl, rfl, rfl⟩ (hu_of hr0)) (e_var (i := 4) rfl (.inl rfl)) e_int (fun _ _ => rfl)) e_int (fun _ _ => rfl)) e_int) rfl)))))
  (ss_cons (s_if (t_cmp rfl gf.kc (op_ne_ok ⟨rfl, rfl, rfl, rfl, rfl⟩ hr0) (e_var (i := 7) rfl (.inl rfl)) (e_var (i := 8) rfl (.inl rfl)) rfl) (ss_cons (s_ret e_bl)
  ss_nil) ss_nil)
  ss_nil)))))
  (ss_cons (s_ret e_bl)
  ss_nil))
/-- _law_left -/
theorem b25 (gf : GF Γ cd tb) (ih : AllF Γ PG C0 d) (W : WX) (A : Around) (outer : List Env) (s : Shared) (H : Hp) (E : XK) (hr : Room (3 * d + 2) (bX Γ N25 "_law_left" (top 36) 25 (.ref (cd 25)) A outer s H E).A) (tk : Takes (bX Γ N25 "_law_left" (top 36) 25 (.ref (cd 25)) A outer s H E) W) :
    PSs (bX Γ N25 "_law_left" (top 36) 25 (.ref (cd 25)) A outer s H E) (defBody (top 36)) (tSs Γ W (bodyC PG C0 d) D25.body) := by
  have hr0 : Room (3 * d) (bX Γ N25 "_law_left" (top 36) 25 (.ref (cd 25)) A outer s H E).A := hr.mono (by omega)
  have hr1 : Room (3 * d + 1) (bX Γ N25 "_law_left" (top 36) 25 (.ref (cd 25)) A outer s H E).A := hr.mono (by omega)
  have po : PassesOwn (model (bX Γ N25 "_law_left" (top 36) 25 (.ref (cd 25)) A outer s H E).prog (bX Γ N25 "_law_left" (top 36) 25 (.ref (cd 25)) A outer s H E).w) (bX Γ N25 "_law_left" (top 36) 25 (.ref (cd 25)) A outer s H E).A (bX Γ N25 "_law_left" (top 36) 25 (.ref (cd 25)) A outer s H E).env (bX Γ N25 "_law_left" (top 36) 25 (.ref (cd 25)) A outer s H E).xe := passes_of rfl
  exact (ss_cons (s_if (t_isN (e_var (i := 0) rfl (.inl rfl))) (ss_cons (s_ret e_non)
  ss_nil) ss_nil)
  (ss_cons (s_ret (e_tup (by show _ ≤ sizeLine; decide) (l_cons (e_tup (by show _ ≤ sizeLine; decide) (l_cons (e_bin gf.kc op_sub_ok (e_ix gf.kc (ix_ok ⟨rfl, rfl, rfl, rfl, rfl⟩ (hu_of hr0)) (e_ix gf.kc (ix_ok ⟨rfl, rfl, rfl, rfl, rfl⟩ (hu_of hr0)) (e_var (i := 0) rfl (.inl rfl)) e_int (fun _ _ => rfl)) e_int (fun _ _ => rfl)) (e_ix gf.kc (ix_ok ⟨rfl, rfl, rfl, rfl, rfl⟩ (hu_of hr0)) (e_ix gf.kc (ix_ok ⟨rfl, rfl, rfl, rfl, rfl⟩ (hu_of hr0)) (e_var (i := 0) rfl (.inl rfl)) e_int (fun _ _ => rfl)) e_int (fun _ _ => rfl))) (l_cons (e_ix gf.kc (ix_ok ⟨rfl, rfl, rfl, rfl, rfl⟩ (hu_of hr0)) (e_ix gf.kc (ix_ok ⟨rfl, rfl, rfl, rfl, rfl⟩ (hu_of hr0)) (e_var (i := 0) rfl (.inl rfl)) e_int (fun _ _ => rfl)) e_int (fun _ _ => rfl)) l_nil))) (l_cons (e_tup (by show _ ≤ sizeLine; decide) (l_cons (e_bin gf.kc op_sub_ok (e_ix gf.kc (ix_ok ⟨rfl, rfl, rfl, rfl, rfl⟩ (hu_of hr0)) (e_ix gf.kc (ix_ok ⟨rfl, rfl, rfl, rfl, rfl⟩ (hu_of hr0)) (e_var (i := 0) rfl (.inl rfl)) e_int (fun _ _ => rfl)) e_int (fun _ _ => rfl)) (e_ix gf.kc (ix_ok ⟨rfl, rfl, rfl, rfl, rfl⟩ (hu_of hr0)) (e_ix gf.kc (ix_ok ⟨rfl, rfl, rfl, rfl, rfl⟩ (hu_of hr0)) (e_var (i := 0) rfl (.inl rfl)) e_int (fun _ _ => rfl)) e_int (fun _ _ => rfl))) (l_cons (e_ix gf.kc (ix_ok ⟨rfl, rfl, rfl, rfl, rfl⟩ (hu_of hr0)) (e_ix gf.kc (ix_ok ⟨rfl, rfl, rfl, rfl, rfl⟩ (hu_of hr0)) (e_var (i := 0) rfl (.inl rfl)) e_int (fun _ _ => rfl)) e_int (fun _ _ => rfl)) l_nil))) l_nil))))
  ss_nil))
/-- _law_refused -/
theorem b26 (gf : GF Γ cd tb) (ih : AllF Γ PG C0 d) (W : WX) (A : Around) (outer : List Env) (s : Shared) (H : Hp) (E : XK) (hr : Room (3 * d + 2) (bX Γ N26 "_law_refused" (top 37) 26 (.ref (cd 26)) A outer s H E).A) (tk : Takes (bX Γ N26 "_law_refused" (top 37) 26 (.ref (cd 26)) A outer s H E) W) :
    PSs (bX Γ N26 "_law_refused" (top 37) 26 (.ref (cd 26)) A outer s H E) (defBody (top 37)) (tSs Γ W (bodyC PG C0 d) D26.body) := by
  have hr0 : Room (3 * d) (bX Γ N26 "_law_refused" (top 37) 26 (.ref (cd 26)) A outer s H E).A := hr.mono (by omega)
  have hr1 : Room (3 * d + 1) (bX Γ N26 "_law_refused" (top 37) 26 (.ref (cd 26)) A outer s H E).A := hr.mono (by omega)
  have po : PassesOwn (model (bX Γ N26 "_law_refused" (top 37) 26 (.ref (cd 26)) A outer s H E).prog (bX Γ N26 "_law_refused" (top 37) 26 (.ref (cd 26)) A outer s H E).w) (bX Γ N26 "_law_refused" (top 37) 26 (.ref (cd 26)) A outer s H E).A (bX Γ N26 "_law_refused" (top 37) 26 (.ref (cd 26)) A outer s H E).env (bX Γ N26 "_law_refused" (top 37) 26 (.ref (cd 26)) A outer s H E).xe := passes_of rfl
  exact (ss_cons (s_try_as (j := 1) ⟨rfl, rfl, rfl, rfl, rfl⟩ gf.good gf.psi gf.cv_1 rfl rfl nd26 rfl rfl (gf.names_1 ⟨rfl, rfl, rfl, rfl, rfl⟩ rfl) tk (fun W2 pn xe tk2 po2 => (ss_cons (s_exp (e_call (x := "share_bounds") ⟨rfl, rfl, rfl, rfl, rfl⟩ (ih 16 _ rfl) hr0 tk2 rfl gf.mg_share_bounds (l_cons (e_ix gf.kc (ix_ok ⟨rfl, rfl, rfl, rfl, rfl⟩ (hu_of hr0)) (e_var (i := 0) rfl (.inl rfl)) e_int (fun _ _ => rfl)) (l_cons (e_ix gf.kc (ix_ok ⟨rfl, rfl, rfl, rfl, rfl⟩ (hu_of hr0)) (e_var (i := 0) rfl (.inl rfl)) e_int (fun _ _ => rfl)) (l_cons (e_ix gf.kc (ix_ok ⟨rfl, rfl, rfl, rfl, rfl⟩ (hu_of hr0)) (e_var (i := 0) rfl (.inl rfl)) e_int (fun _ _ => rfl)) (l_cons (e_ix gf.kc (ix_ok ⟨rfl, rfl, rfl, rfl, rfl⟩ (hu_of hr0)) (e_var (i := 0) rfl (.inl rfl)) e_int (fun _ _ => rfl)) l_nil))))))
  ss_nil)) (fun ea eo k pn hz hd hk hs => (ss_cons (s_ret (e_and ⟨rfl, rfl, rfl, rfl, rfl⟩ (e_exi (x := "isinstance") (n := "e") (m := "StoneError") (j := 1) (c := 0) (cV := .ref (Γ.cls 0)) (cv := .ref (Γ.cls 0)) ⟨rfl, rfl, rfl, rfl, rfl⟩ gf.good rfl hk hz hd gf.cv_0 (fun u h => h) rfl gf.mg_isinstance (by kernel_rfl) rfl (.inl rfl) (L2.pe_glob (x := "StoneError") (v := .ref (Γ.cls 0)) (u := .ref (Γ.cls 0)) rfl gf.mgc_StoneError rfl)) (e_one (e_exi (x := "isinstance") (n := "e") (m := "ValueError") (j := 1) (c := 2) (cV := .ty "ValueError") (cv := .type "ValueError") ⟨rfl, rfl, rfl, rfl, rfl⟩ gf.good rfl hk hz hd gf.cv_2 (fun u h => h) rfl gf.mg_isinstance (by kernel_rfl) rfl (.inl rfl) (L2.pe_bltn (x := "ValueError") (v := .ty "ValueError") (u := .type "ValueError") rfl gf.mg_ValueError (by kernel_rfl) rfl)))))
  ss_nil)))
  (ss_cons (s_ret e_bl)
  ss_nil))
/-- law -/
theorem b27 (gf : GF Γ cd tb) (ih : AllF Γ PG C0 d) (W : WX) (A : Around) (outer : List Env) (s : Shared) (H : Hp) (E : XK) (hr : Room (3 * d + 2) (bX Γ N27 "law" (top 38) 27 (.ref (cd 27)) A outer s H E).A) (tk : Takes (bX Γ N27 "law" (top 38) 27 (.ref (cd 27)) A outer s H E) W) :
    PSs (bX Γ N27 "law" (top 38) 27 (.ref (cd 27)) A outer s H E) (defBody (top 38)) (tSs Γ W (bodyC PG C0 d) D27.body) := by
  have hr0 : Room (3 * d) (bX Γ N27 "law" (top 38) 27 (.ref (cd 27)) A outer s H E).A := hr.mono (by omega)
  have hr1 : Room (3 * d + 1) (bX Γ N27 "law" (top 38) 27 (.ref (cd 27)) A outer s H E).A := hr.mono (by omega)
  have po : PassesOwn (model (bX Γ N27 "law" (top 38) 27 (.ref (cd 27)) A outer s H E).prog (bX Γ N27 "law" (top 38) 27 (.ref (cd 27)) A outer s H E).w) (bX Γ N27 "law" (top 38) 27 (.ref (cd 27)) A outer s H E).A (bX Γ N27 "law" (top 38) 27 (.ref (cd 27)) A outer s H E).env (bX Γ N27 "law" (top 38) 27 (.ref (cd 27)) A outer s H E).xe := passes_of rfl
  exact (ss_cons (s_set (j := 1) gf.psi nd27 rfl (.inl rfl) (e_call (x := "_law_pool") ⟨rfl, rfl, rfl, rfl, rfl⟩ (ih 17 _ rfl) hr0 tk rfl gf.mg__law_pool (l_cons (e_var (i := 0) rfl (.inl rfl)) (l_cons e_int l_nil))))
  (ss_cons (s_asg (e_call (x := "_law_case") ⟨rfl, rfl, rfl, rfl, rfl⟩ (ih 22 _ rfl) hr0 tk rfl gf.mg__law_case (l_cons (e_var (i := 1) rfl (.inl rfl)) l_nil)) (g_tup ⟨rfl, rfl, rfl, rfl, rfl⟩ rfl (gs_cons (g_name (j := 2) gf.psi nd27 rfl (.inl rfl) (.inr rfl)) (gs_cons (g_name (j := 3) gf.psi nd27 rfl (.inl rfl) (.inr rfl)) (gs_cons (g_name (j := 4) gf.psi nd27 rfl (.inl rfl) (.inr rfl)) (gs_cons (g_name (j := 5) gf.psi nd27 rfl (.inl rfl) (.inr rfl)) gs_nil)))) rfl))
  (ss_cons (s_set (j := 6) gf.psi nd27 rfl (.inl rfl) (e_call (x := "_law_due") ⟨rfl, rfl, rfl, rfl, rfl⟩ (ih 23 _ rfl) hr0 tk rfl gf.mg__law_due (l_cons (e_var (i := 2) rfl (.inl rfl)) (l_cons (e_var (i := 3) rfl (.inl rfl)) (l_cons (e_var (i := 4) rfl (.inl rfl)) (l_cons (e_var (i := 5) rfl (.inl rfl)) l_nil))))))
  (ss_cons (s_if (t_not (t_val ⟨rfl, rfl, rfl, rfl, rfl⟩ (e_call (x := "_law_twelfths") ⟨rfl, rfl, rfl, rfl, rfl⟩ (ih 24 _ rfl) hr0 tk rfl gf.mg__law_twelfths (l_cons (e_var (i := 2) rfl (.inl rfl)) (l_cons (e_var (i := 3) rfl (.inl rfl)) (l_cons (e_var (i := 4) rfl (.inl rfl)) (l_cons (e_var (i := 5) rfl (.inl rfl)) (l_cons (e_var (i := 6) rfl (.inl rfl)) l_nil)))))))) (ss_cons (s_ret e_bl)
  ss_nil) ss_nil)
  (ss_cons (s_if (t_not (t_val ⟨rfl, rfl, rfl, rfl, rfl⟩ (e_call (x := "_law_same") ⟨rfl, rfl, rfl, rfl, rfl⟩ (ih 18 _ rfl) hr0 tk rfl gf.mg__law_same (l_cons (e_call (x := "share_bounds") ⟨rfl, rfl, rfl, rfl, rfl⟩ (ih 16 _ rfl) hr0 tk rfl gf.mg_share_bounds (l_cons (e_var (i := 2) rfl (.inl rfl)) (l_cons (e_var (i := 3) rfl (.inl rfl)) (l_cons (e_var (i := 4) rfl (.inl rfl)) (l_cons (e_var (i := 5) rfl (.inl rfl)) l_nil))))) (l_cons (e_var (i := 6) rfl (.inl rfl)) l_nil))))) (ss_cons (s_ret e_bl)
  ss_nil) ss_nil)
  (ss_cons (s_if (t_not (t_val ⟨rfl, rfl, rfl, rfl, rfl⟩ (e_call (x := "_law_same") ⟨rfl, rfl, rfl, rfl, rfl⟩ (ih 18 _ rfl) hr0 tk rfl gf.mg__law_same (l_cons (e_callK0 (x := "share_bounds") ⟨rfl, rfl, rfl, rfl, rfl⟩ (ih 16 _ rfl) hr0 tk gf.kb_16_3_2_1_0 rfl rfl gf.mg_share_bounds (k_cons (e_var (i := 5) rfl (.inl rfl)) (k_cons (e_var (i := 4) rfl (.inl rfl)) (k_cons (e_var (i := 2) rfl (.inl rfl)) (k_cons (e_var (i := 3) rfl (.inl rfl)) k_nil))))) (l_cons (e_call (x := "_law_left") ⟨rfl, rfl, rfl, rfl, rfl⟩ (ih 25 _ rfl) hr0 tk rfl gf.mg__law_left (l_cons (e_var (i := 6) rfl (.inl rfl)) l_nil)) l_nil))))) (ss_cons (s_ret e_bl)
  ss_nil) ss_nil)
  (ss_cons (s_par (j := 7) (n := 8) gf.psi rfl nd27 rfl rfl (by decide) rfl rfl (l_cons (e_bin gf.kc (op_add_ok ⟨rfl, rfl, rfl, rfl, rfl⟩ false) e_int (e_bin gf.kc op_mod_ok (e_ix gf.kc (ix_ok ⟨rfl, rfl, rfl, rfl, rfl⟩ (hu_of hr0)) (e_var (i := 1) rfl (.inl rfl)) e_int (fun _ _ => rfl)) e_int)) (l_cons (e_bin gf.kc op_mod_ok (e_ix gf.kc (ix_ok ⟨rfl, rfl, rfl, rfl, rfl⟩ (hu_of hr0)) (e_var (i := 1) rfl (.inl rfl)) e_int (fun _ _ => rfl)) e_int) l_nil)) rfl)
  (ss_cons (s_set (j := 9) gf.psi nd27 rfl (.inl rfl) (e_callB (x := "min") gf.kc (cr_min3' rfl) rfl gf.mg_min (by kernel_rfl) (l_cons (e_var (i := 8) rfl (.inl rfl)) (l_cons (e_bin gf.kc op_mod_ok (e_ix gf.kc (ix_ok ⟨rfl, rfl, rfl, rfl, rfl⟩ (hu_of hr0)) (e_var (i := 1) rfl (.inl rfl)) e_int (fun _ _ => rfl)) e_int) (l_cons (e_bin gf.kc op_fdiv_ok (e_bin gf.kc op_sub_ok (e_var (i := 7) rfl (.inl rfl)) e_int) e_int) l_nil)))))
  (ss_cons (s_set (j := 10) gf.psi nd27 rfl (.inl rfl) (e_call (x := "_law_lowest") ⟨rfl, rfl, rfl, rfl, rfl⟩ (ih 19 _ rfl) hr0 tk rfl gf.mg__law_lowest (l_cons (e_bin gf.kc (op_add_ok ⟨rfl, rfl, rfl, rfl, rfl⟩ false) (e_bin gf.kc (op_add_ok ⟨rfl, rfl, rfl, rfl, rfl⟩ false) (e_var (i := 8) rfl (.inl rfl)) (e_var (i := 7) rfl (.inl rfl))) (e_var (i := 9) rfl (.inl rfl))) (l_cons (e_bin gf.kc (op_add_ok ⟨rfl, rfl, rfl, rfl, rfl⟩ false) (e_var (i := 7) rfl (.inl rfl)) (e_bin gf.kc op_mul_ok e_int (e_var (i := 9) rfl (.inl rfl)))) l_nil))))
  (ss_cons (s_set (j := 11) gf.psi nd27 rfl (.inl rfl) (e_call (x := "_law_lowest") ⟨rfl, rfl, rfl, rfl, rfl⟩ (ih 19 _ rfl) hr0 tk rfl gf.mg__law_lowest (l_cons (e_bin gf.kc op_sub_ok (e_bin gf.kc (op_add_ok ⟨rfl, rfl, rfl, rfl, rfl⟩ false) (e_var (i := 8) rfl (.inl rfl)) (e_var (i := 7) rfl (.inl rfl))) (e_var (i := 9) rfl (.inl rfl))) (l_cons (e_bin gf.kc op_sub_ok (e_var (i := 7) rfl (.inl rfl)) (e_bin gf.kc op_mul_ok e_int (e_var (i := 9) rfl (.inl rfl)))) l_nil))))
  (ss_cons (s_if (t_not (t_val ⟨rfl, rfl, rfl, rfl, rfl⟩ (e_call (x := "_law_same") ⟨rfl, rfl, rfl, rfl, rfl⟩ (ih 18 _ rfl) hr0 tk rfl gf.mg__law_same (l_cons (e_callK0 (x := "density") ⟨rfl, rfl, rfl, rfl, rfl⟩ (ih 15 _ rfl) hr0 tk gf.kb_15_2_1_0 rfl rfl gf.mg_density (k_cons (e_var (i := 9) rfl (.inl rfl)) (k_cons (e_var (i := 8) rfl (.inl rfl)) (k_cons (e_bin gf.kc (op_add_ok ⟨rfl, rfl, rfl, rfl, rfl⟩ false) (e_var (i := 8) rfl (.inl rfl)) (e_var (i := 7) rfl (.inl rfl))) k_nil)))) (l_cons (e_tup (by show _ ≤ sizeLine; decide) (l_cons (e_var (i := 10) rfl (.inl rfl)) (l_cons (e_var (i := 11) rfl (.inl rfl)) l_nil))) l_nil))))) (ss_cons (s_ret e_bl)
  ss_nil) ss_nil)
  (ss_cons (s_if (t_not (t_val ⟨rfl, rfl, rfl, rfl, rfl⟩ (e_call (x := "_law_same") ⟨rfl, rfl, rfl, rfl, rfl⟩ (ih 18 _ rfl) hr0 tk rfl gf.mg__law_same (l_cons (e_call (x := "share_bounds") ⟨rfl, rfl, rfl, rfl, rfl⟩ (ih 16 _ rfl) hr0 tk rfl gf.mg_share_bounds (l_cons (e_var (i := 2) rfl (.inl rfl)) (l_cons (e_var (i := 3) rfl (.inl rfl)) (l_cons (e_var (i := 10) rfl (.inl rfl)) (l_cons (e_var (i := 11) rfl (.inl rfl)) l_nil))))) (l_cons (e_call (x := "_law_due") ⟨rfl, rfl, rfl, rfl, rfl⟩ (ih 23 _ rfl) hr0 tk rfl gf.mg__law_due (l_cons (e_var (i := 2) rfl (.inl rfl)) (l_cons (e_var (i := 3) rfl (.inl rfl)) (l_cons (e_var (i := 10) rfl (.inl rfl)) (l_cons (e_var (i := 11) rfl (.inl rfl)) l_nil))))) l_nil))))) (ss_cons (s_ret e_bl)
  ss_nil) ss_nil)
  (ss_cons (s_set (j := 12) gf.psi nd27 rfl (.inl rfl) (e_lst (m := true) (by show _ ≤ sizeLine; decide) (l_cons (e_var (i := 2) rfl (.inl rfl)) (l_cons (e_var (i := 3) rfl (.inl rfl)) (l_cons (e_var (i := 4) rfl (.inl rfl)) (l_cons (e_var (i := 5) rfl (.inl rfl)) l_nil))))))
  (ss_cons (s_par (j := 13) (n := 14) gf.psi rfl nd27 rfl rfl (by decide) rfl rfl (l_cons (e_bin gf.kc op_mod_ok (e_ix gf.kc (ix_ok ⟨rfl, rfl, rfl, rfl, rfl⟩ (hu_of hr0)) (e_var (i := 1) rfl (.inl rfl)) e_int (fun _ _ => rfl)) e_int) (l_cons (e_bin gf.kc (op_add_ok ⟨rfl, rfl, rfl, rfl, rfl⟩ false) e_int (e_bin gf.kc op_mod_ok (e_ix gf.kc (ix_ok ⟨rfl, rfl, rfl, rfl, rfl⟩ (hu_of hr0)) (e_var (i := 1) rfl (.inl rfl)) e_int (fun _ _ => rfl)) e_int)) l_nil)) rfl)
  (ss_cons (s_asg (e_ix gf.kc (ix_ok ⟨rfl, rfl, rfl, rfl, rfl⟩ (hu_of hr0)) (e_tup (by show _ ≤ sizeLine; decide) (l_cons (e_tup (by show _ ≤ sizeLine; decide) (l_cons (e_bin gf.kc op_mul_ok (e_ix gf.kc (ix_ok ⟨rfl, rfl, rfl, rfl, rfl⟩ (hu_of hr0)) (e_ix gf.kc (ix_ok ⟨rfl, rfl, rfl, rfl, rfl⟩ (hu_of hr0)) (e_var (i := 12) rfl (.inl rfl)) (e_var (i := 13) rfl (.inl rfl)) (fun _ _ => rfl)) e_int (fun _ _ => rfl)) (e_var (i := 14) rfl (.inl rfl))) (l_cons (e_bin gf.kc op_mul_ok (e_ix gf.kc (ix_ok ⟨rfl, rfl, rfl, rfl, rfl⟩ (hu_of hr0)) (e_ix gf.kc (ix_ok ⟨rfl, rfl, rfl, rfl, rfl⟩ (hu_of hr0)) (e_var (i := 12) rfl (.inl rfl)) (e_var (i := 13) rfl (.inl rfl)) (fun _ _ => rfl)) e_int (fun _ _ => rfl)) (e_var (i := 14) rfl (.inl rfl))) l_nil))) (l_cons (e_tup (by show _ ≤ sizeLine; decide) (l_cons (e_ix gf.kc (ix_ok ⟨rfl, rfl, rfl, rfl, rfl⟩ (hu_of hr0)) (e_ix gf.kc (ix_ok ⟨rfl, rfl, rfl, rfl, rfl⟩ (hu_of hr0)) (e_var (i := 12) rfl (.inl rfl)) (e_var (i := 13) rfl (.inl rfl)) (fun _ _ => rfl)) e_int (fun _ _ => rfl)) (l_cons e_int l_nil))) (l_cons (e_tup (by show _ ≤ sizeLine; decide) (l_cons (e_bin gf.kc (op_add_ok ⟨rfl, rfl, rfl, rfl, rfl⟩ false) (e_ix gf.kc (ix_ok ⟨rfl, rfl, rfl, rfl, rfl⟩ (hu_of hr0)) (e_ix gf.kc (ix_ok ⟨rfl, rfl, rfl, rfl, rfl⟩ (hu_of hr0)) (e_var (i := 12) rfl (.inl rfl)) (e_var (i := 13) rfl (.inl rfl)) (fun _ _ => rfl)) e_int (fun _ _ => rfl)) e_int) (l_cons (e_bin gf.kc op_sub_ok e_int (e_ix gf.kc (ix_ok ⟨rfl, rfl, rfl, rfl, rfl⟩ (hu_of hr0)) (e_ix gf.kc (ix_ok ⟨rfl, rfl, rfl, rfl, rfl⟩ (hu_of hr0)) (e_var (i := 12) rfl (.inl rfl)) (e_var (i := 13) rfl (.inl rfl)) (fun _ _ => rfl)) e_int (fun _ _ => rfl))) l_nil))) l_nil)))) (e_bin gf.kc op_mod_ok (e_ix gf.kc (ix_ok ⟨rfl, rfl, rfl, rfl, rfl⟩ (hu_of hr0)) (e_var (i := 1) rfl (.inl rfl)) e_int (fun _ _ => rfl)) e_int) (fun _ _ => rfl)) (g_sub ⟨rfl, rfl, rfl, rfl, rfl⟩ gf.kc hr0 (e_var (i := 12) rfl (.inl rfl)) (e_var (i := 13) rfl (.inl rfl))))
  (ss_cons (s_if (t_cmp rfl gf.kc (op_eq_ok ⟨rfl, rfl, rfl, rfl, rfl⟩ hr0) (e_bin gf.kc op_mod_ok (e_ix gf.kc (ix_ok ⟨rfl, rfl, rfl, rfl, rfl⟩ (hu_of hr0)) (e_var (i := 1) rfl (.inl rfl)) e_int (fun _ _ => rfl)) e_int) e_int rfl) (ss_cons (s_set (j := 12) gf.psi nd27 rfl (.inl rfl) (e_lst (m := true) (by show _ ≤ sizeLine; decide) (l_cons (e_var (i := 2) rfl (.inl rfl)) (l_cons (e_var (i := 2) rfl (.inl rfl)) (l_cons (e_var (i := 5) rfl (.inl rfl)) (l_cons (e_var (i := 4) rfl (.inl rfl)) l_nil))))))
  ss_nil) ss_nil)
  (ss_cons (s_ret (e_call (x := "_law_refused") ⟨rfl, rfl, rfl, rfl, rfl⟩ (ih 26 _ rfl) hr0 tk rfl gf.mg__law_refused (l_cons (e_var (i := 12) rfl (.inl rfl)) l_nil)))
  ss_nil)))))))))))))))))
structure SF (Γ : SE) (cd : Nat → Addr) : Prop where
  f0 : FunC Γ.K "is_whole" "is_whole" (top 5) (Γ.fa 0) (Γ.fd 0) (.ref (cd 0))
  p0 : Γ.pn 0 = (["value"] : List Str)
  f1 : FunC Γ.K "is_whole_from" "is_whole_from" (top 6) (Γ.fa 1) (Γ.fd 1) (.ref (cd 1))
  p1 : Γ.pn 1 = (["value", "least"] : List Str)
  f2 : FunC Γ.K "is_whole_between" "is_whole_between" (top 7) (Γ.fa 2) (Γ.fd 2) (.ref (cd 2))
  p2 : Γ.pn 2 = (["value", "least", "greatest"] : List Str)
  f3 : FunC Γ.K "are_wholes" "are_wholes" (top 8) (Γ.fa 3) (Γ.fd 3) (.ref (cd 3))
  p3 : Γ.pn 3 = (["values"] : List Str)
  f4 : FunC Γ.K "lowest" "lowest" (top 10) (Γ.fa 4) (Γ.fd 4) (.ref (cd 4))
  p4 : Γ.pn 4 = (["over", "under"] : List Str)
  f5 : FunC Γ.K "is_less" "is_less" (top 11) (Γ.fa 5) (Γ.fd 5) (.ref (cd 5))
  p5 : Γ.pn 5 = (["one", "other"] : List Str)
  f6 : FunC Γ.K "is_fraction" "is_fraction" (top 15) (Γ.fa 6) (Γ.fd 6) (.ref (cd 6))
  p6 : Γ.pn 6 = (["value"] : List Str)
  f7 : FunC Γ.K "minus" "minus" (top 16) (Γ.fa 7) (Γ.fd 7) (.ref (cd 7))
  p7 : Γ.pn 7 = (["one", "other"] : List Str)
  f8 : FunC Γ.K "divided" "divided" (top 17) (Γ.fa 8) (Γ.fd 8) (.ref (cd 8))
  p8 : Γ.pn 8 = (["one", "other"] : List Str)
  f9 : FunC Γ.K "less_of" "less_of" (top 18) (Γ.fa 9) (Γ.fd 9) (.ref (cd 9))
  p9 : Γ.pn 9 = (["one", "other"] : List Str)
  f10 : FunC Γ.K "greater_of" "greater_of" (top 19) (Γ.fa 10) (Γ.fd 10) (.ref (cd 10))
  p10 : Γ.pn 10 = (["one", "other"] : List Str)
  f11 : FunC Γ.K "span_of_weights" "span_of_weights" (top 20) (Γ.fa 11) (Γ.fd 11) (.ref (cd 11))
  p11 : Γ.pn 11 = (["air", "water", "error"] : List Str)
  f12 : FunC Γ.K "share_at" "share_at" (top 21) (Γ.fa 12) (Γ.fd 12) (.ref (cd 12))
  p12 : Γ.pn 12 = (["one", "other", "density"] : List Str)
  f13 : FunC Γ.K "cut_shares" "cut_shares" (top 22) (Γ.fa 13) (Γ.fd 13) (.ref (cd 13))
  p13 : Γ.pn 13 = (["first", "last"] : List Str)
  f14 : FunC Γ.K "check_weights" "check_weights" (top 24) (Γ.fa 14) (Γ.fd 14) (.ref (cd 14))
  p14 : Γ.pn 14 = (["air", "water", "error"] : List Str)
  f15 : FunC Γ.K "density" "density" (top 25) (Γ.fa 15) (Γ.fd 15) (.ref (cd 15))
  p15 : Γ.pn 15 = (["air", "water", "error"] : List Str)
  f16 : FunC Γ.K "share_bounds" "share_bounds" (top 26) (Γ.fa 16) (Γ.fd 16) (.ref (cd 16))
  p16 : Γ.pn 16 = (["one", "other", "least", "greatest"] : List Str)
  f17 : FunC Γ.K "_law_pool" "_law_pool" (top 28) (Γ.fa 17) (Γ.fd 17) (.ref (cd 17))
  p17 : Γ.pn 17 = (["script", "many"] : List Str)
  f18 : FunC Γ.K "_law_same" "_law_same" (top 29) (Γ.fa 18) (Γ.fd 18) (.ref (cd 18))
  p18 : Γ.pn 18 = (["found", "due"] : List Str)
  f19 : FunC Γ.K "_law_lowest" "_law_lowest" (top 30) (Γ.fa 19) (Γ.fd 19) (.ref (cd 19))
  p19 : Γ.pn 19 = (["over", "under"] : List Str)
  f20 : FunC Γ.K "_law_fraction" "_law_fraction" (top 31) (Γ.fa 20) (Γ.fd 20) (.ref (cd 20))
  p20 : Γ.pn 20 = (["pool", "at", "great"] : List Str)
  f21 : FunC Γ.K "_law_between" "_law_between" (top 32) (Γ.fa 21) (Γ.fd 21) (.ref (cd 21))
  p21 : Γ.pn 21 = (["one", "other", "part", "whole"] : List Str)
  f22 : FunC Γ.K "_law_case" "_law_case" (top 33) (Γ.fa 22) (Γ.fd 22) (.ref (cd 22))
  p22 : Γ.pn 22 = (["pool"] : List Str)
  f23 : FunC Γ.K "_law_due" "_law_due" (top 34) (Γ.fa 23) (Γ.fd 23) (.ref (cd 23))
  p23 : Γ.pn 23 = (["one", "other", "least", "greatest"] : List Str)
  f24 : FunC Γ.K "_law_twelfths" "_law_twelfths" (top 35) (Γ.fa 24) (Γ.fd 24) (.ref (cd 24))
  p24 : Γ.pn 24 = (["one", "other", "least", "greatest", "due"] : List Str)
  f25 : FunC Γ.K "_law_left" "_law_left" (top 36) (Γ.fa 25) (Γ.fd 25) (.ref (cd 25))
  p25 : Γ.pn 25 = (["due"] : List Str)
  f26 : FunC Γ.K "_law_refused" "_law_refused" (top 37) (Γ.fa 26) (Γ.fd 26) (.ref (cd 26))
  p26 : Γ.pn 26 = (["row"] : List Str)
  f27 : FunC Γ.K "law" "law" (top 38) (Γ.fa 27) (Γ.fd 27) (.ref (cd 27))
  p27 : Γ.pn 27 = (["script"] : List Str)
theorem sc0 : FnScope N0 ["value"] (defScope (top 5)) := ⟨rfl, rfl, rfl, by decide +kernel, rfl, by decide +kernel, by decide +kernel⟩
theorem k0 (gf : GF Γ cd tb) (sf : SF Γ cd) (ih : AllF Γ PG C0 d) : FnOk Γ.P Γ.w Γ.K Γ.mg Γ.base (L2.CX Γ.P Γ.w) (3 * (d + 1)) (Γ.fa 0) (Γ.fd 0) (Γ.pn 0) (spE Γ (callD PG C0 (d + 1) 0) (Γ.pn 0).length) :=
  fun_okC (D := D0) gf.psi gf.hc rfl sf.f0 (by rw [sf.p0]; exact sc0) rfl (by rw [sf.p0]; rfl) fun W A outer s H E hr tk => b0 gf ih W A outer s H E hr tk
theorem sc1 : FnScope N1 ["value", "least"] (defScope (top 6)) := ⟨rfl, rfl, rfl, by decide +kernel, rfl, by decide +kernel, by decide +kernel⟩
theorem k1 (gf : GF Γ cd tb) (sf : SF Γ cd) (ih : AllF Γ PG C0 d) : FnOk Γ.P Γ.w Γ.K Γ.mg Γ.base (L2.CX Γ.P Γ.w) (3 * (d + 1)) (Γ.fa 1) (Γ.fd 1) (Γ.pn 1) (spE Γ (callD PG C0 (d + 1) 1) (Γ.pn 1).length) :=
  fun_okC (D := D1) gf.psi gf.hc rfl sf.f1 (by rw [sf.p1]; exact sc1) rfl (by rw [sf.p1]; rfl) fun W A outer s H E hr tk => b1 gf ih W A outer s H E hr tk
theorem sc2 : FnScope N2 ["value", "least", "greatest"] (defScope (top 7)) := ⟨rfl, rfl, rfl, by decide +kernel, rfl, by decide +kernel, by decide +kernel⟩
theorem k2 (gf : GF Γ cd tb) (sf : SF Γ cd) (ih : AllF Γ PG C0 d) : FnOk Γ.P Γ.w Γ.K Γ.mg Γ.base (L2.CX Γ.P Γ.w) (3 * (d + 1)) (Γ.fa 2) (Γ.fd 2) (Γ.pn 2) (spE Γ (callD PG C0 (d + 1) 2) (Γ.pn 2).length) :=
  fun_okC (D := D2) gf.psi gf.hc rfl sf.f2 (by rw [sf.p2]; exact sc2) rfl (by rw [sf.p2]; rfl) fun W A outer s H E hr tk => b2 gf ih W A outer s H E hr tk
theorem sc3 : FnScope N3 ["values"] (defScope (top 8)) := ⟨rfl, rfl, rfl, by decide +kernel, rfl, by decide +kernel, by decide +kernel⟩
theorem k3 (gf : GF Γ cd tb) (sf : SF Γ cd) (ih : AllF Γ PG C0 d) : FnOk Γ.P Γ.w Γ.K Γ.mg Γ.base (L2.CX Γ.P Γ.w) (3 * (d + 1)) (Γ.fa 3) (Γ.fd 3) (Γ.pn 3) (spE Γ (callD PG C0 (d + 1) 3) (Γ.pn 3).length) :=
  fun_okC (D := D3) gf.psi gf.hc rfl sf.f3 (by rw [sf.p3]; exact sc3) rfl (by rw [sf.p3]; rfl) fun W A outer s H E hr tk => b3 gf ih W A outer s H E hr tk
theorem sc4 : FnScope N4 ["over", "under"] (defScope (top 10)) := ⟨rfl, rfl, rfl, by decide +kernel, rfl, by decide +kernel, by decide +kernel⟩
theorem k4 (gf : GF Γ cd tb) (sf : SF Γ cd) (ih : AllF Γ PG C0 d) : FnOk Γ.P Γ.w Γ.K Γ.mg Γ.base (L2.CX Γ.P Γ.w) (3 * (d + 1)) (Γ.fa 4) (Γ.fd 4) (Γ.pn 4) (spE Γ (callD PG C0 (d + 1) 4) (Γ.pn 4).length) :=
  fun_okC (D := D4) gf.psi gf.hc rfl sf.f4 (by rw [sf.p4]; exact sc4) rfl (by rw [sf.p4]; rfl) fun W A outer s H E hr tk => b4 gf ih W A outer s H E hr tk
theorem sc5 : FnScope N5 ["one", "other"] (defScope (top 11)) := ⟨rfl, rfl, rfl, by decide +kernel, rfl, by decide +kernel, by decide +kernel⟩
theorem k5 (gf : GF Γ cd tb) (sf : SF Γ cd) (ih : AllF Γ PG C0 d) : FnOk Γ.P Γ.w Γ.K Γ.mg Γ.base (L2.CX Γ.P Γ.w) (3 * (d + 1)) (Γ.fa 5) (Γ.fd 5) (Γ.pn 5) (spE Γ (callD PG C0 (d + 1) 5) (Γ.pn 5).length) :=
  fun_okC (D := D5) gf.psi gf.hc rfl sf.f5 (by rw [sf.p5]; exact sc5) rfl (by rw [sf.p5]; rfl) fun W A outer s H E hr tk => b5 gf ih W A outer s H E hr tk
theorem sc6 : FnScope N6 ["value"] (defScope (top 15)) := ⟨rfl, rfl, rfl, by decide +kernel, rfl, by decide +kernel, by decide +kernel⟩
theorem k6 (gf : GF Γ cd tb) (sf : SF Γ cd) (ih : AllF Γ PG C0 d) : FnOk Γ.P Γ.w Γ.K Γ.mg Γ.base (L2.CX Γ.P Γ.w) (3 * (d + 1)) (Γ.fa 6) (Γ.fd 6) (Γ.pn 6) (spE Γ (callD PG C0 (d + 1) 6) (Γ.pn 6).length) :=
  fun_okC (D := D6) gf.psi gf.hc rfl sf.f6 (by rw [sf.p6]; exact sc6) rfl (by rw [sf.p6]; rfl) fun W A outer s H E hr tk => b6 gf ih W A outer s H E hr tk
theorem sc7 : FnScope N7 ["one", "other"] (defScope (top 16)) := ⟨rfl, rfl, rfl, by decide +kernel, rfl, by decide +kernel, by decide +kernel⟩
theorem k7 (gf : GF Γ cd tb) (sf : SF Γ cd) (ih : AllF Γ PG C0 d) : FnOk Γ.P Γ.w Γ.K Γ.mg Γ.base (L2.CX Γ.P Γ.w) (3 * (d + 1)) (Γ.fa 7) (Γ.fd 7) (Γ.pn 7) (spE Γ (callD PG C0 (d + 1) 7) (Γ.pn 7).length) :=
  fun_okC (D := D7) gf.psi gf.hc rfl sf.f7 (by rw [sf.p7]; exact sc7) rfl (by rw [sf.p7]; rfl) fun W A outer s H E hr tk => b7 gf ih W A outer s H E hr tk
theorem sc8 : FnScope N8 ["one", "other"] (defScope (top 17)) := ⟨rfl, rfl, rfl, by decide +kernel, rfl, by decide +kernel, by decide +kernel⟩
theorem k8 (gf : GF Γ cd tb) (sf : SF Γ cd) (ih : AllF Γ PG C0 d) : FnOk Γ.P Γ.w Γ.K Γ.mg Γ.base (L2.CX Γ.P Γ.w) (3 * (d + 1)) (Γ.fa 8) (Γ.fd 8) (Γ.pn 8) (spE Γ (callD PG C0 (d + 1) 8) (Γ.pn 8).length) :=
  fun_okC (D := D8) gf.psi gf.hc rfl sf.f8 (by rw [sf.p8]; exact sc8) rfl (by rw [sf.p8]; rfl) fun W A outer s H E hr tk => b8 gf ih W A outer s H E hr tk
theorem sc9 : FnScope N9 ["one", "other"] (defScope (top 18)) := ⟨rfl, rfl, rfl, by decide +kernel, rfl, by decide +kernel, by decide +kernel⟩
theorem k9 (gf : GF Γ cd tb) (sf : SF Γ cd) (ih : AllF Γ PG C0 d) : FnOk Γ.P Γ.w Γ.K Γ.mg Γ.base (L2.CX Γ.P Γ.w) (3 * (d + 1)) (Γ.fa 9) (Γ.fd 9) (Γ.pn 9) (spE Γ (callD PG C0 (d + 1) 9) (Γ.pn 9).length) :=
  fun_okC (D := D9) gf.psi gf.hc rfl sf.f9 (by rw [sf.p9]; exact sc9) rfl (by rw [sf.p9]; rfl) fun W A outer s H E hr tk => b9 gf ih W A outer s H E hr tk
theorem sc10 : FnScope N10 ["one", "other"] (defScope (top 19)) := ⟨rfl, rfl, rfl, by decide +kernel, rfl, by decide +kernel, by decide +kernel⟩
theorem k10 (gf : GF Γ cd tb) (sf : SF Γ cd) (ih : AllF Γ PG C0 d) : FnOk Γ.P Γ.w Γ.K Γ.mg Γ.base (L2.CX Γ.P Γ.w) (3 * (d + 1)) (Γ.fa 10) (Γ.fd 10) (Γ.pn 10) (spE Γ (callD PG C0 (d + 1) 10) (Γ.pn 10).length) :=
  fun_okC (D := D10) gf.psi gf.hc rfl sf.f10 (by rw [sf.p10]; exact sc10) rfl (by rw [sf.p10]; rfl) fun W A outer s H E hr tk => b10 gf ih W A outer s H E hr tk
theorem sc11 : FnScope N11 ["air", "water", "error"] (defScope (top 20)) := ⟨rfl, rfl, rfl, by decide +kernel, rfl, by decide +kernel, by decide +kernel⟩
theorem k11 (gf : GF Γ cd tb) (sf : SF Γ cd) (ih : AllF Γ PG C0 d) : FnOk Γ.P Γ.w Γ.K Γ.mg Γ.base (L2.CX Γ.P Γ.w) (3 * (d + 1)) (Γ.fa 11) (Γ.fd 11) (Γ.pn 11) (spE Γ (callD PG C0 (d + 1) 11) (Γ.pn 11).length) :=
  fun_okC (D := D11) gf.psi gf.hc rfl sf.f11 (by rw [sf.p11]; exact sc11) rfl (by rw [sf.p11]; rfl) fun W A outer s H E hr tk => b11 gf ih W A outer s H E hr tk
theorem sc12 : FnScope N12 ["one", "other", "density"] (defScope (top 21)) := ⟨rfl, rfl, rfl, by decide +kernel, rfl, by decide +kernel, by decide +kernel⟩
theorem k12 (gf : GF Γ cd tb) (sf : SF Γ cd) (ih : AllF Γ PG C0 d) : FnOk Γ.P Γ.w Γ.K Γ.mg Γ.base (L2.CX Γ.P Γ.w) (3 * (d + 1)) (Γ.fa 12) (Γ.fd 12) (Γ.pn 12) (spE Γ (callD PG C0 (d + 1) 12) (Γ.pn 12).length) :=
  fun_okC (D := D12) gf.psi gf.hc rfl sf.f12 (by rw [sf.p12]; exact sc12) rfl (by rw [sf.p12]; rfl) fun W A outer s H E hr tk => b12 gf ih W A outer s H E hr tk
theorem sc13 : FnScope N13 ["first", "last"] (defScope (top 22)) := ⟨rfl, rfl, rfl, by decide +kernel, rfl, by decide +kernel, by decide +kernel⟩
theorem k13 (gf : GF Γ cd tb) (sf : SF Γ cd) (ih : AllF Γ PG C0 d) : FnOk Γ.P Γ.w Γ.K Γ.mg Γ.base (L2.CX Γ.P Γ.w) (3 * (d + 1)) (Γ.fa 13) (Γ.fd 13) (Γ.pn 13) (spE Γ (callD PG C0 (d + 1) 13) (Γ.pn 13).length) :=
  fun_okC (D := D13) gf.psi gf.hc rfl sf.f13 (by rw [sf.p13]; exact sc13) rfl (by rw [sf.p13]; rfl) fun W A outer s H E hr tk => b13 gf ih W A outer s H E hr tk
theorem sc14 : FnScope N14 ["air", "water", "error"] (defScope (top 24)) := ⟨rfl, rfl, rfl, by decide +kernel, rfl, by decide +kernel, by decide +kernel⟩
theorem k14 (gf : GF Γ cd tb) (sf : SF Γ cd) (ih : AllF Γ PG C0 d) : FnOk Γ.P Γ.w Γ.K Γ.mg Γ.base (L2.CX Γ.P Γ.w) (3 * (d + 1)) (Γ.fa 14) (Γ.fd 14) (Γ.pn 14) (spE Γ (callD PG C0 (d + 1) 14) (Γ.pn 14).length) :=
  fun_okC (D := D14) gf.psi gf.hc rfl sf.f14 (by rw [sf.p14]; exact sc14) rfl (by rw [sf.p14]; rfl) fun W A outer s H E hr tk => b14 gf ih W A outer s H E hr tk
theorem sc15 : FnScope N15 ["air", "water", "error"] (defScope (top 25)) := ⟨rfl, rfl, rfl, by decide +kernel, rfl, by decide +kernel, by decide +kernel⟩
theorem k15 (gf : GF Γ cd tb) (sf : SF Γ cd) (ih : AllF Γ PG C0 d) : FnOk Γ.P Γ.w Γ.K Γ.mg Γ.base (L2.CX Γ.P Γ.w) (3 * (d + 1)) (Γ.fa 15) (Γ.fd 15) (Γ.pn 15) (spE Γ (callD PG C0 (d + 1) 15) (Γ.pn 15).length) :=
  fun_okC (D := D15) gf.psi gf.hc rfl sf.f15 (by rw [sf.p15]; exact sc15) rfl (by rw [sf.p15]; rfl) fun W A outer s H E hr tk => b15 gf ih W A outer s H E hr tk
theorem sc16 : FnScope N16 ["one", "other", "least", "greatest"] (defScope (top 26)) := ⟨rfl, rfl, rfl, by decide +kernel, rfl, by decide +kernel, by decide +kernel⟩
theorem k16 (gf : GF Γ cd tb) (sf : SF Γ cd) (ih : AllF Γ PG C0 d) : FnOk Γ.P Γ.w Γ.K Γ.mg Γ.base (L2.CX Γ.P Γ.w) (3 * (d + 1)) (Γ.fa 16) (Γ.fd 16) (Γ.pn 16) (spE Γ (callD PG C0 (d + 1) 16) (Γ.pn 16).length) :=
  fun_okC (D := D16) gf.psi gf.hc rfl sf.f16 (by rw [sf.p16]; exact sc16) rfl (by rw [sf.p16]; rfl) fun W A outer s H E hr tk => b16 gf ih W A outer s H E hr tk
theorem sc17 : FnScope N17 ["script", "many"] (defScope (top 28)) := ⟨rfl, rfl, rfl, by decide +kernel, rfl, by decide +kernel, by decide +kernel⟩
theorem k17 (gf : GF Γ cd tb) (sf : SF Γ cd) (ih : AllF Γ PG C0 d) : FnOk Γ.P Γ.w Γ.K Γ.mg Γ.base (L2.CX Γ.P Γ.w) (3 * (d + 1)) (Γ.fa 17) (Γ.fd 17) (Γ.pn 17) (spE Γ (callD PG C0 (d + 1) 17) (Γ.pn 17).length) :=
  fun_okC (D := D17) gf.psi gf.hc rfl sf.f17 (by rw [sf.p17]; exact sc17) rfl (by rw [sf.p17]; rfl) fun W A outer s H E hr tk => b17 gf ih W A outer s H E hr tk
theorem sc18 : FnScope N18 ["found", "due"] (defScope (top 29)) := ⟨rfl, rfl, rfl, by decide +kernel, rfl, by decide +kernel, by decide +kernel⟩
theorem k18 (gf : GF Γ cd tb) (sf : SF Γ cd) (ih : AllF Γ PG C0 d) : FnOk Γ.P Γ.w Γ.K Γ.mg Γ.base (L2.CX Γ.P Γ.w) (3 * (d + 1)) (Γ.fa 18) (Γ.fd 18) (Γ.pn 18) (spE Γ (callD PG C0 (d + 1) 18) (Γ.pn 18).length) :=
  fun_okC (D := D18) gf.psi gf.hc rfl sf.f18 (by rw [sf.p18]; exact sc18) rfl (by rw [sf.p18]; rfl) fun W A outer s H E hr tk => b18 gf ih W A outer s H E hr tk
theorem sc19 : FnScope N19 ["over", "under"] (defScope (top 30)) := ⟨rfl, rfl, rfl, by decide +kernel, rfl, by decide +kernel, by decide +kernel⟩
theorem k19 (gf : GF Γ cd tb) (sf : SF Γ cd) (ih : AllF Γ PG C0 d) : FnOk Γ.P Γ.w Γ.K Γ.mg Γ.base (L2.CX Γ.P Γ.w) (3 * (d + 1)) (Γ.fa 19) (Γ.fd 19) (Γ.pn 19) (spE Γ (callD PG C0 (d + 1) 19) (Γ.pn 19).length) :=
  fun_okC (D := D19) gf.psi gf.hc rfl sf.f19 (by rw [sf.p19]; exact sc19) rfl (by rw [sf.p19]; rfl) fun W A outer s H E hr tk => b19 gf ih W A outer s H E hr tk
theorem sc20 : FnScope N20 ["pool", "at", "great"] (defScope (top 31)) := ⟨rfl, rfl, rfl, by decide +kernel, rfl, by decide +kernel, by decide +kernel⟩
theorem k20 (gf : GF Γ cd tb) (sf : SF Γ cd) (ih : AllF Γ PG C0 d) : FnOk Γ.P Γ.w Γ.K Γ.mg Γ.base (L2.CX Γ.P Γ.w) (3 * (d + 1)) (Γ.fa 20) (Γ.fd 20) (Γ.pn 20) (spE Γ (callD PG C0 (d + 1) 20) (Γ.pn 20).length) :=
  fun_okC (D := D20) gf.psi gf.hc rfl sf.f20 (by rw [sf.p20]; exact sc20) rfl (by rw [sf.p20]; rfl) fun W A outer s H E hr tk => b20 gf ih W A outer s H E hr tk
theorem sc21 : FnScope N21 ["one", "other", "part", "whole"] (defScope (top 32)) := ⟨rfl, rfl, rfl, by decide +kernel, rfl, by decide +kernel, by decide +kernel⟩
theorem k21 (gf : GF Γ cd tb) (sf : SF Γ cd) (ih : AllF Γ PG C0 d) : FnOk Γ.P Γ.w Γ.K Γ.mg Γ.base (L2.CX Γ.P Γ.w) (3 * (d + 1)) (Γ.fa 21) (Γ.fd 21) (Γ.pn 21) (spE Γ (callD PG C0 (d + 1) 21) (Γ.pn 21).length) :=
  fun_okC (D := D21) gf.psi gf.hc rfl sf.f21 (by rw [sf.p21]; exact sc21) rfl (by rw [sf.p21]; rfl) fun W A outer s H E hr tk => b21 gf ih W A outer s H E hr tk
theorem sc22 : FnScope N22 ["pool"] (defScope (top 33)) := ⟨rfl, rfl, rfl, by decide +kernel, rfl, by decide +kernel, by decide +kernel⟩
theorem k22 (gf : GF Γ cd tb) (sf : SF Γ cd) (ih : AllF Γ PG C0 d) : FnOk Γ.P Γ.w Γ.K Γ.mg Γ.base (L2.CX Γ.P Γ.w) (3 * (d + 1)) (Γ.fa 22) (Γ.fd 22) (Γ.pn 22) (spE Γ (callD PG C0 (d + 1) 22) (Γ.pn 22).length) :=
  fun_okC (D := D22) gf.psi gf.hc rfl sf.f22 (by rw [sf.p22]; exact sc22) rfl (by rw [sf.p22]; rfl) fun W A outer s H E hr tk => b22 gf ih W A outer s H E hr tk
theorem sc23 : FnScope N23 ["one", "other", "least", "greatest"] (defScope (top 34)) := ⟨rfl, rfl, rfl, by decide +kernel, rfl, by decide +kernel, by decide +kernel⟩
theorem k23 (gf : GF Γ cd tb) (sf : SF Γ cd) (ih : AllF Γ PG C0 d) : FnOk Γ.P Γ.w Γ.K Γ.mg Γ.base (L2.CX Γ.P Γ.w) (3 * (d + 1)) (Γ.fa 23) (Γ.fd 23) (Γ.pn 23) (spE Γ (callD PG C0 (d + 1) 23) (Γ.pn 23).length) :=
  fun_okC (D := D23) gf.psi gf.hc rfl sf.f23 (by rw [sf.p23]; exact sc23) rfl (by rw [sf.p23]; rfl) fun W A outer s H E hr tk => b23 gf ih W A outer s H E hr tk
theorem sc24 : FnScope N24 ["one", "other", "least", "greatest", "due"] (defScope (top 35)) := ⟨rfl, rfl, rfl, by decide +kernel, rfl, by decide +kernel, by decide +kernel⟩
theorem k24 (gf : GF Γ cd tb) (sf : SF Γ cd) (ih : AllF Γ PG C0 d) : FnOk Γ.P Γ.w Γ.K Γ.mg Γ.base (L2.CX Γ.P Γ.w) (3 * (d + 1)) (Γ.fa 24) (Γ.fd 24) (Γ.pn 24) (spE Γ (callD PG C0 (d + 1) 24) (Γ.pn 24).length) :=
  fun_okC (D := D24) gf.psi gf.hc rfl sf.f24 (by rw [sf.p24]; exact sc24) rfl (by rw [sf.p24]; rfl) fun W A outer s H E hr tk => b24 gf ih W A outer s H E hr tk
theorem sc25 : FnScope N25 ["due"] (defScope (top 36)) := ⟨rfl, rfl, rfl, by decide +kernel, rfl, by decide +kernel, by decide +kernel⟩
theorem k25 (gf : GF Γ cd tb) (sf : SF Γ cd) (ih : AllF Γ PG C0 d) : FnOk Γ.P Γ.w Γ.K Γ.mg Γ.base (L2.CX Γ.P Γ.w) (3 * (d + 1)) (Γ.fa 25) (Γ.fd 25) (Γ.pn 25) (spE Γ (callD PG C0 (d + 1) 25) (Γ.pn 25).length) :=
  fun_okC (D := D25) gf.psi gf.hc rfl sf.f25 (by rw [sf.p25]; exact sc25) rfl (by rw [sf.p25]; rfl) fun W A outer s H E hr tk => b25 gf ih W A outer s H E hr tk
theorem sc26 : FnScope N26 ["row"] (defScope (top 37)) := ⟨rfl, rfl, rfl, by decide +kernel, rfl, by decide +kernel, by decide +kernel⟩
theorem k26 (gf : GF Γ cd tb) (sf : SF Γ cd) (ih : AllF Γ PG C0 d) : FnOk Γ.P Γ.w Γ.K Γ.mg Γ.base (L2.CX Γ.P Γ.w) (3 * (d + 1)) (Γ.fa 26) (Γ.fd 26) (Γ.pn 26) (spE Γ (callD PG C0 (d + 1) 26) (Γ.pn 26).length) :=
  fun_okC (D := D26) gf.psi gf.hc rfl sf.f26 (by rw [sf.p26]; exact sc26) rfl (by rw [sf.p26]; rfl) fun W A outer s H E hr tk => b26 gf ih W A outer s H E hr tk
theorem sc27 : FnScope N27 ["script"] (defScope (top 38)) := ⟨rfl, rfl, rfl, by decide +kernel, rfl, by decide +kernel, by decide +kernel⟩
theorem k27 (gf : GF Γ cd tb) (sf : SF Γ cd) (ih : AllF Γ PG C0 d) : FnOk Γ.P Γ.w Γ.K Γ.mg Γ.base (L2.CX Γ.P Γ.w) (3 * (d + 1)) (Γ.fa 27) (Γ.fd 27) (Γ.pn 27) (spE Γ (callD PG C0 (d + 1) 27) (Γ.pn 27).length) :=
  fun_okC (D := D27) gf.psi gf.hc rfl sf.f27 (by rw [sf.p27]; exact sc27) rfl (by rw [sf.p27]; rfl) fun W A outer s H E hr tk => b27 gf ih W A outer s H E hr tk
theorem stp (gf : GF Γ cd tb) (sf : SF Γ cd) : ∀ d, AllF Γ PG C0 d → ∀ f D, PG f = some D → FnOk Γ.P Γ.w Γ.K Γ.mg Γ.base (L2.CX Γ.P Γ.w) (3 * (d + 1)) (Γ.fa f) (Γ.fd f) (Γ.pn f) (spE Γ (callD PG C0 (d + 1) f) (Γ.pn f).length) := by
  intro d ih f D h
  unfold PG at h
  split at h
  · exact k0 gf sf ih
  · exact k1 gf sf ih
  · exact k2 gf sf ih
  · exact k3 gf sf ih
  · exact k4 gf sf ih
  · exact k5 gf sf ih
  · exact k6 gf sf ih
  · exact k7 gf sf ih
  · exact k8 gf sf ih
  · exact k9 gf sf ih
  · exact k10 gf sf ih
  · exact k11 gf sf ih
  · exact k12 gf sf ih
  · exact k13 gf sf ih
  · exact k14 gf sf ih
  · exact k15 gf sf ih
  · exact k16 gf sf ih
  · exact k17 gf sf ih
  · exact k18 gf sf ih
  · exact k19 gf sf ih
  · exact k20 gf sf ih
  · exact k21 gf sf ih
  · exact k22 gf sf ih
  · exact k23 gf sf ih
  · exact k24 gf sf ih
  · exact k25 gf sf ih
  · exact k26 gf sf ih
  · exact k27 gf sf ih
  · cases h
theorem sideK (sf : SF Γ cd) (bd : ∀ f D, PG f = some D → Binds Γ.K (Γ.fd f) (Γ.pn f) []) : Side Γ PG := by
  refine ⟨fun f D h => ?_, bd, fun f D h => ?_⟩
  · unfold PG at h
    split at h
    · exact sf.f0.kp
    · exact sf.f1.kp
    · exact sf.f2.kp
    · exact sf.f3.kp
    · exact sf.f4.kp
    · exact sf.f5.kp
    · exact sf.f6.kp
    · exact sf.f7.kp
    · exact sf.f8.kp
    · exact sf.f9.kp
    · exact sf.f10.kp
    · exact sf.f11.kp
    · exact sf.f12.kp
    · exact sf.f13.kp
    · exact sf.f14.kp
    · exact sf.f15.kp
    · exact sf.f16.kp
    · exact sf.f17.kp
    · exact sf.f18.kp
    · exact sf.f19.kp
    · exact sf.f20.kp
    · exact sf.f21.kp
    · exact sf.f22.kp
    · exact sf.f23.kp
    · exact sf.f24.kp
    · exact sf.f25.kp
    · exact sf.f26.kp
    · exact sf.f27.kp
    · cases h
  · unfold PG at h
    split at h
    · cases h; rw [sf.p0]; rfl
    · cases h; rw [sf.p1]; rfl
    · cases h; rw [sf.p2]; rfl
    · cases h; rw [sf.p3]; rfl
    · cases h; rw [sf.p4]; rfl
    · cases h; rw [sf.p5]; rfl
    · cases h; rw [sf.p6]; rfl
    · cases h; rw [sf.p7]; rfl
    · cases h; rw [sf.p8]; rfl
    · cases h; rw [sf.p9]; rfl
    · cases h; rw [sf.p10]; rfl
    · cases h; rw [sf.p11]; rfl
    · cases h; rw [sf.p12]; rfl
    · cases h; rw [sf.p13]; rfl
    · cases h; rw [sf.p14]; rfl
    · cases h; rw [sf.p15]; rfl
    · cases h; rw [sf.p16]; rfl
    · cases h; rw [sf.p17]; rfl
    · cases h; rw [sf.p18]; rfl
    · cases h; rw [sf.p19]; rfl
    · cases h; rw [sf.p20]; rfl
    · cases h; rw [sf.p21]; rfl
    · cases h; rw [sf.p22]; rfl
    · cases h; rw [sf.p23]; rfl
    · cases h; rw [sf.p24]; rfl
    · cases h; rw [sf.p25]; rfl
    · cases h; rw [sf.p26]; rfl
    · cases h; rw [sf.p27]; rfl
    · cases h
end
end LW
set_option Elab.async false
set_option linter.all false
set_option autoImplicit false
set_option maxRecDepth 100000
set_option maxHeartbeats 4000000
namespace LW
open PySem PySem.Spec PyProof.Rows L2 E
/-! ### the head -/
def clsF (K : PySem.W.Frag) (n : Nat) : Addr := match n with
  | 0 => He.ga K "StoneError"
  | 1 => He.ga K "BadNumber"
  | _ => 0
def faF (K : PySem.W.Frag) (n : Nat) : Addr := match n with
  | 0 => He.fAd K ("is_whole", none)
  | 1 => He.fAd K ("is_whole_from", none)
  | 2 => He.fAd K ("is_whole_between", none)
  | 3 => He.fAd K ("are_wholes", none)
  | 4 => He.fAd K ("lowest", none)
  | 5 => He.fAd K ("is_less", none)
  | 6 => He.fAd K ("is_fraction", none)
  | 7 => He.fAd K ("minus", none)
  | 8 => He.fAd K ("divided", none)
  | 9 => He.fAd K ("less_of", none)
  | 10 => He.fAd K ("greater_of", none)
  | 11 => He.fAd K ("span_of_weights", none)
  | 12 => He.fAd K ("share_at", none)
  | 13 => He.fAd K ("cut_shares", none)
  | 14 => He.fAd K ("check_weights", none)
  | 15 => He.fAd K ("density", none)
  | 16 => He.fAd K ("share_bounds", none)
  | 17 => He.fAd K ("_law_pool", none)
  | 18 => He.fAd K ("_law_same", none)
  | 19 => He.fAd K ("_law_lowest", none)
  | 20 => He.fAd K ("_law_fraction", none)
  | 21 => He.fAd K ("_law_between", none)
  | 22 => He.fAd K ("_law_case", none)
  | 23 => He.fAd K ("_law_due", none)
  | 24 => He.fAd K ("_law_twelfths", none)
  | 25 => He.fAd K ("_law_left", none)
  | 26 => He.fAd K ("_law_refused", none)
  | 27 => He.fAd K ("law", none)
  | _ => 0
def pnF (n : Nat) : List Str := match n with
  | 0 => ["value"]
  | 1 => ["value", "least"]
  | 2 => ["value", "least", "greatest"]
  | 3 => ["values"]
  | 4 => ["over", "under"]
  | 5 => ["one", "other"]
  | 6 => ["value"]
  | 7 => ["one", "other"]
  | 8 => ["one", "other"]
  | 9 => ["one", "other"]
  | 10 => ["one", "other"]
  | 11 => ["air", "water", "error"]
  | 12 => ["one", "other", "density"]
  | 13 => ["first", "last"]
  | 14 => ["air", "water", "error"]
  | 15 => ["air", "water", "error"]
  | 16 => ["one", "other", "least", "greatest"]
  | 17 => ["script", "many"]
  | 18 => ["found", "due"]
  | 19 => ["over", "under"]
  | 20 => ["pool", "at", "great"]
  | 21 => ["one", "other", "part", "whole"]
  | 22 => ["pool"]
  | 23 => ["one", "other", "least", "greatest"]
  | 24 => ["one", "other", "least", "greatest", "due"]
  | 25 => ["due"]
  | 26 => ["row"]
  | 27 => ["script"]
  | _ => []
def isxF (k : Nat) : Bool := match k with
  | 1 => true
  | _ => false
def cvF (K : PySem.W.Frag) (c : Nat) : Option Value := match c with
  | 1 => some (.ref (He.ga K "BadNumber"))
  | 0 => some (.ref (He.ga K "StoneError"))
  | 2 => some (.type "ValueError")
  | _ => none
def tabsF (K : PySem.W.Frag) : List Addr := [(He.cT K ("are_wholes", none)).2, (He.cT K ("share_bounds", none)).2]
noncomputable def GK (P : Program) (w : World) (K : PySem.W.Frag) (mg : Str → Option Value) (base : Heap) : SE where
  P := P
  w := w
  K := K
  kc := C0.kc
  cls := clsF K
  nm := fun _ => none
  mg := mg
  base := base
  fa := faF K
  fd := fun n => fdOf K (faF K n)
  pn := pnF
  isx := isxF
  cv := cvF K
  psi := fun _ => True
  tabs := tabsF K
def cdK (K : PySem.W.Frag) (n : Nat) : Addr := match n with
  | 0 => He.codeOf K ("is_whole", none)
  | 1 => He.codeOf K ("is_whole_from", none)
  | 2 => He.codeOf K ("is_whole_between", none)
  | 3 => He.codeOf K ("are_wholes", none)
  | 4 => He.codeOf K ("lowest", none)
  | 5 => He.codeOf K ("is_less", none)
  | 6 => He.codeOf K ("is_fraction", none)
  | 7 => He.codeOf K ("minus", none)
  | 8 => He.codeOf K ("divided", none)
  | 9 => He.codeOf K ("less_of", none)
  | 10 => He.codeOf K ("greater_of", none)
  | 11 => He.codeOf K ("span_of_weights", none)
  | 12 => He.codeOf K ("share_at", none)
  | 13 => He.codeOf K ("cut_shares", none)
  | 14 => He.codeOf K ("check_weights", none)
  | 15 => He.codeOf K ("density", none)
  | 16 => He.codeOf K ("share_bounds", none)
  | 17 => He.codeOf K ("_law_pool", none)
  | 18 => He.codeOf K ("_law_same", none)
  | 19 => He.codeOf K ("_law_lowest", none)
  | 20 => He.codeOf K ("_law_fraction", none)
  | 21 => He.codeOf K ("_law_between", none)
  | 22 => He.codeOf K ("_law_case", none)
  | 23 => He.codeOf K ("_law_due", none)
  | 24 => He.codeOf K ("_law_twelfths", none)
  | 25 => He.codeOf K ("_law_left", none)
  | 26 => He.codeOf K ("_law_refused", none)
  | 27 => He.codeOf K ("law", none)
  | _ => 0
def tbK (K : PySem.W.Frag) (n : Nat) : Addr := He.tabOf K (cdK K n)
def d0 : He.DefD := ⟨("is_whole", none), "is_whole", "is_whole", defArgs (top 5), defBody (top 5), defScope (top 5), [], []⟩
def d1 : He.DefD := ⟨("is_whole_from", none), "is_whole_from", "is_whole_from", defArgs (top 6), defBody (top 6), defScope (top 6), [], []⟩
def d2 : He.DefD := ⟨("is_whole_between", none), "is_whole_between", "is_whole_between", defArgs (top 7), defBody (top 7), defScope (top 7), [], []⟩
def d3 : He.DefD := ⟨("are_wholes", none), "are_wholes", "are_wholes", defArgs (top 8), defBody (top 8), defScope (top 8), [], []⟩
def d4 : He.DefD := ⟨("lowest", none), "lowest", "lowest", defArgs (top 10), defBody (top 10), defScope (top 10), [], []⟩
def d5 : He.DefD := ⟨("is_less", none), "is_less", "is_less", defArgs (top 11), defBody (top 11), defScope (top 11), [], []⟩
def d6 : He.DefD := ⟨("is_fraction", none), "is_fraction", "is_fraction", defArgs (top 15), defBody (top 15), defScope (top 15), [], []⟩
def d7 : He.DefD := ⟨("minus", none), "minus", "minus", defArgs (top 16), defBody (top 16), defScope (top 16), [], []⟩
def d8 : He.DefD := ⟨("divided", none), "divided", "divided", defArgs (top 17), defBody (top 17), defScope (top 17), [], []⟩
def d9 : He.DefD := ⟨("less_of", none), "less_of", "less_of", defArgs (top 18), defBody (top 18), defScope (top 18), [], []⟩
def d10 : He.DefD := ⟨("greater_of", none), "greater_of", "greater_of", defArgs (top 19), defBody (top 19), defScope (top 19), [], []⟩
def d11 : He.DefD := ⟨("span_of_weights", none), "span_of_weights", "span_of_weights", defArgs (top 20), defBody (top 20), defScope (top 20), [], []⟩
def d12 : He.DefD := ⟨("share_at", none), "share_at", "share_at", defArgs (top 21), defBody (top 21), defScope (top 21), [], []⟩
def d13 : He.DefD := ⟨("cut_shares", none), "cut_shares", "cut_shares", defArgs (top 22), defBody (top 22), defScope (top 22), [], []⟩
def d14 : He.DefD := ⟨("check_weights", none), "check_weights", "check_weights", defArgs (top 24), defBody (top 24), defScope (top 24), [], []⟩
def d15 : He.DefD := ⟨("density", none), "density", "density", defArgs (top 25), defBody (top 25), defScope (top 25), [], []⟩
def d16 : He.DefD := ⟨("share_bounds", none), "share_bounds", "share_bounds", defArgs (top 26), defBody (top 26), defScope (top 26), [], []⟩
def d17 : He.DefD := ⟨("_law_pool", none), "_law_pool", "_law_pool", defArgs (top 28), defBody (top 28), defScope (top 28), [], []⟩
def d18 : He.DefD := ⟨("_law_same", none), "_law_same", "_law_same", defArgs (top 29), defBody (top 29), defScope (top 29), [], []⟩
def d19 : He.DefD := ⟨("_law_lowest", none), "_law_lowest", "_law_lowest", defArgs (top 30), defBody (top 30), defScope (top 30), [], []⟩
def d20 : He.DefD := ⟨("_law_fraction", none), "_law_fraction", "_law_fraction", defArgs (top 31), defBody (top 31), defScope (top 31), [], []⟩
def d21 : He.DefD := ⟨("_law_between", none), "_law_between", "_law_between", defArgs (top 32), defBody (top 32), defScope (top 32), [], []⟩
def d22 : He.DefD := ⟨("_law_case", none), "_law_case", "_law_case", defArgs (top 33), defBody (top 33), defScope (top 33), [], []⟩
def d23 : He.DefD := ⟨("_law_due", none), "_law_due", "_law_due", defArgs (top 34), defBody (top 34), defScope (top 34), [], []⟩
def d24 : He.DefD := ⟨("_law_twelfths", none), "_law_twelfths", "_law_twelfths", defArgs (top 35), defBody (top 35), defScope (top 35), [], []⟩
def d25 : He.DefD := ⟨("_law_left", none), "_law_left", "_law_left", defArgs (top 36), defBody (top 36), defScope (top 36), [], []⟩
def d26 : He.DefD := ⟨("_law_refused", none), "_law_refused", "_law_refused", defArgs (top 37), defBody (top 37), defScope (top 37), [], []⟩
def d27 : He.DefD := ⟨("law", none), "law", "law", defArgs (top 38), defBody (top 38), defScope (top 38), [], []⟩
def fnL : List He.DefD := [d0, d1, d2, d3, d4, d5, d6, d7, d8, d9, d10, d11, d12, d13, d14, d15, d16, d17, d18, d19, d20, d21, d22, d23, d24, d25, d26, d27]
def faL : List He.Fa := [.glo "is_whole", .glo "is_whole_from", .glo "is_whole_between", .glo "are_wholes", .glo "lowest", .glo "is_less", .glo "is_fraction", .glo "minus", .glo "divided", .glo "less_of", .glo "greater_of", .glo "span_of_weights", .glo "share_at", .glo "cut_shares", .glo "check_weights", .glo "density", .glo "share_bounds", .glo "_law_pool", .glo "_law_same", .glo "_law_lowest", .glo "_law_fraction", .glo "_law_between", .glo "_law_case", .glo "_law_due", .glo "_law_twelfths", .glo "_law_left", .glo "_law_refused", .glo "law", .glo "BadNumber", .glo "StoneError", .glo "NOTHING", .glo "ALL", .free "min", .free "all", .free "isinstance", .free "tuple", .free "len", .free "bool", .free "int", .free "range", .free "abs", .free "str", .free "ValueError", .exc "BadNumber"]
def tfL : List He.Defn := [("are_wholes", none), ("share_bounds", none)]
def exL (K : PySem.W.Frag) : List Bool := [gloB K "gcd" (.builtin "math.gcd"), excB K (He.ga K "BadNumber"), undB K (He.ga K "BadNumber") (.ref (He.ga K "BadNumber")) true, undB K (He.ga K "BadNumber") (.ref (He.ga K "StoneError")) true, undB K (He.ga K "BadNumber") (.type "ValueError") true, He.tupB K "NOTHING" [.int 0, .int 1], He.tupB K "ALL" [.int 1, .int 1]]
def exK (K : PySem.W.Frag) : Bool := (exL K).all id
theorem exK_at {K : PySem.W.Frag} (h : exK K = true) (i : Nat) {b : Bool} (e : (exL K)[i]? = some b) : b = true := List.all_eq_true.mp h b (List.mem_of_getElem? e)
section
variable {P : Program} {w : World} {K : PySem.W.Frag} {mg : Str → Option Value} {base h : Heap}
theorem sfK (X : K.In h) (G : h.Ns mainGlobals mg) (c : He.SaysD faL fnL K) : SF (GK P w K mg base) (cdK K) := by
  refine ⟨?_, rfl, ?_, rfl, ?_, rfl, ?_, rfl, ?_, rfl, ?_, rfl, ?_, rfl, ?_, rfl, ?_, rfl, ?_, rfl, ?_, rfl, ?_, rfl, ?_, rfl, ?_, rfl, ?_, rfl, ?_, rfl, ?_, rfl, ?_, rfl, ?_, rfl, ?_, rfl, ?_, rfl, ?_, rfl, ?_, rfl, ?_, rfl, ?_, rfl, ?_, rfl, ?_, rfl, ?_, rfl⟩
  · obtain ⟨fd, F⟩ := c.def_ 0 (d := d0) rfl; exact funC_of F
  · obtain ⟨fd, F⟩ := c.def_ 1 (d := d1) rfl; exact funC_of F
  · obtain ⟨fd, F⟩ := c.def_ 2 (d := d2) rfl; exact funC_of F
  · obtain ⟨fd, F⟩ := c.def_ 3 (d := d3) rfl; exact funC_of F
  · obtain ⟨fd, F⟩ := c.def_ 4 (d := d4) rfl; exact funC_of F
  · obtain ⟨fd, F⟩ := c.def_ 5 (d := d5) rfl; exact funC_of F
  · obtain ⟨fd, F⟩ := c.def_ 6 (d := d6) rfl; exact funC_of F
  · obtain ⟨fd, F⟩ := c.def_ 7 (d := d7) rfl; exact funC_of F
  · obtain ⟨fd, F⟩ := c.def_ 8 (d := d8) rfl; exact funC_of F
  · obtain ⟨fd, F⟩ := c.def_ 9 (d := d9) rfl; exact funC_of F
  · obtain ⟨fd, F⟩ := c.def_ 10 (d := d10) rfl; exact funC_of F
  · obtain ⟨fd, F⟩ := c.def_ 11 (d := d11) rfl; exact funC_of F
  · obtain ⟨fd, F⟩ := c.def_ 12 (d := d12) rfl; exact funC_of F
  · obtain ⟨fd, F⟩ := c.def_ 13 (d := d13) rfl; exact funC_of F
  · obtain ⟨fd, F⟩ := c.def_ 14 (d := d14) rfl; exact funC_of F
  · obtain ⟨fd, F⟩ := c.def_ 15 (d := d15) rfl; exact funC_of F
  · obtain ⟨fd, F⟩ := c.def_ 16 (d := d16) rfl; exact funC_of F
  · obtain ⟨fd, F⟩ := c.def_ 17 (d := d17) rfl; exact funC_of F
  · obtain ⟨fd, F⟩ := c.def_ 18 (d := d18) rfl; exact funC_of F
  · obtain ⟨fd, F⟩ := c.def_ 19 (d := d19) rfl; exact funC_of F
  · obtain ⟨fd, F⟩ := c.def_ 20 (d := d20) rfl; exact funC_of F
  · obtain ⟨fd, F⟩ := c.def_ 21 (d := d21) rfl; exact funC_of F
  · obtain ⟨fd, F⟩ := c.def_ 22 (d := d22) rfl; exact funC_of F
  · obtain ⟨fd, F⟩ := c.def_ 23 (d := d23) rfl; exact funC_of F
  · obtain ⟨fd, F⟩ := c.def_ 24 (d := d24) rfl; exact funC_of F
  · obtain ⟨fd, F⟩ := c.def_ 25 (d := d25) rfl; exact funC_of F
  · obtain ⟨fd, F⟩ := c.def_ 26 (d := d26) rfl; exact funC_of F
  · obtain ⟨fd, F⟩ := c.def_ 27 (d := d27) rfl; exact funC_of F
theorem bdK (sf : SF (GK P w K mg base) (cdK K)) : ∀ f D, PG f = some D → Binds (GK P w K mg base).K ((GK P w K mg base).fd f) ((GK P w K mg base).pn f) [] := by
  intro f D h
  unfold PG at h
  split at h
  · exact sf.f0.fn.binds (ps := ["value"]) fun _ _ _ _ _ _ us hl => match us, hl with | [_], _ => rfl
  · exact sf.f1.fn.binds (ps := ["value", "least"]) fun _ _ _ _ _ _ us hl => match us, hl with | [_, _], _ => rfl
  · exact sf.f2.fn.binds (ps := ["value", "least", "greatest"]) fun _ _ _ _ _ _ us hl => match us, hl with | [_, _, _], _ => rfl
  · exact sf.f3.fn.binds (ps := ["values"]) fun _ _ _ _ _ _ us hl => match us, hl with | [_], _ => rfl
  · exact sf.f4.fn.binds (ps := ["over", "under"]) fun _ _ _ _ _ _ us hl => match us, hl with | [_, _], _ => rfl
  · exact sf.f5.fn.binds (ps := ["one", "other"]) fun _ _ _ _ _ _ us hl => match us, hl with | [_, _], _ => rfl
  · exact sf.f6.fn.binds (ps := ["value"]) fun _ _ _ _ _ _ us hl => match us, hl with | [_], _ => rfl
  · exact sf.f7.fn.binds (ps := ["one", "other"]) fun _ _ _ _ _ _ us hl => match us, hl with | [_, _], _ => rfl
  · exact sf.f8.fn.binds (ps := ["one", "other"]) fun _ _ _ _ _ _ us hl => match us, hl with | [_, _], _ => rfl
  · exact sf.f9.fn.binds (ps := ["one", "other"]) fun _ _ _ _ _ _ us hl => match us, hl with | [_, _], _ => rfl
  · exact sf.f10.fn.binds (ps := ["one", "other"]) fun _ _ _ _ _ _ us hl => match us, hl with | [_, _], _ => rfl
  · exact sf.f11.fn.binds (ps := ["air", "water", "error"]) fun _ _ _ _ _ _ us hl => match us, hl with | [_, _, _], _ => rfl
  · exact sf.f12.fn.binds (ps := ["one", "other", "density"]) fun _ _ _ _ _ _ us hl => match us, hl with | [_, _, _], _ => rfl
  · exact sf.f13.fn.binds (ps := ["first", "last"]) fun _ _ _ _ _ _ us hl => match us, hl with | [_, _], _ => rfl
  · exact sf.f14.fn.binds (ps := ["air", "water", "error"]) fun _ _ _ _ _ _ us hl => match us, hl with | [_, _, _], _ => rfl
  · exact sf.f15.fn.binds (ps := ["air", "water", "error"]) fun _ _ _ _ _ _ us hl => match us, hl with | [_, _, _], _ => rfl
  · exact sf.f16.fn.binds (ps := ["one", "other", "least", "greatest"]) fun _ _ _ _ _ _ us hl => match us, hl with | [_, _, _, _], _ => rfl
  · exact sf.f17.fn.binds (ps := ["script", "many"]) fun _ _ _ _ _ _ us hl => match us, hl with | [_, _], _ => rfl
  · exact sf.f18.fn.binds (ps := ["found", "due"]) fun _ _ _ _ _ _ us hl => match us, hl with | [_, _], _ => rfl
  · exact sf.f19.fn.binds (ps := ["over", "under"]) fun _ _ _ _ _ _ us hl => match us, hl with | [_, _], _ => rfl
  · exact sf.f20.fn.binds (ps := ["pool", "at", "great"]) fun _ _ _ _ _ _ us hl => match us, hl with | [_, _, _], _ => rfl
  · exact sf.f21.fn.binds (ps := ["one", "other", "part", "whole"]) fun _ _ _ _ _ _ us hl => match us, hl with | [_, _, _, _], _ => rfl
  · exact sf.f22.fn.binds (ps := ["pool"]) fun _ _ _ _ _ _ us hl => match us, hl with | [_], _ => rfl
  · exact sf.f23.fn.binds (ps := ["one", "other", "least", "greatest"]) fun _ _ _ _ _ _ us hl => match us, hl with | [_, _, _, _], _ => rfl
  · exact sf.f24.fn.binds (ps := ["one", "other", "least", "greatest", "due"]) fun _ _ _ _ _ _ us hl => match us, hl with | [_, _, _, _, _], _ => rfl
  · exact sf.f25.fn.binds (ps := ["due"]) fun _ _ _ _ _ _ us hl => match us, hl with | [_], _ => rfl
  · exact sf.f26.fn.binds (ps := ["row"]) fun _ _ _ _ _ _ us hl => match us, hl with | [_], _ => rfl
  · exact sf.f27.fn.binds (ps := ["script"]) fun _ _ _ _ _ _ us hl => match us, hl with | [_], _ => rfl
  · cases h
theorem undK (ex : exK K = true) (k c : Nat) (cv : Value) (hk : isxF k = true) (hc : cvF K c = some cv) : PySem.W.exmOne K (.ref (clsF K k)) cv = some (C0.sub k c) ∧ PySem.W.kitOne K (.ref (clsF K k)) cv = some (C0.sub k c) := by
  unfold isxF at hk
  split at hk
  · unfold cvF at hc
    split at hc
    · cases hc; exact undB_ok (exK_at ex 2 rfl)
    · cases hc; exact undB_ok (exK_at ex 3 rfl)
    · cases hc; exact undB_ok (exK_at ex 4 rfl)
    · cases hc
  · cases hk
theorem excK (ex : exK K = true) (k : Nat) (hk : isxF k = true) : ExcC K (clsF K k) := by
  unfold isxF at hk
  split at hk
  · exact excB_ok (exK_at ex 1 rfl)
  · cases hk
theorem gfK (X : K.In h) (G : h.Ns mainGlobals mg) (c : He.SaysD faL fnL K) (ex : exK K = true) (sf : SF (GK P w K mg base) (cdK K)) (tb : ∀ p ∈ tfL, GxR.TabB base mg (He.cT K p).1 (He.cT K p).2) : GF (GK P w K mg base) (cdK K) (tbK K) where
  psi := fun _ => trivial
  hc := fun xs h => by
    have h : PV.tup xs ∈ C0.kc := h
    simp only [C0, List.mem_cons, List.not_mem_nil, or_false, PV.tup.injEq] at h
    rcases h with rfl | rfl <;> decide
  kc := rfl
  g0 := ⟨rfl, fun f g n h => absurd h (by intro e; cases e), fun c f h => absurd h (by intro e; cases e), fun c m f h => absurd h (by intro e; cases e), fun k c cv hk hcv => (undK ex k c cv hk hcv).1, fun k c cv hk hcv => (undK ex k c cv hk hcv).2, fun k hk => excK ex k hk⟩
  mg__law_pool := He.glo_ok X G (c.fact 17 (f := .glo "_law_pool") rfl)
  mg__law_case := He.glo_ok X G (c.fact 22 (f := .glo "_law_case") rfl)
  mg__law_due := He.glo_ok X G (c.fact 23 (f := .glo "_law_due") rfl)
  mg__law_twelfths := He.glo_ok X G (c.fact 24 (f := .glo "_law_twelfths") rfl)
  mg__law_same := He.glo_ok X G (c.fact 18 (f := .glo "_law_same") rfl)
  mg_share_bounds := He.glo_ok X G (c.fact 16 (f := .glo "share_bounds") rfl)
  kb_16_3_2_1_0 := fun s us ws h1 h2 => by
    obtain ⟨oc, od, kV, doc, pm, an, ct, osl, e, _⟩ := sf.f16.ex
    rw [e]
    match us, h1, ws, h2 with
    | [], _, [_, _, _, _], _ => exact .of_eq rfl
  mg__law_left := He.glo_ok X G (c.fact 25 (f := .glo "_law_left") rfl)
  mg_min := He.free_ok X G (c.fact 32 (f := .free "min") rfl)
  mg__law_lowest := He.glo_ok X G (c.fact 19 (f := .glo "_law_lowest") rfl)
  mg_density := He.glo_ok X G (c.fact 15 (f := .glo "density") rfl)
  kb_15_2_1_0 := fun s us ws h1 h2 => by
    obtain ⟨oc, od, kV, doc, pm, an, ct, osl, e, _⟩ := sf.f15.ex
    rw [e]
    match us, h1, ws, h2 with
    | [], _, [_, _, _], _ => exact .of_eq rfl
  mg__law_refused := He.glo_ok X G (c.fact 26 (f := .glo "_law_refused") rfl)
  mg_is_fraction := He.glo_ok X G (c.fact 6 (f := .glo "is_fraction") rfl)
  mg_all := He.free_ok X G (c.fact 33 (f := .free "all") rfl)
  ri_1 := rfl
  rq_1 := (He.exc_ok (c.fact 43 (f := .exc "BadNumber") rfl)).1
  rk_1 := (He.exc_ok (c.fact 43 (f := .exc "BadNumber") rfl)).2.1
  rb_1 := (He.exc_ok (c.fact 43 (f := .exc "BadNumber") rfl)).2.2.1
  rt_1 := (He.exc_ok (c.fact 43 (f := .exc "BadNumber") rfl)).2.2.2
  mgc_BadNumber := He.glo_ok X G (c.fact 28 (f := .glo "BadNumber") rfl)
  mg_is_less := He.glo_ok X G (c.fact 5 (f := .glo "is_less") rfl)
  mg_cut_shares := He.glo_ok X G (c.fact 13 (f := .glo "cut_shares") rfl)
  mg_share_at := He.glo_ok X G (c.fact 12 (f := .glo "share_at") rfl)
  mg_divided := He.glo_ok X G (c.fact 8 (f := .glo "divided") rfl)
  mg_minus := He.glo_ok X G (c.fact 7 (f := .glo "minus") rfl)
  mg_lowest := He.glo_ok X G (c.fact 4 (f := .glo "lowest") rfl)
  mg_gcd := PySem.W.mg_of X G (of_decide_eq_true (exK_at ex 0 rfl))
  mg_isinstance := He.free_ok X G (c.fact 34 (f := .free "isinstance") rfl)
  mg_tuple := He.free_ok X G (c.fact 35 (f := .free "tuple") rfl)
  mg_len := He.free_ok X G (c.fact 36 (f := .free "len") rfl)
  mg_are_wholes := He.glo_ok X G (c.fact 3 (f := .glo "are_wholes") rfl)
  mg_is_whole := He.glo_ok X G (c.fact 0 (f := .glo "is_whole") rfl)
  mg_bool := He.free_ok X G (c.fact 37 (f := .free "bool") rfl)
  mg_int := He.free_ok X G (c.fact 38 (f := .free "int") rfl)
  mg_greater_of := He.glo_ok X G (c.fact 10 (f := .glo "greater_of") rfl)
  gglob_NOTHING := ⟨.ref (He.ga K "NOTHING"), .ref (He.ga K "NOTHING"), He.glo_ok X G (c.fact 30 (f := .glo "NOTHING") rfl), rfl, fun H φ M => by
    rw [RV]
    exact ⟨_, _, rfl, .inr ⟨He.tupB_ok (exK_at ex 5 rfl) (fun _ => none), by simp [GK, C0]⟩, by simp [RVs, RV, He.Dv.v]⟩⟩
  mg_less_of := He.glo_ok X G (c.fact 9 (f := .glo "less_of") rfl)
  gglob_ALL := ⟨.ref (He.ga K "ALL"), .ref (He.ga K "ALL"), He.glo_ok X G (c.fact 31 (f := .glo "ALL") rfl), rfl, fun H φ M => by
    rw [RV]
    exact ⟨_, _, rfl, .inr ⟨He.tupB_ok (exK_at ex 6 rfl) (fun _ => none), by simp [GK, C0]⟩, by simp [RVs, RV, He.Dv.v]⟩⟩
  mg_check_weights := He.glo_ok X G (c.fact 14 (f := .glo "check_weights") rfl)
  mg_span_of_weights := He.glo_ok X G (c.fact 11 (f := .glo "span_of_weights") rfl)
  mg_is_whole_from := He.glo_ok X G (c.fact 1 (f := .glo "is_whole_from") rfl)
  mg_is_whole_between := He.glo_ok X G (c.fact 2 (f := .glo "is_whole_between") rfl)
  mg_range := He.free_ok X G (c.fact 39 (f := .free "range") rfl)
  mg__law_between := He.glo_ok X G (c.fact 21 (f := .glo "_law_between") rfl)
  mg_abs := He.free_ok X G (c.fact 40 (f := .free "abs") rfl)
  mg_str := He.free_ok X G (c.fact 41 (f := .free "str") rfl)
  cv_1 := rfl
  cv_0 := rfl
  mgc_StoneError := He.glo_ok X G (c.fact 29 (f := .glo "StoneError") rfl)
  cv_2 := rfl
  mg_ValueError := He.free_ok X G (c.fact 42 (f := .free "ValueError") rfl)
  mg__law_fraction := He.glo_ok X G (c.fact 20 (f := .glo "_law_fraction") rfl)
  tab_3 := show tbK K 3 ∈ tabsF K by simp [tabsF, tbK, cdK, He.cT]
  tb_3 := tb ("are_wholes", none) (by simp [tfL])
  tab_16 := show tbK K 16 ∈ tabsF K by simp [tabsF, tbK, cdK, He.cT]
  tb_16 := tb ("share_bounds", none) (by simp [tfL])
end
end LW
set_option Elab.async false
set_option linter.all false
set_option autoImplicit false
set_option maxRecDepth 100000
set_option maxHeartbeats 4000000
namespace LW
open PySem PySem.Spec PyProof.Rows L2 E
abbrev RWL : PySem.W.OpenLaw := PySem.Challenge.rw_streakbook_k48_shares_of_a_lump
abbrev RWR : PySem.W.OpenRow := PySem.W.OpenLaw.row RWL
abbrev hkL : PySem.W.Hook := He.hookX 4 faL fnL [] tfL exK
def obL (s : PySem.W.SharedT) : He.AlX := He.obsX 4 faL fnL [] tfL exK (HandSHeadRun.getT s)
theorem obL_eq (s : PySem.W.SharedT) : obL s = hkL.obs s.abs := He.obsX_eq (HandSHeadRun.getT_eq s)
def looseL : List Str := (["__name__", "StoneError", "BadNumber", "is_whole", "is_whole_from", "is_whole_between", "are_wholes", "lowest", "is_less", "NOTHING", "ALL", "is_fraction"] : List Str) ++ (["minus", "divided", "less_of", "greater_of", "span_of_weights", "share_at", "cut_shares", "check_weights", "density", "share_bounds", "_law_pool", "_law_same"] : List Str) ++ (["_law_lowest", "_law_fraction", "_law_between", "_law_case", "_law_due", "_law_twelfths", "_law_left", "_law_refused"] : List Str)
theorem runL (w : World) : HandSHeadRun.RunEqI RWR (PySem.W.view RWR.prog [0, 38]) hkL obL 8000 looseL w := by
  unfold HandSHeadRun.RunEqI
  kernel_rfl
abbrev DD : Nat := 21
section
variable {w : World} {K : PySem.W.Frag} {mg : Str → Option Value} {h : Heap} {fa : Addr}
theorem lawAt (KX : K.In h) (G : h.Ns mainGlobals mg) (hmg : mg ("law" : Str) = some (.ref fa)) (c : He.SaysX faL fnL [] tfL exK w h K)
    (plain : ∀ ns : List Int, ns.length ≤ 63 → (∀ z ∈ ns, Builtin.Int.intBits z ≤ 1048576) → callD PG C0 DD 27 [.lst (ns.map .int)] [] = .ok (.bl true) []) : LamX.LawAtS RWL w K (L2.CX RWL.prog w) (3 * DD) 63 "script" mg fa h := by
  have sf0 : ∀ base, SF (GK RWL.prog w K mg base) (cdK K) := fun base => sfK KX G c.t.d
  have e0 := He.glo_ok KX G (c.t.d.fact 27 (f := .glo "law") rfl)
  have e := hmg.symm.trans e0
  cases e
  refine ⟨fdOf K (faF K 27), tfL.map (He.cT K), spLaw K (tabsF K), ?_, ?_, ?_, funC_one (sf0 h).f27 fun _ _ _ _ _ _ _ => rfl, ?_, fun base Xb Gb tb => ?_⟩
  · intro p hp
    obtain ⟨q, hq, rfl⟩ := List.mem_map.mp hp
    exact c.empty q hq
  · intro p hp
    obtain ⟨q, hq, rfl⟩ := List.mem_map.mp hp
    exact c.out q hq
  · intro p hp
    obtain ⟨q, hq, rfl⟩ := List.mem_map.mp hp
    exact PySem.W.codeHd_of_K KX (c.hd q hq)
  · intro H a ns hl hb ht hS
    refine ⟨a, ns, rfl, hS, hl, hb, fun p hp => ?_, fun _ => rfl⟩
    simp only [tabsF, List.mem_cons, List.not_mem_nil, or_false] at hp
    rcases hp with rfl | rfl
    · exact ht _ (List.mem_map.mpr ⟨_, by simp [tfL], rfl⟩)
    · exact ht _ (List.mem_map.mpr ⟨_, by simp [tfL], rfl⟩)
  · have gf := gfK Xb Gb c.t.d c.more (sf0 base) fun p hp => tabB_to (tb _ (List.mem_map.mpr ⟨p, hp, rfl⟩))
    have F := (all_f (sideK (sf0 base) (bdK (sf0 base))) (stp gf (sf0 base)) DD 27 D27 rfl).ok
    exact F.imp fun vs H Q E z => spLaw_in (fun _ => trivial) plain vs H Q E z
end
theorem endL (plain : ∀ ns : List Int, ns.length ≤ 63 → (∀ z ∈ ns, Builtin.Int.intBits z ≤ 1048576) → callD PG C0 DD 27 [.lst (ns.map .int)] [] = .ok (.bl true) []) : RWL.Holds := by
  w_on; o_law
  refine HandSHeadRun.head_imp (r := PySem.W.OpenLaw.row RWL) (q := PySem.W.view (PySem.W.OpenLaw.row RWL).prog [0, 38]) (H := hkL) (ob := obL) (M := 8000) (loose := looseL) (d := HandSHeadRun.topDef (PySem.W.OpenLaw.row RWL).prog 38) (kwd := []) obL_eq runL
    (by kernel_rfl) (by kernel_rfl) (by kernel_rfl) (by rfl) (by first | assumption | decide +kernel) (by decide +kernel) ⟨rfl, rfl, rfl, rfl, rfl, by decide +kernel⟩ ?hw ?hc
  case hw => w_witness2
  case hc =>
    refine LamX.walk_ofTsE (l := RWL) (n := 63) (k := 3 * DD) (x := "script") (CX := fun w => L2.CX RWL.prog w) rfl (by decide) (by kernel_rfl) ⟨rfl, by decide, by decide⟩ ?F (fun _ _ _ _ _ z => cx_no z)
    intro w mg fa h Y G hmg0
    obtain ⟨K, KX, c⟩ := Y
    have hmg : mg ("law" : PySem.Str) = some (.ref fa) := by
      have e : (HandSHeadRun.topDef RWR.prog 38).name = ("law" : PySem.Str) := by kernel_rfl
      rw [← e]
      exact hmg0
    exact ⟨K, KX, lawAt KX G hmg c plain⟩
end LW
set_option Elab.async false
set_option linter.all false
set_option autoImplicit false
set_option maxRecDepth 100000
set_option maxHeartbeats 1000000
namespace LW
open PySem E
/-! ### fractions in lowest terms -/
structure Fr where
  n : Int
  d : Int
  pos : 0 < d
  cop : Nat.gcd n.natAbs d.natAbs = 1
def Fr.pv (x : Fr) : PV := .tup [.int x.n, .int x.d]
def frz : Fr := ⟨0, 1, by decide, by decide⟩
def fro : Fr := ⟨1, 1, by decide, by decide⟩
theorem Fr.ext {x y : Fr} (h1 : x.n = y.n) (h2 : x.d = y.d) : x = y := by
  cases x; cases y
  cases h1; cases h2
  rfl
theorem Fr.uniq {x y : Fr} (h : x.n * y.d = y.n * x.d) : x = y := by
  have e : x.n.natAbs * y.d.natAbs = y.n.natAbs * x.d.natAbs := by
    rw [← Int.natAbs_mul, ← Int.natAbs_mul, h]
  have hx := x.pos; have hy := y.pos
  have c1 : Nat.Coprime x.d.natAbs x.n.natAbs := by
    have := x.cop
    rwa [Nat.gcd_comm] at this
  have c2 : Nat.Coprime y.d.natAbs y.n.natAbs := by
    have := y.cop
    rwa [Nat.gcd_comm] at this
  have d1 : x.d.natAbs ∣ y.d.natAbs := c1.dvd_of_dvd_mul_left ⟨y.n.natAbs, by rw [e, Nat.mul_comm]⟩
  have d2 : y.d.natAbs ∣ x.d.natAbs := c2.dvd_of_dvd_mul_left ⟨x.n.natAbs, by rw [← e, Nat.mul_comm]⟩
  have ed : x.d.natAbs = y.d.natAbs := Nat.dvd_antisymm d1 d2
  have ed2 : x.d = y.d := by omega
  refine Fr.ext ?_ ed2
  rw [ed2] at h
  exact Int.eq_of_mul_eq_mul_right (by omega) h
/-- o / u in lowest terms -/
theorem low_ok (o u : Int) (hu : 0 < u) : ∃ x : Fr, x.n = o / ((Nat.gcd o.natAbs u.natAbs : Nat) : Int) ∧ x.d = u / ((Nat.gcd o.natAbs u.natAbs : Nat) : Int) ∧ x.n * u = o * x.d := by
  have hg : 0 < Nat.gcd o.natAbs u.natAbs := Nat.gcd_pos_of_pos_right _ (by omega)
  generalize hge : Nat.gcd o.natAbs u.natAbs = g at hg
  have d1 : (g : Int) ∣ o := by
    rw [← Int.natAbs_dvd_natAbs, Int.natAbs_natCast, ← hge]
    exact Nat.gcd_dvd_left _ _
  have d2 : (g : Int) ∣ u := by
    rw [← Int.natAbs_dvd_natAbs, Int.natAbs_natCast, ← hge]
    exact Nat.gcd_dvd_right _ _
  obtain ⟨a, ha⟩ := d1
  obtain ⟨b, hb⟩ := d2
  have g0 : (g : Int) ≠ 0 := by omega
  have ea : o / (g : Int) = a := by rw [ha, Int.mul_ediv_cancel_left _ g0]
  have eb : u / (g : Int) = b := by rw [hb, Int.mul_ediv_cancel_left _ g0]
  have hb0 : 0 < b := by
    rcases Int.lt_or_le 0 b with h | h
    · exact h
    · have : (g : Int) * b ≤ 0 := Int.mul_nonpos_of_nonneg_of_nonpos (by omega) h
      omega
  have hc : Nat.gcd a.natAbs b.natAbs = 1 := by
    have : g * Nat.gcd a.natAbs b.natAbs = g * 1 := by
      rw [← Nat.gcd_mul_left, Nat.mul_one]
      have e1 : g * a.natAbs = o.natAbs := by rw [ha, Int.natAbs_mul, Int.natAbs_natCast]
      have e2 : g * b.natAbs = u.natAbs := by rw [hb, Int.natAbs_mul, Int.natAbs_natCast]
      rw [e1, e2, hge]
    exact Nat.eq_of_mul_eq_mul_left hg this
  refine ⟨⟨a, b, hb0, hc⟩, ea.symm, eb.symm, ?_⟩
  show a * u = o * b
  rw [ha, hb]
  grind
theorem div_sz {o g : Int} {m : Nat} [Sz o m] : Sz (o / g) m := inferInstance
/-! ### orders -/
theorem pos_mul_lt {a b c : Int} (hc : 0 < c) : a * c < b * c ↔ a < b := ⟨fun h => Int.lt_of_mul_lt_mul_right h (by omega), fun h => Int.mul_lt_mul_of_pos_right h hc⟩
theorem pos_mul_le {a b c : Int} (hc : 0 < c) : a * c ≤ b * c ↔ a ≤ b := ⟨fun h => Int.le_of_mul_le_mul_right h hc, fun h => Int.mul_le_mul_of_nonneg_right h (by omega)⟩
/-- p / q and s are one number: so they lie alike to k / m -/
theorem same_lt {n d o u : Int} (hd : 0 < d) (hu : 0 < u) (h : n * u = o * d) (k m : Int) : (n * m < k * d ↔ o * m < k * u) := by
  have e1 : n * m * u = (o * m) * d := by grind
  have e2 : k * d * u = (k * u) * d := by grind
  rw [← pos_mul_lt hu, e1, e2, pos_mul_lt hd]
theorem same_gt {n d o u : Int} (hd : 0 < d) (hu : 0 < u) (h : n * u = o * d) (k m : Int) : (k * d < n * m ↔ k * u < o * m) := by
  have e1 : n * m * u = (o * m) * d := by grind
  have e2 : k * d * u = (k * u) * d := by grind
  rw [← pos_mul_lt hu, e1, e2, pos_mul_lt hd]
theorem same_le {n d o u : Int} (hd : 0 < d) (hu : 0 < u) (h : n * u = o * d) (k m : Int) : (n * m ≤ k * d ↔ o * m ≤ k * u) := by
  have := same_gt hd hu h k m
  omega
theorem same_ge {n d o u : Int} (hd : 0 < d) (hu : 0 < u) (h : n * u = o * d) (k m : Int) : (k * d ≤ n * m ↔ k * u ≤ o * m) := by
  have := same_lt hd hu h k m
  omega
/-! ### shares -/
abbrev del (a b : Fr) : Int := a.n * b.d - b.n * a.d
abbrev num (b x : Fr) : Int := x.n * b.d - b.n * x.d
/-- s is the share at x -/
def IsSh (a b x s : Fr) : Prop := s.n * (del a b * x.d) = (num b x * a.d) * s.d
theorem sh_of {a b x s : Fr} {m1n m1d m2n m2d : Int} (h1 : m1n * (x.d * b.d) = num b x * m1d) (h2 : m2n * (a.d * b.d) = del a b * m2d) (p1 : m1d ≠ 0) (p2 : m2d ≠ 0) (hs : s.n * (m1d * m2n) = (m1n * m2d) * s.d) : IsSh a b x s := by
  have hb := b.pos
  have e : (s.n * (del a b * x.d)) * (m1d * m2d * b.d) = ((num b x * a.d) * s.d) * (m1d * m2d * b.d) := by
    have k1 : (s.n * (del a b * x.d)) * (m1d * m2d * b.d) = s.n * (m1d * (x.d * b.d)) * (del a b * m2d) := by grind
    have k2 : ((num b x * a.d) * s.d) * (m1d * m2d * b.d) = (num b x * m1d) * (m2d * s.d * a.d * b.d) := by grind
    rw [k1, k2, ← h1, ← h2]
    grind
  exact Int.eq_of_mul_eq_mul_right (Int.mul_ne_zero (Int.mul_ne_zero p1 p2) (by omega)) e
theorem del_swap (a b : Fr) : del b a = -del a b := by
  unfold del
  grind
theorem del_ne {a b : Fr} (h : a ≠ b) : del a b ≠ 0 := fun e => h (Fr.uniq (by unfold del at e; omega))
/-- one less it -/
def Fr.com (s : Fr) : Fr := ⟨s.d - s.n, s.d, s.pos, by
  have h := s.cop
  have h1 := s.pos
  have e : Int.gcd (s.d - s.n) s.d = 1 := by
    rw [Int.gcd_comm, ← Int.gcd_neg, Int.neg_sub, Int.gcd_comm, Int.gcd_sub_self_left]
    exact h
  exact e⟩
theorem sh_com {a b x s : Fr} (h : IsSh a b x s) : IsSh b a x s.com := by
  unfold IsSh at h ⊢
  show (s.d - s.n) * (del b a * x.d) = (num a x * b.d) * s.d
  rw [del_swap]
  unfold del num at *
  grind
theorem sh_uniq {a b x s t : Fr} (hab : a ≠ b) (h : IsSh a b x s) (h2 : IsSh a b x t) : s = t := by
  apply Fr.uniq
  have hx := x.pos
  have hd : del a b * x.d ≠ 0 := Int.mul_ne_zero (del_ne hab) (by omega)
  unfold IsSh at h h2
  apply Int.eq_of_mul_eq_mul_right hd
  have e1 : s.n * t.d * (del a b * x.d) = (s.n * (del a b * x.d)) * t.d := by grind
  have e2 : t.n * s.d * (del a b * x.d) = (t.n * (del a b * x.d)) * s.d := by grind
  rw [e1, e2, h, h2]
  grind
/-- what is due -/
def Due (lo hi : Fr) : Option (Fr × Fr) := if hi.n * lo.d < lo.n * hi.d ∨ lo.d < lo.n ∨ hi.n < 0 then none else some (if lo.n < 0 then frz else lo, if hi.d < hi.n then fro else hi)
def duePv : Option (Fr × Fr) → PV
  | none => .non
  | some (x, y) => .tup [x.pv, y.pv]
/-- the cut of cut_shares -/
theorem cut_due (lo hi : Fr) : Due lo hi = (if (if hi.d < hi.n then fro else hi).n * (if lo.n < 0 then frz else lo).d < (if lo.n < 0 then frz else lo).n * (if hi.d < hi.n then fro else hi).d then none else some (if lo.n < 0 then frz else lo, if hi.d < hi.n then fro else hi)) := by
  have hl := lo.pos; have hh := hi.pos
  unfold Due
  have key : (hi.n * lo.d < lo.n * hi.d ∨ lo.d < lo.n ∨ hi.n < 0) ↔ (if hi.d < hi.n then fro else hi).n * (if lo.n < 0 then frz else lo).d < (if lo.n < 0 then frz else lo).n * (if hi.d < hi.n then fro else hi).d := by
    by_cases h1 : hi.d < hi.n <;> by_cases h2 : lo.n < 0 <;> simp only [h1, h2, if_true, if_false]
    · simp only [fro, frz]
      have e : hi.n * lo.d > 0 := Int.mul_pos (by omega) hl
      have e2 : lo.n * hi.d < 0 := Int.mul_neg_of_neg_of_pos h2 hh
      omega
    · simp only [fro]
      have e : lo.n ≤ lo.d → lo.n * hi.d ≤ hi.n * lo.d := fun h => by
        have a1 : lo.n * hi.d ≤ lo.d * hi.d := (pos_mul_le hh).mpr h
        have a2 : hi.d * lo.d ≤ hi.n * lo.d := (pos_mul_le hl).mpr (by omega)
        have a3 : lo.d * hi.d = hi.d * lo.d := Int.mul_comm _ _
        omega
      constructor
      · intro h
        rcases h with h | h | h
        · have := mt e
          omega
        · omega
        · omega
      · intro h
        exact .inr (.inl (by omega))
    · simp only [frz]
      have e : 0 ≤ hi.n → lo.n * hi.d ≤ hi.n * lo.d := fun h => by
        have a1 : lo.n * hi.d < 0 := Int.mul_neg_of_neg_of_pos h2 hh
        have a2 : 0 ≤ hi.n * lo.d := Int.mul_nonneg h (by omega)
        omega
      constructor
      · intro h
        rcases h with h | h | h
        · have := mt e
          omega
        · omega
        · omega
      · intro h
        exact .inr (.inr (by omega))
    · constructor
      · intro h
        rcases h with h | h | h
        · exact h
        · have a1 : lo.d * hi.d < lo.n * hi.d := (pos_mul_lt hh).mpr h
          have a2 : hi.n * lo.d ≤ hi.d * lo.d := (pos_mul_le hl).mpr (by omega)
          have a3 : lo.d * hi.d = hi.d * lo.d := Int.mul_comm _ _
          omega
        · have a1 : hi.n * lo.d < 0 := Int.mul_neg_of_neg_of_pos h hl
          have a2 : 0 ≤ lo.n * hi.d := Int.mul_nonneg (by omega) (by omega)
          omega
      · exact .inl
  by_cases h : hi.n * lo.d < lo.n * hi.d ∨ lo.d < lo.n ∨ hi.n < 0
  · rw [if_pos h, if_pos (key.mp h)]
  · rw [if_neg h, if_neg fun z => h (key.mpr z)]
def leftP : Option (Fr × Fr) → Option (Fr × Fr)
  | none => none
  | some (x, y) => some (y.com, x.com)
theorem com_z : frz.com = fro := Fr.ext rfl rfl
theorem com_o : fro.com = frz := Fr.ext rfl rfl
theorem due_left (lo hi : Fr) : Due hi.com lo.com = leftP (Due lo hi) := by
  unfold Due
  have e : (lo.com.n * hi.com.d < hi.com.n * lo.com.d ∨ hi.com.d < hi.com.n ∨ lo.com.n < 0) ↔ (hi.n * lo.d < lo.n * hi.d ∨ lo.d < lo.n ∨ hi.n < 0) := by
    show ((lo.d - lo.n) * hi.d < (hi.d - hi.n) * lo.d ∨ hi.d < hi.d - hi.n ∨ lo.d - lo.n < 0) ↔ _
    have e1 : (lo.d - lo.n) * hi.d = lo.d * hi.d - lo.n * hi.d := by grind
    have e2 : (hi.d - hi.n) * lo.d = lo.d * hi.d - hi.n * lo.d := by grind
    rw [e1, e2]
    constructor
    · intro h
      rcases h with h | h | h
      · exact .inl (by omega)
      · exact .inr (.inr (by omega))
      · exact .inr (.inl (by omega))
    · intro h
      rcases h with h | h | h
      · exact .inl (by omega)
      · exact .inr (.inr (by omega))
      · exact .inr (.inl (by omega))
  by_cases h : hi.n * lo.d < lo.n * hi.d ∨ lo.d < lo.n ∨ hi.n < 0
  · rw [if_pos h, if_pos (e.mpr h)]
    rfl
  · rw [if_neg h, if_neg fun z => h (e.mp z)]
    have h1 : (hi.com.n < 0) ↔ hi.d < hi.n := by
      show hi.d - hi.n < 0 ↔ _
      omega
    have h2 : (lo.com.d < lo.com.n) ↔ lo.n < 0 := by
      show lo.d < lo.d - lo.n ↔ _
      omega
    unfold leftP
    simp only [h1, h2]
    by_cases k1 : hi.d < hi.n <;> by_cases k2 : lo.n < 0 <;> simp [k1, k2, com_z, com_o]
end LW
set_option Elab.async false
set_option linter.all false
set_option autoImplicit false
set_option maxRecDepth 100000
set_option maxHeartbeats 4000000
namespace LW
open PySem PySem.Spec PyProof.Rows E
section
variable {d : Nat} {T : Store}
theorem f0_int (i : Int) : callD PG C0 (d + 1) 0 [.int i] T = .ok (.bl true) T := by
  rw [call_S (D := D0) rfl rfl]
  simp [D0, E.start, getV, tyOf, tyIs]
theorem f1_int (i j : Int) : callD PG C0 (d + 2) 1 [.int i, .int j] T = .ok (.bl (decide (j ≤ i))) T := by
  rw [call_S (D := D1) rfl rfl]
  simp [D1, E.start, getV, f0_int, ← Int.not_lt]
theorem f2_int (i j k : Int) : callD PG C0 (d + 2) 2 [.int i, .int j, .int k] T = .ok (.bl (decide (j ≤ i ∧ i ≤ k))) T := by
  rw [call_S (D := D2) rfl rfl]
  simp [D2, E.start, getV, f0_int]
  by_cases h : i < j
  · simp [h, Int.not_le.mpr h]
  · simp [h, Int.not_lt.mp h, ← Int.not_lt]
theorem gcd_pos {o u : Int} (hu : u ≠ 0) : (0 : Int) < ((Nat.gcd o.natAbs u.natAbs : Nat) : Int) := by
  have : 0 < Nat.gcd o.natAbs u.natAbs := Nat.gcd_pos_of_pos_right _ (by omega)
  omega
theorem f4 (o u : Int) {m n : Nat} [Sz o m] [Sz u n] (hm : m ≤ 4000) (hn : n ≤ 4000) (hu : u ≠ 0) : ∃ x : Fr, callD PG C0 (d + 1) 4 [.int o, .int u] T = .ok x.pv T ∧ x.n * u = o * x.d ∧ Sz x.n m ∧ Sz x.d n := by
  have hg := gcd_pos (o := o) hu
  by_cases h : u < 0
  · obtain ⟨x, h1, h2, h3⟩ := low_ok (-o) (-u) (by omega)
    rw [Int.natAbs_neg, Int.natAbs_neg] at h1 h2
    refine ⟨x, ?_, ?_, ?_, ?_⟩
    · rw [call_S (D := D4) rfl rfl]
      simp (disch := first | omega | simp) [D4, E.start, getV, h, Fr.pv, h1, h2]
    · have e1 : x.n * -u = -(x.n * u) := Int.mul_neg _ _
      have e2 : -o * x.d = -(o * x.d) := Int.neg_mul _ _
      omega
    · rw [h1]
      infer_instance
    · rw [h2]
      infer_instance
  · obtain ⟨x, h1, h2, h3⟩ := low_ok o u (by omega)
    refine ⟨x, ?_, h3, ?_, ?_⟩
    · rw [call_S (D := D4) rfl rfl]
      simp (disch := first | omega | simp) [D4, E.start, getV, h, Fr.pv, h1, h2]
    · rw [h1]
      infer_instance
    · rw [h2]
      infer_instance
theorem f5 (x y : Fr) {m n k l : Nat} [Sz x.n m] [Sz x.d n] [Sz y.n k] [Sz y.d l] (h1 : m + l ≤ 100000) (h2 : k + n ≤ 100000) : callD PG C0 (d + 1) 5 [x.pv, y.pv] T = .ok (.bl (decide (x.n * y.d < y.n * x.d))) T := by
  rw [call_S (D := D5) rfl rfl]
  simp (disch := first | omega | simp) [D5, E.start, getV, Fr.pv]
theorem f7 (x y : Fr) {m n k l : Nat} [Sz x.n m] [Sz x.d n] [Sz y.n k] [Sz y.d l] (h1 : m + l + (k + n) ≤ 3000) (h2 : n + l ≤ 3000) : ∃ z : Fr, callD PG C0 (d + 2) 7 [x.pv, y.pv] T = .ok z.pv T ∧ z.n * (x.d * y.d) = (x.n * y.d - y.n * x.d) * z.d ∧ Sz z.n (m + l + (k + n) + 1) ∧ Sz z.d (n + l) := by
  have p1 := x.pos; have p2 := y.pos
  obtain ⟨z, e, h3, s1, s2⟩ := f4 (d := d) (T := T) (x.n * y.d - y.n * x.d) (x.d * y.d) (by omega) (by omega) (by
    have := Int.mul_pos p1 p2
    omega)
  refine ⟨z, ?_, h3, s1, s2⟩
  rw [call_S (D := D7) rfl rfl]
  simp (disch := first | omega | simp) [D7, E.start, getV, Fr.pv]
  rw [e]
  simp [Fr.pv]
theorem f8 (x y : Fr) {m n k l : Nat} [Sz x.n m] [Sz x.d n] [Sz y.n k] [Sz y.d l] (h1 : m + l ≤ 3000) (h2 : n + k ≤ 3000) (h0 : y.n ≠ 0) : ∃ z : Fr, callD PG C0 (d + 2) 8 [x.pv, y.pv] T = .ok z.pv T ∧ z.n * (x.d * y.n) = (x.n * y.d) * z.d ∧ Sz z.n (m + l) ∧ Sz z.d (n + k) := by
  have p1 := x.pos; have p2 := y.pos
  obtain ⟨z, e, h3, s1, s2⟩ := f4 (d := d) (T := T) (x.n * y.d) (x.d * y.n) (by omega) (by omega) (Int.mul_ne_zero (by omega) h0)
  refine ⟨z, ?_, h3, s1, s2⟩
  rw [call_S (D := D8) rfl rfl]
  simp (disch := first | omega | simp) [D8, E.start, getV, Fr.pv]
  rw [e]
  simp [Fr.pv]
instance : Sz frz.n 1 := ⟨by decide⟩
instance : Sz frz.d 1 := ⟨by decide⟩
instance : Sz fro.n 1 := ⟨by decide⟩
instance : Sz fro.d 1 := ⟨by decide⟩
@[simp] theorem nor_fr (x : Fr) : x.pv.nor = true := by simp [Fr.pv]
theorem f10 (x y : Fr) {m n k l : Nat} [Sz x.n m] [Sz x.d n] [Sz y.n k] [Sz y.d l] (h1 : m + l ≤ 100000) (h2 : k + n ≤ 100000) : callD PG C0 (d + 2) 10 [x.pv, y.pv] T = .ok (if x.n * y.d < y.n * x.d then y.pv else x.pv) T := by
  rw [call_S (D := D10) rfl rfl]
  simp (disch := first | omega | simp) [D10, E.start, getV, f5 x y h1 h2]
  by_cases h : x.n * y.d < y.n * x.d <;> simp [h]
theorem f9 (x y : Fr) {m n k l : Nat} [Sz x.n m] [Sz x.d n] [Sz y.n k] [Sz y.d l] (h1 : m + l ≤ 100000) (h2 : k + n ≤ 100000) : callD PG C0 (d + 2) 9 [x.pv, y.pv] T = .ok (if y.n * x.d < x.n * y.d then y.pv else x.pv) T := by
  rw [call_S (D := D9) rfl rfl]
  simp (disch := first | omega | simp) [D9, E.start, getV, f5 y x h2 h1]
  by_cases h : y.n * x.d < x.n * y.d <;> simp [h]
/-- a share's size -/
class Szf (x : Fr) (m : outParam Nat) : Prop where
  a : Sz x.n m
  b : Sz x.d m
instance szf1 {x : Fr} {m : Nat} [s : Szf x m] : Sz x.n m := s.a
instance szf2 {x : Fr} {m : Nat} [s : Szf x m] : Sz x.d m := s.b
theorem f12 (a b x : Fr) {m : Nat} [Szf a m] [Szf b m] [Szf x m] (hab : a ≠ b) (hm : m ≤ 400) : ∃ s : Fr, callD PG C0 (d + 3) 12 [a.pv, b.pv, x.pv] T = .ok s.pv T ∧ IsSh a b x s ∧ Szf s 2500 := by
  obtain ⟨z1, e1, k1, s1, s2⟩ := f7 (d := d) (T := T) x b (by omega) (by omega)
  obtain ⟨z2, e2, k2, s3, s4⟩ := f7 (d := d) (T := T) a b (by omega) (by omega)
  have hd := del_ne hab
  have hz : z2.n ≠ 0 := fun h => by
    rw [h, Int.zero_mul] at k2
    have := Int.mul_ne_zero hd (show z2.d ≠ 0 by have := z2.pos; omega)
    exact this (show del a b * z2.d = 0 from k2.symm)
  obtain ⟨s, e3, k3, s5, s6⟩ := f8 (d := d) (T := T) z1 z2 (by omega) (by omega) hz
  refine ⟨s, ?_, sh_of (m1n := z1.n) (m1d := z1.d) (m2n := z2.n) (m2d := z2.d) k1 k2 (by have := z1.pos; omega) (by have := z2.pos; omega) k3, ⟨s5.up (by omega), s6.up (by omega)⟩⟩
  rw [call_S (D := D12) rfl rfl]
  simp (disch := first | omega | simp) [D12, E.start, getV, e1, e2, e3]
@[simp] theorem C0_g0 : C0.glob 0 = some frz.pv := rfl
@[simp] theorem C0_g1 : C0.glob 1 = some fro.pv := rfl
theorem f13 (lo hi : Fr) {m : Nat} [Szf lo m] [Szf hi m] (hm : m ≤ 2500) : callD PG C0 (d + 3) 13 [lo.pv, hi.pv] T = .ok (duePv (Due lo hi)) T := by
  have g1 := f10 (d := d) (T := T) lo frz (by omega) (by omega)
  have g2 := f9 (d := d) (T := T) hi fro (by omega) (by omega)
  have n1 : frz.n = 0 := rfl
  have n2 : frz.d = 1 := rfl
  have n3 : fro.n = 1 := rfl
  have n4 : fro.d = 1 := rfl
  rw [n1, n2, Int.mul_one, Int.zero_mul] at g1
  rw [n3, n4, Int.mul_one, Int.one_mul] at g2
  have i1 : Szf (if lo.n < 0 then frz else lo) 2500 := by
    split
    · exact ⟨(inferInstance : Sz frz.n 1).up (by omega), (inferInstance : Sz frz.d 1).up (by omega)⟩
    · exact ⟨(inferInstance : Sz lo.n m).up (by omega), (inferInstance : Sz lo.d m).up (by omega)⟩
  have i2 : Szf (if hi.d < hi.n then fro else hi) 2500 := by
    split
    · exact ⟨(inferInstance : Sz fro.n 1).up (by omega), (inferInstance : Sz fro.d 1).up (by omega)⟩
    · exact ⟨(inferInstance : Sz hi.n m).up (by omega), (inferInstance : Sz hi.d m).up (by omega)⟩
  have g3 := f5 (d := d + 1) (T := T) (if hi.d < hi.n then fro else hi) (if lo.n < 0 then frz else lo) (by omega) (by omega)
  rw [cut_due]
  rw [call_S (D := D13) rfl rfl]
  have q1 : (if lo.n < 0 then frz.pv else lo.pv) = (if lo.n < 0 then frz else lo).pv := by split <;> rfl
  have q2 : (if hi.d < hi.n then fro.pv else hi.pv) = (if hi.d < hi.n then fro else hi).pv := by split <;> rfl
  rw [q1] at g1
  rw [q2] at g2
  generalize (if lo.n < 0 then frz else lo) = u at *
  generalize (if hi.d < hi.n then fro else hi) = v at *
  simp (disch := first | omega | simp) [D13, E.start, getV, g1, g2, g3]
  by_cases h : v.n * u.d < u.n * v.d <;> simp [h, duePv]
abbrev pr (n e : Int) : PV := .tup [.int n, .int e]
def val (n e : Int) : Bool := decide (0 < e ∧ Nat.gcd n.natAbs e.natAbs = 1)
theorem val_fr (x : Fr) : val x.n x.d = true := decide_eq_true ⟨x.pos, x.cop⟩
theorem eq_prs (a b c e : Int) : eqP (pr a b) (pr c e) T = .ok (decide (a = c ∧ b = e)) T := by
  unfold eqP
  simp [PV.plain, PV.plainL, PV.data, PV.dataL, PyData.depth, PyData.depthAll, PyData.eqv, PyData.eqvAll]
  by_cases h : a = c <;> by_cases h2 : b = e <;> simp [h, h2]
theorem f3 (n e : Int) : callD PG C0 (d + 2) 3 [pr n e] T = .ok (.bl true) T := by
  rw [call_S (D := D3) rfl rfl]
  simp [D3, E.start, getV, f0_int, r_ag, agL, wipe, blP]
theorem f6 (n e : Int) : callD PG C0 (d + 3) 6 [pr n e] T = .ok (.bl (val n e)) T := by
  rw [call_S (D := D6) rfl rfl]
  have h3 := f3 (d := d) (T := T) n e
  have e1 : (((n.natAbs.gcd e.natAbs : Nat) : Int) = 1) ↔ n.natAbs.gcd e.natAbs = 1 := by omega
  simp [D6, E.start, getV, tyOf, tyIs, h3, val]
  by_cases h : 0 < e <;> simp [h, e1]
theorem f16_bad (n1 e1 n2 e2 n3 e3 n4 e4 : Int) (h : (val n1 e1 && val n2 e2 && val n3 e3 && val n4 e4) = false) : callD PG C0 (d + 4) 16 [pr n1 e1, pr n2 e2, pr n3 e3, pr n4 e4] T = .ex ⟨1, []⟩ T := by
  rw [call_S (D := D16) rfl rfl]
  have k := fun n e => f6 (d := d) (T := T) n e
  cases v1 : val n1 e1 with
  | false => simp [D16, E.start, getV, k, v1, r_ag, agL, wipe, blP]
  | true =>
    cases v2 : val n2 e2 with
    | false => simp [D16, E.start, getV, k, v1, v2, r_ag, agL, wipe, blP]
    | true =>
      cases v3 : val n3 e3 with
      | false => simp [D16, E.start, getV, k, v1, v2, v3, r_ag, agL, wipe, blP]
      | true =>
        cases v4 : val n4 e4 with
        | false => simp [D16, E.start, getV, k, v1, v2, v3, v4, r_ag, agL, wipe, blP]
        | true => simp [v1, v2, v3, v4] at h
theorem f16_eq (a l g : Fr) : callD PG C0 (d + 4) 16 [a.pv, a.pv, l.pv, g.pv] T = .ex ⟨1, []⟩ T := by
  rw [call_S (D := D16) rfl rfl]
  have k : ∀ x : Fr, callD PG C0 (d + 3) 6 [x.pv] T = .ok (.bl true) T := fun x => (f6 (d := d) (T := T) x.n x.d).trans (by rw [val_fr])
  have q : eqP a.pv a.pv T = .ok true T := (eq_prs a.n a.d a.n a.d).trans (by simp)
  simp [D16, E.start, getV, k, r_ag, agL, wipe, blP, q]
def lohi (a b sl sg : Fr) : Option (Fr × Fr) := if a.n * b.d < b.n * a.d then Due sg sl else Due sl sg
theorem nor_due (o : Option (Fr × Fr)) : (duePv o).nor = true := by
  cases o with
  | none => simp [duePv]
  | some p => simp [duePv]
theorem f16 (a b l g : Fr) {m : Nat} [Szf a m] [Szf b m] [Szf l m] [Szf g m] (hab : a ≠ b) (hm : m ≤ 400) : ∃ sl sg : Fr, IsSh a b l sl ∧ IsSh a b g sg ∧ Szf sl 2500 ∧ Szf sg 2500 ∧ callD PG C0 (d + 4) 16 [a.pv, b.pv, l.pv, g.pv] T = .ok (duePv (lohi a b sl sg)) T := by
  obtain ⟨sl, e1, k1, z1⟩ := f12 (d := d) (T := T) a b l hab hm
  obtain ⟨sg, e2, k2, z2⟩ := f12 (d := d) (T := T) a b g hab hm
  refine ⟨sl, sg, k1, k2, z1, z2, ?_⟩
  rw [call_S (D := D16) rfl rfl]
  have k : ∀ x : Fr, callD PG C0 (d + 3) 6 [x.pv] T = .ok (.bl true) T := fun x => (f6 (d := d) (T := T) x.n x.d).trans (by rw [val_fr])
  have q : eqP a.pv b.pv T = .ok false T := (eq_prs a.n a.d b.n b.d).trans (by
    rw [decide_eq_false]
    intro h
    exact hab (Fr.ext h.1 h.2))
  have h5 := f5 (d := d + 2) (T := T) a b (by omega) (by omega)
  have h13 := f13 (d := d) (T := T) sl sg (Nat.le_refl _)
  have h13' := f13 (d := d) (T := T) sg sl (Nat.le_refl _)
  unfold lohi
  by_cases h : a.n * b.d < b.n * a.d
  · simp [D16, E.start, getV, k, r_ag, agL, wipe, blP, q, h5, h, e1, e2, h13', nor_due]
  · simp [D16, E.start, getV, k, r_ag, agL, wipe, blP, q, h5, h, e1, e2, h13, nor_due]
end
end LW
set_option Elab.async false
set_option linter.all false
set_option autoImplicit false
set_option maxRecDepth 100000
set_option maxHeartbeats 4000000
namespace LW
open PySem PySem.Spec PyProof.Rows E
section
variable {d : Nat} {T : Store}
theorem f19 (o u : Int) {m n : Nat} [Sz o m] [Sz u n] (hm : m ≤ 4000) (hn : n ≤ 4000) (hu : 0 < u) : ∃ x : Fr, callD PG C0 (d + 1) 19 [.int o, .int u] T = .ok x.pv T ∧ x.n * u = o * x.d ∧ Sz x.n m ∧ Sz x.d n := by
  obtain ⟨x, h1, h2, h3⟩ := low_ok o u hu
  refine ⟨x, ?_, h3, by rw [h1]; infer_instance, by rw [h2]; infer_instance⟩
  have hg := gcd_pos (o := o) (u := u) (by omega)
  have key : ∀ C : E.Ctx, evS C (.whl (.pr .gt [(.var 3), (.cst (.int 0))]) [] [(.par 2 3 (.var 3) (.pr .mod [(.var 2), (.var 3)]))]) [some (.int o), some (.int u), some (.int (o.natAbs : Int)), some (.int (u.natAbs : Int))] T
      = .nx [some (.int o), some (.int u), some (.int ((Nat.gcd o.natAbs u.natAbs : Nat) : Int)), some (.int 0)] T := by
    intro C
    rw [r_whl]
    refine whl_run (fun σ T' => T' = T ∧ ∃ a b : Nat, σ = [some (.int o), some (.int u), some (.int (a : Int)), some (.int (b : Int))] ∧ Nat.gcd a b = Nat.gcd o.natAbs u.natAbs) (fun σ _ => match σ with
      | [_, _, _, some (.int b)] => b.toNat
      | _ => 0) (fun r => r = .nx [some (.int o), some (.int u), some (.int ((Nat.gcd o.natAbs u.natAbs : Nat) : Int)), some (.int 0)] T) (by intro h; cases h) ?_ ⟨rfl, _, _, rfl, rfl⟩
    rintro σ T' ⟨eT, a, b, rfl, hab⟩
    subst eT
    by_cases hb : b = 0
    · subst hb
      left
      refine ⟨T', by simp [getV], ?_⟩
      rw [← hab]
      simp
    · right
      refine ⟨T', by simp [getV]; omega, .inl ⟨[some (.int o), some (.int u), some (.int (b : Int)), some (.int ((a % b : Nat) : Int))], T', .inl ?_, ⟨rfl, b, a % b, rfl, ?_⟩, ?_⟩⟩
      · have : (0 : Int) < (b : Int) := by omega
        simp (disch := first | omega | simp) [getV]
      · rw [← hab, Nat.gcd_comm a b, Nat.gcd_rec b a, Nat.gcd_comm]
      · show ((a % b : Nat) : Int).toNat < (b : Int).toNat
        have := Nat.mod_lt a (show b > 0 by omega)
        omega
  rw [call_S (D := D19) rfl rfl]
  have e1 : (if o < 0 then -o else o) = (o.natAbs : Int) := by split <;> omega
  have e2 : u = (u.natAbs : Int) := by omega
  rw [← e2] at key
  simp (disch := first | omega | simp) [D19, E.start, getV, e1, key, Fr.pv, h1, h2]
end
end LW
set_option Elab.async false
set_option linter.all false
set_option autoImplicit false
set_option maxRecDepth 100000
set_option maxHeartbeats 4000000
namespace LW
open PySem PySem.Spec PyProof.Rows E
theorem fr_of {d : Nat} {T : Store} : True := trivial
section
variable {d : Nat} {T : Store}
theorem f14 (a w e : Int) (h0 : 0 ≤ w) (h1 : w < a) (h2 : 0 ≤ e) (h3 : e ≤ w) : callD PG C0 (d + 3) 14 [.int a, .int w, .int e] T = .ok .non T := by
  rw [call_S (D := D14) rfl rfl]
  simp (disch := first | omega | decide | simp) [D14, E.start, getV, f0_int, f1_int, f2_int, h0, h1, h2, h3]
theorem f11 (a w e : Int) (h0 : 0 ≤ w) (h2 : 0 ≤ e) (h4 : 2 * e < a - w) {m : Nat} [Sz a m] [Sz w m] [Sz e m] (hm : m ≤ 30) : ∃ x y : Fr, callD PG C0 (d + 2) 11 [.int a, .int w, .int e] T = .ok (.tup [x.pv, y.pv]) T ∧
    x.n * (a - w + 2 * e) = (a + e) * x.d ∧ y.n * (a - w - 2 * e) = (a - e) * y.d := by
  obtain ⟨x, e1, k1, _, _⟩ := f4 (d := d) (T := T) (a + e) (a - w + 2 * e) (by omega) (by rw [show Nat.log2 2 = 1 by decide]; omega) (by omega)
  obtain ⟨y, e2, k2, _, _⟩ := f4 (d := d) (T := T) (a - e) (a - w - 2 * e) (by omega) (by rw [show Nat.log2 2 = 1 by decide]; omega) (by omega)
  refine ⟨x, y, ?_, k1, k2⟩
  rw [call_S (D := D11) rfl rfl]
  simp (disch := first | omega | decide | simp) [D11, E.start, getV, e1, e2, h4]
theorem f15 (a w e : Int) (h0 : 0 ≤ w) (h1 : w < a) (h2 : 0 ≤ e) (h3 : e ≤ w) (h4 : 2 * e < a - w) {m : Nat} [Sz a m] [Sz w m] [Sz e m] (hm : m ≤ 30) : ∃ x y : Fr, callD PG C0 (d + 4) 15 [.int a, .int w, .int e] T = .ok (.tup [x.pv, y.pv]) T ∧
    x.n * (a - w + 2 * e) = (a + e) * x.d ∧ y.n * (a - w - 2 * e) = (a - e) * y.d := by
  obtain ⟨x, y, e1, k⟩ := f11 (d := d + 1) (T := T) a w e h0 h2 h4 hm
  refine ⟨x, y, ?_, k⟩
  rw [call_S (D := D15) rfl rfl]
  simp [D15, E.start, getV, f14 (d := d) (T := T) a w e h0 h1 h2 h3, e1]
theorem f20 (ps : List Int) (hd : Dig ps) (k : Int) (h0 : 0 ≤ k) (h1 : k + 4 < ps.length) (great : Bool) : ∃ x : Fr, callD PG C0 (d + 2) 20 [.lst (ps.map .int), .int k, .bl great] T = .ok x.pv T ∧ 0 ≤ x.n ∧ Szf x 60 := by
  have b := pl_bd hd
  have s := pl_sz hd
  have b0 := b k; have b1 := b (k + 1); have b2 := b (k + 2); have b3 := b (k + 3); have b4 := b (k + 4)
  obtain ⟨p, hp⟩ : ∃ p, p = (if pl ps (k + 1) % 2 = 0 then (30 : Int) else 4000) := ⟨_, rfl⟩
  obtain ⟨q, hq⟩ : ∃ q, q = (if pl ps (k + 2) % 3 = 0 then (1 : Int) else if pl ps (k + 2) % 3 = 1 then 12 else 3000) := ⟨_, rfl⟩
  have p0 : 0 < p ∧ p ≤ 4000 := by rw [hp]; split <;> decide
  have q0 : 0 < q ∧ q ≤ 3000 := by rw [hq]; split <;> (try split) <;> decide
  have i1 : ∀ kc T, ixP kc (.tup [.int 30, .int 4000]) (.int (pl ps (k + 1) % 2)) T = .ok (.int p) T := fun kc T => by
    rw [ix_two (by omega) (by omega), hp]
    split <;> rfl
  have i2 : ∀ kc T, ixP kc (.tup [.int 1, .int 12, .int 3000]) (.int (pl ps (k + 2) % 3)) T = .ok (.int q) T := fun kc T => by
    rw [ix_three (by omega) (by omega), hq]
    split
    · rfl
    · split <;> rfl
  clear hp hq
  generalize ho : pl ps k % p = o
  generalize hu : 1 + pl ps (k + 1) / 2 % q = u
  have o0 : 0 ≤ o := by rw [← ho]; exact Int.emod_nonneg _ (by omega)
  have o1 : o < p := by rw [← ho]; exact Int.emod_lt_of_pos _ (by omega)
  have u0 : 1 ≤ u := by
    have := Int.emod_nonneg (pl ps (k + 1) / 2) (show q ≠ 0 by omega)
    omega
  have u1 : u ≤ q := by
    have := Int.emod_lt_of_pos (pl ps (k + 1) / 2) (show 0 < q by omega)
    omega
  have fin : ∀ o u : Int, 0 ≤ o → 0 < u → o < 2 ^ 60 → u < 2 ^ 60 → ∃ x : Fr, callD PG C0 (d + 1) 19 [.int o, .int u] T = .ok x.pv T ∧ 0 ≤ x.n ∧ Szf x 60 := by
    intro o u a1 a2 a3 a4
    have z1 : Sz o 60 := ⟨by omega⟩
    have z2 : Sz u 60 := ⟨by omega⟩
    obtain ⟨x, e, h3, t1, t2⟩ := f19 (d := d) (T := T) o u (by omega) (by omega) a2
    refine ⟨x, e, ?_, ⟨t1, t2⟩⟩
    have hx := x.pos
    rcases Int.lt_or_le x.n 0 with g | g
    · have g1 : x.n * u < 0 := Int.mul_neg_of_neg_of_pos g a2
      have g2 : 0 ≤ o * x.d := Int.mul_nonneg a1 (by omega)
      omega
    · exact g
  cases great with
  | false =>
    obtain ⟨x, e, r⟩ := fin o u o0 (by omega) (by omega) (by omega)
    refine ⟨x, ?_, r⟩
    rw [call_S (D := D20) rfl rfl]
    simp (disch := first | omega | decide | simp) [D20, E.start, getV, pl_ix, i1, i2, ho, hu, e]
  | true =>
    obtain ⟨x, e, r⟩ := fin (o * 100000000 + pl ps (k + 3) * 7 + 1) (u * 100000000 + pl ps (k + 4)) (by omega) (by omega) (by omega) (by omega)
    refine ⟨x, ?_, r⟩
    have zo : Sz o 60 := ⟨by omega⟩
    have zu : Sz u 60 := ⟨by omega⟩
    have cp : L2.CPow 10000 2 := ⟨by decide, by decide, by decide⟩
    rw [call_S (D := D20) rfl rfl]
    simp (disch := first | omega | assumption | decide | simp) [D20, E.start, getV, pl_ix, i1, i2, ho, hu, e]
end
end LW
set_option Elab.async false
set_option linter.all false
set_option autoImplicit false
set_option maxRecDepth 100000
set_option maxHeartbeats 4000000
namespace LW
open PySem PySem.Spec PyProof.Rows E
open Classical
section
variable {d : Nat} {T : Store}
theorem Szf.up {x : Fr} {m n : Nat} (h : Szf x m) (l : m ≤ n) : Szf x n := ⟨h.a.up l, h.b.up l⟩
theorem f21 (a b : Fr) (p w : Int) [Szf a 80] [Szf b 80] [Sz p 8] [Sz w 8] (hw : 0 < w) : ∃ x : Fr, callD PG C0 (d + 2) 21 [a.pv, b.pv, .int p, .int w] T = .ok x.pv T ∧ x.n * (a.d * b.d * w) = (a.n * b.d * p + b.n * a.d * (w - p)) * x.d ∧ Szf x 400 := by
  have h1 := a.pos; have h2 := b.pos
  obtain ⟨x, e, h3, t1, t2⟩ := f19 (d := d) (T := T) (a.n * b.d * p + b.n * a.d * (w - p)) (a.d * b.d * w) (by omega) (by omega) (Int.mul_pos (Int.mul_pos h1 h2) hw)
  refine ⟨x, ?_, h3, ⟨t1.up (by omega), t2.up (by omega)⟩⟩
  rw [call_S (D := D21) rfl rfl]
  simp only [Fr.pv] at *
  simp (disch := first | omega | decide | simp) [D21, E.start, getV, e]
@[simp] theorem unp_tup (xs : List PV) : unpack (.tup xs) T = some xs := rfl
theorem eq_frs (a b : Fr) : eqP a.pv b.pv T = .ok (decide (a = b)) T := (eq_prs a.n a.d b.n b.d).trans (by
  congr 1
  apply decide_eq_decide.mpr
  exact ⟨fun h => Fr.ext h.1 h.2, fun h => by subst h; exact ⟨rfl, rfl⟩⟩)
@[simp] theorem ix_f0 {kc : List PV} (x : Fr) : ixP kc x.pv (.int 0) T = .ok (.int x.n) T := ix_t0 _ _
@[simp] theorem ix_f1 {kc : List PV} (x : Fr) : ixP kc x.pv (.int 1) T = .ok (.int x.d) T := ix_t1 _ _ _
/-- the tips in the store -/
def Tips (ps : List Int) (g : Bool) (a b : Fr) (σ : Slots) (T : Store) : Prop := ∃ (r : Nat) (t u : Fr) (x y : Option PV), σ = [some (.lst (ps.map .int)), some (.bl g), some a.pv, some b.pv, some (.ref r), x, y] ∧ T.getD r dead = .lst [t.pv, u.pv] ∧ r < T.length ∧
  0 ≤ t.n ∧ 0 ≤ u.n ∧ Szf t 400 ∧ Szf u 400
theorem getD_set {T : Store} {r : Nat} {v : PV} (h : r < T.length) : (T.set r v).getD r dead = v := by
  rw [List.getD_eq_getElem?_getD, List.getElem?_set_self (by simpa using h)]
  rfl
theorem c0 (C : E.Ctx) (hC : C.call = callD PG C0 (d + 2)) (ps : List Int) (hd : Dig ps) (hp : (70 : Int) ≤ ps.length) : ∃ (g : Bool) (a b : Fr), evSs C (D22.body.take 3) [some (.lst (ps.map .int)), none, none, none, none, none, none] T = .nx [some (.lst (ps.map .int)), some (.bl g), some a.pv, some b.pv, none, none, none] T ∧
    a ≠ b ∧ Szf a 80 ∧ Szf b 80 ∧ 0 ≤ a.n ∧ 0 ≤ b.n := by
  obtain ⟨g, hg⟩ : ∃ g, g = decide (pl ps 0 % 4 = 0) := ⟨_, rfl⟩
  obtain ⟨a, e1, a1, a2⟩ := f20 (d := d) (T := T) ps hd 10 (by omega) (by omega) g
  obtain ⟨b, e2, b1, b2⟩ := f20 (d := d) (T := T) ps hd 20 (by omega) (by omega) g
  have z0 := fun kc T => pl_ix (kc := kc) (T := T) (ps := ps) (k := 0) (by omega) (by omega)
  by_cases h : a = b
  · subst h
    have hb := a.pos
    obtain ⟨x, e3, k3, s1, s2⟩ := f19 (d := d + 1) (T := T) (a.n + 1) a.d (by rw [show Nat.log2 1 = 0 by decide]; omega) (by omega) hb
    rw [show Nat.log2 1 = 0 by decide] at s1
    refine ⟨g, a, x, ?_, ?_, a2.up (by omega), ⟨s1.up (by omega), s2.up (by omega)⟩, a1, ?_⟩
    · have q : ∀ T, eqP a.pv a.pv T = .ok true T := fun T => by rw [eq_frs]; simp
      simp (disch := first | omega | decide | simp) [D22, getV, hC, z0, ← hg, e1, e2, q, e3]
    · intro z
      rw [← z] at k3
      have : a.n * a.d = (a.n + 1) * a.d := k3
      have := Int.eq_of_mul_eq_mul_right (show a.d ≠ 0 by omega) this
      omega
    · rcases Int.lt_or_le x.n 0 with g1 | g1
      · have := Int.mul_neg_of_neg_of_pos g1 hb
        have := Int.mul_nonneg (show 0 ≤ a.n + 1 by omega) (show 0 ≤ x.d by have := x.pos; omega)
        omega
      · exact g1
  · refine ⟨g, a, b, ?_, h, a2.up (by omega), b2.up (by omega), a1, b1⟩
    have q : ∀ T, eqP a.pv b.pv T = .ok false T := fun T => by rw [eq_frs]; simp [h]
    simp (disch := first | omega | decide | simp) [D22, getV, hC, z0, ← hg, e1, e2, q]
theorem c1 (C : E.Ctx) (hC : C.call = callD PG C0 (d + 2)) (ps : List Int) (hd : Dig ps) (hp : (70 : Int) ≤ ps.length) (g : Bool) (a b : Fr) [Szf a 80] [Szf b 80] : ∃ σ T, evSs C ((D22.body.drop 3).take 2) [some (.lst (ps.map .int)), some (.bl g), some a.pv, some b.pv, none, none, none] [] = .nx σ T ∧ Tips ps g a b σ T := by
  obtain ⟨t, e1, a1, a2⟩ := f20 (d := d) (T := []) ps hd 30 (by omega) (by omega) g
  obtain ⟨u, e2, b1, b2⟩ := f20 (d := d) (T := []) ps hd 40 (by omega) (by omega) false
  have z0 := fun kc T => pl_ix (kc := kc) (T := T) (ps := ps) (k := 1) (by omega) (by omega)
  by_cases h : 0 < pl ps 1 % 3
  · have z2 := fun kc T => pl_ix (kc := kc) (T := T) (ps := ps) (k := 2) (by omega) (by omega)
    have z3 := fun kc T => pl_ix (kc := kc) (T := T) (ps := ps) (k := 3) (by omega) (by omega)
    have z4 := fun kc T => pl_ix (kc := kc) (T := T) (ps := ps) (k := 4) (by omega) (by omega)
    have s2 : Sz (pl ps 2 % 14) 8 := ⟨by omega⟩
    have s3 : Sz (pl ps 3 % 14) 8 := ⟨by omega⟩
    have s4 : Sz (12 + pl ps 4 % 2) 8 := ⟨by omega⟩
    obtain ⟨p, e3, k3, p3⟩ := f21 (d := d) (T := [.lst [t.pv, u.pv]]) a b (pl ps 2 % 14) (12 + pl ps 4 % 2) (by omega)
    obtain ⟨q, e4, k4, p4⟩ := f21 (d := d) (T := [.lst [t.pv, u.pv]]) a b (pl ps 3 % 14) (12 + pl ps 4 % 2) (by omega)
    have r2 : (List.range 2).map (fun (k : Nat) => PV.int k) = [.int 0, .int 1] := rfl
    have b2' : b62 2 := by unfold b62; omega
    refine ⟨_, [.lst [t.pv, u.pv], .lst [p.pv, q.pv], .lst [(if 0 ≤ p.n then p else frz).pv, (if 0 ≤ q.n then q else frz).pv]], ?_, 2, (if 0 ≤ p.n then p else frz), (if 0 ≤ q.n then q else frz), none, none, rfl, rfl, by simp, ?_, ?_, ?_, ?_⟩
    · have g1 : (PV.tup [PV.int 0, PV.int 1]) = frz.pv := rfl
      have i1 : (if p.n < 0 then frz.pv else p.pv) = (if 0 ≤ p.n then p else frz).pv := by split <;> split <;> first | rfl | omega
      have i2 : (if q.n < 0 then frz.pv else q.pv) = (if 0 ≤ q.n then q else frz).pv := by split <;> split <;> first | rfl | omega
      rw [← i1, ← i2]
      by_cases h1 : p.n < 0 <;> by_cases h2 : q.n < 0 <;>
      simp (disch := first | omega | decide | simp) [D22, getV, hC, z0, z2, z3, z4, h, h1, h2, e1, e2, e3, e4, lay, r_lc, compL, wipe, rng1 b2', r2, seqP, srcOf, grd, sizeLine, g1]
    · split
      · assumption
      · decide
    · split
      · assumption
      · decide
    · split
      · assumption
      · exact ⟨(inferInstance : Sz frz.n 1).up (by omega), (inferInstance : Sz frz.d 1).up (by omega)⟩
    · split
      · assumption
      · exact ⟨(inferInstance : Sz frz.n 1).up (by omega), (inferInstance : Sz frz.d 1).up (by omega)⟩
  · refine ⟨_, [.lst [t.pv, u.pv]], ?_, 0, t, u, none, none, rfl, rfl, by simp, a1, b1, a2.up (by omega), b2.up (by omega)⟩
    simp (disch := first | omega | decide | simp) [D22, getV, hC, z0, h, e1, e2, lay]
end
end LW
set_option Elab.async false
set_option linter.all false
set_option autoImplicit false
set_option maxRecDepth 100000
set_option maxHeartbeats 4000000
namespace LW
open PySem PySem.Spec PyProof.Rows E
open Classical
section
variable {d : Nat} {T : Store}
@[simp] theorem ix_l0 {kc : List PV} (a : PV) (r : List PV) : ixP kc (.lst (a :: r)) (.int 0) T = .ok a T := ix_lst (at0 a r)
@[simp] theorem ix_l1 {kc : List PV} (a b : PV) (r : List PV) : ixP kc (.lst (a :: b :: r)) (.int 1) T = .ok b T := ix_lst (at1 a b r)
@[simp] theorem ix_l2 {kc : List PV} (a b c : PV) (r : List PV) : ixP kc (.lst (a :: b :: c :: r)) (.int 2) T = .ok c T := ix_lst (at2 a b c r)
@[simp] theorem ix_l3 {kc : List PV} (a b c e : PV) (r : List PV) : ixP kc (.lst (a :: b :: c :: e :: r)) (.int 3) T = .ok e T := ix_lst (at3 a b c e r)
theorem ix_ref {kc : List PV} {r : Nat} {xs : List PV} (h : T.getD r dead = .lst xs) (i : PV) : ixP kc (.ref r) i T = ixP kc (.lst xs) i T := by
  unfold ixP
  rw [dr_ref, h, dr_lst]
theorem sub_ref0 {kc : List PV} {r : Nat} {x y v : PV} (h : T.getD r dead = .lst [x, y]) : subP kc (.ref r) (.int 0) v T = .ok .non (T.set r (.lst [v, y])) := by
  unfold subP
  rw [dr_ref, h]
  rfl
theorem rev_ref {r : Nat} {xs : List PV} (h : T.getD r dead = .lst xs) : evP [] (.rev true) [.ref r] T = .ok (.ref T.length) (T ++ [.lst xs.reverse]) := by
  show revP true (.ref r) T = _
  unfold revP
  rw [dr_ref, h]
  rfl
theorem c2 (C : E.Ctx) (ps : List Int) (hd : Dig ps) (hp : (70 : Int) ≤ ps.length) (g : Bool) (a b : Fr) (σ : Slots) (h : Tips ps g a b σ T) : ∃ σ' T', evS C (D22.body.getD 5 .pass) σ T = .nx σ' T' ∧ Tips ps g a b σ' T' := by
  obtain ⟨r, t, u, x, y, rfl, h1, h2, h3, h4, h5, h6⟩ := h
  have z1 := fun kc T => pl_ix (kc := kc) (T := T) (ps := ps) (k := 1) (by omega) (by omega)
  by_cases k : pl ps 1 % 7 = 0
  · refine ⟨_, T.set r (.lst [u.pv, u.pv]), ?_, r, u, u, x, y, rfl, getD_set h2, by simpa using h2, h4, h4, h6, h6⟩
    simp (disch := first | omega | decide | simp) [D22, getV, z1, k, ix_ref h1, sub_ref0 h1]
  · refine ⟨_, T, ?_, r, t, u, x, y, rfl, h1, h2, h3, h4, h5, h6⟩
    simp (disch := first | omega | decide | simp) [D22, getV, z1, k]
theorem c3 (C : E.Ctx) (ps : List Int) (hd : Dig ps) (hp : (70 : Int) ≤ ps.length) (g : Bool) (a b : Fr) (σ : Slots) (h : Tips ps g a b σ T) : ∃ σ' T', evS C (D22.body.getD 6 .pass) σ T = .nx σ' T' ∧ Tips ps g a b σ' T' := by
  obtain ⟨r, t, u, x, y, rfl, h1, h2, h3, h4, h5, h6⟩ := h
  have z1 := fun kc T => pl_ix (kc := kc) (T := T) (ps := ps) (k := 5) (by omega) (by omega)
  by_cases k : 0 < pl ps 5 % 3
  · by_cases k2 : u.n * t.d < t.n * u.d
    · refine ⟨_, T ++ [.lst [u.pv, t.pv]], ?_, T.length, u, t, x, y, rfl, by simp, by simp, h4, h3, h6, h5⟩
      have rv : ∀ kc, evP kc (.rev true) [.ref r] T = .ok (.ref T.length) (T ++ [.lst [u.pv, t.pv]]) := fun kc => rev_ref h1
      simp (disch := first | omega | decide | simp) [D22, getV, z1, k, k2, ix_ref h1, rv]
    · refine ⟨_, T, ?_, r, t, u, x, y, rfl, h1, h2, h3, h4, h5, h6⟩
      simp (disch := first | omega | decide | simp) [D22, getV, z1, k, k2, ix_ref h1]
  · refine ⟨_, T, ?_, r, t, u, x, y, rfl, h1, h2, h3, h4, h5, h6⟩
    simp (disch := first | omega | decide | simp) [D22, getV, z1, k]
theorem ss_app {C : E.Ctx} : ∀ {ss tt : List E.St} {σ σ' : Slots} {T T' : Store}, evSs C ss σ T = .nx σ' T' → evSs C (ss ++ tt) σ T = evSs C tt σ' T'
  | [], tt, σ, σ', T, T', h => by
    rw [r_snil] at h
    cases h
    rfl
  | s :: ss, tt, σ, σ', T, T', h => by
    rw [r_scons] at h
    rw [List.cons_append, r_scons]
    cases e : evS C s σ T with
    | nx σ2 T2 =>
      rw [e] at h
      exact ss_app h
    | _ =>
      rw [e] at h
      cases h
theorem f22 (ps : List Int) (hd : Dig ps) (hp : (70 : Int) ≤ ps.length) : ∃ a b l g : Fr, callD PG C0 (d + 3) 22 [.lst (ps.map .int)] [] = .ok (.tup [a.pv, b.pv, l.pv, g.pv]) [] ∧ a ≠ b ∧ Szf a 80 ∧ Szf b 80 ∧ 0 ≤ a.n ∧ 0 ≤ b.n ∧ 0 ≤ l.n ∧ 0 ≤ g.n ∧ Szf l 400 ∧ Szf g 400 := by
  rw [call_S (D := D22) rfl rfl]
  have hC : ({ C0 with call := callD PG C0 (d + 2), cur := none } : E.Ctx).call = callD PG C0 (d + 2) := rfl
  generalize ({ C0 with call := callD PG C0 (d + 2), cur := none } : E.Ctx) = C at hC
  obtain ⟨g, a, b, e1, hab, sa, sb, na, nb⟩ := c0 (T := []) C hC ps hd hp
  obtain ⟨σ1, T1, e2, i1⟩ := c1 C hC ps hd hp g a b
  obtain ⟨σ2, T2, e3, i2⟩ := c2 C ps hd hp g a b σ1 i1
  obtain ⟨σ3, T3, e4, i3⟩ := c3 C ps hd hp g a b σ2 i2
  obtain ⟨r, t, u, x, y, rfl, h1, h2, h3, h4, h5, h6⟩ := i3
  refine ⟨a, b, t, u, ?_, hab, sa, sb, na, nb, h3, h4, h5, h6⟩
  have eb : D22.body = D22.body.take 3 ++ ((D22.body.drop 3).take 2 ++ (D22.body.getD 5 .pass :: D22.body.getD 6 .pass :: [D22.body.getD 7 .pass])) := rfl
  have es : _root_.E.start D22 [.lst (ps.map .int)] = [some (.lst (ps.map .int)), none, none, none, none, none, none] := rfl
  rw [es, eb, ss_app e1, ss_app e2, ss_nx e3, ss_nx e4]
  have e5 : evSs C [D22.body.getD 7 .pass] [some (.lst (ps.map .int)), some (.bl g), some a.pv, some b.pv, some (.ref r), x, y] T3 = .rt (.tup [a.pv, b.pv, t.pv, u.pv]) T3 := by
    simp [D22, getV, ix_ref h1]
  rw [e5]
  show leave false [] _ = _
  rw [lv_nil (by simp)]
end
end LW
set_option Elab.async false
set_option linter.all false
set_option autoImplicit false
set_option maxRecDepth 100000
set_option maxHeartbeats 4000000
namespace LW
open PySem PySem.Spec PyProof.Rows E
open Classical
/-! shares as they are reckoned -/
def shO (a b x : Fr) : Int := if del a b < 0 then 0 - num b x * a.d else num b x * a.d
def shU (a b x : Fr) : Int := if del a b < 0 then 0 - del a b * x.d else del a b * x.d
theorem shU_pos {a b : Fr} (h : a ≠ b) (x : Fr) : 0 < shU a b x := by
  have hx := x.pos; have hd := del_ne h
  unfold shU
  split
  · rename_i g
    have := Int.mul_neg_of_neg_of_pos g hx
    omega
  · exact Int.mul_pos (by omega) hx
theorem sh_pair {a b x s : Fr} (h : IsSh a b x s) : s.n * shU a b x = shO a b x * s.d := by
  unfold IsSh at h
  unfold shU shO
  split
  · have e1 : s.n * (0 - del a b * x.d) = -(s.n * (del a b * x.d)) := by grind
    have e2 : (0 - num b x * a.d) * s.d = -((num b x * a.d) * s.d) := by grind
    rw [e1, e2, h]
  · exact h
theorem sh_ord {a b l g sl sg : Fr} (hab : a ≠ b) (h1 : IsSh a b l sl) (h2 : IsSh a b g sg) : (if del a b < 0 then sl.n * sg.d < sg.n * sl.d else sg.n * sl.d < sl.n * sg.d) ↔ g.n * l.d < l.n * g.d := by
  have hd := del_ne hab
  have pa := a.pos; have pb := b.pos
  have p1 := sh_pair h1; have p2 := sh_pair h2
  have u1 := shU_pos hab l; have u2 := shU_pos hab g
  unfold shU shO at *
  by_cases hn : del a b < 0
  · simp only [hn, if_true] at p1 p2 u1 u2 ⊢
    have t1 := same_lt sl.pos u1 p1 sg.n sg.d
    have t2 := same_gt sg.pos u2 p2 (0 - num b l * a.d) (0 - del a b * l.d)
    rw [t1, t2]
    have e1 : (0 - num b l * a.d) * (0 - del a b * g.d) = (num b l * g.d) * (a.d * del a b) := by grind
    have e2 : (0 - num b g * a.d) * (0 - del a b * l.d) = (num b g * l.d) * (a.d * del a b) := by grind
    rw [e1, e2]
    have c : a.d * -del a b > 0 := Int.mul_pos pa (by omega)
    have e3 : (num b l * g.d) * (a.d * del a b) = -((num b l * g.d) * (a.d * -del a b)) := by grind
    have e4 : (num b g * l.d) * (a.d * del a b) = -((num b g * l.d) * (a.d * -del a b)) := by grind
    rw [e3, e4]
    have k := @pos_mul_lt (num b g * l.d) (num b l * g.d) (a.d * -del a b) c
    have k2 := @pos_mul_lt (g.n * l.d) (l.n * g.d) b.d pb
    have e5 : num b g * l.d = g.n * l.d * b.d - b.n * g.d * l.d := by unfold num; grind
    have e6 : num b l * g.d = l.n * g.d * b.d - b.n * g.d * l.d := by unfold num; grind
    rw [Int.neg_lt_neg_iff, k, e5, e6]
    omega
  · simp only [hn, if_false] at p1 p2 u1 u2 ⊢
    have t1 := same_lt sg.pos u2 p2 sl.n sl.d
    have t2 := same_gt sl.pos u1 p1 (num b g * a.d) (del a b * g.d)
    rw [t1, t2]
    have e1 : num b g * a.d * (del a b * l.d) = (num b g * l.d) * (a.d * del a b) := by grind
    have e2 : num b l * a.d * (del a b * g.d) = (num b l * g.d) * (a.d * del a b) := by grind
    rw [e1, e2]
    have c : a.d * del a b > 0 := Int.mul_pos pa (by omega)
    have k := @pos_mul_lt (num b g * l.d) (num b l * g.d) (a.d * del a b) c
    have k2 := @pos_mul_lt (g.n * l.d) (l.n * g.d) b.d pb
    have e5 : num b g * l.d = g.n * l.d * b.d - b.n * g.d * l.d := by unfold num; grind
    have e6 : num b l * g.d = l.n * g.d * b.d - b.n * g.d * l.d := by unfold num; grind
    rw [k, e5, e6]
    omega
theorem low_same {x s : Fr} {o u : Int} (h1 : x.n * u = o * x.d) (h2 : s.n * u = o * s.d) (hu : u ≠ 0) : x = s := by
  apply Fr.uniq
  apply Int.eq_of_mul_eq_mul_right hu
  have e1 : x.n * s.d * u = (x.n * u) * s.d := by grind
  have e2 : s.n * x.d * u = (s.n * u) * x.d := by grind
  rw [e1, e2, h1, h2]
  grind
theorem fr_z {x : Fr} (h : x.n * 1 = 0 * x.d) : x = frz := low_same h (by decide) (by decide)
theorem fr_o {x : Fr} (h : x.n * 1 = 1 * x.d) : x = fro := low_same h (by decide) (by decide)
section
variable {d : Nat} {T : Store}
theorem rev_ref' {kc : List PV} {r : Nat} {xs : List PV} (h : T.getD r dead = .lst xs) : evP kc (.rev true) [.ref r] T = .ok (.ref T.length) (T ++ [.lst xs.reverse]) := rev_ref h
theorem unp_ref {r : Nat} {xs : List PV} (h : T.getD r dead = .lst xs) : E.unpack (.ref r) T = some xs := by
  unfold E.unpack
  rw [dr_ref, h]
/-- the end of _law_due -/
theorem due_tail (C : E.Ctx) (hC : C.call = callD PG C0 (d + 1)) (v0 v1 v2 v3 x5 x6 x7 : Option PV) (r : Nat) (lo hi : Fr) (o1 u1 o2 u2 : Int) (hT : T.getD r dead = .lst [pr o1 u1, pr o2 u2]) (q1 : 0 < u1) (q2 : 0 < u2) (h1 : lo.n * u1 = o1 * lo.d) (h2 : hi.n * u2 = o2 * hi.d) (hle : ¬ hi.n * lo.d < lo.n * hi.d)
    [Sz o1 3000] [Sz u1 3000] [Sz o2 3000] [Sz u2 3000] : evSs C (D23.body.drop 4) [v0, v1, v2, v3, some (.ref r), x5, x6, x7, none, none] T = .rt (duePv (Due lo hi)) T := by
  have w1 := same_gt lo.pos q1 h1 1 1
  have w2 := same_lt hi.pos q2 h2 0 1
  have w3 := same_lt lo.pos q1 h1 0 1
  have w4 := same_gt hi.pos q2 h2 1 1
  simp only [Int.mul_one, Int.one_mul, Int.zero_mul] at w1 w2 w3 w4
  obtain ⟨x, e1, k1, _, _⟩ := f19 (d := d) (T := T) o1 u1 (by omega) (by omega) q1
  obtain ⟨y, e2, k2, _, _⟩ := f19 (d := d) (T := T) o2 u2 (by omega) (by omega) q2
  have ex := low_same k1 h1 (by omega)
  have ey := low_same k2 h2 (by omega)
  subst ex ey
  obtain ⟨z, e3, k3, _, _⟩ := f19 (d := d) (T := T) 0 1 (by decide) (by decide) (by decide)
  have ez := fr_z k3
  obtain ⟨w, e4, k4, _, _⟩ := f19 (d := d) (T := T) 1 1 (by decide) (by decide) (by decide)
  have ew := fr_o k4
  subst ez ew
  unfold Due
  by_cases g1 : u1 < o1
  · have : x.d < x.n := w1.mpr g1
    rw [if_pos (.inr (.inl this))]
    simp [D23, getV, unp_ref hT, g1, duePv]
  · have n1 : ¬ x.d < x.n := fun z => g1 (w1.mp z)
    by_cases g2 : o2 < 0
    · have : y.n < 0 := w2.mpr g2
      rw [if_pos (.inr (.inr this))]
      simp [D23, getV, unp_ref hT, g1, g2, duePv]
    · have n2 : ¬ y.n < 0 := fun z => g2 (w2.mp z)
      rw [if_neg (by
        rintro (z | z | z)
        · exact hle z
        · exact n1 z
        · exact n2 z)]
      by_cases g3 : o1 < 0 <;> by_cases g4 : u2 < o2 <;>
      simp [D23, getV, unp_ref hT, g1, g2, g3, g4, duePv, w3, w4, hC, e1, e2, e3, e4]
theorem f23 (a b l g : Fr) {sl sg : Fr} (hab : a ≠ b) (h1 : IsSh a b l sl) (h2 : IsSh a b g sg) [Szf a 400] [Szf b 400] [Szf l 400] [Szf g 400] : callD PG C0 (d + 2) 23 [a.pv, b.pv, l.pv, g.pv] [] = .ok (duePv (lohi a b sl sg)) [] := by
  rw [call_S (D := D23) rfl rfl]
  have hC : ({ C0 with call := callD PG C0 (d + 1), cur := none } : E.Ctx).call = callD PG C0 (d + 1) := rfl
  generalize ({ C0 with call := callD PG C0 (d + 1), cur := none } : E.Ctx) = C at hC
  have ord := sh_ord hab h1 h2
  have p1 := sh_pair h1; have p2 := sh_pair h2
  have u1 := shU_pos hab l; have u2 := shU_pos hab g
  have es : _root_.E.start D23 [a.pv, b.pv, l.pv, g.pv] = [some a.pv, some b.pv, some l.pv, some g.pv, none, none, none, none, none, none] := rfl
  rw [es]
  have hn : a.n * b.d < b.n * a.d ↔ del a b < 0 := by unfold del; omega
  by_cases hlg : g.n * l.d < l.n * g.d
  · have e : lohi a b sl sg = none := by
      unfold lohi Due
      by_cases h : a.n * b.d < b.n * a.d
      · rw [if_pos h, if_pos]
        have := ord.mpr hlg
        rw [if_pos (hn.mp h)] at this
        exact .inl this
      · rw [if_neg h, if_pos]
        have := ord.mpr hlg
        rw [if_neg fun z => h (hn.mpr z)] at this
        exact .inl this
    rw [e]
    simp (disch := first | omega | decide | simp) [D23, getV, hlg, duePv]
  · have eb : D23.body = D23.body.take 4 ++ D23.body.drop 4 := rfl
    have pl := l.pos; have pg := g.pos
    unfold lohi
    by_cases h : a.n * b.d < b.n * a.d
    · have hd : del a b < 0 := hn.mp h
      have s1 : (a.n * b.d - b.n * a.d) * l.d < 0 := Int.mul_neg_of_neg_of_pos hd pl
      have s2 : (a.n * b.d - b.n * a.d) * g.d < 0 := Int.mul_neg_of_neg_of_pos hd pg
      rw [if_pos h]
      rw [if_pos hd] at ord
      have z1 : Sz (shO a b l) 3000 := by
        unfold shO
        rw [if_pos hd]
        exact Sz.le _ (by rw [show Nat.log2 0 = 0 by decide]; omega)
      have z2 : Sz (shU a b l) 3000 := by
        unfold shU
        rw [if_pos hd]
        exact Sz.le _ (by rw [show Nat.log2 0 = 0 by decide]; omega)
      have z3 : Sz (shO a b g) 3000 := by
        unfold shO
        rw [if_pos hd]
        exact Sz.le _ (by rw [show Nat.log2 0 = 0 by decide]; omega)
      have z4 : Sz (shU a b g) 3000 := by
        unfold shU
        rw [if_pos hd]
        exact Sz.le _ (by rw [show Nat.log2 0 = 0 by decide]; omega)
      obtain ⟨x5, x6, x7, e⟩ : ∃ x5 x6 x7 : Option PV, evSs C (D23.body.take 4) [some a.pv, some b.pv, some l.pv, some g.pv, none, none, none, none, none, none] [] = .nx [some a.pv, some b.pv, some l.pv, some g.pv, some (.ref 1), x5, x6, x7, none, none] [.lst [pr (shO a b l) (shU a b l), pr (shO a b g) (shU a b g)], .lst [pr (shO a b g) (shU a b g), pr (shO a b l) (shU a b l)]] := by
        unfold shO shU
        simp only [hd, if_true]
        refine ⟨some g.pv, some (.int (0 - num b g * a.d)), some (.int (0 - del a b * g.d)), ?_⟩
        have ap0 : ∀ kc y, evP kc .append [.ref 0, y] [.lst []] = .ok .non [.lst [y]] := fun kc y => app_r (T := []) (R := []) (xs := []) (by decide)
        have ap1 : ∀ kc x y, evP kc .append [.ref 0, y] [.lst [x]] = .ok .non [.lst [x, y]] := fun kc x y => app_r (T := []) (R := []) (xs := [x]) (by simp [sizeLine])
        have rv : ∀ kc x y, evP kc (.rev true) [.ref 0] [.lst [x, y]] = .ok (.ref 1) [.lst [x, y], .lst [y, x]] := fun kc x y => rfl
        simp (disch := first | omega | decide | simp [sizeLine]) [D23, getV, hlg, lay, r_for, forL, wipe, s1, s2, ap0, ap1, rv, h, num, del]
      rw [eb, ss_app e, due_tail C hC _ _ _ _ _ _ _ 1 sg sl (shO a b g) (shU a b g) (shO a b l) (shU a b l) rfl u2 u1 p2 p1 (fun z => hlg (ord.mp z))]
      rw [show D23.raw = false from rfl, lv_nil (nor_due _)]
    · have hd : ¬ del a b < 0 := fun z => h (hn.mpr z)
      have hd2 : 0 < del a b := by have := del_ne hab; omega
      have s1 : ¬ (a.n * b.d - b.n * a.d) * l.d < 0 := by have := Int.mul_pos hd2 pl; unfold del at this; omega
      have s2 : ¬ (a.n * b.d - b.n * a.d) * g.d < 0 := by have := Int.mul_pos hd2 pg; unfold del at this; omega
      rw [if_neg h]
      rw [if_neg hd] at ord
      have z1 : Sz (shO a b l) 3000 := by
        unfold shO
        rw [if_neg hd]
        exact Sz.le _ (by omega)
      have z2 : Sz (shU a b l) 3000 := by
        unfold shU
        rw [if_neg hd]
        exact Sz.le _ (by omega)
      have z3 : Sz (shO a b g) 3000 := by
        unfold shO
        rw [if_neg hd]
        exact Sz.le _ (by omega)
      have z4 : Sz (shU a b g) 3000 := by
        unfold shU
        rw [if_neg hd]
        exact Sz.le _ (by omega)
      obtain ⟨x5, x6, x7, e⟩ : ∃ x5 x6 x7 : Option PV, evSs C (D23.body.take 4) [some a.pv, some b.pv, some l.pv, some g.pv, none, none, none, none, none, none] [] = .nx [some a.pv, some b.pv, some l.pv, some g.pv, some (.ref 0), x5, x6, x7, none, none] [.lst [pr (shO a b l) (shU a b l), pr (shO a b g) (shU a b g)]] := by
        unfold shO shU
        simp only [hd, if_false]
        refine ⟨some g.pv, some (.int (num b g * a.d)), some (.int (del a b * g.d)), ?_⟩
        have ap0 : ∀ kc y, evP kc .append [.ref 0, y] [.lst []] = .ok .non [.lst [y]] := fun kc y => app_r (T := []) (R := []) (xs := []) (by decide)
        have ap1 : ∀ kc x y, evP kc .append [.ref 0, y] [.lst [x]] = .ok .non [.lst [x, y]] := fun kc x y => app_r (T := []) (R := []) (xs := [x]) (by simp [sizeLine])
        have rv : ∀ kc x y, evP kc (.rev true) [.ref 0] [.lst [x, y]] = .ok (.ref 1) [.lst [x, y], .lst [y, x]] := fun kc x y => rfl
        simp (disch := first | omega | decide | simp [sizeLine]) [D23, getV, hlg, lay, r_for, forL, wipe, s1, s2, ap0, ap1, rv, h, num, del]
      rw [eb, ss_app e, due_tail C hC _ _ _ _ _ _ _ 0 sl sg (shO a b l) (shU a b l) (shO a b g) (shU a b g) rfl u1 u2 p1 p2 (fun z => hlg (ord.mp z))]
      rw [show D23.raw = false from rfl, lv_nil (nor_due _)]
end
end LW
set_option Elab.async false
set_option linter.all false
set_option autoImplicit false
set_option maxRecDepth 100000
set_option maxHeartbeats 4000000
namespace LW
open PySem PySem.Spec PyProof.Rows E
open Classical
/-- between the tips, and between the shares -/
def Here (k : Int) : Option (Fr × Fr) → Prop
  | none => False
  | some (p, q) => p.n * 12 ≤ k * p.d ∧ k * q.d ≤ q.n * 12
theorem due_here (lo hi : Fr) (k : Int) (k0 : 0 ≤ k) (k1 : k ≤ 12) : (lo.n * 12 ≤ k * lo.d ∧ k * hi.d ≤ hi.n * 12) ↔ Here k (Due lo hi) := by
  have pl := lo.pos; have ph := hi.pos
  have e1 : k * lo.d ≤ 12 * lo.d := (pos_mul_le pl).mpr k1
  have e2 : k * hi.d ≤ 12 * hi.d := (pos_mul_le ph).mpr k1
  have e3 : 0 ≤ k * lo.d := Int.mul_nonneg k0 (by omega)
  have e4 : 0 ≤ k * hi.d := Int.mul_nonneg k0 (by omega)
  unfold Due
  by_cases h : hi.n * lo.d < lo.n * hi.d ∨ lo.d < lo.n ∨ hi.n < 0
  · rw [if_pos h]
    show _ ↔ False
    constructor
    · rintro ⟨g1, g2⟩
      rcases h with h | h | h
      · have t1 : lo.n * 12 * hi.d ≤ k * lo.d * hi.d := (pos_mul_le ph).mpr g1
        have t2 : k * hi.d * lo.d ≤ hi.n * 12 * lo.d := (pos_mul_le pl).mpr g2
        have t3 : lo.n * 12 * hi.d = 12 * (lo.n * hi.d) := by grind
        have t4 : hi.n * 12 * lo.d = 12 * (hi.n * lo.d) := by grind
        have t5 : k * hi.d * lo.d = k * lo.d * hi.d := by grind
        omega
      · omega
      · omega
    · exact False.elim
  · rw [if_neg h]
    unfold Here
    have n1 : ¬ lo.d < lo.n := fun z => h (.inr (.inl z))
    have n2 : ¬ hi.n < 0 := fun z => h (.inr (.inr z))
    by_cases g1 : lo.n < 0 <;> by_cases g2 : hi.d < hi.n <;> simp only [g1, g2, if_true, if_false, frz, fro] <;> omega
theorem within_here {a b l g sl sg x : Fr} (hab : a ≠ b) (h1 : IsSh a b l sl) (h2 : IsSh a b g sg) (k : Int) (k0 : 0 ≤ k) (k1 : k ≤ 12) (hx : x.n * (a.d * b.d * 12) = (a.n * b.d * k + b.n * a.d * (12 - k)) * x.d) :
    (l.n * x.d ≤ x.n * l.d ∧ x.n * g.d ≤ g.n * x.d) ↔ Here k (lohi a b sl sg) := by
  have pa := a.pos; have pb := b.pos
  have hu : 0 < a.d * b.d * 12 := Int.mul_pos (Int.mul_pos pa pb) (by decide)
  have t1 := same_ge x.pos hu hx l.n l.d
  have t2 := same_le x.pos hu hx g.n g.d
  have p1 := sh_pair h1; have p2 := sh_pair h2
  have u1 := shU_pos hab l; have u2 := shU_pos hab g
  have hn : a.n * b.d < b.n * a.d ↔ del a b < 0 := by unfold del; omega
  have w1 : (l.n * (a.d * b.d * 12) ≤ (a.n * b.d * k + b.n * a.d * (12 - k)) * l.d) ↔ 12 * (num b l * a.d) ≤ k * (del a b * l.d) := by
    have e : (a.n * b.d * k + b.n * a.d * (12 - k)) * l.d - l.n * (a.d * b.d * 12) = k * (del a b * l.d) - 12 * (num b l * a.d) := by unfold del num; grind
    omega
  have w2 : ((a.n * b.d * k + b.n * a.d * (12 - k)) * g.d ≤ g.n * (a.d * b.d * 12)) ↔ k * (del a b * g.d) ≤ 12 * (num b g * a.d) := by
    have e : (a.n * b.d * k + b.n * a.d * (12 - k)) * g.d - g.n * (a.d * b.d * 12) = k * (del a b * g.d) - 12 * (num b g * a.d) := by unfold del num; grind
    omega
  rw [t1, t2, w1, w2]
  unfold lohi
  unfold shU at u1 u2
  unfold shU shO at p1 p2
  by_cases hd : del a b < 0
  · rw [if_pos (hn.mpr hd), ← due_here sg sl k k0 k1]
    simp only [hd, if_true] at p1 p2 u1 u2
    have r1 := same_ge sl.pos u1 p1 k 12
    have r2 := same_le sg.pos u2 p2 k 12
    rw [r1, r2]
    have f1 : k * (0 - del a b * l.d) = -(k * (del a b * l.d)) := by grind
    have f2 : k * (0 - del a b * g.d) = -(k * (del a b * g.d)) := by grind
    rw [f1, f2]
    omega
  · rw [if_neg fun z => hd (hn.mp z), ← due_here sl sg k k0 k1]
    simp only [hd, if_false] at p1 p2 u1 u2
    have r1 := same_le sl.pos u1 p1 k 12
    have r2 := same_ge sg.pos u2 p2 k 12
    rw [r1, r2]
    omega
theorem nor_lohi (o : Option (Fr × Fr)) : (duePv o).nor = true := nor_due o
section
variable {d : Nat} {T : Store}
def bd24 : List E.St := match D24.body with
  | .for_ _ _ _ b :: _ => b
  | _ => []
theorem step24 (C : E.Ctx) (hC : C.call = callD PG C0 (d + 2)) (a b l g : Fr) {sl sg : Fr} (hab : a ≠ b) (h1 : IsSh a b l sl) (h2 : IsSh a b g sg) [Szf a 80] [Szf b 80] [Szf l 400] [Szf g 400] [Szf sl 2500] [Szf sg 2500] (k : Nat) (hk : k < 13) (x5 x6 x7 x8 : Option PV) :
    ∃ x5' x6' x7' x8', evSs C bd24 [some a.pv, some b.pv, some l.pv, some g.pv, some (duePv (lohi a b sl sg)), some (.int k), x6, x7, x8] [] = .nx [some a.pv, some b.pv, some l.pv, some g.pv, some (duePv (lohi a b sl sg)), x5', x6', x7', x8'] [] := by
  have zk : Sz (k : Int) 8 := ⟨by omega⟩
  have z12 : Sz (12 : Int) 8 := ⟨by decide⟩
  obtain ⟨x, e, hx, zx⟩ := f21 (d := d) (T := []) a b k 12 (by decide)
  have key := within_here hab h1 h2 k (by omega) (by omega) hx
  have i1 : ∀ T, evP C.kc .mul [.int l.n, .int x.d] T = .ok (.int (l.n * x.d)) T := fun T => q_mul (by omega)
  have i2 : ∀ T, evP C.kc .mul [.int x.n, .int l.d] T = .ok (.int (x.n * l.d)) T := fun T => q_mul (by omega)
  have i3 : ∀ T, evP C.kc .mul [.int x.n, .int g.d] T = .ok (.int (x.n * g.d)) T := fun T => q_mul (by omega)
  have i4 : ∀ T, evP C.kc .mul [.int g.n, .int x.d] T = .ok (.int (g.n * x.d)) T := fun T => q_mul (by omega)
  refine ⟨some (.int k), some x.pv, some (.bl (decide (l.n * x.d ≤ x.n * l.d ∧ x.n * g.d ≤ g.n * x.d))), some (.bl (decide (Here k (lohi a b sl sg)))), ?_⟩
  have wi : ∀ P Q : Prop, [Decidable P] → [Decidable Q] → (P ↔ Q) → decide P = decide Q := fun P Q _ _ h => decide_eq_decide.mpr h
  have kw : decide (l.n * x.d ≤ x.n * l.d ∧ x.n * g.d ≤ g.n * x.d) = decide (Here k (lohi a b sl sg)) := wi _ _ key
  generalize hL : lohi a b sl sg = L at *
  rw [kw]
  cases L with
  | none =>
    have hf : ¬ (l.n * x.d ≤ x.n * l.d ∧ x.n * g.d ≤ g.n * x.d) := fun z => key.mp z
    rw [show decide (Here (k : Int) none) = false from decide_eq_false fun z => z]
    by_cases c1 : x.n * l.d < l.n * x.d
    · simp [bd24, D24, getV, hC, e, i1, i2, i3, i4, c1, duePv, Here]
    · have c2 : g.n * x.d < x.n * g.d := by omega
      simp [bd24, D24, getV, hC, e, i1, i2, i3, i4, c1, c2, duePv, Here]
  | some p =>
    obtain ⟨p, q⟩ := p
    have j1 : ∀ T, evP C.kc .mul [.int p.n, .int 12] T = .ok (.int (p.n * 12)) T := fun T => q_mulr (by decide)
    have j2 : ∀ T, evP C.kc .mul [.int (k : Int), .int p.d] T = .ok (.int (k * p.d)) T := fun T => q_mull (by decide)
    have j3 : ∀ T, evP C.kc .mul [.int (k : Int), .int q.d] T = .ok (.int (k * q.d)) T := fun T => q_mull (by decide)
    have j4 : ∀ T, evP C.kc .mul [.int q.n, .int 12] T = .ok (.int (q.n * 12)) T := fun T => q_mulr (by decide)
    have hk2 : (l.n * x.d ≤ x.n * l.d ∧ x.n * g.d ≤ g.n * x.d) ↔ (p.n * 12 ≤ k * p.d ∧ k * q.d ≤ q.n * 12) := key
    by_cases c1 : x.n * l.d < l.n * x.d
    · have nn : ¬ (p.n * 12 ≤ k * p.d ∧ k * q.d ≤ q.n * 12) := fun z => by
        have := (hk2.mpr z).1
        omega
      by_cases c3 : (k : Int) * p.d < p.n * 12
      · simp [bd24, D24, getV, hC, e, i1, i2, i3, i4, j1, j2, j3, j4, c1, c3, duePv, Here, Int.not_le.mpr c3]
      · have c4 : q.n * 12 < k * q.d := by omega
        simp [bd24, D24, getV, hC, e, i1, i2, i3, i4, j1, j2, j3, j4, c1, c3, c4, duePv, Here, Int.not_le.mpr c4]
    · by_cases c2 : g.n * x.d < x.n * g.d
      · have nn : ¬ (p.n * 12 ≤ k * p.d ∧ k * q.d ≤ q.n * 12) := fun z => by
          have := (hk2.mpr z).2
          omega
        by_cases c3 : (k : Int) * p.d < p.n * 12
        · simp [bd24, D24, getV, hC, e, i1, i2, i3, i4, j1, j2, j3, j4, c1, c2, c3, duePv, Here, Int.not_le.mpr c3]
        · have c4 : q.n * 12 < k * q.d := by omega
          simp [bd24, D24, getV, hC, e, i1, i2, i3, i4, j1, j2, j3, j4, c1, c2, c3, c4, duePv, Here, Int.not_le.mpr c4]
      · obtain ⟨c3, c4⟩ := hk2.mp ⟨by omega, by omega⟩
        have c3' : ¬ (k : Int) * p.d < p.n * 12 := by omega
        have c4' : ¬ q.n * 12 < k * q.d := by omega
        simp [bd24, D24, getV, hC, e, i1, i2, i3, i4, j1, j2, j3, j4, c1, c2, c3', c4', duePv, Here, c3, c4]
theorem f24 (a b l g : Fr) {sl sg : Fr} (hab : a ≠ b) (h1 : IsSh a b l sl) (h2 : IsSh a b g sg) [Szf a 80] [Szf b 80] [Szf l 400] [Szf g 400] [Szf sl 2500] [Szf sg 2500] : callD PG C0 (d + 3) 24 [a.pv, b.pv, l.pv, g.pv, duePv (lohi a b sl sg)] [] = .ok (.bl true) [] := by
  rw [call_S (D := D24) rfl rfl]
  have hC : ({ C0 with call := callD PG C0 (d + 2), cur := none } : E.Ctx).call = callD PG C0 (d + 2) := rfl
  generalize ({ C0 with call := callD PG C0 (d + 2), cur := none } : E.Ctx) = C at hC
  have hb : b62 13 := by unfold b62; omega
  obtain ⟨σ', T', h, ⟨rfl, x5, x6, x7, x8, rfl⟩⟩ := for_end (w := []) (step := fun x σ T => (noEx (asgT C (.var 5) x σ T)).then σ fun σ' T => evSs C bd24 σ' T)
    (fun i σ T' => T' = [] ∧ ∃ x5 x6 x7 x8, σ = [some a.pv, some b.pv, some l.pv, some g.pv, some (duePv (lohi a b sl sg)), x5, x6, x7, x8])
    (xs := (List.range 13).map fun (k : Nat) => PV.int k) (σ := [some a.pv, some b.pv, some l.pv, some g.pv, some (duePv (lohi a b sl sg)), none, none, none, none]) (T := []) ⟨rfl, _, _, _, _, rfl⟩ (by
      rintro k x σ T' hx ⟨rfl, x5, x6, x7, x8, rfl⟩
      have hk : k < 13 := by
        rcases Nat.lt_or_ge k 13 with h | h
        · exact h
        · rw [List.getElem?_eq_none (by simpa using h)] at hx
          cases hx
      have ex : x = .int k := by
        rw [List.getElem?_map, List.getElem?_range hk] at hx
        exact (Option.some.inj hx).symm
      subst ex
      obtain ⟨y5, y6, y7, y8, e⟩ := step24 C hC a b l g hab h1 h2 k hk x5 x6 x7 x8
      refine ⟨_, _, .inl ?_, rfl, y5, y6, y7, y8, rfl⟩
      simp [e])
  have eb : D24.body = [.for_ (.var 5) (.rng [(.cst (.int 13))]) [] bd24, .ret (.cst (.bl true))] := rfl
  have es : _root_.E.start D24 [a.pv, b.pv, l.pv, g.pv, duePv (lohi a b sl sg)] = [some a.pv, some b.pv, some l.pv, some g.pv, some (duePv (lohi a b sl sg)), none, none, none, none] := rfl
  rw [eb, es, r_scons, r_for]
  simp only [r_rng, r_cons, r_nil, r_cst, Ro.bind_ok, rng1 hb, Ro.then_ok]
  rw [show (13 : Int).toNat = 13 from rfl, h]
  simp [D24]
theorem f25 (o : Option (Fr × Fr)) : callD PG C0 (d + 1) 25 [duePv o] T = .ok (duePv (leftP o)) T := by
  rw [call_S (D := D25) rfl rfl]
  cases o with
  | none => simp [D25, E.start, getV, duePv, leftP]
  | some p =>
    obtain ⟨p, q⟩ := p
    simp [D25, E.start, getV, duePv, leftP]
    simp [Fr.pv, Fr.com]
theorem f26 (n1 e1 n2 e2 n3 e3 n4 e4 : Int) (r : Nat) (hT : T.getD r dead = .lst [pr n1 e1, pr n2 e2, pr n3 e3, pr n4 e4]) (h : callD PG C0 d 16 [pr n1 e1, pr n2 e2, pr n3 e3, pr n4 e4] T = .ex ⟨1, []⟩ T) : callD PG C0 (d + 1) 26 [.ref r] T = .ok (.bl true) T := by
  rw [call_S (D := D26) rfl rfl]
  simp [D26, E.start, getV, ix_ref hT, h]
  simp [C0, gone]
end
end LW
set_option Elab.async false
set_option linter.all false
set_option autoImplicit false
set_option maxRecDepth 100000
set_option maxHeartbeats 4000000
namespace LW
open PySem PySem.Spec PyProof.Rows E
open Classical
theorem lohi_left {a b l g sl sg sl' sg' : Fr} (hab : a ≠ b) (h1 : IsSh a b l sl) (h2 : IsSh a b g sg) (h3 : IsSh b a l sl') (h4 : IsSh b a g sg') : lohi b a sl' sg' = leftP (lohi a b sl sg) := by
  have e1 : sl' = sl.com := sh_uniq (Ne.symm hab) h3 (sh_com h1)
  have e2 : sg' = sg.com := sh_uniq (Ne.symm hab) h4 (sh_com h2)
  subst e1 e2
  have hd := del_ne hab
  unfold lohi
  by_cases h : a.n * b.d < b.n * a.d
  · rw [if_pos h, if_neg (by omega), due_left]
  · rw [if_neg h, if_pos (by unfold del at hd; omega), due_left]
theorem gd_fr (x : Fr) : x.pv.gd = true := by simp [Fr.pv, PV.gd, PV.gdL]
theorem big_fr (x : Fr) : x.pv.big = 3 := by simp [Fr.pv, PV.big, PV.bigL]
theorem gd_due (o : Option (Fr × Fr)) : (duePv o).gd = true := by
  cases o with
  | none => simp [duePv, PV.gd]
  | some p => simp [duePv, PV.gd, PV.gdL, gd_fr]
theorem big_due (o : Option (Fr × Fr)) : (duePv o).big < sizeLine := by
  cases o with
  | none => simp [duePv, PV.big, sizeLine]
  | some p => simp [duePv, PV.big, PV.bigL, big_fr, sizeLine]
theorem val_mul {n e k : Int} (hk : 2 ≤ k) : val (n * k) (e * k) = false := by
  apply decide_eq_false
  rintro ⟨_, h⟩
  rw [Int.natAbs_mul, Int.natAbs_mul, Nat.gcd_mul_right] at h
  have := Nat.eq_one_of_mul_eq_one_left h
  omega
theorem val_zero {n : Int} : val n 0 = false := decide_eq_false fun h => absurd h.1 (by decide)
theorem val_neg {n e : Int} (h : 0 < e) : val n (0 - e) = false := decide_eq_false fun z => by
  have := z.1
  omega
section
variable {d : Nat} {T : Store}
/-- what stands in the row at last -/
theorem s14 (C : E.Ctx) (v0 v2 v3 v4 v5 v6 v7 v8 v9 v10 v11 : Option PV) (ps : List Int) (hd : Dig ps) (hp : (70 : Int) ≤ ps.length) (a b l g : Fr) [Szf a 400] [Szf b 400] [Szf l 400] [Szf g 400] (i y : Int) (i0 : 0 ≤ i) (i1 : i < 4) (y0 : 2 ≤ y) (y1 : y < 10) :
    ∃ n1 e1 n2 e2 n3 e3 n4 e4 : Int, evS C (D27.body.getD 14 .pass) [v0, some (.lst (ps.map .int)), v2, v3, v4, v5, v6, v7, v8, v9, v10, v11, some (.ref 0), some (.int i), some (.int y)] [.lst [a.pv, b.pv, l.pv, g.pv]] =
      .nx [v0, some (.lst (ps.map .int)), v2, v3, v4, v5, v6, v7, v8, v9, v10, v11, some (.ref 0), some (.int i), some (.int y)] [.lst [pr n1 e1, pr n2 e2, pr n3 e3, pr n4 e4]] ∧ (val n1 e1 && val n2 e2 && val n3 e3 && val n4 e4) = false := by
  have z0 := fun kc T => pl_ix (kc := kc) (T := T) (ps := ps) (k := 55) (by omega) (by omega)
  have zy : Sz y 8 := ⟨by omega⟩
  have hb := pl_bd hd 55
  have is : i = 0 ∨ i = 1 ∨ i = 2 ∨ i = 3 := by omega
  have js : pl ps 55 % 3 = 0 ∨ pl ps 55 % 3 = 1 ∨ pl ps 55 % 3 = 2 := by omega
  have nw : ∀ x : Fr, ∃ n e : Int, val n e = false ∧ ∀ kc T, ixP kc (.tup [.tup [.int (x.n * y), .int (x.d * y)], .tup [.int x.n, .int 0], .tup [.int (x.n + 1), .int (0 - x.d)]]) (.int (pl ps 55 % 3)) T = .ok (pr n e) T := by
    intro x
    rcases js with j | j | j
    · exact ⟨x.n * y, x.d * y, val_mul y0, fun kc T => by rw [j]; exact ix_t0 _ _⟩
    · exact ⟨x.n, 0, val_zero, fun kc T => by rw [j]; exact ix_t1 _ _ _⟩
    · exact ⟨x.n + 1, 0 - x.d, val_neg x.pos, fun kc T => by rw [j]; exact ix_t2 _ _ _ _⟩
  have su : ∀ (kc : List PV) (v : PV) (x0 x1 x2 x3 : PV), subP kc (.ref 0) (.int 0) v [.lst [x0, x1, x2, x3]] = .ok .non [.lst [v, x1, x2, x3]] ∧ subP kc (.ref 0) (.int 1) v [.lst [x0, x1, x2, x3]] = .ok .non [.lst [x0, v, x2, x3]] ∧
      subP kc (.ref 0) (.int 2) v [.lst [x0, x1, x2, x3]] = .ok .non [.lst [x0, x1, v, x3]] ∧ subP kc (.ref 0) (.int 3) v [.lst [x0, x1, x2, x3]] = .ok .non [.lst [x0, x1, x2, v]] := fun kc v x0 x1 x2 x3 => ⟨rfl, rfl, rfl, rfl⟩
  have ir : ∀ (kc : List PV) (i : PV) (xs : List PV), ixP kc (.ref 0) i [.lst xs] = ixP kc (.lst xs) i [.lst xs] := fun kc i xs => ix_ref rfl i
  have mu : ∀ (x : Fr) [Szf x 400] (kc : List PV) (T : Store), evP kc .mul [.int x.n, .int y] T = .ok (.int (x.n * y)) T ∧ evP kc .mul [.int x.d, .int y] T = .ok (.int (x.d * y)) T := fun x _ kc T => ⟨q_mulr (by omega), q_mulr (by omega)⟩
  rcases is with rfl | rfl | rfl | rfl
  · obtain ⟨n, e, hv, hx⟩ := nw a
    refine ⟨n, e, b.n, b.d, l.n, l.d, g.n, g.d, ?_, by simp [hv]⟩
    simp only [Int.zero_sub] at hx
    simp (disch := first | omega | decide | simp) [D27, getV, z0, ir, mu a, hx, su]
    exact ⟨rfl, rfl, rfl⟩
  · obtain ⟨n, e, hv, hx⟩ := nw b
    refine ⟨a.n, a.d, n, e, l.n, l.d, g.n, g.d, ?_, by simp [hv]⟩
    simp only [Int.zero_sub] at hx
    simp (disch := first | omega | decide | simp) [D27, getV, z0, ir, mu b, hx, su]
    exact ⟨rfl, rfl, rfl⟩
  · obtain ⟨n, e, hv, hx⟩ := nw l
    refine ⟨a.n, a.d, b.n, b.d, n, e, g.n, g.d, ?_, by simp [hv]⟩
    simp only [Int.zero_sub] at hx
    simp (disch := first | omega | decide | simp) [D27, getV, z0, ir, mu l, hx, su]
    exact ⟨rfl, rfl, rfl⟩
  · obtain ⟨n, e, hv, hx⟩ := nw g
    refine ⟨a.n, a.d, b.n, b.d, l.n, l.d, n, e, ?_, by simp [hv]⟩
    simp only [Int.zero_sub] at hx
    simp (disch := first | omega | decide | simp) [D27, getV, z0, ir, mu g, hx, su]
    exact ⟨rfl, rfl, rfl⟩
end
end LW
set_option Elab.async false
set_option linter.all false
set_option autoImplicit false
set_option maxRecDepth 100000
set_option maxHeartbeats 4000000
namespace LW
open PySem PySem.Spec PyProof.Rows E
open Classical
noncomputable abbrev C27 : E.Ctx := { C0 with call := callD PG C0 20, cur := none }
theorem plainL (ns : List Int) (hn : ns.length ≤ 63) : callD PG C0 21 27 [.lst (ns.map .int)] [] = .ok (.bl true) [] := by
  rw [call_S (D := D27) rfl rfl]
  obtain ⟨ps, e17, hd, hp⟩ := pool_ok (P := PG) (C := C0) (d := 19) (f := 17) (T := []) (m := 70) (show PG 17 = some Dpool2 from rfl) ns hn (by decide) (by decide)
  have hp : (70 : Int) ≤ ps.length := hp
  have e17 : callD PG C0 20 17 [.lst (ns.map .int), .int 70] [] = .ok (.lst (ps.map .int)) [] := e17
  obtain ⟨a, b, l, g, e22, hab, sa, sb, na, nb, nl, ng, zl, zg⟩ := f22 (d := 17) ps hd hp
  have e22 : callD PG C0 20 22 [.lst (ps.map .int)] [] = .ok (.tup [a.pv, b.pv, l.pv, g.pv]) [] := e22
  have a4 : Szf a 400 := sa.up (by omega)
  have b4 : Szf b 400 := sb.up (by omega)
  obtain ⟨sl, sg, k1, k2, t1, t2, e16⟩ := @f16 16 [] a b l g 400 a4 b4 zl zg hab (by decide)
  have e16 : callD PG C0 20 16 [a.pv, b.pv, l.pv, g.pv] [] = .ok (duePv (lohi a b sl sg)) [] := e16
  have e23 : callD PG C0 20 23 [a.pv, b.pv, l.pv, g.pv] [] = .ok (duePv (lohi a b sl sg)) [] := @f23 18 a b l g sl sg hab k1 k2 a4 b4 zl zg
  have e24 : callD PG C0 20 24 [a.pv, b.pv, l.pv, g.pv, duePv (lohi a b sl sg)] [] = .ok (.bl true) [] := @f24 17 a b l g sl sg hab k1 k2 sa sb zl zg t1 t2
  have same : ∀ (v : PV) (T : Store), v.gd = true → v.big < sizeLine → callD PG C0 20 18 [v, v] T = .ok (.bl true) T := fun v T h1 h2 => same_ok (P := PG) (C := C0) (d := 19) (f := 18) (show PG 18 = some Dsame from rfl) h1 h2
  obtain ⟨sl', sg', k3, k4, _, _, e16'⟩ := @f16 16 [] b a l g 400 b4 a4 zl zg (Ne.symm hab) (by decide)
  rw [lohi_left hab k1 k2 k3 k4] at e16'
  have e16' : callD PG C0 20 16 [b.pv, a.pv, l.pv, g.pv] [] = .ok (duePv (leftP (lohi a b sl sg))) [] := e16'
  have e25 : callD PG C0 20 25 [duePv (lohi a b sl sg)] [] = .ok (duePv (leftP (lohi a b sl sg))) [] := f25 (d := 19) _
  have same1 := same (duePv (lohi a b sl sg)) [] (gd_due _) (big_due _)
  have same2 := same (duePv (leftP (lohi a b sl sg))) [] (gd_due _) (big_due _)
  -- the weighing
  have p50 := pl_bd hd 50; have p51 := pl_bd hd 51; have p52 := pl_bd hd 52
  have pix := fun (k : Int) (h0 : 0 ≤ k) (h1 : k < 70) kc T => pl_ix (kc := kc) (T := T) (ps := ps) (k := k) h0 (by omega)
  generalize hlo : 1 + pl ps 50 % 300 = lo
  generalize hwa : pl ps 51 % 2000 = wa
  obtain ⟨er, her⟩ : ∃ er, er = (if (lo - 1) / 2 < (if pl ps 52 % 4 < wa then pl ps 52 % 4 else wa) then (lo - 1) / 2 else if pl ps 52 % 4 < wa then pl ps 52 % 4 else wa) := ⟨_, rfl⟩
  have lo1 : 1 ≤ lo ∧ lo ≤ 300 := by omega
  have wa1 : 0 ≤ wa ∧ wa < 2000 := by omega
  have er1 : 0 ≤ er ∧ er ≤ wa ∧ 2 * er < lo ∧ er < 4 := by
    rw [her]
    split <;> split <;> omega
  obtain ⟨ai, hai⟩ : ∃ ai, ai = wa + lo := ⟨_, rfl⟩
  have za : Sz ai 30 := ⟨by omega⟩
  have zw : Sz wa 30 := ⟨by omega⟩
  have ze : Sz er 30 := ⟨by omega⟩
  obtain ⟨x, y, e15, k5, k6⟩ := f15 (d := 16) (T := []) ai wa er wa1.1 (by omega) er1.1 er1.2.1 (by omega) (by omega)
  have e15 : callD PG C0 20 15 [.int ai, .int wa, .int er] [] = .ok (.tup [x.pv, y.pv]) [] := e15
  obtain ⟨o1, ho1⟩ : ∃ o, o = ai + er := ⟨_, rfl⟩
  obtain ⟨u1, hu1⟩ : ∃ o, o = lo + 2 * er := ⟨_, rfl⟩
  obtain ⟨o2, ho2⟩ : ∃ o, o = ai - er := ⟨_, rfl⟩
  obtain ⟨u2, hu2⟩ : ∃ o, o = lo - 2 * er := ⟨_, rfl⟩
  have zo1 : Sz o1 30 := ⟨by omega⟩
  have zu1 : Sz u1 30 := ⟨by omega⟩
  have zo2 : Sz o2 30 := ⟨by omega⟩
  have zu2 : Sz u2 30 := ⟨by omega⟩
  obtain ⟨x', e19, k7, sx1, sx2⟩ := f19 (d := 19) (T := []) o1 u1 (by omega) (by omega) (by omega)
  obtain ⟨y', e19', k8, sy1, sy2⟩ := f19 (d := 19) (T := []) o2 u2 (by omega) (by omega) (by omega)
  have ex : x' = x := low_same k7 (by rw [hu1, ho1, show lo + 2 * er = ai - wa + 2 * er by omega]; exact k5) (by omega)
  have ey : y' = y := low_same k8 (by rw [hu2, ho2, show lo - 2 * er = ai - wa - 2 * er by omega]; exact k6) (by omega)
  subst ex ey
  have e19 : callD PG C0 20 19 [.int o1, .int u1] [] = .ok x'.pv [] := e19
  have e19' : callD PG C0 20 19 [.int o2, .int u2] [] = .ok y'.pv [] := e19'
  have x4 : Szf x' 400 := ⟨sx1.up (by omega), sx2.up (by omega)⟩
  have y4 : Szf y' 400 := ⟨sy1.up (by omega), sy2.up (by omega)⟩
  have same3 := same (.tup [x'.pv, y'.pv]) [] (by simp [PV.gd, PV.gdL, gd_fr]) (by simp [PV.big, PV.bigL, big_fr, sizeLine])
  obtain ⟨tl, tg, k9, k10, _, _, f1⟩ := @f16 16 [] a b x' y' 400 a4 b4 x4 y4 hab (by decide)
  have f1 : callD PG C0 20 16 [a.pv, b.pv, x'.pv, y'.pv] [] = .ok (duePv (lohi a b tl tg)) [] := f1
  have f2 : callD PG C0 20 23 [a.pv, b.pv, x'.pv, y'.pv] [] = .ok (duePv (lohi a b tl tg)) [] := @f23 18 a b x' y' tl tg hab k9 k10 a4 b4 x4 y4
  have same4 := same (duePv (lohi a b tl tg)) [] (gd_due _) (big_due _)
  -- the row
  have p53 := pl_bd hd 53; have p54 := pl_bd hd 54
  obtain ⟨n1, i1, n2, i2, n3, i3, n4, i4, e14, hv⟩ := @s14 C27 (some (.lst (ns.map .int))) (some a.pv) (some b.pv) (some l.pv) (some g.pv) (some (duePv (lohi a b sl sg))) (some (.int lo)) (some (.int wa)) (some (.int er)) (some x'.pv) (some y'.pv) ps hd hp a b l g a4 b4 zl zg (pl ps 53 % 4) (2 + pl ps 54 % 5) (by omega) (by omega) (by omega) (by omega)
  have bad := fun T => f16_bad (d := 15) (T := T) n1 i1 n2 i2 n3 i3 n4 i4 hv
  have g1 := fun T r (hT : T.getD r dead = _) => f26 (d := 19) (T := T) n1 i1 n2 i2 n3 i3 n4 i4 r hT (bad T)
  have g1 : callD PG C0 20 26 [.ref 0] [.lst [pr n1 i1, pr n2 i2, pr n3 i3, pr n4 i4]] = .ok (.bl true) [.lst [pr n1 i1, pr n2 i2, pr n3 i3, pr n4 i4]] := g1 _ 0 rfl
  have g2 : callD PG C0 20 26 [.ref 1] [.lst [pr n1 i1, pr n2 i2, pr n3 i3, pr n4 i4], .lst [a.pv, a.pv, g.pv, l.pv]] = .ok (.bl true) [.lst [pr n1 i1, pr n2 i2, pr n3 i3, pr n4 i4], .lst [a.pv, a.pv, g.pv, l.pv]] :=
    f26 (d := 19) (T := [.lst [pr n1 i1, pr n2 i2, pr n3 i3, pr n4 i4], .lst [a.pv, a.pv, g.pv, l.pv]]) a.n a.d a.n a.d g.n g.d l.n l.d 1 rfl (f16_eq (d := 15) a g l)
  have head : evSs C27 (D27.body.take 6) (_root_.E.start D27 [.lst (ns.map .int)]) [] = .nx [some (.lst (ns.map .int)), some (.lst (ps.map .int)), some a.pv, some b.pv, some l.pv, some g.pv, some (duePv (lohi a b sl sg)), none, none, none, none, none, none, none, none] [] := by
    simp [D27, E.start, getV, e17, e22, e23, e24, e16, same1, same2, e16', e25]
  have mid : evSs C27 ((D27.body.drop 6).take 8) [some (.lst (ns.map .int)), some (.lst (ps.map .int)), some a.pv, some b.pv, some l.pv, some g.pv, some (duePv (lohi a b sl sg)), none, none, none, none, none, none, none, none] [] =
      .nx [some (.lst (ns.map .int)), some (.lst (ps.map .int)), some a.pv, some b.pv, some l.pv, some g.pv, some (duePv (lohi a b sl sg)), some (.int lo), some (.int wa), some (.int er), some x'.pv, some y'.pv, some (.ref 0), some (.int (pl ps 53 % 4)), some (.int (2 + pl ps 54 % 5))] [.lst [a.pv, b.pv, l.pv, g.pv]] := by
    have m2 : ∀ kc T, evP kc .mul [.int 2, .int er] T = .ok (.int (2 * er)) T := fun kc T => q_mulr (by omega)
    simp (disch := first | omega | decide | simp) [D27, getV, pix, hlo, hwa, ← her, m2, ← hai, ← ho1, ← hu1, ← ho2, ← hu2, e19, e19', e15, same3, f1, f2, same4, lay]
  have eb : D27.body = D27.body.take 6 ++ ((D27.body.drop 6).take 8 ++ (D27.body.getD 14 .pass :: [D27.body.getD 15 .pass, D27.body.getD 16 .pass])) := rfl
  show leave false [] (evSs C27 D27.body (_root_.E.start D27 [.lst (ns.map .int)]) []) = _
  rw [eb, ss_app head, ss_app mid, ss_nx e14]
  by_cases h : pl ps 56 % 4 = 0
  · simp [D27, getV, pix, h, lay, g2]
  · simp [D27, getV, pix, h, lay, g1]
end LW
theorem PySem.Challenge.cw_streakbook_k48_shares_of_a_lump_holds : PySem.Challenge.rw_streakbook_k48_shares_of_a_lump.Holds :=
  LW.endL fun ns hn _ => LW.plainL ns hn
