import PyProof.Rows.All
import Wide.All
import OpenK.AllK
import Wide.FinOn
import HandS.ForMost
import HandS.ForExc
import HandS.Defaults
import HandS.Deep
import HandS.Wide
import HandS.TupAny
import HandS.IsInst
import HandS.ExcInit
import HandS.ExcField
import HandS.ExcCtx
import HandS.TryMany
import HandS.RaiseMore
import HandS.TupMul
import HandS.Conv
import HandS.Style
import HandS.Keys
import KE.KDictKeyed
import KE.KeyNested
import HandS.Head0
import HandS.Head1
import HandS.Head2
import HandS.HeadEnd
import HandS.HeadHook1
import HandS.HeadHook2
import HandS.Codes
import KE.KRevSl
import HandS.ExcIs
import PySem.Challenge.RW_wokenpages_k25_hung_numbers_far
set_option Elab.async false
set_option linter.all false
set_option maxRecDepth 100000
set_option maxHeartbeats 0
namespace MP
open PySem (Str PyData)

/-- values; tuples are values, lists and dicts stand in the heap -/
inductive PV where
  | non | bl (b : Bool) | int (i : Int) | str (x : Str) | tup (xs : List PV) | loc (l : Nat)
  deriving Inhabited
inductive HV where
  | lst (xs : List PV) | dct (kvs : List (PV × PV))
abbrev Hv := List HV
abbrev Ev := List (Option PV)

inductive R (α : Type) where
  | ok (a : α) (h : Hv) | exc (c : Nat) (v : PV) (h : Hv) | bad
/-- what a statement comes to -/
inductive SR where
  | nx (e : Ev) (h : Hv) | rt (v : PV) (h : Hv) | bk (e : Ev) (h : Hv) | ct (e : Ev) (h : Hv) | exc (c : Nat) (v : PV) (e : Ev) (h : Hv) | bad

inductive Bop where | add | sub | mul | fdiv | mod | pow
inductive Cop where | eq | ne | lt | le | gt | ge | is_ | isnot | in_ | notin
  deriving DecidableEq
inductive Ty where | int | bool | str | list | tuple | dict
inductive Blt where | len | tuple | list | str | int | repr | min | max
inductive Mth where | append | pop
inductive Tg where
  | v (i : Nat) | t (is : List Nat)

mutual
inductive Ex where
  | cst (v : PV) | var (i : Nat) | glb (i : Nat)
  | tup (es : Es) | lst (es : Es) | dct0
  | bin (op : Bop) (a b : Ex) | neg (a : Ex)
  | cmp (op : Cop) (a b : Ex)
  | and (a b : Ex) | or (a b : Ex) | not (a : Ex) | ite (c a b : Ex)
  | call (f : Nat) (es : Es)
  | isi (a : Ex) (t : List Ty)
  | blt (b : Blt) (es : Es)
  | mth (m : Mth) (o : Ex) (es : Es)
  | sub (a i : Ex)
  | slc (a lo hi : Ex) | nop
  | rev (a : Ex)
  | comp (own : List Nat) (tg : Tg) (it cond elt : Ex)
  | compR (own : List Nat) (tg : Tg) (it : Es) (cond elt : Ex)
inductive Es where
  | nil | cons (e : Ex) (es : Es)
end

/-- what an except suite may say: of the error that it holds, of the slots -/
inductive Sx where
  | cst (v : PV) | var (i : Nat) | fld | isi (c : Nat) | and (a b : Sx) | not (a : Sx) | tup (es : List Sx)
/-- except cls as slot: to = val -/
structure Hd where
  cls : Nat
  slot : Nat
  to : Nat
  val : Sx
/-- a class of errors: its name, its one field, the def that makes the field's value of the argument, the classes that it is under -/
structure Cl where
  name : Str
  fld : Str
  conv : Nat
  sup : List Nat

mutual
inductive St where
  | exp (e : Ex)
  | asg (i : Nat) (e : Ex)
  | asgT (is : List Nat) (e : Ex)
  | set (o i e : Ex)
  | ret (e : Ex) | retN
  | ite (c : Ex) (a b : Bs)
  | whl (c : Ex) (b : Bs)
  | for_ (t : Tg) (e : Ex) (b : Bs)
  | forR (t : Tg) (es : Es) (b : Bs)
  | forRP (t : Tg) (es : Es) (b : Bs)
  | pass | brk | cont
  | rse (c : Nat) (e : Ex)
  | try_ (b : Bs) (hs : List Hd)
inductive Bs where
  | nil | cons (s : St) (b : Bs)
end

noncomputable section
def R.bind {α β : Type} (r : R α) (k : α → Hv → R β) : R β :=
  R.rec (motive := fun _ => R β) k (fun c v h => .exc c v h) .bad r
def R.done {α : Type} (r : R α) (e : Ev) (k : α → Hv → SR) : SR :=
  R.rec (motive := fun _ => SR) k (fun c v h => .exc c v e h) .bad r
@[simp] theorem bind_ok {α β : Type} (a : α) (h : Hv) (k : α → Hv → R β) : (R.ok a h).bind k = k a h := rfl
@[simp] theorem bind_exc {α β : Type} (c : Nat) (v : PV) (h : Hv) (k : α → Hv → R β) : (R.exc c v h : R α).bind k = .exc c v h := rfl
@[simp] theorem bind_bad {α β : Type} (k : α → Hv → R β) : (R.bad : R α).bind k = .bad := rfl
@[simp] theorem done_ok {α : Type} (a : α) (h : Hv) (e : Ev) (k : α → Hv → SR) : (R.ok a h).done e k = k a h := rfl
@[simp] theorem done_exc {α : Type} (c : Nat) (v : PV) (h : Hv) (e : Ev) (k : α → Hv → SR) : (R.exc c v h : R α).done e k = .exc c v e h := rfl
@[simp] theorem done_bad {α : Type} (e : Ev) (k : α → Hv → SR) : (R.bad : R α).done e k = .bad := rfl
def R.of {α : Type} (o : Option α) (h : Hv) : R α :=
  Option.rec (motive := fun _ => R α) .bad (fun a => .ok a h) o
/-- the number worked out ahead -/
def forceN {α : Type} (n : Nat) (k : Nat → α) : α := Nat.rec (k Nat.zero) (fun m _ => k (Nat.succ m)) n
def forceI {α : Type} (i : Int) (k : Int → α) : α :=
  match i with
  | .ofNat n => forceN n fun m => k (.ofNat m)
  | .negSucc n => forceN n fun m => k (.negSucc m)
theorem forceN_eq {α : Type} (n : Nat) (k : Nat → α) : forceN n k = k n := by cases n <;> rfl
theorem forceI_eq {α : Type} (i : Int) (k : Int → α) : forceI i k = k i := by
  cases i with
  | ofNat n => exact forceN_eq n fun m => k (.ofNat m)
  | negSucc n => exact forceN_eq n fun m => k (.negSucc m)
def nth {α : Type} (l : List α) : Nat → Option α :=
  List.rec (motive := fun _ => Nat → Option α) (fun _ => none) (fun a _ ih n => Nat.rec (motive := fun _ => Option α) (some a) (fun m _ => ih m) n) l
def put {α : Type} (l : List α) : Nat → α → List α :=
  List.rec (motive := fun _ => Nat → α → List α) (fun _ _ => []) (fun a r ih n b => Nat.rec (motive := fun _ => List α) (b :: r) (fun m _ => a :: ih m b) n) l
theorem nth_eq {α : Type} : ∀ (l : List α) (n : Nat), nth l n = l[n]?
  | [], _ => rfl
  | _ :: _, 0 => rfl
  | _ :: l, n + 1 => (nth_eq l n).trans (by simp)
theorem put_eq {α : Type} : ∀ (l : List α) (n : Nat) (b : α), put l n b = l.set n b
  | [], _, _ => rfl
  | _ :: _, 0, _ => rfl
  | a :: l, n + 1, b => congrArg (a :: ·) (put_eq l n b)
def eqNs (l : List Nat) : List Nat → Bool :=
  List.rec (motive := fun _ => List Nat → Bool) (fun m => List.rec (motive := fun _ => Bool) true (fun _ _ _ => false) m)
    (fun a _ ih m => List.rec (motive := fun _ => Bool) false (fun b r _ => Bool.rec false (ih r) (Nat.beq a b)) m) l
theorem eqNs_eq : ∀ (l m : List Nat), eqNs l m = decide (l = m)
  | [], [] => rfl
  | [], _ :: _ => rfl
  | _ :: _, [] => rfl
  | a :: l, b :: m => by
    have e : Nat.beq a b = decide (a = b) := by
      rw [Bool.eq_iff_iff, decide_eq_true_iff, Nat.beq_eq]
    have e2 : eqNs (a :: l) (b :: m) = Bool.rec false (eqNs l m) (Nat.beq a b) := rfl
    rw [e2, eqNs_eq l m, e]
    by_cases h : a = b
    · simp [h]
    · simp [h]
def strEq (x y : Str) : Bool := eqNs x.cps.toList y.cps.toList
theorem strEq_eq (x y : Str) : strEq x y = (x == y) := by
  obtain ⟨⟨x⟩⟩ := x; obtain ⟨⟨y⟩⟩ := y
  unfold strEq; rw [eqNs_eq, Bool.eq_iff_iff]; simp
def intEq (i j : Int) : Bool := decide (i = j)
def addI {α : Type} (i j : Int) (k : Int → α) : α :=
  match i with
  | .ofNat a => (match j with | .ofNat b => forceN (Nat.add a b) (fun m => k (.ofNat m)) | .negSucc b => forceI (Int.add (.ofNat a) (.negSucc b)) k)
  | .negSucc a => forceI (Int.add (.negSucc a) j) k
def mulI {α : Type} (i j : Int) (k : Int → α) : α :=
  match i with
  | .ofNat a => (match j with | .ofNat b => forceN (Nat.mul a b) (fun m => k (.ofNat m)) | .negSucc b => forceI (Int.mul (.ofNat a) (.negSucc b)) k)
  | .negSucc a => forceI (Int.mul (.negSucc a) j) k
def divI {α : Type} (i j : Int) (k : Int → α) : α :=
  match i with
  | .ofNat a => (match j with | .ofNat b => forceN (Nat.div a b) (fun m => k (.ofNat m)) | .negSucc b => forceI (Int.ofNat a / Int.negSucc b) k)
  | .negSucc a => forceI (Int.negSucc a / j) k
def modI {α : Type} (i j : Int) (k : Int → α) : α :=
  match i with
  | .ofNat a => (match j with | .ofNat b => forceN (Nat.mod a b) (fun m => k (.ofNat m)) | .negSucc b => forceI (Int.ofNat a % Int.negSucc b) k)
  | .negSucc a => forceI (Int.negSucc a % j) k
def ltI (i j : Int) : Bool :=
  match i with
  | .ofNat a => (match j with | .ofNat b => Nat.ble (Nat.succ a) b | .negSucc _ => false)
  | .negSucc a => (match j with | .ofNat _ => true | .negSucc b => Nat.ble (Nat.succ b) a)
def leI (i j : Int) : Bool := !ltI j i
def eqI (i j : Int) : Bool :=
  match i with
  | .ofNat a => (match j with | .ofNat b => Nat.beq a b | .negSucc _ => false)
  | .negSucc a => (match j with | .ofNat _ => false | .negSucc b => Nat.beq a b)
theorem addI_eq {α : Type} (i j : Int) (k : Int → α) : addI i j k = k (i + j) := by
  unfold addI
  split
  · split
    · rw [forceN_eq] <;> rfl
    · rw [forceI_eq] <;> rfl
  · rw [forceI_eq] <;> rfl
theorem mulI_eq {α : Type} (i j : Int) (k : Int → α) : mulI i j k = k (i * j) := by
  unfold mulI
  split
  · split
    · rw [forceN_eq] <;> rfl
    · rw [forceI_eq] <;> rfl
  · rw [forceI_eq] <;> rfl
theorem divI_eq {α : Type} (i j : Int) (k : Int → α) : divI i j k = k (i / j) := by
  unfold divI
  split
  · split
    · rw [forceN_eq] <;> rfl
    · rw [forceI_eq] <;> rfl
  · rw [forceI_eq] <;> rfl
theorem modI_eq {α : Type} (i j : Int) (k : Int → α) : modI i j k = k (i % j) := by
  unfold modI
  split
  · split
    · rw [forceN_eq] <;> rfl
    · rw [forceI_eq] <;> rfl
  · rw [forceI_eq] <;> rfl
theorem eqI_eq (i j : Int) : eqI i j = decide (i = j) := by
  rw [Bool.eq_iff_iff, decide_eq_true_iff]
  cases i <;> cases j <;> simp [eqI] <;> omega
theorem ltI_eq (i j : Int) : ltI i j = decide (i < j) := by
  rw [Bool.eq_iff_iff, decide_eq_true_iff]
  cases i <;> cases j <;> simp [ltI, Nat.ble_eq] <;> omega
theorem leI_eq (i j : Int) : leI i j = decide (i ≤ j) := by
  unfold leI
  rw [ltI_eq, Bool.eq_iff_iff]
  simp
def big : Nat := 10000000
def lenLe {α : Type} (b : Bool) (t : R α) : R α :=
  match b with
  | true => t
  | false => .bad
/-- no place of the heap in it, not deeper than n, its texts fit -/
def okAll (f : PV → Bool) : List PV → Bool
  | [] => true
  | x :: xs => f x && okAll f xs
def strOkP (x : Str) : Bool := x.cps.toList.all fun c => Nat.ble (Nat.succ c) 1114112
def okP : Nat → PV → Bool
  | 0 => fun v => match v with
    | .non => true
    | .bl _ => true
    | .int _ => true
    | .str x => strOkP x
    | .tup _ => false
    | .loc _ => false
  | n + 1 => fun v => match v with
    | .non => true
    | .bl _ => true
    | .int _ => true
    | .str x => strOkP x
    | .tup xs => okAll (okP n) xs
    | .loc _ => false
mutual
def PV.pure : PV → Bool
  | .loc _ => false
  | .tup xs => pureL xs
  | _ => true
def pureL : List PV → Bool
  | [] => true
  | x :: xs => x.pure && pureL xs
end
def eqLs (f : PV → PV → Bool) : List PV → List PV → Bool
  | [] => fun ys => match ys with
    | [] => true
    | _ :: _ => false
  | x :: xs => fun ys => match ys with
    | [] => false
    | y :: ys => f x y && eqLs f xs ys
def b2I (b : Bool) : Int := match b with
  | true => .ofNat 1
  | false => .ofNat 0
def eqNon (y : PV) : Bool := match y with
  | .non => true
  | _ => false
def eqBl (a : Bool) (y : PV) : Bool := match y with
  | .bl b => a == b
  | .int j => eqI (b2I a) j
  | _ => false
def eqInt (i : Int) (y : PV) : Bool := match y with
  | .bl b => eqI i (b2I b)
  | .int j => eqI i j
  | _ => false
def eqStr (x : Str) (y : PV) : Bool := match y with
  | .str z => strEq x z
  | _ => false
def eqTup (f : PV → PV → Bool) (xs : List PV) (y : PV) : Bool := match y with
  | .tup ys => eqLs f xs ys
  | _ => false
def eqP : Nat → PV → PV → Bool
  | 0 => fun x => match x with
    | .non => eqNon
    | .bl a => eqBl a
    | .int i => eqInt i
    | .str x => eqStr x
    | .tup _ => fun _ => false
    | .loc _ => fun _ => false
  | n + 1 => fun x => match x with
    | .non => eqNon
    | .bl a => eqBl a
    | .int i => eqInt i
    | .str x => eqStr x
    | .tup xs => eqTup (eqP n) xs
    | .loc _ => fun _ => false
def seqO {α : Type} : List (Option α) → Option (List α)
  | [] => some []
  | a :: r => match a with
    | some a => (match seqO r with | some l => some (a :: l) | none => none)
    | none => none
def someL (f : List PyData → PyData) (o : Option (List PyData)) : Option PyData := match o with
  | some ds => some (f ds)
  | none => none
/-- the datum that a value is, lists read off the heap -/
def reif (h : Hv) : Nat → PV → Option PyData
  | 0 => fun _ => none
  | n + 1 => fun v => match v with
    | .non => some .none
    | .bl b => some (.bool b)
    | .int i => some (.int i)
    | .str x => (match strOkP x with | true => some (.str x) | false => none)
    | .tup xs => someL .tuple (seqO (xs.map (reif h n)))
    | .loc l => match nth h l with
      | some (.lst xs) => someL .list (seqO (xs.map (reif h n)))
      | _ => none
def eqR (a b : Option PyData) : Option Bool := match a with
  | some d => (match b with | some e => some (PyData.eqv d e) | none => none)
  | none => none
def eqG (h : Hv) (a b : PV) : Option Bool :=
  match okP 60 a && okP 60 b with
  | true => some (eqP 61 a b)
  | false => eqR (reif h 60 a) (reif h 60 b)
def ixN (n : Nat) (i : Int) : Option Nat := match i with
  | .ofNat j => (match Nat.ble (Nat.succ j) n with | true => some j | false => none)
  | .negSucc j => (match Nat.ble (Nat.succ j) n with | true => some (n - Nat.succ j) | false => none)
def nthO {α : Type} (xs : List α) (o : Option Nat) : Option α := match o with
  | some j => nth xs j
  | none => none
def atI {α : Type} (xs : List α) (i : Int) : Option α := match i with
  | .ofNat j => nth xs j
  | .negSucc _ => nthO xs (ixN xs.length i)
def sIx (n d : Nat) (o : Option Int) : Nat := match o with
  | none => d
  | some v => if v < 0 then (v + (n : Int)).toNat else min v.toNat n
def cut (xs : List PV) (lo hi : Option Int) : List PV := forceN (sIx xs.length 0 lo) fun a => forceN (sIx xs.length xs.length hi) fun b => (xs.drop a).take (b - a)
def elemN (c : Nat) (l : List Nat) : Bool :=
  List.rec (motive := fun _ => Bool) false (fun d _ ih => Bool.rec ih true (Nat.beq c d)) l
/-- one sign in a text -/
def hasTxt (y x : List Nat) : Option Bool := match x with
  | [] => none
  | c :: r => match r with
    | [] => some (elemN c y)
    | _ :: _ => none
def newL (h : Hv) (xs : List PV) : R PV := .ok (.loc h.length) (h ++ [.lst xs])
def addL (x y : Option HV) (h : Hv) : R PV := match x with
  | some (.lst xs) => (match y with
    | some (.lst ys) => lenLe (Nat.ble (xs.length + ys.length) big) (newL h (xs ++ ys))
    | _ => .bad)
  | _ => .bad
def addP (a b : PV) (h : Hv) : R PV := match a with
  | .int i => (match b with | .int j => addI i j fun k => .ok (.int k) h | _ => .bad)
  | .str x => (match b with | .str y => lenLe (Nat.ble (x.cps.toList.length + y.cps.toList.length) big) (.ok (.str ⟨(x.cps.toList ++ y.cps.toList).toArray⟩) h) | _ => .bad)
  | .tup xs => (match b with | .tup ys => lenLe (Nat.ble (xs.length + ys.length) big) (.ok (.tup (xs ++ ys)) h) | _ => .bad)
  | .loc l => (match b with
    | .loc m => addL (nth h l) (nth h m) h
    | _ => .bad)
  | _ => .bad
def intsP (f : Int → Int → R PV) (a b : PV) : R PV := match a with
  | .int i => (match b with | .int j => f i j | _ => .bad)
  | _ => .bad
def subF (h : Hv) (i j : Int) : R PV := addI i (-j) fun k => .ok (.int k) h
@[irreducible] def p2 (n : Nat) : Nat := 2 ^ n
theorem lt_p2 {x n : Nat} (h : Nat.ble (Nat.succ x) (p2 n) = true) : x < 2 ^ n := by
  have t : x < p2 n := Nat.le_of_ble_eq_true h
  rwa [p2] at t
def mulF (h : Hv) (i j : Int) : R PV := lenLe (Nat.ble (Nat.succ i.natAbs) (p2 400000) && Nat.ble (Nat.succ j.natAbs) (p2 400000)) (mulI i j fun k => .ok (.int k) h)
def divF (h : Hv) (i j : Int) : R PV := lenLe (ltI (.ofNat 0) j && Nat.ble (Nat.succ j.natAbs) (p2 9000)) (divI i j fun k => .ok (.int k) h)
def modF (h : Hv) (i j : Int) : R PV := lenLe (ltI (.ofNat 0) j) (modI i j fun k => .ok (.int k) h)
def powF (h : Hv) (i j : Int) : R PV := lenLe (leI (.ofNat 0) j && leI j (.ofNat 1000000) && Nat.ble (Nat.succ i.natAbs) 18446744073709551616) (forceI (i ^ j.toNat) fun k => .ok (.int k) h)
def binop (op : Bop) (a b : PV) (h : Hv) : R PV :=
  match op with
  | .add => addP a b h
  | .sub => intsP (subF h) a b
  | .mul => intsP (mulF h) a b
  | .fdiv => intsP (divF h) a b
  | .mod => intsP (modF h) a b
  | .pow => intsP (powF h) a b
def kget (k : PV) : List (PV × PV) → Option PV
  | [] => none
  | p :: r => match eqP 61 p.1 k with
    | true => some p.2
    | false => kget k r
def kput (k v : PV) : List (PV × PV) → List (PV × PV)
  | [] => [(k, v)]
  | p :: r => match eqP 61 p.1 k with
    | true => (p.1, v) :: r
    | false => p :: kput k v r
/-- keys that a dict may have: tuples of texts, ints, such tuples -/
def keyP : Nat → PV → Bool
  | 0 => fun v => match v with
    | .str x => strOkP x
    | .int _ => true
    | _ => false
  | n + 1 => fun v => match v with
    | .str x => strOkP x
    | .int _ => true
    | .tup xs => okAll (keyP n) xs
    | _ => false
def keyT (v : PV) : Bool := match v with
  | .tup xs => okAll (keyP 7) xs
  | _ => false
def anyEq (a : PV) : List PV → Bool
  | [] => false
  | y :: ys => match eqP 61 y a with
    | true => true
    | false => anyEq a ys
def inSeq (a : PV) (ys : List PV) : Option Bool := match okP 60 a && okAll (okP 59) ys with
  | true => some (anyEq a ys)
  | false => none
def inop (a b : PV) (h : Hv) : Option Bool :=
  match b with
  | .str y => (match a with
    | .str x => hasTxt y.cps.toList x.cps.toList
    | _ => none)
  | .tup ys => inSeq a ys
  | .loc l => (match nth h l with
    | some (.lst ys) => inSeq a ys
    | some (.dct kvs) => (match keyT a with | true => some (kget a kvs).isSome | false => none)
    | none => none)
  | _ => none
def notO (o : Option Bool) : Option Bool := match o with
  | some r => some (!r)
  | none => none
def isNon (b a : PV) : Option Bool := match b with
  | .non => some (eqNon a)
  | _ => none
def ordP (f : Int → Int → Bool) (a b : PV) : Option Bool := match a with
  | .int i => (match b with | .int j => some (f i j) | _ => none)
  | _ => none
def cmpop (op : Cop) (a b : PV) (h : Hv) : Option Bool :=
  match op with
  | .eq => eqG h a b
  | .ne => notO (eqG h a b)
  | .is_ => isNon b a
  | .isnot => notO (isNon b a)
  | .in_ => inop a b h
  | .notin => notO (inop a b h)
  | .lt => ordP ltI a b
  | .le => ordP leI a b
  | .gt => ordP (fun i j => ltI j i) a b
  | .ge => ordP (fun i j => leI j i) a b
/-- a value's kind -/
def tyP (h : Hv) (a : PV) : Option Ty := match a with
  | .non => none
  | .bl _ => some .bool
  | .int _ => some .int
  | .str _ => some .str
  | .tup _ => some .tuple
  | .loc l => (match nth h l with
    | some (.lst _) => some .list
    | some (.dct _) => some .dict
    | none => none)
def isTy (k : Option Ty) (t : Ty) : Bool := match t with
  | .int => (match k with | some .int => true | some .bool => true | _ => false)
  | .bool => (match k with | some .bool => true | _ => false)
  | .str => (match k with | some .str => true | _ => false)
  | .tuple => (match k with | some .tuple => true | _ => false)
  | .list => (match k with | some .list => true | _ => false)
  | .dict => (match k with | some .dict => true | _ => false)
def isAny (h : Hv) (a : PV) (ts : List Ty) : Bool := ts.any (isTy (tyP h a))
/-- a list's place -/
def locOk (h : Hv) (a : PV) : Bool := match a with
  | .loc l => (match nth h l with
    | some (.lst _) => true
    | _ => false)
  | _ => true
def subL (xs : List PV) (i : PV) (h : Hv) : R PV := match i with
  | .int i => R.of (atI xs i) h
  | _ => .bad
def chr (o : Option Nat) (h : Hv) : R PV := match o with
  | some c => .ok (.str ⟨#[c]⟩) h
  | none => .bad
def subS (x : Str) (i : PV) (h : Hv) : R PV := match i with
  | .int i => lenLe (Nat.ble x.cps.toList.length big) (chr (atI x.cps.toList i) h)
  | _ => .bad
def subD (kvs : List (PV × PV)) (k : PV) (h : Hv) : R PV := lenLe (keyT k) (R.of (kget k kvs) h)
def sub_ (a i : PV) (h : Hv) : R PV :=
  match a with
  | .tup xs => subL xs i h
  | .str x => subS x i h
  | .loc l => (match nth h l with
    | some (.lst xs) => subL xs i h
    | some (.dct kvs) => subD kvs i h
    | none => .bad)
  | _ => .bad
def slc_ (a : PV) (lo hi : Option Int) (h : Hv) : R PV :=
  match a with
  | .tup xs => .ok (.tup (cut xs lo hi)) h
  | .loc l => (match nth h l with
    | some (.lst xs) => newL h (cut xs lo hi)
    | _ => .bad)
  | _ => .bad
def rev_ (a : PV) (h : Hv) : R PV :=
  match a with
  | .tup xs => .ok (.tup xs.reverse) h
  | .loc l => (match nth h l with
    | some (.lst xs) => newL h xs.reverse
    | _ => .bad)
  | _ => .bad
def strOfInt (i : Int) : Str := Str.ofString (toString i)
def one (vs : List PV) (f : PV → R PV) : R PV := match vs with
  | [] => .bad
  | v :: r => match r with
    | [] => f v
    | _ :: _ => .bad
def two (vs : List PV) (f : PV → PV → R PV) : R PV := match vs with
  | [] => .bad
  | v :: r => one r (f v)
def lenN (n : Nat) (h : Hv) : R PV := forceN n fun m => .ok (.int (.ofNat m)) h
def lenF (h : Hv) (v : PV) : R PV := match v with
  | .tup xs => lenN xs.length h
  | .str x => lenLe (Nat.ble x.cps.toList.length big) (lenN x.cps.toList.length h)
  | .loc l => (match nth h l with
    | some (.lst xs) => lenN xs.length h
    | _ => .bad)
  | _ => .bad
def tupleF (h : Hv) (v : PV) : R PV := match v with
  | .tup xs => .ok (.tup xs) h
  | .loc l => (match nth h l with
    | some (.lst xs) => .ok (.tup xs) h
    | _ => .bad)
  | _ => .bad
def listF (h : Hv) (v : PV) : R PV := match v with
  | .tup xs => newL h xs
  | .loc l => (match nth h l with
    | some (.lst xs) => newL h xs
    | _ => .bad)
  | _ => .bad
def strF (h : Hv) (v : PV) : R PV := match v with
  | .int i => lenLe (Nat.ble (Nat.succ i.natAbs) (p2 1920)) (.ok (.str (strOfInt i)) h)
  | _ => .bad
def intF (h : Hv) (v : PV) : R PV := match v with
  | .int i => .ok (.int i) h
  | _ => .bad
def reprF (h : Hv) (v : PV) : R PV := match reif h 60 v with
  | some d => lenLe (d.showable && decide (d.shown.length ≤ big)) (.ok (.str d.shown) h)
  | none => .bad
def bltF (b : Blt) (vs : List PV) (h : Hv) : R PV :=
  match b with
  | .len => one vs (lenF h)
  | .tuple => one vs (tupleF h)
  | .list => one vs (listF h)
  | .str => one vs (strF h)
  | .int => one vs (intF h)
  | .repr => one vs (reprF h)
  | .min => two vs (intsP fun i j => match ltI j i with | true => .ok (.int j) h | false => .ok (.int i) h)
  | .max => two vs (intsP fun i j => match ltI i j with | true => .ok (.int j) h | false => .ok (.int i) h)
def appF (l : Nat) (h : Hv) (xs : List PV) (v : PV) : R PV := lenLe (Nat.ble (Nat.succ xs.length) big) (.ok .non (put h l (.lst (xs ++ [v]))))
def popR (l : Nat) (h : Hv) (xs : List PV) (o : Option PV) : R PV := match o with
  | some v => .ok v (put h l (.lst xs.dropLast))
  | none => .bad
def popF (l : Nat) (h : Hv) (xs vs : List PV) : R PV := match vs with
  | [] => popR l h xs (nth xs (xs.length - 1))
  | _ :: _ => .bad
def mthL (m : Mth) (l : Nat) (h : Hv) (vs : List PV) (o : Option HV) : R PV := match o with
  | some (.lst xs) => (match m with
    | .append => one vs (appF l h xs)
    | .pop => popF l h xs vs)
  | _ => .bad
def mthF (m : Mth) (o : PV) (vs : List PV) (h : Hv) : R PV :=
  match o with
  | .loc l => mthL m l h vs (nth h l)
  | _ => .bad
def setL (l : Nat) (h : Hv) (xs : List PV) (v : PV) (o : Option Nat) : Option Hv := match o with
  | some j => some (put h l (.lst (put xs j v)))
  | none => none
def setF (o i v : PV) (h : Hv) : Option Hv :=
  match o with
  | .loc l => (match nth h l with
    | some (.lst xs) => (match i with
      | .int k => setL l h xs v (ixN xs.length k)
      | _ => none)
    | some (.dct kvs) => (match keyT i && Nat.ble (Nat.succ kvs.length) big with
      | true => some (put h l (.dct (kput i v kvs)))
      | false => none)
    | none => none)
  | _ => none
/-- a name, or names, take a value -/
def setNames : List Nat → List PV → Ev → Option Ev
  | [] => fun vs e => match vs with
    | [] => some e
    | _ :: _ => none
  | i :: is => fun vs e => match vs with
    | [] => none
    | v :: vs => setNames is vs (put e i (some v))
def setTgT (is : List Nat) (v : PV) (e : Ev) : Option Ev := match v with
  | .tup xs => setNames is xs e
  | _ => none
def setTg (t : Tg) (v : PV) (e : Ev) : Option Ev :=
  match t with
  | .v i => some (put e i (some v))
  | .t is => setTgT is v e
def wipe (e : Ev) : List Nat → Ev
  | [] => e
  | v :: vs => put (wipe e vs) v none
/-- what is walked: a tuple, a text, a list as it stands at each turn -/
inductive Wk where
  | tup (xs : List PV) | lst (l : Nat) | rng (lo st : Int) (n : Nat) | str (x : List Nat)
def atRng (lo st : Int) (i : Nat) (b : Bool) : Option (Option PV) := match b with
  | true => mulI st (.ofNat i) fun k => addI lo k fun m => some (some (.int m))
  | false => some none
def someO {α : Type} (o : Option α) : Option (Option α) := some o
def chrO (o : Option Nat) : Option (Option PV) := match o with
  | some c => some (some (.str ⟨#[c]⟩))
  | none => some none
def Wk.at_ (w : Wk) (i : Nat) (h : Hv) : Option (Option PV) :=
  match w with
  | .tup xs => some (nth xs i)
  | .lst l => (match nth h l with | some (.lst xs) => some (nth xs i) | _ => none)
  | .rng lo st n => atRng lo st i (Nat.ble (Nat.succ i) n)
  | .str x => chrO (nth x i)
def lstW (l : Nat) (o : Option HV) : Option Wk := match o with
  | some (.lst _) => some (.lst l)
  | _ => none
def walkOf (h : Hv) (v : PV) : Option Wk :=
  match v with
  | .tup xs => some (.tup xs)
  | .str x => some (.str x.cps.toList)
  | .loc l => lstW l (nth h l)
  | _ => none
/-- how many turns a walk may have, more than enough -/
def turns (w : Wk) (h : Hv) : Nat :=
  match w with
  | .tup xs => xs.length + 1
  | .lst l => (match nth h l with | some (.lst xs) => xs.length + 1 | _ => 0)
  | .rng _ _ n => n + 1
  | .str x => x.length + 1
def smallI (i : Int) : Bool := leI (.negSucc 4611686018427387903) i && ltI i (.ofNat 4611686018427387904)
def mkR (b : Bool) (lo st : Int) (n : Nat) : Option Wk := match b with
  | true => forceN n fun m => some (.rng lo st m)
  | false => none
def rngUp (i j : Int) (k : Nat) : Option Wk := mkR (smallI i && smallI j && Nat.ble 1 k && Nat.ble k 1000000) i (.ofNat k) ((j - i + (.ofNat k) - 1) / (.ofNat k)).toNat
def rng3 (i j c : Int) : Option Wk := match c with
  | .negSucc k => (match k with
    | 0 => mkR (smallI i && smallI j) i (.negSucc 0) (i - j).toNat
    | _ + 1 => none)
  | .ofNat k => rngUp i j k
def rangeOf (vs : List PV) : Option Wk :=
  match vs with
  | [.int j] => mkR (smallI j) (.ofNat 0) (.ofNat 1) j.toNat
  | [.int i, .int j] => mkR (smallI i && smallI j) i (.ofNat 1) (j - i).toNat
  | [.int i, .int j, .int c] => rng3 i j c
  | _ => none
/-- the turns of a comprehension -/
def cT3 (d : Nat) (y : PV) (next : Hv → R PV) (h1 : Hv) (o : Option HV) : R PV :=
  match o with
  | some (.lst acc) => lenLe (Nat.ble (Nat.succ acc.length) big) (next (put h1 d (.lst (acc ++ [y]))))
  | _ => .bad
def cT2 (d : Nat) (next : Hv → R PV) (r : R (Option PV)) : R PV :=
  match r with
  | .ok o h1 => (match o with | some y => cT3 d y next h1 (nth h1 d) | none => next h1)
  | _ => .bad
def cT1 (step : PV → Hv → R (Option PV)) (d : Nat) (next : Hv → R PV) (o : Option (Option PV)) (h : Hv) : R PV :=
  match o with
  | some o => (match o with | some x => cT2 d next (step x h) | none => .ok (.loc d) h)
  | none => .bad
def compT (w : Wk) (step : PV → Hv → R (Option PV)) (d : Nat) : Nat → Nat → Hv → R PV
  | 0 => fun _ _ => .bad
  | m + 1 => fun i h => cT1 step d (fun h' => compT w step d m (i + 1) h') (w.at_ i h) h
def Ex.isNop : Ex → Bool
  | .nop => true
  | _ => false
def intO (v : PV) (h : Hv) : R (Option Int) := match v with
  | .int i => .ok (some i) h
  | _ => .bad
/-- a part of a slice -/
def toO (nop : Bool) (r : R PV) (h : Hv) : R (Option Int) :=
  match nop with
  | true => .ok none h
  | false => r.bind intO
def someV (r : R PV) : R (Option PV) := r.bind fun y h => .ok (some y) h
def stepB (v : PV) (h1 : Hv) (elt : Hv → R PV) : R (Option PV) := match v with
  | .bl b => (match b with | true => someV (elt h1) | false => .ok none h1)
  | _ => .bad
/-- an item of a comprehension: its test, then the element -/
def stepC (c : R PV) (elt : Hv → R PV) : R (Option PV) := c.bind fun v h1 => stepB v h1 elt
abbrev Sm := Ev → Hv → R PV
abbrev SmL := Ev → Hv → R (List PV)
section
variable (C : List PV) (cf : Nat → List PV → Hv → R PV)
def cCst (v : PV) : Sm := fun _ h => .ok v h
def gotV (o : Option (Option PV)) (h : Hv) : R PV :=
  Option.rec (motive := fun _ => R PV) .bad (fun o => Option.rec (motive := fun _ => R PV) .bad (fun v => .ok v h) o) o
def cVar (i : Nat) : Sm := fun e h => gotV (nth e i) h
def cGlb (i : Nat) : Sm := fun _ h => R.of (nth C i) h
def cTup (es : SmL) : Sm := fun e h => (es e h).bind fun vs h1 => .ok (.tup vs) h1
def cLst (es : SmL) : Sm := fun e h => (es e h).bind fun vs h1 => .ok (.loc h1.length) (h1 ++ [.lst vs])
def cDct0 : Sm := fun _ h => .ok (.loc h.length) (h ++ [.dct []])
def cBin (op : Bop) (a b : Sm) : Sm := fun e h => (a e h).bind fun x h1 => (b e h1).bind fun y h2 => binop op x y h2
def negP (x : PV) (h : Hv) : R PV :=
  match x with
  | .int i => forceI (Int.neg i) fun k => .ok (.int k) h
  | _ => .bad
def cNeg (a : Sm) : Sm := fun e h => (a e h).bind negP
def okB (o : Option Bool) (h : Hv) : R PV :=
  match o with
  | some r => .ok (.bl r) h
  | none => .bad
def cCmp (op : Cop) (a b : Sm) : Sm := fun e h => (a e h).bind fun x h1 => (b e h1).bind fun y h2 => okB (cmpop op x y h2) h2
def cB {α : Type} (x : PV) (t f : R α) : R α :=
  match x with
  | .bl b => (match b with | true => t | false => f)
  | _ => .bad
def cAnd (a b : Sm) : Sm := fun e h => (a e h).bind fun x h1 => cB x (b e h1) (.ok (.bl false) h1)
def cOr (a b : Sm) : Sm := fun e h => (a e h).bind fun x h1 => cB x (.ok (.bl true) h1) (b e h1)
def cNot (a : Sm) : Sm := fun e h => (a e h).bind fun x h1 => cB x (.ok (.bl false) h1) (.ok (.bl true) h1)
def cIte (c a b : Sm) : Sm := fun e h => (c e h).bind fun x h1 => cB x (a e h1) (b e h1)
def cCall (f : Nat) (es : SmL) : Sm := fun e h => (es e h).bind fun vs h1 => cf f vs h1
def cIsi (a : Sm) (ts : List Ty) : Sm := fun e h => (a e h).bind fun x h1 => lenLe (locOk h1 x) (.ok (.bl (isAny h1 x ts)) h1)
def cBlt (b : Blt) (es : SmL) : Sm := fun e h => (es e h).bind fun vs h1 => bltF b vs h1
def isLst (h : Hv) (x : PV) : Bool := match x with
  | .loc l => (match nth h l with
    | some (.lst _) => true
    | _ => false)
  | _ => false
def cMth (m : Mth) (o : Sm) (es : SmL) : Sm := fun e h => (o e h).bind fun x h1 => lenLe (isLst h1 x) ((es e h1).bind fun vs h2 => mthF m x vs h2)
def cSub (a i : Sm) : Sm := fun e h => (a e h).bind fun x h1 => (i e h1).bind fun y h2 => sub_ x y h2
def cSlc (n1 n2 : Bool) (a lo hi : Sm) : Sm := fun e h => (a e h).bind fun x h1 => (toO n1 (lo e h1) h1).bind fun l h2 => (toO n2 (hi e h2) h2).bind fun u h3 => slc_ x l u h3
def cRev (a : Sm) : Sm := fun e h => (a e h).bind rev_
def cIt (tg : Tg) (cond elt : Sm) (y : PV) (e : Ev) (h : Hv) : R (Option PV) :=
  match setTg tg y e with
  | some e2 => stepC (cond e2 h) (fun h3 => elt e2 h3)
  | none => .bad
def cWalk (own : List Nat) (tg : Tg) (cond elt : Sm) (w : Option Wk) (e : Ev) (h : Hv) : R PV :=
  match w with
  | some w => compT w (fun y h2 => cIt tg cond elt y (wipe e own) h2) h.length (turns w h) 0 (h ++ [.lst []])
  | none => .bad
def cComp (own : List Nat) (tg : Tg) (it cond elt : Sm) : Sm := fun e h => (it e h).bind fun x h1 => cWalk own tg cond elt (walkOf h1 x) e h1
def cCompR (own : List Nat) (tg : Tg) (it : SmL) (cond elt : Sm) : Sm := fun e h => (it e h).bind fun vs h1 => cWalk own tg cond elt (rangeOf vs) e h1
def cNil : SmL := fun _ h => .ok [] h
def cCons (a : Sm) (es : SmL) : SmL := fun e h => (a e h).bind fun x h1 => (es e h1).bind fun xs h2 => .ok (x :: xs) h2
def cNop : Sm := fun _ _ => .bad

def ev (x : Ex) : Sm :=
  Ex.rec (motive_1 := fun _ => Sm) (motive_2 := fun _ => SmL)
    (fun v => cCst v) (fun i => cVar i) (fun i => cGlb C i)
    (fun _ es => cTup es) (fun _ es => cLst es) cDct0
    (fun op _ _ a b => cBin op a b) (fun _ a => cNeg a)
    (fun op _ _ a b => cCmp op a b)
    (fun _ _ a b => cAnd a b) (fun _ _ a b => cOr a b) (fun _ a => cNot a) (fun _ _ _ c a b => cIte c a b)
    (fun f _ es => cCall cf f es)
    (fun _ t a => cIsi a t)
    (fun b _ es => cBlt b es)
    (fun m _ _ o es => cMth m o es)
    (fun _ _ a i => cSub a i)
    (fun _ l u a lo hi => cSlc l.isNop u.isNop a lo hi) cNop
    (fun _ a => cRev a)
    (fun own tg _ _ _ it cond elt => cComp own tg it cond elt)
    (fun own tg _ _ _ it cond elt => cCompR own tg it cond elt)
    cNil (fun _ _ a es => cCons a es) x
def evL (x : Es) : SmL :=
  Es.rec (motive_1 := fun _ => Sm) (motive_2 := fun _ => SmL)
    (fun v => cCst v) (fun i => cVar i) (fun i => cGlb C i)
    (fun _ es => cTup es) (fun _ es => cLst es) cDct0
    (fun op _ _ a b => cBin op a b) (fun _ a => cNeg a)
    (fun op _ _ a b => cCmp op a b)
    (fun _ _ a b => cAnd a b) (fun _ _ a b => cOr a b) (fun _ a => cNot a) (fun _ _ _ c a b => cIte c a b)
    (fun f _ es => cCall cf f es)
    (fun _ t a => cIsi a t)
    (fun b _ es => cBlt b es)
    (fun m _ _ o es => cMth m o es)
    (fun _ _ a i => cSub a i)
    (fun _ l u a lo hi => cSlc l.isNop u.isNop a lo hi) cNop
    (fun _ a => cRev a)
    (fun own tg _ _ _ it cond elt => cComp own tg it cond elt)
    (fun own tg _ _ _ it cond elt => cCompR own tg it cond elt)
    cNil (fun _ _ a es => cCons a es) x
end
def sxAll (f : Sx → Option PV) : List Sx → Option (List PV)
  | [] => some []
  | x :: xs => match f x with
    | some v => (match sxAll f xs with | some vs => some (v :: vs) | none => none)
    | none => none
def sx (L : List Cl) (c : Nat) (v : PV) : Nat → Sx → Ev → Option PV
  | 0, _, _ => none
  | n + 1, x, e => match x with
    | .cst w => some w
    | .var i => (match nth e i with | some (some w) => some w | _ => none)
    | .fld => some v
    | .isi d => (match nth L c with | some cl => some (.bl (cl.sup.contains d)) | none => none)
    | .and a b => (match sx L c v n a e with
      | some (.bl true) => sx L c v n b e
      | some (.bl false) => some (.bl false)
      | _ => none)
    | .not a => (match sx L c v n a e with
      | some (.bl b) => some (.bl (!b))
      | _ => none)
    | .tup es => (match sxAll (fun y => sx L c v n y e) es with
      | some vs => some (.tup vs)
      | none => none)
/-- the clauses, from the first -/
def hOut (hd : Hd) (e : Ev) (h : Hv) (o : Option PV) : SR := match o with
  | some w => .nx (put (put (put e hd.slot none) hd.to (some w)) hd.slot none) h
  | none => .bad
def handle (L : List Cl) (c : Nat) (v : PV) (e : Ev) (h : Hv) : List Hd → SR
  | [] => .exc c v e h
  | hd :: r => match nth L c with
    | some cl => (match cl.sup.contains hd.cls with
      | true => (match Nat.ble (Nat.succ hd.slot) e.length with
        | true => hOut hd e h (sx L c v 10 hd.val (put e hd.slot none))
        | false => .bad)
      | false => handle L c v e h r)
    | none => .bad
abbrev Sr := Ev → Hv → SR
def after (next : Sr) (r : SR) : SR :=
  SR.rec (motive := fun _ => SR) next .rt .nx next .exc .bad r
def lW (b : Sr) (next : Sr) (e : Ev) (x : PV) (h1 : Hv) : SR :=
  match x with
  | .bl c => (match c with | true => after next (b e h1) | false => .nx e h1)
  | _ => .bad
def loopW (c : Sm) (b : Sr) : Nat → Sr
  | 0 => fun _ _ => .bad
  | n + 1 => fun e h => (c e h).done e (lW b (fun e' h' => loopW c b n e' h') e)
def lF2 (b : Sr) (next : Sr) (h : Hv) (o : Option Ev) : SR :=
  match o with
  | some e1 => after next (b e1 h)
  | none => .bad
def lF (tg : Tg) (b : Sr) (next : Sr) (e : Ev) (h : Hv) (o : Option (Option PV)) : SR :=
  match o with
  | some o => (match o with | some x => lF2 b next h (setTg tg x e) | none => .nx e h)
  | none => .bad
def loopF (w : Wk) (tg : Tg) (b : Sr) : Nat → Nat → Sr
  | 0, _ => fun _ _ => .bad
  | m + 1, i => fun e h => lF tg b (fun e' h' => loopF w tg b m (i + 1) e' h') e h (w.at_ i h)
/-- the slots that hold values alone -/
def pureE (e : Ev) : Ev := e.map fun o => match o with
  | some v => (match v.pure with | true => some v | false => none)
  | none => none
def forceV {α : Type} (v : PV) (k : PV → α) : α := match v with
  | .non => k .non
  | .bl b => (match b with | true => k (.bl true) | false => k (.bl false))
  | .int i => forceI i fun j => k (.int j)
  | .str x => k (.str x)
  | .tup xs => k (.tup xs)
  | .loc l => k (.loc l)
theorem forceV_eq {α : Type} (v : PV) (k : PV → α) : forceV v k = k v := by
  cases v with
  | bl b => cases b <;> rfl
  | int i => exact forceI_eq i fun j => k (.int j)
  | non => rfl
  | str _ => rfl
  | tup _ => rfl
  | loc _ => rfl
/-- the slots worked out ahead, places forgotten -/
def forceE {α : Type} : Ev → (Ev → α) → α
  | [] => fun k => k []
  | o :: r => fun k => match o with
    | none => forceE r fun r' => k (none :: r')
    | some v => (match v.pure with
      | true => forceV v fun v' => forceE r fun r' => k (some v' :: r')
      | false => forceE r fun r' => k (none :: r'))
theorem forceE_eq {α : Type} : ∀ (e : Ev) (k : Ev → α), forceE e k = k (pureE e)
  | [], _ => rfl
  | none :: r, k => forceE_eq r fun r' => k (none :: r')
  | some v :: r, k => by
    cases h : v.pure with
    | true =>
      have e1 : forceE (some v :: r) k = (match v.pure with | true => forceV v fun v' => forceE r fun r' => k (some v' :: r') | false => forceE r fun r' => k (none :: r')) := rfl
      have e2 : pureE (some v :: r) = (match v.pure with | true => some v | false => none) :: pureE r := rfl
      rw [e1, e2, h]
      show forceV v (fun v' => forceE r fun r' => k (some v' :: r')) = k (some v :: pureE r)
      rw [forceV_eq, forceE_eq]
    | false =>
      have e1 : forceE (some v :: r) k = (match v.pure with | true => forceV v fun v' => forceE r fun r' => k (some v' :: r') | false => forceE r fun r' => k (none :: r')) := rfl
      have e2 : pureE (some v :: r) = (match v.pure with | true => some v | false => none) :: pureE r := rfl
      rw [e1, e2, h]
      exact forceE_eq r fun r' => k (none :: r')
/-- a walk that forgets the places at each turn -/
def loopP (w : Wk) (tg : Tg) (b : Sr) : Nat → Nat → Sr
  | 0, _ => fun _ _ => .bad
  | m + 1, i => fun e h => lF tg b (fun e' _ => forceE e' fun e2 => loopP w tg b m (i + 1) e2 []) e h (w.at_ i h)
def fuelW : Nat := 1000000
section
variable (C : List PV) (L : List Cl) (cf cf2 : Nat → List PV → Hv → R PV)
def sExp (a : Sm) : Sr := fun e h => (a e h).done e fun _ h1 => .nx e h1
def sAsg (i : Nat) (a : Sm) : Sr := fun e h => (a e h).done e fun x h1 => .nx (put e i (some x)) h1
def nxO (o : Option Ev) (h : Hv) : SR :=
  match o with
  | some e => .nx e h
  | none => .bad
def unT (is : List Nat) (e : Ev) (x : PV) (h : Hv) : SR :=
  match x with
  | .tup xs => nxO (setNames is xs e) h
  | _ => .bad
def sAsgT (is : List Nat) (a : Sm) : Sr := fun e h => (a e h).done e (unT is e)
def nxH (e : Ev) (o : Option Hv) : SR :=
  match o with
  | some h => .nx e h
  | none => .bad
def sSet (o i a : Sm) : Sr := fun e h => (a e h).done e fun x h1 => (o e h1).done e fun p h2 => (i e h2).done e fun k h3 => nxH e (setF p k x h3)
def sRet (a : Sm) : Sr := fun e h => (a e h).done e fun x h1 => .rt x h1
def sRetN : Sr := fun _ h => .rt .non h
def cBs (x : PV) (t f : SR) : SR :=
  match x with
  | .bl b => (match b with | true => t | false => f)
  | _ => .bad
def sIte (c : Sm) (a b : Sr) : Sr := fun e h => (c e h).done e fun x h1 => cBs x (a e h1) (b e h1)
def sWhl (c : Sm) (b : Sr) : Sr := fun e h => loopW c b fuelW e h
def sFor (w : Option Wk) (t : Tg) (b : Sr) (e : Ev) (h : Hv) : SR :=
  match w with
  | some w => loopF w t b fuelW 0 e h
  | none => .bad
def sForE (t : Tg) (a : Sm) (b : Sr) : Sr := fun e h => (a e h).done e fun x h1 => sFor (walkOf h1 x) t b e h1
/-- what a walk on values alone gives, beside the heap h -/
def outP (h : Hv) : SR → SR
  | .nx e _ => .nx (pureE e) h
  | .rt v _ => if v.pure then .rt v h else .bad
  | .exc c v e _ => if v.pure then .exc c v (pureE e) h else .bad
  | _ => .bad
def sForP (w : Option Wk) (t : Tg) (b : Sr) (e : Ev) (h : Hv) : SR :=
  match w with
  | some w => outP h (forceE e fun e2 => loopP w t b fuelW 0 e2 [])
  | none => .bad
def sForRP (t : Tg) (as : SmL) (b : Sr) : Sr := fun e h => (as e h).done e fun vs h1 => sForP (rangeOf vs) t b e h1
def sForR (t : Tg) (as : SmL) (b : Sr) : Sr := fun e h => (as e h).done e fun vs h1 => sFor (rangeOf vs) t b e h1
def sPass : Sr := fun e h => .nx e h
def sBrk : Sr := fun e h => .bk e h
def sCont : Sr := fun e h => .ct e h
def excOf (c : Nat) (e : Ev) (r : R PV) : SR :=
  match r with
  | .ok y h2 => .exc c y e h2
  | _ => .bad
def rse (c : Nat) (e : Ev) (x : PV) (h1 : Hv) (o : Option Cl) : SR :=
  match o with
  | some cl => excOf c e (cf2 cl.conv [x] h1)
  | none => .bad
def sRse (c : Nat) (a : Sm) : Sr := fun e h => (a e h).done e fun x h1 => rse cf2 c e x h1 (nth L c)
def catch_ (hs : List Hd) (r : SR) : SR :=
  match r with
  | .exc c v e1 h1 => handle L c v e1 h1 hs
  | r => r
def sTry (b : Sr) (hs : List Hd) : Sr := fun e h => catch_ L hs (b e h)
def sNil : Sr := fun e h => .nx e h
def then_ (b : Sr) (r : SR) : SR :=
  SR.rec (motive := fun _ => SR) b .rt .bk .ct .exc .bad r
def sCons (s b : Sr) : Sr := fun e h => then_ b (s e h)
def exec (s : St) : Sr :=
  St.rec (motive_1 := fun _ => Sr) (motive_2 := fun _ => Sr)
    (fun a => sExp (ev C cf a)) (fun i a => sAsg i (ev C cf a)) (fun is a => sAsgT is (ev C cf a))
    (fun o i a => sSet (ev C cf o) (ev C cf i) (ev C cf a)) (fun a => sRet (ev C cf a)) sRetN
    (fun c _ _ a b => sIte (ev C cf c) a b) (fun c _ b => sWhl (ev C cf c) b)
    (fun t a _ b => sForE t (ev C cf a) b) (fun t as _ b => sForR t (evL C cf as) b) (fun t as _ b => sForRP t (evL C cf as) b)
    sPass sBrk sCont (fun c a => sRse L cf2 c (ev C cf a)) (fun _ hs b => sTry L b hs)
    sNil (fun _ _ s b => sCons s b) s
def execs (s : Bs) : Sr :=
  Bs.rec (motive_1 := fun _ => Sr) (motive_2 := fun _ => Sr)
    (fun a => sExp (ev C cf a)) (fun i a => sAsg i (ev C cf a)) (fun is a => sAsgT is (ev C cf a))
    (fun o i a => sSet (ev C cf o) (ev C cf i) (ev C cf a)) (fun a => sRet (ev C cf a)) sRetN
    (fun c _ _ a b => sIte (ev C cf c) a b) (fun c _ b => sWhl (ev C cf c) b)
    (fun t a _ b => sForE t (ev C cf a) b) (fun t as _ b => sForR t (evL C cf as) b) (fun t as _ b => sForRP t (evL C cf as) b)
    sPass sBrk sCont (fun c a => sRse L cf2 c (ev C cf a)) (fun _ hs b => sTry L b hs)
    sNil (fun _ _ s b => sCons s b) s
end
structure Fn where
  name : Str
  np : Nat
  ns : Nat
  dfl : List PV
  body : Bs
mutual
def PV.shift (n : Nat) : PV → PV
  | .loc l => .loc (n + l)
  | .tup xs => .tup (shiftL n xs)
  | v => v
def shiftL (n : Nat) : List PV → List PV
  | [] => []
  | x :: xs => x.shift n :: shiftL n xs
end
def shiftKV (n : Nat) : List (PV × PV) → List (PV × PV)
  | [] => []
  | (a, b) :: r => (a.shift n, b.shift n) :: shiftKV n r
def HV.shift (n : Nat) : HV → HV
  | .lst xs => .lst (shiftL n xs)
  | .dct kvs => .dct (shiftKV n kvs)
/-- what a call on values alone gives, beside the heap h -/
def outI (h : Hv) : SR → R PV
  | .rt v h1 => if v.pure then .ok v h else .ok (v.shift h.length) (h ++ h1.map (HV.shift h.length))
  | .nx _ _ => .ok .non h
  | .exc c v _ _ => if v.pure then .exc c v h else .bad
  | _ => .bad
def outS : SR → R PV
  | .rt v h1 => .ok v h1
  | .nx _ h1 => .ok .non h1
  | .exc c v _ h1 => if v.pure then .exc c v h1 else .bad
  | _ => .bad
def fillD (np : Nat) (dfl : List PV) (vs : List PV) : List PV := vs ++ dfl.drop (dfl.length - (np - vs.length))
def start (fn : Fn) (us : List PV) : Ev := us.map some ++ List.replicate (fn.ns - fn.np) none
def noF : Nat → List PV → Hv → R PV := fun _ _ _ => .bad
def goF (C : List PV) (L : List Cl) (cf cf2 : Nat → List PV → Hv → R PV) (fn : Fn) (us : List PV) (h : Hv) : R PV :=
  if Nat.beq us.length fn.np then
    if pureL us then outI h (execs C L cf cf2 fn.body (start fn us) [])
    else outS (execs C L cf cf2 fn.body (start fn us) h)
  else .bad
def goO (C : List PV) (L : List Cl) (cf cf2 : Nat → List PV → Hv → R PV) (o : Option Fn) (vs : List PV) (h : Hv) : R PV :=
  match o with
  | some fn => goF C L cf cf2 fn (fillD fn.np fn.dfl vs) h
  | none => .bad
/-- calls with k levels left, and with one level less than the level below -/
def runP (C : List PV) (L : List Cl) (T : List Fn) (k : Nat) : (Nat → List PV → Hv → R PV) × (Nat → List PV → Hv → R PV) × (Nat → List PV → Hv → R PV) :=
  Nat.rec (noF, noF, noF) (fun _ p => (fun f vs h => goO C L p.1 p.2.2 (nth T f) vs h, p.1, p.2.1)) k
def run (C : List PV) (L : List Cl) (T : List Fn) (k : Nat) : Nat → List PV → Hv → R PV := (runP C L T k).1
end
end MP
namespace MP
open PySem L2

abbrev Fr := PySem.W.Frag
/-- the world, whose hashes a dict's entries hold -/
class Wd where
  w : PySem.World
variable [Wd]
mutual
inductive Rep (K : Fr) (H : Hp) (μ : List Addr) : PV → V → Prop where
  | non : Rep K H μ .non .non
  | bl (b : Bool) : Rep K H μ (.bl b) (.bl b)
  | int (i : Int) : Rep K H μ (.int i) (.int i)
  | str (x : Str) : Rep K H μ (.str x) (.str x)
  | tup {a : Addr} {xs : List PV} {vs : List V} : SqT K H a vs → Reps K H μ xs vs → Rep K H μ (.tup xs) (.ref a)
  | loc {l : Nat} {a : Addr} : μ[l]? = some a → Rep K H μ (.loc l) (.ref a)
inductive Reps (K : Fr) (H : Hp) (μ : List Addr) : List PV → List V → Prop where
  | nil : Reps K H μ [] []
  | cons {x : PV} {xs : List PV} {v : V} {vs : List V} : Rep K H μ x v → Reps K H μ xs vs → Reps K H μ (x :: xs) (v :: vs)
end
section
variable {K : Fr} {H : Hp} {μ : List Addr}
theorem Reps.length : ∀ {xs : List PV} {vs : List V}, Reps K H μ xs vs → xs.length = vs.length
  | _, _, .nil => rfl
  | _, _, .cons _ r => congrArg (· + 1) r.length
theorem Reps.get : ∀ {xs : List PV} {vs : List V} {i : Nat} {x : PV}, Reps K H μ xs vs → xs[i]? = some x → ∃ v, vs[i]? = some v ∧ Rep K H μ x v
  | _, _, _, _, .nil, e => by simp at e
  | _, _, 0, _, .cons r _, e => by simp at e; subst e; exact ⟨_, rfl, r⟩
  | _, _, i + 1, x, .cons _ t, e => by
    obtain ⟨v, h1, h2⟩ := Reps.get (i := i) (x := x) t (by simpa using e)
    exact ⟨v, by simpa using h1, h2⟩
theorem Reps.getN {xs : List PV} {vs : List V} {i : Nat} (r : Reps K H μ xs vs) (e : xs[i]? = none) : vs[i]? = none := by
  have := r.length
  rw [List.getElem?_eq_none_iff] at e ⊢; omega
theorem Reps.back : ∀ {xs : List PV} {vs : List V} {i : Nat} {v : V}, Reps K H μ xs vs → vs[i]? = some v → ∃ x, xs[i]? = some x ∧ Rep K H μ x v
  | _, _, _, _, .nil, e => by simp at e
  | _, _, 0, _, .cons r _, e => by simp at e; subst e; exact ⟨_, rfl, r⟩
  | _, _, i + 1, v, .cons _ t, e => by
    obtain ⟨x, h1, h2⟩ := Reps.back (i := i) (v := v) t (by simpa using e)
    exact ⟨x, by simpa using h1, h2⟩
theorem Reps.append : ∀ {xs ys : List PV} {vs ws : List V}, Reps K H μ xs vs → Reps K H μ ys ws → Reps K H μ (xs ++ ys) (vs ++ ws)
  | _, _, _, _, .nil, s => s
  | _, _, _, _, .cons r t, s => .cons r (t.append s)
theorem Reps.take : ∀ {xs : List PV} {vs : List V} (n : Nat), Reps K H μ xs vs → Reps K H μ (xs.take n) (vs.take n)
  | _, _, 0, _ => .nil
  | _, _, _ + 1, .nil => .nil
  | _, _, n + 1, .cons r t => .cons r (t.take n)
theorem Reps.drop : ∀ {xs : List PV} {vs : List V} (n : Nat), Reps K H μ xs vs → Reps K H μ (xs.drop n) (vs.drop n)
  | _, _, 0, r => r
  | _, _, _ + 1, .nil => .nil
  | _, _, n + 1, .cons _ t => t.drop n
theorem Reps.reverse {xs : List PV} {vs : List V} (r : Reps K H μ xs vs) : Reps K H μ xs.reverse vs.reverse := by
  have : ∀ {xs : List PV} {vs : List V}, Reps K H μ xs vs → Reps K H μ xs.reverse vs.reverse := by
    intro xs
    induction xs with
    | nil => intro vs r; cases r; exact .nil
    | cons x xs ih =>
      intro vs r
      cases r with
      | cons r t => rw [List.reverse_cons, List.reverse_cons]; exact (ih t).append (.cons r .nil)
  exact this r
theorem Reps.set {x : PV} {v : V} (q : Rep K H μ x v) : ∀ {xs : List PV} {vs : List V} (i : Nat), Reps K H μ xs vs → Reps K H μ (xs.set i x) (vs.set i v)
  | _, _, _, .nil => .nil
  | _, _, 0, .cons _ t => .cons q t
  | _, _, i + 1, .cons r t => .cons r (t.set q i)
theorem Reps.dropLast {xs : List PV} {vs : List V} (r : Reps K H μ xs vs) : Reps K H μ xs.dropLast vs.dropLast := by
  rw [List.dropLast_eq_take, List.dropLast_eq_take, r.length]; exact r.take _
end
mutual
def nk : PV → NestedKey
  | .int i => .num i
  | .str x => .text x
  | .tup xs => .tup (nkL xs)
  | .non => .none
  | .bl _ => .none
  | .loc _ => .none
def nkL : List PV → List NestedKey
  | [] => []
  | x :: xs => nk x :: nkL xs
end
/-- the dict at a with the entries xs -/
def dX (a : Addr) (xs : List (NestedKey × Addr × Value)) : HO := .ext fun h => ∃ o es ep, h.get? a = some o ∧ o.ExactDict ∧ o.data = .dict es ep ∧ es.toList = xs.map (fun x => (⟨NestedKey.hash Wd.w x.1, .ref x.2.1, x.2.2⟩ : DictEntry)) ∧ (xs.map (·.1)).Nodup
inductive KvR (K : Fr) (H : Hp) (μ : List Addr) : List (PV × PV) → List (NestedKey × Addr × Value) → Prop where
  | nil : KvR K H μ [] []
  | cons {k v : PV} {ad : Addr} {vv : V} {u : Value} {kvs : List (PV × PV)} {xs : List (NestedKey × Addr × Value)} : keyT k = true → Rep K H μ k (.ref ad) → Rep K H μ v vv → RelV vv u → KvR K H μ kvs xs → KvR K H μ ((k, v) :: kvs) ((nk k, ad, u) :: xs)
def DctR (K : Fr) (H : Hp) (μ : List Addr) (kvs : List (PV × PV)) (a : Addr) : Prop := ∃ xs, H a = some (dX a xs) ∧ KvR K H μ kvs xs ∧ (a == sysModules) = false
def ObR (K : Fr) (H : Hp) (μ : List Addr) : HV → Addr → Prop
  | .lst xs, a => ∃ vs, H a = some (.lst vs) ∧ Reps K H μ xs vs
  | .dct kvs, a => DctR K H μ kvs a
/-- the heap of the interpreter: place l stands at μ l -/
structure Rel (K : Fr) (μ : List Addr) (h : Hv) (H : Hp) : Prop where
  len : μ.length = h.length
  nd : μ.Nodup
  ob : ∀ (l : Nat) (o : HV) (a : Addr), h[l]? = some o → μ[l]? = some a → ObR K H μ o a
/-- from (μ, H) to (μ', H'): new places are new, all that is not of μ is kept -/
structure Ext (μ : List Addr) (H : Hp) (μ' : List Addr) (H' : Hp) : Prop where
  pre : ∃ ν, μ' = μ ++ ν
  new : ∀ a, a ∈ μ' → a ∉ μ → H a = none
  kp : ∀ a o, H a = some o → a ∉ μ → H' a = some o
theorem Ext.refl {μ : List Addr} {H : Hp} : Ext μ H μ H := ⟨⟨[], by simp⟩, fun _ h n => absurd h n, fun _ _ e _ => e⟩
theorem Ext.trans {μ μ1 μ2 : List Addr} {H H1 H2 : Hp} (a : Ext μ H μ1 H1) (b : Ext μ1 H1 μ2 H2) : Ext μ H μ2 H2 := by
  obtain ⟨ν, rfl⟩ := a.pre
  obtain ⟨ν', rfl⟩ := b.pre
  have sub : ∀ x, x ∈ μ → x ∈ μ ++ ν := fun x h => List.mem_append_left _ h
  refine ⟨⟨ν ++ ν', by simp⟩, fun x hx nx => ?_, fun x o e nx => ?_⟩
  · by_cases h : x ∈ μ ++ ν
    · exact a.new x h nx
    · have := b.new x hx h
      cases e : H x with
      | none => rfl
      | some o => rw [a.kp x o e nx] at this; cases this
  · refine b.kp x o (a.kp x o e nx) fun h => ?_
    have := a.new x h nx
    rw [e] at this; cases this
theorem Ext.at_ {μ μ' : List Addr} {H H' : Hp} (x : Ext μ H μ' H') {l : Nat} {a : Addr} (e : μ[l]? = some a) : μ'[l]? = some a := by
  obtain ⟨ν, rfl⟩ := x.pre
  rw [List.getElem?_append_left]
  · exact e
  · exact (List.getElem?_eq_some_iff.mp e).1
section
variable {K : Fr} {μ μ' : List Addr} {h h' : Hv} {H H' : Hp}
/-- what stands at a place of μ is no tuple, nothing locked -/
theorem Rel.is (r : Rel K μ h H) {a : Addr} (m : a ∈ μ) : (∃ vs, H a = some (.lst vs)) ∨ ∃ φ, H a = some (.ext φ) := by
  obtain ⟨l, hl⟩ := List.getElem?_of_mem m
  have hlt : l < h.length := by
    have := (List.getElem?_eq_some_iff.mp hl).1
    rw [r.len] at this; exact this
  have ho : h[l]? = some h[l] := List.getElem?_eq_getElem hlt
  have := r.ob l _ a ho hl
  cases e : h[l] with
  | lst xs => rw [e] at this; obtain ⟨vs, q, _⟩ := this; exact .inl ⟨vs, q⟩
  | dct kvs => rw [e] at this; obtain ⟨xs, q, _⟩ := this; exact .inr ⟨_, q⟩
theorem Rel.notTup (r : Rel K μ h H) {a : Addr} {xs : List V} (e : H a = some (.tup xs)) : a ∉ μ := fun m => by
  rcases r.is m with ⟨vs, q⟩ | ⟨kvs, q⟩ <;> rw [e] at q <;> cases q
theorem Rel.notFrz (r : Rel K μ h H) {a : Addr} {o : Obj} {u : HO} (e : H a = some (.frz o u)) : a ∉ μ := fun m => by
  rcases r.is m with ⟨vs, q⟩ | ⟨kvs, q⟩ <;> rw [e] at q <;> cases q
theorem Rel.notXd (r : Rel K μ h H) {a : Addr} {fs : List (Str × V)} (e : H a = some (.xd fs)) : a ∉ μ := fun m => by
  rcases r.is m with ⟨vs, q⟩ | ⟨kvs, q⟩ <;> rw [e] at q <;> cases q
theorem Rel.sqT (r : Rel K μ h H) (x : Ext μ H μ' H') {a : Addr} {vs : List V} (t : SqT K H a vs) : SqT K H' a vs := by
  rcases t with t | t
  · rcases t with t | ⟨o, t⟩
    · exact .inl (.inl (x.kp a _ t (r.notTup t)))
    · exact .inl (.inr ⟨o, x.kp a _ t (r.notFrz t)⟩)
  · exact .inr t
mutual
theorem Rep.ext (r : Rel K μ h H) (x : Ext μ H μ' H') : ∀ {p : PV} {v : V}, Rep K H μ p v → Rep K H' μ' p v
  | _, _, .non => .non
  | _, _, .bl b => .bl b
  | _, _, .int i => .int i
  | _, _, .str z => .str z
  | _, _, .tup t q => .tup (r.sqT x t) (Reps.ext r x q)
  | _, _, .loc e => .loc (x.at_ e)
theorem Reps.ext (r : Rel K μ h H) (x : Ext μ H μ' H') : ∀ {ps : List PV} {vs : List V}, Reps K H μ ps vs → Reps K H' μ' ps vs
  | _, _, .nil => .nil
  | _, _, .cons q t => .cons (Rep.ext r x q) (Reps.ext r x t)
end
theorem KvR.ext (r : Rel K μ h H) (x : Ext μ H μ' H') : ∀ {kvs : List (PV × PV)} {xs : List (NestedKey × Addr × Value)}, KvR K H μ kvs xs → KvR K H' μ' kvs xs
  | _, _, .nil => .nil
  | _, _, .cons a b c d t => .cons a (b.ext r x) (c.ext r x) d (t.ext r x)
/-- a new object, not of ours: a tuple -/
theorem Ext.newTup {a : Addr} {o : HO} (n : H a = none) : Ext μ H μ (upd H a o) :=
  ⟨⟨[], by simp⟩, fun _ h n => absurd h n, fun b u e _ => by rw [upd_ne (ne_of_none e n)]; exact e⟩
theorem ObR.ext (r : Rel K μ h H) (x : Ext μ H μ' H') (kp : ∀ a o, H a = some o → a ∈ μ → H' a = some o) {o : HV} {a : Addr} (m : a ∈ μ) (q : ObR K H μ o a) : ObR K H' μ' o a := by
  cases o with
  | lst xs => obtain ⟨vs, e, t⟩ := q; exact ⟨vs, kp a _ e m, t.ext r x⟩
  | dct kvs => obtain ⟨xs, e, t, n⟩ := q; exact ⟨xs, kp a _ e m, t.ext r x, n⟩
theorem Rel.newTup (r : Rel K μ h H) {a : Addr} {o : HO} (n : H a = none) : Rel K μ h (upd H a o) :=
  ⟨r.len, r.nd, fun l u b e1 e2 => (r.ob l u b e1 e2).ext r (Ext.newTup n) (fun c w q _ => by rw [upd_ne (ne_of_none q n)]; exact q) (List.mem_of_getElem? e2)⟩
/-- a new object of ours -/
theorem Rel.fresh (r : Rel K μ h H) {a : Addr} (n : H a = none) : a ∉ μ := fun m => by
  rcases r.is m with ⟨vs, q⟩ | ⟨kvs, q⟩ <;> rw [n] at q <;> cases q
theorem Ext.newOb (n : H a = none) {o : HO} : Ext μ H (μ ++ [a]) (upd H a o) := by
  refine ⟨⟨[a], rfl⟩, fun b hb nb => ?_, fun b u e _ => by rw [upd_ne (ne_of_none e n)]; exact e⟩
  rcases List.mem_append.mp hb with h | h
  · exact absurd h nb
  · rw [List.mem_singleton] at h; rw [h]; exact n
theorem Rel.newOb (r : Rel K μ h H) {a : Addr} {o : HO} {u : HV} (n : H a = none) (q : ObR K (upd H a o) (μ ++ [a]) u a) : Rel K (μ ++ [a]) (h ++ [u]) (upd H a o) := by
  refine ⟨by simp [r.len], ?_, fun l w b e1 e2 => ?_⟩
  · rw [List.nodup_append]
    exact ⟨r.nd, (by simp), fun x hx y hy e => by rw [List.mem_singleton] at hy; subst hy; subst e; exact r.fresh n hx⟩
  · by_cases hl : l < h.length
    · rw [List.getElem?_append_left hl] at e1
      rw [List.getElem?_append_left (by rw [r.len]; exact hl)] at e2
      exact (r.ob l w b e1 e2).ext r (Ext.newOb n) (fun c z q _ => by rw [upd_ne (ne_of_none q n)]; exact q) (List.mem_of_getElem? e2)
    · have hlen := (List.getElem?_eq_some_iff.mp e1).1
      rw [List.length_append, List.length_singleton] at hlen
      have el : l = h.length := by omega
      subst el
      rw [List.getElem?_append_right (Nat.le_refl _)] at e1
      rw [List.getElem?_append_right (by rw [r.len]; exact Nat.le_refl _), r.len] at e2
      simp at e1 e2
      subst e1; subst e2
      exact q
/-- an object of ours is changed -/
theorem Ext.write {a : Addr} {o : HO} (m : a ∈ μ) : Ext μ H μ (upd H a o) :=
  ⟨⟨[], by simp⟩, fun _ h n => absurd h n, fun b u e nb => by rw [upd_ne (fun z => nb (by rw [z]; exact m))]; exact e⟩
theorem Rel.write (r : Rel K μ h H) {l : Nat} {a : Addr} {o : HO} {u : HV} (e : μ[l]? = some a) (q : ObR K (upd H a o) μ u a) : Rel K μ (h.set l u) (upd H a o) := by
  have m := List.mem_of_getElem? e
  refine ⟨by simp [r.len], r.nd, fun j w b e1 e2 => ?_⟩
  by_cases hj : j = l
  · subst hj
    rw [e] at e2; cases e2
    have hlt : j < h.length := by
      have := (List.getElem?_eq_some_iff.mp e).1
      rw [r.len] at this; exact this
    rw [List.getElem?_set_self hlt] at e1
    cases e1; exact q
  · rw [List.getElem?_set_ne (Ne.symm hj)] at e1
    have hne : b ≠ a := by
      rintro rfl
      obtain ⟨h1, h2⟩ := List.getElem?_eq_some_iff.mp e
      obtain ⟨h3, h4⟩ := List.getElem?_eq_some_iff.mp e2
      exact hj ((List.getElem_inj r.nd).mp (h4.trans h2.symm))
    have old := r.ob j w b e1 e2
    have x : Ext μ H μ (upd H a o) := Ext.write m
    cases w with
    | lst xs => obtain ⟨vs, z, t⟩ := old; exact ⟨vs, by rw [upd_ne hne]; exact z, t.ext r x⟩
    | dct kvs => obtain ⟨xs, z, t, n⟩ := old; exact ⟨xs, by rw [upd_ne hne]; exact z, t.ext r x, n⟩
theorem Rel.lst (r : Rel K μ h H) {l : Nat} {xs : List PV} (e : h[l]? = some (.lst xs)) : ∃ a vs, μ[l]? = some a ∧ H a = some (.lst vs) ∧ Reps K H μ xs vs := by
  have hlt := (List.getElem?_eq_some_iff.mp e).1
  have hm : μ[l]? = some (μ[l]'(by rw [r.len]; exact hlt)) := List.getElem?_eq_getElem _
  obtain ⟨vs, q, t⟩ := r.ob l _ _ e hm
  exact ⟨_, vs, hm, q, t⟩
end
def EvR (K : Fr) (H : Hp) (μ : List Addr) (e : Ev) (σ : L2.St) : Prop :=
  e.length = σ.length ∧ ∀ (i : Nat) (v : PV), e[i]? = some (some v) → ∃ x, σ[i]? = some (some x) ∧ Rep K H μ v x
structure Stt (K : Fr) (μ : List Addr) (e : Ev) (h : Hv) (σ : L2.St) (H : Hp) : Prop where
  env : EvR K H μ e σ
  rel : Rel K μ h H
section
variable {K : Fr} {μ μ' : List Addr} {h h' : Hv} {H H' : Hp} {e : Ev} {σ : L2.St}
theorem Stt.ext (s : Stt K μ e h σ H) (x : Ext μ H μ' H') (r : Rel K μ' h' H') : Stt K μ' e h' σ H' :=
  ⟨⟨s.env.1, fun i v q => let ⟨y, a, b⟩ := s.env.2 i v q; ⟨y, a, b.ext s.rel x⟩⟩, r⟩
theorem Stt.set (s : Stt K μ e h σ H) {i : Nat} {v : PV} {x : V} (q : Rep K H μ v x) : Stt K μ (e.set i (some v)) h (σ.set i (some x)) H := by
  refine ⟨⟨by simp [s.env.1], fun j w z => ?_⟩, s.rel⟩
  by_cases hj : i = j
  · subst hj
    have hl := (List.getElem?_eq_some_iff.mp z).1
    rw [List.length_set] at hl
    rw [List.getElem?_set_self hl] at z
    cases z
    rw [s.env.1] at hl
    exact ⟨x, List.getElem?_set_self hl, q⟩
  · rw [List.getElem?_set_ne hj] at z ⊢
    exact s.env.2 j w z
theorem Stt.unset (s : Stt K μ e h σ H) {i : Nat} {o : Option V} : Stt K μ (e.set i none) h (σ.set i o) H := by
  refine ⟨⟨by simp [s.env.1], fun j w z => ?_⟩, s.rel⟩
  by_cases hj : i = j
  · subst hj
    have hl := (List.getElem?_eq_some_iff.mp z).1
    rw [List.length_set] at hl
    rw [List.getElem?_set_self hl] at z
    cases z
  · rw [List.getElem?_set_ne hj] at z ⊢
    exact s.env.2 j w z
theorem Stt.wipe (s : Stt K μ e h σ H) : ∀ own : List Nat, Stt K μ (MP.wipe e own) h (L2.wipe σ own) H
  | [] => s
  | v :: vs => by
    show Stt K μ (put (MP.wipe e vs) v none) h ((L2.wipe σ vs).set v none) H
    rw [put_eq]
    exact (s.wipe vs).unset
end
/-- the classes of errors: where each stands, its field -/
structure GC where
  ca : Nat → Addr
  fl : Nat → Str
def ExR (g : GC) (K : Fr) (c : Nat) (v : PV) (cls : Value) (d : Option Addr) (μ : List Addr) (H : Hp) : Prop :=
  cls = .ref (g.ca c) ∧ ∃ dd x, d = some dd ∧ H dd = some (.xd [(g.fl c, x)]) ∧ Rep K H μ v x
def PR {α β : Type} (g : GC) (K : Fr) (rel : Hp → List Addr → α → β → Prop) (Q : β → Hp → Prop) (W : WX) (σ : L2.St) (μ : List Addr) (H : Hp) : R α → Prop
  | .ok v h' => ∀ μ' H' x, Ext μ H μ' H' → Rel K μ' h' H' → rel H' μ' v x → Q x H'
  | .exc c v h' => ∀ μ' H' cls d, Ext μ H μ' H' → Rel K μ' h' H' → ExR g K c v cls d μ' H' → W cls d σ H'
  | .bad => False
section
variable {α β γ δ : Type} {g : GC} {K : Fr} {rel : Hp → List Addr → α → β → Prop} {rel2 : Hp → List Addr → γ → δ → Prop} {Q : β → Hp → Prop} {Q2 : δ → Hp → Prop} {W : WX} {σ : L2.St} {μ μ' : List Addr} {H H' : Hp}
theorem PR.ext {r : R α} (p : PR g K rel Q W σ μ H r) (x : Ext μ H μ' H') : PR g K rel Q W σ μ' H' r := by
  cases r with
  | ok v h' => exact fun μ2 H2 y x2 => p μ2 H2 y (x.trans x2)
  | exc c v h' => exact fun μ2 H2 c d x2 => p μ2 H2 c d (x.trans x2)
  | bad => exact p
theorem PR.mono {r : R α} {Q' : β → Hp → Prop} (p : PR g K rel Q W σ μ H r) (f : ∀ v h' μ' H' x, r = .ok v h' → Ext μ H μ' H' → Rel K μ' h' H' → rel H' μ' v x → Q x H' → Q' x H') : PR g K rel Q' W σ μ H r := by
  cases r with
  | ok v h' => exact fun μ2 H2 y x2 r2 q => f v h' μ2 H2 y rfl x2 r2 q (p μ2 H2 y x2 r2 q)
  | exc c v h' => exact p
  | bad => exact p
theorem PR.bind {r : R α} {k : α → Hv → R γ} (p : PR g K rel2 Q2 W σ μ H (r.bind k)) :
    PR g K rel (fun x H1 => ∃ v h1 μ1, Ext μ H μ1 H1 ∧ Rel K μ1 h1 H1 ∧ rel H1 μ1 v x ∧ r = .ok v h1 ∧ PR g K rel2 Q2 W σ μ1 H1 (k v h1)) W σ μ H r := by
  cases r with
  | ok v h' => exact fun μ1 H1 x x1 r1 q => ⟨v, h', μ1, x1, r1, q, rfl, PR.ext p x1⟩
  | exc c v h' => exact p
  | bad => exact p
theorem PR.ok {v : α} {h : Hv} (p : PR g K rel Q W σ μ H (.ok v h)) (r : Rel K μ h H) {x : β} (q : rel H μ v x) : Q x H := p μ H x .refl r q
end
abbrev RepR (K : Fr) : Hp → List Addr → PV → V → Prop := fun H μ v x => Rep K H μ v x
abbrev RepsR (K : Fr) : Hp → List Addr → List PV → List V → Prop := fun H μ v x => Reps K H μ v x
/-- the reading of a word of the interpreter -/
def TI (g : GC) (K : Fr) (W : WX) (f : Sm) : TE := fun σ H Q => ∃ μ e h, Stt K μ e h σ H ∧ PR g K (RepR K) Q W σ μ H (f e h)
def TIL (g : GC) (K : Fr) (W : WX) (f : SmL) : TA := fun σ H Q => ∃ μ e h, Stt K μ e h σ H ∧ PR g K (RepsR K) Q W σ μ H (f e h)
def BoolR (_ : Hp) (_ : List Addr) (v : PV) (b : Bool) : Prop := v = .bl b
def TIT (g : GC) (K : Fr) (W : WX) (f : Sm) : TT := fun σ H Q => ∃ μ e h, Stt K μ e h σ H ∧ PR g K (fun _ _ v b => v = .bl b) Q W σ μ H (f e h)
/-- what is wanted behind a statement -/
def PS_ (g : GC) (K : Fr) (D : Ends) (W : WX) (μ : List Addr) (H : Hp) : SR → Prop
  | .nx e h => ∀ μ' H' σ', Ext μ H μ' H' → Stt K μ' e h σ' H' → D.nx σ' H'
  | .bk e h => ∀ μ' H' σ', Ext μ H μ' H' → Stt K μ' e h σ' H' → D.bk σ' H'
  | .ct e h => ∀ μ' H' σ', Ext μ H μ' H' → Stt K μ' e h σ' H' → D.ct σ' H'
  | .rt v h => ∀ μ' H' x, Ext μ H μ' H' → Rel K μ' h H' → Rep K H' μ' v x → D.rt x H'
  | .exc c v e h => ∀ μ' H' σ' cls d, Ext μ H μ' H' → Stt K μ' e h σ' H' → ExR g K c v cls d μ' H' → W cls d σ' H'
  | .bad => False
theorem PS_.ext {g : GC} {K : Fr} {D : Ends} {W : WX} {μ μ' : List Addr} {H H' : Hp} {r : SR} (p : PS_ g K D W μ H r) (x : Ext μ H μ' H') : PS_ g K D W μ' H' r := by
  cases r with
  | nx e h => exact fun μ2 H2 s x2 => p μ2 H2 s (x.trans x2)
  | bk e h => exact fun μ2 H2 s x2 => p μ2 H2 s (x.trans x2)
  | ct e h => exact fun μ2 H2 s x2 => p μ2 H2 s (x.trans x2)
  | rt v h => exact fun μ2 H2 s x2 => p μ2 H2 s (x.trans x2)
  | exc c v e h => exact fun μ2 H2 s c d x2 => p μ2 H2 s c d (x.trans x2)
  | bad => exact p
def TS_ (g : GC) (K : Fr) (W : WX) (f : Sr) : TS := fun D σ H => ∃ μ e h, Stt K μ e h σ H ∧ PS_ g K D W μ H (f e h)
/-- an expression first -/
theorem PS_.done {α β : Type} {g : GC} {K : Fr} {rel : Hp → List Addr → α → β → Prop} {D : Ends} {W : WX} {σ : L2.St} {μ : List Addr} {H : Hp} {e : Ev} {h : Hv} {r : R α} {k : α → Hv → SR} (s : Stt K μ e h σ H) (p : PS_ g K D W μ H (r.done e k)) :
    PR g K rel (fun x H1 => ∃ v h1 μ1, Ext μ H μ1 H1 ∧ Rel K μ1 h1 H1 ∧ rel H1 μ1 v x ∧ r = .ok v h1 ∧ PS_ g K D W μ1 H1 (k v h1)) W σ μ H r := by
  cases r with
  | ok v h' => exact fun μ1 H1 x x1 r1 q => ⟨v, h', μ1, x1, r1, q, rfl, PS_.ext p x1⟩
  | exc c v h' => exact fun μ' H' cls d x r q => p μ' H' σ cls d x (s.ext x r) q
  | bad => exact p
section
variable {K : Fr} {H H' : Hp} {μ ν : List Addr}
mutual
theorem Rep.pure_any : ∀ {p : PV} {v : V}, p.pure = true → Rep K H μ p v → Rep K H ν p v
  | _, _, _, .non => .non
  | _, _, _, .bl b => .bl b
  | _, _, _, .int i => .int i
  | _, _, _, .str z => .str z
  | _, _, h, .tup t q => .tup t (Reps.pure_any (by simpa [PV.pure] using h) q)
  | _, _, h, .loc _ => by simp [PV.pure] at h
theorem Reps.pure_any : ∀ {ps : List PV} {vs : List V}, pureL ps = true → Reps K H μ ps vs → Reps K H ν ps vs
  | _, _, _, .nil => .nil
  | _, _, h, .cons q t => by
    have h' := h
    simp only [pureL, Bool.and_eq_true] at h'
    exact .cons (Rep.pure_any h'.1 q) (Reps.pure_any h'.2 t)
end
mutual
theorem Rep.any_of_nil : ∀ {p : PV} {v : V}, Rep K H [] p v → Rep K H ν p v
  | _, _, .non => .non
  | _, _, .bl b => .bl b
  | _, _, .int i => .int i
  | _, _, .str z => .str z
  | _, _, .tup t q => .tup t (Reps.any_of_nil q)
  | _, _, .loc e => by simp at e
theorem Reps.any_of_nil : ∀ {ps : List PV} {vs : List V}, Reps K H [] ps vs → Reps K H ν ps vs
  | _, _, .nil => .nil
  | _, _, .cons q t => .cons (Rep.any_of_nil q) (Reps.any_of_nil t)
end
theorem Rel.none : Rel K [] [] H := ⟨rfl, List.nodup_nil, fun l o a e => by simp at e⟩
end
theorem Stt.purify {K : Fr} {μ : List Addr} {e : Ev} {h : Hv} {σ : L2.St} {H : Hp} (s : Stt K μ e h σ H) : Stt K [] (pureE e) [] σ H := by
  refine ⟨⟨by unfold pureE; rw [List.length_map]; exact s.env.1, fun i v q => ?_⟩, Rel.none⟩
  unfold pureE at q
  rw [List.getElem?_map] at q
  cases z : e[i]? with
  | none => rw [z] at q; cases q
  | some o =>
    rw [z] at q
    cases o with
    | none => cases q
    | some u =>
      have q' : (match u.pure with | true => some u | false => none) = some v := Option.some.inj q
      cases hp : u.pure with
      | false => rw [hp] at q'; cases q'
      | true =>
        rw [hp] at q'
        cases q'
        obtain ⟨x, a, b⟩ := s.env.2 i _ z
        exact ⟨x, a, b.pure_any hp⟩
section
variable {K : Fr} {H H' : Hp} {μ ν : List Addr}
/-- all that stood stays -/
theorem keepX {h : Hv} (x : Ext [] H μ H') : Ext ν H ν H' := ⟨⟨[], by simp⟩, fun _ m n => absurd m n, fun a o e _ => x.kp a o e (by simp)⟩
theorem keepR {h : Hv} (x : Ext [] H μ H') (r : Rel K ν h H) : Rel K ν h H' :=
  ⟨r.len, r.nd, fun l o a e1 e2 => (r.ob l o a e1 e2).ext r (keepX (h := h) x) (fun b u e _ => x.kp b u e (by simp)) (List.mem_of_getElem? e2)⟩
theorem outP_PS {g : GC} {D : Ends} {W : WX} {h : Hv} {r : SR} (R : Rel K μ h H) (p : PS_ g K D W μ H (outP h r)) : PS_ g K D W [] H r := by
  cases r with
  | nx e h1 => exact fun μ' H' σ' x s => p μ H' σ' (keepX (h := h) x) ⟨⟨s.purify.env.1, fun i v q => let ⟨y, a, b⟩ := s.purify.env.2 i v q; ⟨y, a, b.any_of_nil⟩⟩, keepR x R⟩
  | rt v h1 =>
    have p' : PS_ g K D W μ H (if v.pure then .rt v h else .bad) := p
    by_cases hv : v.pure = true
    · rw [if_pos hv] at p'
      exact fun μ' H' y x r1 q1 => p' μ H' y (keepX (h := h) x) (keepR x R) (q1.pure_any hv)
    · rw [if_neg hv] at p'; exact p'.elim
  | exc c v e h1 =>
    have p' : PS_ g K D W μ H (if v.pure then .exc c v (pureE e) h else .bad) := p
    by_cases hv : v.pure = true
    · rw [if_pos hv] at p'
      intro μ' H' σ' cls d x s ex
      obtain ⟨e1, dd, y, e2, hdd, ry⟩ := ex
      exact p' μ H' σ' cls d (keepX (h := h) x) ⟨⟨s.purify.env.1, fun i v q => let ⟨y, a, b⟩ := s.purify.env.2 i v q; ⟨y, a, b.any_of_nil⟩⟩, keepR x R⟩ ⟨e1, dd, y, e2, hdd, ry.pure_any hv⟩
    · rw [if_neg hv] at p'; exact p'.elim
  | bk e h1 => exact p.elim
  | ct e h1 => exact p.elim
  | bad => exact p.elim
end
end MP
namespace MP
open PySem L2 PySem.Spec PyProof.Rows
variable [Wd]

theorem big_le {n : Nat} (h : Nat.ble n big = true) : n ≤ sizeLine := by
  have := Nat.le_of_ble_eq_true h
  unfold big at this
  have e := sizeLine_eq
  omega
theorem big_lt {n : Nat} (h : Nat.ble (Nat.succ n) big = true) : n < sizeLine := big_le h
theorem lenLe_PR {α β : Type} {g : GC} {K : Fr} {rel : Hp → List Addr → α → β → Prop} {Q : β → Hp → Prop} {W : WX} {σ : L2.St} {μ : List Addr} {H : Hp} {b : Bool} {r : R α} (p : PR g K rel Q W σ μ H (lenLe b r)) : b = true ∧ PR g K rel Q W σ μ H r := by
  cases b with
  | true => exact ⟨rfl, p⟩
  | false => exact p.elim
mutual
def PV.toD : PV → PyData
  | .non => .none
  | .bl b => .bool b
  | .int i => .int i
  | .str x => .str x
  | .tup xs => .tuple (toDs xs)
  | .loc _ => .none
def toDs : List PV → List PyData
  | [] => []
  | x :: xs => x.toD :: toDs xs
end
theorem strOkP_ok {x : Str} (h : strOkP x = true) : PyData.strOk x = true := by
  unfold strOkP at h
  unfold PyData.strOk
  rw [List.all_eq_true] at h
  rw [← Array.all_toList, List.all_eq_true]
  intro c hc
  have := Nat.le_of_ble_eq_true (h c hc)
  simp only [decide_eq_true_eq]
  omega
section
variable {K : Fr} {H : Hp} {μ : List Addr}
theorem okAll_of {f : PV → Bool} : ∀ {xs : List PV}, okAll f xs = true → ∀ x ∈ xs, f x = true
  | [], _, _, m => nomatch m
  | x :: xs, h, y, m => by
    have h' : (f x && okAll f xs) = true := h
    rw [Bool.and_eq_true] at h'
    rcases List.mem_cons.mp m with rfl | m
    · exact h'.1
    · exact okAll_of h'.2 y m
theorem okP_dp : ∀ (n : Nat) (p : PV) (v : V), okP n p = true → Rep K H μ p v → Dp K H v p.toD := by
  have str : ∀ (x : Str) (v : V), Rep K H μ (.str x) v → Dp K H v (PV.str x).toD := fun x v r => by cases r; unfold PV.toD; exact .str x
  intro n
  induction n with
  | zero =>
    intro p v h r
    cases p with
    | non => cases r; unfold PV.toD; exact .non
    | bl b => cases r; unfold PV.toD; exact .bl b
    | int i => cases r; unfold PV.toD; exact .int i
    | str x => exact str x v r
    | tup xs => cases h
    | loc l => cases h
  | succ n ih =>
    intro p v h r
    cases p with
    | non => cases r; unfold PV.toD; exact .non
    | bl b => cases r; unfold PV.toD; exact .bl b
    | int i => cases r; unfold PV.toD; exact .int i
    | str x => exact str x v r
    | tup xs =>
      have h' : okAll (okP n) xs = true := h
      cases r with
      | tup t q =>
        unfold PV.toD
        refine .tup t ?_
        clear t h
        rename_i vs
        revert vs
        induction xs with
        | nil => intro vs q; cases q; unfold toDs; exact .nil
        | cons x xs ih2 =>
          intro vs q
          have h3 : (okP n x && okAll (okP n) xs) = true := h'
          obtain ⟨h4, h5⟩ := Bool.and_eq_true_iff.mp h3
          cases q with
          | cons r t => unfold toDs; exact .cons (ih _ _ h4 r) (ih2 h5 t)
    | loc l => cases h
end
theorem okP_lay : ∀ (n : Nat) (p : PV), okP n p = true → p.toD.canLay0 = true ∧ p.toD.depth ≤ n := by
  intro n
  induction n with
  | zero =>
    intro p h
    cases p with
    | non => unfold PV.toD; exact ⟨by simp [PyData.canLay0], by simp [PyData.depth]⟩
    | bl b => unfold PV.toD; exact ⟨by simp [PyData.canLay0], by simp [PyData.depth]⟩
    | int i => unfold PV.toD; exact ⟨by simp [PyData.canLay0], by simp [PyData.depth]⟩
    | str x => unfold PV.toD; exact ⟨by simp only [PyData.canLay0]; exact strOkP_ok h, by simp [PyData.depth]⟩
    | tup xs => cases h
    | loc l => cases h
  | succ n ih =>
    intro p h
    cases p with
    | non => unfold PV.toD; exact ⟨by simp [PyData.canLay0], by simp [PyData.depth]⟩
    | bl b => unfold PV.toD; exact ⟨by simp [PyData.canLay0], by simp [PyData.depth]⟩
    | int i => unfold PV.toD; exact ⟨by simp [PyData.canLay0], by simp [PyData.depth]⟩
    | str x => unfold PV.toD; exact ⟨by simp only [PyData.canLay0]; exact strOkP_ok h, by simp [PyData.depth]⟩
    | tup xs =>
      have h' : okAll (okP n) xs = true := h
      have all : ∀ xs : List PV, okAll (okP n) xs = true → PyData.canLayAll0 (toDs xs) = true ∧ PyData.depthAll (toDs xs) ≤ n := by
        intro xs
        induction xs with
        | nil => intro _; exact ⟨by simp [toDs, PyData.canLayAll0], by simp [toDs, PyData.depthAll]⟩
        | cons x xs ih2 =>
          intro h
          have h3 : (okP n x && okAll (okP n) xs) = true := h
          obtain ⟨h4, h5⟩ := Bool.and_eq_true_iff.mp h3
          obtain ⟨a, b⟩ := ih x h4
          obtain ⟨c, d⟩ := ih2 h5
          unfold toDs
          refine ⟨by simp only [PyData.canLayAll0, a, c, Bool.and_self], ?_⟩
          simp only [PyData.depthAll]; omega
      obtain ⟨a, b⟩ := all xs h'
      unfold PV.toD
      exact ⟨by simp only [PyData.canLay0]; exact a, by simp only [PyData.depth]; omega⟩
    | loc l => cases h
theorem eqP_flat (m : Nat) (a b : PV) (k : Nat) (ha : ∀ xs, a ≠ .tup xs) (hl : ∀ l, a ≠ .loc l) (hb : okP k b = true) : eqP (m + 1) a b = PyData.eqv a.toD b.toD := by
  have nb : ∀ l, b ≠ .loc l := fun l e => by subst e; cases k <;> cases hb
  cases a with
  | tup xs => exact absurd rfl (ha xs)
  | loc l => exact absurd rfl (hl l)
  | non => cases b <;> first | exact absurd rfl (nb _) | (unfold PV.toD; unfold PyData.eqv; rfl)
  | bl x =>
    cases b with
    | loc l => exact absurd rfl (nb _)
    | bl y => unfold PV.toD; unfold PyData.eqv; rfl
    | int j =>
      unfold PV.toD; unfold PyData.eqv
      show eqI (b2I x) j = _
      rw [eqI_eq]
      cases x <;> rfl
    | non => unfold PV.toD; unfold PyData.eqv; rfl
    | str _ => unfold PV.toD; unfold PyData.eqv; rfl
    | tup _ => unfold PV.toD; unfold PyData.eqv; rfl
  | int x =>
    cases b with
    | loc l => exact absurd rfl (nb _)
    | bl y =>
      unfold PV.toD; unfold PyData.eqv
      show eqI x (b2I y) = _
      rw [eqI_eq]
      cases y <;> rfl
    | int j => unfold PV.toD; unfold PyData.eqv; show eqI x j = _; rw [eqI_eq]; rfl
    | non => unfold PV.toD; unfold PyData.eqv; rfl
    | str _ => unfold PV.toD; unfold PyData.eqv; rfl
    | tup _ => unfold PV.toD; unfold PyData.eqv; rfl
  | str x =>
    cases b with
    | loc l => exact absurd rfl (nb _)
    | str y => unfold PV.toD; unfold PyData.eqv; exact strEq_eq x y
    | non => unfold PV.toD; unfold PyData.eqv; rfl
    | bl _ => unfold PV.toD; unfold PyData.eqv; rfl
    | int _ => unfold PV.toD; unfold PyData.eqv; rfl
    | tup _ => unfold PV.toD; unfold PyData.eqv; rfl
theorem eqP_eqv : ∀ (n m k : Nat) (a b : PV), okP n a = true → okP k b = true → n < m → eqP m a b = PyData.eqv a.toD b.toD := by
  intro n
  induction n with
  | zero =>
    intro m k a b ha hb hm
    obtain ⟨m, rfl⟩ : ∃ j, m = j + 1 := ⟨m - 1, by omega⟩
    refine eqP_flat m a b k (fun xs e => ?_) (fun l e => ?_) hb <;> subst e <;> cases ha
  | succ n ih =>
    intro m k a b ha hb hm
    obtain ⟨m, rfl⟩ : ∃ j, m = j + 1 := ⟨m - 1, by omega⟩
    cases a with
    | tup xs =>
      have nb : ∀ l, b ≠ .loc l := fun l e => by subst e; cases k <;> cases hb
      cases b with
      | loc l => exact absurd rfl (nb _)
      | tup ys =>
        obtain ⟨k, rfl⟩ : ∃ j, k = j + 1 := by
          cases k with
          | zero => cases hb
          | succ j => exact ⟨j, rfl⟩
        unfold PV.toD; unfold PyData.eqv
        show eqLs (eqP m) xs ys = _
        have h1 : okAll (okP n) xs = true := ha
        have h2 : okAll (okP k) ys = true := hb
        clear ha hb nb
        revert ys
        induction xs with
        | nil => intro ys h2; cases ys <;> (unfold toDs; unfold PyData.eqvAll; rfl)
        | cons x xs ih2 =>
          intro ys h2
          have h3 : (okP n x && okAll (okP n) xs) = true := h1
          obtain ⟨h4, h5⟩ := Bool.and_eq_true_iff.mp h3
          cases ys with
          | nil => unfold toDs; unfold PyData.eqvAll; rfl
          | cons y ys =>
            have h6 : (okP k y && okAll (okP k) ys) = true := h2
            obtain ⟨h7, h8⟩ := Bool.and_eq_true_iff.mp h6
            unfold toDs; unfold PyData.eqvAll
            show (eqP m x y && eqLs (eqP m) xs ys) = _
            rw [ih m k x y h4 h7 (by omega), ih2 h5 ys h8]
      | non => unfold PV.toD; unfold PyData.eqv; rfl
      | bl _ => unfold PV.toD; unfold PyData.eqv; rfl
      | int _ => unfold PV.toD; unfold PyData.eqv; rfl
      | str _ => unfold PV.toD; unfold PyData.eqv; rfl
    | loc l => cases ha
    | non => exact eqP_flat m _ b k (fun _ e => nomatch e) (fun _ e => nomatch e) hb
    | bl _ => exact eqP_flat m _ b k (fun _ e => nomatch e) (fun _ e => nomatch e) hb
    | int _ => exact eqP_flat m _ b k (fun _ e => nomatch e) (fun _ e => nomatch e) hb
    | str _ => exact eqP_flat m _ b k (fun _ e => nomatch e) (fun _ e => nomatch e) hb
theorem seqO_all {α : Type} : ∀ {os : List (Option α)} {l : List α}, seqO os = some l → os = l.map some
  | [], l, h => by cases h; rfl
  | none :: r, l, h => nomatch (show (none : Option (List α)) = some l from h)
  | some a :: r, l, h => by
    have h' : (match seqO r with | some l => some (a :: l) | none => none) = some l := h
    cases e : seqO r with
    | none => rw [e] at h'; cases h'
    | some l' => rw [e] at h'; cases h'; rw [seqO_all e]; rfl
theorem someL_some {f : List PyData → PyData} {o : Option (List PyData)} {d : PyData} (h : someL f o = some d) : ∃ ds, o = some ds ∧ d = f ds := by
  cases o with
  | none => cases h
  | some ds => cases h; exact ⟨ds, rfl, rfl⟩
theorem reif_dp {K : Fr} {H : Hp} {μ : List Addr} {h : Hv} (R : Rel K μ h H) : ∀ (n : Nat) (p : PV) (d : PyData) (v : V), reif h n p = some d → Rep K H μ p v → Dp K H v d ∧ d.canLay0 = true ∧ d.depth ≤ n := by
  intro n
  induction n with
  | zero => intro p d v e _; cases e
  | succ n ih =>
    have all : ∀ (xs : List PV) (ds : List PyData) (vs : List V), seqO (xs.map (reif h n)) = some ds → Reps K H μ xs vs → DpAll K H vs ds ∧ PyData.canLayAll0 ds = true ∧ PyData.depthAll ds ≤ n := by
      intro xs
      induction xs with
      | nil =>
        intro ds vs e r
        cases r
        cases (show some [] = some ds from e)
        exact ⟨.nil, by simp [PyData.canLayAll0], by simp [PyData.depthAll]⟩
      | cons x xs ih2 =>
        intro ds vs e r
        have e' := seqO_all e
        cases ds with
        | nil => cases e'
        | cons d ds =>
          rw [List.map_cons, List.map_cons] at e'
          injection e' with e1 e2
          have e3 : seqO (xs.map (reif h n)) = some ds := by
            rw [List.map_cons, e1] at e
            simp only [seqO] at e
            have e' := e
            cases q : seqO (xs.map (reif h n)) with
            | none => rw [q] at e'; cases e'
            | some l => rw [q] at e'; cases e'; rfl
          cases r with
          | cons r t =>
            obtain ⟨a, b, c⟩ := ih x d _ e1 r
            obtain ⟨a', b', c'⟩ := ih2 ds _ e3 t
            exact ⟨.cons a a', by simp only [PyData.canLayAll0, b, b', Bool.and_self], by simp only [PyData.depthAll]; omega⟩
    intro p d v e r
    cases p with
    | non => cases r; cases (show some PyData.none = some d from e); exact ⟨.non, by simp [PyData.canLay0], by simp [PyData.depth]⟩
    | bl b => cases r; cases (show some (PyData.bool b) = some d from e); exact ⟨.bl b, by simp [PyData.canLay0], by simp [PyData.depth]⟩
    | int i => cases r; cases (show some (PyData.int i) = some d from e); exact ⟨.int i, by simp [PyData.canLay0], by simp [PyData.depth]⟩
    | str x =>
      cases r
      have e' : (match strOkP x with | true => some (PyData.str x) | false => none) = some d := e
      cases q : strOkP x with
      | false => rw [q] at e'; cases e'
      | true => rw [q] at e'; cases e'; exact ⟨.str x, by simp only [PyData.canLay0]; exact strOkP_ok q, by simp [PyData.depth]⟩
    | tup xs =>
      obtain ⟨ds, e1, rfl⟩ := someL_some (show someL .tuple (seqO (xs.map (reif h n))) = some d from e)
      cases r with
      | tup t q =>
        obtain ⟨a, b, c⟩ := all xs ds _ e1 q
        exact ⟨.tup t a, by simp only [PyData.canLay0]; exact b, by simp only [PyData.depth]; omega⟩
    | loc l =>
      have e' : (match nth h l with
        | some (.lst xs) => someL .list (seqO (xs.map (reif h n)))
        | _ => none) = some d := e
      rw [nth_eq] at e'
      cases q : h[l]? with
      | none => rw [q] at e'; cases e'
      | some o =>
        cases o with
        | dct kvs => rw [q] at e'; cases e'
        | lst xs =>
          rw [q] at e'
          obtain ⟨ds, e1, rfl⟩ := someL_some e'
          obtain ⟨a, vs, ha, hH, t⟩ := R.lst q
          cases r with
          | loc ha' =>
            rw [ha] at ha'; cases ha'
            obtain ⟨x, y, z⟩ := all xs ds _ e1 t
            exact ⟨.lst (SqL.of hH) x, by simp only [PyData.canLay0]; exact y, by simp only [PyData.depth]; omega⟩
theorem shaped_of {d : PyData} {n : Nat} (h1 : d.canLay0 = true) (h2 : d.depth ≤ n) (hn : n ≤ 64) : SeqAt.shaped d = true := by
  show (d.canLay0 && decide (d.depth ≤ 64)) = true
  rw [h1, decide_eq_true (by omega)]; rfl
/-- the reading of an operation -/
def RO2 (g : GC) (K : Fr) (W : WX) (F : PV → PV → Hv → R PV) : R2 := fun x y H Q => ∃ μ h a b σ, Rel K μ h H ∧ Rep K H μ a x ∧ Rep K H μ b y ∧ PR g K (RepR K) Q W σ μ H (F a b h)
section
variable {X : Cx} {g : GC} {W : WX}
theorem okB_PR {K : Fr} {Q : VK} {σ : L2.St} {μ : List Addr} {H : Hp} {o : Option Bool} {h : Hv} (r : Rel K μ h H) (p : PR g K (RepR K) Q W σ μ H (okB o h)) : ∃ b, o = some b ∧ Q (.bl b) H := by
  cases o with
  | none => exact p.elim
  | some b => exact ⟨b, rfl, PR.ok (v := PV.bl b) p r (.bl b)⟩
theorem o_eq (hu : X.A.units + 64 < cLine) : OpR X (compareOp .Eq) (RO2 g X.K W fun a b h => okB (eqG h a b) h) := by
  rintro pins s σ H x y v u Q I rx ry ⟨μ, h, a, b, σ0, r, ra, rb, p⟩
  obtain ⟨z, e, q⟩ := okB_PR r p
  have fin : ∀ d d', Dp X.K H x d → Dp X.K H y d' → SeqAt.shaped d = true → SeqAt.shaped d' = true → z = PyData.eqv d d' → wpAny (model X.prog X.w) X.A (compareOp .Eq v u) (EP X pins σ Q) X.xe s := by
    intro d d' h1 h2 h3 h4 h5
    refine op_eqD hu pins s σ H x y v u Q I rx ry ⟨d, d', h1, h2, h3, h4, ?_⟩
    rw [← h5]; exact q
  unfold eqG at e
  cases hk : okP 60 a && okP 60 b with
  | true =>
    rw [hk] at e
    obtain ⟨k1, k2⟩ := Bool.and_eq_true_iff.mp hk
    have z' : eqP 61 a b = z := Option.some.inj e
    obtain ⟨l1, d1⟩ := okP_lay 60 a k1
    obtain ⟨l2, d2⟩ := okP_lay 60 b k2
    exact fin _ _ (okP_dp 60 a x k1 ra) (okP_dp 60 b y k2 rb) (shaped_of l1 d1 (by decide)) (shaped_of l2 d2 (by decide)) (by rw [← z']; exact eqP_eqv 60 61 60 a b k1 k2 (by decide))
  | false =>
    rw [hk] at e
    have e' : eqR (reif h 60 a) (reif h 60 b) = some z := e
    unfold eqR at e'
    cases q1 : reif h 60 a with
    | none => rw [q1] at e'; cases e'
    | some d =>
      cases q2 : reif h 60 b with
      | none => rw [q1, q2] at e'; cases e'
      | some d' =>
        rw [q1, q2] at e'
        obtain ⟨a1, a2, a3⟩ := reif_dp r 60 a d x q1 ra
        obtain ⟨b1, b2, b3⟩ := reif_dp r 60 b d' y q2 rb
        exact fin d d' a1 b1 (shaped_of a2 a3 (by decide)) (shaped_of b2 b3 (by decide)) (Option.some.inj e').symm
theorem notO_some {o : Option Bool} {b : Bool} (h : notO o = some b) : ∃ c, o = some c ∧ b = !c := by
  cases o with
  | none => cases h
  | some c => cases h; exact ⟨c, rfl, rfl⟩
theorem o_ne (hu : X.A.units + 64 < cLine) : OpR X (compareOp .NotEq) (RO2 g X.K W fun a b h => okB (notO (eqG h a b)) h) := by
  rintro pins s σ H x y v u Q I rx ry ⟨μ, h, a, b, σ0, r, ra, rb, p⟩
  obtain ⟨z0, e0, q0⟩ := okB_PR r p
  obtain ⟨z, e, hz⟩ := notO_some e0
  have fin : ∀ d d', Dp X.K H x d → Dp X.K H y d' → SeqAt.shaped d = true → SeqAt.shaped d' = true → z = PyData.eqv d d' → wpAny (model X.prog X.w) X.A (compareOp .NotEq v u) (EP X pins σ Q) X.xe s := by
    intro d d' h1 h2 h3 h4 h5
    refine op_neD hu pins s σ H x y v u Q I rx ry ⟨d, d', h1, h2, h3, h4, ?_⟩
    rw [← h5, ← hz]; exact q0
  unfold eqG at e
  cases hk : okP 60 a && okP 60 b with
  | true =>
    rw [hk] at e
    obtain ⟨k1, k2⟩ := Bool.and_eq_true_iff.mp hk
    have z' : eqP 61 a b = z := Option.some.inj e
    obtain ⟨l1, d1⟩ := okP_lay 60 a k1
    obtain ⟨l2, d2⟩ := okP_lay 60 b k2
    exact fin _ _ (okP_dp 60 a x k1 ra) (okP_dp 60 b y k2 rb) (shaped_of l1 d1 (by decide)) (shaped_of l2 d2 (by decide)) (by rw [← z']; exact eqP_eqv 60 61 60 a b k1 k2 (by decide))
  | false =>
    rw [hk] at e
    have e' : eqR (reif h 60 a) (reif h 60 b) = some z := e
    unfold eqR at e'
    cases q1 : reif h 60 a with
    | none => rw [q1] at e'; cases e'
    | some d =>
      cases q2 : reif h 60 b with
      | none => rw [q1, q2] at e'; cases e'
      | some d' =>
        rw [q1, q2] at e'
        obtain ⟨a1, a2, a3⟩ := reif_dp r 60 a d x q1 ra
        obtain ⟨b1, b2, b3⟩ := reif_dp r 60 b d' y q2 rb
        exact fin d d' a1 b1 (shaped_of a2 a3 (by decide)) (shaped_of b2 b3 (by decide)) (Option.some.inj e').symm
theorem isNon_some {b a : PV} {z : Bool} (h : isNon b a = some z) : b = .non ∧ z = eqNon a := by
  cases b <;> cases h
  exact ⟨rfl, rfl⟩
theorem eqNon_dec {K : Fr} {H : Hp} {μ : List Addr} {a : PV} {x : V} (r : Rep K H μ a x) : eqNon a = decide (x = .non) := by
  cases r <;> rfl
theorem o_is : OpR X (compareOp .Is) (RO2 g X.K W fun a b h => okB (isNon b a) h) := by
  rintro pins s σ H x y v u Q I rx ry ⟨μ, h, a, b, σ0, r, ra, rb, p⟩
  obtain ⟨z, e, q⟩ := okB_PR r p
  obtain ⟨rfl, rfl⟩ := isNon_some e
  cases rb
  exact op_isN pins s σ H x .non v u Q I rx ry ⟨rfl, by rw [← eqNon_dec ra]; exact q⟩
theorem o_isnot : OpR X (compareOp .IsNot) (RO2 g X.K W fun a b h => okB (notO (isNon b a)) h) := by
  rintro pins s σ H x y v u Q I rx ry ⟨μ, h, a, b, σ0, r, ra, rb, p⟩
  obtain ⟨z, e, q⟩ := okB_PR r p
  obtain ⟨c, e2, rfl⟩ := notO_some e
  obtain ⟨rfl, rfl⟩ := isNon_some e2
  cases rb
  exact op_notN pins s σ H x .non v u Q I rx ry ⟨rfl, by rw [← eqNon_dec ra]; exact q⟩
theorem ordP_some {f : Int → Int → Bool} {a b : PV} {z : Bool} (h : ordP f a b = some z) : ∃ i j, a = .int i ∧ b = .int j ∧ z = f i j := by
  cases a with
  | int i =>
    cases b with
    | int j => exact ⟨i, j, rfl, rfl, (Option.some.inj h).symm⟩
    | _ => cases h
  | _ => cases h
end
end MP
namespace MP
open PySem L2 PySem.Spec PyProof.Rows
variable [Wd]
section
variable {X : Cx} {g : GC} {W : WX}
theorem o_ord {op : CmpOp} {f : Int → Int → Bool} (ho : OpR X (compareOp op) (rI0 fun i j => .bl (f i j))) : OpR X (compareOp op) (RO2 g X.K W fun a b h => okB (ordP f a b) h) := by
  rintro pins s σ H x y v u Q I rx ry ⟨μ, h, a, b, σ0, r, ra, rb, p⟩
  obtain ⟨z, e, q⟩ := okB_PR r p
  obtain ⟨i, j, rfl, rfl, rfl⟩ := ordP_some e
  cases ra
  cases rb
  exact ho pins s σ H _ _ v u Q I rx ry ⟨i, j, rfl, rfl, q⟩
theorem o_lt : OpR X (compareOp .Lt) (RO2 g X.K W fun a b h => okB (ordP ltI a b) h) := o_ord (by rw [show ltI = fun i j => decide (i < j) from funext fun i => funext fun j => ltI_eq i j]; exact op_lt)
theorem o_le : OpR X (compareOp .LtE) (RO2 g X.K W fun a b h => okB (ordP leI a b) h) := o_ord (by rw [show leI = fun i j => decide (i ≤ j) from funext fun i => funext fun j => leI_eq i j]; exact op_le)
theorem o_gt : OpR X (compareOp .Gt) (RO2 g X.K W fun a b h => okB (ordP (fun i j => ltI j i) a b) h) := o_ord (by simp only [ltI_eq]; exact op_gt)
theorem o_ge : OpR X (compareOp .GtE) (RO2 g X.K W fun a b h => okB (ordP (fun i j => leI j i) a b) h) := o_ord (by simp only [leI_eq]; exact op_ge)
theorem elemN_eq (c : Nat) (l : List Nat) : elemN c l = decide (c ∈ l) := by
  induction l with
  | nil => rfl
  | cons d r ih =>
    have e : elemN c (d :: r) = Bool.rec (elemN c r) true (Nat.beq c d) := rfl
    have e2 : Nat.beq c d = decide (c = d) := by rw [Bool.eq_iff_iff, decide_eq_true_iff, Nat.beq_eq]
    rw [e, ih, e2]
    by_cases h : c = d
    · simp [h]
    · simp [h]
theorem hasTxt_some {y x : List Nat} {z : Bool} (h : hasTxt y x = some z) : ∃ c, x = [c] ∧ z = elemN c y := by
  cases x with
  | nil => cases h
  | cons c r =>
    cases r with
    | nil => cases h; exact ⟨c, rfl, rfl⟩
    | cons d r => cases h
theorem in_txt {i j : Str} {z : Bool} (h : hasTxt j.cps.toList i.cps.toList = some z) : (!(Builtin.Str.occurrences j i 0 j.length 1).isEmpty) = z := by
  obtain ⟨c, e, rfl⟩ := hasTxt_some h
  obtain ⟨⟨i⟩⟩ := i
  obtain ⟨⟨j⟩⟩ := j
  simp only at e
  subst e
  rw [elemN_eq]
  exact StrLaws.found_one ⟨⟨j⟩⟩ c
theorem inSeq_some {a : PV} {ys : List PV} {z : Bool} (h : inSeq a ys = some z) : okP 60 a = true ∧ okAll (okP 59) ys = true ∧ z = anyEq a ys := by
  unfold inSeq at h
  cases e : okP 60 a && okAll (okP 59) ys with
  | false => rw [e] at h; cases h
  | true =>
    rw [e] at h
    obtain ⟨h1, h2⟩ := Bool.and_eq_true_iff.mp e
    exact ⟨h1, h2, (Option.some.inj h).symm⟩
theorem anyEq_eq {a : PV} (ha : okP 60 a = true) : ∀ {ys : List PV}, okAll (okP 59) ys = true → anyEq a ys = (toDs ys).any fun z => PyData.eqv z a.toD
  | [], _ => by unfold toDs; rfl
  | y :: ys, h => by
    have h' : (okP 59 y && okAll (okP 59) ys) = true := h
    obtain ⟨h1, h2⟩ := Bool.and_eq_true_iff.mp h'
    unfold toDs
    rw [List.any_cons, ← anyEq_eq ha h2, ← eqP_eqv 59 61 60 y a h1 ha (by decide)]
    show (match eqP 61 y a with | true => true | false => anyEq a ys) = _
    cases eqP 61 y a <;> rfl
theorem dpAll_of {K : Fr} {H : Hp} {μ : List Addr} {n : Nat} : ∀ {xs : List PV} {vs : List V}, okAll (okP n) xs = true → Reps K H μ xs vs → DpAll K H vs (toDs xs)
  | [], _, _, r => by cases r; unfold toDs; exact .nil
  | x :: xs, _, h, r => by
    have h' : (okP n x && okAll (okP n) xs) = true := h
    obtain ⟨h1, h2⟩ := Bool.and_eq_true_iff.mp h'
    cases r with
    | cons r t => unfold toDs; exact .cons (okP_dp n x _ h1 r) (dpAll_of h2 t)
theorem layAll_of {n : Nat} : ∀ {xs : List PV}, okAll (okP n) xs = true → PyData.canLayAll0 (toDs xs) = true ∧ PyData.depthAll (toDs xs) ≤ n
  | [], _ => ⟨by simp [toDs, PyData.canLayAll0], by simp [toDs, PyData.depthAll]⟩
  | x :: xs, h => by
    have h' : (okP n x && okAll (okP n) xs) = true := h
    obtain ⟨h1, h2⟩ := Bool.and_eq_true_iff.mp h'
    obtain ⟨a, b⟩ := okP_lay n x h1
    obtain ⟨c, d⟩ := layAll_of h2
    unfold toDs
    exact ⟨by simp only [PyData.canLayAll0, a, c, Bool.and_self], by simp only [PyData.depthAll]; omega⟩
theorem in_tupD (hu : X.A.units + 65 < cLine) {pins : List (Addr × Obj)} {s : Shared} {σ : L2.St} {H : Hp} {x y : V} {v u : Value} {Q : VK} (I : L2.Inv X pins σ H s) (rx : RelV x v) (ry : RelV y u) {d : PyData} {ds : List PyData} (hd : Dp X.K H x d)
    (he : Dp X.K H y (.tuple ds)) (sd : SeqAt.shaped d = true) (se : SeqAt.shaped (.tuple ds) = true) (q : Q (.bl (ds.any fun z => PyData.eqv z d)) H) : wpAny (model X.prog X.w) X.A (compareOp .In v u) (EP X pins σ Q) X.xe s := by
  obtain ⟨as, r1⟩ := Dp.reads I d x v hd rx
  obtain ⟨bs, r2⟩ := Dp.reads I (.tuple ds) y u he ry
  exact SeqAt.in_tuple_reads r2 r1 (SeqAt.canLay_of_shaped se) (SeqAt.canLay_of_shaped sd) (room_in_shaped sd hu) ⟨.bl _, H, I, rfl, q⟩
theorem notin_tupD (hu : X.A.units + 65 < cLine) {pins : List (Addr × Obj)} {s : Shared} {σ : L2.St} {H : Hp} {x y : V} {v u : Value} {Q : VK} (I : L2.Inv X pins σ H s) (rx : RelV x v) (ry : RelV y u) {d : PyData} {ds : List PyData} (hd : Dp X.K H x d)
    (he : Dp X.K H y (.tuple ds)) (sd : SeqAt.shaped d = true) (se : SeqAt.shaped (.tuple ds) = true) (q : Q (.bl (!ds.any fun z => PyData.eqv z d)) H) : wpAny (model X.prog X.w) X.A (compareOp .NotIn v u) (EP X pins σ Q) X.xe s := by
  obtain ⟨as, r1⟩ := Dp.reads I d x v hd rx
  obtain ⟨bs, r2⟩ := Dp.reads I (.tuple ds) y u he ry
  exact SeqAt.notIn_tuple_reads r2 r1 (SeqAt.canLay_of_shaped se) (SeqAt.canLay_of_shaped sd) (room_in_shaped sd hu) ⟨.bl _, H, I, rfl, q⟩
/-- what a membership comes to, by the kind of what is looked through -/
inductive InC (K : Fr) (H : Hp) (μ : List Addr) (h : Hv) (a b : PV) (x y : V) (z : Bool) : Prop where
  | txt (i j : Str) (ex : x = .str i) (ey : y = .str j) (e : hasTxt j.cps.toList i.cps.toList = some z)
  | lst (d : PyData) (ds : List PyData) (h1 : Dp K H x d) (h2 : Dp K H y (.list ds)) (s1 : SeqAt.shaped d = true) (s2 : SeqAt.shaped (.list ds) = true) (e : z = ds.any fun w => PyData.eqv w d)
  | tup (d : PyData) (ds : List PyData) (h1 : Dp K H x d) (h2 : Dp K H y (.tuple ds)) (s1 : SeqAt.shaped d = true) (s2 : SeqAt.shaped (.tuple ds) = true) (e : z = ds.any fun w => PyData.eqv w d)
  | dct (l : Nat) (ad : Addr) (kvs : List (PV × PV)) (eb : b = .loc l) (ey : y = .ref ad) (e1 : h[l]? = some (.dct kvs)) (e2 : μ[l]? = some ad) (k : keyT a = true) (e : z = (kget a kvs).isSome)
theorem inC_of {K : Fr} {H : Hp} {μ : List Addr} {h : Hv} {a b : PV} {x y : V} {z : Bool} (r : Rel K μ h H) (ra : Rep K H μ a x) (rb : Rep K H μ b y) (e : inop a b h = some z) : InC K H μ h a b x y z := by
  have seq : ∀ ys : List PV, inSeq a ys = some z → okP 60 a = true ∧ okAll (okP 59) ys = true ∧ z = ((toDs ys).any fun w => PyData.eqv w a.toD) := fun ys q => by
    obtain ⟨h1, h2, h3⟩ := inSeq_some q
    exact ⟨h1, h2, by rw [h3]; exact anyEq_eq h1 h2⟩
  cases b with
  | str j =>
    cases rb
    cases a with
    | str i => cases ra; exact .txt i j rfl rfl e
    | _ => cases e
  | tup ys =>
    obtain ⟨h1, h2, h3⟩ := seq ys e
    obtain ⟨l1, d1⟩ := okP_lay 60 a h1
    obtain ⟨l2, d2⟩ := layAll_of h2
    cases rb with
    | tup t q => exact .tup a.toD (toDs ys) (okP_dp 60 a x h1 ra) (.tup t (dpAll_of h2 q)) (shaped_of l1 d1 (by decide)) (shaped_of (n := 60) (by simp only [PyData.canLay0]; exact l2) (by simp only [PyData.depth]; omega) (by decide)) h3
  | loc l =>
    have e' : (match nth h l with
      | some (.lst ys) => inSeq a ys
      | some (.dct kvs) => (match keyT a with | true => some (kget a kvs).isSome | false => none)
      | none => none) = some z := e
    rw [nth_eq] at e'
    cases q : h[l]? with
    | none => rw [q] at e'; cases e'
    | some o =>
      rw [q] at e'
      cases o with
      | lst ys =>
        obtain ⟨h1, h2, h3⟩ := seq ys e'
        obtain ⟨l1, d1⟩ := okP_lay 60 a h1
        obtain ⟨l2, d2⟩ := layAll_of h2
        obtain ⟨ad, vs, hm, hH, t⟩ := r.lst q
        cases rb with
        | loc hm' =>
          rw [hm] at hm'; cases hm'
          exact .lst a.toD (toDs ys) (okP_dp 60 a x h1 ra) (.lst (SqL.of hH) (dpAll_of h2 t)) (shaped_of l1 d1 (by decide)) (shaped_of (n := 60) (by simp only [PyData.canLay0]; exact l2) (by simp only [PyData.depth]; omega) (by decide)) h3
      | dct kvs =>
        cases hk : keyT a with
        | false => simp only [hk] at e'; cases e'
        | true =>
          simp only [hk] at e'
          cases rb with
          | loc hm => exact .dct l _ kvs rfl rfl q hm hk (Option.some.inj e').symm
  | non => cases e
  | bl _ => cases e
  | int _ => cases e
theorem str_app (x y : Str) : (⟨(x.cps.toList ++ y.cps.toList).toArray⟩ : Str) = x ++ y := by
  show _ = (⟨x.cps ++ y.cps⟩ : Str)
  congr 1
  apply Array.ext'
  simp
theorem o_add : OpR X (binaryOp .Add) (RO2 g X.K W addP) := by
  rintro pins s σ H x y v u Q I rx ry ⟨μ, h, a, b, σ0, r, ra, rb, p⟩
  cases a with
  | int i =>
    cases b with
    | int j =>
      have p' : PR g X.K (RepR X.K) Q W σ0 μ H (addI i j fun k => .ok (.int k) h) := p
      rw [addI_eq] at p'
      cases ra; cases rb
      exact op_add pins s σ H _ _ v u Q I rx ry ⟨i, j, rfl, rfl, PR.ok p' r (.int _)⟩
    | _ => exact p.elim
  | str i =>
    cases b with
    | str j =>
      obtain ⟨e, p'⟩ := lenLe_PR (show PR g X.K (RepR X.K) Q W σ0 μ H (lenLe (Nat.ble (i.cps.toList.length + j.cps.toList.length) big) (.ok (.str ⟨(i.cps.toList ++ j.cps.toList).toArray⟩) h)) from p)
      cases ra; cases rb
      refine op_add_str pins s σ H _ _ v u Q I rx ry ⟨i, j, rfl, rfl, ?_, ?_⟩
      · have := big_le e
        rw [Array.length_toList, Array.length_toList] at this
        exact this
      · rw [← str_app]; exact PR.ok p' r (.str _)
    | _ => exact p.elim
  | tup xs =>
    cases b with
    | tup ys =>
      obtain ⟨e, p'⟩ := lenLe_PR (show PR g X.K (RepR X.K) Q W σ0 μ H (lenLe (Nat.ble (xs.length + ys.length) big) (.ok (.tup (xs ++ ys)) h)) from p)
      cases ra with
      | tup t1 q1 =>
        cases rb with
        | tup t2 q2 =>
          rename_i a1 vs a2 ws
          have z := big_le e
          rw [q1.length, q2.length] at z
          refine op_catA pins s σ H _ _ v u Q I rx ry ⟨a1, a2, vs, ws, rfl, rfl, t1, t2, z, fun h0 => ?_, fun _ h0 => ?_, fun _ _ a3 n => ?_⟩
          · subst h0
            cases q1
            exact PR.ok p' r (.tup t2 q2)
          · subst h0
            cases q2
            rw [List.append_nil] at p'
            exact PR.ok p' r (.tup t1 q1)
          · exact p' μ _ _ (Ext.newTup n) (r.newTup n) (.tup (SqT.of upd_same) ((q1.ext r (Ext.newTup n)).append (q2.ext r (Ext.newTup n))))
    | _ => exact p.elim
  | loc l =>
    cases b with
    | loc m =>
      have p' : PR g X.K (RepR X.K) Q W σ0 μ H (addL (nth h l) (nth h m) h) := p
      rw [nth_eq, nth_eq] at p'
      cases e1 : h[l]? with
      | none => rw [e1] at p'; exact p'.elim
      | some o1 =>
        cases o1 with
        | dct kvs => rw [e1] at p'; exact p'.elim
        | lst xs =>
          cases e2 : h[m]? with
          | none => rw [e1, e2] at p'; exact p'.elim
          | some o2 =>
            cases o2 with
            | dct kvs => rw [e1, e2] at p'; exact p'.elim
            | lst ys =>
              rw [e1, e2] at p'
              obtain ⟨e, p2⟩ := lenLe_PR (show PR g X.K (RepR X.K) Q W σ0 μ H (lenLe (Nat.ble (xs.length + ys.length) big) (newL h (xs ++ ys))) from p')
              obtain ⟨a1, vs, m1, H1, t1⟩ := r.lst e1
              obtain ⟨a2, ws, m2, H2, t2⟩ := r.lst e2
              cases ra with
              | loc k1 =>
                cases rb with
                | loc k2 =>
                  rw [m1] at k1; cases k1
                  rw [m2] at k2; cases k2
                  have z := big_le e
                  rw [t1.length, t2.length] at z
                  refine op_cat pins s σ H _ _ v u Q I rx ry ⟨a1, a2, vs, ws, rfl, rfl, H1, H2, z, fun a3 n => ?_⟩
                  have x1 : Ext μ H (μ ++ [a3]) (upd H a3 (.lst (vs ++ ws))) := Ext.newOb n
                  refine p2 (μ ++ [a3]) _ _ x1 (r.newOb n ⟨_, upd_same, (t1.ext r x1).append (t2.ext r x1)⟩) (.loc ?_)
                  rw [List.getElem?_append_right (by rw [r.len]; exact Nat.le_refl _), r.len]; simp
    | _ => exact p.elim
  | non => exact p.elim
  | bl _ => exact p.elim
theorem intsP_PR {K : Fr} {f : Int → Int → R PV} {a b : PV} {Q : VK} {σ : L2.St} {μ : List Addr} {H : Hp} (p : PR g K (RepR K) Q W σ μ H (intsP f a b)) : ∃ i j, a = .int i ∧ b = .int j ∧ PR g K (RepR K) Q W σ μ H (f i j) := by
  cases a with
  | int i =>
    cases b with
    | int j => exact ⟨i, j, rfl, rfl, p⟩
    | _ => exact p.elim
  | _ => exact p.elim
theorem o_sub : OpR X (binaryOp .Sub) (RO2 g X.K W fun a b h => intsP (subF h) a b) := by
  rintro pins s σ H x y v u Q I rx ry ⟨μ, h, a, b, σ0, r, ra, rb, p⟩
  obtain ⟨i, j, rfl, rfl, p'⟩ := intsP_PR p
  unfold subF at p'
  rw [addI_eq] at p'
  cases ra; cases rb
  exact op_sub pins s σ H _ _ v u Q I rx ry ⟨i, j, rfl, rfl, PR.ok p' r (.int _)⟩
theorem o_mul : OpR X (binaryOp .Mult) (RO2 g X.K W fun a b h => intsP (mulF h) a b) := by
  rintro pins s σ H x y v u Q I rx ry ⟨μ, h, a, b, σ0, r, ra, rb, p⟩
  obtain ⟨i, j, rfl, rfl, p'⟩ := intsP_PR p
  obtain ⟨e, p2⟩ := lenLe_PR p'
  rw [mulI_eq] at p2
  cases ra; cases rb
  obtain ⟨e1, e2⟩ := Bool.and_eq_true_iff.mp e
  exact op_mulW pins s σ H _ _ v u Q I rx ry ⟨i, j, rfl, rfl, wide_mul (a := 400000) (b := 400000) (lt_p2 e1) (lt_p2 e2) (by decide) (by decide) (by decide), PR.ok p2 r (.int _)⟩
theorem o_fdiv : OpR X (binaryOp .FloorDiv) (RO2 g X.K W fun a b h => intsP (divF h) a b) := by
  rintro pins s σ H x y v u Q I rx ry ⟨μ, h, a, b, σ0, r, ra, rb, p⟩
  obtain ⟨i, j, rfl, rfl, p'⟩ := intsP_PR p
  obtain ⟨e, p2⟩ := lenLe_PR p'
  obtain ⟨e1, e2⟩ := Bool.and_eq_true_iff.mp e
  rw [ltI_eq, decide_eq_true_iff] at e1
  rw [divI_eq] at p2
  cases ra; cases rb
  exact op_fdivW pins s σ H _ _ v u Q I rx ry ⟨i, j, rfl, rfl, wide_div (b := 9000) e1 (lt_p2 e2) (by decide) (by decide), PR.ok p2 r (.int _)⟩
theorem o_mod : OpR X (binaryOp .Mod) (RO2 g X.K W fun a b h => intsP (modF h) a b) := by
  rintro pins s σ H x y v u Q I rx ry ⟨μ, h, a, b, σ0, r, ra, rb, p⟩
  obtain ⟨i, j, rfl, rfl, p'⟩ := intsP_PR p
  obtain ⟨e, p2⟩ := lenLe_PR p'
  rw [ltI_eq, decide_eq_true_iff] at e
  rw [modI_eq] at p2
  cases ra; cases rb
  exact op_mod pins s σ H _ _ v u Q I rx ry ⟨i, j, rfl, rfl, e, PR.ok p2 r (.int _)⟩
theorem o_pow : OpR X (binaryOp .Pow) (RO2 g X.K W fun a b h => intsP (powF h) a b) := by
  rintro pins s σ H x y v u Q I rx ry ⟨μ, h, a, b, σ0, r, ra, rb, p⟩
  obtain ⟨i, j, rfl, rfl, p'⟩ := intsP_PR p
  obtain ⟨e, p2⟩ := lenLe_PR p'
  obtain ⟨e0, e3⟩ := Bool.and_eq_true_iff.mp e
  obtain ⟨e1, e2⟩ := Bool.and_eq_true_iff.mp e0
  rw [leI_eq, decide_eq_true_iff] at e1 e2
  rw [forceI_eq] at p2
  cases ra; cases rb
  exact op_pow pins s σ H _ _ v u Q I rx ry ⟨i, j, rfl, rfl, ⟨e1, e2, (by have := Nat.le_of_ble_eq_true e3; omega)⟩, PR.ok p2 r (.int _)⟩
theorem o_bin (op : Bop) : OpR X (binaryOp (match op with | .add => .Add | .sub => .Sub | .mul => .Mult | .fdiv => .FloorDiv | .mod => .Mod | .pow => .Pow)) (RO2 g X.K W (binop op)) := by
  cases op with
  | add => exact o_add
  | sub => exact o_sub
  | mul => exact o_mul
  | fdiv => exact o_fdiv
  | mod => exact o_mod
  | pow => exact o_pow
end
end MP
namespace MP
open PySem L2 PySem.Spec PyProof.Rows
variable [Wd]
section
variable {X : Cx} {g : GC} {W : WX}
def RC (g : GC) (K : Fr) (W : WX) (F : List PV → Hv → R PV) : List V → Hp → VK → Prop := fun xs H Q => ∃ μ h vs σ, Rel K μ h H ∧ Reps K H μ vs xs ∧ PR g K (RepR K) Q W σ μ H (F vs h)
theorem one_PR {K : Fr} {f : PV → R PV} {vs : List PV} {Q : VK} {σ : L2.St} {μ : List Addr} {H : Hp} (p : PR g K (RepR K) Q W σ μ H (one vs f)) : ∃ v, vs = [v] ∧ PR g K (RepR K) Q W σ μ H (f v) := by
  cases vs with
  | nil => exact p.elim
  | cons v r =>
    cases r with
    | nil => exact ⟨v, rfl, p⟩
    | cons _ _ => exact p.elim
theorem two_PR {K : Fr} {f : PV → PV → R PV} {vs : List PV} {Q : VK} {σ : L2.St} {μ : List Addr} {H : Hp} (p : PR g K (RepR K) Q W σ μ H (two vs f)) : ∃ a b, vs = [a, b] ∧ PR g K (RepR K) Q W σ μ H (f a b) := by
  cases vs with
  | nil => exact p.elim
  | cons v r =>
    obtain ⟨b, rfl, q⟩ := one_PR (show PR g K (RepR K) Q W σ μ H (one r (f v)) from p)
    exact ⟨v, b, rfl, q⟩
theorem reps1 {K : Fr} {H : Hp} {μ : List Addr} {v : PV} {xs : List V} (r : Reps K H μ [v] xs) : ∃ x, xs = [x] ∧ Rep K H μ v x := by
  cases r with
  | cons r t => cases t; exact ⟨_, rfl, r⟩
theorem reps2 {K : Fr} {H : Hp} {μ : List Addr} {a b : PV} {xs : List V} (r : Reps K H μ [a, b] xs) : ∃ x y, xs = [x, y] ∧ Rep K H μ a x ∧ Rep K H μ b y := by
  cases r with
  | cons r t =>
    obtain ⟨y, rfl, q⟩ := reps1 t
    exact ⟨_, y, rfl, r, q⟩
theorem lenN_PR {K : Fr} {Q : VK} {σ : L2.St} {μ : List Addr} {H : Hp} {n : Nat} {h : Hv} (r : Rel K μ h H) (p : PR g K (RepR K) Q W σ μ H (lenN n h)) : Q (.int n) H := by
  unfold lenN at p
  rw [forceN_eq] at p
  exact PR.ok (v := PV.int (Int.ofNat n)) p r (.int _)
/-- a list at a place of ours -/
theorem loc_lst {K : Fr} {μ : List Addr} {H : Hp} {h : Hv} {l : Nat} {x : V} {xs : List PV} (r : Rel K μ h H) (ra : Rep K H μ (.loc l) x) (e : h[l]? = some (.lst xs)) : ∃ a vs, x = .ref a ∧ μ[l]? = some a ∧ H a = some (.lst vs) ∧ Reps K H μ xs vs := by
  obtain ⟨a, vs, m, hH, t⟩ := r.lst e
  cases ra with
  | loc m' => rw [m] at m'; cases m'; exact ⟨a, vs, rfl, m, hH, t⟩
theorem newL_PR {K : Fr} {Q : VK} {σ : L2.St} {μ : List Addr} {H : Hp} {h : Hv} {xs : List PV} {vs : List V} (r : Rel K μ h H) (t : Reps K H μ xs vs) (p : PR g K (RepR K) Q W σ μ H (newL h xs)) {a : Addr} (n : H a = none) : Q (.ref a) (upd H a (.lst vs)) := by
  have x1 : Ext μ H (μ ++ [a]) (upd H a (.lst vs)) := Ext.newOb n
  refine p (μ ++ [a]) _ _ x1 (r.newOb n ⟨_, upd_same, t.ext r x1⟩) (.loc ?_)
  rw [List.getElem?_append_right (by rw [r.len]; exact Nat.le_refl _), r.len]; simp
theorem newT_PR {K : Fr} {Q : VK} {σ : L2.St} {μ : List Addr} {H : Hp} {h : Hv} {xs : List PV} {vs : List V} (r : Rel K μ h H) (t : Reps K H μ xs vs) (p : PR g K (RepR K) Q W σ μ H (.ok (.tup xs) h)) {a : Addr} (n : H a = none) : Q (.ref a) (upd H a (.tup vs)) :=
  p μ _ _ (Ext.newTup n) (r.newTup n) (.tup (SqT.of upd_same) (t.ext r (Ext.newTup n)))
/-- what a match on the object at a place says -/
theorem atLst {K : Fr} {Q : VK} {σ : L2.St} {μ : List Addr} {H : Hp} {h : Hv} {l : Nat} {f : List PV → R PV} (p : PR g K (RepR K) Q W σ μ H (match nth h l with | some (.lst xs) => f xs | _ => .bad)) : ∃ xs, h[l]? = some (.lst xs) ∧ PR g K (RepR K) Q W σ μ H (f xs) := by
  rw [nth_eq] at p
  cases e : h[l]? with
  | none => rw [e] at p; exact p.elim
  | some o =>
    cases o with
    | dct kvs => rw [e] at p; exact p.elim
    | lst xs => rw [e] at p; exact ⟨xs, rfl, p⟩
theorem c_len : CallR X (.builtin "len") (RC g X.K W fun vs h => one vs (lenF h)) := by
  rintro pins s σ H xs us Q I r ⟨μ, h, vs, σ0, R, rv, p⟩
  obtain ⟨v, rfl, p⟩ := one_PR p
  obtain ⟨x, rfl, rx⟩ := reps1 rv
  cases v with
  | tup zs =>
    cases rx with
    | tup t q => exact call_len_seq pins s σ H _ us Q I r ⟨_, _, rfl, .inr t, by rw [← q.length]; exact lenN_PR R p⟩
  | str z =>
    cases rx
    obtain ⟨e, p2⟩ := lenLe_PR (show PR g X.K (RepR X.K) Q W σ0 μ H (lenLe (Nat.ble z.cps.toList.length big) (lenN z.cps.toList.length h)) from p)
    have e2 : z.length = z.cps.toList.length := (Array.length_toList).symm
    exact call_len_str pins s σ H _ us Q I r ⟨z, rfl, by rw [e2]; exact big_le e, by rw [e2]; exact lenN_PR R p2⟩
  | loc l =>
    obtain ⟨ys, e, p2⟩ := atLst (f := fun xs => lenN xs.length h) p
    obtain ⟨a, ws, rfl, m, hH, t⟩ := loc_lst R rx e
    exact call_len_seq pins s σ H _ us Q I r ⟨a, ws, rfl, .inl (SqL.of hH), by rw [← t.length]; exact lenN_PR R p2⟩
  | non => exact p.elim
  | bl _ => exact p.elim
  | int _ => exact p.elim
theorem c_tuple : CallR X (.type "tuple") (RC g X.K W fun vs h => one vs (tupleF h)) := by
  rintro pins s σ H xs us Q I r ⟨μ, h, vs, σ0, R, rv, p⟩
  obtain ⟨v, rfl, p⟩ := one_PR p
  obtain ⟨x, rfl, rx⟩ := reps1 rv
  cases v with
  | tup zs =>
    cases rx with
    | tup t q => exact call_tuple_of pins s σ H _ us Q I r ⟨_, _, rfl, .inr ⟨t, PR.ok (v := PV.tup zs) p R (.tup t q)⟩⟩
  | loc l =>
    obtain ⟨ys, e, p2⟩ := atLst (f := fun xs => .ok (.tup xs) h) p
    obtain ⟨a, ws, rfl, m, hH, t⟩ := loc_lst R rx e
    exact call_tuple_of pins s σ H _ us Q I r ⟨a, ws, rfl, .inl ⟨SqL.of hH, fun b n => newT_PR R t p2 n⟩⟩
  | non => exact p.elim
  | bl _ => exact p.elim
  | int _ => exact p.elim
  | str _ => exact p.elim
theorem c_list : CallR X (.type "list") (RC g X.K W fun vs h => one vs (listF h)) := by
  rintro pins s σ H xs us Q I r ⟨μ, h, vs, σ0, R, rv, p⟩
  obtain ⟨v, rfl, p⟩ := one_PR p
  obtain ⟨x, rfl, rx⟩ := reps1 rv
  cases v with
  | tup zs =>
    cases rx with
    | tup t q => exact call_list_of pins s σ H _ us Q I r ⟨_, _, rfl, .inr t, fun b n => newL_PR R q p n⟩
  | loc l =>
    obtain ⟨ys, e, p2⟩ := atLst (f := fun xs => newL h xs) p
    obtain ⟨a, ws, rfl, m, hH, t⟩ := loc_lst R rx e
    exact call_list_of pins s σ H _ us Q I r ⟨a, ws, rfl, .inl (SqL.of hH), fun b n => newL_PR R t p2 n⟩
  | non => exact p.elim
  | bl _ => exact p.elim
  | int _ => exact p.elim
  | str _ => exact p.elim
theorem c_str : CallR X (.type "str") (RC g X.K W fun vs h => one vs (strF h)) := by
  rintro pins s σ H xs us Q I r ⟨μ, h, vs, σ0, R, rv, p⟩
  obtain ⟨v, rfl, p⟩ := one_PR p
  obtain ⟨x, rfl, rx⟩ := reps1 rv
  cases v with
  | int i =>
    cases rx
    obtain ⟨e, p2⟩ := lenLe_PR (show PR g X.K (RepR X.K) Q W σ0 μ H (lenLe (Nat.ble (Nat.succ i.natAbs) (p2 1920)) (.ok (.str (strOfInt i)) h)) from p)
    exact call_str_int pins s σ H _ us Q I r ⟨i, rfl, PySem.Flt.log2_lt_of (by decide) (lt_p2 e), PR.ok (v := PV.str (strOfInt i)) p2 R (.str _)⟩
  | _ => exact p.elim
theorem c_int : CallR X (.type "int") (RC g X.K W fun vs h => one vs (intF h)) := by
  rintro pins s σ H xs us Q I r ⟨μ, h, vs, σ0, R, rv, p⟩
  obtain ⟨v, rfl, p⟩ := one_PR p
  obtain ⟨x, rfl, rx⟩ := reps1 rv
  cases v with
  | int i => cases rx; exact call_int1 pins s σ H _ us Q I r (.inl ⟨i, rfl, PR.ok (v := PV.int i) p R (.int _)⟩)
  | _ => exact p.elim
theorem c_min (hc : X.calm = true) : CallR X (.builtin "min") (RC g X.K W fun vs h => two vs (intsP fun i j => match ltI j i with | true => .ok (.int j) h | false => .ok (.int i) h)) := by
  rintro pins s σ H xs us Q I r ⟨μ, h, vs, σ0, R, rv, p⟩
  obtain ⟨a, b, rfl, p⟩ := two_PR p
  obtain ⟨x, y, rfl, ra, rb⟩ := reps2 rv
  obtain ⟨i, j, rfl, rfl, p3⟩ := intsP_PR p
  clear p
  cases ra; cases rb
  refine call_min2 hc pins s σ H _ us Q I r ⟨i, j, rfl, ?_⟩
  simp only [ltI_eq] at p3
  by_cases e : j < i
  · rw [decide_eq_true e] at p3; rw [if_pos e]; exact PR.ok (v := PV.int j) p3 R (.int _)
  · rw [decide_eq_false e] at p3; rw [if_neg e]; exact PR.ok (v := PV.int i) p3 R (.int _)
theorem c_max (hc : X.calm = true) : CallR X (.builtin "max") (RC g X.K W fun vs h => two vs (intsP fun i j => match ltI i j with | true => .ok (.int j) h | false => .ok (.int i) h)) := by
  rintro pins s σ H xs us Q I r ⟨μ, h, vs, σ0, R, rv, p⟩
  obtain ⟨a, b, rfl, p⟩ := two_PR p
  obtain ⟨x, y, rfl, ra, rb⟩ := reps2 rv
  obtain ⟨i, j, rfl, rfl, p3⟩ := intsP_PR p
  clear p
  cases ra; cases rb
  refine call_max2 hc pins s σ H _ us Q I r ⟨i, j, rfl, ?_⟩
  simp only [ltI_eq] at p3
  by_cases e : i < j
  · rw [decide_eq_true e] at p3; rw [if_pos e]; exact PR.ok (v := PV.int j) p3 R (.int _)
  · rw [decide_eq_false e] at p3; rw [if_neg e]; exact PR.ok (v := PV.int i) p3 R (.int _)
theorem noDict_lay {d : PyData} (h : d.canLay0 = true) : d.hasDict = true → sysModules ∉ ([] : List Addr) := fun _ m => nomatch m
theorem c_repr (hg : X.A.guards = some []) (hu : X.A.units + 64 < cLine) : CallR X (.builtin "repr") (RC g X.K W fun vs h => one vs (reprF h)) := by
  rintro pins s σ H xs us Q I r ⟨μ, h, vs, σ0, R, rv, p⟩
  obtain ⟨v, rfl, p⟩ := one_PR p
  obtain ⟨x, rfl, rx⟩ := reps1 rv
  have p' : PR g X.K (RepR X.K) Q W σ0 μ H (match reif h 60 v with
    | some d => lenLe (d.showable && decide (d.shown.length ≤ big)) (.ok (.str d.shown) h)
    | none => .bad) := p
  cases e : reif h 60 v with
  | none => rw [e] at p'; exact p'.elim
  | some d =>
    rw [e] at p'
    obtain ⟨k, p2⟩ := lenLe_PR p'
    obtain ⟨k1, k2⟩ := Bool.and_eq_true_iff.mp k
    obtain ⟨dp, l1, l2⟩ := reif_dp R 60 v d x e rx
    cases r with
    | cons ru t =>
      cases t
      rename_i u
      obtain ⟨as, rd⟩ := Dp.reads I d x u dp ru
      have q : Q (.str d.shown) H := PR.ok (v := PV.str d.shown) p2 R (.str _)
      have nd : d.hasDict = true → sysModules ∉ as := fun z => by rw [PyData.hasDict_of_canLay d l1] at z; cases z
      have sz : d.shown.length ≤ sizeLine := by
        have := of_decide_eq_true k2
        unfold big at this
        have := sizeLine_eq
        omega
      have ref : ∀ a, u = .ref a → wpAny (model X.prog X.w) X.A (call (.builtin "repr") [u]) (EP X pins σ Q) X.xe s := by
        rintro a rfl
        exact repr_of_reads' rd k1 nd hg (by omega) (fun _ _ z => z) (fun h' t tk hk => ⟨.str d.shown, H, I.kept (t' := tk) hk, ⟨t, rfl⟩, q⟩) sz
      cases dp with
      | non =>
        cases ru
        have e1 : PyData.none.shown = ("None" : Str) := by simp only [PyData.shown]
        rw [e1] at q
        exact PySem.P.repr_of_none ⟨.str _, H, I.tok _, ⟨_, rfl⟩, q⟩
      | bl b =>
        cases ru
        have e1 : (PyData.bool b).shown = (if b then "True" else "False" : Str) := by simp only [PyData.shown]
        rw [e1] at q
        exact PySem.P.repr_of_bool ⟨.str _, H, I.tok _, ⟨_, rfl⟩, q⟩
      | int i =>
        obtain ⟨t, rfl⟩ := ru
        have e1 : (PyData.int i).shown = (toString i : Str) := by simp only [PyData.shown]
        rw [e1] at q
        exact PySem.P.repr_of_int (by simpa [PyData.showable] using k1) ⟨.str _, H, I.tok _, ⟨_, rfl⟩, q⟩
      | str z =>
        obtain ⟨t, rfl⟩ := ru
        have e1 : (PyData.str z).shown = reprText z := by simp only [PyData.shown]
        rw [e1] at q sz
        exact PySem.P.repr_of_str ⟨.str _, H, I.tok _, ⟨_, rfl⟩, q⟩ sz
      | lst _ _ => exact ref _ ru
      | tup _ _ => exact ref _ ru
theorem nthO_eq {α : Type} {xs : List α} {o : Option Nat} {v : α} (h : nthO xs o = some v) : ∃ j, o = some j ∧ xs[j]? = some v := by
  cases o with
  | none => cases h
  | some j => exact ⟨j, rfl, by rw [← nth_eq]; exact h⟩
theorem ble_false {a b : Nat} (h : ¬ a ≤ b) : Nat.ble a b = false := by
  rw [Bool.eq_false_iff]; intro z; exact h (Nat.le_of_ble_eq_true z)
theorem ixN_eq (n : Nat) (i : Int) : ixN n i = L2.ixN n i := by
  unfold L2.ixN
  cases i with
  | ofNat j =>
    show (match Nat.ble (Nat.succ j) n with | true => some j | false => none) = _
    rw [if_pos (by simp)]
    by_cases h : j < n
    · rw [if_pos (by simpa using h), Nat.ble_eq_true_of_le h]; rfl
    · rw [if_neg (by simpa using h), ble_false (show ¬ Nat.succ j ≤ n from h)]
  | negSucc j =>
    show (match Nat.ble (Nat.succ j) n with | true => some (n - Nat.succ j) | false => none) = _
    rw [if_neg (by omega)]
    by_cases h : j + 1 ≤ n
    · rw [if_pos (by omega), Nat.ble_eq_true_of_le h]
      show some (n - Nat.succ j) = some _
      congr 1
      omega
    · rw [if_neg (by omega), ble_false (show ¬ Nat.succ j ≤ n from h)]
theorem atI_eq {α : Type} (xs : List α) (i : Int) : atI xs i = L2.atI xs i := by
  unfold L2.atI
  rw [← ixN_eq]
  cases i with
  | ofNat j =>
    show nth xs j = Option.bind (match Nat.ble (Nat.succ j) xs.length with | true => some j | false => none) fun j => xs[j]?
    rw [nth_eq]
    by_cases h : j < xs.length
    · rw [Nat.ble_eq_true_of_le h]; rfl
    · rw [ble_false (show ¬ Nat.succ j ≤ xs.length from h)]
      simp; omega
  | negSucc j =>
    show nthO xs (ixN xs.length (Int.negSucc j)) = _
    cases ixN xs.length (Int.negSucc j) with
    | none => rfl
    | some k => show nth xs k = _; rw [nth_eq]; rfl
theorem ofO_PR {K : Fr} {Q : VK} {σ : L2.St} {μ : List Addr} {H : Hp} {h : Hv} {o : Option PV} (p : PR g K (RepR K) Q W σ μ H (R.of o h)) : ∃ v, o = some v ∧ PR g K (RepR K) Q W σ μ H (.ok v h) := by
  cases o with
  | none => exact p.elim
  | some v => exact ⟨v, rfl, p⟩
theorem subL_PR {K : Fr} {Q : VK} {σ : L2.St} {μ : List Addr} {H : Hp} {h : Hv} {xs : List PV} {vs : List V} {b : PV} {y : V} (R : Rel K μ h H) (t : Reps K H μ xs vs) (rb : Rep K H μ b y) (p : PR g K (RepR K) Q W σ μ H (subL xs b h)) :
    ∃ i v, y = .int i ∧ L2.atI vs i = some v ∧ Q v H := by
  cases b with
  | int i =>
    obtain ⟨v, e, p2⟩ := ofO_PR (show PR g K (RepR K) Q W σ μ H (MP.R.of (atI xs i) h) from p)
    cases rb
    rw [atI_eq] at e
    unfold L2.atI at e
    rw [t.length] at e
    cases q : L2.ixN vs.length i with
    | none => rw [q] at e; cases e
    | some j =>
      rw [q] at e
      obtain ⟨x, e2, rx⟩ := t.get (i := j) e
      exact ⟨i, x, rfl, by unfold L2.atI; rw [q]; exact e2, PR.ok (v := v) p2 R rx⟩
  | _ => exact p.elim
end
end MP
namespace MP
open PySem L2 PySem.Spec PyProof.Rows
variable [Wd]
theorem fm_same {α β : Type} {f g : α → Option β} : ∀ {l : List α}, (∀ x ∈ l, f x = g x) → l.filterMap f = l.filterMap g
  | [], _ => rfl
  | x :: l, h => by
    rw [List.filterMap_cons, List.filterMap_cons, h x (List.mem_cons_self ..), fm_same fun y m => h y (List.mem_cons_of_mem _ m)]
section
variable {prog : Program} {w : World} {A : Around} {E : Value → Shared → Prop} {s : Shared}
theorem adjust_back (n : Nat) : Builtin.Slice.sliceAdjust none none (-1) (n : Int) = ((n : Int) - 1, -1) := rfl
theorem places_back (n : Nat) : Builtin.Slice.slicePlaces ((n : Int) - 1) (-1) (-1) = n := by
  unfold Builtin.Slice.slicePlaces
  rw [if_neg (by decide)]
  by_cases h : n = 0
  · subst h; rfl
  · rw [if_pos (by omega)]
    have : ((n : Int) - 1 - -1 - 1) / (- -1) = (n : Int) - 1 := by rw [show (- -1 : Int) = 1 by decide, Int.ediv_one]; omega
    rw [this]; omega
theorem applied_back {sl : Addr} {vs : Value} {n : Nat} {Q : Int × Int × Nat → Shared → Prop} (hs : s.heap.IsSliceOf sl .none .none vs) (ps : IsPart vs (some (-1)))
    (k : Q ((n : Int) - 1, -1, n) s) : wpAny (model prog w) A (Builtin.Slice.sliceApplied (.ref sl) (pure (n : Int))) Q E s := by
  obtain ⟨os, hos, _, hds⟩ := id hs
  unfold Builtin.Slice.sliceApplied Builtin.Slice.sliceFields
  refine wpAny_bind (wpAny_bind (wpAny_field hos hds (x := Value.none) rfl ?_))
  refine wpAny_bind (wpAny_field hos hds (x := Value.none) rfl ?_)
  refine wpAny_bind (wpAny_field hos hds (x := vs) rfl (wpAny_pure ?_))
  refine wpAny_bind (HT.slicePart_ ps ?_)
  show wpAny _ _ (if ((-1 : Int) == 0) = true then _ else _) _ _ s
  rw [if_neg (show ¬ ((-1 : Int) == 0) = true by decide)]
  refine wpAny_bind (HT.slicePart_ IsPart.none ?_)
  refine wpAny_bind (HT.slicePart_ IsPart.none ?_)
  refine wpAny_bind (wpAny_pure ?_)
  show wpAny _ _ (match Builtin.Slice.sliceAdjust none none (-1) (n : Int) with | (a, b) => pure (a, (-1 : Int), Builtin.Slice.slicePlaces a b (-1))) _ _ s
  rw [adjust_back]
  show wpAny _ _ (pure ((n : Int) - 1, (-1 : Int), Builtin.Slice.slicePlaces ((n : Int) - 1) (-1) (-1))) _ _ s
  rw [places_back]
  exact wpAny_pure k
theorem pick_back (xs : Array Value) : ((List.range xs.size).filterMap fun (m : Nat) => xs[(((xs.size : Nat) : Int) - 1 + (m : Int) * (-1)).toNat]?).toArray = xs.toList.reverse.toArray := by
  have e : (List.range xs.size).filterMap (fun (m : Nat) => xs[(((xs.size : Nat) : Int) - 1 + (m : Int) * (-1)).toNat]?) = ((List.range xs.size).map fun k => xs.size - 1 - k).filterMap (xs[·]?) := by
    rw [List.filterMap_map]
    refine fm_same fun m hm => ?_
    have hm := List.mem_range.mp hm
    have : (((xs.size : Nat) : Int) - 1 + (m : Int) * (-1)).toNat = xs.size - 1 - m := by omega
    rw [this]; rfl
  rw [e, PySem.W.krv_range, List.filterMap_reverse, PySem.W.krv_all]
theorem getItem_back {t sl : Addr} {items : Array Value} {vs : Value} {Q : Value → Shared → Prop} (ht : IsTup s.heap t items) (hs : s.heap.IsSliceOf sl .none .none vs) (ps : IsPart vs (some (-1)))
    (k : Q (.ref s.heap.objs.size) { s with heap := s.heap.push { cls := .type "tuple", data := .seq items.toList.reverse.toArray } }) (hz : items.size ≤ sizeLine) : wpAny (model prog w) A (getItem (.ref t) (.ref sl)) Q E s := by
  have ok : sizeOk (.seq items.toList.reverse.toArray) := by
    show items.toList.reverse.toArray.size ≤ sizeLine
    simpa using hz
  obtain ⟨os, hos, hcs, _⟩ := id hs
  have ty : s.TypeIs (.ref sl) "slice" := ⟨os, hos, hcs⟩
  unfold getItem
  try with_reducible refine wpAny_holding ?_
  first | refine wpAny_bind (wpAny_pure ?_) | skip
  refine wpAny_bind (wpAny_sequenceKey ht.typeIs (by decide) ?_)
  refine wpAny_bind (wpAny_callSpecial?_slot (name := Str.ofString "__getitem__") ht.typeIs PyProof.Rows.slot_tuple_getitem ?_)
  refine wpAny_call_entry PyProof.Rows.slot_tuple_getitem ht.typeIs entry_tuple_getitem ?_ (args_tuple_getitem _ _)
  show wpAny _ _ (Builtin.Tuple.tupleItemsOf (.ref t) >>= _) _ _ s
  refine wpAny_bind (tupleItemsOf_ ht ?_)
  refine wpAny_bind (wpAny_typeOf ty ?_)
  rw [if_pos (by decide)]
  refine wpAny_bind (applied_back hs ps ?_)
  have no : ¬ ((((items.size : Nat) : Int) - 1 == 0 && (-1 : Int) == 1 && items.size == items.size) = true) := by
    intro q
    rw [Bool.and_eq_true, Bool.and_eq_true] at q
    exact absurd q.1.2 (by decide)
  show wpAny _ _ (if (((items.size : Nat) : Int) - 1 == 0 && (-1 : Int) == 1 && items.size == items.size) = true then _ else _) _ _ s
  rw [if_neg no, pick_back]
  first
    | exact wpAny_bind (m := Builtin.Tuple.tupleExact _) (wpAny_newObj_type (wpAny_pure ⟨_, rfl, wpAny_pure k⟩) ok)
    | exact wpAny_bind (m := Builtin.Tuple.tupleExact _) (wpAny_newObj_type (wpAny_bind (wpAny_pure (wpAny_pure ⟨_, rfl, wpAny_pure k⟩))) ok)
end
section
variable {X : Cx} {g : GC} {W : WX}
/-- t[::-1] of a tuple -/
theorem e_revT {e : Expr} {te : TE} {k : Nat} {p1 p2 p3 pos : Pos} (he : PE X e te) : PE X (.Subscript e (.Slice none none (some (.UnaryOp .USub (.Constant (.int 1) k p1) p2)) p3) pos)
    (fun σ H Q => te σ H fun x H1 => ∃ a vs, x = .ref a ∧ SqT X.K H1 a vs ∧ ∀ p, H1 p = none → Q (.ref p) (upd H1 p (.tup vs.reverse))) := by
  refine ⟨fun pins s σ H Q I h => ?_⟩
  refine Subscript_ (thn (he.run pins s σ H _ I h) fun v s1 ⟨x, H1, I1, r1, q1⟩ => ?_)
  obtain ⟨a, xs, rfl, hx, q⟩ := q1
  cases r1
  have st : PO X (some (.UnaryOp .USub (.Constant (.int 1) k p1) p2)) (tPart (tUn (rU fun i => .int (-i)) (tC (.int 1)))) := po_some (pe_un un_neg pe_int)
  refine wpAny_Slice (thn (po_none.run pins s1 σ H1 (fun o H2 => o = none ∧ H2 = H1) I1 ⟨rfl, rfl⟩) ?_)
  rintro vl s2 ⟨l, H2, I2, pl, rfl, rfl⟩
  refine thn (po_none.run pins s2 σ _ (fun o H3 => o = none ∧ H3 = H2) I2 ⟨rfl, rfl⟩) ?_
  rintro vu s3 ⟨u, H3, I3, pu, rfl, rfl⟩
  refine thn (st.run pins s3 σ _ (fun o H4 => o = some (-1) ∧ H4 = H3) I3 ⟨1, rfl, -1, rfl, rfl, rfl⟩) ?_
  rintro vs s4 ⟨o, H4, I4, ps, rfl, rfl⟩
  cases pl
  cases pu
  have I5 : L2.Inv X pins σ H4 { s4 with heap := s4.heap.push { cls := .type "slice", data := .fields #[.none, .none, vs] } } := I4.kept (t' := s4.toks) fun b ob z => Heap.get?_push_of_some _ z
  obtain ⟨its, r, ht, hz⟩ := I5.tuple hx
  have hl := r.length
  show wpAny _ _ (subscriptTail e (.Slice none none (some (.UnaryOp .USub (.Constant (.int 1) k p1) p2)) p3) (.ref a) (.ref s4.heap.objs.size)) _ _ _
  refine tail_any (ops := [.ref a, .ref s4.heap.objs.size]) ht.typeIs PyProof.Rows.slot_tuple_getitem.lookup ?_ (by with_unfolding_all rfl)
  refine getItem_back ht (Heap.IsSliceOf.new _ _ _ vs) ps ?_ (by rw [List.size_toArray]; omega)
  refine ⟨.ref _, _, I5.laid (t' := s4.toks) (o := .tup xs.reverse) (fun b ob z => Heap.get?_push_of_some _ z) (Nat.le_refl _) ?_, rfl, q _ (I5.hok.fresh (Nat.le_refl _))⟩
  exact ⟨by rw [List.length_reverse]; exact hz, _, r.reverse, ⟨_, Heap.get?_push_size _ rfl, rfl, 0, by simp⟩⟩
end
end MP
namespace MP
open PySem L2 PySem.Spec PyProof.Rows
variable [Wd]
def notStar : PySem.Expr → Bool
  | .Starred _ _ => false
  | _ => true
theorem star_cons {e : PySem.Expr} {es : List PySem.Expr} {env : Env} (h : notStar e = true) : starEach (e :: es) env = (false, eval e env) :: starEach es env := by
  cases e <;> first | rfl | cases h
def noStars : List PySem.Expr → Bool
  | [] => true
  | e :: es => notStar e && noStars es
theorem star_any {pos : Pos} {env : Env} : ∀ {es : List PySem.Expr}, noStars es = true → (backTo pos (starEach es env)).any (·.1) = false
  | [], _ => rfl
  | e :: es, h => by
    have h' : (notStar e && noStars es) = true := h
    obtain ⟨h1, h2⟩ := Bool.and_eq_true_iff.mp h'
    rw [star_cons h1]
    show (false || (backTo pos (starEach es env)).any (·.1)) = false
    rw [star_any h2]; rfl
theorem star_all {pos : Pos} {env : Env} : ∀ {es : List PySem.Expr}, noStars es = true → (backTo pos (starEach es env)).all (fun x => !x.1) = true
  | [], _ => rfl
  | e :: es, h => by
    have h' : (notStar e && noStars es) = true := h
    obtain ⟨h1, h2⟩ := Bool.and_eq_true_iff.mp h'
    rw [star_cons h1]
    show (!false && (backTo pos (starEach es env)).all (fun x => !x.1)) = true
    rw [star_all h2]; rfl
/-- no super() -/
def plainBase : PySem.Expr → Bool
  | .Call (.Name _ _) [] [] _ => false
  | _ => true
theorem base_ok {o : PySem.Expr} {a : Str} {env : Env} {w : Sem Value} (h : plainBase o = true) : attributeBase o a env w = w := by
  unfold attributeBase
  split
  · cases h
  · rfl
def notSlice : PySem.Expr → Bool
  | .Slice _ _ _ _ => false
  | _ => true
theorem plainIx_of {b : PySem.Expr} (h : notSlice b = true) : PlainIx b := fun o i => by
  cases b <;> first | rfl | cases h
def notSet : PySem.Expr → Bool
  | .Set _ _ _ => false
  | _ => true
theorem noMark {op : CmpOp} {e : PySem.Expr} (h : notSet e = true) : behindInMarks op e = false := by
  cases e <;> first | rfl | cases h
theorem foldSet {e : PySem.Expr} {env : Env} {x : Value} (h : notSet e = true) : foldedSetIterable e env x = pure x := by
  cases e <;> first | rfl | cases h
structure Cc where
  sc : Scope
  N : List Str
  T : List Fn
  cn : List Str
  L : List Cl
def dbg (x : Str) : Bool := decide (x = ("__debug__" : Str))
def vis (sc : Scope) (x : Str) : Bool := match sc.names.lookup x with
  | some .local => true
  | some .cell => true
  | some .free => true
  | _ => false
def loc_ (sc : Scope) (x : Str) : Bool := match sc.names.lookup x with
  | some .local => true
  | some .cell => true
  | _ => false
def gl (sc : Scope) (x : Str) : Bool := decide (sc.names.lookup x = some .globalImplicit)
def isAt (N : List Str) (i : Nat) (x : Str) : Bool := decide (N[i]? = some x)
def ckCst (v : PV) (k : Const) : Bool := match v, k with
  | .non, .none => true
  | .bl a, .bool b => a == b
  | .int i, .int j => decide (i = j)
  | .str x, .str y => decide (x = y)
  | _, _ => false
def bopOf : Bop → Operator
  | .add => .Add | .sub => .Sub | .mul => .Mult | .fdiv => .FloorDiv | .mod => .Mod | .pow => .Pow
def copOf : Cop → CmpOp
  | .eq => .Eq | .ne => .NotEq | .lt => .Lt | .le => .LtE | .gt => .Gt | .ge => .GtE | .is_ => .Is | .isnot => .IsNot | .in_ => .In | .notin => .NotIn
def tyName : Ty → String
  | .int => "int" | .bool => "bool" | .str => "str" | .list => "list" | .tuple => "tuple" | .dict => "dict"
def bltName : Blt → String
  | .len => "len" | .tuple => "tuple" | .list => "list" | .str => "str" | .int => "int" | .repr => "repr" | .min => "min" | .max => "max"
def mthName : Mth → String
  | .append => "append" | .pop => "pop"
def ckTy (sc : Scope) (t : Ty) (e : PySem.Expr) : Bool := match e with
  | .Name x _ => decide (x = (tyName t : Str)) && gl sc x
  | _ => false
def ckTys (sc : Scope) : List Ty → List PySem.Expr → Bool
  | [], [] => true
  | t :: ts, e :: es => ckTy sc t e && ckTys sc ts es
  | _, _ => false
def ckIsi (sc : Scope) (ts : List Ty) (e : PySem.Expr) : Bool := match e with
  | .Tuple es _ _ => ckTys sc ts es && decide (es.length ≤ 100)
  | .Name x p => (match ts with
    | [t] => ckTy sc t (.Name x p)
    | _ => false)
  | _ => false
def nmAt (N : List Str) (sc : Scope) (i : Nat) (e : PySem.Expr) : Bool := match e with
  | .Name x _ => isAt N i x && loc_ sc x
  | _ => false
def nmsAt (N : List Str) (sc : Scope) : List Nat → List PySem.Expr → Bool
  | [], [] => true
  | i :: is, e :: es => nmAt N sc i e && nmsAt N sc is es
  | _, _ => false
def ckTg (N : List Str) (sc : Scope) (t : Tg) (e : PySem.Expr) : Bool := match t with
  | .v i => nmAt N sc i e
  | .t is => (match e with
    | .Tuple es _ _ => nmsAt N sc is es
    | _ => false)
def tgSlots : Tg → List Nat
  | .v i => [i]
  | .t is => is
def ownOf (N : List Str) (own : List Nat) : List (Str × Nat) := own.map fun i => (N.getD i Str.empty, i)
def isTrueC : Ex → Bool
  | .cst (.bl true) => true
  | _ => false
def isNameE : PySem.Expr → Bool
  | .Name _ _ => true
  | _ => false
def ckIfs (cond : Ex) (f : PySem.Expr → Bool) : List PySem.Expr → Bool
  | [] => isTrueC cond
  | [c] => f c
  | _ => false
def ckPart (n : Bool) (f : PySem.Expr → Bool) : Option PySem.Expr → Bool
  | none => n
  | some l => !n && f l
def oneG (f : PySem.Comprehension → Bool) : List PySem.Comprehension → Bool
  | [g] => f g
  | _ => false
def revOf (e : PySem.Expr) : Option PySem.Expr := match e with
  | .Subscript v (.Slice none none (some (.UnaryOp .USub (.Constant (.int 1) _ _) _)) _) _ => some v
  | _ => none
theorem revOf_eq {e v : PySem.Expr} (h : revOf e = some v) : ∃ k p1 p2 p3 p, e = .Subscript v (.Slice none none (some (.UnaryOp .USub (.Constant (.int 1) k p1) p2)) p3) p := by
  unfold revOf at h
  split at h
  · cases h; exact ⟨_, _, _, _, _, rfl⟩
  · cases h
def ckRng (f : Str → List PySem.Expr → Bool) (e : PySem.Expr) : Bool := match e with
  | .Call (.Name x _) l [] _ => decide (x = ("range" : Str)) && f x l && decide (1 ≤ l.length ∧ l.length ≤ 3)
  | _ => false
theorem ckRng_eq {f : Str → List PySem.Expr → Bool} {e : PySem.Expr} (h : ckRng f e = true) : ∃ p1 l p2, e = .Call (.Name "range" p1) l [] p2 ∧ f "range" l = true ∧ 1 ≤ l.length ∧ l.length ≤ 3 := by
  unfold ckRng at h
  split at h
  · obtain ⟨h, h3⟩ := Bool.and_eq_true_iff.mp h
    obtain ⟨h1, h2⟩ := Bool.and_eq_true_iff.mp h
    have := of_decide_eq_true h1
    subst this
    exact ⟨_, _, _, rfl, h2, of_decide_eq_true h3⟩
  · cases h
mutual
def ck (N : List Str) (T : List Fn) (cn : List Str) : Ex → Scope → PySem.Expr → Bool
  | .cst v => fun _ e => match e with
    | .Constant k _ _ => ckCst v k
    | _ => false
  | .var i => fun sc e => match e with
    | .Name x _ => isAt N i x && vis sc x && !dbg x && !decide (x = ("__classdict__" : Str))
    | _ => false
  | .glb i => fun sc e => match e with
    | .Name x _ => isAt cn i x && gl sc x && !dbg x
    | _ => false
  | .tup es => fun sc e => match e with
    | .Tuple l _ _ => ckL N T cn es sc l && decide (l.length ≤ 1000)
    | _ => false
  | .lst es => fun sc e => match e with
    | .List l _ => ckL N T cn es sc l && decide (l.length ≤ 1000)
    | _ => false
  | .dct0 => fun _ e => match e with
    | .Dict [] [] _ => true
    | _ => false
  | .bin op a b => fun sc e => match e with
    | .BinOp l o r _ => decide (o = bopOf op) && ck N T cn a sc l && ck N T cn b sc r
    | _ => false
  | .neg a => fun sc e => match e with
    | .UnaryOp .USub o _ => ck N T cn a sc o
    | _ => false
  | .cmp op a b => fun sc e => match e with
    | .Compare l [o] [r] _ => decide (o = copOf op) && ck N T cn a sc l && ck N T cn b sc r && notSet r
    | _ => false
  | .and a b => fun sc e => match e with
    | .BoolOp .And (x :: y :: rest) pos => ck N T cn a sc x && (match rest with
      | [] => ck N T cn b sc y
      | z :: zs => ck N T cn b sc (.BoolOp .And (y :: z :: zs) pos))
    | _ => false
  | .or a b => fun sc e => match e with
    | .BoolOp .Or (x :: y :: rest) pos => ck N T cn a sc x && (match rest with
      | [] => ck N T cn b sc y
      | z :: zs => ck N T cn b sc (.BoolOp .Or (y :: z :: zs) pos))
    | _ => false
  | .not a => fun sc e => match e with
    | .UnaryOp .Not o _ => ck N T cn a sc o
    | _ => false
  | .ite c a b => fun sc e => match e with
    | .IfExp t x y _ => ck N T cn c sc t && ck N T cn a sc x && ck N T cn b sc y
    | _ => false
  | .call f es => fun sc e => match e with
    | .Call (.Name x _) (a :: l) [] _ => gl sc x && !dbg x && (match T[f]? with
      | some fn => decide (fn.name = x) && decide ((a :: l).length ≤ fn.np) && decide (fn.np ≤ (a :: l).length + fn.dfl.length)
      | none => false) && ckL N T cn es sc (a :: l) && noStars (a :: l)
    | _ => false
  | .isi a ts => fun sc e => match e with
    | .Call (.Name x _) [o, t] [] _ => decide (x = ("isinstance" : Str)) && gl sc x && ck N T cn a sc o && ckIsi sc ts t && notStar o
    | _ => false
  | .blt b es => fun sc e => match e with
    | .Call (.Name x _) (a :: l) [] _ => decide (x = (bltName b : Str)) && gl sc x && ckL N T cn es sc (a :: l) && noStars (a :: l)
    | _ => false
  | .mth m o es => fun sc e => match e with
    | .Call (.Attribute r x ap) l [] cp => decide (x = (mthName m : Str)) && ck N T cn o sc r && ckL N T cn es sc l && noStars l && decide (l.length ≤ 20) && plainBase r && (ap.endLine == cp.line)
    | _ => false
  | .sub a i => fun sc e => match e with
    | .Subscript v s _ => ck N T cn a sc v && ck N T cn i sc s && notSlice s
    | _ => false
  | .slc a lo hi => fun sc e => match e with
    | .Subscript v (.Slice l u none _) _ => ck N T cn a sc v && ckPart lo.isNop (ck N T cn lo sc) l && ckPart hi.isNop (ck N T cn hi sc) u
    | _ => false
  | .nop => fun _ _ => false
  | .rev a => fun sc e => match revOf e with
    | some v => ck N T cn a sc v
    | none => false
  | .comp own tg it cond elt => fun sc e => match e with
    | .ListComp el gs scope _ => oneG (fun y => decide (y.is_async = 0) && blkC N sc scope (ownOf N own) && ckTg N scope tg y.target && (tgSlots tg).all (own.contains ·) && ck N T cn it sc y.iter && notSet y.iter && ckIfs cond (ck N T cn cond (relS scope sc)) y.ifs && ck N T cn elt (relS scope sc) el) gs
    | _ => false
  | .compR own tg it cond elt => fun sc e => match e with
    | .ListComp el gs scope _ => oneG (fun y => decide (y.is_async = 0) && blkC N sc scope (ownOf N own) && ckTg N scope tg y.target && (tgSlots tg).all (own.contains ·) && ckRng (fun x l => gl sc x && ckL N T cn it sc l && noStars l) y.iter && ckIfs cond (ck N T cn cond (relS scope sc)) y.ifs && ck N T cn elt (relS scope sc) el) gs
    | _ => false
def ckL (N : List Str) (T : List Fn) (cn : List Str) : Es → Scope → List PySem.Expr → Bool
  | .nil => fun _ l => match l with
    | [] => true
    | _ :: _ => false
  | .cons a es => fun sc l => match l with
    | [] => false
    | e :: l => ck N T cn a sc e && ckL N T cn es sc l && notStar e
end
end MP
namespace MP
open PySem L2 PySem.Spec PyProof.Rows
variable [Wd]
/-- the hand layer's promise of a def, for callers with no guard around -/
structure FnG (P : Program) (w : World) (K : Fr) (mg : Str → Option Value) (base : Heap) (k : Nat) (f : Addr) (fd : FuncData) (ps : List Str) (sp : Sp) : Prop where
  len : ∀ vs H Q E, sp vs H Q E → vs.length = ps.length
  run : ∀ (A : Around) (outer : List Env) (s : Shared) (H : Hp) (args : Args) (us : List Value) (vs : List V) (Q : VK) (E : XK), Room k A → A.guards = some [] → Env0 P w K mg base A outer s H →
    BindsTo s fd args (ps.zip us) → Vals vs us → sp vs H Q E → codeAny (model P w) A (.call (.ref f) args) (CR (L2.CX P w) outer P w H s Q E) s
theorem FnG.mono {P : Program} {w : World} {K : Fr} {mg : Str → Option Value} {base : Heap} {j k : Nat} {f : Addr} {fd : FuncData} {ps : List Str} {sp : Sp} (F : FnG P w K mg base j f fd ps sp) (h : j ≤ k) : FnG P w K mg base k f fd ps sp :=
  ⟨F.len, fun A outer s H args us vs Q E hr => F.run A outer s H args us vs Q E (hr.mono h)⟩
theorem FnG.imp {P : Program} {w : World} {K : Fr} {mg : Str → Option Value} {base : Heap} {k : Nat} {f : Addr} {fd : FuncData} {ps : List Str} {sp sp' : Sp} (F : FnG P w K mg base k f fd ps sp) (h : ∀ vs H Q E, sp' vs H Q E → sp vs H Q E) : FnG P w K mg base k f fd ps sp' :=
  ⟨fun vs H Q E q => F.len vs H Q E (h _ _ _ _ q), fun A outer s H args us vs Q E hr hg he hb hv hs => F.run A outer s H args us vs Q E hr hg he hb hv (h _ _ _ _ hs)⟩
section
variable {X : Cx} {k : Nat} {f : Addr} {fd : FuncData} {ps : List Str} {sp : Sp} {E : L2.St → XK} {ds : List Value} {dvs : List V}
/-- such a def is called -/
theorem runG {pins : List (Addr × Obj)} {σ : L2.St} {H : Hp} {s : Shared} {Q : VK} {us : List Value} {vs : List V} (F : FnG X.prog X.w X.K X.mg X.base k f fd ps sp) (hr : Room k X.A) (hg : X.A.guards = some []) (hb : Binds X.K fd ps ds) (hd : Vals dvs ds)
    {W : WX} (tk : Takes X W) (I : L2.Inv X pins σ H s) (r : Vals vs us) (h : sp (vs ++ dvs) H Q fun c d H' => W c d σ H') : wpAny (model X.prog X.w) X.A (call (.ref f) us) (EP X pins σ Q) X.xe s := by
  have both := r.append hd
  have el : (us ++ ds).length = ps.length := both.length.symm.trans (F.len _ _ _ _ h)
  have go := F.run X.A X.stack s H ⟨us, []⟩ (us ++ ds) (vs ++ dvs) Q _ hr hg I.env0 (hb s us I.kIn el) both h
  refine wpAny_call (codeAny_mono go ?_)
  intro r s' z
  match r, z with
  | .error e, z => exact tk e s' (XE.of_call I (fun _ _ _ w => w) z)
  | .ok (.ret u), z => exact I.after z
  | .ok .next, z => exact z.elim
  | .ok .brk, z => exact z.elim
  | .ok .cont, z => exact z.elim
end
/-- a def's body gives its promise -/
theorem fnG {P : Program} {w : World} {K : Fr} {mg : Str → Option Value} {base : Heap} {k : Nat} {f : Addr} {name qual : Str} {params : Arguments} {body : List Stmt} {scope : Scope} {dvs : List V} {kws : List (Str × V)} {fd : FuncData} {N ps : List Str} {sp : Sp}
    (F : FunD K name qual params body scope dvs kws f fd) (S : FnScope N ps scope) (len : ∀ vs H Q E, sp vs H Q E → vs.length = ps.length)
    (hbody : ∀ (cdv : Value) (A : Around) (outer : List Env) (s : Shared) (H : Hp) (vs : List V) (Q : VK) (E : XK), Room k (A.deeper (envOfC qual scope s.heap.objs.size f cdv)) → A.guards = some [] → sp vs H Q E →
      ∃ t, PSs (cxOf (L2.CX P w) P w K mg base N qual scope f cdv A outer s H E) body t ∧ t { nx := fun _ H' => Q .non H', rt := Q } (L2.start N vs) H) : FnG P w K mg base (k + 1) f fd ps sp := by
  obtain ⟨oc, od, dV, kV, doc, pm, an, cdv, ct, osl, rfl, lk, hcd, _, _⟩ := F.ex
  constructor
  · exact len
  intro A outer s H args us vs Q E room gd e0 bd r want
  have up := fun b o e => (e0.bs b o e).1
  have inK : K.In s.heap := e0.mod.kin.keeps up
  have nolim : s.heap.NoLimit := e0.mod.nolimit.keeps up
  have kinds : ∀ y ∈ ps.zip us, scope.names.lookup y.1 = some .local ∨ (scope.names.lookup y.1 = some .cell ∧ ((cellsFrom (s.heap.objs.size + 1) scope.names []).lookup y.1).isSome = true) := by
    rintro ⟨n, v⟩ hy
    cases S.par n (List.of_mem_zip hy).1 with
    | inl q => exact .inl q
    | inr q => exact .inr ⟨q, PySem.W.cellsFrom_some _ _ _ (.inl q)⟩
  refine codeAny_call_function room.depth (inK _ _ lk) rfl S.co S.gen rfl (PySem.W.codeRec_of inK hcd) (bd _ _ _ _ ?_)
  refine wpAny_newFunctionEnv_cells S.kind kinds ?_
  rintro env rfl s1 x
  refine ⟨nolim.keeps x.toInCall.keep, codeAny_func ?_⟩
  obtain ⟨t, ht, hq⟩ := hbody cdv A outer s H vs Q E (room.deeper _) gd want
  have I : L2.Inv (cxOf (L2.CX P w) P w K mg base N qual scope f cdv A outer s H E) [] (L2.start N vs) H s1 := inv_start S room.hd e0 (len _ _ _ _ want) r x
  refine wpAny_mono (ht.run [] s1 (L2.start N vs) H _ I hq) ?_ (fun _ _ z => z)
  intro fl s' z
  cases fl with
  | ret u =>
    obtain ⟨v, σ', H', J, rv, q⟩ := z
    exact ⟨v, H', J.os, J.bare, J.base, J.hok, rv, q⟩
  | next =>
    obtain ⟨σ', H', J, q⟩ := z
    exact ⟨.non, H', J.os, J.bare, J.base, J.hok, rfl, q⟩
  | brk => exact z.choose_spec.choose_spec.2.elim
  | cont => exact z.choose_spec.choose_spec.2.elim
/-- what the interpreter's calls promise -/
def spF (g : GC) (K : Fr) (np : Nat) (F : List PV → Hv → R PV) : Sp := fun vs H Q E => vs.length = np ∧ ∃ μ h us σ, Rel K μ h H ∧ Reps K H μ us vs ∧ PR g K (RepR K) Q (fun c d _ H' => E c d H') σ μ H (F us h)
/-- the values that stand for defaults -/
def atomV : PV → Option V
  | .non => some .non
  | .bl b => some (.bl b)
  | .int i => some (.int i)
  | .str x => some (.str x)
  | _ => none
/-- the defs of the text, where they stand, k levels left -/
structure Gf (P : Program) (w : World) (K : Fr) (mg : Str → Option Value) (base : Heap) (g : GC) (T : List Fn) (k : Nat) (cf : Nat → List PV → Hv → R PV) : Prop where
  fn : ∀ (f : Nat) (fn : Fn), T[f]? = some fn → ∃ (fa : Addr) (fd : FuncData) (ps : List Str), mg fn.name = some (.ref fa) ∧ PySem.W.keepIn K (.ref fa) = true ∧ ps.length = fn.np ∧
    (∀ n, n ≤ fn.np → fn.np ≤ n + fn.dfl.length → ∃ dvs ds, (fn.dfl.drop (fn.dfl.length - (fn.np - n))).map atomV = dvs.map some ∧ Vals dvs ds ∧ n + dvs.length = fn.np ∧ Binds K fd ps ds) ∧
    FnG P w K mg base k fa fd ps (spF g K fn.np (fun us h => cf f us h))
  len : ∀ (f : Nat) (fn : Fn) (us : List PV) (h : Hv), T[f]? = some fn → us.length ≤ fn.np → fn.np ≤ us.length + fn.dfl.length → cf f us h = cf f (fillD fn.np fn.dfl us) h
/-- where an expression stands -/
structure Ct (X : Cx) (g : GC) (W : WX) (N : List Str) (T : List Fn) (cn : List Str) (C : List PV) (fr : List Str) (k : Nat) (cf : Nat → List PV → Hv → R PV) (sc : Scope) : Prop where
  hsc : X.env.scope = sc
  hN : X.N = N
  ww : X.w = Wd.w
  nd : N.Nodup
  calm : X.calm = true
  room : Room k X.A
  gd : X.A.guards = some []
  tk : Takes X W
  bl : ∀ x ∈ fr, X.mg x = none
  hcn : ∀ (i : Nat) (x : Str) (v : PV), cn[i]? = some x → C[i]? = some v → ∃ u y, X.mg x = some u ∧ atomV v = some y ∧ RelV y u
  cl : cn.length = C.length
  gf : Gf X.prog X.w X.K X.mg X.base g T k cf
end MP
namespace MP
open PySem L2 PySem.Spec PyProof.Rows
variable [Wd]
theorem PE.imp {X : Cx} {e : PySem.Expr} {t t' : TE} (p : PE X e t) (h : ∀ σ H Q, t' σ H Q → t σ H Q) : PE X e t' := ⟨fun pins s σ H Q I q => p.run pins s σ H Q I (h _ _ _ q)⟩
theorem PE.or {X : Cx} {e : PySem.Expr} {t t' : TE} (p : PE X e t) (p' : PE X e t') : PE X e (fun σ H Q => t σ H Q ∨ t' σ H Q) := ⟨fun pins s σ H Q I q => q.elim (p.run pins s σ H Q I) (p'.run pins s σ H Q I)⟩
theorem PT.imp {X : Cx} {e : PySem.Expr} {t t' : TT} (p : PT X e t) (h : ∀ σ H Q, t' σ H Q → t σ H Q) : PT X e t' := ⟨fun pins s σ H Q I q => p.run pins s σ H Q I (h _ _ _ q)⟩
theorem PW.imp {X : Cx} {e : PySem.Expr} {t t' : TT} (p : PW X e t) (h : ∀ σ H Q, t' σ H Q → t σ H Q) : PW X e t' := ⟨fun wh pins s σ H Q I q => p.run wh pins s σ H Q I (h _ _ _ q)⟩
theorem PA.imp {X : Cx} {e : List PySem.Expr} {t t' : TA} (p : PA X e t) (h : ∀ σ H Q, t' σ H Q → t σ H Q) : PA X e t' := ⟨fun pos pins s σ H Q I q => p.run pos pins s σ H Q I (h _ _ _ q)⟩
section
variable {X : Cx} {g : GC} {W : WX} {σ : L2.St} {H : Hp}
/-- a first value, then the rest -/
theorem TI.bind {K : Fr} {Q : VK} {fa : Sm} {k : Ev → PV → Hv → R PV} (t : TI g K W (fun e h => (fa e h).bind (k e)) σ H Q) :
    TI g K W fa σ H fun x H1 => ∃ μ e h v, Stt K μ e h σ H1 ∧ Rep K H1 μ v x ∧ PR g K (RepR K) Q W σ μ H1 (k e v h) := by
  obtain ⟨μ, e, h, s, p⟩ := t
  refine ⟨μ, e, h, s, (PR.bind p).mono ?_⟩
  rintro v h' μ' H' x _ x1 r1 q1 ⟨v', h1, μ1, x2, r2, q2, _, p2⟩
  exact ⟨μ1, e, h1, v', s.ext x2 r2, q2, p2⟩
theorem TIL.bind {K : Fr} {Q : VK} {fa : SmL} {k : Ev → List PV → Hv → R PV} (t : TI g K W (fun e h => (fa e h).bind (k e)) σ H Q) :
    TIL g K W fa σ H fun x H1 => ∃ μ e h v, Stt K μ e h σ H1 ∧ Reps K H1 μ v x ∧ PR g K (RepR K) Q W σ μ H1 (k e v h) := by
  obtain ⟨μ, e, h, s, p⟩ := t
  refine ⟨μ, e, h, s, (PR.bind p).mono ?_⟩
  rintro v h' μ' H' x _ x1 r1 q1 ⟨v', h1, μ1, x2, r2, q2, _, p2⟩
  exact ⟨μ1, e, h1, v', s.ext x2 r2, q2, p2⟩
/-- a second value behind the first -/
theorem TI.next {K : Fr} {Q : VK} {μ : List Addr} {e : Ev} {h : Hv} {a : PV} {x : V} {fb : Sm} {k : PV → Hv → R PV} (s : Stt K μ e h σ H) (ra : Rep K H μ a x) (p : PR g K (RepR K) Q W σ μ H ((fb e h).bind k)) :
    TI g K W fb σ H fun y H1 => ∃ μ1 h1 b, Stt K μ1 e h1 σ H1 ∧ Rep K H1 μ1 a x ∧ Rep K H1 μ1 b y ∧ PR g K (RepR K) Q W σ μ1 H1 (k b h1) := by
  refine ⟨μ, e, h, s, (PR.bind p).mono ?_⟩
  rintro v h' μ' H' y _ x1 r1 q1 ⟨b, h1, μ1, x2, r2, q2, _, p2⟩
  exact ⟨μ1, h1, b, s.ext x2 r2, ra.ext s.rel x2, q2, p2⟩
theorem TIL.next {K : Fr} {Q : VK} {μ : List Addr} {e : Ev} {h : Hv} {a : PV} {x : V} {fb : SmL} {k : List PV → Hv → R PV} (s : Stt K μ e h σ H) (ra : Rep K H μ a x) (p : PR g K (RepR K) Q W σ μ H ((fb e h).bind k)) :
    TIL g K W fb σ H fun y H1 => ∃ μ1 h1 b, Stt K μ1 e h1 σ H1 ∧ Rep K H1 μ1 a x ∧ Reps K H1 μ1 b y ∧ PR g K (RepR K) Q W σ μ1 H1 (k b h1) := by
  refine ⟨μ, e, h, s, (PR.bind p).mono ?_⟩
  rintro v h' μ' H' y _ x1 r1 q1 ⟨b, h1, μ1, x2, r2, q2, _, p2⟩
  exact ⟨μ1, h1, b, s.ext x2 r2, ra.ext s.rel x2, q2, p2⟩
/-- a test's answer -/
def tB_ (x : PV) (h : Hv) : R Bool := match x with
  | .bl b => .ok b h
  | _ => .bad
def EqR_ (_ : Hp) (_ : List Addr) (b : Bool) (c : Bool) : Prop := c = b
def TB (g : GC) (K : Fr) (W : WX) (f : Sm) : TT := fun σ H Q => ∃ μ e h, Stt K μ e h σ H ∧ PR g K EqR_ Q W σ μ H ((f e h).bind tB_)
/-- a value whose test is its truth -/
theorem TB.val {K : Fr} {f : Sm} {Q : Bool → Hp → Prop} (t : TB g K W f σ H Q) : tB (TI g K W f) σ H Q := by
  obtain ⟨μ, e, h, s, p⟩ := t
  refine ⟨μ, e, h, s, (PR.bind (rel := RepR K) p).mono ?_⟩
  rintro v h' μ' H' x _ x1 r1 q1 ⟨v', h1, μ1, x2, r2, q2, _, p2⟩
  cases v' with
  | bl b => cases q2; exact ⟨b, rfl, p2 μ1 H' b .refl r2 rfl⟩
  | _ => exact p2.elim
/-- the outcome of a test -/
theorem cB_bind {K : Fr} {Q : VK} {μ : List Addr} {e : Ev} {h : Hv} {fc : Sm} {k : PV → Hv → R PV} (s : Stt K μ e h σ H) (p : PR g K (RepR K) Q W σ μ H ((fc e h).bind k)) (only : ∀ v h, (∀ b, v ≠ .bl b) → k v h = .bad) :
    PR g K EqR_ (fun b H1 => ∃ μ1 h1, Stt K μ1 e h1 σ H1 ∧ PR g K (RepR K) Q W σ μ1 H1 (k (.bl b) h1)) W σ μ H ((fc e h).bind tB_) := by
  cases q : fc e h with
  | bad => rw [q] at p; exact p
  | exc c v h' => rw [q] at p; exact p
  | ok v h' =>
    rw [q] at p
    have p' : PR g K (RepR K) Q W σ μ H (k v h') := p
    cases v with
    | bl b =>
      show PR g K EqR_ _ W σ μ H (.ok b h')
      rintro μ1 H1 c x1 r1 rfl
      exact ⟨μ1, h', s.ext x1 r1, PR.ext p' x1⟩
    | non => rw [only _ h' (by intro b z; cases z)] at p'; exact p'.elim
    | int _ => rw [only _ h' (by intro b z; cases z)] at p'; exact p'.elim
    | str _ => rw [only _ h' (by intro b z; cases z)] at p'; exact p'.elim
    | tup _ => rw [only _ h' (by intro b z; cases z)] at p'; exact p'.elim
    | loc _ => rw [only _ h' (by intro b z; cases z)] at p'; exact p'.elim
theorem cB_only {α : Type} {t f : R α} {v : PV} (h : ∀ b, v ≠ .bl b) : cB v t f = .bad := by
  cases v with
  | bl b => exact absurd rfl (h b)
  | _ => rfl
variable {pos : Pos}
theorem e_none {j : Nat} : PE X (.Constant .none j pos) (TI g X.K W (cCst .non)) := PE.imp pe_non (by rintro σ H Q ⟨μ, e, h, s, p⟩; exact PR.ok (v := PV.non) p s.rel .non)
theorem e_bl {b : Bool} {j : Nat} : PE X (.Constant (.bool b) j pos) (TI g X.K W (cCst (.bl b))) := PE.imp pe_bl (by rintro σ H Q ⟨μ, e, h, s, p⟩; exact PR.ok (v := PV.bl b) p s.rel (.bl b))
theorem e_int {i : Int} {j : Nat} : PE X (.Constant (.int i) j pos) (TI g X.K W (cCst (.int i))) := PE.imp pe_int (by rintro σ H Q ⟨μ, e, h, s, p⟩; exact PR.ok (v := PV.int i) p s.rel (.int i))
theorem e_str {x : Str} {j : Nat} : PE X (.Constant (.str x) j pos) (TI g X.K W (cCst (.str x))) := PE.imp pe_str (by rintro σ H Q ⟨μ, e, h, s, p⟩; exact PR.ok (v := PV.str x) p s.rel (.str x))
theorem e_cst {v : PV} {k : Const} {j : Nat} (h : ckCst v k = true) : PE X (.Constant k j pos) (TI g X.K W (cCst v)) := by
  cases v <;> cases k <;> first | exact (Bool.false_ne_true h).elim | skip
  · exact e_none
  · have := eq_of_beq (show (_ == _) = true from h); subst this; exact e_bl
  · have := of_decide_eq_true (show decide (_ = _) = true from h); subst this; exact e_int
  · have := of_decide_eq_true (show decide (_ = _) = true from h); subst this; exact e_str
theorem e_var {i : Nat} {x : Str} (hN : X.N[i]? = some x) (hv : Vis X.env.scope x) (hd : (x == ("__debug__" : Str)) = false) (hc : (x == ("__classdict__" : Str)) = false) : PE X (.Name x pos) (TI g X.K W (cVar i)) := by
  refine PE.imp (pe_var hN hv hd hc) ?_
  rintro σ H Q ⟨μ, e, h, s, p⟩
  have p' : PR g X.K (RepR X.K) Q W σ μ H (gotV (nth e i) h) := p
  rw [nth_eq] at p'
  cases q : e[i]? with
  | none => rw [q] at p'; exact p'.elim
  | some o =>
    cases o with
    | none => rw [q] at p'; exact p'.elim
    | some v =>
      rw [q] at p'
      obtain ⟨y, h1, h2⟩ := s.env.2 i v q
      exact ⟨y, h1, PR.ok (v := v) p' s.rel h2⟩
theorem atom_rep {K : Fr} {H : Hp} {μ : List Addr} {v : PV} {y : V} (h : atomV v = some y) : Rep K H μ v y := by
  cases v <;> cases h
  · exact .non
  · exact .bl _
  · exact .int _
  · exact .str _
theorem e_glb {C : List PV} {i : Nat} {x : Str} {u : Value} {y : V} {v : PV} (hC : C[i]? = some v) (hg : Gl X x) (hm : X.mg x = some u) (ha : atomV v = some y) (r : RelV y u) (hd : (x == ("__debug__" : Str)) = false) : PE X (.Name x pos) (TI g X.K W (cGlb C i)) := by
  refine PE.imp (pe_glob hg hm r hd) ?_
  rintro σ H Q ⟨μ, e, h, s, p⟩
  have p' : PR g X.K (RepR X.K) Q W σ μ H (MP.R.of (nth C i) h) := p
  rw [nth_eq, hC] at p'
  exact PR.ok (v := v) p' s.rel (atom_rep ha)
theorem l_nil : PA X [] (TIL g X.K W cNil) := PA.imp pa_nil (by rintro σ H Q ⟨μ, e, h, s, p⟩; exact PR.ok (v := ([] : List PV)) p s.rel .nil)
theorem l_cons {a : PySem.Expr} {es : List PySem.Expr} {fa : Sm} {fs : SmL} (ha : PE X a (TI g X.K W fa)) (hs : PA X es (TIL g X.K W fs)) (st : notStar a = true) : PA X (a :: es) (TIL g X.K W (cCons fa fs)) := by
  refine PA.imp (pa_cons ha hs (star_cons st)) ?_
  rintro σ H Q ⟨μ, e, h, s, p⟩
  have p0 : PR g X.K (RepsR X.K) Q W σ μ H ((fa e h).bind fun x h1 => (fs e h1).bind fun xs h2 => .ok (x :: xs) h2) := p
  refine ⟨μ, e, h, s, (PR.bind (rel := RepR X.K) p0).mono ?_⟩
  rintro v h' μ' H' x _ x1 r1 q1 ⟨v', h1, μ1, x2, r2, q2, _, p2⟩
  have s1 := s.ext x2 r2
  refine ⟨μ1, e, h1, s1, (PR.bind (rel := RepsR X.K) p2).mono ?_⟩
  rintro w h'' μ2 H2 xs _ x3 r3 q3 ⟨w', h2, μ3, x4, r4, q4, _, p4⟩
  exact PR.ok (v := v' :: w') p4 r4 (.cons (q2.ext s1.rel x4) q4)
theorem e_tup {es : List PySem.Expr} {k : Nat} {fs : SmL} (hs : PA X es (TIL g X.K W fs)) (hl : ∀ e h vs h', fs e h = .ok vs h' → vs.length ≤ 1000) : PE X (.Tuple es k pos) (TI g X.K W (cTup fs)) := by
  refine PE.imp (pe_tup hs) ?_
  rintro σ H Q ⟨μ, e, h, s, p⟩
  have p0 : PR g X.K (RepR X.K) Q W σ μ H ((fs e h).bind fun vs h1 => .ok (.tup vs) h1) := p
  refine ⟨μ, e, h, s, (PR.bind (rel := RepsR X.K) p0).mono ?_⟩
  rintro v h' μ' H' xs _ x1 r1 q1 ⟨vs, h1, μ1, x2, r2, q2, eq, p2⟩
  have z := hl _ _ _ _ eq
  refine ⟨by rw [← q2.length]; have := sizeLine_eq; omega, fun a n => newT_PR r2 q2 p2 n⟩
theorem e_lst {es : List PySem.Expr} {fs : SmL} (hs : PA X es (TIL g X.K W fs)) (hl : ∀ e h vs h', fs e h = .ok vs h' → vs.length ≤ 1000) : PE X (.List es pos) (TI g X.K W (cLst fs)) := by
  refine PE.imp (pe_lst hs) ?_
  rintro σ H Q ⟨μ, e, h, s, p⟩
  have p0 : PR g X.K (RepR X.K) Q W σ μ H ((fs e h).bind fun vs h1 => newL h1 vs) := p
  refine ⟨μ, e, h, s, (PR.bind (rel := RepsR X.K) p0).mono ?_⟩
  rintro v h' μ' H' xs _ x1 r1 q1 ⟨vs, h1, μ1, x2, r2, q2, eq, p2⟩
  have z := hl _ _ _ _ eq
  refine ⟨by rw [← q2.length]; have := sizeLine_eq; omega, fun a n => newL_PR r2 q2 p2 n⟩
variable {a b : PySem.Expr} {fa fb fc : Sm}
theorem e_bin {op : Bop} (ha : PE X a (TI g X.K W fa)) (hb : PE X b (TI g X.K W fb)) : PE X (.BinOp a (bopOf op) b pos) (TI g X.K W (cBin op fa fb)) := by
  have ho : OpR X (binaryOp (bopOf op)) (RO2 g X.K W (binop op)) := by cases op <;> first | exact o_add | exact o_sub | exact o_mul | exact o_fdiv | exact o_mod | exact o_pow
  refine PE.imp (pe_op ho ha hb) ?_
  intro σ H Q t
  obtain ⟨μ, e, h, s, p⟩ := TI.bind (fa := fa) (k := fun e x h1 => (fb e h1).bind fun y h2 => binop op x y h2) t
  refine ⟨μ, e, h, s, PR.mono p ?_⟩
  rintro v h' μ' H' x _ x1 r1 q1 ⟨μ1, e1, h1, v1, s1, q2, p2⟩
  obtain ⟨μ2, e2, h2, s2, p3⟩ := TI.next s1 q2 p2
  refine ⟨μ2, e2, h2, s2, PR.mono p3 ?_⟩
  rintro w h'' μ3 H3 y _ x3 r3 q3 ⟨μ4, h4, b4, s4, ra, rb, p4⟩
  exact ⟨μ4, h4, v1, b4, σ, s4.rel, ra, rb, p4⟩
theorem e_neg (ha : PE X a (TI g X.K W fa)) : PE X (.UnaryOp .USub a pos) (TI g X.K W (cNeg fa)) := by
  refine PE.imp (pe_un un_neg ha) ?_
  intro σ H Q t
  obtain ⟨μ, e, h, s, p⟩ := TI.bind (fa := fa) (k := fun _ => negP) t
  refine ⟨μ, e, h, s, PR.mono p ?_⟩
  rintro v h' μ' H' x _ x1 r1 q1 ⟨μ1, e1, h1, v1, s1, q2, p2⟩
  cases v1 with
  | int i =>
    have p3 : PR g X.K (RepR X.K) Q W σ μ1 H' (forceI (Int.neg i) fun k => .ok (.int k) h1) := p2
    rw [forceI_eq] at p3
    cases q2
    exact ⟨i, rfl, PR.ok (v := PV.int (Int.neg i)) p3 s1.rel (.int _)⟩
  | _ => exact p2.elim
end
end MP
namespace MP
open PySem L2 PySem.Spec PyProof.Rows
variable [Wd]
section
variable {X : Cx} {g : GC} {W : WX} {pos : Pos} {a b c : PySem.Expr} {fa fb fc : Sm}
theorem e_two {K : Fr} {op : PV → PV → Hv → R PV} {σ : L2.St} {H : Hp} {Q : VK} (t : TI g K W (fun e h => (fa e h).bind fun x h1 => (fb e h1).bind fun y h2 => op x y h2) σ H Q) : tOp (RO2 g K W op) (TI g K W fa) (TI g K W fb) σ H Q := by
  obtain ⟨μ, e, h, s, p⟩ := TI.bind (fa := fa) (k := fun e x h1 => (fb e h1).bind fun y h2 => op x y h2) t
  refine ⟨μ, e, h, s, PR.mono p ?_⟩
  rintro v h' μ' H' x _ x1 r1 q1 ⟨μ1, e1, h1, v1, s1, q2, p2⟩
  obtain ⟨μ2, e2, h2, s2, p3⟩ := TI.next s1 q2 p2
  refine ⟨μ2, e2, h2, s2, PR.mono p3 ?_⟩
  rintro w h'' μ3 H3 y _ x3 r3 q3 ⟨μ4, h4, b4, s4, ra, rb, p4⟩
  exact ⟨μ4, h4, v1, b4, σ, s4.rel, ra, rb, p4⟩
/-- in a dict: the rule is told elsewhere -/
structure InRules (X : Cx) (g : GC) (W : WX) : Prop where
  in_ : OpR X (compareOp .In) (RO2 g X.K W fun a b h => okB (inop a b h) h)
  notin : OpR X (compareOp .NotIn) (RO2 g X.K W fun a b h => okB (notO (inop a b h)) h)
theorem e_cmp {op : Cop} (J : InRules X g W) (hu : X.A.units + 64 < cLine) (ha : PE X a (TI g X.K W fa)) (hb : PE X b (TI g X.K W fb)) (ns : notSet b = true) : PE X (.Compare a [copOf op] [b] pos) (TI g X.K W (cCmp op fa fb)) := by
  have ho : OpR X (compareOp (copOf op)) (RO2 g X.K W fun a b h => okB (cmpop op a b h) h) := by
    cases op
    · exact o_eq hu
    · exact o_ne hu
    · exact o_lt
    · exact o_le
    · exact o_gt
    · exact o_ge
    · exact o_is
    · exact o_isnot
    · exact J.in_
    · exact J.notin
  exact PE.imp (pe_cmpR ho ha hb (noMark ns)) fun σ H Q t => e_two t
def plainT : PySem.Expr → Bool
  | .UnaryOp .Not _ _ => false
  | .BoolOp _ _ _ => false
  | .IfExp _ _ _ _ => false
  | .Compare _ _ _ _ => false
  | _ => true
theorem isTrue_pl {e : PySem.Expr} {env : Env} (h : plainT e = true) (wh : Sem Value) : isTrue e env wh = (do let v ← wh; standAt e.pos; holding [v] (truthy v)) := by
  cases e <;> first | rfl | (cases h) | skip
  rename_i op x p
  cases op <;> first | rfl | (cases h)
theorem t_val (he : PE X a (TI g X.K W fa)) (hp : plainT a = true) : PT X a (TB g X.K W fa) := PT.imp (pt_val he (isTrue_pl hp)) fun σ H Q t => t.val
theorem t_cmp {op : Cop} (J : InRules X g W) (hu : X.A.units + 64 < cLine) (ha : PE X a (TI g X.K W fa)) (hb : PE X b (TI g X.K W fb)) (ns : notSet b = true) : PT X (.Compare a [copOf op] [b] pos) (TB g X.K W (cCmp op fa fb)) := by
  have ho : OpR X (compareOp (copOf op)) (RO2 g X.K W fun a b h => okB (cmpop op a b h) h) := by
    cases op
    · exact o_eq hu
    · exact o_ne hu
    · exact o_lt
    · exact o_le
    · exact o_gt
    · exact o_ge
    · exact o_is
    · exact o_isnot
    · exact J.in_
    · exact J.notin
  refine PT.imp (pt_cmpR ho ha hb (noMark ns)) fun σ H Q t => ?_
  exact e_two t.val
theorem t_not (ha : PT X a (TB g X.K W fa)) : PT X (.UnaryOp .Not a pos) (TB g X.K W (cNot fa)) := by
  refine PT.imp (pt_not ha) ?_
  rintro σ H Q ⟨μ, e, h, s, p⟩
  refine ⟨μ, e, h, s, ?_⟩
  have p0 : PR g X.K EqR_ Q W σ μ H (((fa e h).bind fun x h1 => cB x (R.ok (PV.bl false) h1) (R.ok (PV.bl true) h1)).bind tB_) := p
  cases q : fa e h with
  | bad => rw [q] at p0; exact p0
  | exc c v h' => rw [q] at p0; exact p0
  | ok v h' =>
    rw [q] at p0
    cases v with
    | bl b =>
      show PR g X.K EqR_ _ W σ μ H (.ok b h')
      rintro μ1 H1 c x1 r1 rfl
      cases c with
      | true => exact (show PR g X.K EqR_ Q W σ μ H (.ok false h') from p0) μ1 H1 _ x1 r1 rfl
      | false => exact (show PR g X.K EqR_ Q W σ μ H (.ok true h') from p0) μ1 H1 _ x1 r1 rfl
    | _ => exact p0.elim
theorem e_not (ha : PE X a (TI g X.K W fa)) : PE X (.UnaryOp .Not a pos) (TI g X.K W (cNot fa)) := by
  refine PE.imp (pe_not ha) ?_
  intro σ H Q t
  obtain ⟨μ, e, h, s, p⟩ := TI.bind (fa := fa) (k := fun _ x h1 => cB x (R.ok (PV.bl false) h1) (R.ok (PV.bl true) h1)) t
  refine ⟨μ, e, h, s, PR.mono p ?_⟩
  rintro v h' μ' H' x _ x1 r1 q1 ⟨μ1, e1, h1, v1, s1, q2, p2⟩
  cases v1 with
  | bl b =>
    cases q2
    refine ⟨b, rfl, ?_⟩
    cases b with
    | true => exact PR.ok (v := PV.bl false) p2 s1.rel (.bl false)
    | false => exact PR.ok (v := PV.bl true) p2 s1.rel (.bl true)
  | _ => exact p2.elim
theorem and_val {y : PySem.Expr} {rest : List PySem.Expr} (ha : PE X a (TI g X.K W fa)) (hb : PE X (.BoolOp .And (y :: rest) pos) (TI g X.K W fb)) : PE X (.BoolOp .And (a :: y :: rest) pos) (TI g X.K W (cAnd fa fb)) := by
  refine PE.imp (pe_and ha hb) ?_
  intro σ H Q t
  obtain ⟨μ, e, h, s, p⟩ := TI.bind (fa := fa) (k := fun e x h1 => cB x (fb e h1) (.ok (.bl false) h1)) t
  refine ⟨μ, e, h, s, PR.mono p ?_⟩
  rintro v h' μ' H' x _ x1 r1 q1 ⟨μ1, e1, h1, v1, s1, q2, p2⟩
  cases v1 with
  | bl b =>
    cases q2
    refine ⟨b, rfl, ?_⟩
    cases b with
    | true => rw [if_pos rfl]; exact ⟨μ1, e1, h1, s1, p2⟩
    | false => rw [if_neg (by decide)]; exact PR.ok (v := PV.bl false) p2 s1.rel (.bl false)
  | _ => exact p2.elim
theorem or_val {y : PySem.Expr} {rest : List PySem.Expr} (ha : PE X a (TI g X.K W fa)) (hb : PE X (.BoolOp .Or (y :: rest) pos) (TI g X.K W fb)) : PE X (.BoolOp .Or (a :: y :: rest) pos) (TI g X.K W (cOr fa fb)) := by
  refine PE.imp (pe_or ha hb) ?_
  intro σ H Q t
  obtain ⟨μ, e, h, s, p⟩ := TI.bind (fa := fa) (k := fun e x h1 => cB x (.ok (.bl true) h1) (fb e h1)) t
  refine ⟨μ, e, h, s, PR.mono p ?_⟩
  rintro v h' μ' H' x _ x1 r1 q1 ⟨μ1, e1, h1, v1, s1, q2, p2⟩
  cases v1 with
  | bl b =>
    cases q2
    refine ⟨b, rfl, ?_⟩
    cases b with
    | true => rw [if_pos rfl]; exact PR.ok (v := PV.bl true) p2 s1.rel (.bl true)
    | false => rw [if_neg (by decide)]; exact ⟨μ1, e1, h1, s1, p2⟩
  | _ => exact p2.elim
/-- a test that goes on with another -/
theorem TB.cond {K : Fr} {σ : L2.St} {H : Hp} {Q : Bool → Hp → Prop} {A B : Ev → Hv → R PV} (t : TB g K W (fun e h => (fa e h).bind fun x h1 => cB x (A e h1) (B e h1)) σ H Q) :
    TB g K W fa σ H fun c H1 => if c = true then TB g K W A σ H1 Q else TB g K W B σ H1 Q := by
  obtain ⟨μ, e, h, s, p⟩ := t
  refine ⟨μ, e, h, s, ?_⟩
  cases q : fa e h with
  | bad => simp only [q] at p; exact p
  | exc c v h' => simp only [q] at p; exact p
  | ok v h' =>
    simp only [q] at p
    cases v with
    | bl b =>
      show PR g K EqR_ _ W σ μ H (.ok b h')
      rintro μ1 H1 c x1 r1 rfl
      cases c with
      | true => exact (if_pos rfl).mpr ⟨μ1, e, h', s.ext x1 r1, PR.ext (show PR g K EqR_ Q W σ μ H ((A e h').bind tB_) from p) x1⟩
      | false => exact (if_neg (by decide)).mpr ⟨μ1, e, h', s.ext x1 r1, PR.ext (show PR g K EqR_ Q W σ μ H ((B e h').bind tB_) from p) x1⟩
    | _ => exact p.elim
theorem TB.bl {K : Fr} {σ : L2.St} {H : Hp} {Q : Bool → Hp → Prop} {b : Bool} (t : TB g K W (fun _ h => .ok (.bl b) h) σ H Q) : Q b H := by
  obtain ⟨μ, e, h, s, p⟩ := t
  exact (show PR g K EqR_ Q W σ μ H (.ok b h) from p) μ H b .refl s.rel rfl
theorem and_tst {y : PySem.Expr} {rest : List PySem.Expr} (ha : PT X a (TB g X.K W fa)) (hb : PW X (.BoolOp .And (y :: rest) pos) (TB g X.K W fb)) : PW X (.BoolOp .And (a :: y :: rest) pos) (TB g X.K W (cAnd fa fb)) := by
  refine PW.imp (pw_and ha hb) ?_
  intro σ H Q t
  obtain ⟨μ, e, h, s, p⟩ := TB.cond (fa := fa) (A := fb) (B := fun _ h1 => .ok (.bl false) h1) t
  refine ⟨μ, e, h, s, PR.mono p ?_⟩
  intro v h' μ' H' c _ x1 r1 q1 k
  cases c with
  | true => exact k
  | false => exact TB.bl k
theorem or_tst {y : PySem.Expr} {rest : List PySem.Expr} (ha : PT X a (TB g X.K W fa)) (hb : PW X (.BoolOp .Or (y :: rest) pos) (TB g X.K W fb)) : PW X (.BoolOp .Or (a :: y :: rest) pos) (TB g X.K W (cOr fa fb)) := by
  refine PW.imp (pw_or ha hb) ?_
  intro σ H Q t
  obtain ⟨μ, e, h, s, p⟩ := TB.cond (fa := fa) (A := fun _ h1 => .ok (.bl true) h1) (B := fb) t
  refine ⟨μ, e, h, s, PR.mono p ?_⟩
  intro v h' μ' H' c _ x1 r1 q1 k
  cases c with
  | true => exact TB.bl k
  | false => exact k
theorem e_ite (hc : PT X c (TB g X.K W fc)) (ha : PE X a (TI g X.K W fa)) (hb : PE X b (TI g X.K W fb)) : PE X (.IfExp c a b pos) (TI g X.K W (cIte fc fa fb)) := by
  refine PE.imp (pe_ifExp hc ha hb) ?_
  rintro σ H Q ⟨μ, e, h, s, p⟩
  have p0 : PR g X.K (RepR X.K) Q W σ μ H ((fc e h).bind fun x h1 => cB x (fa e h1) (fb e h1)) := p
  refine ⟨μ, e, h, s, PR.mono (cB_bind s p0 fun v h z => cB_only z) ?_⟩
  rintro v h' μ' H' c _ x1 r1 q1 ⟨μ1, h1, s1, p1⟩
  cases c with
  | true => exact ⟨μ1, e, h1, s1, p1⟩
  | false => exact ⟨μ1, e, h1, s1, p1⟩
variable {es : List PySem.Expr} {fs : SmL} {p : Pos} {x : Str}
theorem e_bltB {id : String} {F : List PV → Hv → R PV} (hc : CallR X (.builtin id) (RC g X.K W F)) (hg : Gl X x) (hm : X.mg x = none) (hv : bootBuiltins x = some (.builtin id)) (hn : x ≠ "__name__") (hd : (x == ("__debug__" : Str)) = false) (hs : PA X (a :: es) (TIL g X.K W fs)) (st : noStars (a :: es) = true) :
    PE X (.Call (.Name x p) (a :: es) [] pos) (TI g X.K W fun e h => (fs e h).bind F) := by
  obtain ⟨h1, h2⟩ := Bool.and_eq_true_iff.mp (show (notStar a && noStars es) = true from st)
  refine PE.imp (pe_callB hc hg hm hv hs hn hd (star_cons h1) (star_any h2)) ?_
  intro σ H Q t
  obtain ⟨μ, e, h, s, p⟩ := TIL.bind (fa := fs) (k := fun _ => F) t
  refine ⟨μ, e, h, s, PR.mono p ?_⟩
  rintro v h' μ' H' xs _ x1 r1 q1 ⟨μ1, e1, h1, v1, s1, q2, p2⟩
  exact ⟨μ1, h1, v1, σ, s1.rel, q2, p2⟩
theorem e_bltT {T : String} {F : List PV → Hv → R PV} (hc : CallR X (.type T) (RC g X.K W F)) (hg : Gl X x) (hm : X.mg x = none) (hv : bootBuiltins x = some (.type T)) (hn : x ≠ "__name__") (hd : (x == ("__debug__" : Str)) = false) (hs : PA X (a :: es) (TIL g X.K W fs)) (st : noStars (a :: es) = true) :
    PE X (.Call (.Name x p) (a :: es) [] pos) (TI g X.K W fun e h => (fs e h).bind F) := by
  obtain ⟨h1, h2⟩ := Bool.and_eq_true_iff.mp (show (notStar a && noStars es) = true from st)
  refine PE.imp (pe_callTy hc hg hm hv hs hn hd (star_cons h1) (star_any h2)) ?_
  intro σ H Q t
  obtain ⟨μ, e, h, s, p⟩ := TIL.bind (fa := fs) (k := fun _ => F) t
  refine ⟨μ, e, h, s, PR.mono p ?_⟩
  rintro v h' μ' H' xs _ x1 r1 q1 ⟨μ1, e1, h1, v1, s1, q2, p2⟩
  exact ⟨μ1, h1, v1, σ, s1.rel, q2, p2⟩
theorem e_blt {bl : Blt} (calm : X.calm = true) (gd : X.A.guards = some []) (hu : X.A.units + 64 < cLine) (ex : x = (bltName bl : Str)) (hg : Gl X x) (hm : X.mg x = none) (hs : PA X (a :: es) (TIL g X.K W fs)) (st : noStars (a :: es) = true) :
    PE X (.Call (.Name x p) (a :: es) [] pos) (TI g X.K W (cBlt bl fs)) := by
  subst ex
  cases bl
  · exact e_bltB c_len hg hm boot_len (by decide) (by decide) hs st
  · exact e_bltT c_tuple hg hm (by decide +kernel) (by decide) (by decide) hs st
  · exact e_bltT c_list hg hm (by decide +kernel) (by decide) (by decide) hs st
  · exact e_bltT c_str hg hm (by decide +kernel) (by decide) (by decide) hs st
  · exact e_bltT c_int hg hm (by decide +kernel) (by decide) (by decide) hs st
  · exact e_bltB (c_repr gd hu) hg hm (by decide +kernel) (by decide) (by decide) hs st
  · exact e_bltB (c_min calm) hg hm (by decide +kernel) (by decide) (by decide) hs st
  · exact e_bltB (c_max calm) hg hm (by decide +kernel) (by decide) (by decide) hs st
theorem e_call {N : List Str} {T : List Fn} {cn : List Str} {C : List PV} {fr : List Str} {k : Nat} {cf : Nat → List PV → Hv → R PV} {sc : Scope} (ct : Ct X g W N T cn C fr k cf sc) {f : Nat} {fn : Fn} (hf : T[f]? = some fn) (ex : fn.name = x) (hg : Gl X x) (hd : (x == ("__debug__" : Str)) = false)
    (hs : PA X (a :: es) (TIL g X.K W fs)) (st : noStars (a :: es) = true) (hl : ∀ e h vs h', fs e h = .ok vs h' → vs.length = (a :: es).length) (n1 : (a :: es).length ≤ fn.np) (n2 : fn.np ≤ (a :: es).length + fn.dfl.length) :
    PE X (.Call (.Name x p) (a :: es) [] pos) (TI g X.K W (cCall cf f fs)) := by
  obtain ⟨h1, h2⟩ := Bool.and_eq_true_iff.mp (show (notStar a && noStars es) = true from st)
  obtain ⟨fa', fd, ps, hm, hk, hps, hb, F⟩ := ct.gf.fn f fn hf
  rw [ex] at hm
  obtain ⟨dvs, ds, ed, hv, hn, bd⟩ := hb (a :: es).length n1 n2
  refine ⟨fun pins s σ H Q I t => ?_⟩
  obtain ⟨μ, e, h, st0, q⟩ := t
  have q0 : PR g X.K (RepR X.K) Q W σ μ H ((fs e h).bind fun vs h1 => cf f vs h1) := q
  refine wpAny_Call_Name_kw (ld_glob I hg hm ?_ hd)
  refine PySem.W.callWith_K (h₀ := X.base) I.ok.mod.kin hk ?_ (star_cons h1) (star_any h2)
  refine thn (hs.run pos pins s σ H _ I ⟨μ, e, h, st0, PR.bind (rel := RepsR X.K) q0⟩) ?_
  rintro us s1 ⟨vs, H1, I1, r, v1, h1', μ1, x2, r2, q2, eq, p2⟩
  refine ⟨I1.kIn, ?_⟩
  refine runG F ct.room ct.gd bd hv ct.tk I1 r ?_
  have len := hl _ _ _ _ eq
  refine ⟨?_, μ1, h1', fillD fn.np fn.dfl v1, σ, r2, ?_, ?_⟩
  · rw [List.length_append, ← q2.length, len, hn]
  · unfold fillD
    refine q2.append ?_
    rw [len]
    clear bd hv hn
    generalize fn.dfl.drop (fn.dfl.length - (fn.np - (a :: es).length)) = l at ed
    induction l generalizing dvs with
    | nil => cases dvs with
      | nil => exact .nil
      | cons _ _ => cases ed
    | cons y l ih => cases dvs with
      | nil => cases ed
      | cons z dvs =>
        injection ed with e1 e2
        exact .cons (atom_rep e1) (ih _ e2)
  · show PR g X.K (RepR X.K) Q _ σ μ1 H1 (cf f (fillD fn.np fn.dfl v1) h1')
    rw [← ct.gf.len f fn v1 h1' hf (by rw [len]; exact n1) (by rw [len]; exact n2)]
    exact p2
def kindName : Option Ty → String
  | none => "NoneType"
  | some t => tyName t
theorem tyX_of {K : Fr} {H : Hp} {μ : List Addr} {h : Hv} {v : PV} {y : V} (r : Rel K μ h H) (q : Rep K H μ v y) (ok : locOk h v = true) : TyX K H y (.type (kindName (tyP h v))) := by
  cases q with
  | non => exact .base .non
  | bl b => exact .base (.bl b)
  | int i => exact .base (.int i)
  | str z => exact .base (.str z)
  | tup t q =>
    rcases t with t | ⟨o, its, n, k1, k2, k3⟩
    · rcases t with t | ⟨o, t⟩
      · exact .base (.tup t)
      · exact .fTuple t
    · exact .kTuple k1 k2
  | loc m =>
    rename_i l ad
    have ok' : (match nth h l with | some (.lst _) => true | _ => false) = true := ok
    rw [nth_eq] at ok'
    cases e : h[l]? with
    | none => rw [e] at ok'; cases ok'
    | some o =>
      cases o with
      | dct _ => rw [e] at ok'; cases ok'
      | lst xs =>
        obtain ⟨vs, h1, _⟩ := r.ob l _ _ e m
        show TyX K H (.ref ad) (.type (kindName (match nth h l with | some (.lst _) => some .list | some (.dct _) => some .dict | none => none)))
        rw [nth_eq, e]
        exact .base (.lst h1)
theorem kit_tab (k : Option Ty) (t : Ty) : kitB (kindName k) (tyName t) = some (isTy k t) := by
  cases k with
  | none => cases t <;> decide +kernel
  | some k => cases k <;> cases t <;> decide +kernel
theorem kit_any {K : Fr} (k : Option Ty) : ∀ ts : List Ty, PySem.W.kitAny K (.type (kindName k)) (ts.map fun t => .type (tyName t)) = some (ts.any (isTy k))
  | [] => kitAny_nil
  | t :: ts => by
    have h := kit_ty (K := K) (kit_tab k t)
    rw [List.any_cons]
    refine kitAny_cons h (fun e => ?_) (fun e => by rw [e]; rfl)
    rw [e, Bool.false_or]
    exact kit_any k ts
theorem boot_ty (t : Ty) : bootBuiltins (tyName t : Str) = some (.type (tyName t)) := by cases t <;> decide +kernel
theorem ty_ne (t : Ty) : (tyName t : Str) ≠ "__name__" := by cases t <;> decide
theorem ty_nd (t : Ty) : ((tyName t : Str) == ("__debug__" : Str)) = false := by cases t <;> decide
theorem e_ty {t : Ty} (h : Gl X (tyName t : Str)) (hm : X.mg (tyName t : Str) = none) : PE X (.Name (tyName t : Str) pos) (tC (.ty (tyName t))) := pe_bltn h hm (boot_ty t) rfl (ty_ne t) (ty_nd t)
theorem ckTy_ok {sc : Scope} {t : Ty} {e : PySem.Expr} (h : ckTy sc t e = true) : ∃ p, e = .Name (tyName t : Str) p ∧ gl sc (tyName t : Str) = true := by
  cases e <;> first | exact (Bool.false_ne_true h).elim | skip
  rename_i x p
  obtain ⟨h1, h2⟩ := Bool.and_eq_true_iff.mp (show (decide (x = (tyName t : Str)) && gl sc x) = true from h)
  have := of_decide_eq_true h1
  subst this
  exact ⟨p, rfl, h2⟩
theorem l_tys {sc : Scope} (hsc : X.env.scope = sc) (hm : ∀ t : Ty, X.mg (tyName t : Str) = none) : ∀ {ts : List Ty} {es : List PySem.Expr}, ckTys sc ts es = true → PA X es (fun _ H Q => Q (ts.map fun t => V.ty (tyName t)) H) ∧ es.length = ts.length
  | [], [], _ => ⟨pa_nil, rfl⟩
  | [], _ :: _, h => (Bool.false_ne_true h).elim
  | _ :: _, [], h => (Bool.false_ne_true h).elim
  | t :: ts, e :: es, h => by
    obtain ⟨h1, h2⟩ := Bool.and_eq_true_iff.mp (show (ckTy sc t e && ckTys sc ts es) = true from h)
    obtain ⟨q, rfl, hg⟩ := ckTy_ok h1
    obtain ⟨r, l⟩ := l_tys hsc hm h2
    have hg' : Gl X (tyName t : Str) := by unfold Gl Env.kindOf; rw [hsc]; exact of_decide_eq_true hg
    exact ⟨PA.imp (pa_cons (e_ty hg' (hm t)) r) fun σ H Q k => k, by simp [l]⟩
theorem cls_ty : ∀ ts : List Ty, Paired ClsV (ts.map fun t => V.ty (tyName t)) (ts.map fun t => Value.type (tyName t))
  | [] => .nil
  | t :: ts => .cons (.ty _) (cls_ty ts)
theorem e_isi {sc : Scope} {ts : List Ty} {t : PySem.Expr} (hsc : X.env.scope = sc) (hm : ∀ t : Ty, X.mg (tyName t : Str) = none) (hg : Gl X "isinstance") (hmi : X.mg "isinstance" = none) (ha : PE X a (TI g X.K W fa)) (st : notStar a = true) (h : ckIsi sc ts t = true) :
    PE X (.Call (.Name "isinstance" p) [a, t] [] pos) (TI g X.K W (cIsi fa ts)) := by
  have base : ∀ σ H Q, TI g X.K W (cIsi fa ts) σ H Q → TI g X.K W fa σ H fun x H1 => ∃ k, TyX X.K H1 x (.type (kindName k)) ∧ Q (.bl (ts.any (isTy k))) H1 ∧ ∀ q o, H1 q = none → Q (.bl (ts.any (isTy k))) (upd H1 q (.tup o)) ∧ TyX X.K (upd H1 q (.tup o)) x (.type (kindName k)) := by
    intro σ H Q t
    obtain ⟨μ, e, h, s, p⟩ := TI.bind (fa := fa) (k := fun _ x h1 => lenLe (locOk h1 x) (.ok (.bl (isAny h1 x ts)) h1)) t
    refine ⟨μ, e, h, s, PR.mono p ?_⟩
    rintro v h' μ' H' x _ x1 r1 q1 ⟨μ1, e1, h1, v1, s1, q2, p2⟩
    obtain ⟨ok, p3⟩ := lenLe_PR p2
    refine ⟨tyP h1 v1, tyX_of s1.rel q2 ok, PR.ok (v := PV.bl _) p3 s1.rel (.bl _), fun q o n => ?_⟩
    have r3 := s1.rel.newTup (o := .tup o) n
    exact ⟨p3 μ1 _ _ (Ext.newTup n) r3 (.bl _), tyX_of r3 (q2.ext s1.rel (Ext.newTup n)) ok⟩
  cases t <;> first | exact (Bool.false_ne_true h).elim | skip
  case Name y q =>
    match ts, h with
    | [t], h =>
      obtain ⟨q', e, hgt⟩ := ckTy_ok (show ckTy sc t (.Name y q) = true from h)
      cases e
      have hg' : Gl X (tyName t : Str) := by unfold Gl Env.kindOf; rw [hsc]; exact of_decide_eq_true hgt
      refine PE.imp (pe_callB call_isi hg hmi (by decide +kernel) (pa_cons ha (pa_cons (e_ty hg' (hm t)) pa_nil) (star_cons st)) (by decide) (by decide) (star_cons st) rfl) ?_
      intro σ H Q k
      obtain ⟨μ, e, h, s, p⟩ := base σ H Q k
      refine ⟨μ, e, h, s, PR.mono p ?_⟩
      rintro v h' μ' H' x _ x1 r1 q1 ⟨kd, ty, q, _⟩
      refine ⟨x, .ty (tyName t), _, _, _, rfl, .ty _, ty, kit_ty (kit_tab kd t), ?_⟩
      simpa using q
    | [], h => exact (Bool.false_ne_true h).elim
    | _ :: _ :: _, h => exact (Bool.false_ne_true h).elim
  case Tuple ls k q =>
    obtain ⟨h1, h2⟩ := Bool.and_eq_true_iff.mp (show (ckTys sc ts ls && decide (ls.length ≤ 100)) = true from h)
    obtain ⟨pa, ll⟩ := l_tys hsc hm h1
    refine PE.imp (pe_callB call_isiT hg hmi (by decide +kernel) (pa_cons ha (pa_cons (pe_tup pa) pa_nil) (star_cons st)) (by decide) (by decide) (star_cons st) rfl) ?_
    intro σ H Q k
    obtain ⟨μ, e, h, s, p⟩ := base σ H Q k
    refine ⟨μ, e, h, s, PR.mono p ?_⟩
    rintro v h' μ' H' x _ x1 r1 q1 ⟨kd, _, _, q⟩
    refine ⟨by rw [List.length_map, ← ll]; have := of_decide_eq_true h2; have := sizeLine_eq; omega, fun tp n => ?_⟩
    obtain ⟨q2, ty⟩ := q tp (ts.map fun t => V.ty (tyName t)) n
    exact ⟨x, tp, _, _, _, _, rfl, upd_same, cls_ty ts, ty, kit_any kd ts, q2⟩
end
end MP
namespace MP
open PySem L2 PySem.Spec PyProof.Rows
variable [Wd]
section
variable {X : Cx} {g : GC} {W : WX} {pos p1 p2 p3 : Pos} {a b c : PySem.Expr} {fa fb fc : Sm}
theorem e_sub (hx : IxR X (RO2 g X.K W sub_)) (ha : PE X a (TI g X.K W fa)) (hb : PE X b (TI g X.K W fb)) (hs : notSlice b = true) : PE X (.Subscript a b pos) (TI g X.K W (cSub fa fb)) :=
  PE.imp (pe_ix hx ha hb (plainIx_of hs)) fun σ H Q t => e_two t
theorem sIx_eq (n d : Nat) (o : Option Int) : sIx n d o = HT.sIx n d o := by cases o <;> rfl
theorem cut_eq (xs : List PV) (lo hi : Option Int) : cut xs lo hi = (xs.drop (HT.sIx xs.length 0 lo)).take (HT.sIx xs.length xs.length hi - HT.sIx xs.length 0 lo) := by
  unfold cut
  rw [forceN_eq, forceN_eq, sIx_eq, sIx_eq]
theorem Reps.cut {K : Fr} {H : Hp} {μ : List Addr} {xs : List PV} {vs : List V} (r : Reps K H μ xs vs) (lo hi : Option Int) : Reps K H μ (MP.cut xs lo hi) (cutV vs lo hi) := by
  rw [cut_eq, r.length]
  unfold cutV
  exact (r.drop _).take _
def SlP (g : GC) (K : Fr) (W : WX) : V → Option Int → Option Int → Hp → VK → Prop := fun x lo hi H Q => ∃ μ h a σ, Rel K μ h H ∧ Rep K H μ a x ∧ PR g K (RepR K) Q W σ μ H (slc_ a lo hi h)
theorem sl_all : SlR X (SlP g X.K W) := by
  intro pins s σ H x v vl vu lo hi sl Q I rx hs pl pu h
  obtain ⟨μ, h, a, σ0, R, ra, p⟩ := h
  cases a with
  | tup xs =>
    cases ra with
    | tup t q =>
      refine sl_tupA pins s σ H _ v vl vu lo hi sl Q I rx hs pl pu ⟨_, _, rfl, t, fun hw => ?_, fun _ ad n => newT_PR R (q.cut lo hi) p n⟩
      have p' : PR g X.K (RepR X.K) Q W σ0 μ H (.ok (.tup (MP.cut xs lo hi)) h) := p
      rw [cut_eq, q.length, hw.1, hw.2] at p'
      rw [List.drop_zero, Nat.sub_zero, ← q.length, List.take_length] at p'
      exact PR.ok (v := PV.tup xs) p' R (.tup t q)
  | loc l =>
    obtain ⟨xs, e, p2⟩ := atLst (f := fun xs => newL h (MP.cut xs lo hi)) p
    obtain ⟨ad, vs, rfl, m, hH, t⟩ := loc_lst R ra e
    exact sl_list pins s σ H _ v vl vu lo hi sl Q I rx hs pl pu ⟨_, _, rfl, SqL.of hH, fun q n => newL_PR R (t.cut lo hi) p2 n⟩
  | non => exact p.elim
  | bl _ => exact p.elim
  | int _ => exact p.elim
  | str _ => exact p.elim
/-- a slice's part -/
def TO_ (g : GC) (K : Fr) (W : WX) (n : Bool) (f : Sm) : TO := fun σ H Q => ∃ μ e h, Stt K μ e h σ H ∧ PR g K (fun _ _ (a b : Option Int) => a = b) Q W σ μ H (toO n (f e h) h)
theorem po_non : PO X none (TO_ g X.K W true fa) := by
  refine ⟨fun pins s σ H Q I t => po_none.run pins s σ H Q I ?_⟩
  obtain ⟨μ, e, h, st, p⟩ := t
  exact PR.ok (v := (none : Option Int)) p st.rel rfl
theorem po_one (ha : PE X a (TI g X.K W fa)) : PO X (some a) (TO_ g X.K W false fa) := by
  refine ⟨fun pins s σ H Q I t => (po_some ha).run pins s σ H Q I ?_⟩
  obtain ⟨μ, e, h, st, p⟩ := t
  refine ⟨μ, e, h, st, (PR.bind (rel := RepR X.K) (show PR g X.K _ Q W σ μ H ((fa e h).bind intO) from p)).mono ?_⟩
  rintro v h' μ' H' x _ x1 r1 q1 ⟨w, h1, μ1, x2, r2, q2, _, p2⟩
  cases w with
  | int i => cases q2; exact ⟨i, rfl, PR.ok (v := some i) p2 r2 rfl⟩
  | _ => exact p2.elim
theorem PR.map {α β γ δ : Type} {K : Fr} {rel : Hp → List Addr → α → β → Prop} {rel2 : Hp → List Addr → γ → δ → Prop} {Q2 : δ → Hp → Prop} {σ : L2.St} {μ : List Addr} {H : Hp} {e : Ev} {h : Hv} {r : R α} {k : α → Hv → R γ} (s : Stt K μ e h σ H) (p : PR g K rel2 Q2 W σ μ H (r.bind k)) :
    PR g K rel (fun x H1 => ∃ v h1 μ1, Ext μ H μ1 H1 ∧ Stt K μ1 e h1 σ H1 ∧ rel H1 μ1 v x ∧ r = .ok v h1 ∧ PR g K rel2 Q2 W σ μ1 H1 (k v h1)) W σ μ H r :=
  (PR.bind p).mono fun v h' μ' H' x _ x1 r1 q1 ⟨w, h1, μ1, x2, r2, q2, e2, p2⟩ => ⟨w, h1, μ1, x2, s.ext x2 r2, q2, e2, p2⟩
theorem e_slc {n1 n2 : Bool} {lo hi : Option PySem.Expr} (ha : PE X a (TI g X.K W fa)) (hl : PO X lo (TO_ g X.K W n1 fb)) (hu : PO X hi (TO_ g X.K W n2 fc)) : PE X (.Subscript a (.Slice lo hi none p2) pos) (TI g X.K W (cSlc n1 n2 fa fb fc)) := by
  refine PE.imp (pe_slice (sl_all (g := g) (W := W)) ha hl hu) ?_
  rintro σ H Q ⟨μ, e, h, s, p⟩
  have p0 : PR g X.K (RepR X.K) Q W σ μ H ((fa e h).bind fun x h1 => (toO n1 (fb e h1) h1).bind fun l h2 => (toO n2 (fc e h2) h2).bind fun u h3 => slc_ x l u h3) := p
  refine ⟨μ, e, h, s, (PR.map (rel := RepR X.K) s p0).mono ?_⟩
  rintro _ _ _ H' x _ _ _ _ ⟨v, h1, μ1, x1, s1, q1, _, p1⟩
  refine ⟨μ1, e, h1, s1, (PR.map s1 p1).mono ?_⟩
  rintro _ _ _ H2 l _ _ _ _ ⟨_, h2, μ2, x2, s2, rfl, _, p2⟩
  refine ⟨μ2, e, h2, s2, (PR.map s2 p2).mono ?_⟩
  rintro _ _ _ H3 u _ _ _ _ ⟨_, h3, μ3, x3, s3, rfl, _, p3⟩
  exact ⟨μ3, h3, v, σ, s3.rel, (q1.ext s1.rel x2).ext s2.rel x3, p3⟩
theorem e_rev {k : Nat} (ha : PE X a (TI g X.K W fa)) : PE X (.Subscript a (.Slice none none (some (.UnaryOp .USub (.Constant (.int 1) k p1) p2)) p3) pos) (TI g X.K W (cRev fa)) := by
  refine ⟨fun pins s σ H Q I t => ?_⟩
  obtain ⟨μ, e, h, st, p⟩ := t
  have p0 : PR g X.K (RepR X.K) Q W σ μ H ((fa e h).bind rev_) := p
  cases q : fa e h with
  | bad => rw [q] at p0; exact p0.elim
  | exc c v h' =>
    rw [q] at p0
    exact (pe_revL ha).run pins s σ H Q I ⟨μ, e, h, st, by rw [q]; exact p0⟩
  | ok v h' =>
    rw [q] at p0
    have p1 : PR g X.K (RepR X.K) Q W σ μ H (rev_ v h') := p0
    cases v with
    | tup xs =>
      refine (e_revT ha).run pins s σ H Q I ⟨μ, e, h, st, ?_⟩
      rw [q]
      intro μ1 H1 x x1 r1 q1
      cases q1 with
      | tup t q => exact ⟨_, _, rfl, t, fun ad n => newT_PR r1 q.reverse (PR.ext p1 x1) n⟩
    | loc l =>
      refine (pe_revL ha).run pins s σ H Q I ⟨μ, e, h, st, ?_⟩
      rw [q]
      intro μ1 H1 x x1 r1 q1
      obtain ⟨xs, e1, p2⟩ := atLst (f := fun xs => newL h' xs.reverse) (PR.ext p1 x1)
      obtain ⟨ad, vs, rfl, m, hH, t⟩ := loc_lst r1 q1 e1
      exact ⟨_, _, rfl, SqL.of hH, fun q n => newL_PR r1 t.reverse p2 n⟩
    | non => exact p1.elim
    | bl _ => exact p1.elim
    | int _ => exact p1.elim
    | str _ => exact p1.elim
theorem tyV_lst {K : Fr} {μ : List Addr} {H : Hp} {h : Hv} {v : PV} {x : V} (R : Rel K μ h H) (r : Rep K H μ v x) (ok : isLst h v = true) : tyV K "list" x H := by
  cases v with
  | loc l =>
    have ok' : (match nth h l with | some (.lst _) => true | _ => false) = true := ok
    rw [nth_eq] at ok'
    cases e : h[l]? with
    | none => rw [e] at ok'; cases ok'
    | some o =>
      cases o with
      | dct _ => rw [e] at ok'; cases ok'
      | lst xs =>
        obtain ⟨a, vs, rfl, m, hH, t⟩ := loc_lst R r e
        exact .inl ⟨rfl, vs, SqL.of hH⟩
  | _ => cases ok
def MtP (g : GC) (K : Fr) (W : WX) (m : Mth) : V → List V → Hp → VK → Prop := fun x vs H Q => ∃ μ h a us σ, Rel K μ h H ∧ Rep K H μ a x ∧ Reps K H μ us vs ∧ PR g K (RepR K) Q W σ μ H (mthF m a us h)
theorem mt_lst {m : Mth} {K : Fr} {σ : L2.St} {Q : VK} {μ : List Addr} {H : Hp} {h : Hv} {a : PV} {us : List PV} {x : V} (R : Rel K μ h H) (ra : Rep K H μ a x) (p : PR g K (RepR K) Q W σ μ H (mthF m a us h)) :
    ∃ l ad xs vs, x = .ref ad ∧ h[l]? = some (.lst xs) ∧ μ[l]? = some ad ∧ H ad = some (.lst vs) ∧ Reps K H μ xs vs ∧ PR g K (RepR K) Q W σ μ H (mthL m l h us (some (.lst xs))) := by
  cases a with
  | loc l =>
    have p1 : PR g K (RepR K) Q W σ μ H (mthL m l h us (nth h l)) := p
    rw [nth_eq] at p1
    cases e : h[l]? with
    | none => rw [e] at p1; exact p1.elim
    | some o =>
      rw [e] at p1
      cases o with
      | dct _ => exact p1.elim
      | lst xs =>
        obtain ⟨ad, vs, rfl, m, hH, t⟩ := loc_lst R ra e
        exact ⟨l, ad, xs, vs, rfl, e, m, hH, t, p1⟩
  | _ => exact p.elim
theorem m_append : MtR X "list.append" (MtP g X.K W .append) := by
  intro pins s σ H x vs v us Q I rx rv h
  obtain ⟨μ, h, a, ps, σ0, R, ra, rs, p⟩ := h
  obtain ⟨l, ad, xs, ws, rfl, e, m, hH, t, p1⟩ := mt_lst R ra p
  obtain ⟨y, rfl, p2⟩ := one_PR (f := appF l h xs) p1
  obtain ⟨y', rfl, ry⟩ := reps1 rs
  obtain ⟨ok, p3⟩ := lenLe_PR p2
  refine mt_append pins s σ H _ _ v us Q I rx rv ⟨ad, ws, y', rfl, rfl, hH, ?_, ?_⟩
  · rw [← t.length]; exact Nat.lt_of_succ_le (big_le ok)
  · rw [put_eq] at p3
    have x := Ext.write (μ := μ) (H := H) (o := HO.lst (ws ++ [y'])) (List.mem_of_getElem? m)
    exact p3 μ _ .non x (R.write m ⟨_, upd_same, (t.ext R x).append (.cons (ry.ext R x) .nil)⟩) .non
theorem m_pop : MtR X "list.pop" (MtP g X.K W .pop) := by
  intro pins s σ H x vs v us Q I rx rv h
  obtain ⟨μ, h, a, ps, σ0, R, ra, rs, p⟩ := h
  obtain ⟨l, ad, xs, ws, rfl, e, m, hH, t, p1⟩ := mt_lst R ra p
  cases rs with
  | cons _ _ => exact p1.elim
  | nil =>
    have p2 : PR g X.K (RepR X.K) Q W σ0 μ H (popR l h xs (nth xs (xs.length - 1))) := p1
    rw [nth_eq] at p2
    cases e2 : xs[xs.length - 1]? with
    | none => rw [e2] at p2; exact p2.elim
    | some y =>
      rw [e2] at p2
      obtain ⟨y', e3, ry⟩ := t.get e2
      refine mt_pop pins s σ H _ _ v us Q I rx rv ⟨ad, ws, y', rfl, rfl, hH, by rw [← t.length]; exact e3, ?_⟩
      have p3 : PR g X.K (RepR X.K) Q W σ0 μ H (.ok y (put h l (.lst xs.dropLast))) := p2
      rw [put_eq] at p3
      have x := Ext.write (μ := μ) (H := H) (o := HO.lst ws.dropLast) (List.mem_of_getElem? m)
      exact p3 μ _ y' x (R.write m ⟨_, upd_same, (t.ext R x).dropLast⟩) (ry.ext R x)
variable {apos cpos : Pos} {es : List PySem.Expr} {fs : SmL} {x : Str}
theorem e_mth0 {m : Mth} {id : String} (slot : Slot "list" x id) (hty : typeOf (.builtin id) = pure (.type "method_descriptor")) (hm : MtR X id (MtP g X.K W m)) (ha : PE X a (TI g X.K W fa)) (pb : plainBase a = true) (hline : (apos.endLine == cpos.line) = true) :
    PE X (.Call (.Attribute a x apos) [] [] cpos) (TI g X.K W (cMth m fa cNil)) := by
  refine PE.imp (pe_bm0 PySem.F.plainAttrs_list slot hty hm ha (base_ok pb) hline) ?_
  rintro σ H Q ⟨μ, e, h, s, p⟩
  have p0 : PR g X.K (RepR X.K) Q W σ μ H ((fa e h).bind fun x h1 => lenLe (isLst h1 x) (mthF m x [] h1)) := p
  refine ⟨μ, e, h, s, (PR.map (rel := RepR X.K) s p0).mono ?_⟩
  rintro _ _ _ H' x _ _ _ _ ⟨v, h1, μ1, x1, s1, q1, _, p1⟩
  obtain ⟨ok, p2⟩ := lenLe_PR p1
  exact ⟨tyV_lst s1.rel q1 ok, μ1, h1, v, [], σ, s1.rel, q1, .nil, p2⟩
theorem e_mthR {m : Mth} {id : String} {e0 : PySem.Expr} (slot : Slot "list" x id) (hty : typeOf (.builtin id) = pure (.type "method_descriptor")) (hm : MtR X id (MtP g X.K W m)) (ha : PE X a (TI g X.K W fa)) (hs : PA X (e0 :: es) (TIL g X.K W fs)) (st : noStars (e0 :: es) = true) (few : (e0 :: es).length ≤ 20) (pb : plainBase a = true) (hline : (apos.endLine == cpos.line) = true) :
    PE X (.Call (.Attribute a x apos) (e0 :: es) [] cpos) (TI g X.K W (cMth m fa fs)) := by
  obtain ⟨h1, h2⟩ := Bool.and_eq_true_iff.mp (show (notStar e0 && noStars es) = true from st)
  refine PE.imp (pe_bm PySem.F.plainAttrs_list slot hty hm ha hs (base_ok pb) ?_ hline (star_cons h1) (star_any h2)) ?_
  · rw [star_all st]
    show (true && true && decide ((e0 :: es).length + 0 + 0 < 30)) = true
    rw [decide_eq_true (by omega)]; rfl
  · rintro σ H Q ⟨μ, e, h, s, p⟩
    have p0 : PR g X.K (RepR X.K) Q W σ μ H ((fa e h).bind fun x h1 => lenLe (isLst h1 x) ((fs e h1).bind fun vs h2 => mthF m x vs h2)) := p
    refine ⟨μ, e, h, s, (PR.map (rel := RepR X.K) s p0).mono ?_⟩
    rintro _ _ _ H' x _ _ _ _ ⟨v, h1, μ1, x1, s1, q1, _, p1⟩
    obtain ⟨ok, p2⟩ := lenLe_PR p1
    refine ⟨tyV_lst s1.rel q1 ok, μ1, e, h1, s1, (PR.map (rel := RepsR X.K) s1 p2).mono ?_⟩
    rintro _ _ _ H2 xs _ _ _ _ ⟨vs, h2, μ2, x2, s2, q2, _, p3⟩
    exact ⟨μ2, h2, v, vs, σ, s2.rel, q1.ext s1.rel x2, q2, p3⟩
theorem e_mth {N : List Str} {T : List Fn} {cn : List Str} {sc : Scope} {C : List PV} {cf : Nat → List PV → Hv → R PV} {m : Mth} {ls : Es} (ex : x = (mthName m : Str)) (ha : PE X a (TI g X.K W fa)) (hc : ckL N T cn ls sc es = true) (hs : PA X es (TIL g X.K W (evL C cf ls))) (st : noStars es = true) (few : es.length ≤ 20) (pb : plainBase a = true) (hline : (apos.endLine == cpos.line) = true) :
    PE X (.Call (.Attribute a x apos) es [] cpos) (TI g X.K W (cMth m fa (evL C cf ls))) := by
  subst ex
  cases es with
  | nil =>
    cases ls with
    | cons _ _ => exact (Bool.false_ne_true hc).elim
    | nil =>
      cases m
      · exact e_mth0 PySem.F.slot_list_append PySem.F.type_list_append m_append ha pb hline
      · exact e_mth0 PySem.F.slot_list_pop PySem.F.type_list_pop m_pop ha pb hline
  | cons e es =>
    cases m
    · exact e_mthR PySem.F.slot_list_append PySem.F.type_list_append m_append ha hs st few pb hline
    · exact e_mthR PySem.F.slot_list_pop PySem.F.type_list_pop m_pop ha hs st few pb hline
end
end MP
namespace MP
open PySem L2 PySem.Spec PyProof.Rows
variable [Wd]
def WkR (K : Fr) (w : Wk) (J : It) (μ : List Addr) (H : Hp) : Prop := match w with
  | .tup xs => ∃ a vs, J = Itt K a ∧ SqT K H a vs ∧ Reps K H μ xs vs
  | .lst l => ∃ a, J = Itl K a ∧ μ[l]? = some a
  | .rng lo st n => (J = Itr lo n ∧ st = 1) ∨ J = Itc lo st n
  | .str x => ∃ z : Str, J = Its z ∧ z.cps.toList = x
theorem WkR.ext {K : Fr} {w : Wk} {J : It} {μ μ' : List Addr} {H H' : Hp} {h : Hv} (r : Rel K μ h H) (x : Ext μ H μ' H') (q : WkR K w J μ H) : WkR K w J μ' H' := by
  cases w with
  | tup xs => obtain ⟨a, vs, e, t, rs⟩ := q; exact ⟨a, vs, e, r.sqT x t, rs.ext r x⟩
  | lst l => obtain ⟨a, e, m⟩ := q; exact ⟨a, e, x.at_ m⟩
  | rng lo st n => exact q
  | str z => exact q
theorem nthW {h : Hv} {l i : Nat} {o : Option PV} (e : (match nth h l with | some (.lst xs) => some (nth xs i) | _ => none) = some o) : ∃ xs, h[l]? = some (.lst xs) ∧ xs[i]? = o := by
  rw [nth_eq] at e
  cases q : h[l]? with
  | none => rw [q] at e; cases e
  | some u =>
    rw [q] at e
    cases u with
    | dct _ => cases e
    | lst xs => exact ⟨xs, rfl, by rw [← nth_eq]; exact Option.some.inj e⟩
theorem sqT_inj {K : Fr} {H : Hp} {a : Addr} {xs ys : List V} (p : SqT K H a xs) (q : SqT K H a ys) (fr : K.lookup a = none → True) : True := trivial
theorem WkR.stop {K : Fr} {w : Wk} {J : It} {μ : List Addr} {H : Hp} {h : Hv} {i : Nat} (r : Rel K μ h H) (q : WkR K w J μ H) (e : w.at_ i h = some none) : J.stop i H := by
  cases w with
  | tup xs =>
    obtain ⟨a, vs, rfl, t, rs⟩ := q
    have e1 : nth xs i = none := Option.some.inj e
    rw [nth_eq] at e1
    exact ⟨vs, t, List.getElem?_eq_none_iff.mp (rs.getN e1)⟩
  | lst l =>
    obtain ⟨a, rfl, m⟩ := q
    obtain ⟨xs, e1, e2⟩ := nthW e
    obtain ⟨vs, hH, rs⟩ := r.ob l _ a e1 m
    exact ⟨vs, SqL.of hH, List.getElem?_eq_none_iff.mp (rs.getN e2)⟩
  | rng lo st n =>
    have e1 : atRng lo st i (Nat.ble (Nat.succ i) n) = some none := e
    have hn : n ≤ i := by
      refine Nat.le_of_not_lt fun z => ?_
      rw [show Nat.ble (Nat.succ i) n = true from Nat.ble_eq_true_of_le z] at e1
      have e2 : (mulI st (.ofNat i) fun k => addI lo k fun m => some (some (PV.int m))) = some none := e1
      rw [mulI_eq, addI_eq] at e2
      cases e2
    rcases q with ⟨rfl, _⟩ | rfl
    · exact hn
    · exact hn
  | str x =>
    obtain ⟨z, rfl, rfl⟩ := q
    have e1 : chrO (nth z.cps.toList i) = some none := e
    rw [nth_eq] at e1
    cases q : z.cps.toList[i]? with
    | some c => rw [q] at e1; cases e1
    | none =>
      have := List.getElem?_eq_none_iff.mp q
      rw [Array.length_toList] at this
      exact this
theorem WkR.go {K : Fr} {w : Wk} {J : It} {μ : List Addr} {H : Hp} {h : Hv} {i : Nat} {x : PV} (r : Rel K μ h H) (q : WkR K w J μ H) (e : w.at_ i h = some (some x)) : J.go i H ∧ ∀ y H', J.yld i H y H' → H' = H ∧ Rep K H μ x y := by
  cases w with
  | tup xs =>
    obtain ⟨a, vs, rfl, t, rs⟩ := q
    have e1 : nth xs i = some x := Option.some.inj e
    rw [nth_eq] at e1
    obtain ⟨v, e2, rv⟩ := rs.get e1
    refine ⟨⟨vs, v, t, e2⟩, fun y H' k => ⟨k.1, ?_⟩⟩
    have := k.2 vs t
    rw [e2] at this
    cases this
    exact rv
  | lst l =>
    obtain ⟨a, rfl, m⟩ := q
    obtain ⟨xs, e1, e2⟩ := nthW e
    obtain ⟨vs, hH, rs⟩ := r.ob l _ a e1 m
    obtain ⟨v, e3, rv⟩ := rs.get e2
    refine ⟨⟨vs, v, SqL.of hH, e3⟩, fun y H' k => ⟨k.1, ?_⟩⟩
    have := k.2 vs (SqL.of hH)
    rw [e3] at this
    cases this
    exact rv
  | rng lo st n =>
    have e1 : atRng lo st i (Nat.ble (Nat.succ i) n) = some (some x) := e
    have hn : i < n := by
      cases z : Nat.ble (Nat.succ i) n with
      | true => exact Nat.le_of_ble_eq_true z
      | false => rw [z] at e1; cases e1
    rw [show Nat.ble (Nat.succ i) n = true from Nat.ble_eq_true_of_le hn] at e1
    have e2 : (mulI st (.ofNat i) fun k => addI lo k fun m => some (some (PV.int m))) = some (some x) := e1
    rw [mulI_eq, addI_eq] at e2
    cases e2
    rcases q with ⟨rfl, rfl⟩ | rfl
    · refine ⟨hn, fun y H' k => ⟨k.1, ?_⟩⟩
      rw [k.2, Int.one_mul]
      exact .int _
    · refine ⟨hn, fun y H' k => ⟨k.1, ?_⟩⟩
      rw [k.2, Int.mul_comm st]
      exact .int _
  | str x =>
    obtain ⟨z, rfl, rfl⟩ := q
    have e1 : chrO (nth z.cps.toList i) = some (some _) := e
    rw [nth_eq] at e1
    cases q : z.cps.toList[i]? with
    | none => rw [q] at e1; cases e1
    | some c =>
      rw [q] at e1
      cases e1
      have q' : z.cps[i]? = some c := by rw [← Array.getElem?_toList]; exact q
      refine ⟨(Array.getElem?_eq_some_iff.mp q').1, fun y H' k => ⟨k.1, ?_⟩⟩
      obtain ⟨c', h1, rfl⟩ := k.2
      rw [q'] at h1
      cases h1
      exact .str _
/-- a walk, or nothing -/
noncomputable def ofW (o : Option Wk) (h : Hv) : R Wk := R.of o h
noncomputable def wkE (f : Sm) : Ev → Hv → R Wk := fun e h => (f e h).bind fun x h1 => ofW (walkOf h1 x) h1
noncomputable def wkR (f : SmL) : Ev → Hv → R Wk := fun e h => (f e h).bind fun vs h1 => ofW (rangeOf vs) h1
def TWk (g : GC) (K : Fr) (W : WX) (f : Ev → Hv → R Wk) : L2.TI := fun σ H R => ∃ μ e h, Stt K μ e h σ H ∧ PR g K (fun H1 μ1 w J => WkR K w J μ1 H1) R W σ μ H (f e h)
section
variable {X : Cx} {g : GC} {W : WX} {pos p1 p2 p3 : Pos} {a b c tg : PySem.Expr} {fa fb fc : Sm} {fs : SmL}
theorem i_val (ha : PE X a (TI g X.K W fa)) : PI X tg a (TWk g X.K W (wkE fa)) := by
  refine ⟨fun pins s σ H R I t => ?_⟩
  obtain ⟨μ, e, h, st, p⟩ := t
  have p0 : PR g X.K _ R W σ μ H ((fa e h).bind fun x h1 => ofW (walkOf h1 x) h1) := p
  cases q : fa e h with
  | bad => rw [q] at p0; exact p0.elim
  | exc c v h' =>
    rw [q] at p0
    exact (pi_list ha).run pins s σ H R I ⟨μ, e, h, st, by rw [q]; exact p0⟩
  | ok v h' =>
    rw [q] at p0
    have p1 : PR g X.K (fun H1 μ1 w J => WkR X.K w J μ1 H1) R W σ μ H (ofW (walkOf h' v) h') := p0
    cases v with
    | tup xs =>
      refine (pi_tup ha).run pins s σ H R I ⟨μ, e, h, st, ?_⟩
      rw [q]
      intro μ1 H1 x x1 r1 q1
      cases q1 with
      | tup t q => exact ⟨_, rfl, ⟨_, t⟩, p1 μ1 H1 _ x1 r1 ⟨_, _, rfl, t, q⟩⟩
    | str z =>
      refine (pi_str ha).run pins s σ H R I ⟨μ, e, h, st, ?_⟩
      rw [q]
      intro μ1 H1 x x1 r1 q1
      cases q1
      exact ⟨z, rfl, p1 μ1 H1 _ x1 r1 ⟨z, rfl, rfl⟩⟩
    | loc l =>
      refine (pi_list ha).run pins s σ H R I ⟨μ, e, h, st, ?_⟩
      rw [q]
      intro μ1 H1 x x1 r1 q1
      have p2 : PR g X.K (fun H1 μ1 w J => WkR X.K w J μ1 H1) R W σ μ H (ofW (lstW l (nth h' l)) h') := p1
      rw [nth_eq] at p2
      cases e1 : h'[l]? with
      | none => rw [e1] at p2; exact p2.elim
      | some u =>
        rw [e1] at p2
        cases u with
        | dct _ => exact p2.elim
        | lst xs =>
          obtain ⟨ad, vs, rfl, m, hH, t⟩ := loc_lst r1 q1 e1
          exact ⟨ad, rfl, ⟨vs, SqL.of hH⟩, p2 μ1 H1 _ x1 r1 ⟨ad, rfl, m⟩⟩
    | non => exact p1.elim
    | bl _ => exact p1.elim
    | int _ => exact p1.elim
theorem smallI_ok {i : Int} (h : smallI i = true) : -(2 ^ 62) ≤ i ∧ i < 2 ^ 62 := by
  unfold smallI at h
  rw [leI_eq, ltI_eq] at h
  obtain ⟨h1, h2⟩ := Bool.and_eq_true_iff.mp h
  have := of_decide_eq_true h1
  have := of_decide_eq_true h2
  have e1 : Int.negSucc 4611686018427387903 = -(2 ^ 62) := by decide
  have e2 : Int.ofNat 4611686018427387904 = 2 ^ 62 := by decide
  omega
theorem mkR_PR {b : Bool} {lo st : Int} {n : Nat} {h : Hv} {R : It → Hp → Prop} {K : Fr} {σ : L2.St} {μ : List Addr} {H : Hp} (p : PR g K (fun H1 μ1 w J => WkR K w J μ1 H1) R W σ μ H (ofW (mkR b lo st n) h)) :
    b = true ∧ PR g K (fun H1 μ1 w J => WkR K w J μ1 H1) R W σ μ H (.ok (.rng lo st n) h) := by
  cases b with
  | false => exact p.elim
  | true =>
    refine ⟨rfl, ?_⟩
    have p' : PR g K (fun H1 μ1 w J => WkR K w J μ1 H1) R W σ μ H (ofW (forceN n fun m => some (.rng lo st m)) h) := p
    rw [forceN_eq] at p'
    exact p'
theorem rangeOf_inv {vs : List PV} {w : Wk} (e : rangeOf vs = some w) : (∃ j, vs = [.int j]) ∨ (∃ i j, vs = [.int i, .int j]) ∨ (∃ i j, vs = [.int i, .int j, .int (.negSucc 0)]) ∨ ∃ i j k, vs = [.int i, .int j, .int (.ofNat k)] := by
  unfold rangeOf at e
  split at e
  · exact .inl ⟨_, rfl⟩
  · exact .inr (.inl ⟨_, _, rfl⟩)
  · rename_i i j c
    cases c with
    | ofNat k => exact .inr (.inr (.inr ⟨i, j, k, rfl⟩))
    | negSucc k =>
      cases k with
      | zero => exact .inr (.inr (.inl ⟨i, j, rfl⟩))
      | succ _ => cases e
  · cases e
theorem up_size (i j : Int) (k : Nat) (hk : 1 ≤ k) : Builtin.Range.rangeSize i j (k : Int) = (((j - i + (k : Int) - 1) / (k : Int)).toNat : Int) := by
  unfold Builtin.Range.rangeSize
  rw [if_pos (by omega)]
  have hk' : (0 : Int) < k := by omega
  split
  · rename_i h
    have e : j - i + (k : Int) - 1 = (j - i - 1) + 1 * (k : Int) := by omega
    rw [e, Int.add_mul_ediv_right _ _ (by omega)]
    have : 0 ≤ (j - i - 1) / (k : Int) := Int.ediv_nonneg (by omega) (by omega)
    omega
  · rename_i h
    have : (j - i + (k : Int) - 1) / (k : Int) ≤ 0 := by
      have := Int.ediv_le_ediv hk' (show j - i + (k : Int) - 1 ≤ (k : Int) - 1 by omega)
      rw [Int.ediv_eq_zero_of_lt (by omega) (by omega : (k : Int) - 1 < k)] at this
      exact this
    omega
theorem RgC.up {i j : Int} {k : Nat} (ha : -(2 ^ 62) ≤ i) (ha' : i < 2 ^ 62) (hb : -(2 ^ 62) ≤ j) (hb' : j < 2 ^ 62) (h1 : 1 ≤ k) (h2 : k ≤ 1000000) : L2.RgC i j (k : Int) ((j - i + (k : Int) - 1) / (k : Int)).toNat := by
  refine ⟨by omega, by omega, ?_, up_size i j k h1⟩
  have n1 := up_size i j k h1
  have n3 : (((j - i + (k : Int) - 1) / (k : Int)).toNat : Int) ≤ 2 ^ 63 - 1 := by
    by_cases h : 0 ≤ j - i - 1
    · have e : j - i + (k : Int) - 1 = (j - i - 1) + 1 * (k : Int) := by omega
      rw [e, Int.add_mul_ediv_right _ _ (by omega)]
      have := Int.ediv_le_self (k : Int) h
      omega
    · have : (j - i + (k : Int) - 1) / (k : Int) ≤ 0 := by
        have := Int.ediv_le_ediv (show (0 : Int) < k by omega) (show j - i + (k : Int) - 1 ≤ (k : Int) - 1 by omega)
        rw [Int.ediv_eq_zero_of_lt (by omega) (by omega : (k : Int) - 1 < k)] at this
        exact this
      omega
  unfold Builtin.Range.small
  rw [n1]
  simp only [Builtin.Range.rangeFitsLong, Bool.and_eq_true, Bool.or_eq_true, decide_eq_true_eq, beq_iff_eq]
  refine ⟨⟨⟨⟨⟨?_, ?_⟩, ⟨?_, ?_⟩⟩, ⟨?_, ?_⟩⟩, ⟨?_, ?_⟩⟩, .inr ?_⟩ <;> first | omega | skip
  rw [if_pos (show (k : Int) > 0 by omega)]
  rw [Bool.and_eq_true, decide_eq_true_eq, decide_eq_true_eq]
  exact ⟨by omega, by omega⟩
theorem reps_int1 {K : Fr} {H : Hp} {μ : List Addr} {j : Int} {xs : List V} (r : Reps K H μ [.int j] xs) : xs = [.int j] := by
  obtain ⟨x, rfl, q⟩ := reps1 r
  cases q; rfl
theorem reps_int2 {K : Fr} {H : Hp} {μ : List Addr} {i j : Int} {xs : List V} (r : Reps K H μ [.int i, .int j] xs) : xs = [.int i, .int j] := by
  obtain ⟨x, y, rfl, q1, q2⟩ := reps2 r
  cases q1; cases q2; rfl
theorem reps_int3 {K : Fr} {H : Hp} {μ : List Addr} {i j k : Int} {xs : List V} (r : Reps K H μ [.int i, .int j, .int k] xs) : xs = [.int i, .int j, .int k] := by
  cases r with
  | cons a r =>
    obtain ⟨x, y, rfl, q1, q2⟩ := reps2 r
    cases a; cases q1; cases q2; rfl
variable {es : List PySem.Expr}
theorem i_rng (hg : Gl X "range") (hm : X.mg "range" = none) (hs : PA X es (TIL g X.K W fs)) (hl : ∀ e h vs h', fs e h = .ok vs h' → vs.length = es.length) (st : noStars es = true) (few : 1 ≤ es.length ∧ es.length ≤ 3) : PI X tg (.Call (.Name "range" p1) es [] pos) (TWk g X.K W (wkR fs)) := by
  match es, few, hs, hl, st with
  | [a], _, hs, hl, st =>
    obtain ⟨h1, h2⟩ := Bool.and_eq_true_iff.mp (show (notStar a && noStars []) = true from st)
    refine ⟨fun pins s σ H R I t => (pi_range1 hg hm hs (star_cons h1)).run pins s σ H R I ?_⟩
    obtain ⟨μ, e, h, s', p⟩ := t
    refine ⟨μ, e, h, s', (PR.map s' (show PR g X.K _ R W σ μ H ((fs e h).bind fun vs h1 => ofW (rangeOf vs) h1) from p)).mono ?_⟩
    rintro _ _ _ H1 xs _ _ _ _ ⟨vs, h1, μ1, x1, s1, q1, eq, p1⟩
    have len := hl _ _ _ _ eq
    cases ew : rangeOf vs with
    | none => rw [ew] at p1; exact p1.elim
    | some w =>
      rcases rangeOf_inv ew with ⟨j, rfl⟩ | ⟨i, j, rfl⟩ | ⟨i, j, rfl⟩ | ⟨i, j, k, rfl⟩ <;> first | (exfalso; simp at len; done) | skip
      obtain ⟨ok, p2⟩ := mkR_PR (show PR g X.K _ R W σ μ1 H1 (ofW (mkR (smallI j) (.ofNat 0) (.ofNat 1) j.toNat) h1) from p1)
      obtain ⟨b1, b2⟩ := smallI_ok ok
      exact ⟨j, reps_int1 q1, b1, b2, p2 μ1 H1 _ .refl s1.rel (.inl ⟨rfl, rfl⟩)⟩
  | [a, b], _, hs, hl, st =>
    obtain ⟨h1, h2⟩ := Bool.and_eq_true_iff.mp (show (notStar a && noStars [b]) = true from st)
    obtain ⟨h3, h4⟩ := Bool.and_eq_true_iff.mp (show (notStar b && noStars []) = true from h2)
    refine ⟨fun pins s σ H R I t => (pi_range2 hg hm hs (by rw [star_cons h1, star_cons h3]; rfl) (star_cons h3)).run pins s σ H R I ?_⟩
    obtain ⟨μ, e, h, s', p⟩ := t
    refine ⟨μ, e, h, s', (PR.map s' (show PR g X.K _ R W σ μ H ((fs e h).bind fun vs h1 => ofW (rangeOf vs) h1) from p)).mono ?_⟩
    rintro _ _ _ H1 xs _ _ _ _ ⟨vs, h1, μ1, x1, s1, q1, eq, p1⟩
    have len := hl _ _ _ _ eq
    cases ew : rangeOf vs with
    | none => rw [ew] at p1; exact p1.elim
    | some w =>
      rcases rangeOf_inv ew with ⟨j, rfl⟩ | ⟨i, j, rfl⟩ | ⟨i, j, rfl⟩ | ⟨i, j, k, rfl⟩ <;> first | (exfalso; simp at len; done) | skip
      obtain ⟨ok, p2⟩ := mkR_PR (show PR g X.K _ R W σ μ1 H1 (ofW (mkR (smallI i && smallI j) i (.ofNat 1) (j - i).toNat) h1) from p1)
      obtain ⟨k1, k2⟩ := Bool.and_eq_true_iff.mp ok
      obtain ⟨b1, b2⟩ := smallI_ok k1
      obtain ⟨b3, b4⟩ := smallI_ok k2
      exact ⟨i, j, reps_int2 q1, ⟨b1, b2, b3, b4⟩, p2 μ1 H1 _ .refl s1.rel (.inl ⟨rfl, rfl⟩)⟩
  | [a, b, c], _, hs, hl, st =>
    obtain ⟨h1, h2⟩ := Bool.and_eq_true_iff.mp (show (notStar a && noStars [b, c]) = true from st)
    refine ⟨fun pins s σ H R I t => (pi_range3 hg hm hs (star_cons h1) (star_any h2)).run pins s σ H R I ?_⟩
    obtain ⟨μ, e, h, s', p⟩ := t
    refine ⟨μ, e, h, s', (PR.map s' (show PR g X.K _ R W σ μ H ((fs e h).bind fun vs h1 => ofW (rangeOf vs) h1) from p)).mono ?_⟩
    rintro _ _ _ H1 xs _ _ _ _ ⟨vs, h1, μ1, x1, s1, q1, eq, p1⟩
    have len := hl _ _ _ _ eq
    cases ew : rangeOf vs with
    | none => rw [ew] at p1; exact p1.elim
    | some w =>
      rcases rangeOf_inv ew with ⟨j, rfl⟩ | ⟨i, j, rfl⟩ | ⟨i, j, rfl⟩ | ⟨i, j, k, rfl⟩ <;> first | (exfalso; simp at len; done) | skip
      · obtain ⟨ok, p2⟩ := mkR_PR (show PR g X.K _ R W σ μ1 H1 (ofW (mkR (smallI i && smallI j) i (.negSucc 0) (i - j).toNat) h1) from p1)
        obtain ⟨k1, k2⟩ := Bool.and_eq_true_iff.mp ok
        obtain ⟨b1, b2⟩ := smallI_ok k1
        obtain ⟨b3, b4⟩ := smallI_ok k2
        exact ⟨i, j, -1, (i - j).toNat, reps_int3 q1, RgC.neg b1 b2 b3 b4, p2 μ1 H1 _ .refl s1.rel (.inr rfl)⟩
      · obtain ⟨ok, p2⟩ := mkR_PR (show PR g X.K _ R W σ μ1 H1 (ofW (mkR (smallI i && smallI j && Nat.ble 1 k && Nat.ble k 1000000) i (.ofNat k) ((j - i + (.ofNat k) - 1) / (.ofNat k)).toNat) h1) from p1)
        obtain ⟨ok, k4⟩ := Bool.and_eq_true_iff.mp ok
        obtain ⟨ok, k3⟩ := Bool.and_eq_true_iff.mp ok
        obtain ⟨k1, k2⟩ := Bool.and_eq_true_iff.mp ok
        obtain ⟨b1, b2⟩ := smallI_ok k1
        obtain ⟨b3, b4⟩ := smallI_ok k2
        exact ⟨i, j, (k : Int), _, reps_int3 q1, RgC.up b1 b2 b3 b4 (Nat.le_of_ble_eq_true k3) (Nat.le_of_ble_eq_true k4), p2 μ1 H1 _ .refl s1.rel (.inr rfl)⟩
def gNs : List Nat → TGs
  | [] => gNil
  | i :: is => gCons (gName i) (gNs is)
def gOf (K : Fr) : Tg → TG
  | .v i => gName i
  | .t is => gTup K is.length (gNs is)
def Kept (own : List Nat) (σ σ' : L2.St) : Prop := L2.wipe σ' own = L2.wipe σ own
theorem set_comm {α : Type} (l : List α) (i j : Nat) (a : α) : (l.set i a).set j a = (l.set j a).set i a := by
  by_cases h : i = j
  · rw [h]
  · exact List.set_comm _ _ h
theorem wipe_set_end (σ : L2.St) (i : Nat) : ∀ own : List Nat, L2.wipe (σ.set i none) own = (L2.wipe σ own).set i none
  | [] => rfl
  | v :: vs => by
    show (L2.wipe (σ.set i none) vs).set v none = ((L2.wipe σ vs).set v none).set i none
    rw [wipe_set_end σ i vs, set_comm]
theorem kept_set {σ : L2.St} {i : Nat} {o : Option V} : ∀ {own : List Nat}, i ∈ own → Kept own σ (σ.set i o)
  | v :: vs, h => by
    show (L2.wipe (σ.set i o) vs).set v none = (L2.wipe σ vs).set v none
    by_cases hm : i ∈ vs
    · rw [show L2.wipe (σ.set i o) vs = L2.wipe σ vs from kept_set hm]
    · rcases List.mem_cons.mp h with rfl | h
      · have go : ∀ (ws : List Nat) (o : Option V), i ∉ ws → L2.wipe (σ.set i o) ws = (L2.wipe σ ws).set i o := by
          intro ws
          induction ws with
          | nil => intro o _; rfl
          | cons w ws ih =>
            intro o hn
            show (L2.wipe (σ.set i o) ws).set w none = ((L2.wipe σ ws).set w none).set i o
            rw [ih o (fun z => hn (List.mem_cons_of_mem _ z)), List.set_comm _ _ (fun z => hn (by rw [z]; exact List.mem_cons_self))]
        rw [go vs o hm, List.set_set]
      · exact absurd h hm
theorem gNs_ok {K : Fr} {μ : List Addr} {h : Hv} {H : Hp} {own : List Nat} : ∀ (is : List Nat) (ys : List PV) (vs : List V) {e e2 : Ev} {σ : L2.St} {Q : L2.St → Hp → Prop}, (∀ i ∈ is, i ∈ own) → Stt K μ e h σ H → Reps K H μ ys vs → setNames is ys e = some e2 →
    (∀ σ', Stt K μ e2 h σ' H → Kept own σ σ' → Q σ' H) → gNs is vs σ H Q
  | [], [], [], e, e2, σ, Q, _, s, .nil, q, k => by
    have : e = e2 := Option.some.inj q
    subst this
    exact ⟨rfl, k σ s rfl⟩
  | [], _ :: _, _, _, _, _, _, _, _, _, q, _ => by cases q
  | _ :: _, [], _, _, _, _, _, _, _, _, q, _ => by cases q
  | i :: is, y :: ys, v :: vs, e, e2, σ, Q, sub, s, .cons r t, q, k => by
    refine ⟨v, vs, rfl, gNs_ok is ys vs (fun j hj => sub j (List.mem_cons_of_mem _ hj)) (s.set r) t ?_ fun σ' s' z => k σ' s' ?_⟩
    · have q' : setNames is ys (put e i (some y)) = some e2 := q
      rw [put_eq] at q'
      exact q'
    · exact z.trans (kept_set (sub i List.mem_cons_self))
theorem setNames_len : ∀ (is : List Nat) (ys : List PV) {e e2 : Ev}, setNames is ys e = some e2 → ys.length = is.length
  | [], [], _, _, _ => rfl
  | [], _ :: _, _, _, q => by cases q
  | _ :: _, [], _, _, q => by cases q
  | i :: is, y :: ys, e, e2, q => congrArg (· + 1) (setNames_len is ys (show setNames is ys (put e i (some y)) = some e2 from q))
theorem gOf_ok {K : Fr} {μ : List Addr} {h : Hv} {H : Hp} {own : List Nat} {t : Tg} {y : PV} {v : V} {e e2 : Ev} {σ : L2.St} {Q : L2.St → Hp → Prop} (sub : ∀ i ∈ tgSlots t, i ∈ own) (s : Stt K μ e h σ H) (r : Rep K H μ y v) (q : setTg t y e = some e2)
    (k : ∀ σ', Stt K μ e2 h σ' H → Kept own σ σ' → Q σ' H) : gOf K t v σ H Q := by
  cases t with
  | v i =>
    have : put e i (some y) = e2 := Option.some.inj q
    subst this
    rw [put_eq] at k
    exact k _ (s.set r) (kept_set (sub i List.mem_cons_self))
  | t is =>
    cases y with
    | tup ys =>
      cases r with
      | tup t rs =>
        have q' : setNames is ys e = some e2 := q
        exact ⟨_, _, rfl, t, by rw [← rs.length]; exact setNames_len is ys q', gNs_ok is ys _ sub s rs q' k⟩
    | _ => cases q
theorem nm_ok {N : List Str} {sc : Scope} (nd : X.N.Nodup) (hN : X.N = N) (hl : ∀ x, (sc.names.lookup x = some .local ∨ sc.names.lookup x = some .cell) → L2.Loc X.env.scope x ∧ (X.fn x = true ∨ X.env.scope.names.lookup x = some .local)) {i : Nat} {e : PySem.Expr} (h : nmAt N sc i e = true) : PG X e (gName i) ∧ ∀ es, (assignEach (e :: es) X.env).map (·.2) = assign e X.env :: (assignEach es X.env).map (·.2) ∧ (assignEach (e :: es) X.env).length = (assignEach es X.env).length + 1 ∧ ((assignEach es X.env).findIdx? (·.1) = none → (assignEach (e :: es) X.env).findIdx? (·.1) = none) := by
  cases e <;> first | exact (Bool.false_ne_true h).elim | skip
  rename_i x p
  obtain ⟨h1, h2⟩ := Bool.and_eq_true_iff.mp (show (isAt N i x && loc_ sc x) = true from h)
  have hi : N[i]? = some x := of_decide_eq_true h1
  have hx : sc.names.lookup x = some .local ∨ sc.names.lookup x = some .cell := by
    have h2' : (match sc.names.lookup x with | some .local => true | some .cell => true | _ => false) = true := h2
    split at h2'
    · exact .inl ‹_›
    · exact .inr ‹_›
    · cases h2'
  refine ⟨pg_name nd (by rw [hN]; exact hi) (hl x hx).1 (hl x hx).2, fun es => ⟨rfl, rfl, fun z => ?_⟩⟩
  · show List.findIdx? (·.1) ((false, assign (.Name x p) X.env) :: assignEach es X.env) = none
    rw [List.findIdx?_cons, z]; rfl
theorem nms_ok {N : List Str} {sc : Scope} (nd : X.N.Nodup) (hN : X.N = N) (hl : ∀ x, (sc.names.lookup x = some .local ∨ sc.names.lookup x = some .cell) → L2.Loc X.env.scope x ∧ (X.fn x = true ∨ X.env.scope.names.lookup x = some .local)) : ∀ {is : List Nat} {es : List PySem.Expr}, nmsAt N sc is es = true → PGs X es (gNs is) ∧ (assignEach es X.env).length = is.length ∧ (assignEach es X.env).findIdx? (·.1) = none
  | [], [], _ => ⟨pgs_nil, rfl, rfl⟩
  | [], _ :: _, h => (Bool.false_ne_true h).elim
  | _ :: _, [], h => (Bool.false_ne_true h).elim
  | i :: is, e :: es, h => by
    obtain ⟨h1, h2⟩ := Bool.and_eq_true_iff.mp (show (nmAt N sc i e && nmsAt N sc is es) = true from h)
    obtain ⟨p, q⟩ := nm_ok nd hN hl h1
    obtain ⟨r, l, f⟩ := nms_ok nd hN hl h2
    obtain ⟨q1, q2, q3⟩ := q es
    exact ⟨pgs_cons p r q1, by rw [q2, l]; rfl, q3 f⟩
theorem tg_ok {N : List Str} {sc : Scope} (calm : X.calm = true) (nd : X.N.Nodup) (hN : X.N = N) (hl : ∀ x, (sc.names.lookup x = some .local ∨ sc.names.lookup x = some .cell) → L2.Loc X.env.scope x ∧ (X.fn x = true ∨ X.env.scope.names.lookup x = some .local)) {t : Tg} {e : PySem.Expr} (h : ckTg N sc t e = true) : PG X e (gOf X.K t) := by
  cases t with
  | v i => exact (nm_ok nd hN hl h).1
  | t is =>
    cases e <;> first | exact (Bool.false_ne_true h).elim | skip
    rename_i es k p
    obtain ⟨r, l, f⟩ := nms_ok nd hN hl (show nmsAt N sc is es = true from h)
    exact pg_tup calm r l f
end
end MP
namespace MP
open PySem L2 PySem.Spec PyProof.Rows
variable [Wd]
theorem comp_eq (own : List Nat) (t : Tg) (it cond elt : Sm) : cComp own t it cond elt = fun e h => (wkE it e h).bind fun w h1 => cWalk own t cond elt (some w) e h1 := by
  funext e h
  show ((it e h).bind fun x h1 => cWalk own t cond elt (walkOf h1 x) e h1) = ((it e h).bind fun x h1 => ofW (walkOf h1 x) h1).bind fun w h1 => cWalk own t cond elt (some w) e h1
  cases it e h with
  | bad => rfl
  | exc _ _ _ => rfl
  | ok x h1 =>
    show cWalk own t cond elt (walkOf h1 x) e h1 = (ofW (walkOf h1 x) h1).bind fun w h1 => cWalk own t cond elt (some w) e h1
    cases walkOf h1 x <;> rfl
theorem compR_eq (own : List Nat) (t : Tg) (it : SmL) (cond elt : Sm) : cCompR own t it cond elt = fun e h => (wkR it e h).bind fun w h1 => cWalk own t cond elt (some w) e h1 := by
  funext e h
  show ((it e h).bind fun x h1 => cWalk own t cond elt (rangeOf x) e h1) = ((it e h).bind fun x h1 => ofW (rangeOf x) h1).bind fun w h1 => cWalk own t cond elt (some w) e h1
  cases it e h with
  | bad => rfl
  | exc _ _ _ => rfl
  | ok x h1 =>
    show cWalk own t cond elt (rangeOf x) e h1 = (ofW (rangeOf x) h1).bind fun w h1 => cWalk own t cond elt (some w) e h1
    cases rangeOf x <;> rfl
theorem wipe_idem (σ : L2.St) : ∀ own : List Nat, L2.wipe (L2.wipe σ own) own = L2.wipe σ own
  | [] => rfl
  | v :: vs => by
    show (L2.wipe ((L2.wipe σ vs).set v none) vs).set v none = (L2.wipe σ vs).set v none
    rw [wipe_set_end, wipe_idem σ vs, List.set_set]
abbrev noX : WX := fun _ _ _ _ => False
section
variable {X : Cx} {g : GC} {W : WX} {pos : Pos} {fc fl : Sm} {fw : Ev → Hv → R Wk}
theorem lc_t {t : Tg} {ow : List Nat} (sub : ∀ i ∈ tgSlots t, i ∈ ow) : ∀ σ H Q, TI g X.K W (fun e h => (fw e h).bind fun w h1 => cWalk ow t fc fl (some w) e h1) σ H Q → tLc (TWk g X.K W fw) (gOf X.K t) (TB g X.K noX fc) (TI g X.K noX fl) ow σ H Q := by
  rintro σ H Q ⟨μ, e, h, s, p⟩
  refine ⟨μ, e, h, s, (PR.map s p).mono ?_⟩
  rintro _ _ _ H1 J _ _ _ _ ⟨w, h1, μ1, x1, s1, q1, eq, p1⟩
  intro D hD
  have x2 : Ext μ1 H1 (μ1 ++ [D]) (upd H1 D (.lst [])) := Ext.newOb hD
  have r2 : Rel X.K (μ1 ++ [D]) (h1 ++ [.lst []]) (upd H1 D (.lst [])) := s1.rel.newOb hD ⟨[], upd_same, .nil⟩
  have s2 := (s1.ext x2 r2).wipe ow
  have m2 : (μ1 ++ [D])[h1.length]? = some D := by rw [← s1.rel.len]; simp
  have p1' : PR g X.K (RepR X.K) Q W σ μ1 H1 (compT w (fun y h2 => cIt t fc fl y (MP.wipe e ow) h2) h1.length (turns w h1) 0 (h1 ++ [.lst []])) := p1
  generalize h1.length = d at m2 p1'
  refine ⟨fun i m H => ∃ μ h, Stt X.K μ (MP.wipe e ow) h (L2.wipe σ ow) H ∧ WkR X.K w J μ H ∧ μ[d]? = some D ∧ PR g X.K (RepR X.K) Q W σ μ H (compT w (fun y h2 => cIt t fc fl y (MP.wipe e ow) h2) d m i h), ⟨turns w h1, _, _, s2, q1.ext s1.rel x2, m2, p1'.ext x2⟩, ?_⟩
  clear p1 p1' m2 s2 r2 x2 hD q1 s1 x1 p s
  rintro i m H ⟨μ2, h2, s2, w2, m2, p2⟩
  cases m with
  | zero => exact p2.elim
  | succ m =>
    have p3 : PR g X.K (RepR X.K) Q W σ μ2 H (cT1 (fun y h2 => cIt t fc fl y (MP.wipe e ow) h2) d (fun h' => compT w (fun y h2 => cIt t fc fl y (MP.wipe e ow) h2) d m (i + 1) h') (w.at_ i h2) h2) := p2
    cases ea : w.at_ i h2 with
    | none => rw [ea] at p3; exact p3.elim
    | some o =>
      rw [ea] at p3
      cases o with
      | none => exact .inl ⟨w2.stop s2.rel ea, PR.ok (v := PV.loc d) p3 s2.rel (.loc m2)⟩
      | some x =>
        obtain ⟨go, yl⟩ := w2.go s2.rel ea
        refine .inr ⟨go, fun H' => ∃ μ h, Stt X.K μ (MP.wipe e ow) h (L2.wipe σ ow) H' ∧ WkR X.K w J μ H' ∧ μ[d]? = some D ∧ PR g X.K (RepR X.K) Q W σ μ H' (compT w (fun y h2 => cIt t fc fl y (MP.wipe e ow) h2) d m (i + 1) h), fun H' z => ⟨m, Nat.lt_succ_self _, z⟩, fun y H' yd => ?_⟩
        obtain ⟨rfl, rx⟩ := yl y H' yd
        have p4 : PR g X.K (RepR X.K) Q W σ μ2 H' (cT2 d (fun h' => compT w (fun y h2 => cIt t fc fl y (MP.wipe e ow) h2) d m (i + 1) h') (match setTg t x (MP.wipe e ow) with | some e2 => stepC (fc e2 h2) (fun h3 => fl e2 h3) | none => .bad)) := p3
        cases et : setTg t x (MP.wipe e ow) with
        | none => rw [et] at p4; exact p4.elim
        | some e2 =>
          rw [et] at p4
          have p5 : PR g X.K (RepR X.K) Q W σ μ2 H' (cT2 d (fun h' => compT w (fun y h2 => cIt t fc fl y (MP.wipe e ow) h2) d m (i + 1) h') ((fc e2 h2).bind fun v h1 => stepB v h1 (fun h3 => fl e2 h3))) := p4
          clear p2 p3 p4
          refine gOf_ok sub s2 rx et fun σ2 s3 kp => ⟨kp.trans (wipe_idem σ ow), μ2, e2, h2, s3, ?_⟩
          cases ec : fc e2 h2 with
          | bad => rw [ec] at p5; exact p5.elim
          | exc _ _ _ => rw [ec] at p5; exact p5.elim
          | ok v h3 =>
            rw [ec] at p5
            have p6 : PR g X.K (RepR X.K) Q W σ μ2 H' (cT2 d (fun h' => compT w (fun y h2 => cIt t fc fl y (MP.wipe e ow) h2) d m (i + 1) h') (stepB v h3 (fun h3 => fl e2 h3))) := p5
            clear p5
            cases v with
            | bl b =>
              show PR g X.K EqR_ _ noX σ2 μ2 H' (.ok b h3)
              rintro μ3 H3 b' x3 r3 rfl
              have p7 := PR.ext p6 x3
              have s4 := s3.ext x3 r3
              have s5 := s2.ext x3 r3
              have w3 := w2.ext s2.rel x3
              cases b' with
              | false =>
                rw [if_neg (by decide)]
                exact ⟨μ3, h3, s5, w3, x3.at_ m2, p7⟩
              | true =>
                rw [if_pos rfl]
                refine ⟨μ3, e2, h3, s4, ?_⟩
                have p8 : PR g X.K (RepR X.K) Q W σ μ3 H3 (cT2 d (fun h' => compT w (fun y h2 => cIt t fc fl y (MP.wipe e ow) h2) d m (i + 1) h') ((fl e2 h3).bind fun y h => .ok (some y) h)) := p7
                cases ee : fl e2 h3 with
                | bad => rw [ee] at p8; exact p8.elim
                | exc _ _ _ => rw [ee] at p8; exact p8.elim
                | ok y h4 =>
                  rw [ee] at p8
                  rintro μ4 H4 y' x4 r4 q4
                  have p9 : PR g X.K (RepR X.K) Q W σ μ4 H4 (cT3 d y (fun h' => compT w (fun y h2 => cIt t fc fl y (MP.wipe e ow) h2) d m (i + 1) h') h4 (nth h4 d)) := PR.ext p8 x4
                  rw [nth_eq] at p9
                  have m4 := x4.at_ (x3.at_ m2)
                  cases eo : h4[d]? with
                  | none => rw [eo] at p9; exact p9.elim
                  | some u =>
                    rw [eo] at p9
                    cases u with
                    | dct _ => exact p9.elim
                    | lst acc =>
                      obtain ⟨okl, p10⟩ := lenLe_PR p9
                      obtain ⟨vs, hD4, rs⟩ := r4.ob d _ D eo m4
                      rw [put_eq] at p10
                      have s6 := s5.ext x4 r4
                      have x5 : Ext μ4 H4 μ4 (upd H4 D (.lst (vs ++ [y']))) := Ext.write (List.mem_of_getElem? m4)
                      have r5 : Rel X.K μ4 (h4.set d (.lst (acc ++ [y]))) (upd H4 D (.lst (vs ++ [y']))) := r4.write m4 ⟨_, upd_same, (rs.ext r4 x5).append (.cons (q4.ext r4 x5) .nil)⟩
                      refine ⟨vs, hD4, ?_, μ4, _, s6.ext x5 r5, (w3.ext s4.rel x4).ext r4 x5, m4, PR.ext p10 x5⟩
                      rw [← rs.length]; exact Nat.lt_of_succ_le (big_le okl)
            | non => exact p6.elim
            | int _ => exact p6.elim
            | str _ => exact p6.elim
            | tup _ => exact p6.elim
            | loc _ => exact p6.elim
theorem e_lc {elt tge iter : PySem.Expr} {ifs : List PySem.Expr} {scope : Scope} {own : List (Str × Nat)} {t : Tg} (calm : X.calm = true) (nd : X.N.Nodup) (hi : PI X tge iter (TWk g X.K W fw)) (ok : BlkOk X.N X.env.scope scope own)
    (hg : ∀ (s : Shared) (H : Hp) (C : Addr) (cl : List (Str × Addr)) (fp : List Addr), PG (X.blk s H scope (compEnvC scope cl C X.env) fp) tge (gOf X.K t)) (sub : ∀ i ∈ tgSlots t, i ∈ own.map (·.2))
    (ht : ∀ (s : Shared) (H : Hp) (C : Addr) (cl : List (Str × Addr)) (fp : List Addr), PTs (X.blk s H scope (compEnvC scope cl C X.env) fp) ifs (TB g X.K noX fc))
    (he : ∀ (s : Shared) (H : Hp) (C : Addr) (cl : List (Str × Addr)) (fp : List Addr), PE (X.blk s H scope (compEnvC scope cl C X.env) fp) elt (TI g X.K noX fl)) (hs : ∀ x, foldedSetIterable iter X.env x = pure x) :
    PE X (.ListComp elt [⟨tge, iter, ifs, 0⟩] scope pos) (TI g X.K W fun e h => (fw e h).bind fun w h1 => cWalk (own.map (·.2)) t fc fl (some w) e h1) := by
  exact PE.imp (pe_lc calm nd hi ok hg ht he hs) (lc_t sub)
/-- a local name takes the list -/
theorem s_lc {i : Nat} {y : Str} {py spos : Pos} {elt tge iter : PySem.Expr} {ifs : List PySem.Expr} {scope : Scope} {own : List (Str × Nat)} {t : Tg} (calm : X.calm = true) (nd : X.N.Nodup) (hy : X.N[i]? = some y) (hyl : X.env.scope.names.lookup y = some .local)
    (hsw : swapsWith (.ListComp elt [⟨tge, iter, ifs, 0⟩] scope pos) (some (.Name y py)) spos.line X.env = pure true) (hi : PI X tge iter (TWk g X.K W fw)) (ok : BlkOk X.N X.env.scope scope own)
    (hg : ∀ (s : Shared) (H : Hp) (C : Addr) (cl : List (Str × Addr)) (fp : List Addr), PG (X.blk s H scope (compEnvC scope cl C X.env) fp) tge (gOf X.K t)) (sub : ∀ i ∈ tgSlots t, i ∈ own.map (·.2))
    (ht : ∀ (s : Shared) (H : Hp) (C : Addr) (cl : List (Str × Addr)) (fp : List Addr), PTs (X.blk s H scope (compEnvC scope cl C X.env) fp) ifs (TB g X.K noX fc))
    (he : ∀ (s : Shared) (H : Hp) (C : Addr) (cl : List (Str × Addr)) (fp : List Addr), PE (X.blk s H scope (compEnvC scope cl C X.env) fp) elt (TI g X.K noX fl)) (hs : ∀ x, foldedSetIterable iter X.env x = pure x) :
    PS X (.Assign [.Name y py] (.ListComp elt [⟨tge, iter, ifs, 0⟩] scope pos) spos) (tAsg (TI g X.K W fun e h => (fw e h).bind fun w h1 => cWalk (own.map (·.2)) t fc fl (some w) e h1) (gName i)) :=
  ⟨fun pins s σ H D I q => (ps_setLc calm nd hy hyl hsw hi ok hg ht he hs).run pins s σ H D I (lc_t sub σ H _ q)⟩
theorem pts_yes : PTs X [] (TB g X.K W (cCst (.bl true))) := ⟨fun pins s σ H Q I t => pts_nil.run pins s σ H Q I (TB.bl t)⟩
end
end MP
namespace MP
open PySem L2 PySem.Spec PyProof.Rows
variable [Wd]
theorem Takes.no {X : Cx} : Takes X noX := fun _ _ x => by
  obtain ⟨_, _, _, _, _, _, _, _, _, _, _, _, _, _, _, _, z⟩ := x
  exact z.elim
/-- o[i] = v, by values -/
def SetP (K : Fr) : TSet := fun o i v H Q => ∃ μ h a b c h', Rel K μ h H ∧ Rep K H μ a o ∧ Rep K H μ b i ∧ Rep K H μ c v ∧ setF a b c h = some h' ∧ ∀ μ' H', Ext μ H μ' H' → Rel K μ' h' H' → Q H'
/-- what is known of dicts -/
structure DR (g : GC) : Prop where
  new : ∀ (X : Cx) (W : WX) (pos : Pos), PE X (.Dict [] [] pos) (TI g X.K W cDct0)
  inr : ∀ (X : Cx) (W : WX), X.w = Wd.w → X.A.units + 100 < cLine → InRules X g W
  sub : ∀ (X : Cx) (W : WX), X.w = Wd.w → X.A.units + 100 < cLine → IxR X (RO2 g X.K W sub_)
  set : ∀ (X : Cx), X.w = Wd.w → X.A.units + 100 < cLine → PSet X (SetP X.K)
def bltNames : List Str := ["len", "tuple", "list", "str", "int", "repr", "min", "max", "isinstance", "bool", "dict", "range"]
theorem lookup_map (f : Str → NameKind → NameKind) (x : Str) : ∀ l : List (Str × NameKind), (l.map fun p => (p.1, f p.1 p.2)).lookup x = (l.lookup x).map (f x)
  | [] => rfl
  | (n, k) :: r => by
    rw [List.map_cons, List.lookup_cons, List.lookup_cons]
    cases hb : x == n with
    | true => rw [eq_of_beq hb]; rfl
    | false => exact lookup_map f x r
def relK (sc : Scope) (n : Str) (k : NameKind) : NameKind := if (k == .free && sc.kind == .function && sc.names.lookup n == some .cell) then .cell else k
theorem relS_lookup (scope sc : Scope) (x : Str) : (relS scope sc).names.lookup x = (scope.names.lookup x).map (relK sc x) := by
  rw [← lookup_map]
  show List.lookup x (scope.names.map fun (n, k) => if (k == .free && sc.kind == .function && sc.names.lookup n == some .cell) then (n, .cell) else (n, k)) = _
  congr 1
  refine List.map_congr_left fun y _ => ?_
  obtain ⟨n, k⟩ := y
  show (if _ then _ else _) = (n, relK sc n k)
  unfold relK
  split <;> rfl
theorem relS_loc {scope sc : Scope} {x : Str} (h : scope.names.lookup x = some .local) : (relS scope sc).names.lookup x = some .local := by
  rw [relS_lookup, h]; rfl
theorem relS_cell {scope sc : Scope} {x : Str} (h : scope.names.lookup x = some .cell) : (relS scope sc).names.lookup x = some .cell := by
  rw [relS_lookup, h]; rfl
theorem relS_env {X : Cx} {sc scope : Scope} (h : X.env.scope = sc) {cl : List (Str × Addr)} {C : Addr} : (compEnvC scope cl C X.env).scope = relS scope sc := by
  subst h; rfl
theorem t_ite {X : Cx} {a b c : PySem.Expr} {pos : Pos} {tc ta tb : TT} (hc : PT X c tc) (ha : PT X a ta) (hb : PT X b tb) : PT X (.IfExp c a b pos) (fun σ H Q => tc σ H fun d H1 => if d = true then ta σ H1 Q else tb σ H1 Q) := by
  refine ⟨fun pins s σ H Q I t => ?_⟩
  rw [PySem.isTrue]
  refine wpAny_bind (thn (hc.run pins s σ H _ I t) fun d s1 ⟨H1, I1, q1⟩ => ?_)
  cases d with
  | true => exact ha.run pins s1 σ H1 Q I1 q1
  | false => exact hb.run pins s1 σ H1 Q I1 q1
theorem ite_tst {X : Cx} {g : GC} {W : WX} {a b c : PySem.Expr} {pos : Pos} {fa fb fc : Sm} (hc : PT X c (TB g X.K W fc)) (ha : PT X a (TB g X.K W fa)) (hb : PT X b (TB g X.K W fb)) : PT X (.IfExp c a b pos) (TB g X.K W (cIte fc fa fb)) :=
  PT.imp (t_ite hc ha hb) fun σ H Q t => TB.cond (fa := fc) (A := fa) (B := fb) t
theorem evL_len {C : List PV} {cf : Nat → List PV → Hv → R PV} {N : List Str} {T : List Fn} {cn : List Str} {sc : Scope} : ∀ (es : Es) {l : List PySem.Expr}, ckL N T cn es sc l = true → ∀ e h vs h', evL C cf es e h = .ok vs h' → vs.length = l.length
  | .nil, [], _, e, h, vs, h', q => by cases q; rfl
  | .nil, _ :: _, c, _, _, _, _, _ => (Bool.false_ne_true c).elim
  | .cons _ _, [], c, _, _, _, _, _ => (Bool.false_ne_true c).elim
  | .cons a es, x :: l, c, e, h, vs, h', q => by
    obtain ⟨c1, c2⟩ := Bool.and_eq_true_iff.mp (show (ck N T cn a sc x && ckL N T cn es sc l && notStar x) = true from c)
    obtain ⟨c3, c4⟩ := Bool.and_eq_true_iff.mp c1
    have q' : ((ev C cf a e h).bind fun x h1 => (evL C cf es e h1).bind fun xs h2 => .ok (x :: xs) h2) = .ok vs h' := q
    cases qa : ev C cf a e h with
    | bad => rw [qa] at q'; cases q'
    | exc _ _ _ => rw [qa] at q'; cases q'
    | ok y h1 =>
      rw [qa] at q'
      have q2 : ((evL C cf es e h1).bind fun xs h2 => R.ok (y :: xs) h2) = .ok vs h' := q'
      cases qb : evL C cf es e h1 with
      | bad => rw [qb] at q2; cases q2
      | exc _ _ _ => rw [qb] at q2; cases q2
      | ok ys h2 =>
        rw [qb] at q2
        cases q2
        exact congrArg (· + 1) (evL_len es c4 _ _ _ _ qb)
theorem ckL_stars {N : List Str} {T : List Fn} {cn : List Str} {sc : Scope} : ∀ (es : Es) {l : List PySem.Expr}, ckL N T cn es sc l = true → noStars l = true
  | .nil, [], _ => rfl
  | .nil, _ :: _, c => (Bool.false_ne_true c).elim
  | .cons _ _, [], c => (Bool.false_ne_true c).elim
  | .cons a es, x :: l, c => by
    obtain ⟨c1, c2⟩ := Bool.and_eq_true_iff.mp (show (ck N T cn a sc x && ckL N T cn es sc l && notStar x) = true from c)
    obtain ⟨c3, c4⟩ := Bool.and_eq_true_iff.mp c1
    show (notStar x && noStars l) = true
    rw [c2, ckL_stars es c4]; rfl
section
variable {X : Cx} {g : GC} {W : WX} {N : List Str} {T : List Fn} {cn : List Str} {C : List PV} {k : Nat} {cf : Nat → List PV → Hv → R PV} {sc : Scope}
theorem Ct.blk (ct : Ct X g W N T cn C bltNames k cf sc) (scope : Scope) (s : Shared) (H : Hp) (cl : List (Str × Addr)) (C' : Addr) (fp : List Addr) : Ct (X.blk s H scope (compEnvC scope cl C' X.env) fp) g noX N T cn C bltNames k cf (relS scope sc) :=
  ⟨relS_env ct.hsc, ct.hN, ct.ww, ct.nd, ct.calm, ct.room, ct.gd, Takes.no, ct.bl, ct.hcn, ct.cl, ct.gf⟩
theorem Ct.units (ct : Ct X g W N T cn C bltNames k cf sc) : X.A.units + 64 < cLine := by have := ct.room.un; omega
theorem Ct.unitsD (ct : Ct X g W N T cn C bltNames k cf sc) : X.A.units + 100 < cLine := by have := ct.room.un; omega
theorem Ct.gl (ct : Ct X g W N T cn C bltNames k cf sc) {x : Str} (h : gl sc x = true) : Gl X x := by
  unfold Gl Env.kindOf; rw [ct.hsc]; exact of_decide_eq_true h
theorem Ct.tyN (ct : Ct X g W N T cn C bltNames k cf sc) (t : Ty) : X.mg (tyName t : Str) = none := by
  apply ct.bl
  cases t <;> decide
theorem Ct.bltN (ct : Ct X g W N T cn C bltNames k cf sc) (b : Blt) : X.mg (bltName b : Str) = none := by
  apply ct.bl
  cases b <;> decide
end
theorem and2 {a b : Bool} (h : (a && b) = true) : a = true ∧ b = true := Bool.and_eq_true_iff.mp h
theorem not_dbg {x : Str} (h : (!dbg x) = true) : (x == ("__debug__" : Str)) = false := by
  have : dbg x = false := by simpa using h
  have h2 := of_decide_eq_false this
  exact beq_eq_false_iff_ne.mpr h2
theorem vis_ok {sc : Scope} {x : Str} (h : vis sc x = true) : Vis sc x := by
  unfold vis at h
  split at h
  · exact .inl ‹_›
  · exact .inr (.inl ‹_›)
  · exact .inr (.inr ‹_›)
  · cases h
/-- a value and a test -/
def isBo : PySem.Expr → Bool
  | .BoolOp _ _ _ => true
  | _ => false
structure Snd (X : Cx) (g : GC) (W : WX) (e : PySem.Expr) (f : Sm) : Prop where
  v : PE X e (TI g X.K W f)
  t : PT X e (TB g X.K W f)
  w : isBo e = true → PW X e (TB g X.K W f)
theorem Snd.of {X : Cx} {g : GC} {W : WX} {e : PySem.Expr} {f : Sm} (h : PE X e (TI g X.K W f)) (p : plainT e = true) (b : isBo e = false) : Snd X g W e f := ⟨h, t_val h p, fun z => by rw [b] at z; cases z⟩
theorem loc_rel {X : Cx} {sc scope : Scope} (hsc : X.env.scope = sc) {s : Shared} {H : Hp} {cl : List (Str × Addr)} {C : Addr} {fp : List Addr} : ∀ x, (scope.names.lookup x = some .local ∨ scope.names.lookup x = some .cell) →
    L2.Loc (X.blk s H scope (compEnvC scope cl C X.env) fp).env.scope x ∧ ((X.blk s H scope (compEnvC scope cl C X.env) fp).fn x = true ∨ (X.blk s H scope (compEnvC scope cl C X.env) fp).env.scope.names.lookup x = some .local) := by
  intro x h
  have e : (X.blk s H scope (compEnvC scope cl C X.env) fp).env.scope = relS scope sc := relS_env hsc
  rw [e]
  rcases h with h | h
  · exact ⟨.inl (relS_loc h), .inr (relS_loc h)⟩
  · refine ⟨.inr (relS_cell h), .inl ?_⟩
    show (scope.names.lookup x == some .cell) = true
    rw [h]; rfl
theorem own_map (N : List Str) (own : List Nat) : (ownOf N own).map (·.2) = own := by
  unfold ownOf
  rw [List.map_map]
  exact List.map_id _
section
variable {g : GC} {N : List Str} {T : List Fn} {cn : List Str} {C : List PV} {k : Nat} {cf : Nat → List PV → Hv → R PV}
theorem ifs_ok {X : Cx} {W : WX} {cond : Ex} {f : PySem.Expr → Bool} {ifs : List PySem.Expr} (h : ckIfs cond f ifs = true) (ih : ∀ c, f c = true → PT X c (TB g X.K W (ev C cf cond))) : PTs X ifs (TB g X.K W (ev C cf cond)) := by
  cases ifs with
  | nil =>
    have h' : isTrueC cond = true := h
    clear h
    unfold isTrueC at h'
    split at h'
    · exact pts_yes
    · cases h'
  | cons c r =>
    cases r with
    | nil => exact pts_one (ih c h)
    | cons _ _ => exact (Bool.false_ne_true h).elim
section
variable {X : Cx} {W : WX} {sc scope : Scope} {tge i el : PySem.Expr} {ifs : List PySem.Expr} {own : List Nat} {tg : Tg} {fc fl : Sm} {pos : Pos}
theorem e_lcN {fw : Ev → Hv → R Wk} (ct : Ct X g W N T cn C bltNames k cf sc) (hi : PI X tge i (TWk g X.K W fw)) (h2 : blkC N sc scope (ownOf N own) = true) (h3 : ckTg N scope tg tge = true) (h4 : (tgSlots tg).all (own.contains ·) = true)
    (ht : ∀ (s : Shared) (H : Hp) (C : Addr) (cl : List (Str × Addr)) (fp : List Addr), PTs (X.blk s H scope (compEnvC scope cl C X.env) fp) ifs (TB g X.K noX fc))
    (he : ∀ (s : Shared) (H : Hp) (C : Addr) (cl : List (Str × Addr)) (fp : List Addr), PE (X.blk s H scope (compEnvC scope cl C X.env) fp) el (TI g X.K noX fl)) (hs : ∀ x, foldedSetIterable i X.env x = pure x) :
    PE X (.ListComp el [⟨tge, i, ifs, 0⟩] scope pos) (TI g X.K W fun e h => (fw e h).bind fun w h1 => cWalk own tg fc fl (some w) e h1) := by
  have core := e_lc (X := X) (pos := pos) (own := ownOf N own) (scope := scope) (tge := tge) (iter := i) (elt := el) (g := g) (W := W) (fw := fw) (fc := fc) (fl := fl) (ifs := ifs) (t := tg) ct.calm (by rw [ct.hN]; exact ct.nd) hi (by rw [ct.hN, ct.hsc]; exact blkOk_by h2)
    (fun s H C' cl fp => tg_ok (X := X.blk s H scope (compEnvC scope cl C' X.env) fp) (N := N) (sc := scope) ct.calm (by show X.N.Nodup; rw [ct.hN]; exact ct.nd) ct.hN (loc_rel ct.hsc) h3)
    (by rw [own_map]; exact fun j hj => by simpa using List.all_eq_true.mp h4 j hj) ht he hs
  rw [own_map] at core
  exact core
theorem e_comp {fa : Sm} (ct : Ct X g W N T cn C bltNames k cf sc) (hi : PI X tge i (TWk g X.K W (wkE fa))) (h2 : blkC N sc scope (ownOf N own) = true) (h3 : ckTg N scope tg tge = true) (h4 : (tgSlots tg).all (own.contains ·) = true)
    (ht : ∀ (s : Shared) (H : Hp) (C : Addr) (cl : List (Str × Addr)) (fp : List Addr), PTs (X.blk s H scope (compEnvC scope cl C X.env) fp) ifs (TB g X.K noX fc))
    (he : ∀ (s : Shared) (H : Hp) (C : Addr) (cl : List (Str × Addr)) (fp : List Addr), PE (X.blk s H scope (compEnvC scope cl C X.env) fp) el (TI g X.K noX fl)) (hs : ∀ x, foldedSetIterable i X.env x = pure x) :
    PE X (.ListComp el [⟨tge, i, ifs, 0⟩] scope pos) (TI g X.K W (cComp own tg fa fc fl)) := by
  rw [comp_eq]; exact e_lcN ct hi h2 h3 h4 ht he hs
theorem e_compR {fa : SmL} (ct : Ct X g W N T cn C bltNames k cf sc) (hi : PI X tge i (TWk g X.K W (wkR fa))) (h2 : blkC N sc scope (ownOf N own) = true) (h3 : ckTg N scope tg tge = true) (h4 : (tgSlots tg).all (own.contains ·) = true)
    (ht : ∀ (s : Shared) (H : Hp) (C : Addr) (cl : List (Str × Addr)) (fp : List Addr), PTs (X.blk s H scope (compEnvC scope cl C X.env) fp) ifs (TB g X.K noX fc))
    (he : ∀ (s : Shared) (H : Hp) (C : Addr) (cl : List (Str × Addr)) (fp : List Addr), PE (X.blk s H scope (compEnvC scope cl C X.env) fp) el (TI g X.K noX fl)) (hs : ∀ x, foldedSetIterable i X.env x = pure x) :
    PE X (.ListComp el [⟨tge, i, ifs, 0⟩] scope pos) (TI g X.K W (cCompR own tg fa fc fl)) := by
  rw [compR_eq]; exact e_lcN ct hi h2 h3 h4 ht he hs
end
mutual
theorem snd (D : DR g) : ∀ (x : Ex) {X : Cx} {W : WX} {sc : Scope} {e : PySem.Expr}, Ct X g W N T cn C bltNames k cf sc → ck N T cn x sc e = true → Snd X g W e (ev C cf x)
  | .cst v, X, W, sc, e, ct, h => by
    cases e <;> first | exact (Bool.false_ne_true h).elim | skip
    exact .of (e_cst h) rfl rfl
  | .var i, X, W, sc, e, ct, h => by
    cases e <;> first | exact (Bool.false_ne_true h).elim | skip
    rename_i x p
    obtain ⟨h, h4⟩ := and2 (show (isAt N i x && vis sc x && !dbg x && !decide (x = ("__classdict__" : Str))) = true from h)
    obtain ⟨h, h3⟩ := and2 h
    obtain ⟨h1, h2⟩ := and2 h
    refine .of (e_var (by rw [ct.hN]; exact of_decide_eq_true h1) (by rw [ct.hsc]; exact vis_ok h2) (not_dbg h3) ?_) rfl rfl
    have : decide (x = ("__classdict__" : Str)) = false := by simpa using h4
    exact beq_eq_false_iff_ne.mpr (of_decide_eq_false this)
  | .glb i, X, W, sc, e, ct, h => by
    cases e <;> first | exact (Bool.false_ne_true h).elim | skip
    rename_i x p
    obtain ⟨h, h3⟩ := and2 (show (isAt cn i x && gl sc x && !dbg x) = true from h)
    obtain ⟨h1, h2⟩ := and2 h
    have hi : cn[i]? = some x := of_decide_eq_true h1
    have hl : i < C.length := by rw [← ct.cl]; exact (List.getElem?_eq_some_iff.mp hi).1
    have hC : C[i]? = some C[i] := List.getElem?_eq_getElem hl
    obtain ⟨u, y, m, a, r⟩ := ct.hcn i x _ hi hC
    exact .of (e_glb hC (ct.gl h2) m a r (not_dbg h3)) rfl rfl
  | .tup es, X, W, sc, e, ct, h => by
    cases e <;> first | exact (Bool.false_ne_true h).elim | skip
    rename_i l j p
    obtain ⟨h1, h2⟩ := and2 (show (ckL N T cn es sc l && decide (l.length ≤ 1000)) = true from h)
    exact .of (e_tup (sndL D es ct h1) fun e h vs h' q => by rw [evL_len es h1 _ _ _ _ q]; exact of_decide_eq_true h2) rfl rfl
  | .lst es, X, W, sc, e, ct, h => by
    cases e <;> first | exact (Bool.false_ne_true h).elim | skip
    rename_i l p
    obtain ⟨h1, h2⟩ := and2 (show (ckL N T cn es sc l && decide (l.length ≤ 1000)) = true from h)
    exact .of (e_lst (sndL D es ct h1) fun e h vs h' q => by rw [evL_len es h1 _ _ _ _ q]; exact of_decide_eq_true h2) rfl rfl
  | .dct0, X, W, sc, e, ct, h => by
    cases e <;> first | exact (Bool.false_ne_true h).elim | skip
    rename_i ks vs p
    cases ks <;> first | exact (Bool.false_ne_true h).elim | skip
    cases vs <;> first | exact (Bool.false_ne_true h).elim | skip
    exact .of (D.new X W p) rfl rfl
  | .bin op a b, X, W, sc, e, ct, h => by
    cases e <;> first | exact (Bool.false_ne_true h).elim | skip
    rename_i l o r p
    obtain ⟨h, h3⟩ := and2 (show (decide (o = bopOf op) && ck N T cn a sc l && ck N T cn b sc r) = true from h)
    obtain ⟨h1, h2⟩ := and2 h
    have := of_decide_eq_true h1
    subst this
    exact .of (e_bin (snd D a ct h2).v (snd D b ct h3).v) rfl rfl
  | .neg a, X, W, sc, e, ct, h => by
    cases e <;> first | exact (Bool.false_ne_true h).elim | skip
    rename_i op o p
    cases op <;> first | exact (Bool.false_ne_true h).elim | skip
    exact .of (e_neg (snd D a ct h).v) rfl rfl
  | .cmp op a b, X, W, sc, e, ct, h => by
    cases e <;> first | exact (Bool.false_ne_true h).elim | skip
    rename_i l os rs p
    match os, rs, h with
    | [o], [r], h =>
      obtain ⟨h, h4⟩ := and2 (show (decide (o = copOf op) && ck N T cn a sc l && ck N T cn b sc r && notSet r) = true from h)
      obtain ⟨h, h3⟩ := and2 h
      obtain ⟨h1, h2⟩ := and2 h
      have := of_decide_eq_true h1
      subst this
      have va := (snd D a ct h2).v
      have vb := (snd D b ct h3).v
      exact ⟨e_cmp (D.inr X W ct.ww ct.unitsD) ct.units va vb h4, t_cmp (D.inr X W ct.ww ct.unitsD) ct.units va vb h4, fun z => by cases z⟩
    | [], _, h => exact (Bool.false_ne_true h).elim
    | _ :: _ :: _, _, h => exact (Bool.false_ne_true h).elim
    | [_], [], h => exact (Bool.false_ne_true h).elim
    | [_], _ :: _ :: _, h => exact (Bool.false_ne_true h).elim
  | .and a b, X, W, sc, e, ct, h => by
    cases e <;> first | exact (Bool.false_ne_true h).elim | skip
    rename_i op es p
    cases op <;> first | exact (Bool.false_ne_true h).elim | skip
    match es, h with
    | [], h => exact (Bool.false_ne_true h).elim
    | [_], h => exact (Bool.false_ne_true h).elim
    | [x, y], h =>
      obtain ⟨h1, h2⟩ := and2 (show (ck N T cn a sc x && ck N T cn b sc y) = true from h)
      have sa := snd D a ct h1
      have sb := snd D b ct h2
      have w := and_tst (pos := p) sa.t (pw_and1 (pos := p) sb.t)
      exact ⟨and_val sa.v (pe_one sb.v), w.pt, fun _ => w⟩
    | x :: y :: z :: zs, h =>
      obtain ⟨h1, h2⟩ := and2 (show (ck N T cn a sc x && ck N T cn b sc (.BoolOp .And (y :: z :: zs) p)) = true from h)
      have sa := snd D a ct h1
      have sb := snd D b ct h2
      have w := and_tst (pos := p) sa.t (sb.w rfl)
      exact ⟨and_val sa.v sb.v, w.pt, fun _ => w⟩
  | .or a b, X, W, sc, e, ct, h => by
    cases e <;> first | exact (Bool.false_ne_true h).elim | skip
    rename_i op es p
    cases op <;> first | exact (Bool.false_ne_true h).elim | skip
    match es, h with
    | [], h => exact (Bool.false_ne_true h).elim
    | [_], h => exact (Bool.false_ne_true h).elim
    | [x, y], h =>
      obtain ⟨h1, h2⟩ := and2 (show (ck N T cn a sc x && ck N T cn b sc y) = true from h)
      have sa := snd D a ct h1
      have sb := snd D b ct h2
      have w := or_tst (pos := p) sa.t (pw_or1 (pos := p) sb.t)
      exact ⟨or_val sa.v (pe_one sb.v), w.pt, fun _ => w⟩
    | x :: y :: z :: zs, h =>
      obtain ⟨h1, h2⟩ := and2 (show (ck N T cn a sc x && ck N T cn b sc (.BoolOp .Or (y :: z :: zs) p)) = true from h)
      have sa := snd D a ct h1
      have sb := snd D b ct h2
      have w := or_tst (pos := p) sa.t (sb.w rfl)
      exact ⟨or_val sa.v sb.v, w.pt, fun _ => w⟩
  | .not a, X, W, sc, e, ct, h => by
    cases e <;> first | exact (Bool.false_ne_true h).elim | skip
    rename_i op o p
    cases op <;> first | exact (Bool.false_ne_true h).elim | skip
    have sa := snd D a ct (show ck N T cn a sc o = true from h)
    exact ⟨e_not sa.v, t_not sa.t, fun z => by cases z⟩
  | .ite c a b, X, W, sc, e, ct, h => by
    cases e <;> first | exact (Bool.false_ne_true h).elim | skip
    rename_i t x y p
    obtain ⟨h, h3⟩ := and2 (show (ck N T cn c sc t && ck N T cn a sc x && ck N T cn b sc y) = true from h)
    obtain ⟨h1, h2⟩ := and2 h
    have sc_ := snd D c ct h1
    have sa := snd D a ct h2
    have sb := snd D b ct h3
    exact ⟨e_ite sc_.t sa.v sb.v, ite_tst sc_.t sa.t sb.t, fun z => by cases z⟩
  | .call f es, X, W, sc, e, ct, h => by
    cases e <;> first | exact (Bool.false_ne_true h).elim | skip
    rename_i o l ks p
    cases o <;> first | exact (Bool.false_ne_true h).elim | skip
    rename_i x q
    match l, ks, h with
    | [], _, h => exact (Bool.false_ne_true h).elim
    | _ :: _, _ :: _, h => exact (Bool.false_ne_true h).elim
    | a :: l, [], h =>
      obtain ⟨h, h5⟩ := and2 (show (gl sc x && !dbg x && (match T[f]? with
        | some fn => decide (fn.name = x) && decide ((a :: l).length ≤ fn.np) && decide (fn.np ≤ (a :: l).length + fn.dfl.length)
        | none => false) && ckL N T cn es sc (a :: l) && noStars (a :: l)) = true from h)
      obtain ⟨h, h4⟩ := and2 h
      obtain ⟨h, h3⟩ := and2 h
      obtain ⟨h1, h2⟩ := and2 h
      cases hf : T[f]? with
      | none => rw [hf] at h3; cases h3
      | some fn =>
        rw [hf] at h3
        obtain ⟨h3, h8⟩ := and2 h3
        obtain ⟨h6, h7⟩ := and2 h3
        exact .of (e_call ct hf (of_decide_eq_true h6) (ct.gl h1) (not_dbg h2) (sndL D es ct h4) h5 (evL_len es h4) (of_decide_eq_true h7) (of_decide_eq_true h8)) rfl rfl
  | .isi a ts, X, W, sc, e, ct, h => by
    cases e <;> first | exact (Bool.false_ne_true h).elim | skip
    rename_i o l ks p
    cases o <;> first | exact (Bool.false_ne_true h).elim | skip
    rename_i x q
    match l, ks, h with
    | [], _, h => exact (Bool.false_ne_true h).elim
    | [_], _, h => exact (Bool.false_ne_true h).elim
    | _ :: _ :: _ :: _, _, h => exact (Bool.false_ne_true h).elim
    | [_, _], _ :: _, h => exact (Bool.false_ne_true h).elim
    | [o, t], [], h =>
      obtain ⟨h, h5⟩ := and2 (show (decide (x = ("isinstance" : Str)) && gl sc x && ck N T cn a sc o && ckIsi sc ts t && notStar o) = true from h)
      obtain ⟨h, h4⟩ := and2 h
      obtain ⟨h, h3⟩ := and2 h
      obtain ⟨h1, h2⟩ := and2 h
      have := of_decide_eq_true h1
      subst this
      exact .of (e_isi ct.hsc ct.tyN (ct.gl h2) (ct.bl _ (by decide)) (snd D a ct h3).v h5 h4) rfl rfl
  | .blt b es, X, W, sc, e, ct, h => by
    cases e <;> first | exact (Bool.false_ne_true h).elim | skip
    rename_i o l ks p
    cases o <;> first | exact (Bool.false_ne_true h).elim | skip
    rename_i x q
    match l, ks, h with
    | [], _, h => exact (Bool.false_ne_true h).elim
    | _ :: _, _ :: _, h => exact (Bool.false_ne_true h).elim
    | a :: l, [], h =>
      obtain ⟨h, h4⟩ := and2 (show (decide (x = (bltName b : Str)) && gl sc x && ckL N T cn es sc (a :: l) && noStars (a :: l)) = true from h)
      obtain ⟨h, h3⟩ := and2 h
      obtain ⟨h1, h2⟩ := and2 h
      have ex := of_decide_eq_true h1
      exact .of (e_blt ct.calm ct.gd ct.units ex (ct.gl h2) (by rw [ex]; exact ct.bltN b) (sndL D es ct h3) h4) rfl rfl
  | .mth m o es, X, W, sc, e, ct, h => by
    cases e <;> first | exact (Bool.false_ne_true h).elim | skip
    rename_i fo l ks cp
    cases fo <;> first | exact (Bool.false_ne_true h).elim | skip
    rename_i r x ap
    cases ks with
    | cons _ _ => exact (Bool.false_ne_true h).elim
    | nil =>
      obtain ⟨h, h7⟩ := and2 (show (decide (x = (mthName m : Str)) && ck N T cn o sc r && ckL N T cn es sc l && noStars l && decide (l.length ≤ 20) && plainBase r && (ap.endLine == cp.line)) = true from h)
      obtain ⟨h, h6⟩ := and2 h
      obtain ⟨h, h5⟩ := and2 h
      obtain ⟨h, h4⟩ := and2 h
      obtain ⟨h, h3⟩ := and2 h
      obtain ⟨h1, h2⟩ := and2 h
      exact .of (e_mth (of_decide_eq_true h1) (snd D o ct h2).v h3 (sndL D es ct h3) h4 (of_decide_eq_true h5) h6 h7) rfl rfl
  | .sub a i, X, W, sc, e, ct, h => by
    cases e <;> first | exact (Bool.false_ne_true h).elim | skip
    rename_i v s p
    obtain ⟨h, h3⟩ := and2 (show (ck N T cn a sc v && ck N T cn i sc s && notSlice s) = true from h)
    obtain ⟨h1, h2⟩ := and2 h
    exact .of (e_sub (D.sub X W ct.ww ct.unitsD) (snd D a ct h1).v (snd D i ct h2).v h3) rfl rfl
  | .slc a lo hi, X, W, sc, e, ct, h => by
    cases e <;> first | exact (Bool.false_ne_true h).elim | skip
    rename_i v s p
    cases s <;> first | exact (Bool.false_ne_true h).elim | skip
    rename_i l u st p2
    cases st with
    | some _ => exact (Bool.false_ne_true h).elim
    | none =>
      obtain ⟨h, h3⟩ := and2 (show (ck N T cn a sc v && ckPart lo.isNop (ck N T cn lo sc) l && ckPart hi.isNop (ck N T cn hi sc) u) = true from h)
      obtain ⟨h1, h2⟩ := and2 h
      have po : ∀ (z : Ex) (o : Option PySem.Expr), ckPart z.isNop (ck N T cn z sc) o = true → (∀ l, ck N T cn z sc l = true → PE X l (TI g X.K W (ev C cf z))) → PO X o (TO_ g X.K W z.isNop (ev C cf z)) := by
        intro z o hz ih
        cases o with
        | none =>
          rw [show z.isNop = true from hz]
          exact po_non
        | some l =>
          obtain ⟨z1, z2⟩ := and2 (show (!z.isNop && ck N T cn z sc l) = true from hz)
          rw [show z.isNop = false by simpa using z1]
          exact po_one (ih l z2)
      exact .of (e_slc (snd D a ct h1).v (po lo l h2 fun l z => (snd D lo ct z).v) (po hi u h3 fun l z => (snd D hi ct z).v)) rfl rfl
  | .nop, X, W, sc, e, ct, h => (Bool.false_ne_true h).elim
  | .rev a, X, W, sc, e, ct, h => by
    have h' : (match revOf e with | some v => ck N T cn a sc v | none => false) = true := h
    cases q : revOf e with
    | none => rw [q] at h'; cases h'
    | some v =>
      rw [q] at h'
      obtain ⟨_, _, _, _, _, rfl⟩ := revOf_eq q
      exact .of (e_rev (snd D a ct h').v) rfl rfl
  | .comp own tg it cond elt, X, W, sc, e, ct, h => by
    cases e <;> first | exact (Bool.false_ne_true h).elim | skip
    rename_i el gs scope p
    match gs, h with
    | [], h => exact (Bool.false_ne_true h).elim
    | _ :: _ :: _, h => exact (Bool.false_ne_true h).elim
    | [⟨t, i, ifs, as⟩], h =>
      obtain ⟨h, h8⟩ := and2 (show (decide (as = 0) && blkC N sc scope (ownOf N own) && ckTg N scope tg t && (tgSlots tg).all (own.contains ·) && ck N T cn it sc i && notSet i && ckIfs cond (ck N T cn cond (relS scope sc)) ifs && ck N T cn elt (relS scope sc) el) = true from h)
      obtain ⟨h, h7⟩ := and2 h
      obtain ⟨h, h6⟩ := and2 h
      obtain ⟨h, h5⟩ := and2 h
      obtain ⟨h, h4⟩ := and2 h
      obtain ⟨h, h3⟩ := and2 h
      obtain ⟨h1, h2⟩ := and2 h
      have := of_decide_eq_true h1
      subst this
      exact .of (e_comp ct (i_val (snd D it ct h5).v) h2 h3 h4 (fun s H C' cl fp => ifs_ok h7 fun c z => (snd D cond (ct.blk scope s H cl C' fp) z).t) (fun s H C' cl fp => (snd D elt (ct.blk scope s H cl C' fp) h8).v) (fun x => foldSet h6)) rfl rfl
  | .compR own tg it cond elt, X, W, sc, e, ct, h => by
    cases e <;> first | exact (Bool.false_ne_true h).elim | skip
    rename_i el gs scope p
    match gs, h with
    | [], h => exact (Bool.false_ne_true h).elim
    | _ :: _ :: _, h => exact (Bool.false_ne_true h).elim
    | [⟨t, i, ifs, as⟩], h =>
      obtain ⟨h, h8⟩ := and2 (show (decide (as = 0) && blkC N sc scope (ownOf N own) && ckTg N scope tg t && (tgSlots tg).all (own.contains ·) && ckRng (fun x l => gl sc x && ckL N T cn it sc l && noStars l) i && ckIfs cond (ck N T cn cond (relS scope sc)) ifs && ck N T cn elt (relS scope sc) el) = true from h)
      obtain ⟨h, h7⟩ := and2 h
      obtain ⟨h, h5⟩ := and2 h
      obtain ⟨h, h4⟩ := and2 h
      obtain ⟨h, h3⟩ := and2 h
      obtain ⟨h1, h2⟩ := and2 h
      have := of_decide_eq_true h1
      subst this
      obtain ⟨p1, l, p2, rfl, h6, h9⟩ := ckRng_eq h5
      obtain ⟨h6, h10⟩ := and2 h6
      obtain ⟨h11, h12⟩ := and2 h6
      exact .of (e_compR ct (i_rng (ct.gl h11) (ct.bl _ (by decide)) (sndL D it ct h12) (evL_len it h12) h10 h9) h2 h3 h4 (fun s H C' cl fp => ifs_ok h7 fun c z => (snd D cond (ct.blk scope s H cl C' fp) z).t) (fun s H C' cl fp => (snd D elt (ct.blk scope s H cl C' fp) h8).v) (fun x => rfl)) rfl rfl
theorem sndL (D : DR g) : ∀ (es : Es) {X : Cx} {W : WX} {sc : Scope} {l : List PySem.Expr}, Ct X g W N T cn C bltNames k cf sc → ckL N T cn es sc l = true → PA X l (TIL g X.K W (evL C cf es))
  | .nil, X, W, sc, [], ct, h => l_nil
  | .nil, X, W, sc, _ :: _, ct, h => (Bool.false_ne_true h).elim
  | .cons _ _, X, W, sc, [], ct, h => (Bool.false_ne_true h).elim
  | .cons a es, X, W, sc, e :: l, ct, h => by
    obtain ⟨h, h3⟩ := and2 (show (ck N T cn a sc e && ckL N T cn es sc l && notStar e) = true from h)
    obtain ⟨h1, h2⟩ := and2 h
    exact l_cons (snd D a ct h1).v (sndL D es ct h2) h3
end
end
end MP
namespace MP
open PySem L2 PySem.Spec PyProof.Rows
variable [Wd]
mutual
theorem nk_depth : ∀ (n : Nat) (v : PV), keyP n v = true → (nk v).depth ≤ n
  | _, .int _, _ => by simp [nk, NestedKey.depth]
  | _, .str _, _ => by simp [nk, NestedKey.depth]
  | 0, .tup _, h => (Bool.false_ne_true h).elim
  | n + 1, .tup xs, h => by
    simp only [nk, NestedKey.depth]
    have := nkL_depth n xs h
    omega
  | _, .non, _ => by simp [nk, NestedKey.depth]
  | _, .bl _, _ => by simp [nk, NestedKey.depth]
  | _, .loc _, _ => by simp [nk, NestedKey.depth]
theorem nkL_depth : ∀ (n : Nat) (vs : List PV), okAll (keyP n) vs = true → NestedKey.depthAll (nkL vs) ≤ n
  | _, [], _ => by simp [nkL, NestedKey.depthAll]
  | n, v :: vs, h => by
    obtain ⟨h1, h2⟩ := and2 (show (keyP n v && okAll (keyP n) vs) = true from h)
    simp only [nkL, NestedKey.depthAll]
    have := nk_depth n v h1
    have := nkL_depth n vs h2
    omega
end
mutual
theorem nk_is {H : Hp} {μ : List Addr} {X : Cx} {pins : List (Addr × Obj)} {σ : L2.St} {s : Shared} (I : L2.Inv X pins σ H s) : ∀ (n : Nat) (v : PV) {y : V} {u : Value}, keyP n v = true → Rep X.K H μ v y → RelV y u → NestedIs s.heap (nk v) u
  | _, .int i, _, u, _, .int _, r => by obtain ⟨t, rfl⟩ := r; exact .int i t
  | _, .str x, _, u, _, .str _, r => by obtain ⟨t, rfl⟩ := r; exact .text x t
  | 0, .tup _, _, _, h, _, _ => (Bool.false_ne_true h).elim
  | n + 1, .tup xs, _, u, h, .tup t q, r => by
    cases r
    obtain ⟨its, rv, ⟨o, ho, hc, m, hd⟩, _⟩ := I.tuple t
    exact .tup ho hc hd (by simpa using nkL_is I n xs h q rv)
  | 0, .non, _, _, h, _, _ => (Bool.false_ne_true h).elim
  | _ + 1, .non, _, _, h, _, _ => (Bool.false_ne_true h).elim
  | 0, .bl _, _, _, h, _, _ => (Bool.false_ne_true h).elim
  | _ + 1, .bl _, _, _, h, _, _ => (Bool.false_ne_true h).elim
  | 0, .loc _, _, _, h, _, _ => (Bool.false_ne_true h).elim
  | _ + 1, .loc _, _, _, h, _, _ => (Bool.false_ne_true h).elim
theorem nkL_is {H : Hp} {μ : List Addr} {X : Cx} {pins : List (Addr × Obj)} {σ : L2.St} {s : Shared} (I : L2.Inv X pins σ H s) : ∀ (n : Nat) (vs : List PV) {ys : List V} {us : List Value}, okAll (keyP n) vs = true → Reps X.K H μ vs ys → Vals ys us → NestedAll s.heap (nkL vs) us
  | _, [], _, _, _, .nil, .nil => .nil
  | n, v :: vs, _, _, h, .cons a b, .cons r t => by
    obtain ⟨h1, h2⟩ := and2 (show (keyP n v && okAll (keyP n) vs) = true from h)
    exact .cons (nk_is I n v h1 a r) (nkL_is I n vs h2 b t)
end
theorem key_is {H : Hp} {μ : List Addr} {X : Cx} {pins : List (Addr × Obj)} {σ : L2.St} {s : Shared} (I : L2.Inv X pins σ H s) {v : PV} {a : Addr} (h : keyT v = true) (r : Rep X.K H μ v (.ref a)) : (nestedKind X.prog X.w).is s.heap (nk v) a := by
  cases v <;> first | exact (Bool.false_ne_true h).elim | skip
  rename_i xs
  exact ⟨nk_is I 8 (.tup xs) h r rfl, nk_depth 8 (.tup xs) h⟩
mutual
theorem eqP_nk : ∀ (n : Nat) (v w : PV), keyP n v = true → keyP n w = true → ∀ m, n ≤ m → eqP m v w = decide (nk v = nk w)
  | n, .int i, w, _, hw, m, _ => by
    have e : eqP m (.int i) = eqInt i := by cases m <;> rfl
    rw [e]
    cases w with
    | int j => show eqI i j = _; rw [eqI_eq]; simp [nk]
    | str _ => simp [nk, eqInt]
    | tup _ => simp [nk, eqInt]
    | non => cases n <;> exact (Bool.false_ne_true hw).elim
    | bl _ => cases n <;> exact (Bool.false_ne_true hw).elim
    | loc _ => cases n <;> exact (Bool.false_ne_true hw).elim
  | n, .str x, w, _, hw, m, _ => by
    have e : eqP m (.str x) = eqStr x := by cases m <;> rfl
    rw [e]
    cases w with
    | int j => simp [nk, eqStr]
    | str y => show strEq x y = _; rw [strEq_eq, Bool.eq_iff_iff]; simp [nk]
    | tup _ => simp [nk, eqStr]
    | non => cases n <;> exact (Bool.false_ne_true hw).elim
    | bl _ => cases n <;> exact (Bool.false_ne_true hw).elim
    | loc _ => cases n <;> exact (Bool.false_ne_true hw).elim
  | 0, .tup _, _, h, _, _, _ => (Bool.false_ne_true h).elim
  | n + 1, .tup xs, w, h, hw, m, le => by
    obtain ⟨m', rfl⟩ : ∃ m', m = m' + 1 := ⟨m - 1, by omega⟩
    show eqTup (eqP m') xs w = _
    cases w with
    | int j => simp [nk, eqTup]
    | str y => simp [nk, eqTup]
    | tup ys =>
      show eqLs (eqP m') xs ys = _
      rw [eqLs_nk n xs ys h hw m' (by omega)]
      simp [nk]
    | non => exact (Bool.false_ne_true hw).elim
    | bl _ => exact (Bool.false_ne_true hw).elim
    | loc _ => exact (Bool.false_ne_true hw).elim
  | 0, .non, _, h, _, _, _ => (Bool.false_ne_true h).elim
  | _ + 1, .non, _, h, _, _, _ => (Bool.false_ne_true h).elim
  | 0, .bl _, _, h, _, _, _ => (Bool.false_ne_true h).elim
  | _ + 1, .bl _, _, h, _, _, _ => (Bool.false_ne_true h).elim
  | 0, .loc _, _, h, _, _, _ => (Bool.false_ne_true h).elim
  | _ + 1, .loc _, _, h, _, _, _ => (Bool.false_ne_true h).elim
theorem eqLs_nk : ∀ (n : Nat) (vs ws : List PV), okAll (keyP n) vs = true → okAll (keyP n) ws = true → ∀ m, n ≤ m → eqLs (eqP m) vs ws = decide (nkL vs = nkL ws)
  | _, [], [], _, _, _, _ => rfl
  | _, [], _ :: _, _, _, _, _ => by simp [eqLs, nkL]
  | _, _ :: _, [], _, _, _, _ => by simp [eqLs, nkL]
  | n, v :: vs, w :: ws, h, hw, m, le => by
    obtain ⟨h1, h2⟩ := and2 (show (keyP n v && okAll (keyP n) vs) = true from h)
    obtain ⟨h3, h4⟩ := and2 (show (keyP n w && okAll (keyP n) ws) = true from hw)
    show (eqP m v w && eqLs (eqP m) vs ws) = _
    rw [eqP_nk n v w h1 h3 m le, eqLs_nk n vs ws h2 h4 m le, Bool.eq_iff_iff]
    simp [nkL]
end
theorem keyT_eq {v w : PV} (hv : keyT v = true) (hw : keyT w = true) : eqP 61 v w = decide (nk v = nk w) := by
  cases v <;> first | exact (Bool.false_ne_true hv).elim | skip
  cases w <;> first | exact (Bool.false_ne_true hw).elim | skip
  rename_i xs ys
  exact eqP_nk 8 (.tup xs) (.tup ys) hv hw 61 (by omega)
section
variable {K : Fr} {H : Hp} {μ : List Addr}
theorem kget_at {k : PV} (hk : keyT k = true) : ∀ {kvs : List (PV × PV)} {xs : List (NestedKey × Addr × Value)}, KvR K H μ kvs xs → match kget k kvs with
    | none => atKey xs (nk k) = none
    | some v => ∃ ad u vv, atKey xs (nk k) = some (ad, u) ∧ RelV vv u ∧ Rep K H μ v vv
  | _, _, .nil => by simp [kget, atKey]
  | _, _, .cons (k := k1) (v := v1) (ad := ad1) (vv := vv1) (u := u1) (kvs := kvs) (xs := xs) a b c d t => by
    have ih := kget_at hk t
    have e := keyT_eq a hk
    have un : kget k ((k1, v1) :: kvs) = (match eqP 61 k1 k with | true => some v1 | false => kget k kvs) := rfl
    rw [un, e]
    by_cases h : nk k1 = nk k
    · rw [decide_eq_true h]
      exact ⟨ad1, u1, vv1, by simp [atKey, h], d, c⟩
    · rw [decide_eq_false h]
      have e2 : ∀ p : Addr × Value, atKey ((nk k1, p) :: xs) (nk k) = atKey xs (nk k) := fun p => by simp [atKey, List.find?_cons, h]
      rw [e2]
      exact ih
theorem kget_isSome {k : PV} (hk : keyT k = true) {kvs : List (PV × PV)} {xs : List (NestedKey × Addr × Value)} (r : KvR K H μ kvs xs) : (atKey xs (nk k)).isSome = (kget k kvs).isSome := by
  have := kget_at hk r
  cases q : kget k kvs with
  | none => rw [q] at this; rw [this]; rfl
  | some v => rw [q] at this; obtain ⟨_, _, _, e, _⟩ := this; rw [e]; rfl
theorem kput_at {k v : PV} {ad : Addr} {vv : V} {u : Value} (hk : keyT k = true) (rk : Rep K H μ k (.ref ad)) (rv : Rep K H μ v vv) (ru : RelV vv u) : ∀ {kvs : List (PV × PV)} {xs : List (NestedKey × Addr × Value)}, KvR K H μ kvs xs → (xs.map (·.1)).Nodup → KvR K H μ (kput k v kvs) (storedH xs (nk k) ad u)
  | _, _, .nil, _ => .cons hk rk rv ru .nil
  | _, _, .cons (k := k1) (v := v1) (ad := ad1) (vv := vv1) (u := u1) (kvs := kvs) (xs := xs) a b c d t, nd => by
    have e := keyT_eq a hk
    rw [List.map_cons, List.nodup_cons] at nd
    have un : kput k v ((k1, v1) :: kvs) = (match eqP 61 k1 k with | true => (k1, v) :: kvs | false => (k1, v1) :: kput k v kvs) := rfl
    rw [un, e]
    by_cases h : nk k1 = nk k
    · rw [decide_eq_true h]
      have nm : nk k ∉ xs.map (·.1) := by rw [← h]; exact nd.1
      have : storedH ((nk k1, ad1, u1) :: xs) (nk k) ad u = (nk k1, ad1, u) :: xs := by
        rw [storedH_old (p := (ad1, u1)) (by simp [atKey, h])]
        rw [List.map_cons, map_putAt_of_not_mem xs (nk k) u nm, putAt, if_pos h]
      rw [this]
      exact .cons a b rv ru t
    · rw [decide_eq_false h]
      have ih := kput_at hk rk rv ru t nd.2
      have e2 : ∀ p : Addr × Value, atKey ((nk k1, p) :: xs) (nk k) = atKey xs (nk k) := fun p => by simp [atKey, List.find?_cons, h]
      have : ∀ p : Addr × Value, storedH ((nk k1, p) :: xs) (nk k) ad u = (nk k1, p) :: storedH xs (nk k) ad u := fun p => by
        unfold storedH
        rw [e2]
        split
        · rw [List.map_cons, putAt, if_neg h]
        · rfl
      rw [this]
      exact .cons a b c d ih
end
section
variable {X : Cx} {g : GC} {W : WX} {pins : List (Addr × Obj)} {σ : L2.St} {H : Hp} {s : Shared} {μ : List Addr}
theorem kv_keys (I : L2.Inv X pins σ H s) {kvs : List (PV × PV)} {xs : List (NestedKey × Addr × Value)} (r : KvR X.K H μ kvs xs) : ∀ x ∈ xs, (nestedKind X.prog X.w).is s.heap x.1 x.2.1 := by
  induction r with
  | nil => intro x m; cases m
  | cons a b c d t ih =>
    intro x m
    rcases List.mem_cons.mp m with rfl | m
    · exact key_is I a b
    · exact ih x m
theorem kv_len {K : Fr} {kvs : List (PV × PV)} {xs : List (NestedKey × Addr × Value)} (r : KvR K H μ kvs xs) : xs.length = kvs.length := by
  induction r with
  | nil => rfl
  | cons _ _ _ _ _ ih => exact congrArg (· + 1) ih
theorem dX_at (hw : X.w = Wd.w) (I : L2.Inv X pins σ H s) {a : Addr} {kvs : List (PV × PV)} {xs : List (NestedKey × Addr × Value)} (e : H a = some (dX a xs)) (r : KvR X.K H μ kvs xs) : s.heap.DictOfH (nestedKind X.prog X.w) a xs := by
  have x : ObjOk X.prog X.w H s.heap a (.ext fun h => ∃ o es ep, h.get? a = some o ∧ o.ExactDict ∧ o.data = .dict es ep ∧ es.toList = xs.map (fun x => (⟨NestedKey.hash Wd.w x.1, .ref x.2.1, x.2.2⟩ : DictEntry)) ∧ (xs.map (·.1)).Nodup) := I.hok a _ e
  obtain ⟨⟨o, es, ep, h1, h2, h3, h4, h5⟩, _⟩ := x
  refine ⟨o, es, ep, h1, h2, h3, by rw [h4, ← hw]; rfl, kv_keys I r, h5⟩
theorem dX_nd (I : L2.Inv X pins σ H s) {a : Addr} {xs : List (NestedKey × Addr × Value)} (e : H a = some (dX a xs)) : (xs.map (·.1)).Nodup := by
  have x : ObjOk X.prog X.w H s.heap a (.ext fun h => ∃ o es ep, h.get? a = some o ∧ o.ExactDict ∧ o.data = .dict es ep ∧ es.toList = xs.map (fun x => (⟨NestedKey.hash Wd.w x.1, .ref x.2.1, x.2.2⟩ : DictEntry)) ∧ (xs.map (·.1)).Nodup) := I.hok a _ e
  obtain ⟨⟨o, es, ep, h1, h2, h3, h4, h5⟩, _⟩ := x
  exact h5
theorem dX_ok {P : Program} {w : World} {h : Heap} {a : Addr} {xs : List (NestedKey × Addr × Value)} (q : ∃ o es ep, h.get? a = some o ∧ o.ExactDict ∧ o.data = .dict es ep ∧ es.toList = xs.map (fun x => (⟨NestedKey.hash Wd.w x.1, .ref x.2.1, x.2.2⟩ : DictEntry)) ∧ (xs.map (·.1)).Nodup) : ObjOk P w H h a (dX a xs) := by
  obtain ⟨o, es, ep, h1, r⟩ := q
  exact ⟨⟨o, es, ep, h1, r⟩, ⟨o, h1⟩, fun h1' h2' z k => by
    obtain ⟨o, es, ep, h1, r⟩ := z
    exact ⟨o, es, ep, k o h1, r⟩⟩
theorem d_new {pos : Pos} : PE X (.Dict [] [] pos) (TI g X.K W cDct0) := by
  refine ⟨fun pins s σ H Q I t => ?_⟩
  obtain ⟨μ, e, h, st, p⟩ := t
  have n : H s.heap.objs.size = none := I.hok.fresh (Nat.le_refl _)
  have new : ObjOk X.prog X.w (upd H s.heap.objs.size (dX s.heap.objs.size [])) (s.heap.push { cls := .type "dict", data := .dict #[] }) s.heap.objs.size (dX s.heap.objs.size []) :=
    dX_ok ⟨_, #[], 0, Heap.get?_push_size _ rfl, ⟨rfl, rfl, rfl⟩, rfl, rfl, List.nodup_nil⟩
  refine wpAny_Dict_empty ⟨.ref s.heap.objs.size, _, I.laid (a := s.heap.objs.size) (o := dX s.heap.objs.size []) (t' := s.toks) (fun _ _ q => Heap.get?_push_of_some _ q) (Nat.le_refl _) new, rfl, ?_⟩
  have x : Ext μ H (μ ++ [s.heap.objs.size]) (upd H s.heap.objs.size (dX s.heap.objs.size [])) := Ext.newOb n
  exact p _ _ _ x (st.rel.newOb n ⟨[], upd_same, .nil, beq_eq_false_iff_ne.mpr (Ne.symm (Nat.ne_of_lt I.big))⟩) (.loc (by rw [← st.rel.len]; simp))
theorem in_all (hw : X.w = Wd.w) (hu : X.A.units + 100 < cLine) : InRules X g W := by
  constructor
  · rintro pins s σ H x y v u Q I rx ry ⟨μ, h, a, b, σ0, R, ra, rb, p⟩
    have p0 : PR g X.K (RepR X.K) Q W σ0 μ H (okB (inop a b h) h) := p
    cases e : inop a b h with
    | none => rw [e] at p0; exact p0.elim
    | some z =>
      rw [e] at p0
      have q : Q (.bl z) H := PR.ok (v := PV.bl z) p0 R (.bl z)
      cases inC_of R ra rb e with
      | txt i j ex ey e1 => exact op_in_str pins s σ H x y v u Q I rx ry ⟨i, j, ex, ey, by rw [in_txt e1]; exact q⟩
      | lst d ds h1 h2 s1 s2 e1 => exact op_inD (by omega) pins s σ H x y v u Q I rx ry ⟨d, ds, h1, h2, s1, s2, by rw [← e1]; exact q⟩
      | tup d ds h1 h2 s1 s2 e1 => exact in_tupD (by omega) I rx ry h1 h2 s1 s2 (by rw [← e1]; exact q)
      | dct l ad kvs eb ey e1 e2 k e3 =>
        subst ey
        cases ry
        obtain ⟨xs, hH, kv, ns⟩ := R.ob l _ ad e1 e2
        cases a <;> first | exact (Bool.false_ne_true k).elim | skip
        cases ra with
        | tup t q2 =>
          rename_i ts b2 vs
          cases rx
          refine wpAny_in_heap (knd := nestedKind X.prog X.w) (k := nk (.tup ts)) (show X.A.units + 1 + 8 < cLine by omega) (key_is I k (.tup t q2)) ns (dX_at hw I hH kv) ?_
          rw [kget_isSome k kv, ← e3]
          exact ⟨.bl z, H, I.tok _, rfl, q⟩
  · rintro pins s σ H x y v u Q I rx ry ⟨μ, h, a, b, σ0, R, ra, rb, p⟩
    have p0 : PR g X.K (RepR X.K) Q W σ0 μ H (okB (notO (inop a b h)) h) := p
    cases e : inop a b h with
    | none => rw [e] at p0; exact p0.elim
    | some z =>
      rw [e] at p0
      have q : Q (.bl (!z)) H := PR.ok (v := PV.bl (!z)) p0 R (.bl _)
      cases inC_of R ra rb e with
      | txt i j ex ey e1 => exact op_notin_str pins s σ H x y v u Q I rx ry ⟨i, j, ex, ey, by rw [in_txt e1]; exact q⟩
      | lst d ds h1 h2 s1 s2 e1 => exact op_notInD (by omega) pins s σ H x y v u Q I rx ry ⟨d, ds, h1, h2, s1, s2, by rw [← e1]; exact q⟩
      | tup d ds h1 h2 s1 s2 e1 => exact notin_tupD (by omega) I rx ry h1 h2 s1 s2 (by rw [← e1]; exact q)
      | dct l ad kvs eb ey e1 e2 k e3 =>
        subst ey
        cases ry
        obtain ⟨xs, hH, kv, ns⟩ := R.ob l _ ad e1 e2
        cases a <;> first | exact (Bool.false_ne_true k).elim | skip
        cases ra with
        | tup t q2 =>
          rename_i ts b2 vs
          cases rx
          show wpAny _ _ (do return Value.bool (!(← contains (.ref ad) (.ref b2)))) _ _ _
          refine wpAny_bind (wpAny_contains_heap (knd := nestedKind X.prog X.w) (k := nk (.tup ts)) (show X.A.units + 1 + 8 < cLine by omega) (key_is I k (.tup t q2)) ns (dX_at hw I hH kv) (wpAny_pure ?_))
          rw [kget_isSome k kv, ← e3]
          exact ⟨.bl (!z), H, I.tok _, rfl, q⟩
theorem sub_dct (hw : X.w = Wd.w) (hu : X.A.units + 100 < cLine) {value slice : PySem.Expr} {Q : VK} {h : Hv} {l : Nat} {kvs : List (PV × PV)} {b : PV} {x y : V} {v u : Value} {σ0 : L2.St} (I : L2.Inv X pins σ H s) (R : Rel X.K μ h H) (ra : Rep X.K H μ (.loc l) x) (rb : Rep X.K H μ b y) (rx : RelV x v) (ry : RelV y u)
    (e : h[l]? = some (.dct kvs)) (p : PR g X.K (RepR X.K) Q W σ0 μ H (subD kvs b h)) (hs : subscripted slice false v u = operate [v, u] (getItem v u)) : wpAny (model X.prog X.w) X.A (subscriptTail value slice v u) (EP X pins σ Q) X.xe s := by
  cases ra with
  | loc m =>
    rename_i ad
    cases rx
    obtain ⟨xs, hH, kv, ns⟩ := R.ob l _ ad e m
    obtain ⟨k, p1⟩ := lenLe_PR (show PR g X.K (RepR X.K) Q W σ0 μ H (lenLe (keyT b) (MP.R.of (kget b kvs) h)) from p)
    have at_ := kget_at k kv
    cases q : kget b kvs with
    | none => rw [q] at p1; exact p1.elim
    | some w =>
      rw [q] at p1 at_
      obtain ⟨ad2, u2, vv, e2, r2, rw2⟩ := at_
      cases b <;> first | exact (Bool.false_ne_true k).elim | skip
      cases rb with
      | tup t q2 =>
        rename_i ts b2 vs
        cases ry
        have dd := dX_at hw I hH kv
        refine tail_any (ops := [.ref ad, .ref b2]) dd.typeIs slot_dict_getitem.lookup ?_ hs
        exact wpAny_getItem_heap (knd := nestedKind X.prog X.w) (k := nk (.tup ts)) (show X.A.units + 1 + 8 < cLine by omega) (key_is I k (.tup t q2)) dd e2 ⟨vv, H, I.tok _, r2, PR.ok (v := w) p1 R rw2⟩
theorem set_all (hw : X.w = Wd.w) (hu : X.A.units + 100 < cLine) : PSet X (SetP X.K) := by
  rintro pins s σ H o i v ov iv u Q I ro ri rv ⟨μ, h, a, b, c, h', R, ra, rb, rc, e, k⟩
  cases a with
  | loc l =>
    have e' := e
    simp only [setF] at e'
    rw [nth_eq] at e'
    cases q : h[l]? with
    | none => rw [q] at e'; cases e'
    | some u0 =>
      rw [q] at e'
      cases u0 with
      | lst xs =>
        cases b with
        | int j =>
          obtain ⟨ad, vs, rfl, m, hH, t⟩ := loc_lst R ra q
          cases rb
          have e2 : setL l h xs c (ixN xs.length j) = some h' := e'
          rw [ixN_eq, t.length] at e2
          cases hj : L2.ixN vs.length j with
          | none => rw [hj] at e2; cases e2
          | some n =>
            rw [hj] at e2
            have e3 : put h l (.lst (put xs n c)) = h' := Option.some.inj e2
            rw [put_eq, put_eq] at e3
            subst e3
            refine set_list pins s σ H _ _ v ov iv u Q I ro ri rv ⟨ad, vs, j, n, rfl, rfl, hH, hj, ?_⟩
            have x : Ext μ H μ (upd H ad (.lst (vs.set n v))) := Ext.write (List.mem_of_getElem? m)
            exact k μ _ x (R.write m ⟨_, upd_same, (t.ext R x).set (rc.ext R x) n⟩)
        | _ => cases e'
      | dct kvs =>
        cases ra with
        | loc m =>
          rename_i ad
          cases ro
          obtain ⟨xs, hH, kv, ns⟩ := R.ob l _ ad q m
          cases hb : (keyT b && Nat.ble (Nat.succ kvs.length) big) with
          | false => simp only [hb] at e'; cases e'
          | true =>
            simp only [hb] at e'
            obtain ⟨hk, hl⟩ := and2 hb
            have e3 : put h l (.dct (kput b c kvs)) = h' := Option.some.inj e'
            rw [put_eq] at e3
            subst e3
            cases b <;> first | exact (Bool.false_ne_true hk).elim | skip
            have rb0 := rb
            cases rb with
            | tup t q2 =>
              rename_i ts b2 vs
              cases ri
              have len := kv_len kv
              refine wpAny_setItem_heap (knd := nestedKind X.prog X.w) (k := nk (.tup ts)) (hsz := by have := Nat.le_of_ble_eq_true hl; have := sizeLine_eq; unfold big at *; omega) (show X.A.units + 1 + 8 < cLine by omega) (key_is I hk rb0) (dX_at hw I hH kv) fun h2 dd hs => ?_
              have new : ∃ o es ep, h2.get? ad = some o ∧ o.ExactDict ∧ o.data = .dict es ep ∧ es.toList = (storedH xs (nk (.tup ts)) b2 u).map (fun x => (⟨NestedKey.hash Wd.w x.1, .ref x.2.1, x.2.2⟩ : DictEntry)) ∧ ((storedH xs (nk (.tup ts)) b2 u).map (·.1)).Nodup := by
                obtain ⟨o, es, ep, h1, h3, h4, h5, _, h6⟩ := dd
                exact ⟨o, es, ep, h1, h3, h4, by rw [h5, ← hw]; rfl, h6⟩
              have x : Ext μ H μ (upd H ad (dX ad (storedH xs (nk (.tup ts)) b2 u))) := Ext.write (List.mem_of_getElem? m)
              refine ⟨_, d_write I (by rw [hH]; exact True.intro) hs ⟨new.choose, new.choose_spec.choose_spec.choose_spec.1⟩ (dX_ok new), k μ _ x (R.write m ⟨_, upd_same, ?_, ns⟩)⟩
              exact kput_at hk (rb0.ext R x) (rc.ext R x) rv (kv.ext R x) (dX_nd I hH)
  | _ => cases e
theorem x_sub (hw : X.w = Wd.w) (hu : X.A.units + 100 < cLine) : IxR X (RO2 g X.K W sub_) := by
  rintro value slice pins s σ H x y v u Q I rx ry ⟨μ, h, a, b, σ0, R, ra, rb, p⟩ hs
  cases a with
  | tup xs =>
    cases ra with
    | tup t q =>
      obtain ⟨i, z, rfl, e, k⟩ := subL_PR R q rb p
      exact ix_tup value slice pins s σ H _ _ v u Q I rx ry ⟨_, _, i, z, rfl, rfl, t, e, k⟩ hs
  | str x =>
    cases ra
    cases b with
    | int i =>
      obtain ⟨e, p2⟩ := lenLe_PR (show PR g X.K (RepR X.K) Q W σ0 μ H (lenLe (Nat.ble x.cps.toList.length big) (chr (atI x.cps.toList i) h)) from p)
      cases rb
      cases q : atI x.cps.toList i with
      | none => rw [q] at p2; exact p2.elim
      | some c =>
        rw [q] at p2
        rw [atI_eq] at q
        have e2 : x.length = x.cps.toList.length := (Array.length_toList).symm
        exact ix_str value slice pins s σ H _ _ v u Q I rx ry ⟨x, i, c, rfl, rfl, by rw [e2]; exact big_le e, q, PR.ok (v := PV.str ⟨#[c]⟩) p2 R (.str _)⟩ hs
    | _ => exact p.elim
  | loc l =>
    have p' : PR g X.K (RepR X.K) Q W σ0 μ H (match nth h l with
      | some (.lst xs) => subL xs b h
      | some (.dct kvs) => subD kvs b h
      | none => .bad) := p
    rw [nth_eq] at p'
    cases e : h[l]? with
    | none => rw [e] at p'; exact p'.elim
    | some o =>
      rw [e] at p'
      cases o with
      | lst xs =>
        obtain ⟨ad, vs, rfl, m, hH, t⟩ := loc_lst R ra e
        obtain ⟨i, z, rfl, e, k⟩ := subL_PR R t rb p'
        exact ix_list value slice pins s σ H _ _ v u Q I rx ry ⟨_, _, i, z, rfl, rfl, SqL.of hH, e, k⟩ hs
      | dct kvs => exact sub_dct hw hu I R ra rb rx ry e p' hs
  | non => exact p.elim
  | bl _ => exact p.elim
  | int _ => exact p.elim
end
/-- all of it -/
theorem dr {g : GC} : DR g := ⟨fun X W pos => d_new, fun X W hw hu => in_all hw hu, fun X W hw hu => x_sub hw hu, fun X hw hu => set_all hw hu⟩
end MP
namespace MP
open PySem L2 PySem.Spec PyProof.Rows
variable [Wd]
theorem PS.imp {X : Cx} {st : Stmt} {t t' : TS} (p : PS X st t) (h : ∀ D σ H, t' D σ H → t D σ H) : PS X st t' := ⟨fun pins s σ H D I q => p.run pins s σ H D I (h _ _ _ q)⟩
theorem PSs.imp {X : Cx} {st : List Stmt} {t t' : TS} (p : PSs X st t) (h : ∀ D σ H, t' D σ H → t D σ H) : PSs X st t' := ⟨fun pins s σ H D I q => p.run pins s σ H D I (h _ _ _ q)⟩
section
variable {X : Cx} {g : GC} {W : WX} {K : Fr} {D : Ends} {σ : L2.St} {H : Hp} {μ : List Addr} {e : Ev} {h : Hv} {pos : Pos} {fa fb fc : Sm}
theorem PS_.nx (p : PS_ g K D W μ H (.nx e h)) (s : Stt K μ e h σ H) : D.nx σ H := p μ H σ .refl s
theorem PS_.rt {v : PV} {x : V} (p : PS_ g K D W μ H (.rt v h)) (r : Rel K μ h H) (q : Rep K H μ v x) : D.rt x H := p μ H x .refl r q
/-- a value first -/
theorem PS_.first {f : Sm} {k : PV → Hv → SR} (s : Stt K μ e h σ H) (p : PS_ g K D W μ H ((f e h).done e k)) :
    TI g K W f σ H fun x H1 => ∃ v h1 μ1, Stt K μ1 e h1 σ H1 ∧ Rep K H1 μ1 v x ∧ PS_ g K D W μ1 H1 (k v h1) :=
  ⟨μ, e, h, s, (PS_.done (rel := RepR K) s p).mono fun v h' μ' H' x _ x1 r1 q1 ⟨w, h1, μ1, x2, r2, q2, _, p2⟩ => ⟨w, h1, μ1, s.ext x2 r2, q2, p2⟩⟩
theorem s_exp (he : PE X e0 (TI g X.K W fa)) (hs : swapsWith e0 none pos.line X.env = pure false) : PS X (.Expr e0 pos) (TS_ g X.K W (sExp fa)) := by
  refine PS.imp (ps_expr he hs) ?_
  rintro D σ H ⟨μ, e, h, s, p⟩
  obtain ⟨μ', e', h', s', p'⟩ := PS_.first (f := fa) (k := fun _ h1 => .nx e h1) s p
  refine ⟨μ', e', h', s', PR.mono p' ?_⟩
  rintro _ _ _ H1 x _ _ _ _ ⟨v, h1, μ1, s1, _, p1⟩
  exact p1.nx s1
theorem asg_T {f : Sm} {i : Nat} : ∀ D σ H, TS_ g K W (sAsg i f) D σ H → tAsg (TI g K W f) (gName i) D σ H := by
  rintro D σ H ⟨μ, e, h, s, p⟩
  obtain ⟨μ', e', h', s', p'⟩ := PS_.first (f := f) (k := fun x h1 => .nx (put e i (some x)) h1) s p
  refine ⟨μ', e', h', s', PR.mono p' ?_⟩
  rintro _ _ _ H1 x _ _ _ _ ⟨v, h1, μ1, s1, q1, p1⟩
  rw [put_eq] at p1
  exact p1.nx (s1.set q1)
theorem s_ret (he : PE X e0 (TI g X.K W fa)) : PS X (.Return (some e0) pos) (TS_ g X.K W (sRet fa)) := by
  refine PS.imp (ps_ret he) ?_
  rintro D σ H ⟨μ, e, h, s, p⟩
  obtain ⟨μ', e', h', s', p'⟩ := PS_.first (f := fa) (k := fun x h1 => .rt x h1) s p
  refine ⟨μ', e', h', s', PR.mono p' ?_⟩
  rintro _ _ _ H1 x _ _ _ _ ⟨v, h1, μ1, s1, q1, p1⟩
  exact p1.rt s1.rel q1
theorem s_retN : PS X (.Return none pos) (TS_ g X.K W sRetN) :=
  PS.imp ps_retN fun D σ H ⟨μ, e, h, s, p⟩ => PS_.rt (v := PV.non) p s.rel .non
theorem s_pass : PS X (.Pass pos) (TS_ g X.K W sPass) := PS.imp ps_pass fun D σ H ⟨μ, e, h, s, p⟩ => PS_.nx p s
theorem s_brk : PS X (.Break pos) (TS_ g X.K W sBrk) := PS.imp ps_break fun D σ H ⟨μ, e, h, s, p⟩ => p μ H σ .refl s
theorem s_cont : PS X (.Continue pos) (TS_ g X.K W sCont) := PS.imp ps_continue fun D σ H ⟨μ, e, h, s, p⟩ => p μ H σ .refl s
/-- several names take a tuple's items -/
theorem s_asgT {is : List Nat} {tg e0 : PySem.Expr} (he : PE X e0 (TI g X.K W fa)) (hg : PG X tg (gOf X.K (.t is))) (hs : swapsWithSole [tg] e0 pos.line X.env = pure false) (hw : swappedStores [tg] e0 X.env = pure none) (h1 : (assignEach [tg] X.env).map (·.2) = [assign tg X.env]) : PS X (.Assign [tg] e0 pos) (TS_ g X.K W (sAsgT is fa)) := by
  refine PS.imp (ps_asg he hg hs hw h1) ?_
  rintro D σ H ⟨μ, e, h, s, p⟩
  obtain ⟨μ', e', h', s', p'⟩ := PS_.first (f := fa) (k := unT is e) s p
  refine ⟨μ', e', h', s', PR.mono p' ?_⟩
  rintro _ _ _ H1 x _ _ _ _ ⟨v, h1, μ1, s1, q1, p1⟩
  cases v with
  | tup xs =>
    have p3 : PS_ g X.K D W μ1 H1 (nxO (setNames is xs e) h1) := p1
    cases q : setNames is xs e with
    | none => rw [q] at p3; exact p3.elim
    | some e2 =>
      rw [q] at p3
      exact gOf_ok (t := .t is) (own := is) (fun _ z => z) s1 q1 q fun σ' s2 _ => PS_.nx p3 s2
  | non => exact p1.elim
  | bl _ => exact p1.elim
  | int _ => exact p1.elim
  | str _ => exact p1.elim
  | loc _ => exact p1.elim
theorem s_set {o i e0 : PySem.Expr} {p2 : Pos} (hset : PSet X (SetP X.K)) (ho : PE X o (TI g X.K W fb)) (hi : PE X i (TI g X.K W fc)) (he : PE X e0 (TI g X.K W fa)) (ns : notSlice i = true) (hs : swapsWithSole [.Subscript o i p2] e0 pos.line X.env = pure false) : PS X (.Assign [.Subscript o i p2] e0 pos) (TS_ g X.K W (sSet fb fc fa)) := by
  have hg : PG X (.Subscript o i p2) (gSub (TI g X.K W fb) (TI g X.K W fc) (SetP X.K)) := by
    refine pg_sub ho hi hset fun v => ?_
    cases i <;> first | rfl | cases ns
  refine PS.imp (ps_asg he hg hs rfl rfl) ?_
  rintro D σ H ⟨μ, e, h, s, p⟩
  have p0 : PS_ g X.K D W μ H ((fa e h).done e fun x h1 => (fb e h1).done e fun y h2 => (fc e h2).done e fun z h3 => nxH e (setF y z x h3)) := p
  obtain ⟨μ', e', h', s', p'⟩ := PS_.first (f := fa) s p0
  refine ⟨μ', e', h', s', PR.mono p' ?_⟩
  rintro _ _ _ H1 x _ _ _ _ ⟨v, h1, μ1, s1, q1, p1⟩
  have p1' := PS_.done (rel := RepR X.K) s1 p1
  refine ⟨μ1, e, h1, s1, PR.mono p1' ?_⟩
  rintro _ _ _ H2 y _ _ _ _ ⟨w, h2, μ2, x2, r2, q2, _, p2⟩
  have s2 := s1.ext x2 r2
  have p2' := PS_.done (rel := RepR X.K) s2 p2
  refine ⟨μ2, e, h2, s2, PR.mono p2' ?_⟩
  rintro _ _ _ H3 z _ _ _ _ ⟨u, h3, μ3, x3, r3, q3, _, p3⟩
  have s3 := s2.ext x3 r3
  cases q : setF w u v h3 with
  | none => rw [q] at p3; exact p3.elim
  | some h4 =>
    rw [q] at p3
    exact ⟨μ3, h3, w, u, v, h4, s3.rel, q2.ext s2.rel x3, q3, (q1.ext s1.rel x2).ext s2.rel x3, q, fun μ4 H4 x4 r4 => (PS_.ext (show PS_ g X.K D W μ3 H3 (.nx e h4) from p3) x4).nx (s3.ext x4 r4)⟩
theorem cBs_bad {v : PV} {t f : SR} (h : ∀ b, v ≠ .bl b) : cBs v t f = .bad := by
  cases v with
  | bl b => exact absurd rfl (h b)
  | _ => rfl
theorem TB.stmt {k : PV → Hv → SR} (s : Stt K μ e h σ H) (p : PS_ g K D W μ H ((fc e h).done e k)) (only : ∀ v h, (∀ b, v ≠ .bl b) → k v h = .bad) :
    TB g K W fc σ H fun b H1 => ∃ μ1 h1, Stt K μ1 e h1 σ H1 ∧ PS_ g K D W μ1 H1 (k (.bl b) h1) := by
  refine ⟨μ, e, h, s, ?_⟩
  cases q : fc e h with
  | bad => rw [q] at p; exact p
  | exc c v h' =>
    rw [q] at p
    exact fun μ' H' cls d x r z => p μ' H' σ cls d x (s.ext x r) z
  | ok v h' =>
    rw [q] at p
    have p' : PS_ g K D W μ H (k v h') := p
    cases v with
    | bl b =>
      show PR g K EqR_ _ W σ μ H (.ok b h')
      rintro μ1 H1 c x1 r1 rfl
      exact ⟨μ1, h', s.ext x1 r1, PS_.ext p' x1⟩
    | non => rw [only _ h' (by intro b z; cases z)] at p'; exact p'.elim
    | int _ => rw [only _ h' (by intro b z; cases z)] at p'; exact p'.elim
    | str _ => rw [only _ h' (by intro b z; cases z)] at p'; exact p'.elim
    | tup _ => rw [only _ h' (by intro b z; cases z)] at p'; exact p'.elim
    | loc _ => rw [only _ h' (by intro b z; cases z)] at p'; exact p'.elim
variable {b1 b2 : Sr} {B1 B2 : List Stmt} {c0 : PySem.Expr}
theorem s_ite (hc : PT X c0 (TB g X.K W fc)) (ha : PSs X B1 (TS_ g X.K W b1)) (hb : PSs X B2 (TS_ g X.K W b2)) : PS X (.If c0 B1 B2 pos) (TS_ g X.K W (sIte fc b1 b2)) := by
  refine PS.imp (ps_if hc ha hb) ?_
  rintro D σ H ⟨μ, e, h, s, p⟩
  obtain ⟨μ', e', h', s', p'⟩ := TB.stmt (fc := fc) (k := fun x h1 => cBs x (b1 e h1) (b2 e h1)) s p fun v h z => cBs_bad z
  refine ⟨μ', e', h', s', PR.mono p' ?_⟩
  rintro _ _ _ H1 c _ _ _ _ ⟨μ1, h1, s1, p1⟩
  cases c with
  | true => exact (if_pos rfl).mpr ⟨μ1, e, h1, s1, p1⟩
  | false => exact (if_neg (by decide)).mpr ⟨μ1, e, h1, s1, p1⟩
/-- the turns that are left -/
def Nx (g : GC) (K : Fr) (W : WX) (D : Ends) (next : Sr) : L2.St → Hp → Prop := fun σ H => ∃ μ e h, Stt K μ e h σ H ∧ PS_ g K D W μ H (next e h)
theorem after_PS {next : Sr} {r : SR} (p : PS_ g K D W μ H (after next r)) : PS_ g K { D with nx := Nx g K W D next, ct := Nx g K W D next, bk := D.nx } W μ H r := by
  cases r with
  | nx e h => exact fun μ' H' σ' x s => ⟨μ', e, h, s, PS_.ext (show PS_ g K D W μ H (next e h) from p) x⟩
  | ct e h => exact fun μ' H' σ' x s => ⟨μ', e, h, s, PS_.ext (show PS_ g K D W μ H (next e h) from p) x⟩
  | bk e h => exact p
  | rt v h => exact p
  | exc c v e h => exact p
  | bad => exact p
theorem then_PS {next : Sr} {r : SR} (p : PS_ g K D W μ H (then_ next r)) : PS_ g K { D with nx := TS_ g K W next D } W μ H r := by
  cases r with
  | nx e h => exact fun μ' H' σ' x s => ⟨μ', e, h, s, PS_.ext (show PS_ g K D W μ H (next e h) from p) x⟩
  | ct e h => exact p
  | bk e h => exact p
  | rt v h => exact p
  | exc c v e h => exact p
  | bad => exact p
theorem s_whl (po : PassesOwn (model X.prog X.w) X.A X.env X.xe) (hc : PT X c0 (TB g X.K W fc)) (hb : PSs X B1 (TS_ g X.K W b1)) : PS X (.While c0 B1 [] pos) (TS_ g X.K W (sWhl fc b1)) := by
  refine PS.imp (ps_while po hc hb) ?_
  rintro D σ H ⟨μ, e, h, s, p⟩
  have p0 : PS_ g X.K D W μ H (loopW fc b1 fuelW e h) := p
  generalize fuelW = n at p0
  refine ⟨fun m σ H => Nx g X.K W D (loopW fc b1 m) σ H, ⟨n, μ, e, h, s, p0⟩, ?_⟩
  clear p p0 s
  rintro m σ H ⟨μ, e, h, s, p⟩
  cases m with
  | zero => exact p.elim
  | succ m =>
    obtain ⟨μ', e', h', s', p'⟩ := TB.stmt (fc := fc) (k := lW b1 (fun e' h' => loopW fc b1 m e' h') e) s p fun v h z => by
      cases v with
      | bl b => exact absurd rfl (z b)
      | _ => rfl
    refine ⟨μ', e', h', s', PR.mono p' ?_⟩
    rintro _ _ _ H1 c _ _ _ _ ⟨μ1, h1, s1, p1⟩
    cases c with
    | false => exact (if_neg (by decide)).mpr (PS_.nx p1 s1)
    | true =>
      refine (if_pos rfl).mpr ⟨Nx g X.K W D (loopW fc b1 m), fun σ' H' z => ⟨m, Nat.lt_succ_self _, z⟩, μ1, e, h1, s1, ?_⟩
      exact after_PS (next := loopW fc b1 m) p1
/-- the walk of a for -/
noncomputable def sFw (t : Tg) (b : Sr) (f : Ev → Hv → R Wk) : Sr := fun e h => (f e h).done e fun w h1 => loopF w t b fuelW 0 e h1
theorem sFor_eq (o : Option Wk) (t : Tg) (b : Sr) (e : Ev) (h1 : Hv) : sFor o t b e h1 = (ofW o h1).done e fun w h1 => loopF w t b fuelW 0 e h1 := by
  cases o <;> rfl
theorem for_eq (t : Tg) (a : Sm) (b : Sr) : sForE t a b = sFw t b (wkE a) := by
  funext e h
  show ((a e h).done e fun x h1 => sFor (walkOf h1 x) t b e h1) = ((a e h).bind fun x h1 => ofW (walkOf h1 x) h1).done e fun w h1 => loopF w t b fuelW 0 e h1
  cases a e h with
  | bad => rfl
  | exc _ _ _ => rfl
  | ok x h1 => exact sFor_eq _ _ _ _ _
theorem forR_eq (t : Tg) (a : SmL) (b : Sr) : sForR t a b = sFw t b (wkR a) := by
  funext e h
  show ((a e h).done e fun x h1 => sFor (rangeOf x) t b e h1) = ((a e h).bind fun x h1 => ofW (rangeOf x) h1).done e fun w h1 => loopF w t b fuelW 0 e h1
  cases a e h with
  | bad => rfl
  | exc _ _ _ => rfl
  | ok x h1 => exact sFor_eq _ _ _ _ _
theorem s_for {fw : Ev → Hv → R Wk} {tg it : PySem.Expr} {t : Tg} (po : PassesOwn (model X.prog X.w) X.A X.env X.xe) (calm : X.calm = true) (hi : PI X tg it (TWk g X.K W fw)) (hg : PG X tg (gOf X.K t)) (hb : PSs X B1 (TS_ g X.K W b1)) (hs : ∀ x, foldedSetIterable it X.env x = pure x) :
    PS X (.For tg it B1 [] pos) (TS_ g X.K W (sFw t b1 fw)) := by
  refine PS.imp (ps_for po calm hi hg hb hs) ?_
  rintro D σ H ⟨μ, e, h, s, p⟩
  have p0 : PS_ g X.K D W μ H ((fw e h).done e fun w h1 => loopF w t b1 fuelW 0 e h1) := p
  refine ⟨μ, e, h, s, (PS_.done s p0).mono ?_⟩
  rintro _ _ _ H1 J _ _ _ _ ⟨w, h1, μ1, x1, r1, q1, _, p1⟩
  have s1 := s.ext x1 r1
  clear p p0 s
  generalize fuelW = n at p1
  refine ⟨fun i m σ H => ∃ μ e h, Stt X.K μ e h σ H ∧ WkR X.K w J μ H ∧ PS_ g X.K D W μ H (loopF w t b1 m i e h), ⟨n, μ1, e, h1, s1, q1, p1⟩, ?_⟩
  clear p1 s1 q1 r1 x1
  rintro i m σ H ⟨μ, e, h, s, wk, p⟩
  cases m with
  | zero => exact p.elim
  | succ m =>
    have p2 : PS_ g X.K D W μ H (lF t b1 (fun e' h' => loopF w t b1 m (i + 1) e' h') e h (w.at_ i h)) := p
    clear p
    cases ea : w.at_ i h with
    | none => rw [ea] at p2; exact p2.elim
    | some o =>
      rw [ea] at p2
      cases o with
      | none => exact .inl ⟨wk.stop s.rel ea, PS_.nx p2 s⟩
      | some x =>
        obtain ⟨go, yl⟩ := wk.go s.rel ea
        refine .inr ⟨go, fun σ' H' => ∃ μ e h, Stt X.K μ e h σ' H' ∧ WkR X.K w J μ H' ∧ PS_ g X.K D W μ H' (loopF w t b1 m (i + 1) e h), fun σ' H' z => ⟨m, Nat.lt_succ_self _, z⟩, fun y H' yd => ?_⟩
        obtain ⟨rfl, rx⟩ := yl y H' yd
        have p3 : PS_ g X.K D W μ H' (lF2 b1 (fun e' h' => loopF w t b1 m (i + 1) e' h') h (setTg t x e)) := p2
        clear p2
        cases et : setTg t x e with
        | none => rw [et] at p3; exact p3.elim
        | some e2 =>
          rw [et] at p3
          have p4 : PS_ g X.K D W μ H' (after (fun e' h' => loopF w t b1 m (i + 1) e' h') (b1 e2 h)) := p3
          refine gOf_ok (own := tgSlots t) (fun _ z => z) s rx et fun σ2 s2 _ => ⟨μ, e2, h, s2, ?_⟩
          cases q : b1 e2 h with
          | nx e3 h3 => rw [q] at p4; exact fun μ' H2 σ' x s' => ⟨μ', e3, h3, s', wk.ext s2.rel x, PS_.ext (show PS_ g X.K D W μ H' (loopF w t b1 m (i + 1) e3 h3) from p4) x⟩
          | ct e3 h3 => rw [q] at p4; exact fun μ' H2 σ' x s' => ⟨μ', e3, h3, s', wk.ext s2.rel x, PS_.ext (show PS_ g X.K D W μ H' (loopF w t b1 m (i + 1) e3 h3) from p4) x⟩
          | bk e3 h3 => rw [q] at p4; exact p4
          | rt v h3 => rw [q] at p4; exact p4
          | exc c v e3 h3 => rw [q] at p4; exact p4
          | bad => rw [q] at p4; exact p4
/-- .. forgetting the places at each turn -/
noncomputable def sFwP (t : Tg) (b : Sr) (f : Ev → Hv → R Wk) : Sr := fun e h => (f e h).done e fun w h1 => outP h1 (forceE e fun e2 => loopP w t b fuelW 0 e2 [])
theorem forRP_eq (t : Tg) (a : SmL) (b : Sr) : sForRP t a b = sFwP t b (wkR a) := by
  funext e h
  show ((a e h).done e fun x h1 => sForP (rangeOf x) t b e h1) = ((a e h).bind fun x h1 => ofW (rangeOf x) h1).done e fun w h1 => outP h1 (forceE e fun e2 => loopP w t b fuelW 0 e2 [])
  cases a e h with
  | bad => rfl
  | exc _ _ _ => rfl
  | ok x h1 =>
    show sForP (rangeOf x) t b e h1 = (ofW (rangeOf x) h1).done e fun w h1 => outP h1 (forceE e fun e2 => loopP w t b fuelW 0 e2 [])
    cases rangeOf x <;> rfl
theorem rng_only {vs : List PV} {w : Wk} (e : rangeOf vs = some w) : ∃ lo st n, w = .rng lo st n := by
  have mk : ∀ {b : Bool} {lo st : Int} {n : Nat} {w : Wk}, mkR b lo st n = some w → ∃ lo st n, w = .rng lo st n := by
    intro b lo st n w e
    cases b with
    | false => cases e
    | true =>
      have e' : (forceN n fun m => some (Wk.rng lo st m)) = some w := e
      rw [forceN_eq] at e'
      cases e'
      exact ⟨_, _, _, rfl⟩
  rcases rangeOf_inv e with ⟨j, rfl⟩ | ⟨i, j, rfl⟩ | ⟨i, j, rfl⟩ | ⟨i, j, k, rfl⟩
  · exact mk e
  · exact mk e
  · exact mk e
  · exact mk e
theorem s_forP {fs : SmL} {tg it : PySem.Expr} {t : Tg} (po : PassesOwn (model X.prog X.w) X.A X.env X.xe) (calm : X.calm = true) (hi : PI X tg it (TWk g X.K W (wkR fs))) (hg : PG X tg (gOf X.K t)) (hb : PSs X B1 (TS_ g X.K W b1)) (hs : ∀ x, foldedSetIterable it X.env x = pure x) :
    PS X (.For tg it B1 [] pos) (TS_ g X.K W (sFwP t b1 (wkR fs))) := by
  refine PS.imp (ps_for po calm hi hg hb hs) ?_
  rintro D σ H ⟨μ, e, h, s, p⟩
  have p0 : PS_ g X.K D W μ H ((wkR fs e h).done e fun w h1 => outP h1 (forceE e fun e2 => loopP w t b1 fuelW 0 e2 [])) := p
  refine ⟨μ, e, h, s, (PS_.done s p0).mono ?_⟩
  rintro _ _ _ H1 J _ _ _ _ ⟨w, h1, μ1, x1, r1, q1, eq, p1⟩
  have s1 := s.ext x1 r1
  have isR : ∃ lo st n, w = .rng lo st n := by
    have eq' : ((fs e h).bind fun vs h1 => ofW (rangeOf vs) h1) = .ok w h1 := eq
    cases z : fs e h with
    | bad => rw [z] at eq'; cases eq'
    | exc _ _ _ => rw [z] at eq'; cases eq'
    | ok vs h2 =>
      rw [z] at eq'
      have eq2 : ofW (rangeOf vs) h2 = .ok w h1 := eq'
      cases z2 : rangeOf vs with
      | none => rw [z2] at eq2; cases eq2
      | some w2 =>
        rw [z2] at eq2
        cases eq2
        exact rng_only z2
  obtain ⟨lo, stp, nn, rfl⟩ := isR
  clear p p0 s eq
  have p5 := outP_PS s1.rel p1
  rw [forceE_eq] at p5
  generalize fuelW = n at p5
  refine ⟨fun i m σ H => ∃ e, Stt X.K [] e [] σ H ∧ WkR X.K (.rng lo stp nn) J [] H ∧ PS_ g X.K D W [] H (loopP (.rng lo stp nn) t b1 m i e []), ⟨n, pureE e, s1.purify, q1, p5⟩, ?_⟩
  clear p1 s1 r1 x1 p5
  rintro i m σ H ⟨e, s, wk, p⟩
  cases m with
  | zero => exact p.elim
  | succ m =>
    have p2 : PS_ g X.K D W [] H (lF t b1 (fun e' _ => forceE e' fun e2 => loopP (.rng lo stp nn) t b1 m (i + 1) e2 []) e [] ((Wk.rng lo stp nn).at_ i [])) := p
    clear p
    cases ea : (Wk.rng lo stp nn).at_ i [] with
    | none => rw [ea] at p2; exact p2.elim
    | some o =>
      rw [ea] at p2
      cases o with
      | none => exact .inl ⟨wk.stop s.rel ea, PS_.nx p2 s⟩
      | some x =>
        obtain ⟨go, yl⟩ := wk.go s.rel ea
        refine .inr ⟨go, fun σ' H' => ∃ e, Stt X.K [] e [] σ' H' ∧ WkR X.K (.rng lo stp nn) J [] H' ∧ PS_ g X.K D W [] H' (loopP (.rng lo stp nn) t b1 m (i + 1) e []), fun σ' H' z => ⟨m, Nat.lt_succ_self _, z⟩, fun y H' yd => ?_⟩
        obtain ⟨rfl, rx⟩ := yl y H' yd
        have p3 : PS_ g X.K D W [] H' (lF2 b1 (fun e' _ => forceE e' fun e2 => loopP (.rng lo stp nn) t b1 m (i + 1) e2 []) [] (setTg t x e)) := p2
        clear p2
        cases et : setTg t x e with
        | none => rw [et] at p3; exact p3.elim
        | some e2 =>
          rw [et] at p3
          have p4 : PS_ g X.K D W [] H' (after (fun e' _ => forceE e' fun e2 => loopP (.rng lo stp nn) t b1 m (i + 1) e2 []) (b1 e2 [])) := p3
          have turn : ∀ {e3 : Ev}, PS_ g X.K D W [] H' (forceE e3 fun e2 => loopP (.rng lo stp nn) t b1 m (i + 1) e2 []) → ∀ {h3 : Hv} (μ' : List Addr) (H2 : Hp) (σ' : L2.St), Ext [] H' μ' H2 → Stt X.K μ' e3 h3 σ' H2 → ∃ e, Stt X.K [] e [] σ' H2 ∧ WkR X.K (.rng lo stp nn) J [] H2 ∧ PS_ g X.K D W [] H2 (loopP (.rng lo stp nn) t b1 m (i + 1) e []) := by
            intro e3 q h3 μ' H2 σ' x s'
            rw [forceE_eq] at q
            exact ⟨pureE e3, s'.purify, wk, PS_.ext q (keepX (h := h3) x)⟩
          refine gOf_ok (own := tgSlots t) (fun _ z => z) s rx et fun σ2 s2 _ => ⟨[], e2, [], s2, ?_⟩
          cases q : b1 e2 [] with
          | nx e3 h3 => rw [q] at p4; exact turn p4
          | ct e3 h3 => rw [q] at p4; exact turn p4
          | bk e3 h3 => rw [q] at p4; exact p4
          | rt v h3 => rw [q] at p4; exact p4
          | exc c v e3 h3 => rw [q] at p4; exact p4
          | bad => rw [q] at p4; exact p4
variable {st : Stmt} {rest : List Stmt}
theorem b_nil : PSs X [] (TS_ g X.K W sNil) := PSs.imp pss_nil fun D σ H ⟨μ, e, h, s, p⟩ => PS_.nx p s
theorem b_cons (h1 : PS X st (TS_ g X.K W b1)) (h2 : PSs X rest (TS_ g X.K W b2)) : PSs X (st :: rest) (TS_ g X.K W (sCons b1 b2)) :=
  PSs.imp (pss_cons h1 h2) fun D σ H ⟨μ, e, h, s, p⟩ => ⟨μ, e, h, s, then_PS p⟩
end
end MP
namespace MP
open PySem L2 PySem.Spec PyProof.Rows
variable [Wd]
section
variable {X : Cx}
/-- Error(e): its own start keeps sp -/
theorem mkG {x : Str} {C fI : Addr} {k : Nat} {fd : FuncData} {ps : List Str} {sp : Sp} {e : PySem.Expr} {te : TE} {p pos : Pos} (T : OexC X.K C) (iC : PySem.W.findIn X.K (.ref C) "__init__" = some (some (.ref fI)))
    (tI : PySem.W.typeIn X.K (.ref fI) = some (.type "function")) (Fi : FnG X.prog X.w X.K X.mg X.base k fI fd ps sp) (room : Room (k + 1) X.A) (gd : X.A.guards = some []) (bd : Binds X.K fd ps [])
    (hg : Gl X x) (hm : X.mg x = some (.ref C)) (he : PE X e te) (hdb : (x == ("__debug__" : Str)) = false) (ns : notStar e = true) :
    PMk X (.Call (.Name x p) [e] [] pos) (fun σ H Q => te σ H fun y H1 => ∀ a, H1 a = none → sp [.ref a, y] (upd H1 a (exo a C none))
      (fun v H2 => v = .non ∧ ∃ (d : Addr) (fs : List (Str × V)), H2 a = some (exo a C (some d)) ∧ H2 d = some (exd d fs) ∧ H1 d = none ∧ Q (.ref C) (some d) (upd (del H2 a) d (.xd fs))) (fun _ _ _ => False)) := by
  intro pins s σ H Q I h
  obtain ⟨nm, q, N, bs, bm, sn, sub, ab, col, dd, k0, k1, k2, k3, k5, hC, hbm⟩ := T.cls
  have pa : PA X [e] (fun σ H R => te σ H fun y H1 => R [y] H1) := PA.imp (pa_cons he pa_nil (star_cons ns)) fun σ H R t => t
  refine wpAny_Call_Name_kw (ld_glob I hg hm ?_ hdb)
  refine PySem.W.callWith_K (h₀ := X.base) I.ok.mod.kin T.kC (thn (pa.run pos pins s σ H (fun vs H1 => match vs with
    | [y] => ∀ a, H1 a = none → sp [.ref a, y] (upd H1 a (exo a C none))
      (fun v H2 => v = .non ∧ ∃ (d : Addr) (fs : List (Str × V)), H2 a = some (exo a C (some d)) ∧ H2 d = some (exd d fs) ∧ H1 d = none ∧ Q (.ref C) (some d) (upd (del H2 a) d (.xd fs))) (fun _ _ _ => False)
    | _ => False) I h) ?_) (star_cons ns) rfl
  rintro us s1 ⟨vs, H1, I1, r1, q1⟩
  refine ⟨I1.kIn, ?_⟩
  show wpAny _ _ (call (.ref C) us) _ _ _
  match vs, r1, q1 with
  | [], _, q1 => exact q1.elim
  | _ :: _ :: _, _, q1 => exact q1.elim
  | [y], r1, q1 =>
    obtain ⟨hp, gs, dr, tk, os⟩ := s1
    have le1 : hp.objs.size ≤ hp.objs.size + 1 := Nat.le_succ _
    have fresh : H1 (hp.objs.size + 1) = none := I1.hok.fresh le1
    have want := q1 _ fresh
    have keep : ∀ b o, hp.get? b = some o → ((hp.push (PySem.W.kdv_tup us)).push (PySem.HandSPX.excO C hp.objs.size)).get? b = some o := fun b o z => Heap.get?_push_of_some _ (Heap.get?_push_of_some _ z)
    have there : ((hp.push (PySem.W.kdv_tup us)).push (PySem.HandSPX.excO C hp.objs.size)).get? (hp.objs.size + 1) = some (PySem.HandSPX.excO C hp.objs.size) := by heap_get
    have J := I1.laid (t' := tk) (a := hp.objs.size + 1) (o := exo (hp.objs.size + 1) C none) (h' := (hp.push (PySem.W.kdv_tup us)).push (PySem.HandSPX.excO C hp.objs.size)) keep le1 (exo_ok there)
    have both : Vals [V.ref (hp.objs.size + 1), y] ((Value.ref (hp.objs.size + 1) :: us) ++ []) := by rw [List.append_nil]; exact .cons rfl r1
    have lens : ((Value.ref (hp.objs.size + 1) :: us) ++ []).length = ps.length := both.length.symm.trans (Fi.len _ _ _ _ want)
    have few : us.length ≤ sizeLine := by
      rw [← r1.length, sizeLine_eq]; show 1 ≤ _; omega
    have body := Fi.run _ X.stack _ _ ⟨Value.ref (hp.objs.size + 1) :: us, []⟩ _ _ _ _ (room.make C us []) (show X.A.guards = some [] from gd) (J.env0.make C us []) (bd _ (Value.ref (hp.objs.size + 1) :: us) J.kIn lens) both want
    refine wpAny_call (PySem.HandSPX.call_own F.excBase_ValueError (fun Y => PySem.HandSPX.refsVE_contains Y bm hbm) (I1.kIn _ _ hC) (PySem.W.looks_findIn I1.kIn iC) (fun self => PySem.W.bind_fn I1.kIn self tI) few (codeAny_mono body ?_))
    intro r s' z
    match r, z with
    | .error er, z =>
      obtain ⟨_, _, _, _, _, _, _, _, _, _, _, _, z⟩ := z
      exact z.elim
    | .ok (.ret u), z =>
      obtain ⟨v, H2, os2, bare2, un2, hok2, rv, ev, d, fs, ea, ed, nd, q2⟩ := z
      subst ev
      obtain ⟨h2, g2, d2, t2, os'⟩ := s'
      exact ⟨rv, mk_end (raises_own T.exC T.tyC) I1 le1 keep un2 hok2 os2 bare2 ea ed nd q2⟩
    | .ok .next, z => exact z.elim
    | .ok .brk, z => exact z.elim
    | .ok .cont, z => exact z.elim
end
end MP
namespace MP
open PySem L2 PySem.Spec PyProof.Rows
/-- where the clause's name stands, behind it and within -/
def goneE (o : Option Nat) (D : Ends) : Ends := match o with
  | none => D
  | some i => { nx := fun σ H => D.nx (σ.set i none) H, rt := D.rt, bk := fun σ H => D.bk (σ.set i none) H, ct := fun σ H => D.ct (σ.set i none) H }
def bindE (o : Option Nat) (a : Addr) (σ : L2.St) : L2.St := match o with
  | none => σ
  | some i => σ.set i (some (.ref a))
abbrev TSu := Addr → Value → Option Addr → TS
def wH (K : Fr) (W : WX) (D : Ends) : List (Value × Option Nat × TSu) → WX
  | [] => W
  | (c, o, ts) :: r => fun cls d σ H => ∃ b, PySem.W.exmOne K cls c = some b ∧ (b = true → ∀ a, H a = none → ts a cls d (goneE o D) (bindE o a σ) H) ∧ (b = false → wH K W D r cls d σ H)
inductive Hds (X : Cx) : List ExceptHandler → List (Value × Option Nat × TSu) → Prop where
  | nil : Hds X [] []
  | named {x n : Str} {i : Nat} {c : Value} {ts : TSu} {b₀ : Stmt} {suite : List Stmt} {np p : Pos} {hs : List ExceptHandler} {l : List (Value × Option Nat × TSu)} : X.N[i]? = some n → X.env.kindOf n = some .local → Names X x c →
      (∀ (a : Addr) (oe : Obj) (cls : Value) (d : Option Addr) (pn : List (Addr × Obj)), Zc cls d oe → (∃ vs, oe.data = .fields vs) → PSs (X.suite a ((a, oe) :: pn)) (b₀ :: suite) (ts a cls d)) →
      Hds X hs l → Hds X (.ExceptHandler (some (.Name x np)) (some n) (b₀ :: suite) p :: hs) ((c, some i, ts) :: l)
  | bare {x : Str} {c : Value} {ts : TSu} {b₀ : Stmt} {suite : List Stmt} {np p : Pos} {hs : List ExceptHandler} {l : List (Value × Option Nat × TSu)} : Names X x c →
      (∀ (a : Addr) (oe : Obj) (cls : Value) (d : Option Addr) (pn : List (Addr × Obj)), Zc cls d oe → (∃ vs, oe.data = .fields vs) → PSs (X.suite a ((a, oe) :: pn)) (b₀ :: suite) (ts a cls d)) →
      Hds X hs l → Hds X (.ExceptHandler (some (.Name x np)) none (b₀ :: suite) p :: hs) ((c, none, ts) :: l)
section
variable {X : Cx} {W : WX}
/-- a caught error goes along the clauses -/
theorem along {pins : List (Addr × Obj)} {D : Ends} {a : Addr} {B : Heap} {sI s3 : Shared} {σ : L2.St} {H : Hp} {cls : Value} {d : Option Addr} (nodup : X.N.Nodup) (stk : X.stack = X.env :: X.outer) (frm : X.env.frame = some X.env.locals) (tk : Takes X W)
    (J : L2.Inv X pins σ H sI) (nb : ∀ b o, sI.heap.get? b = some o → b ∉ frs X.stack → B.get? b = some o) (up : sI.heap.UpToSlots s3.heap) (fl : HandSPX.FlyingZ B (X.env :: X.outer) a (Zc cls d) s3.heap)
    (na : H a = none) (os : s3.os = sI.os) (ag : AllBare s3.gens) :
    ∀ {hs : List ExceptHandler} {l : List (Value × Option Nat × TSu)}, Hds X hs l → wH X.K W D l cls d σ H → wpAny (model X.prog X.w) X.A (handleBy (.ref a) X.env hs) (SP X pins D) X.xe s3 := by
  have mk : ∀ {h4 : Heap}, HandSPX.FlyingZ B (X.env :: X.outer) a (Zc cls d) h4 → sI.heap.UpToSlots h4 → ∃ oe vs, h4.get? a = some oe ∧ Zc cls d oe ∧ oe.data = .fields vs ∧ L2.Inv (X.suite a ((a, oe) :: (X.pn ++ pins))) [] σ H { s3 with heap := h4 } ∧ L2.Inv X pins σ H { s3 with heap := h4 } := by
    intro h4 f4 u4
    have J4 : L2.Inv X pins σ H { s3 with heap := h4 } := J.landed nb f4.1 u4 os ag
    obtain ⟨oe, vs, he, hz, hd⟩ := f4.there
    have out : a ∉ frs (X.env :: X.outer) := fun hm => by
      obtain ⟨_, o2, e2, hnf⟩ := f4.2.2.1.mem hm
      rw [he] at e2
      cases e2
      exact hnf _ hd
    have nL : a ≠ X.env.locals := fun z => out (List.mem_filterMap.mpr ⟨X.env, List.mem_cons_self, by rw [frm, z]⟩)
    have nF : a ∉ X.fs := fun hm => by
      obtain ⟨e, he2, q⟩ := List.mem_filterMap.mp hm
      exact out (List.mem_filterMap.mpr ⟨e, List.mem_cons_of_mem _ he2, q⟩)
    exact ⟨oe, vs, he, hz, hd, J4.suite he hd na nL nF, J4⟩
  obtain ⟨oe3, vs3, he3, hz3, hd3, S3, J3⟩ := mk fl up
  have tell : ∀ {x : Str} {np : Pos} {c : Value} {b : Bool} {hs' : List ExceptHandler} {R : Result → Shared → Prop}, True := trivial
  have test : ∀ {x : Str} {np : Pos} {c : Value}, Names X x c → ∀ {Q : Value → Shared → Prop} {E : Value → Shared → Prop}, Q c s3 → wpAny (model X.prog X.w) (X.A.mark (some (.ref a))) (eval (.Name x np) X.env) Q E s3 := by
    intro x np c hc Q E q
    rcases hc with ⟨hg, hdb, hm | ⟨hm, hv, hn⟩⟩
    · exact ld_glob (X := X.suite a ((a, oe3) :: (X.pn ++ pins))) S3 hg hm q hdb
    · exact ld_blt (X := X.suite a ((a, oe3) :: (X.pn ++ pins))) S3 hg hm hv q hn hdb
  have look : PySem.W.Looks (model X.prog X.w) s3.heap (typeOf (.ref a)) cls := fun A Q E s k q => wpAny_typeOf_ref (k _ _ he3) (by rw [hz3.1]; exact q)
  intro hs l hk
  induction hk with
  | nil =>
    intro w
    refine wpAny_handleBy_nil ?_
    obtain ⟨_, _, _, oe, vs, T, oT, ts, he, hz, hd, h1, hr⟩ := id fl
    unfold PySem.passOn
    refine wpAny_bind (wpAny_field he hd h1 ?_)
    rw [if_neg (show ¬ ((Value.ref T == Value.none) = true) from by simp)]
    have last : wpAny (model X.prog X.w) X.A (setFlight (.ref a) X.env.frame) (fun _ s4 => wpAny (model X.prog X.w) X.A (throw (.ref a) : Sem Flow) (SP X pins D) X.xe s4) X.xe s3 := by
      rw [frm]
      refine HandSPX.setFlight_upZ fl fun h4 hh u4 => wpAny_throw (tk _ _ ⟨a, B, sI, pins, σ, H, cls, d, rfl, J, nb, up.trans u4, .inr (.inr (by rw [stk]; exact hh)), na, os, ag, w⟩)
    first | exact wpAny_bind (wpAny_pure (wpAny_bind last)) | exact wpAny_bind last
  | @named x n i c ts b₀ suite np p hs2 l2 hi hl hc hsu r ih =>
    intro w
    obtain ⟨b, hb, yes, no⟩ := w
    refine wpAny_handleBy_cons (codeAny_handlers_test (test hc ((PySem.W.exm_one (M := model X.prog X.w) J3.kIn look hb).here ?_))) (by intro q; cases q)
    cases b with
    | false => exact ih (no rfl)
    | true =>
      refine codeAny_handlers_suite_as (HandSPX.lands_againZ fl fun h4 f4 u4 => ?_)
      obtain ⟨oe4, vs4, he4, hz4, hd4, S4, _⟩ := mk f4 (up.trans u4)
      refine store_ok (X := X.suite a ((a, oe4) :: (X.pn ++ pins))) (v := .ref a) S4 nodup hi (.inl hl) rfl (fun s5 S5 => ?_) (.inr hl)
      refine wpAny_mono ((hsu a oe4 cls d (X.pn ++ pins) hz4 ⟨_, hd4⟩).run [] s5 _ H _ S5 (yes rfl a na)) (fun f s6 z => ?_) (fun _ _ z => z.elim)
      have gone : ∀ {σ6 : L2.St} {H6 : Hp} {Q : Shared → Prop}, L2.Inv (X.suite a ((a, oe4) :: (X.pn ++ pins))) [] σ6 H6 s6 → (∀ s7, L2.Inv X pins (σ6.set i none) H6 s7 → Q s7) →
          wpAny (model X.prog X.w) X.A (do bindName X.env n .none; unbindBehindTheSuite X.env n p) (fun _ s7 => Q s7) X.xe s6 := fun {σ6 H6 Q} S6 hq => gone_ok (S6.unsuite J.ok) nodup hi hl hq
      cases f with
      | ret u => obtain ⟨v6, σ6, H6, S6, r6, q6⟩ := z; exact gone S6 fun s7 J7 => ⟨_, _, _, J7, r6, q6⟩
      | next => obtain ⟨σ6, H6, S6, q6⟩ := z; exact gone S6 fun s7 J7 => ⟨_, _, J7, q6⟩
      | brk => obtain ⟨σ6, H6, S6, q6⟩ := z; exact gone S6 fun s7 J7 => ⟨_, _, J7, q6⟩
      | cont => obtain ⟨σ6, H6, S6, q6⟩ := z; exact gone S6 fun s7 J7 => ⟨_, _, J7, q6⟩
  | @bare x c ts b₀ suite np p hs2 l2 hc hsu r ih =>
    intro w
    obtain ⟨b, hb, yes, no⟩ := w
    refine wpAny_handleBy_cons (codeAny_handlers_test (test hc ((PySem.W.exm_one (M := model X.prog X.w) J3.kIn look hb).here ?_))) (by intro q; cases q)
    cases b with
    | false => exact ih (no rfl)
    | true =>
      refine codeAny_handlers_suite (HandSPX.lands_againZ fl fun h4 f4 u4 => ?_)
      obtain ⟨oe4, vs4, he4, hz4, hd4, S4, _⟩ := mk f4 (up.trans u4)
      refine wpAny_mono ((hsu a oe4 cls d (X.pn ++ pins) hz4 ⟨_, hd4⟩).run [] _ σ H _ S4 (yes rfl a na)) (fun f s6 z => ?_) (fun _ _ z => z.elim)
      cases f with
      | ret u => obtain ⟨v6, σ6, H6, S6, r6, q6⟩ := z; exact ⟨_, _, _, S6.unsuite J.ok, r6, q6⟩
      | next => obtain ⟨σ6, H6, S6, q6⟩ := z; exact ⟨_, _, S6.unsuite J.ok, q6⟩
      | brk => obtain ⟨σ6, H6, S6, q6⟩ := z; exact ⟨_, _, S6.unsuite J.ok, q6⟩
      | cont => obtain ⟨σ6, H6, S6, q6⟩ := z; exact ⟨_, _, S6.unsuite J.ok, q6⟩
theorem ps_tryH {body : List Stmt} {h₀ : ExceptHandler} {hs : List ExceptHandler} {l : List (Value × Option Nat × TSu)} {pos : Pos} {tb : WX → TS} (nodup : X.N.Nodup) (stk : X.stack = X.env :: X.outer) (frm : X.env.frame = some X.env.locals) (tk : Takes X W)
    (hb : ∀ (W : WX) (pn : List (Addr × Obj)) (xe : Value → Shared → Prop), Takes (X.tr pn xe) W → PassesOwn (model X.prog X.w) X.A X.env xe → PSs (X.tr pn xe) body (tb W)) (hh : Hds X (h₀ :: hs) l) :
    PS X (.Try body (h₀ :: hs) [] [] pos) (fun D σ H => tb (wH X.K W D l) D σ H) := by
  refine ⟨fun pins s σ H D I h => ?_⟩
  have ok := I.ok
  have frames : X.A.frames = some (X.env :: X.outer) := ok.frames.trans (by rw [stk])
  refine wpAny_Try_except ?_
  have run := (hb (wH X.K W D l) (X.pn ++ pins) (fun e s₁ => wpAny (model X.prog X.w) X.A (noteFrame e X.env) (fun _ s₂ => wpAny (model X.prog X.w) X.A (setFlight e none) (fun _ s₃ => wpAny (model X.prog X.w) X.A (handleBy e X.env (h₀ :: hs)) (SP X pins D) X.xe s₃) X.xe s₂) X.xe s₁)
    (fun u s' x => by
      obtain ⟨a, B, sI, pins', σ', H', cls, d, rfl, J', nb, up, sky, na, os, ag, w⟩ := x
      have J : L2.Inv X pins σ' H' sI := J'.ofTry ok
      have sky' : Sky B (X.env :: X.outer) a (Zc cls d) X.env.locals s'.heap := by rw [← stk]; exact sky
      show wpAny (model X.prog X.w) X.A (noteFrame (.ref a) X.env) _ _ _
      exact Sky.land Zc.steady frames frm sky' fun h3 fl3 up3 => along (s3 := { s' with heap := h3 }) nodup stk frm tk J nb (up.trans up3) fl3 na os ag hh w) PassesOwn.looking).run [] s σ H D (I.toTry _) h
  refine wpAny_mono run (fun f s1 z => ?_) (fun e s1 he => he)
  cases f with
  | ret u => obtain ⟨v, σ', H', J', r, q⟩ := z; exact ⟨v, σ', H', J'.ofTry ok, r, q⟩
  | next => obtain ⟨σ', H', J', q⟩ := z; exact wpAny_execs_nil ⟨σ', H', J'.ofTry ok, q⟩
  | brk => obtain ⟨σ', H', J', q⟩ := z; exact ⟨σ', H', J'.ofTry ok, q⟩
  | cont => obtain ⟨σ', H', J', q⟩ := z; exact ⟨σ', H', J'.ofTry ok, q⟩
end
end MP
namespace PySem.W
open PySem PySem.Spec PySem.Calls PyProof.Rows
section
variable {prog : Program} {w : World} {A : Around} {E : Value → Shared → Prop} {s : Shared} {K : Frag} {x D : Addr} {ox : Obj} {od : Option Obj}
theorem mp_find {C : Addr} {nm : Str} {a g : Value} (hc : (clsIn K C).isSome = true) (h1 : findIn K (.ref C) nm = some (some a))
    (h2 : specialIn K a "__get__" = some (some g)) (h3 : takesIn K a = some true) : findObj K C od nm = some (.bind g a) := by
  cases q : clsIn K C with
  | none => rw [q] at hc; cases hc
  | some cd =>
    unfold findObj
    rw [q, Option.bind_some, h1, Option.bind_some]
    simp [h2, h3]
theorem mp_class {Q : Option Value → Shared → Prop} (T : L2.ExcC K D) (X : K.In s.heap) (I : InstAt s.heap x ox D od) (h : Q (some (.ref D)) { s with toks := s.toks + 1 }) :
    wpAny (model prog w) A (getAttr? (.ref x) "__class__") Q E s := by
  have found : findObj K D od "__class__" = some (.bind (.builtin "getset_descriptor.__get__") (.builtin "object.__class__")) :=
    mp_find (by obtain ⟨cd, hc, _⟩ := any_some T.hd; rw [hc]; rfl) T.ha T.hn T.ht
  obtain ⟨hp, gs, dr, tk, os⟩ := s
  have lT := I.type (M := model prog w)
  have lG := looks_findIn (M := model prog w) X T.hg
  have lK := looks_findIn (M := model prog w) X T.hk
  have lF := looks_find (M := model prog w) X I found
  have isB : Looks (model prog w) hp (isInstance (.ref x) (.type "BaseException")) true := lT.andThen (looks_subIn X T.hs)
  have e0 : (false && onTheHeap (Value.builtin "BaseException.__getattribute__")) = false := rfl
  have e2 : (Value.builtin "BaseException.__getattribute__" == Value.builtin "object.__getattribute__") = false := by decide +kernel
  have e1 : (onTheHeap (Value.ref D) && Value.builtin "BaseException.__getattribute__" == Value.builtin "object.__getattribute__") = false := by
    rw [e2]; rfl
  unfold getAttr? getAttrBy? getAttrBy
  refine wpAny_bind (wpAny_mkText (wpAny_bind (wpAny_attempt (wpAny_holding (wpAny_bind (lT.at (wpAny_bind (lG.at ?_))))))))
  show wpAny _ _ (if (onTheHeap (Value.ref D) && Value.builtin "BaseException.__getattribute__" == Value.builtin "object.__getattribute__") = true
    then _ else _) _ _ _
  rw [e1, if_neg Bool.false_ne_true]
  unfold getAttrByItsOwn hookBefore
  refine wpAny_bind ?_
  rw [if_pos (show onTheHeap (Value.ref D) = true from rfl)]
  refine lK.at (wpAny_bind (wpAny_attempt (wpAny_holding ?_)))
  unfold callGetattribute
  rw [e0, if_neg Bool.false_ne_true]
  unfold boundAndCalled
  rw [PySem.F.excAttr_ValueError.ga.bind (.ref x)]
  refine wpAny_bind (wpAny_pure ?_)
  show wpAny _ _ (call (.builtin "BaseException.__getattribute__") [.ref x, .str "__class__" tk]) _ _ _
  refine wpAny_call (codeAny_call_builtin PySem.F.excAttr_ValueError.ga.plain PySem.F.entry_bexc_ga ?_)
  refine @check_slot (model prog w) _ _ ⟨hp, gs, dr, tk + 1, os⟩ "BaseException.__getattribute__" "BaseException" "__getattribute__" (.ref x) [.str "__class__" tk] [] _
    (by decide +kernel) (by decide +kernel) isB (PySem.F.args_bexc_ga (.ref x) (.str "__class__" tk)) ?_
  unfold Builtin.«object.__getattribute__»
  refine wpAny_bind (wpAny_of_eq (a := ((Value.ref x : Value), [Value.str "__class__" tk])) (by first | rfl | (simp only [slotArgs]; rfl)) ?_)
  refine wpAny_bind (wpAny_pure (wpAny_bind (lT.at (wpAny_bind (lF.at ?_)))))
  show wpAny _ _ (holding [Value.builtin "object.__class__"] (call (.builtin "getset_descriptor.__get__") [.builtin "object.__class__", .ref x, .ref D])
    >>= ret) _ _ _
  refine wpAny_bind (wpAny_holding (wpAny_call (class_get (s := ⟨hp, gs, dr, tk + 1, os⟩) (ox := ox) (od := od) X I T.hm (wpAny_pure ?_))))
  show wpAny _ _ (handedOut (.ref D)) _ _ _
  rw [handedOut_of (v := .ref D) rfl]
  first
    | exact wpAny_pure (wpAny_pure h)
    | exact wpAny_pure h
    | exact wpAny_pure (wpAny_bind (wpAny_pure (wpAny_pure h)))
theorem mp_kit (T : L2.ExcC K D) : KitX K (.ref x) (.ref D) (fun h => ∃ od, InstAt h x ox D od) where
  ty := fun M h _ ⟨_, I⟩ => I.type
  it := fun M h X _ => by
    obtain ⟨cd, hc, _⟩ := any_some T.hd
    unfold clsIn at hc
    split at hc
    · rename_i b1 b2 b3 b4 there
      intro A1 Q1 E1 s1 up q
      unfold isType loadHead
      exact wpAny_bind (wpAny_loadPart (up _ _ (X _ _ there)) (wpAny_pure q))
    · cases hc
  ne := (handS_kitx_exc (x := x) (ox := ox) T.hg T.hk T.hs T.hd T.ha T.hn T.ht T.hm).ne
  ca := fun X ⟨_, I⟩ k => mp_class T X I k
end
end PySem.W
namespace MP
open PySem L2 PySem.Spec PyProof.Rows
variable [Wd]
/-- isinstance(e, c), e the error that the suite holds -/
theorem c_isE {X : Cx} {a D : Addr} {d : Option Addr} {oe : Obj} {pn : List (Addr × Obj)} (T : ExcC X.K D) (hz : Zc (.ref D) d oe) (hf : ∃ vs, oe.data = .fields vs) : CallR (X.suite a ((a, oe) :: pn)) (.builtin "isinstance")
    (fun xs H Q => ∃ (c : V) (u : Value) (b : Bool) (dd : Addr) (fs : List (Str × V)), xs = [.ref a, c] ∧ ClsV c u ∧ PySem.W.kitOne X.K (.ref D) u = some b ∧ d = some dd ∧ H dd = some (.xd fs) ∧ Q (.bl b) H) := by
  rintro pins s σ H xs us Q I r ⟨c, u, b, dd, fs, rfl, k, e, rfl, hd, q⟩
  obtain ⟨u1, u2, rfl, r1, r2⟩ := vals2 r
  cases r1
  have := k.eq r2
  subst this
  obtain ⟨there, _⟩ := I.pin (a, oe) (List.mem_append.mpr (.inl List.mem_cons_self))
  obtain ⟨vs, hv⟩ := hf
  have hx : ObjOk X.prog X.w H s.heap dd (.xd fs) := I.hok dd _ hd
  obtain ⟨mA, hns, _⟩ := hx
  obtain ⟨od, ho, _⟩ := lookIn_ns hns
  have J : PySem.W.InstAt s.heap a oe D (some od) := ⟨there, hz.1, by unfold PySem.W.notCls; rw [hv] <;> rfl, by rw [hz.2]; exact ho⟩
  exact PySem.W.kia_one (PySem.W.mp_kit T) I.kIn ⟨_, J⟩ e (fun z => nomatch z) fun tk => ⟨.bl b, H, I.kept (t' := tk) fun _ _ z => z, rfl, q⟩
end MP
namespace MP
open PySem L2 PySem.Spec PyProof.Rows
variable [Wd]
/-- what is known of the classes of errors -/
structure ClE (K : Fr) (mg : Str → Option Value) (g : GC) (L : List Cl) : Prop where
  mg : ∀ (c : Nat) (cl : Cl), L[c]? = some cl → mg cl.name = some (.ref (g.ca c))
  fl : ∀ (c : Nat) (cl : Cl), L[c]? = some cl → g.fl c = cl.fld
  exc : ∀ (c : Nat) (cl : Cl), L[c]? = some cl → ExcC K (g.ca c)
  xf : ∀ (c : Nat) (cl : Cl), L[c]? = some cl → XfC K (g.ca c)
  no : ∀ (c : Nat) (cl : Cl), L[c]? = some cl → PySem.W.findIn K (.ref (g.ca c)) cl.fld = some none
  exm : ∀ (c d : Nat) (cl dl : Cl), L[c]? = some cl → L[d]? = some dl → PySem.W.exmOne K (.ref (g.ca c)) (.ref (g.ca d)) = some (cl.sup.contains d)
  kit : ∀ (c d : Nat) (cl dl : Cl), L[c]? = some cl → L[d]? = some dl → PySem.W.kitOne K (.ref (g.ca c)) (.ref (g.ca d)) = some (cl.sup.contains d)
def ckXs (f : Sx → PySem.Expr → Bool) : List Sx → List PySem.Expr → Bool
  | [], l => (match l with | [] => true | _ :: _ => false)
  | x :: xs, l => (match l with | [] => false | e :: l => f x e && notStar e && ckXs f xs l)
def nameOf (e : PySem.Expr) : Option Str := match e with
  | .Name x _ => some x
  | _ => none
def ckX (N : List Str) (sc : Scope) (L : List Cl) (hc : Nat) (nm : Str) : Nat → Sx → PySem.Expr → Bool
  | 0, _, _ => false
  | n + 1, x, e => match x with
    | .cst v => (match e with | .Constant k _ _ => ckCst v k | _ => false)
    | .var i => (match e with | .Name x _ => isAt N i x && vis sc x && !dbg x && !decide (x = ("__classdict__" : Str)) | _ => false)
    | .fld => (match e with | .Attribute (.Name y _) f _ => decide (y = nm) && L.all (fun cl => !cl.sup.contains hc || decide (cl.fld = f)) | _ => false)
    | .isi d => (match e with | .Call (.Name z _) [.Name y _, .Name w _] [] _ => decide (z = ("isinstance" : Str)) && gl sc z && decide (y = nm) && gl sc w && !dbg w && decide (L[d]?.map (·.name) = some w) | _ => false)
    | .and a b => (match e with | .BoolOp .And [x, y] _ => ckX N sc L hc nm n a x && ckX N sc L hc nm n b y | _ => false)
    | .not a => (match e with | .UnaryOp .Not x _ => ckX N sc L hc nm n a x | _ => false)
    | .tup es => (match e with | .Tuple l _ _ => ckXs (ckX N sc L hc nm n) es l && decide (l.length ≤ 100) | _ => false)
def XS (g : GC) (K : Fr) (c : Nat) (v : PV) (d : Option Addr) (μ : List Addr) (H : Hp) : Prop := ∃ dd x, d = some dd ∧ H dd = some (.xd [(g.fl c, x)]) ∧ Rep K H μ v x
theorem XS.ext {g : GC} {K : Fr} {c : Nat} {v : PV} {d : Option Addr} {μ μ' : List Addr} {H H' : Hp} {h : Hv} (r : Rel K μ h H) (x : Ext μ H μ' H') (q : XS g K c v d μ H) : XS g K c v d μ' H' := by
  obtain ⟨dd, y, e, hd, ry⟩ := q
  exact ⟨dd, y, e, x.kp dd _ hd (r.notXd hd), ry.ext r x⟩
structure Sl (slot : Nat) (a : Addr) (σ : L2.St) : Prop where
  at_ : σ[slot]? = some (some (.ref a))
def TX (g : GC) (K : Fr) (slot : Nat) (a : Addr) (c : Nat) (v : PV) (d : Option Addr) (f : Ev → Option PV) : TE := fun σ H Q => ∃ μ e h w, Stt K μ e h σ H ∧ Sl slot a σ ∧ XS g K c v d μ H ∧ f e = some w ∧ ∀ μ' H' x, Ext μ H μ' H' → Rel K μ' h H' → Rep K H' μ' w x → Q x H'
def TXA (g : GC) (K : Fr) (slot : Nat) (a : Addr) (c : Nat) (v : PV) (d : Option Addr) (f : Ev → Option (List PV)) : TA := fun σ H Q => ∃ μ e h w, Stt K μ e h σ H ∧ Sl slot a σ ∧ XS g K c v d μ H ∧ f e = some w ∧ ∀ μ' H' x, Ext μ H μ' H' → Rel K μ' h H' → Reps K H' μ' w x → Q x H'
section
variable {X : Cx} {g : GC} {N : List Str} {L : List Cl} {sc : Scope} {slot : Nat} {a : Addr} {c hc : Nat} {cl : Cl} {v : PV} {d : Option Addr} {oe : Obj} {pn : List (Addr × Obj)} {nm : Str}
theorem sx_ok (E : ClE X.K X.mg g L) (hN : X.N = N) (hsc : X.env.scope = sc) (hslot : N[slot]? = some nm) (hv : Vis sc nm) (hd : (nm == ("__debug__" : Str)) = false) (hcd : (nm == ("__classdict__" : Str)) = false) (hmi : X.mg "isinstance" = none)
    (hcl : L[c]? = some cl) (hcc : cl.sup.contains hc = true) (hz : Zc (.ref (g.ca c)) d oe) (hf : ∃ vs, oe.data = .fields vs) :
    ∀ (n : Nat) (x : Sx) (e : PySem.Expr), ckX N sc L hc nm n x e = true → PE (X.suite a ((a, oe) :: pn)) e (TX g X.K slot a c v d (fun ev => sx L c v n x ev)) := by
  have self : ∀ p, PE (X.suite a ((a, oe) :: pn)) (.Name nm p) (fun σ H Q => Sl slot a σ ∧ Q (.ref a) H) := fun p =>
    PE.imp (pe_var (X := X.suite a ((a, oe) :: pn)) (by show X.N[slot]? = some nm; rw [hN]; exact hslot) (by show Vis X.env.scope nm; rw [hsc]; exact hv) hd hcd) fun σ H Q ⟨s, q⟩ => ⟨.ref a, s.at_, q⟩
  have glob : ∀ {x : Str} {u : Value} {y : V} {p : Pos}, gl sc x = true → X.mg x = some u → RelV y u → (x == ("__debug__" : Str)) = false → PE (X.suite a ((a, oe) :: pn)) (.Name x p) (fun σ H Q => Q y H) := fun hg hm r hd =>
    PE.imp (pe_glob (X := X.suite a ((a, oe) :: pn)) (by show X.env.kindOf _ = _; unfold Env.kindOf; rw [hsc]; exact of_decide_eq_true hg) hm r hd) fun σ H Q q => q
  intro n
  induction n with
  | zero => intro x e h; exact (Bool.false_ne_true h).elim
  | succ n ih =>
    have all : ∀ (es : List Sx) (l : List PySem.Expr), ckXs (ckX N sc L hc nm n) es l = true → PA (X.suite a ((a, oe) :: pn)) l (TXA g X.K slot a c v d (fun ev => sxAll (fun y => sx L c v n y ev) es)) ∧ ∀ ev ws, sxAll (fun y => sx L c v n y ev) es = some ws → ws.length = l.length := by
      intro es
      induction es with
      | nil =>
        intro l h
        cases l with
        | cons _ _ => exact (Bool.false_ne_true h).elim
        | nil =>
          refine ⟨PA.imp pa_nil fun σ H Q ⟨μ, e, h, w, s, sl, xs, ew, k⟩ => ?_, fun ev ws q => by cases q; rfl⟩
          cases ew
          exact k μ H [] .refl s.rel .nil
      | cons x xs ihs =>
        intro l h
        cases l with
        | nil => exact (Bool.false_ne_true h).elim
        | cons e l =>
          obtain ⟨h12, h3⟩ := and2 (show (ckX N sc L hc nm n x e && notStar e && ckXs (ckX N sc L hc nm n) xs l) = true from h)
          obtain ⟨h1, h2⟩ := and2 h12
          obtain ⟨p, q⟩ := ihs l h3
          have un : ∀ ev ws, sxAll (fun y => sx L c v n y ev) (x :: xs) = some ws → ∃ u us, ws = u :: us ∧ sx L c v n x ev = some u ∧ sxAll (fun y => sx L c v n y ev) xs = some us := by
            intro ev ws z
            have z' : (match sx L c v n x ev with | some v' => (match sxAll (fun y => sx L c v n y ev) xs with | some vs => some (v' :: vs) | none => none) | none => none) = some ws := z
            cases z1 : sx L c v n x ev with
            | none => rw [z1] at z'; cases z'
            | some u =>
              rw [z1] at z'
              cases z2 : sxAll (fun y => sx L c v n y ev) xs with
              | none => simp only [z2] at z'; cases z'
              | some us => simp only [z2] at z'; exact ⟨u, us, (Option.some.inj z').symm, rfl, rfl⟩
          refine ⟨PA.imp (pa_cons (ih x e h1) p (star_cons h2)) ?_, fun ev ws z => ?_⟩
          · rintro σ H Q ⟨μ, e', h', w, s, sl, xs', ew, k⟩
            obtain ⟨u, us, rfl, z1, z2⟩ := un _ _ ew
            refine ⟨μ, e', h', u, s, sl, xs', z1, fun μ1 H1 y x1 r1 q1 => ?_⟩
            have s1 := s.ext x1 r1
            exact ⟨μ1, e', h', us, s1, sl, xs'.ext s.rel x1, z2, fun μ2 H2 ys x2 r2 q2 => k μ2 H2 (y :: ys) (x1.trans x2) r2 (.cons (q1.ext s1.rel x2) q2)⟩
          · obtain ⟨u, us, rfl, z1, z2⟩ := un _ _ z
            exact congrArg (· + 1) (q ev us z2)
    intro x e h
    cases x with
    | cst w =>
      cases e <;> first | exact (Bool.false_ne_true h).elim | skip
      refine PE.imp (e_cst (g := g) (W := noX) h) ?_
      rintro σ H Q ⟨μ, e', h', w', s, sl, xs, ew, k⟩
      cases ew
      exact ⟨μ, e', h', s, fun μ' H' y x1 r1 q1 => k μ' H' y x1 r1 q1⟩
    | var i =>
      cases e <;> first | exact (Bool.false_ne_true h).elim | skip
      rename_i x p
      obtain ⟨h, h4⟩ := and2 (show (isAt N i x && vis sc x && !dbg x && !decide (x = ("__classdict__" : Str))) = true from h)
      obtain ⟨h, h3⟩ := and2 h
      obtain ⟨h1, h2⟩ := and2 h
      have h4' : decide (x = ("__classdict__" : Str)) = false := by simpa using h4
      refine PE.imp (e_var (X := X.suite a ((a, oe) :: pn)) (g := g) (W := noX) (i := i) (by show X.N[i]? = some x; rw [hN]; exact of_decide_eq_true h1) (by show Vis X.env.scope x; rw [hsc]; exact vis_ok h2) (not_dbg h3) (beq_eq_false_iff_ne.mpr (of_decide_eq_false h4'))) ?_
      rintro σ H Q ⟨μ, e', h', w', s, sl, xs, ew, k⟩
      have ew' : (match nth e' i with | some (some w) => some w | _ => none) = some w' := ew
      refine ⟨μ, e', h', s, ?_⟩
      show PR g X.K (RepR X.K) Q noX σ μ H (gotV (nth e' i) h')
      cases z : nth e' i with
      | none => rw [z] at ew'; cases ew'
      | some o =>
        rw [z] at ew'
        cases o with
        | none => cases ew'
        | some u => cases ew'; exact fun μ' H' y x1 r1 q1 => k μ' H' y x1 r1 q1
    | fld =>
      cases e <;> first | exact (Bool.false_ne_true h).elim | skip
      rename_i o f p
      cases o <;> first | exact (Bool.false_ne_true h).elim | skip
      rename_i y p2
      obtain ⟨h1, h2⟩ := and2 (show (decide (y = nm) && L.all (fun cl => !cl.sup.contains hc || decide (cl.fld = f))) = true from h)
      have := of_decide_eq_true h1
      subst this
      have hfl : cl.fld = f := by
        have z := List.all_eq_true.mp h2 cl (List.mem_of_getElem? hcl)
        rw [hcc] at z
        simpa using z
      refine PE.imp (pe_xf (E.xf c cl hcl) (by rw [← hfl]; exact E.no c cl hcl) hz hf (self p2) (base_ok rfl)) ?_
      rintro σ H Q ⟨μ, e', h', w', s, sl, ⟨dd, z, ed, hdd, rz⟩, ew, k⟩
      cases ew
      refine ⟨sl, rfl, rfl, dd, _, z, ed, hdd, ?_, k μ H z .refl s.rel rz⟩
      rw [E.fl c cl hcl, hfl]
      simp [List.lookup]
    | isi d2 =>
      cases e <;> first | exact (Bool.false_ne_true h).elim | skip
      rename_i o l ks p
      have h' := h
      unfold ckX at h'
      dsimp only at h'
      split at h'
      · rename_i heq
        cases heq
        rename_i z pz y py w pw
        obtain ⟨h', h6⟩ := and2 h'
        obtain ⟨h', h5⟩ := and2 h'
        obtain ⟨h', h4⟩ := and2 h'
        obtain ⟨h', h3⟩ := and2 h'
        obtain ⟨h1, h2⟩ := and2 h'
        have e1 := of_decide_eq_true h1
        have e3 := of_decide_eq_true h3
        have e6 := of_decide_eq_true h6
        subst e1
        subst e3
        cases hl : L[d2]? with
        | none => rw [hl] at e6; cases e6
        | some dl =>
          rw [hl] at e6
          have e7 : dl.name = w := Option.some.inj e6
          subst e7
          have gi : Gl (X.suite a ((a, oe) :: pn)) "isinstance" := by show X.env.kindOf _ = _; unfold Env.kindOf; rw [hsc]; exact of_decide_eq_true h2
          refine PE.imp (pe_callB (c_isE (E.exc c cl hcl) hz hf) gi hmi (by decide +kernel) (pa_cons (self py) (pa_cons (glob h4 (E.mg d2 dl hl) (y := .ref (g.ca d2)) rfl (not_dbg h5)) pa_nil) rfl) (by decide) (by decide) rfl rfl) ?_
          rintro σ H Q ⟨μ, e', h', w', s, sl, ⟨dd, z, ed, hdd, rz⟩, ew, k⟩
          refine ⟨sl, .ref (g.ca d2), .ref (g.ca d2), cl.sup.contains d2, dd, _, rfl, .own _, E.kit c d2 cl dl hcl hl, ed, hdd, ?_⟩
          have ew' : (match nth L c with | some cl => some (PV.bl (cl.sup.contains d2)) | none => none) = some w' := ew
          rw [nth_eq, hcl] at ew'
          cases ew'
          exact k μ H _ .refl s.rel (.bl _)
      · cases h'
    | and x1 x2 =>
      cases e <;> first | exact (Bool.false_ne_true h).elim | skip
      rename_i op es p
      have h' := h
      unfold ckX at h'
      dsimp only at h'
      split at h'
      · rename_i heq
        cases heq
        rename_i y1 y2
        obtain ⟨h1, h2⟩ := and2 h'
        refine PE.imp (pe_and (ih x1 y1 h1) (pe_one (ih x2 y2 h2))) ?_
        rintro σ H Q ⟨μ, e', h', w', s, sl, xs, ew, k⟩
        have ew' : (match sx L c v n x1 e' with | some (.bl true) => sx L c v n x2 e' | some (.bl false) => some (.bl false) | _ => none) = some w' := ew
        cases z1 : sx L c v n x1 e' with
        | none => rw [z1] at ew'; cases ew'
        | some u =>
          rw [z1] at ew'
          cases u with
          | bl b =>
            refine ⟨μ, e', h', .bl b, s, sl, xs, z1, ?_⟩
            rintro μ1 H1 y e1 r1 q1
            cases q1
            refine ⟨b, rfl, ?_⟩
            cases b with
            | true => rw [if_pos rfl]; exact ⟨μ1, e', h', w', s.ext e1 r1, sl, xs.ext s.rel e1, ew', fun μ2 H2 y2 e2 => k μ2 H2 y2 (e1.trans e2)⟩
            | false =>
              rw [if_neg (by decide)]
              cases ew'
              exact k μ1 H1 _ e1 r1 (.bl false)
          | _ => cases ew'
      · cases h'
    | not x1 =>
      cases e <;> first | exact (Bool.false_ne_true h).elim | skip
      rename_i op o p
      cases op <;> first | exact (Bool.false_ne_true h).elim | skip
      refine PE.imp (pe_not (ih x1 o h)) ?_
      rintro σ H Q ⟨μ, e', h', w', s, sl, xs, ew, k⟩
      have ew' : (match sx L c v n x1 e' with | some (.bl b) => some (PV.bl (!b)) | _ => none) = some w' := ew
      cases z1 : sx L c v n x1 e' with
      | none => rw [z1] at ew'; cases ew'
      | some u =>
        rw [z1] at ew'
        cases u with
        | bl b =>
          refine ⟨μ, e', h', .bl b, s, sl, xs, z1, ?_⟩
          rintro μ1 H1 y e1 r1 q1
          cases q1
          cases ew'
          exact ⟨b, rfl, k μ1 H1 _ e1 r1 (.bl _)⟩
        | _ => cases ew'
    | tup es =>
      cases e <;> first | exact (Bool.false_ne_true h).elim | skip
      rename_i l j p
      obtain ⟨h1, h2⟩ := and2 (show (ckXs (ckX N sc L hc nm n) es l && decide (l.length ≤ 100)) = true from h)
      obtain ⟨pa, len⟩ := all es l h1
      refine PE.imp (pe_tup pa) ?_
      rintro σ H Q ⟨μ, e', h', w', s, sl, xs, ew, k⟩
      have ew' : (match sxAll (fun y => sx L c v n y e') es with | some vs => some (PV.tup vs) | none => none) = some w' := ew
      cases z1 : sxAll (fun y => sx L c v n y e') es with
      | none => rw [z1] at ew'; cases ew'
      | some ws =>
        rw [z1] at ew'
        cases ew'
        refine ⟨μ, e', h', ws, s, sl, xs, z1, fun μ1 H1 ys e1 r1 q1 => ⟨?_, fun ad na => ?_⟩⟩
        · rw [← q1.length, len _ _ z1, sizeLine_eq]; have := of_decide_eq_true h2; omega
        · have x2 : Ext μ1 H1 μ1 (upd H1 ad (.tup ys)) := Ext.newTup na
          exact k μ1 _ _ (e1.trans x2) (r1.newTup na) (.tup (.inl (.inl upd_same)) (q1.ext r1 x2))
end
end MP
namespace MP
open PySem L2 PySem.Spec PyProof.Rows
variable [Wd]
def notComp : PySem.Expr → Bool
  | .ListComp _ _ _ _ => false
  | .SetComp _ _ _ _ => false
  | .DictComp _ _ _ _ _ => false
  | _ => true
def notTupE : PySem.Expr → Bool
  | .Tuple _ _ _ => false
  | .List _ _ => false
  | _ => true
/-- x = [..]: the list's own name may be swapped -/
def swB (sc : Scope) (x : Str) (py : Pos) (e : PySem.Expr) : Bool := match e with
  | .ListComp _ _ scope p => decide (sc.names.lookup x = some .local) && (py.line == p.line) && !(scope.names.any fun (n, k) => n == x && (k == .local || k == .cell))
  | _ => false
def swOk (sc : Scope) (x : Str) (py : Pos) (e : PySem.Expr) : Bool := match e with
  | .ListComp _ _ _ _ => swB sc x py e
  | .SetComp _ _ _ _ => false
  | .DictComp _ _ _ _ _ => false
  | _ => true
def ckRse (sc : Scope) (L : List Cl) (nT : Nat) (c : Nat) (f : PySem.Expr → Bool) (e : Option PySem.Expr) : Bool := match e with
  | some (.Call (.Name x _) [e0] [] _) => gl sc x && !dbg x && (match L[c]? with | some cl => decide (cl.name = x) && decide (cl.conv < nT) | none => false) && notStar e0 && f e0
  | _ => false
def ckH (N : List Str) (sc : Scope) (L : List Cl) (hd : Hd) (h : ExceptHandler) : Bool := match h with
  | .ExceptHandler (some (.Name x _)) (some n) [.Assign [.Name y _] e0 _] _ => gl sc x && !dbg x && decide (L[hd.cls]?.map (·.name) = some x) && isAt N hd.slot n && decide (sc.names.lookup n = some .local) && !dbg n && !decide (n = ("__classdict__" : Str)) && isAt N hd.to y && loc_ sc y && ckX N sc L hd.cls n 10 hd.val e0 && notComp e0
  | _ => false
def ckHs (f : Hd → ExceptHandler → Bool) : List Hd → List ExceptHandler → Bool
  | [], l => (match l with | [] => true | _ :: _ => false)
  | x :: xs, l => (match l with | [] => false | e :: l => f x e && ckHs f xs l)
section
variable (N : List Str) (T : List Fn) (cn : List Str) (L : List Cl) (sc : Scope)
mutual
def ckS : St → Stmt → Bool
  | .exp e => fun s => match s with
    | .Expr e0 _ => ck N T cn e sc e0 && notComp e0
    | _ => false
  | .asg i e => fun s => match s with
    | .Assign [.Name x py] e0 _ => isAt N i x && loc_ sc x && ck N T cn e sc e0 && swOk sc x py e0
    | _ => false
  | .asgT is e => fun s => match s with
    | .Assign [t] e0 _ => ckTg N sc (.t is) t && ck N T cn e sc e0 && notTupE e0
    | _ => false
  | .set o i e => fun s => match s with
    | .Assign [.Subscript o0 i0 _] e0 _ => ck N T cn o sc o0 && ck N T cn i sc i0 && ck N T cn e sc e0 && notSlice i0
    | _ => false
  | .ret e => fun s => match s with
    | .Return (some e0) _ => ck N T cn e sc e0
    | _ => false
  | .retN => fun s => match s with
    | .Return none _ => true
    | _ => false
  | .ite c a b => fun s => match s with
    | .If c0 a0 b0 _ => ck N T cn c sc c0 && ckB a a0 && ckB b b0
    | _ => false
  | .whl c b => fun s => match s with
    | .While c0 b0 [] _ => ck N T cn c sc c0 && ckB b b0
    | _ => false
  | .for_ t e b => fun s => match s with
    | .For t0 e0 b0 [] _ => ckTg N sc t t0 && ck N T cn e sc e0 && notSet e0 && ckB b b0
    | _ => false
  | .forR t es b => fun s => match s with
    | .For t0 e0 b0 [] _ => ckTg N sc t t0 && ckRng (fun x l => gl sc x && ckL N T cn es sc l && noStars l) e0 && ckB b b0
    | _ => false
  | .forRP t es b => fun s => match s with
    | .For t0 e0 b0 [] _ => ckTg N sc t t0 && ckRng (fun x l => gl sc x && ckL N T cn es sc l && noStars l) e0 && ckB b b0
    | _ => false
  | .pass => fun s => match s with
    | .Pass _ => true
    | _ => false
  | .brk => fun s => match s with
    | .Break _ => true
    | _ => false
  | .cont => fun s => match s with
    | .Continue _ => true
    | _ => false
  | .rse c e => fun s => match s with
    | .Raise e0 none _ => ckRse sc L T.length c (ck N T cn e sc) e0
    | _ => false
  | .try_ b hs => fun s => match s with
    | .Try b0 h0 [] [] _ => ckB b b0 && ckHs (ckH N sc L) hs h0 && (match h0 with | [] => false | _ :: _ => true)
    | _ => false
def ckB : Bs → List Stmt → Bool
  | .nil => fun l => match l with
    | [] => true
    | _ :: _ => false
  | .cons s b => fun l => match l with
    | [] => false
    | t :: l => ckS s t && ckB b l
end
end
/-- an error's start -/
def spI (g : GC) (K : Fr) (C : Addr) (f : Str) (F : PV → Hv → R PV) : Sp := fun vs H Q _ => ∃ a y μ h v, vs = [.ref a, y] ∧ H a = some (exo a C none) ∧ a ∉ μ ∧ Rel K μ h H ∧ Rep K H μ v y ∧
  PR g K (RepR K) (fun z H2 => ∀ dx, H2 dx = none → dx ≠ a → Q .non (upd (upd H2 dx (exd dx [(f, z)])) a (exo a C (some dx)))) noX [] μ H (F v h)
structure Sc (X : Cx) (g : GC) (W : WX) (N : List Str) (T : List Fn) (cn : List Str) (C : List PV) (k : Nat) (cf cf2 : Nat → List PV → Hv → R PV) (sc : Scope) (L : List Cl) : Prop where
  ct : Ct X g W N T cn C bltNames k cf sc
  kd : sc.kind = .function
  hs : X.stack = X.env :: X.outer
  hf : X.env.frame = some X.env.locals
  po : PassesOwn (model X.prog X.w) X.A X.env X.xe
  lc : ∀ x, (sc.names.lookup x = some .local ∨ sc.names.lookup x = some .cell) → L2.Loc X.env.scope x ∧ (X.fn x = true ∨ X.env.scope.names.lookup x = some .local)
  ce : ClE X.K X.mg g L
  rs : ∀ (c : Nat) (cl : Cl), L[c]? = some cl → cl.conv < T.length → OexC X.K (g.ca c) ∧ ((∀ v h, cf2 cl.conv [v] h = .bad) ∨ ∃ kI fI fd ps, kI + 1 ≤ k ∧ PySem.W.findIn X.K (.ref (g.ca c)) "__init__" = some (some (.ref fI)) ∧ PySem.W.typeIn X.K (.ref fI) = some (.type "function") ∧
    FnG X.prog X.w X.K X.mg X.base kI fI fd ps (spI g X.K (g.ca c) cl.fld (fun v h => cf2 cl.conv [v] h)) ∧ Binds X.K fd ps [])
theorem Rep.lift {K : Fr} {H H' : Hp} {μ : List Addr} (k : ∀ a vs, SqT K H a vs → SqT K H' a vs) : ∀ {p : PV} {v : V}, Rep K H μ p v → Rep K H' μ p v := by
  intro p v r
  exact Rep.rec (motive_1 := fun p v _ => Rep K H' μ p v) (motive_2 := fun ps vs _ => Reps K H' μ ps vs) .non .bl .int .str (fun t _ q => .tup (k _ _ t) q) (fun e => .loc e) .nil (fun _ _ q t => .cons q t) r
theorem Reps.lift {K : Fr} {H H' : Hp} {μ : List Addr} (k : ∀ a vs, SqT K H a vs → SqT K H' a vs) : ∀ {p : List PV} {v : List V}, Reps K H μ p v → Reps K H' μ p v
  | _, _, .nil => .nil
  | _, _, .cons q t => .cons (q.lift k) (t.lift k)
theorem KvR.lift {K : Fr} {H H' : Hp} {μ : List Addr} (k : ∀ a vs, SqT K H a vs → SqT K H' a vs) : ∀ {kvs : List (PV × PV)} {xs : List (NestedKey × Addr × Value)}, KvR K H μ kvs xs → KvR K H' μ kvs xs
  | _, _, .nil => .nil
  | _, _, .cons a b c d t => .cons a (b.lift k) (c.lift k) d (t.lift k)
theorem Rel.lift {K : Fr} {H H' : Hp} {μ : List Addr} {h : Hv} (k : ∀ a vs, SqT K H a vs → SqT K H' a vs) (same : ∀ b ∈ μ, H' b = H b) (r : Rel K μ h H) : Rel K μ h H' := by
  refine ⟨r.len, r.nd, fun l o a e1 e2 => ?_⟩
  have q := r.ob l o a e1 e2
  have m := same a (List.mem_of_getElem? e2)
  cases o with
  | lst xs => obtain ⟨vs, z, t⟩ := q; exact ⟨vs, m.trans z, t.lift k⟩
  | dct kvs => obtain ⟨xs, z, t, n⟩ := q; exact ⟨xs, m.trans z, t.lift k, n⟩
theorem mk_never {X : Cx} {x : Str} {C : Addr} {e : PySem.Expr} {te : TE} {p pos : Pos} (T : OexC X.K C) (hg : Gl X x) (hm : X.mg x = some (.ref C)) (he : PE X e te) (hdb : (x == ("__debug__" : Str)) = false) (ns : notStar e = true) :
    PMk X (.Call (.Name x p) [e] [] pos) (fun σ H Q => te σ H fun _ _ => False) := by
  intro pins s σ H Q I h
  have pa : PA X [e] (fun σ H R => te σ H fun y H1 => R [y] H1) := PA.imp (pa_cons he pa_nil (star_cons ns)) fun σ H R t => t
  refine wpAny_Call_Name_kw (ld_glob I hg hm ?_ hdb)
  exact PySem.W.callWith_K (h₀ := X.base) I.ok.mod.kin T.kC (thn (pa.run pos pins s σ H (fun _ _ => False) I h) fun us s1 ⟨_, _, _, _, z⟩ => z.elim) (star_cons ns) rfl
section
variable {X : Cx} {g : GC} {W : WX} {N : List Str} {T : List Fn} {cn : List Str} {C : List PV} {k : Nat} {cf cf2 : Nat → List PV → Hv → R PV} {sc : Scope} {L : List Cl}
theorem s_rse {c : Nat} {cl : Cl} {fa : Sm} {x : Str} {e0 : PySem.Expr} {p pos pos' : Pos} (S : Sc X g W N T cn C k cf cf2 sc L) (hcl : L[c]? = some cl) (hT : cl.conv < T.length) (en : cl.name = x) (hg : Gl X x) (hd : (x == ("__debug__" : Str)) = false) (ns : notStar e0 = true) (he : PE X e0 (TI g X.K W fa)) :
    PS X (.Raise (some (.Call (.Name x p) [e0] [] pos)) none pos') (TS_ g X.K W (sRse L cf2 c fa)) := by
  have first : ∀ D σ H, TS_ g X.K W (sRse L cf2 c fa) D σ H → TI g X.K W fa σ H fun y H1 => ∃ v h1 μ1 e, Stt X.K μ1 e h1 σ H1 ∧ Rep X.K H1 μ1 v y ∧ PS_ g X.K D W μ1 H1 (excOf c e (cf2 cl.conv [v] h1)) := by
    rintro D σ H ⟨μ, e, h, s, p⟩
    obtain ⟨μ', e', h', s', p'⟩ := PS_.first (f := fa) (k := fun x h1 => rse cf2 c e x h1 (nth L c)) s p
    refine ⟨μ', e', h', s', PR.mono p' ?_⟩
    rintro _ _ _ H1 y _ _ _ _ ⟨v, h1, μ1, s1, q1, p1⟩
    rw [nth_eq, hcl] at p1
    exact ⟨v, h1, μ1, e, s1, q1, p1⟩
  obtain ⟨T1, alt⟩ := S.rs c cl hcl hT
  rcases alt with bad | ⟨kI, fI, fd, ps, le, iC, tI, F, bd⟩
  · -- the conversion has no room
    have rc := mk_never (X := X) (te := TI g X.K W fa) (p := p) (pos := pos) T1 hg (by rw [← en]; exact S.ce.mg c cl hcl) he hd ns
    refine PS.imp (ps_raise S.ct.calm S.ct.tk rc) ?_
    intro D σ H t
    obtain ⟨μ, e, h, s, p⟩ := first D σ H t
    refine ⟨μ, e, h, s, PR.mono p ?_⟩
    rintro _ _ _ H1 y _ _ _ _ ⟨v, h1, μ1, e', s1, q1, p1⟩
    rw [bad] at p1
    exact p1.elim
  · have rc := mkG (X := X) (te := TI g X.K W fa) (p := p) (pos := pos) T1 iC tI F (S.ct.room.mono le) S.ct.gd bd hg (by rw [← en]; exact S.ce.mg c cl hcl) he hd ns
    refine PS.imp (ps_raise S.ct.calm S.ct.tk rc) ?_
    intro D σ H t
    obtain ⟨μ, e, h, s, p⟩ := first D σ H t
    refine ⟨μ, e, h, s, PR.mono p ?_⟩
    rintro _ _ _ H1 y _ _ _ _ ⟨v, h1, μ1, e', s1, q1, p1⟩
    intro a na
    refine ⟨a, y, μ1, h1, v, rfl, upd_same, s1.rel.fresh na, s1.rel.newTup na, q1.ext s1.rel (Ext.newTup na), ?_⟩
    show PR g X.K (RepR X.K) _ noX [] μ1 _ (cf2 cl.conv [v] h1)
    cases q : cf2 cl.conv [v] h1 with
    | bad => rw [q] at p1; exact p1.elim
    | exc _ _ _ => rw [q] at p1; exact p1.elim
    | ok z h2 =>
      rw [q] at p1
      rintro μ2 H2 zz x2 r2 q2 dx nd nda
      have am : a ∉ μ2 := fun m => by
        have := x2.new a m (s1.rel.fresh na)
        rw [upd_same] at this; cases this
      have Ha : H2 a = some (exo a (g.ca c) none) := x2.kp a _ upd_same (s1.rel.fresh na)
      refine ⟨rfl, dx, [(cl.fld, zz)], upd_same, by rw [upd_ne nda]; exact upd_same, ?_, ?_⟩
      · refine Classical.byContradiction fun hne => ?_
        cases e1 : H1 dx with
        | none => exact hne e1
        | some o =>
          by_cases m : dx ∈ μ1
          · have m2 : dx ∈ μ2 := by obtain ⟨ν, rfl⟩ := x2.pre; exact List.mem_append_left _ m
            rcases r2.is m2 with ⟨vs, z⟩ | ⟨φ, z⟩ <;> rw [nd] at z <;> cases z
          · have := x2.kp dx o (by rw [upd_ne nda]; exact e1) m
            rw [nd] at this; cases this
      · generalize hF : upd (del (upd (upd H2 dx (exd dx [(cl.fld, zz)])) a (exo a (g.ca c) (some dx))) a) dx (.xd [(cl.fld, zz)]) = F2
        have other : ∀ b, b ≠ a → b ≠ dx → F2 b = H2 b := fun b h1 h2 => by rw [← hF, upd_ne h2, del_ne h1, upd_ne h1, upd_ne h2]
        have sq : ∀ b vs, SqT X.K H2 b vs → SqT X.K F2 b vs := by
          intro b vs t
          have nb : ∀ {o : HO}, H2 b = some o → o ≠ exo a (g.ca c) none → F2 b = some o := fun {o} e ne => by
            rw [other b (fun z => by rw [z, Ha] at e; exact ne (Option.some.inj e).symm) (fun z => by rw [z, nd] at e; cases e)]; exact e
          rcases t with t | t
          · rcases t with t | ⟨o, t⟩
            · exact .inl (.inl (nb t (Ne.symm exo_tup)))
            · exact .inl (.inr ⟨o, nb t (Ne.symm exo_frz)⟩)
          · exact .inr t
        have rF : Rel X.K μ2 h2 F2 := r2.lift sq fun b m => other b (fun z => am (by rw [← z]; exact m)) (fun z => by
          rcases r2.is m with ⟨vs, w⟩ | ⟨φ, w⟩ <;> rw [z, nd] at w <;> cases w)
        have xF : Ext μ1 H1 μ2 F2 := by
          refine ⟨x2.pre, fun b m n => ?_, fun b o e n => ?_⟩
          · have := x2.new b m n
            rwa [upd_ne (fun z => am (by rw [← z]; exact m))] at this
          · have ba : b ≠ a := fun z => by rw [z, na] at e; cases e
            have := x2.kp b o (by rw [upd_ne ba]; exact e) n
            rw [other b ba (fun z => by rw [z, nd] at this; cases this)]
            exact this
        exact p1 μ2 F2 σ (.ref (g.ca c)) (some dx) xF (s1.ext xF rF) ⟨rfl, dx, zz, rfl, by rw [← hF, upd_same, S.ce.fl c cl hcl], q2.lift sq⟩
/-- a clause's suite, wished -/
def tsOf (g : GC) (K : Fr) (L : List Cl) (hd : Hd) : TSu := fun a cls d D σ H => ∃ c cl v, L[c]? = some cl ∧ cl.sup.contains hd.cls = true ∧ cls = .ref (g.ca c) ∧ tAsg (TX g K hd.slot a c v d (fun ev => sx L c v 10 hd.val ev)) (gName hd.to) D σ H
def hl (g : GC) (K : Fr) (L : List Cl) (hs : List Hd) : List (Value × Option Nat × TSu) := hs.map fun hd => (.ref (g.ca hd.cls), some hd.slot, tsOf g K L hd)
theorem catch_PS {K : Fr} {mg : Str → Option Value} {D : Ends} {μ : List Addr} {H : Hp} (E : ClE K mg g L) : ∀ (hs : List Hd), (∀ hd ∈ hs, ∃ dl, L[hd.cls]? = some dl) → ∀ {c : Nat} {v : PV} {e : Ev} {h : Hv}, PS_ g K D W μ H (handle L c v e h hs) → PS_ g K D (wH K W D (hl g K L hs)) μ H (.exc c v e h) := by
  intro hs
  induction hs with
  | nil => intro _ c v e h p; exact p
  | cons hd r ih =>
    intro ok c v e h p
    have p0 : PS_ g K D W μ H (match nth L c with
      | some cl => (match cl.sup.contains hd.cls with
        | true => (match Nat.ble (Nat.succ hd.slot) e.length with
          | true => hOut hd e h (sx L c v 10 hd.val (put e hd.slot none))
          | false => .bad)
        | false => handle L c v e h r)
      | none => .bad) := p
    rw [nth_eq] at p0
    intro μ' H' σ' cls d x s ex
    cases hc : L[c]? with
    | none => rw [hc] at p0; exact p0.elim
    | some cl =>
      rw [hc] at p0
      obtain ⟨dl, hdl⟩ := ok hd List.mem_cons_self
      obtain ⟨rfl, dd, y, rfl, hdd, ry⟩ := ex
      refine ⟨cl.sup.contains hd.cls, E.exm c hd.cls cl dl hc hdl, fun yes => ?_, fun no => ?_⟩
      · simp only [yes] at p0
        cases hb : Nat.ble (Nat.succ hd.slot) e.length with
        | false => rw [hb] at p0; exact p0.elim
        | true =>
          rw [hb] at p0
          have p1 : PS_ g K D W μ H (hOut hd e h (sx L c v 10 hd.val (put e hd.slot none))) := p0
          cases hx : sx L c v 10 hd.val (put e hd.slot none) with
          | none => rw [hx] at p1; exact p1.elim
          | some w =>
            rw [hx] at p1
            intro a na
            have lt : hd.slot < σ'.length := by rw [← s.env.1]; exact Nat.le_of_ble_eq_true hb
            rw [put_eq] at hx
            refine ⟨c, cl, v, hc, yes, rfl, μ', e.set hd.slot none, h, w, s.unset, ⟨List.getElem?_set_self lt⟩, ⟨dd, y, rfl, hdd, ry⟩, hx, fun μ2 H2 z x2 r2 q2 => ?_⟩
            have p2 : PS_ g K D W μ H (.nx (put (put (put e hd.slot none) hd.to (some w)) hd.slot none) h) := p1
            rw [put_eq, put_eq, put_eq] at p2
            have s2 : Stt K μ2 (e.set hd.slot none) h (σ'.set hd.slot (some (.ref a))) H2 := s.unset.ext x2 r2
            exact p2 μ2 H2 _ (x.trans x2) ((s2.set q2).unset)
      · simp only [no] at p0
        exact ih (fun hd hm => ok hd (List.mem_cons_of_mem _ hm)) p0 μ' H' σ' _ _ x s ⟨rfl, dd, y, rfl, hdd, ry⟩
theorem h_ok (S : Sc X g W N T cn C k cf cf2 sc L) : ∀ {hs : List Hd} {l : List ExceptHandler}, ckHs (ckH N sc L) hs l = true → Hds X l (hl g X.K L hs) ∧ ∀ hd ∈ hs, ∃ dl, L[hd.cls]? = some dl
  | [], [], _ => ⟨.nil, fun _ z => by cases z⟩
  | [], _ :: _, h => (Bool.false_ne_true h).elim
  | _ :: _, [], h => (Bool.false_ne_true h).elim
  | hd :: hs, hh :: l, h => by
    obtain ⟨h1, h2⟩ := and2 (show (ckH N sc L hd hh && ckHs (ckH N sc L) hs l) = true from h)
    obtain ⟨i1, i2⟩ := h_ok S h2
    unfold ckH at h1
    split at h1
    · rename_i x p1 n y p2 e0 p3 p4
      obtain ⟨h1, g11⟩ := and2 h1
      obtain ⟨h1, g10⟩ := and2 h1
      obtain ⟨h1, g9⟩ := and2 h1
      obtain ⟨h1, g8⟩ := and2 h1
      obtain ⟨h1, g7⟩ := and2 h1
      obtain ⟨h1, g6⟩ := and2 h1
      obtain ⟨h1, g5⟩ := and2 h1
      obtain ⟨h1, g4⟩ := and2 h1
      obtain ⟨h1, g3⟩ := and2 h1
      obtain ⟨g1, g2⟩ := and2 h1
      have e3 := of_decide_eq_true g3
      cases hdl : L[hd.cls]? with
      | none => rw [hdl] at e3; cases e3
      | some dl =>
        rw [hdl] at e3
        have en : dl.name = x := Option.some.inj e3
        have g5' := of_decide_eq_true g5
        have hi : N[hd.slot]? = some n := of_decide_eq_true g4
        have hto : N[hd.to]? = some y := of_decide_eq_true g8
        have g7' : decide (n = ("__classdict__" : Str)) = false := by simpa using g7
        have ly := S.lc y (by
          have g9' : (match sc.names.lookup y with | some .local => true | some .cell => true | _ => false) = true := g9
          split at g9'
          · exact .inl ‹_›
          · exact .inr ‹_›
          · cases g9')
        refine ⟨.named (by rw [S.ct.hN]; exact hi) (by unfold Env.kindOf; rw [S.ct.hsc]; exact g5') ⟨S.ct.gl g1, not_dbg g2, .inl (by rw [← en]; exact S.ce.mg hd.cls dl hdl)⟩ ?_ i1, fun hd' hm => ?_⟩
        · intro a oe cls d pn hz hf
          refine ⟨fun pins s σ H D I t => ?_⟩
          obtain ⟨c, cl, v, hcl, hcc, rfl, t⟩ := t
          have pe := sx_ok (X := X) (a := a) (pn := pn) (v := v) S.ce S.ct.hN S.ct.hsc hi (.inl g5') (not_dbg g6) (beq_eq_false_iff_ne.mpr (of_decide_eq_false g7')) (S.ct.bl _ (by decide)) hcl hcc hz hf 10 hd.val e0 g10
          have nd : (X.suite a ((a, oe) :: pn)).N.Nodup := by show X.N.Nodup; rw [S.ct.hN]; exact S.ct.nd
          refine (pss_one (ps_set (X := X.suite a ((a, oe) :: pn)) nd (by show X.N[hd.to]? = some y; rw [S.ct.hN]; exact hto) ly.1 pe ?_ ly.2)).run pins s σ H D I t
          cases e0 <;> first | rfl | (exact (Bool.false_ne_true g11).elim)
        · rcases List.mem_cons.mp hm with rfl | hm
          · exact ⟨dl, hdl⟩
          · exact i2 hd' hm
    · cases h1
theorem s_try {b : Sr} {B : List Stmt} {hs : List Hd} {h₀ : ExceptHandler} {l : List ExceptHandler} {pos : Pos} (S : Sc X g W N T cn C k cf cf2 sc L) (hh : ckHs (ckH N sc L) hs (h₀ :: l) = true)
    (hb : ∀ (W : WX) (pn : List (Addr × Obj)) (xe : Value → Shared → Prop), Takes (X.tr pn xe) W → PassesOwn (model X.prog X.w) X.A X.env xe → PSs (X.tr pn xe) B (TS_ g X.K W b)) :
    PS X (.Try B (h₀ :: l) [] [] pos) (TS_ g X.K W (sTry L b hs)) := by
  obtain ⟨i1, i2⟩ := h_ok S hh
  refine PS.imp (ps_tryH (by rw [S.ct.hN]; exact S.ct.nd) S.hs S.hf S.ct.tk hb i1) ?_
  rintro D σ H ⟨μ, e, h, s, p⟩
  refine ⟨μ, e, h, s, ?_⟩
  have p0 : PS_ g X.K D W μ H (catch_ L hs (b e h)) := p
  cases q : b e h with
  | exc c v e1 h1 => rw [q] at p0; exact catch_PS S.ce hs i2 p0
  | nx _ _ => rw [q] at p0; exact p0
  | rt _ _ => rw [q] at p0; exact p0
  | bk _ _ => rw [q] at p0; exact p0
  | ct _ _ => rw [q] at p0; exact p0
  | bad => rw [q] at p0; exact p0
end
end MP
namespace MP
open PySem L2 PySem.Spec PyProof.Rows
variable [Wd]
section
variable {g : GC} {N : List Str} {T : List Fn} {cn : List Str} {C : List PV} {k : Nat} {cf cf2 : Nat → List PV → Hv → R PV} {sc : Scope} {L : List Cl}
theorem Sc.tr {X : Cx} {W W' : WX} (S : Sc X g W N T cn C k cf cf2 sc L) {pn : List (Addr × Obj)} {xe : Value → Shared → Prop} (tk : Takes (X.tr pn xe) W') (po : PassesOwn (model X.prog X.w) X.A X.env xe) : Sc (X.tr pn xe) g W' N T cn C k cf cf2 sc L :=
  ⟨⟨S.ct.hsc, S.ct.hN, S.ct.ww, S.ct.nd, S.ct.calm, S.ct.room, S.ct.gd, tk, S.ct.bl, S.ct.hcn, S.ct.cl, S.ct.gf⟩, S.kd, S.hs, S.hf, po, S.lc, S.ce, S.rs⟩
section
variable {X : Cx} {W : WX}
theorem loc_of {x : Str} (h : loc_ sc x = true) : sc.names.lookup x = some .local ∨ sc.names.lookup x = some .cell := by
  have h' : (match sc.names.lookup x with | some .local => true | some .cell => true | _ => false) = true := h
  split at h'
  · exact .inl ‹_›
  · exact .inr ‹_›
  · cases h'
theorem asgN {fa : Sm} {i : Nat} {x : Str} {py pos : Pos} {e0 : PySem.Expr} (S : Sc X g W N T cn C k cf cf2 sc L) (h1 : isAt N i x = true) (h2 : loc_ sc x = true) (he : PE X e0 (TI g X.K W fa)) (hs : swapsWith e0 (some (.Name x py)) pos.line X.env = pure false) :
    PS X (.Assign [.Name x py] e0 pos) (TS_ g X.K W (sAsg i fa)) :=
  PS.imp (ps_set (by rw [S.ct.hN]; exact S.ct.nd) (by rw [S.ct.hN]; exact of_decide_eq_true h1) (S.lc x (loc_of h2)).1 he hs (S.lc x (loc_of h2)).2) asg_T
/-- x = [..], swapped -/
theorem asgLc {fw : Ev → Hv → R Wk} {fc fl : Sm} {scope : Scope} {tge it el : PySem.Expr} {ifs : List PySem.Expr} {own : List Nat} {tg : Tg} {i : Nat} {x : Str} {py p pos : Pos} (S : Sc X g W N T cn C k cf cf2 sc L) (h1 : isAt N i x = true) (hsw : swB sc x py (.ListComp el [⟨tge, it, ifs, 0⟩] scope p) = true)
    (hi : PI X tge it (TWk g X.K W fw)) (h2 : blkC N sc scope (ownOf N own) = true) (h3 : ckTg N scope tg tge = true) (h4 : (tgSlots tg).all (own.contains ·) = true)
    (ht : ∀ (s : Shared) (H : Hp) (C : Addr) (cl : List (Str × Addr)) (fp : List Addr), PTs (X.blk s H scope (compEnvC scope cl C X.env) fp) ifs (TB g X.K noX fc))
    (he : ∀ (s : Shared) (H : Hp) (C : Addr) (cl : List (Str × Addr)) (fp : List Addr), PE (X.blk s H scope (compEnvC scope cl C X.env) fp) el (TI g X.K noX fl)) (hs : ∀ y, foldedSetIterable it X.env y = pure y) :
    PS X (.Assign [.Name x py] (.ListComp el [⟨tge, it, ifs, 0⟩] scope p) pos) (TS_ g X.K W (sAsg i fun e h => (fw e h).bind fun w h1 => cWalk own tg fc fl (some w) e h1)) := by
  obtain ⟨hsw, s3⟩ := and2 (show (decide (sc.names.lookup x = some .local) && (py.line == p.line) && !(scope.names.any fun (n, k) => n == x && (k == .local || k == .cell))) = true from hsw)
  obtain ⟨s1, s2⟩ := and2 hsw
  have s1' := of_decide_eq_true s1
  have nd : X.N.Nodup := by rw [S.ct.hN]; exact S.ct.nd
  have core := s_lc (X := X) (pos := p) (spos := pos) (py := py) (own := ownOf N own) (scope := scope) (tge := tge) (iter := it) (elt := el) (g := g) (W := W) (fw := fw) (fc := fc) (fl := fl) (ifs := ifs) (t := tg) S.ct.calm nd
    (by rw [S.ct.hN]; exact of_decide_eq_true h1) (by rw [S.ct.hsc]; exact s1') (sw_true (by rw [S.ct.hsc]; exact S.kd) (by rw [S.ct.hsc]; exact s1') s2 (by simpa using s3)) hi (by rw [S.ct.hN, S.ct.hsc]; exact blkOk_by h2)
    (fun s H C' cl fp => tg_ok (X := X.blk s H scope (compEnvC scope cl C' X.env) fp) (N := N) (sc := scope) S.ct.calm nd S.ct.hN (loc_rel S.ct.hsc) h3)
    (by rw [own_map]; exact fun j hj => by simpa using List.all_eq_true.mp h4 j hj) ht he hs
  rw [own_map] at core
  exact PS.imp core asg_T
theorem asgE (D : DR g) (S : Sc X g W N T cn C k cf cf2 sc L) {e : Ex} {i : Nat} {x : Str} {py pos : Pos} {e0 : PySem.Expr} (h1 : isAt N i x = true) (h2 : loc_ sc x = true) (h3 : ck N T cn e sc e0 = true) (h4 : swOk sc x py e0 = true) : PS X (.Assign [.Name x py] e0 pos) (TS_ g X.K W (sAsg i (ev C cf e))) := by
  have gen : (swapsWith e0 (some (.Name x py)) pos.line X.env = pure false) → PS X (.Assign [.Name x py] e0 pos) (TS_ g X.K W (sAsg i (ev C cf e))) := fun hs => asgN S h1 h2 (snd D e S.ct h3).v hs
  cases e0 with
  | ListComp el gs scope p =>
    cases e <;> first | exact (Bool.false_ne_true h3).elim | skip
    · rename_i own tg it cond elt
      match gs, h3, h4 with
      | [], h3, _ => exact (Bool.false_ne_true h3).elim
      | _ :: _ :: _, h3, _ => exact (Bool.false_ne_true h3).elim
      | [⟨t, i0, ifs, as⟩], h, h4 =>
        obtain ⟨h, g8⟩ := and2 (show (decide (as = 0) && blkC N sc scope (ownOf N own) && ckTg N scope tg t && (tgSlots tg).all (own.contains ·) && ck N T cn it sc i0 && notSet i0 && ckIfs cond (ck N T cn cond (relS scope sc)) ifs && ck N T cn elt (relS scope sc) el) = true from h)
        obtain ⟨h, g7⟩ := and2 h
        obtain ⟨h, g6⟩ := and2 h
        obtain ⟨h, g5⟩ := and2 h
        obtain ⟨h, g4⟩ := and2 h
        obtain ⟨h, g3⟩ := and2 h
        obtain ⟨g1, g2⟩ := and2 h
        have := of_decide_eq_true g1
        subst this
        have core := asgLc (pos := pos) S h1 h4 (i_val (snd D it S.ct g5).v) g2 g3 g4 (fun s H C' cl fp => ifs_ok g7 fun c z => (snd D cond (S.ct.blk scope s H cl C' fp) z).t) (fun s H C' cl fp => (snd D elt (S.ct.blk scope s H cl C' fp) g8).v) (fun x => foldSet g6)
        rw [← comp_eq] at core
        exact core
    · rename_i own tg it cond elt
      match gs, h3, h4 with
      | [], h3, _ => exact (Bool.false_ne_true h3).elim
      | _ :: _ :: _, h3, _ => exact (Bool.false_ne_true h3).elim
      | [⟨t, i0, ifs, as⟩], h, h4 =>
        obtain ⟨h, g8⟩ := and2 (show (decide (as = 0) && blkC N sc scope (ownOf N own) && ckTg N scope tg t && (tgSlots tg).all (own.contains ·) && ckRng (fun x l => gl sc x && ckL N T cn it sc l && noStars l) i0 && ckIfs cond (ck N T cn cond (relS scope sc)) ifs && ck N T cn elt (relS scope sc) el) = true from h)
        obtain ⟨h, g7⟩ := and2 h
        obtain ⟨h, g5⟩ := and2 h
        obtain ⟨h, g4⟩ := and2 h
        obtain ⟨h, g3⟩ := and2 h
        obtain ⟨g1, g2⟩ := and2 h
        have := of_decide_eq_true g1
        subst this
        obtain ⟨p1, l, p2, rfl, g6, g9⟩ := ckRng_eq g5
        obtain ⟨g6, g10⟩ := and2 g6
        obtain ⟨g11, g12⟩ := and2 g6
        have core := asgLc (pos := pos) S h1 h4 (i_rng (p1 := p1) (pos := p2) (S.ct.gl g11) (S.ct.bl _ (by decide)) (sndL D it S.ct g12) (evL_len it g12) g10 g9) g2 g3 g4 (fun s H C' cl fp => ifs_ok g7 fun c z => (snd D cond (S.ct.blk scope s H cl C' fp) z).t) (fun s H C' cl fp => (snd D elt (S.ct.blk scope s H cl C' fp) g8).v) (fun x => rfl)
        rw [← compR_eq] at core
        exact core
  | SetComp _ _ _ _ => exact (Bool.false_ne_true h4).elim
  | DictComp _ _ _ _ _ => exact (Bool.false_ne_true h4).elim
  | _ => exact gen rfl
theorem tgt_ok (S : Sc X g W N T cn C k cf cf2 sc L) {t : Tg} {e : PySem.Expr} (h : ckTg N sc t e = true) : PG X e (gOf X.K t) :=
  tg_ok S.ct.calm (by rw [S.ct.hN]; exact S.ct.nd) S.ct.hN S.lc h
end
mutual
theorem sndS (D : DR g) : ∀ (s : St) {X : Cx} {W : WX} {st : Stmt}, Sc X g W N T cn C k cf cf2 sc L → ckS N T cn L sc s st = true → PS X st (TS_ g X.K W (exec C L cf cf2 s))
  | .exp e, X, W, st, S, h => by
    cases st <;> first | exact (Bool.false_ne_true h).elim | skip
    rename_i e0 p
    obtain ⟨h1, h2⟩ := and2 (show (ck N T cn e sc e0 && notComp e0) = true from h)
    refine s_exp (snd D e S.ct h1).v ?_
    cases e0 <;> first | rfl | exact (Bool.false_ne_true h2).elim
  | .asg i e, X, W, st, S, h => by
    cases st <;> first | exact (Bool.false_ne_true h).elim | skip
    rename_i ts e0 p
    unfold ckS at h
    split at h
    · rename_i heq
      cases heq
      obtain ⟨h, h4⟩ := and2 h
      obtain ⟨h, h3⟩ := and2 h
      obtain ⟨h1, h2⟩ := and2 h
      exact asgE D S h1 h2 h3 h4
    · cases h
  | .asgT is e, X, W, st, S, h => by
    cases st <;> first | exact (Bool.false_ne_true h).elim | skip
    rename_i ts e0 p
    match ts, h with
    | [], h => exact (Bool.false_ne_true h).elim
    | _ :: _ :: _, h => exact (Bool.false_ne_true h).elim
    | [t], h =>
      obtain ⟨h, h3⟩ := and2 (show (ckTg N sc (.t is) t && ck N T cn e sc e0 && notTupE e0) = true from h)
      obtain ⟨h1, h2⟩ := and2 h
      cases t <;> first | exact (Bool.false_ne_true h1).elim | skip
      refine s_asgT (snd D e S.ct h2).v (tgt_ok S h1) ?_ ?_ rfl
      · cases e0 <;> rfl
      · cases e0 <;> first | rfl | exact (Bool.false_ne_true h3).elim
  | .set o i e, X, W, st, S, h => by
    cases st <;> first | exact (Bool.false_ne_true h).elim | skip
    rename_i ts e0 p
    unfold ckS at h
    split at h
    · rename_i heq
      cases heq
      obtain ⟨h, h4⟩ := and2 h
      obtain ⟨h, h3⟩ := and2 h
      obtain ⟨h1, h2⟩ := and2 h
      refine s_set (D.set X S.ct.ww S.ct.unitsD) (snd D o S.ct h1).v (snd D i S.ct h2).v (snd D e S.ct h3).v h4 ?_
      cases e0 <;> rfl
    · cases h
  | .ret e, X, W, st, S, h => by
    cases st <;> first | exact (Bool.false_ne_true h).elim | skip
    rename_i o p
    cases o with
    | none => exact (Bool.false_ne_true h).elim
    | some e0 => exact s_ret (snd D e S.ct h).v
  | .retN, X, W, st, S, h => by
    cases st <;> first | exact (Bool.false_ne_true h).elim | skip
    rename_i o p
    cases o with
    | none => exact s_retN
    | some e0 => exact (Bool.false_ne_true h).elim
  | .ite c a b, X, W, st, S, h => by
    cases st <;> first | exact (Bool.false_ne_true h).elim | skip
    rename_i c0 a0 b0 p
    obtain ⟨h, h3⟩ := and2 (show (ck N T cn c sc c0 && ckB N T cn L sc a a0 && ckB N T cn L sc b b0) = true from h)
    obtain ⟨h1, h2⟩ := and2 h
    exact s_ite (snd D c S.ct h1).t (sndB D a S h2) (sndB D b S h3)
  | .whl c b, X, W, st, S, h => by
    cases st <;> first | exact (Bool.false_ne_true h).elim | skip
    rename_i c0 b0 e0 p
    cases e0 with
    | cons _ _ => exact (Bool.false_ne_true h).elim
    | nil =>
      obtain ⟨h1, h2⟩ := and2 (show (ck N T cn c sc c0 && ckB N T cn L sc b b0) = true from h)
      exact s_whl S.po (snd D c S.ct h1).t (sndB D b S h2)
  | .for_ t e b, X, W, st, S, h => by
    cases st <;> first | exact (Bool.false_ne_true h).elim | skip
    rename_i t0 e0 b0 r0 p
    cases r0 with
    | cons _ _ => exact (Bool.false_ne_true h).elim
    | nil =>
      obtain ⟨h, h4⟩ := and2 (show (ckTg N sc t t0 && ck N T cn e sc e0 && notSet e0 && ckB N T cn L sc b b0) = true from h)
      obtain ⟨h, h3⟩ := and2 h
      obtain ⟨h1, h2⟩ := and2 h
      have := s_for (pos := p) S.po S.ct.calm (i_val (tg := t0) (snd D e S.ct h2).v) (tgt_ok S h1) (sndB D b S h4) (fun x => foldSet h3)
      rw [← for_eq] at this
      exact this
  | .forR t es b, X, W, st, S, h => by
    cases st <;> first | exact (Bool.false_ne_true h).elim | skip
    rename_i t0 e0 b0 r0 p
    cases r0 with
    | cons _ _ => exact (Bool.false_ne_true h).elim
    | nil =>
      obtain ⟨h, h4⟩ := and2 (show (ckTg N sc t t0 && ckRng (fun x l => gl sc x && ckL N T cn es sc l && noStars l) e0 && ckB N T cn L sc b b0) = true from h)
      obtain ⟨h1, h5⟩ := and2 h
      obtain ⟨p1, l, p2, rfl, h6, h9⟩ := ckRng_eq h5
      obtain ⟨h6, h10⟩ := and2 h6
      obtain ⟨h11, h12⟩ := and2 h6
      have := s_for (pos := p) S.po S.ct.calm (i_rng (tg := t0) (p1 := p1) (pos := p2) (S.ct.gl h11) (S.ct.bl _ (by decide)) (sndL D es S.ct h12) (evL_len es h12) h10 h9) (tgt_ok S h1) (sndB D b S h4) (fun x => rfl)
      rw [← forR_eq] at this
      exact this
  | .forRP t es b, X, W, st, S, h => by
    cases st <;> first | exact (Bool.false_ne_true h).elim | skip
    rename_i t0 e0 b0 r0 p
    cases r0 with
    | cons _ _ => exact (Bool.false_ne_true h).elim
    | nil =>
      obtain ⟨h, h4⟩ := and2 (show (ckTg N sc t t0 && ckRng (fun x l => gl sc x && ckL N T cn es sc l && noStars l) e0 && ckB N T cn L sc b b0) = true from h)
      obtain ⟨h1, h5⟩ := and2 h
      obtain ⟨p1, l, p2, rfl, h6, h9⟩ := ckRng_eq h5
      obtain ⟨h6, h10⟩ := and2 h6
      obtain ⟨h11, h12⟩ := and2 h6
      have := s_forP (pos := p) S.po S.ct.calm (i_rng (tg := t0) (p1 := p1) (pos := p2) (S.ct.gl h11) (S.ct.bl _ (by decide)) (sndL D es S.ct h12) (evL_len es h12) h10 h9) (tgt_ok S h1) (sndB D b S h4) (fun x => rfl)
      rw [← forRP_eq] at this
      exact this
  | .pass, X, W, st, S, h => by
    cases st <;> first | exact (Bool.false_ne_true h).elim | exact s_pass
  | .brk, X, W, st, S, h => by
    cases st <;> first | exact (Bool.false_ne_true h).elim | exact s_brk
  | .cont, X, W, st, S, h => by
    cases st <;> first | exact (Bool.false_ne_true h).elim | exact s_cont
  | .rse c e, X, W, st, S, h => by
    cases st <;> first | exact (Bool.false_ne_true h).elim | skip
    rename_i e0 f0 p
    cases f0 with
    | some _ => exact (Bool.false_ne_true h).elim
    | none =>
      have h' : ckRse sc L T.length c (ck N T cn e sc) e0 = true := h
      unfold ckRse at h'
      split at h'
      · obtain ⟨h', h5⟩ := and2 h'
        obtain ⟨h', h4⟩ := and2 h'
        obtain ⟨h', h3⟩ := and2 h'
        obtain ⟨h1, h2⟩ := and2 h'
        cases hcl : L[c]? with
        | none => rw [hcl] at h3; cases h3
        | some cl =>
          rw [hcl] at h3
          obtain ⟨h6, h7⟩ := and2 h3
          exact s_rse S hcl (of_decide_eq_true h7) (of_decide_eq_true h6) (S.ct.gl h1) (not_dbg h2) h4 (snd D e S.ct h5).v
      · cases h'
  | .try_ b hs, X, W, st, S, h => by
    cases st <;> first | exact (Bool.false_ne_true h).elim | skip
    rename_i b0 h0 e0 f0 p
    cases e0 with
    | cons _ _ => exact (Bool.false_ne_true h).elim
    | nil =>
      cases f0 with
      | cons _ _ => exact (Bool.false_ne_true h).elim
      | nil =>
        cases h0 with
        | nil => exact (by have := (and2 h).2; cases this)
        | cons h₀ l =>
          obtain ⟨h, _⟩ := and2 (show (ckB N T cn L sc b b0 && ckHs (ckH N sc L) hs (h₀ :: l) && true) = true from h)
          obtain ⟨h1, h2⟩ := and2 h
          exact s_try S h2 fun W' pn xe tk po => sndB D b (S.tr tk po) h1
theorem sndB (D : DR g) : ∀ (b : Bs) {X : Cx} {W : WX} {l : List Stmt}, Sc X g W N T cn C k cf cf2 sc L → ckB N T cn L sc b l = true → PSs X l (TS_ g X.K W (execs C L cf cf2 b))
  | .nil, X, W, [], S, h => b_nil
  | .nil, X, W, _ :: _, S, h => (Bool.false_ne_true h).elim
  | .cons _ _, X, W, [], S, h => (Bool.false_ne_true h).elim
  | .cons s b, X, W, t :: l, S, h => by
    obtain ⟨h1, h2⟩ := and2 (show (ckS N T cn L sc s t && ckB N T cn L sc b l) = true from h)
    exact b_cons (sndS D s S h1) (sndB D b S h2)
end
end
end MP
namespace MP
open PySem L2 PySem.Spec PyProof.Rows
variable [Wd]
section
variable {K : Fr} {H H' : Hp} {μ ν : List Addr}
mutual
theorem Rep.shift {n : Nat} (hn : ν.length = n) : ∀ {p : PV} {v : V}, Rep K H μ p v → Rep K H (ν ++ μ) (p.shift n) v
  | _, _, .non => .non
  | _, _, .bl b => .bl b
  | _, _, .int i => .int i
  | _, _, .str z => .str z
  | _, _, .tup t q => .tup t (Reps.shift hn q)
  | _, _, .loc e => .loc (by rw [List.getElem?_append_right (by omega), ← hn]; simpa using e)
theorem Reps.shift {n : Nat} (hn : ν.length = n) : ∀ {ps : List PV} {vs : List V}, Reps K H μ ps vs → Reps K H (ν ++ μ) (shiftL n ps) vs
  | _, _, .nil => .nil
  | _, _, .cons q t => .cons (Rep.shift hn q) (Reps.shift hn t)
end
theorem keyP_shift (n : Nat) : ∀ (m : Nat) (v : PV), keyP m v = true → v.shift n = v
  | 0, .non, h => rfl
  | 0, .bl _, h => rfl
  | 0, .int _, h => rfl
  | 0, .str _, h => rfl
  | 0, .tup _, h => (Bool.false_ne_true h).elim
  | 0, .loc _, h => (Bool.false_ne_true h).elim
  | m + 1, .non, h => rfl
  | m + 1, .bl _, h => rfl
  | m + 1, .int _, h => rfl
  | m + 1, .str _, h => rfl
  | m + 1, .loc _, h => (Bool.false_ne_true h).elim
  | m + 1, .tup xs, h => by
    have h' : okAll (keyP m) xs = true := h
    have go : ∀ xs : List PV, okAll (keyP m) xs = true → shiftL n xs = xs := by
      intro xs
      induction xs with
      | nil => intro _; rfl
      | cons x xs ih =>
        intro z
        obtain ⟨z1, z2⟩ := and2 (show (keyP m x && okAll (keyP m) xs) = true from z)
        show x.shift n :: shiftL n xs = x :: xs
        rw [keyP_shift n m x z1, ih z2]
    show PV.tup (shiftL n xs) = PV.tup xs
    rw [go xs h']
theorem keyT_shift (n : Nat) {v : PV} (h : keyT v = true) : v.shift n = v := by
  cases v <;> first | (exact (Bool.false_ne_true h).elim) | skip
  rename_i xs
  exact keyP_shift n 8 (.tup xs) h
theorem KvR.shift {n : Nat} (hn : ν.length = n) : ∀ {kvs : List (PV × PV)} {xs : List (NestedKey × Addr × Value)}, KvR K H μ kvs xs → KvR K H (ν ++ μ) (shiftKV n kvs) xs
  | _, _, .nil => .nil
  | _, _, .cons (k := k) a b c d t => by
    have e := keyT_shift n a
    have b' := Rep.shift hn b
    rw [e] at b'
    show KvR K H (ν ++ μ) ((k.shift n, _) :: _) _
    rw [e]
    exact .cons a b' (Rep.shift hn c) d (KvR.shift hn t)
theorem ObR.shift {n : Nat} (hn : ν.length = n) {o : HV} {a : Addr} (q : ObR K H μ o a) : ObR K H (ν ++ μ) (o.shift n) a := by
  cases o with
  | lst xs => obtain ⟨vs, e, t⟩ := q; exact ⟨vs, e, Reps.shift hn t⟩
  | dct kvs => obtain ⟨xs, e, t, z⟩ := q; exact ⟨xs, e, KvR.shift hn t, z⟩
theorem joinX (r : Rel K ν h H) (x : Ext [] H μ H') : Ext ν H (ν ++ μ) H' :=
  ⟨⟨μ, rfl⟩, fun a m n => by
    rcases List.mem_append.mp m with z | z
    · exact absurd z n
    · exact x.new a z (by simp), fun a o e _ => x.kp a o e (by simp)⟩
theorem joinR {h h1 : Hv} (r : Rel K ν h H) (x : Ext [] H μ H') (r1 : Rel K μ h1 H') : Rel K (ν ++ μ) (h ++ h1.map (HV.shift h.length)) H' := by
  refine ⟨by simp [r.len, r1.len], ?_, fun l o a e1 e2 => ?_⟩
  · rw [List.nodup_append]
    refine ⟨r.nd, r1.nd, fun a ma b mb e => ?_⟩
    subst e
    have := x.new a mb (by simp)
    rcases r.is ma with ⟨vs, q⟩ | ⟨φ, q⟩ <;> rw [this] at q <;> cases q
  · by_cases hl : l < h.length
    · rw [List.getElem?_append_left hl] at e1
      rw [List.getElem?_append_left (by rw [r.len]; exact hl)] at e2
      exact (r.ob l o a e1 e2).ext r (joinX (h := h) r x) (fun b u e _ => x.kp b u e (by simp)) (List.mem_of_getElem? e2)
    · rw [List.getElem?_append_right (by omega)] at e1
      rw [List.getElem?_append_right (by rw [r.len]; omega), r.len] at e2
      rw [List.getElem?_map] at e1
      cases q : h1[l - h.length]? with
      | none => rw [q] at e1; cases e1
      | some u =>
        rw [q] at e1
        cases e1
        exact ObR.shift r.len (r1.ob _ u a q e2)
end
section
variable {K : Fr} {g : GC} {Q : VK} {E : XK} {σ σ0 : L2.St} {μ : List Addr} {H : Hp} {h : Hv}
abbrev callD (Q : VK) : Ends := { nx := fun _ H' => Q .non H', rt := Q }
theorem outS_PS {r : SR} (p : PR g K (RepR K) Q (fun c d _ H' => E c d H') σ0 μ H (outS r)) : PS_ g K (callD Q) (fun c d _ H' => E c d H') μ H r := by
  cases r with
  | nx e h1 => exact fun μ' H' σ' x s => p μ' H' .non x s.rel .non
  | rt v h1 => exact p
  | bk e h1 => exact p.elim
  | ct e h1 => exact p.elim
  | bad => exact p.elim
  | exc c v e h1 =>
    have p' : PR g K (RepR K) Q (fun c d _ H' => E c d H') σ0 μ H (if v.pure then .exc c v h1 else .bad) := p
    by_cases hv : v.pure = true
    · rw [if_pos hv] at p'
      exact fun μ' H' σ' cls d x s ex => p' μ' H' cls d x s.rel ex
    · rw [if_neg hv] at p'; exact p'.elim
theorem outI_PS {r : SR} (R : Rel K μ h H) (p : PR g K (RepR K) Q (fun c d _ H' => E c d H') σ0 μ H (outI h r)) : PS_ g K (callD Q) (fun c d _ H' => E c d H') [] H r := by
  cases r with
  | nx e h1 => exact fun μ' H' σ' x s => p μ H' .non (keepX (h := h) x) (keepR x R) .non
  | rt v h1 =>
    have p' : PR g K (RepR K) Q (fun c d _ H' => E c d H') σ0 μ H (if v.pure then .ok v h else .ok (v.shift h.length) (h ++ h1.map (HV.shift h.length))) := p
    by_cases hv : v.pure = true
    · rw [if_pos hv] at p'
      exact fun μ' H' y x r1 q1 => p' μ H' y (keepX (h := h) x) (keepR x R) (q1.pure_any hv)
    · rw [if_neg hv] at p'
      exact fun μ' H' y x r1 q1 => p' (μ ++ μ') H' y (joinX (h := h) R x) (joinR R x r1) (Rep.shift R.len q1)
  | bk e h1 => exact p.elim
  | ct e h1 => exact p.elim
  | bad => exact p.elim
  | exc c v e h1 =>
    have p' : PR g K (RepR K) Q (fun c d _ H' => E c d H') σ0 μ H (if v.pure then .exc c v h else .bad) := p
    by_cases hv : v.pure = true
    · rw [if_pos hv] at p'
      intro μ' H' σ' cls d x s ex
      obtain ⟨e1, dd, y, e2, hdd, ry⟩ := ex
      exact p' μ H' cls d (keepX (h := h) x) (keepR x R) ⟨e1, dd, y, e2, hdd, ry.pure_any hv⟩
    · rw [if_neg hv] at p'; exact p'.elim
theorem start_ok {N : List Str} {fn : Fn} {us : List PV} {vs : List V} (hN : N.length = fn.ns) (hl : vs.length = fn.np) (le : fn.np ≤ fn.ns) (r : Reps K H μ us vs) : EvR K H μ (MP.start fn us) (L2.start N vs) := by
  have len := r.length
  refine ⟨?_, fun i v e => ?_⟩
  · show (us.map some ++ List.replicate (fn.ns - fn.np) none).length = (vs.map some ++ List.replicate (N.length - vs.length) none).length
    simp only [List.length_append, List.length_map, List.length_replicate]
    omega
  · have e' : (us.map some ++ List.replicate (fn.ns - fn.np) none)[i]? = some (some v) := e
    show ∃ x, (vs.map some ++ List.replicate (N.length - vs.length) none)[i]? = some (some x) ∧ _
    by_cases hi : i < us.length
    · rw [List.getElem?_append_left (by simpa using hi), List.getElem?_map] at e'
      cases q : us[i]? with
      | none => rw [q] at e'; cases e'
      | some u =>
        rw [q] at e'
        cases e'
        obtain ⟨x, e2, rx⟩ := r.get q
        exact ⟨x, by rw [List.getElem?_append_left (by rw [List.length_map]; omega), List.getElem?_map, e2]; rfl, rx⟩
    · rw [List.getElem?_append_right (by rw [List.length_map]; omega), List.getElem?_replicate] at e'
      split at e' <;> cases e'
theorem fill_full {np : Nat} {dfl us : List PV} (h : us.length = np) : fillD np dfl us = us := by
  unfold fillD
  rw [h, Nat.sub_self, Nat.sub_zero, List.drop_length, List.append_nil]
theorem fill_len {np : Nat} {dfl us : List PV} (h1 : us.length ≤ np) (h2 : np ≤ us.length + dfl.length) : (fillD np dfl us).length = np := by
  unfold fillD
  rw [List.length_append, List.length_drop]
  omega
end
end MP
namespace MP
open PySem L2 PySem.Spec PyProof.Rows
variable [Wd]
structure FnRow (K : Fr) (mg : Str → Option Value) (T : List Fn) (cn : List Str) (L : List Cl) (fn : Fn) : Prop where
  ex : ∃ (fa : Addr) (fd : FuncData) (ps N : List Str) (qual : Str) (params : Arguments) (body : List Stmt) (scope : Scope) (dvs : List V) (kws : List (Str × V)),
    mg fn.name = some (.ref fa) ∧ ps.length = fn.np ∧ N.length = fn.ns ∧ FunD K fn.name qual params body scope dvs kws fa fd ∧ FnScope N ps scope ∧ ckB N T cn L scope fn.body body = true ∧
    (∀ n, n ≤ fn.np → fn.np ≤ n + fn.dfl.length → ∃ dvs ds, (fn.dfl.drop (fn.dfl.length - (fn.np - n))).map atomV = dvs.map some ∧ Vals dvs ds ∧ n + dvs.length = fn.np ∧ Binds K fd ps ds)
/-- an error's start, as it is written -/
def ckI (T : List Fn) (cl : Cl) (slf arg : Str) (sc : Scope) (body : List Stmt) : Bool := match body with
  | [.Assign [.Attribute (.Name s _) f _] (.Call (.Name t _) [.Name a _] [] _) _] => decide (s = slf) && decide (a = arg) && decide (f = cl.fld) && (match T[cl.conv]? with | some fn => decide (fn.name = t) && decide (fn.np = 1) | none => false) && gl sc t && !dbg t &&
    decide (sc.names.lookup slf = some .local) && decide (sc.names.lookup arg = some .local) && !dbg slf && !dbg arg && !decide (slf = ("__classdict__" : Str)) && !decide (arg = ("__classdict__" : Str))
  | _ => false
structure ClRow (K : Fr) (g : GC) (T : List Fn) (c : Nat) (cl : Cl) : Prop where
  oex : OexC K (g.ca c)
  ini : ∃ (fI : Addr) (fd : FuncData) (slf arg : Str) (qual : Str) (params : Arguments) (body : List Stmt) (scope : Scope) (kws : List (Str × V)),
    PySem.W.findIn K (.ref (g.ca c)) "__init__" = some (some (.ref fI)) ∧ PySem.W.typeIn K (.ref fI) = some (.type "function") ∧ FunD K "__init__" qual params body scope [] kws fI fd ∧ FnScope [slf, arg] [slf, arg] scope ∧ Binds K fd [slf, arg] [] ∧ ckI T cl slf arg scope body = true
section
variable {P : Program} {w : World} {K : Fr} {mg : Str → Option Value} {base : Heap} {g : GC} {T : List Fn} {cn : List Str} {C : List PV} {L : List Cl}
/-- what stands beside the defs -/
structure Side (w : World) (mg : Str → Option Value) (cn : List Str) (C : List PV) : Prop where
  ww : w = Wd.w
  bl : ∀ x ∈ bltNames, mg x = none
  hcn : ∀ (i : Nat) (x : Str) (v : PV), cn[i]? = some x → C[i]? = some v → ∃ u y, mg x = some u ∧ atomV v = some y ∧ RelV y u
  cl : cn.length = C.length
theorem ct_of {N ps : List Str} {qual : Str} {scope : Scope} {f : Addr} {cdv : Value} {A : Around} {outer : List Env} {s : Shared} {H : Hp} {E : XK} {k : Nat} {cf : Nat → List PV → Hv → R PV} {W : WX} (sd : Side w mg cn C) (S : FnScope N ps scope)
    (room : Room k (A.deeper (envOfC qual scope s.heap.objs.size f cdv))) (gd : A.guards = some []) (gf : Gf P w K mg base g T k cf) (tk : Takes (cxOf (L2.CX P w) P w K mg base N qual scope f cdv A outer s H E) W) :
    Ct (cxOf (L2.CX P w) P w K mg base N qual scope f cdv A outer s H E) g W N T cn C bltNames k cf scope :=
  ⟨rfl, rfl, sd.ww, S.nd, rfl, room, gd, tk, sd.bl, sd.hcn, sd.cl, gf⟩
theorem init_ok {c : Nat} {cl : Cl} {j : Nat} {cf : Nat → List PV → Hv → R PV} (sd : Side w mg cn C) (ce : ClE K mg g L) (hcl : L[c]? = some cl) (gf : Gf P w K mg base g T j cf) {fI : Addr} {fd : FuncData} {slf arg qual : Str} {params : Arguments} {body : List Stmt} {scope : Scope} {kws : List (Str × V)}
    (oex : OexC K (g.ca c)) (F : FunD K "__init__" qual params body scope [] kws fI fd) (S : FnScope [slf, arg] [slf, arg] scope) (h : ckI T cl slf arg scope body = true) :
    FnG P w K mg base (j + 1) fI fd [slf, arg] (spI g K (g.ca c) cl.fld (fun v h => cf cl.conv [v] h)) := by
  refine fnG F S ?_ ?_
  · rintro vs H Q E ⟨a, y, μ, h, v, rfl, _⟩; rfl
  · intro cdv A outer s H vs Q E room gd sp
    unfold ckI at h
    split at h
    · rename_i s1 p1 f1 p2 t1 p3 a1 p4 p5 p6
      obtain ⟨h, g12⟩ := and2 h
      obtain ⟨h, g11⟩ := and2 h
      obtain ⟨h, g10⟩ := and2 h
      obtain ⟨h, g9⟩ := and2 h
      obtain ⟨h, g8⟩ := and2 h
      obtain ⟨h, g7⟩ := and2 h
      obtain ⟨h, g6⟩ := and2 h
      obtain ⟨h, g5⟩ := and2 h
      obtain ⟨h, g4⟩ := and2 h
      obtain ⟨h, g3⟩ := and2 h
      obtain ⟨g1, g2⟩ := and2 h
      have e1 := of_decide_eq_true g1
      have e2 := of_decide_eq_true g2
      have e3 := of_decide_eq_true g3
      subst e1 e2 e3
      have g11' : decide (s1 = ("__classdict__" : Str)) = false := by simpa using g11
      have g12' : decide (a1 = ("__classdict__" : Str)) = false := by simpa using g12
      cases hT : T[cl.conv]? with
      | none => rw [hT] at g4; cases g4
      | some fn =>
        rw [hT] at g4
        obtain ⟨q1, q2⟩ := and2 g4
        have ct : Ct (cxOf (L2.CX P w) P w K mg base [s1, a1] qual scope fI cdv A outer s H E) g noX [s1, a1] T cn C bltNames j cf scope := ct_of sd S room gd gf Takes.no
        have vself := pe_var (X := cxOf (L2.CX P w) P w K mg base [s1, a1] qual scope fI cdv A outer s H E) (pos := p1) (i := 0) (x := s1) rfl (.inl (of_decide_eq_true g7)) (not_dbg g9) (beq_eq_false_iff_ne.mpr (of_decide_eq_false g11'))
        have varg := e_var (X := cxOf (L2.CX P w) P w K mg base [s1, a1] qual scope fI cdv A outer s H E) (g := g) (W := noX) (pos := p4) (i := 1) (x := a1) rfl (.inl (of_decide_eq_true g8)) (not_dbg g10) (beq_eq_false_iff_ne.mpr (of_decide_eq_false g12'))
        have call := e_call (pos := p5) (p := p3) ct hT (of_decide_eq_true q1) (ct.gl g5) (not_dbg g6) (l_cons varg l_nil rfl) rfl (fun e h vs h' z => by
          have z' : ((cVar 1 e h).bind fun x h1 => (R.ok [x] h1 : R (List PV))) = .ok vs h' := z
          cases zz : cVar 1 e h with
          | bad => rw [zz] at z'; cases z'
          | exc _ _ _ => rw [zz] at z'; cases z'
          | ok x h1 => rw [zz] at z'; cases z'; rfl) (by rw [of_decide_eq_true q2]; exact Nat.le_refl _) (by rw [of_decide_eq_true q2]; exact Nat.le_add_right 1 _)
        refine ⟨_, pss_one (ps_ost (f := cl.fld) (p' := p2) (pos := p6) vself call rfl), ?_⟩
        obtain ⟨a, y, μ, h, v, rfl, Ha, am, R, ry, p⟩ := sp
        refine ⟨μ, [none, some v], h, ⟨⟨rfl, fun i u e => ?_⟩, R⟩, ?_⟩
        · match i, e with
          | 0, e => cases e
          | 1, e => cases e; exact ⟨y, rfl, ry⟩
          | n + 2, e => simp at e
        · have p0 : PR g K (RepR K) (fun z H2 => ∀ dx, H2 dx = none → dx ≠ a → Q .non (upd (upd H2 dx (exd dx [(cl.fld, z)])) a (exo a (g.ca c) (some dx)))) noX (L2.start [s1, a1] [.ref a, y]) μ H (cCall cf cl.conv (cCons (cVar 1) cNil) [none, some v] h) := by
            have pp : PR g K (RepR K) (fun z H2 => ∀ dx, H2 dx = none → dx ≠ a → Q .non (upd (upd H2 dx (exd dx [(cl.fld, z)])) a (exo a (g.ca c) (some dx)))) noX [] μ H (cf cl.conv [v] h) := p
            show PR g K (RepR K) _ noX _ μ H (cf cl.conv [v] h)
            cases z : cf cl.conv [v] h with
            | bad => rw [z] at pp; exact pp
            | exc _ _ _ => rw [z] at pp; exact pp
            | ok _ _ => rw [z] at pp; exact pp
          refine PR.mono p0 ?_
          intro z h' μ' H' x _ x1 r1 q1 k
          exact ⟨.ref a, rfl, a, g.ca c, rfl, oex, ce.no c cl hcl, .inl ⟨x1.kp a _ Ha am, fun dx n ne => k dx n ne⟩⟩
    · cases h
/-- every def, at every level -/
theorem gf_all (D : DR g) (sd : Side w mg cn C) (rows : ∀ (f : Nat) (fn : Fn), T[f]? = some fn → FnRow K mg T cn L fn) (ce : ClE K mg g L) (cr : ∀ (c : Nat) (cl : Cl), L[c]? = some cl → cl.conv < T.length → ClRow K g T c cl) : ∀ k, Gf P w K mg base g T k (run C L T k) := by
  intro k
  induction k using Nat.strongRecOn with
  | _ k ih =>
    cases k with
    | zero =>
      refine ⟨fun f fn hf => ?_, fun f fn us h hf h1 h2 => rfl⟩
      obtain ⟨fa, fd, ps, N, qual, params, body, scope, dvs, kws, m, np, ns, F, S, ck, bd⟩ := (rows f fn hf).ex
      refine ⟨fa, fd, ps, m, F.kp, np, bd, ⟨fun vs H Q E q => q.1.trans np.symm, ?_⟩⟩
      intro A outer s H args us vs Q E hr hg e0 hb hv hs
      obtain ⟨_, μ, h, us', σ, _, _, p⟩ := hs
      exact p.elim
    | succ k =>
      have gk := ih k (Nat.lt_succ_self k)
      refine ⟨fun f fn hf => ?_, fun f fn us h hf h1 h2 => ?_⟩
      · obtain ⟨fa, fd, ps, N, qual, params, body, scope, dvs, kws, m, np, ns, F, S, ck, bd⟩ := (rows f fn hf).ex
        refine ⟨fa, fd, ps, m, F.kp, np, bd, fnG F S (fun vs H Q E q => q.1.trans np.symm) ?_⟩
        intro cdv A outer s H vs Q E room gd sp
        have tk : Takes (cxOf (L2.CX P w) P w K mg base N qual scope fa cdv A outer s H E) (fun cls d _ H' => E cls d H') := takes_of rfl rfl rfl rfl
        have ct := ct_of (outer := outer) (H := H) (E := E) sd S room gd gk tk
        have St : Sc (cxOf (L2.CX P w) P w K mg base N qual scope fa cdv A outer s H E) g (fun cls d _ H' => E cls d H') N T cn C k (run C L T k) (runP C L T k).2.2 scope L := by
          refine ⟨ct, S.kind, rfl, rfl, passes_of (K := fun e s'' => L2.CX P w outer H s E e s'') (E₁ := fun e' s'' => L2.CX P w outer H s E e' s'') rfl, fun x hx => ?_, ce, fun c cl hcl hT => ?_⟩
          · rcases hx with hx | hx
            · exact ⟨.inl hx, .inr hx⟩
            · exact ⟨.inr hx, .inl rfl⟩
          · obtain ⟨oex, fI, fd2, slf, arg, qual2, params2, body2, scope2, kws2, i1, i2, i3, i4, i5, i6⟩ := cr c cl hcl hT
            refine ⟨oex, ?_⟩
            match k, ih with
            | 0, _ => exact .inl fun _ _ => rfl
            | 1, _ => exact .inl fun _ _ => rfl
            | j + 2, ih => exact .inr ⟨j + 1, fI, fd2, _, Nat.le_refl _, i1, i2, init_ok sd ce hcl (ih j (by omega)) oex i3 i4 i6, i5⟩
        refine ⟨_, sndB D fn.body St ck, ?_⟩
        obtain ⟨hl, μ, h, us, σ0, R, ru, p⟩ := sp
        have lenP : ps.length ≤ N.length := by
          have := congrArg List.length S.pre
          rw [List.length_take] at this
          omega
        have ul : us.length = fn.np := ru.length.trans hl
        have p0 : PR g K (RepR K) Q (fun c d _ H' => E c d H') σ0 μ H (goO C L (run C L T k) (runP C L T k).2.2 (nth T f) us h) := p
        rw [nth_eq, hf] at p0
        have p1 : PR g K (RepR K) Q (fun c d _ H' => E c d H') σ0 μ H (goF C L (run C L T k) (runP C L T k).2.2 fn (fillD fn.np fn.dfl us) h) := p0
        rw [fill_full ul] at p1
        unfold goF at p1
        rw [if_pos (show Nat.beq us.length fn.np = true by rw [ul]; exact Nat.beq_refl _)] at p1
        have npns : fn.np ≤ fn.ns := by omega
        by_cases hp : pureL us = true
        · rw [if_pos hp] at p1
          exact ⟨[], MP.start fn us, [], ⟨start_ok ns hl npns (ru.pure_any hp), Rel.none⟩, outI_PS R p1⟩
        · rw [if_neg hp] at p1
          exact ⟨μ, MP.start fn us, h, ⟨start_ok ns hl npns ru, R⟩, outS_PS p1⟩
      · show goO C L (run C L T k) (runP C L T k).2.2 (nth T f) us h = goO C L (run C L T k) (runP C L T k).2.2 (nth T f) (fillD fn.np fn.dfl us) h
        rw [nth_eq, hf]
        show goF C L _ _ fn (fillD fn.np fn.dfl us) h = goF C L _ _ fn (fillD fn.np fn.dfl (fillD fn.np fn.dfl us)) h
        rw [fill_full (fill_len h1 h2)]
end
end MP
namespace MP
open PySem L2 PySem.Spec PyProof.Rows

theorem law_atG {P : Program} {w : World} {K : Fr} {mg mb : Str → Option Value} {k : Nat} {fa a : Addr} {fd : FuncData} {x : Str} {sp : Sp} {s₁ : Shared} {H : Hp}
    (KX : K.In s₁.heap) (G : s₁.heap.Ns mainGlobals mg) (hb : s₁.heap.Ns builtinsNs mb) (hbb : ∀ x : Str, x ≠ "__name__" → mb x = bootBuiltins x) (hlim : s₁.heap.NoLimit) (hg : s₁.gens = #[])
    (list : ∃ o vs n, s₁.heap.get? a = some o ∧ o.data = .seq vs n) (only : Only H) (hok : HOk P w H s₁.heap) (sole : ∀ b, H b ≠ none → b = a) (noK : H a ≠ none → K.lookup a = none) (room : Room k callerA)
    (F : ∀ base : Heap, K.In base → base.Ns mainGlobals mg → FnG P w K mg base k fa fd [x] sp) (bind : ∀ (s : Shared) (u : Value), BindsTo s fd ⟨[u], []⟩ [(x, u)]) (want : sp [.ref a] H (fun v _ => v = .bl true) fun _ _ _ => False) :
    codeAny (model P w) callerA (.call (.ref fa) ⟨[.ref a], []⟩) (fun r s' => r = .ok (.ret (.bool true)) ∧ OldK s₁.heap s'.heap ∧ s'.os = s₁.os ∧ AllBare s'.gens) s₁ := by
  obtain ⟨oa, va, na, ha, da⟩ := list
  have is_a : ∀ {b : Addr} {u : HO}, H b = some u → b = a := fun {b u} e => sole b (by rw [e]; simp)
  have dicts : ∀ {b : Addr} {o : Obj} {es : Array DictEntry} {ep : Nat}, s₁.heap.get? b = some o → o.data = .dict es ep → H b = none := by
    intro b o es ep e d
    cases q : H b with
    | none => rfl
    | some u =>
      have := is_a q
      subst this
      rw [ha] at e
      cases e
      rw [da] at d
      cases d
  have names : ∀ {b : Addr} {m : Str → Option Value}, s₁.heap.Ns b m → (hidT s₁.heap H).Ns b m := by
    rintro b m ⟨o, es, ep, e, d, r⟩
    exact ⟨o, es, ep, hidT_get e (dicts e d), d, r⟩
  have inBase : K.In (hidT s₁.heap H) := by
    intro b o e
    refine hidT_get (KX b o e) ?_
    cases q : H b with
    | none => rfl
    | some u =>
      have := is_a q
      subst this
      rw [noK (by rw [q]; simp)] at e
      cases e
  obtain ⟨mc, l1, l2⟩ := hlim
  have mod : Mod K mg (hidT s₁.heap H) := ⟨inBase, names G, ⟨mb, names hb, hbb⟩, ⟨mc, names l1, l2⟩⟩
  have env : Env0 P w K mg (hidT s₁.heap H) callerA [] s₁ H := ⟨rfl, mod, fun b o e => of_hidT e, Nat.le_of_eq (hidT_size _ _), trivial, fun b z => absurd (show b ∈ ([] : List Addr) from z) (by simp), hok, .of_eq hg⟩
  have go := (F _ inBase (names G)).run callerA [] s₁ H ⟨[.ref a], []⟩ [.ref a] [.ref a] _ _ room rfl env (bind s₁ (.ref a)) (.cons rfl .nil) want
  refine codeAny_mono go ?_
  intro r s' z
  match r, z with
  | .error e, z =>
    obtain ⟨_, _, _, _, _, _, _, _, _, _, _, _, z⟩ := z
    exact z.elim
  | .ok .next, z => exact z.elim
  | .ok .brk, z => exact z.elim
  | .ok .cont, z => exact z.elim
  | .ok (.ret u), z =>
    obtain ⟨v, H2, os2, bare2, un2, hok2, rv, hv⟩ := z
    have hv' : v = .bl true := hv
    subst hv'
    have hu : u = Value.bool true := rv
    subst hu
    refine ⟨rfl, OldK.of_keep fun b o e => ?_, os2, bare2⟩
    cases q : H b with
    | none => exact un2.keep b o e q (by intro z; exact absurd (show b ∈ ([] : List Addr) from z) (by simp)) (by simp)
    | some u =>
      rcases only b with z | ⟨ob, xs, z⟩
      · rw [q] at z; cases z
      · obtain ⟨e1, _⟩ := hok b _ z
        obtain ⟨e2, _⟩ := hok2 b _ (un2.frzs b ob _ z)
        rw [e] at e1
        cases e1
        exact e2
/-- the script as the layer sees it -/
theorem law_G {P : Program} {w : World} {K : Fr} {mg mb : Str → Option Value} {k : Nat} {fa a : Addr} {fd : FuncData} {x : Str} {sp : Sp} {s₁ : Shared} {vs : List Value} {ns : List Int}
    (KX : K.In s₁.heap) (G : s₁.heap.Ns mainGlobals mg) (hb : s₁.heap.Ns builtinsNs mb) (hbb : ∀ x : Str, x ≠ "__name__" → mb x = bootBuiltins x) (hlim : s₁.heap.NoLimit) (hg : s₁.gens = #[])
    (ha : s₁.heap.get? a = some { cls := .type "list", data := .seq vs.toArray }) (hi : IntsAre vs ns) (hl : ns.length ≤ sizeLine) (room : Room k callerA)
    (F : ∀ base : Heap, K.In base → base.Ns mainGlobals mg → FnG P w K mg base k fa fd [x] sp) (bind : ∀ (s : Shared) (u : Value), BindsTo s fd ⟨[u], []⟩ [(x, u)])
    (want : ∀ H : Hp, Only H → SqL K H a (ns.map V.int) → sp [.ref a] H (fun v _ => v = .bl true) fun _ _ _ => False) :
    codeAny (model P w) callerA (.call (.ref fa) ⟨[.ref a], []⟩) (fun r s' => r = .ok (.ret (.bool true)) ∧ OldK s₁.heap s'.heap ∧ s'.os = s₁.os ∧ AllBare s'.gens) s₁ := by
  have rv := vals_ints hi
  have len := hi.length
  cases hk : K.lookup a with
  | some o =>
    have there := KX a o hk
    rw [ha] at there
    cases there
    have q : SqL K (fun _ => none) a (ns.map V.int) :=
      .inr ⟨_, vs.toArray, _, hk, rfl, rfl, rfl, by rw [List.size_toArray, len]; exact hl, by simpa using rv⟩
    exact law_atG (H := fun _ => none) KX G hb hbb hlim hg ⟨_, _, _, ha, rfl⟩ (fun _ => .inl rfl)
      (fun b u z => by cases (show (none : Option HO) = some u from z)) (fun b z => absurd rfl z) (fun z => absurd rfl z) room F bind (want _ (fun _ => .inl rfl) q)
  | none =>
    generalize ho : (HO.frz { cls := .type "list", data := .seq vs.toArray } (.lst (ns.map V.int))) = o
    have at_ : (fun b => if b = a then some o else none : Hp) a = some o := if_pos rfl
    have off : ∀ b, b ≠ a → (fun b => if b = a then some o else none : Hp) b = none := fun b h => if_neg h
    generalize (fun b => if b = a then some o else none : Hp) = H at at_ off
    have only : Only H := fun b => by
      by_cases h : b = a
      · rw [h, at_, ← ho]; exact .inr ⟨_, _, rfl⟩
      · exact .inl (off b h)
    have q : SqL K H a (ns.map V.int) := .inl (.inr ⟨{ cls := .type "list", data := .seq vs.toArray }, by rw [at_, ← ho]⟩)
    refine law_atG (H := H) KX G hb hbb hlim hg ⟨_, _, _, ha, rfl⟩ only (fun b u z => ?_) (fun b z => ?_) (fun _ => hk) room F bind (want H only q)
    · by_cases h : b = a
      · subst h
        rw [at_, ← ho] at z
        cases z
        exact ⟨ha, by rw [List.length_map]; exact hl, vs, _, rv, ha⟩
      · rw [off b h] at z; cases z
    · exact Classical.byContradiction fun h => z (off b h)
/-- a law over a head by facts -/
theorem walk_G {l : PySem.W.OpenLaw} {n k : Nat} {q : Program} {loose : List Str} {XP : (Str → Option Value) → Heap → Prop} {YP : World → Heap → Prop} {d : DefRec} {x : Str}
    (hn : l.most = some n) (hn2 : n ≤ sizeLine) (hdf : d.params.defaults = []) (room : Room k callerA)
    (F : ∀ (w : World) (mg : Str → Option Value) (fa : Addr) (h : Heap), YP w h → h.Ns mainGlobals mg → mg d.name = some (.ref fa) →
      ∃ (K : Fr) (fd : FuncData) (sp : Sp), K.In h ∧ (∀ (s : Shared) (u : Value), BindsTo s fd ⟨[u], []⟩ [(x, u)]) ∧
        (∀ (H : Hp) (a : Addr) (ns : List Int), ns.length ≤ n → Only H → SqL K H a (ns.map V.int) → sp [.ref a] H (fun v _ => v = .bl true) fun _ _ _ => False) ∧
        ∀ base : Heap, K.In base → base.Ns mainGlobals mg → FnG l.prog w K mg base k fa fd [x] sp) :
    PySem.W.WalkO q loose XP YP l.row.toRowW d [] (fun f vs => PySem.call f vs) := by
  refine Att.attach_call hn hdf ?_
  intro w s₀ s₁ mg mb fa o pm cd doc a vs ns G Y ho hd hcd hmg hobj hints hlen hg
  obtain ⟨K, fd, sp, KX, hb, hsp, hF⟩ := F w mg fa _ Y G.T.g hmg
  exact law_G KX G.T.g G.T.b G.T.builtins G.T.nolimit hg hobj hints (Nat.le_trans hlen hn2) room hF hb fun H hO hS => hsp H a ns hlen hO hS
end MP
namespace MP
open PySem L2 PySem.Spec PyProof.Rows
def oexB (K : Fr) (C : Addr) : Bool := (match K.lookup C with
  | some ⟨.type "type", _, .cls cd, sl⟩ => (match cd.mro, sl.toList with
    | .ref C' :: bm, [_, _, _, _, some (.builtin n), _] => C' == C && n == "ValueError.__new__" && !cd.hasDel && cd.hasDict && PySem.HandSPX.refsVE bm
    | _, _ => false)
  | _ => false) && decide (PySem.W.findIn K (.ref C) "__setattr__" = some (some (.builtin "object.__setattr__"))) && decide (PySem.W.subIn K (.ref C) (.type "BaseException") = some true) && decide (PySem.W.typeIn K (.ref C) = some (.type "type")) && PySem.W.keepIn K (.ref C)
theorem oexB_ok {K : Fr} {C : Addr} (h : oexB K C = true) : OexC K C := by
  unfold oexB at h
  obtain ⟨h, h5⟩ := Bool.and_eq_true_iff.mp h
  obtain ⟨h, h4⟩ := Bool.and_eq_true_iff.mp h
  obtain ⟨h, h3⟩ := Bool.and_eq_true_iff.mp h
  obtain ⟨h1, h2⟩ := Bool.and_eq_true_iff.mp h
  refine ⟨?_, of_decide_eq_true h2, of_decide_eq_true h3, of_decide_eq_true h4, h5⟩
  split at h1
  · rename_i dd cd sl ho
    split at h1
    · rename_i C' bm k0 k1 k2 k3 n k5 hm hs
      simp only [Bool.and_eq_true, beq_iff_eq, Bool.not_eq_true'] at h1
      obtain ⟨⟨⟨⟨rfl, rfl⟩, hdel⟩, hd⟩, hv⟩ := h1
      obtain ⟨nm, bs, mro, ns, qn, hd', sn, sub, ab, col, del⟩ := cd
      dsimp only at hm hdel hd
      subst hm hdel hd
      have e : sl = #[k0, k1, k2, k3, some (.builtin "ValueError.__new__"), k5] := by
        obtain ⟨l⟩ := sl
        simp only at hs
        rw [hs]
      subst e
      exact ⟨nm, qn, ns, bs, bm, sn, sub, ab, col, dd, k0, k1, k2, k3, k5, ho, hv⟩
    · cases h1
  · cases h1
def excB (K : Fr) (C : Addr) : Bool := xfB K C && decide (PySem.W.findIn K (.ref C) "__class__" = some (some (.builtin "object.__class__"))) && decide (PySem.W.specialIn K (.builtin "object.__class__") "__get__" = some (some (.builtin "getset_descriptor.__get__"))) &&
  decide (PySem.W.takesIn K (.builtin "object.__class__") = some true) && decide (PySem.W.mroIn K C (.type "object") = some true)
theorem excB_ok {K : Fr} {C : Addr} (h : excB K C = true) : ExcC K C ∧ XfC K C := by
  unfold excB at h
  obtain ⟨h, h5⟩ := Bool.and_eq_true_iff.mp h
  obtain ⟨h, h4⟩ := Bool.and_eq_true_iff.mp h
  obtain ⟨h, h3⟩ := Bool.and_eq_true_iff.mp h
  obtain ⟨h1, h2⟩ := Bool.and_eq_true_iff.mp h
  have x := xfB_ok h1
  exact ⟨⟨x.ga, x.gg, x.exC, x.hdC, of_decide_eq_true h2, of_decide_eq_true h3, of_decide_eq_true h4, of_decide_eq_true h5⟩, x⟩
/-- the classes of errors, by their names -/
def clAt (K : Fr) (L : List Cl) (c : Nat) : Addr := He.ga K ((L[c]?.map (·.name)).getD Str.empty)
def gOfL (K : Fr) (L : List Cl) : GC := ⟨clAt K L, fun c => (L[c]?.map (·.fld)).getD Str.empty⟩
def clB (K : Fr) (L : List Cl) (c : Nat) (cl : Cl) : Bool := He.eqO (PySem.W.nsIn K mainGlobals cl.name) (some (some (.ref (clAt K L c)))) && excB K (clAt K L c) && decide (PySem.W.findIn K (.ref (clAt K L c)) cl.fld = some none) &&
  (List.range L.length).all fun d => decide (PySem.W.exmOne K (.ref (clAt K L c)) (.ref (clAt K L d)) = some (cl.sup.contains d)) && decide (PySem.W.kitOne K (.ref (clAt K L c)) (.ref (clAt K L d)) = some (cl.sup.contains d))
def iniB (K : Fr) (L : List Cl) (c : Nat) (fI : Addr) : Bool := oexB K (clAt K L c) && decide (PySem.W.findIn K (.ref (clAt K L c)) "__init__" = some (some (.ref fI))) && decide (PySem.W.typeIn K (.ref fI) = some (.type "function"))
def allB (K : Fr) (L : List Cl) : Bool := (List.range L.length).all fun c => match L[c]? with
  | some cl => clB K L c cl && (match decide (cl.conv < 100000) with
    | true => iniB K L c (He.ma K (clAt K L c) "__init__")
    | false => true)
  | none => true
theorem all_range {n c : Nat} {f : Nat → Bool} (h : (List.range n).all f = true) (hc : c < n) : f c = true := List.all_eq_true.mp h c (List.mem_range.mpr hc)
theorem allB_cl {K : Fr} {L : List Cl} (h : allB K L = true) {c : Nat} {cl : Cl} (hc : L[c]? = some cl) : clB K L c cl = true ∧ (cl.conv < 100000 → iniB K L c (He.ma K (clAt K L c) "__init__") = true) := by
  have := all_range h (List.getElem?_eq_some_iff.mp hc).1
  rw [hc] at this
  obtain ⟨h1, h2⟩ := Bool.and_eq_true_iff.mp this
  refine ⟨h1, fun lt => ?_⟩
  rw [decide_eq_true lt] at h2
  exact h2
section
variable {K : Fr} {L : List Cl} {h : Heap} {mg : Str → Option Value}
theorem clE_of [Wd] (X : K.In h) (G : h.Ns mainGlobals mg) (q : allB K L = true) : ClE K mg (gOfL K L) L := by
  have parts : ∀ {c : Nat} {cl : Cl}, L[c]? = some cl → He.eqO (PySem.W.nsIn K mainGlobals cl.name) (some (some (.ref (clAt K L c)))) = true ∧ excB K (clAt K L c) = true ∧ PySem.W.findIn K (.ref (clAt K L c)) cl.fld = some none ∧
      ∀ d, d < L.length → PySem.W.exmOne K (.ref (clAt K L c)) (.ref (clAt K L d)) = some (cl.sup.contains d) ∧ PySem.W.kitOne K (.ref (clAt K L c)) (.ref (clAt K L d)) = some (cl.sup.contains d) := by
    intro c cl hc
    obtain ⟨q1, _⟩ := allB_cl q hc
    unfold clB at q1
    obtain ⟨q1, q5⟩ := Bool.and_eq_true_iff.mp q1
    obtain ⟨q1, q4⟩ := Bool.and_eq_true_iff.mp q1
    obtain ⟨q2, q3⟩ := Bool.and_eq_true_iff.mp q1
    refine ⟨q2, q3, of_decide_eq_true q4, fun d hd => ?_⟩
    obtain ⟨z1, z2⟩ := Bool.and_eq_true_iff.mp (all_range q5 hd)
    exact ⟨of_decide_eq_true z1, of_decide_eq_true z2⟩
  have lt : ∀ {d : Nat} {dl : Cl}, L[d]? = some dl → d < L.length := fun e => (List.getElem?_eq_some_iff.mp e).1
  refine ⟨fun c cl hc => PySem.W.mg_of X G (He.eqO_ok (parts hc).1), fun c cl hc => ?_, fun c cl hc => (excB_ok (parts hc).2.1).1, fun c cl hc => (excB_ok (parts hc).2.1).2, fun c cl hc => (parts hc).2.2.1, fun c d cl dl hc hd => ((parts hc).2.2.2 d (lt hd)).1, fun c d cl dl hc hd => ((parts hc).2.2.2 d (lt hd)).2⟩
  show (L[c]?.map (·.fld)).getD Str.empty = cl.fld
  rw [hc]; rfl
end
def obsM (fa : List He.Fa) (fn : List He.DefD) (L : List Cl) (K : Fr) : He.AlD := ((He.obsD fa fn K).1 && allB K L, (He.obsD fa fn K).2)
def SaysM (fa : List He.Fa) (fn : List He.DefD) (L : List Cl) (K : Fr) : Prop := obsM fa fn L K = He.valD fn
def obsMG (n : Nat) (fa : List He.Fa) (fn : List He.DefD) (L : List Cl) (g : Addr → Option Obj) : He.AlD := obsM fa fn L (He.frG g (He.asD g n))
def hookM (n : Nat) (fa : List He.Fa) (fn : List He.DefD) (L : List Cl) : PySem.W.Hook where
  α := He.AlD
  obs := fun s => obsMG n fa fn L s.heap.get?
  val := fun _ => He.valD fn
  says := fun _ h => ∃ K : Fr, K.In h ∧ SaysM fa fn L K
  of := fun _ _ e => ⟨_, He.frG_in, e⟩
  keeps := fun _ _ _ ⟨K, hK, c⟩ k => ⟨K, PySem.W.Frag.In.keeps hK k, c⟩
theorem obsMG_eq {n : Nat} {fa : List He.Fa} {fn : List He.DefD} {L : List Cl} {g : Addr → Option Obj} {s : Shared} (h : ∀ a, g a = s.heap.get? a) : obsMG n fa fn L g = (hookM n fa fn L).obs s := by
  have e : g = s.heap.get? := funext h
  rw [e] <;> rfl
theorem SaysM.both {fa : List He.Fa} {fn : List He.DefD} {L : List Cl} {K : Fr} (c : SaysM fa fn L K) : He.SaysD fa fn K ∧ allB K L = true := by
  have c' : obsM fa fn L K = He.valD fn := c
  have e1 : ((He.obsD fa fn K).1 && allB K L) = true := congrArg (fun z : He.AlD => z.1) c'
  have e2 : (obsM fa fn L K).2 = (He.valD fn).2 := congrArg (fun z : He.AlD => z.2) c'
  obtain ⟨h1, h2⟩ := Bool.and_eq_true_iff.mp e1
  exact ⟨Prod.ext h1 e2, h2⟩
end MP
namespace MP
open PySem L2 PySem.Spec PyProof.Rows
def drB : Bs := (.cons (.exp (.mth .append (.var 1) (.cons (.bin .mod (.var 3) (.cst (.int (.ofNat 48)))) .nil))) (.cons (.asg 3 (.bin .fdiv (.var 3) (.cst (.int (.ofNat 48))))) (.cons (.ite (.cmp .eq (.var 3) (.cst (.int (.ofNat 0)))) (.cons .brk .nil) .nil) .nil)))
def drIn : Bs := (.cons (.asg 3 (.bin .mod (.blt .int (.cons (.var 2) .nil)) (.bin .pow (.cst (.int (.ofNat 48))) (.cst (.int (.ofNat 20)))))) (.cons (.forR (.v 4) (.cons (.cst (.int (.ofNat 20))) .nil) drB) .nil))
def drOut : Bs := (.cons (.ret (.lst (.cons (.var 1) (.cons (.cst (.int (.ofNat 0))) .nil)))) .nil)
def drFst : St := .asg 1 (.lst .nil)
theorem ble_no {a b : Nat} (h : ¬ a ≤ b) : Nat.ble a b = false := by
  rw [Bool.eq_false_iff]; intro z; exact h (Nat.le_of_ble_eq_true z)
theorem r20 : rangeOf [.int (.ofNat 20)] = some (.rng (.ofNat 0) (.ofNat 1) 20) := rfl
theorem sFor_some (w : Wk) (t : Tg) (b : Sr) (e : Ev) (h : Hv) : sFor (some w) t b e h = loopF w t b fuelW 0 e h := by unfold sFor; rfl
theorem fuel_pos : 100000 < fuelW := by unfold fuelW; decide
section
variable (C : List PV) (L : List Cl) (cf cf2 : Nat → List PV → Hv → R PV)
theorem drB_eq (c x4 : Option PV) (r : Int) (xs : List PV) (hz : xs.length < 10000000) : execs C L cf cf2 drB [none, some (.loc 0), c, some (.int r), x4] [.lst xs] =
    if r / 48 = 0 then .bk [none, some (.loc 0), c, some (.int (r / 48)), x4] [.lst (xs ++ [.int (r % 48)])] else .nx [none, some (.loc 0), c, some (.int (r / 48)), x4] [.lst (xs ++ [.int (r % 48)])] := by
  have s1 : execs C L cf cf2 drB = sCons (sExp (cMth .append (cVar 1) (cCons (cBin .mod (cVar 3) (cCst (.int (.ofNat 48)))) cNil))) (sCons (sAsg 3 (cBin .fdiv (cVar 3) (cCst (.int (.ofNat 48))))) (sCons (sIte (cCmp .eq (cVar 3) (cCst (.int (.ofNat 0)))) (sCons sBrk sNil) sNil) sNil)) := rfl
  have a1 : cBin .mod (cVar 3) (cCst (.int (.ofNat 48))) [none, some (.loc 0), c, some (.int r), x4] [.lst xs] = .ok (.int (r % 48)) [.lst xs] := by
    show modI r (.ofNat 48) (fun k => (R.ok (PV.int k) [HV.lst xs] : R PV)) = _
    rw [modI_eq]; rfl
  have a2 : ∀ h, cBin .fdiv (cVar 3) (cCst (.int (.ofNat 48))) [none, some (.loc 0), c, some (.int r), x4] h = .ok (.int (r / 48)) h := by
    intro h
    show lenLe (ltI (.ofNat 0) (.ofNat 48) && Nat.ble (Nat.succ (Int.natAbs (.ofNat 48))) (p2 9000)) (divI r (.ofNat 48) (fun k => (R.ok (PV.int k) h : R PV))) = _
    rw [show (ltI (.ofNat 0) (.ofNat 48) && Nat.ble (Nat.succ (Int.natAbs (.ofNat 48))) (p2 9000)) = true by decide +kernel]
    show divI r (.ofNat 48) (fun k => (R.ok (PV.int k) h : R PV)) = _
    rw [divI_eq]; rfl
  have a3 : sExp (cMth .append (cVar 1) (cCons (cBin .mod (cVar 3) (cCst (.int (.ofNat 48)))) cNil)) [none, some (.loc 0), c, some (.int r), x4] [.lst xs] = .nx [none, some (.loc 0), c, some (.int r), x4] [.lst (xs ++ [.int (r % 48)])] := by
    show (((cBin .mod (cVar 3) (cCst (.int (.ofNat 48))) [none, some (.loc 0), c, some (.int r), x4] [.lst xs]).bind fun x h1 => (R.ok [x] h1 : R (List PV))).bind fun vs h2 => mthF .append (.loc 0) vs h2).done _ (fun _ h1 => SR.nx _ h1) = _
    rw [a1]
    show (lenLe (Nat.ble (Nat.succ xs.length) big) (R.ok PV.non [HV.lst (xs ++ [.int (r % 48)])] : R PV)).done _ _ = _
    rw [show Nat.ble (Nat.succ xs.length) big = true from Nat.ble_eq_true_of_le hz]
    rfl
  have a4 : ∀ h, sAsg 3 (cBin .fdiv (cVar 3) (cCst (.int (.ofNat 48)))) [none, some (.loc 0), c, some (.int r), x4] h = .nx [none, some (.loc 0), c, some (.int (r / 48)), x4] h := by
    intro h
    show (cBin .fdiv (cVar 3) (cCst (.int (.ofNat 48))) [none, some (.loc 0), c, some (.int r), x4] h).done _ _ = _
    rw [a2]; rfl
  have a5 : ∀ h, sIte (cCmp .eq (cVar 3) (cCst (.int (.ofNat 0)))) (sCons sBrk sNil) sNil [none, some (.loc 0), c, some (.int (r / 48)), x4] h = if r / 48 = 0 then .bk [none, some (.loc 0), c, some (.int (r / 48)), x4] h else .nx [none, some (.loc 0), c, some (.int (r / 48)), x4] h := by
    intro h
    show cBs (.bl (eqI (r / 48) (.ofNat 0))) (.bk _ h) (.nx _ h) = _
    rw [eqI_eq]
    by_cases z : r / 48 = 0
    · rw [if_pos z, show decide (r / 48 = Int.ofNat 0) = true from decide_eq_true z]; rfl
    · rw [if_neg z, show decide (r / 48 = Int.ofNat 0) = false from decide_eq_false z]; rfl
  rw [s1]
  show then_ (sCons _ (sCons _ sNil)) (sExp _ _ _) = _
  rw [a3]
  show then_ (sCons _ sNil) (sAsg _ _ _ _) = _
  rw [a4]
  show then_ sNil (sIte _ _ _ _ _) = _
  rw [a5]
  by_cases z : r / 48 = 0
  · rw [if_pos z]; rfl
  · rw [if_neg z]; rfl
theorem dr_loop (c : Option PV) : ∀ (k i m : Nat) (r : Int) (x4 : Option PV) (figs : List Int), k = 20 - i → k < m → figs.length + k < 10000000 →
    ∃ more r' y4, loopF (.rng (.ofNat 0) (.ofNat 1) 20) (.v 4) (execs C L cf cf2 drB) m i [none, some (.loc 0), c, some (.int r), x4] [.lst (figs.map .int)] = .nx [none, some (.loc 0), c, some (.int r'), y4] [.lst ((figs ++ more).map .int)] ∧ more.length ≤ k ∧ ∀ f ∈ more, 0 ≤ f ∧ f < 48 := by
  intro k
  induction k with
  | zero =>
    intro i m r x4 figs hk hm hz
    obtain ⟨m, rfl⟩ : ∃ m', m = m' + 1 := ⟨m - 1, by omega⟩
    refine ⟨[], r, x4, ?_, Nat.le_refl _, fun f z => by cases z⟩
    show lF (.v 4) _ _ _ _ (atRng (.ofNat 0) (.ofNat 1) i (Nat.ble (Nat.succ i) 20)) = _
    rw [ble_no (show ¬ Nat.succ i ≤ 20 by omega), List.append_nil]; rfl
  | succ k ih =>
    intro i m r x4 figs hk hm hz
    obtain ⟨m, rfl⟩ : ∃ m', m = m' + 1 := ⟨m - 1, by omega⟩
    have st : loopF (.rng (.ofNat 0) (.ofNat 1) 20) (.v 4) (execs C L cf cf2 drB) (m + 1) i [none, some (.loc 0), c, some (.int r), x4] [.lst (figs.map .int)] =
        after (loopF (.rng (.ofNat 0) (.ofNat 1) 20) (.v 4) (execs C L cf cf2 drB) m (i + 1)) (execs C L cf cf2 drB [none, some (.loc 0), c, some (.int r), some (.int ((.ofNat 0) + (.ofNat 1) * (.ofNat i)))] [.lst (figs.map .int)]) := by
      show lF (.v 4) _ _ _ _ (atRng (.ofNat 0) (.ofNat 1) i (Nat.ble (Nat.succ i) 20)) = _
      rw [show Nat.ble (Nat.succ i) 20 = true from Nat.ble_eq_true_of_le (by omega)]
      show lF (.v 4) _ _ _ _ (mulI (.ofNat 1) (.ofNat i) fun k => addI (.ofNat 0) k fun m => some (some (PV.int m))) = _
      rw [mulI_eq, addI_eq]; rfl
    rw [st, drB_eq _ _ _ _ _ _ _ _ (by rw [List.length_map]; omega)]
    have e1 : (figs.map PV.int) ++ [.int (r % 48)] = (figs ++ [r % 48]).map PV.int := by simp
    have rng : 0 ≤ r % 48 ∧ r % 48 < 48 := ⟨Int.emod_nonneg _ (by decide), Int.emod_lt_of_pos _ (by decide)⟩
    rw [e1]
    by_cases z : r / 48 = 0
    · rw [if_pos z]
      refine ⟨[r % 48], _, _, rfl, by simp, fun f hf => ?_⟩
      rw [List.mem_singleton] at hf; rw [hf]; exact rng
    · rw [if_neg z]
      obtain ⟨more, r', y4, e, l, q⟩ := ih (i + 1) m (r / 48) (some (.int ((.ofNat 0) + (.ofNat 1) * (.ofNat i)))) (figs ++ [r % 48]) (by omega) (by omega) (by rw [List.length_append, List.length_singleton]; omega)
      refine ⟨(r % 48) :: more, r', y4, ?_, by rw [List.length_cons]; omega, fun f hf => ?_⟩
      · show loopF _ _ _ _ _ _ _ = _
        rw [e]
        simp
      · rcases List.mem_cons.mp hf with rfl | hf
        · exact rng
        · exact q f hf
theorem dr_in (n : Int) (x3 x4 : Option PV) (figs : List Int) (hz : figs.length + 20 < 10000000) :
    ∃ more r' y4, execs C L cf cf2 drIn [none, some (.loc 0), some (.int n), x3, x4] [.lst (figs.map .int)] = .nx [none, some (.loc 0), some (.int n), some (.int r'), y4] [.lst ((figs ++ more).map .int)] ∧ more.length ≤ 20 ∧ ∀ f ∈ more, 0 ≤ f ∧ f < 48 := by
  have s1 : execs C L cf cf2 drIn = sCons (sAsg 3 (cBin .mod (cBlt .int (cCons (cVar 2) cNil)) (cBin .pow (cCst (.int (.ofNat 48))) (cCst (.int (.ofNat 20)))))) (sCons (sForR (.v 4) (cCons (cCst (.int (.ofNat 20))) cNil) (execs C L cf cf2 drB)) sNil) := rfl
  have a1 : ∀ h, sAsg 3 (cBin .mod (cBlt .int (cCons (cVar 2) cNil)) (cBin .pow (cCst (.int (.ofNat 48))) (cCst (.int (.ofNat 20))))) [none, some (.loc 0), some (.int n), x3, x4] h = .nx [none, some (.loc 0), some (.int n), some (.int (n % 48 ^ 20)), x4] h := by
    intro h
    have p : cBin .pow (cCst (.int (.ofNat 48))) (cCst (.int (.ofNat 20))) [none, some (.loc 0), some (.int n), x3, x4] h = .ok (.int (48 ^ 20)) h := by
      show lenLe (leI (.ofNat 0) (.ofNat 20) && leI (.ofNat 20) (.ofNat 1000000) && Nat.ble (Nat.succ (Int.ofNat 48).natAbs) 18446744073709551616) (forceI (Int.ofNat 48 ^ (Int.ofNat 20).toNat) fun k => (R.ok (PV.int k) h : R PV)) = _
      rw [forceI_eq]; rfl
    show (((R.ok (PV.int n) h : R PV).bind fun x h1 => (cBin .pow (cCst (.int (.ofNat 48))) (cCst (.int (.ofNat 20))) [none, some (.loc 0), some (.int n), x3, x4] h1).bind fun y h2 => binop .mod x y h2)).done _ _ = _
    rw [bind_ok, p]
    show (lenLe (ltI (.ofNat 0) (48 ^ 20)) (modI n (48 ^ 20) fun k => (R.ok (PV.int k) h : R PV))).done _ _ = _
    rw [modI_eq, ltI_eq, decide_eq_true (by decide)]; rfl
  obtain ⟨more, r', y4, e, l, q⟩ := dr_loop C L cf cf2 (some (.int n)) 20 0 fuelW (n % 48 ^ 20) x4 figs rfl (by have := fuel_pos; omega) hz
  refine ⟨more, r', y4, ?_, l, q⟩
  rw [s1]
  show then_ (sCons _ sNil) (sAsg _ _ _ _) = _
  rw [a1]
  show then_ sNil (sForR _ _ _ _ _) = _
  have w : ∀ e h, sForR (.v 4) (cCons (cCst (.int (.ofNat 20))) cNil) (execs C L cf cf2 drB) e h = sFor (rangeOf [.int (.ofNat 20)]) (.v 4) (execs C L cf cf2 drB) e h := fun e h => by unfold sForR; rfl
  rw [w, r20, sFor_some, e]; rfl
end
end MP
namespace MP
open PySem L2 PySem.Spec PyProof.Rows
variable [Wd]
def drN : List Str := ["script", "figures", "cell", "rest", "turn"]
def ckDr (T : List Fn) (cn : List Str) (L : List Cl) (sc : Scope) (body : List Stmt) : Bool := match body with
  | [.Assign [.Name y _] (.List [] _) _, .For t (.Subscript (.Call (.Name f _) [.Name x _] [] _) (.Slice none (some (.Constant (.int k) _ _)) none _) _) b [] _, s3] =>
    isAt drN 1 y && loc_ sc y && ckTg drN sc (.v 2) t && decide (f = ("list" : Str)) && gl sc f && isAt drN 0 x && vis sc x && !dbg x && !decide (x = ("__classdict__" : Str)) && decide (k = 60) && ckB drN T cn L sc drIn b && ckB drN T cn L sc drOut [s3]
  | _ => false
def spDr (K : Fr) : Sp := fun vs H Q _ => ∃ (a : Addr) (ns : List Int), vs = [.ref a] ∧ SqL K H a (ns.map V.int) ∧ ns.length ≤ 1000 ∧
  ∀ μ' H' x (figs : List Int), Ext [] H μ' H' → Rel K μ' [.lst (figs.map .int), .lst [.loc 0, .int (.ofNat 0)]] H' → Rep K H' μ' (.loc 1) x → figs.length ≤ 2000 → (∀ f ∈ figs, 0 ≤ f ∧ f < 48) → Q x H'
section
variable {P : Program} {w : World} {K : Fr} {mg : Str → Option Value} {base : Heap} {g : GC} {T : List Fn} {cn : List Str} {C : List PV} {L : List Cl}
theorem sc_of {N ps : List Str} {qual : Str} {scope : Scope} {f : Addr} {cdv : Value} {A : Around} {outer : List Env} {s : Shared} {H : Hp} {E : XK} {k : Nat} (sd : Side w mg cn C) (ce : ClE K mg g L) (cr : ∀ (c : Nat) (cl : Cl), L[c]? = some cl → cl.conv < T.length → ClRow K g T c cl)
    (gfA : ∀ k, Gf P w K mg base g T k (MP.run C L T k)) (S : FnScope N ps scope) (room : Room k (A.deeper (envOfC qual scope s.heap.objs.size f cdv))) (gd : A.guards = some []) :
    Sc (cxOf (L2.CX P w) P w K mg base N qual scope f cdv A outer s H E) g (fun cls d _ H' => E cls d H') N T cn C k (MP.run C L T k) (runP C L T k).2.2 scope L := by
  have tk : Takes (cxOf (L2.CX P w) P w K mg base N qual scope f cdv A outer s H E) (fun cls d _ H' => E cls d H') := takes_of rfl rfl rfl rfl
  refine ⟨ct_of (outer := outer) (H := H) (E := E) sd S room gd (gfA k) tk, S.kind, rfl, rfl, passes_of (K := fun e s'' => L2.CX P w outer H s E e s'') (E₁ := fun e' s'' => L2.CX P w outer H s E e' s'') rfl, fun x hx => ?_, ce, fun c cl hcl hT => ?_⟩
  · rcases hx with hx | hx
    · exact ⟨.inl hx, .inr hx⟩
    · exact ⟨.inr hx, .inl rfl⟩
  · obtain ⟨oex, fI, fd2, slf, arg, qual2, params2, body2, scope2, kws2, i1, i2, i3, i4, i5, i6⟩ := cr c cl hcl hT
    refine ⟨oex, ?_⟩
    match k with
    | 0 => exact .inl fun _ _ => rfl
    | 1 => exact .inl fun _ _ => rfl
    | j + 2 => exact .inr ⟨j + 1, fI, fd2, _, Nat.le_refl _, i1, i2, init_ok sd ce hcl (gfA j) oex i3 i4 i6, i5⟩
theorem sql_keep {H H' : Hp} {a : Addr} {xs : List V} (k : ∀ b o, H b = some o → H' b = some o) (q : SqL K H a xs) : SqL K H' a xs := by
  rcases q with (q | ⟨o, q⟩) | q
  · exact .inl (.inl (k a _ q))
  · exact .inl (.inr ⟨o, k a _ q⟩)
  · exact .inr q
/-- what the loop keeps -/
def DrI (K : Fr) (H0 : Hp) (p : Addr) (ys : List V) (i : Nat) (σ : L2.St) (H : Hp) : Prop := ∃ (μ : List Addr) (c r t : Option PV) (figs : List Int), Stt K μ [none, some (.loc 0), c, r, t] [.lst (figs.map PV.int)] σ H ∧ Ext [] H0 μ H ∧ H p = some (.lst ys) ∧ p ∉ μ ∧ figs.length ≤ 20 * i ∧ ∀ f ∈ figs, 0 ≤ f ∧ f < 48
theorem dr_fn {fa : Addr} {fd : FuncData} {nm qual : Str} {params : Arguments} {body : List Stmt} {scope : Scope} {dvs : List V} {kws : List (Str × V)} {k : Nat} (sd : Side w mg cn C) (ce : ClE K mg g L) (cr : ∀ (c : Nat) (cl : Cl), L[c]? = some cl → cl.conv < T.length → ClRow K g T c cl)
    (gfA : ∀ k, Gf P w K mg base g T k (MP.run C L T k)) (F : FunD K nm qual params body scope dvs kws fa fd) (S : FnScope drN ["script"] scope) (h : ckDr T cn L scope body = true) : FnG P w K mg base (k + 1) fa fd ["script"] (spDr K) := by
  refine fnG F S (by rintro vs H Q E ⟨a, ns, rfl, _⟩; rfl) ?_
  intro cdv A outer s H vs Q E room gd sp
  have St := sc_of (outer := outer) (H := H) (E := E) sd ce cr gfA S room gd
  unfold ckDr at h
  split at h
  · rename_i y p1 p2 p3 t f p4 x p5 p6 kc j p7 p8 p9 b p10 s3
    obtain ⟨h, h12⟩ := and2 h
    obtain ⟨h, h11⟩ := and2 h
    obtain ⟨h, h10⟩ := and2 h
    obtain ⟨h, h9⟩ := and2 h
    obtain ⟨h, h8⟩ := and2 h
    obtain ⟨h, h7⟩ := and2 h
    obtain ⟨h, h6⟩ := and2 h
    obtain ⟨h, h5⟩ := and2 h
    obtain ⟨h, h4⟩ := and2 h
    obtain ⟨h, h3⟩ := and2 h
    obtain ⟨h1, h2⟩ := and2 h
    have e4 := of_decide_eq_true h4
    subst e4
    have e10 := of_decide_eq_true h10
    subst e10
    have h9' : decide (x = ("__classdict__" : Str)) = false := by simpa using h9
    generalize hX : cxOf (L2.CX P w) P w K mg base drN qual scope fa cdv A outer s H E = X at St ⊢
    have hK : X.K = K := by rw [← hX]; rfl
    have he : PE X (.List [] p2) (TI g X.K (fun cls d _ H' => E cls d H') (cLst cNil)) := e_lst l_nil (fun e h vs h' q => by cases q; exact Nat.zero_le _)
    have st1 := ps_set (pos := p3) (pos' := p1) (by rw [St.ct.hN]; exact St.ct.nd) (by rw [St.ct.hN]; exact of_decide_eq_true h1) (St.lc y (loc_of h2)).1 he rfl (St.lc y (loc_of h2)).2
    have scr := pe_var (X := X) (pos := p5) (i := 0) (x := x) (by rw [St.ct.hN]; exact of_decide_eq_true h6) (by rw [St.ct.hsc]; exact vis_ok h7) (not_dbg h8) (beq_eq_false_iff_ne.mpr (of_decide_eq_false h9'))
    have lst := pe_callTy (X := X) (pos := p6) (p := p4) (call_list_of (X := X)) (St.ct.gl h5) (St.ct.bl _ (by decide)) (by decide +kernel) (pa_cons scr pa_nil) (by decide) (by decide) rfl rfl
    have it := pe_slice (X := X) (pos := p9) (p2 := p8) (sl_list (X := X)) lst po_none (po_some (pe_int (X := X) (i := 60) (j := j) (pos := p7)))
    have st2 := ps_for (pos := p10) St.po St.ct.calm (pi_list (tg := t) it) (tgt_ok St h3) (sndB dr drIn St h11) (fun _ => rfl)
    have st3 := sndB dr drOut St h12
    refine ⟨_, pss_cons st1 (pss_cons st2 st3), ?_⟩
    obtain ⟨a, ns, rfl, hS, hn, k0⟩ := sp
    rw [← hK] at hS k0
    -- figures = []
    have s0 : Stt X.K [] [none, none, none, none, none] [] (L2.start drN [.ref a]) H := ⟨⟨rfl, fun i v e => by
      match i, e with
      | 0, e => cases e
      | 1, e => cases e
      | 2, e => cases e
      | 3, e => cases e
      | 4, e => cases e
      | n + 5, e => simp at e⟩, Rel.none⟩
    refine ⟨[], [none, none, none, none, none], [], s0, ?_⟩
    show PR g X.K (RepR X.K) _ _ _ [] H (.ok (.loc 0) [.lst []])
    rintro μ1 H1 x1 e1 r1 q1
    have s1 : Stt X.K μ1 [none, some (.loc 0), none, none, none] [.lst []] ((L2.start drN [.ref a]).set 1 (some x1)) H1 := (s0.ext e1 r1).set (i := 1) q1
    -- the walk
    refine ⟨.ref a, rfl, a, ns.map V.int, rfl, .inl (sql_keep (fun b o e => e1.kp b o e (by simp)) hS), ?_⟩
    intro l hl
    refine ⟨60, rfl, l, ns.map V.int, rfl, SqL.of upd_same, fun p hp => ⟨p, rfl, ⟨_, SqL.of upd_same⟩, ?_⟩⟩
    have ysl : (cutV (ns.map V.int) none (some 60)).length ≤ 60 := by
      unfold cutV
      rw [List.length_take]
      have : HT.sIx (ns.map V.int).length (ns.map V.int).length (some 60) ≤ 60 := by
        unfold HT.sIx
        dsimp only
        rw [if_neg (by decide)]
        exact Nat.min_le_left 60 _
      omega
    have ysi : ∀ (i : Nat) (v : V), (cutV (ns.map V.int) none (some 60))[i]? = some v → ∃ n, v = .int n := by
      intro i v e
      have m : v ∈ ns.map V.int := List.mem_of_mem_drop (List.mem_of_mem_take (List.mem_of_getElem? e))
      obtain ⟨n, _, e⟩ := List.mem_map.mp m
      exact ⟨n, e.symm⟩
    generalize cutV (ns.map V.int) none (some 60) = ys at ysl ysi ⊢
    have r2 : Rel X.K μ1 [.lst []] (upd H1 l (.lst (ns.map V.int))) := r1.newTup hl
    have x2 : Ext μ1 H1 μ1 (upd H1 l (.lst (ns.map V.int))) := Ext.newTup hl
    have x3 : Ext μ1 (upd H1 l (.lst (ns.map V.int))) μ1 (upd (upd H1 l (.lst (ns.map V.int))) p (.lst ys)) := Ext.newTup hp
    have s3 := (s1.ext x2 r2).ext x3 (r2.newTup hp)
    refine ⟨fun i m σ' H' => m + i = ys.length ∧ DrI X.K H p ys i σ' H', ⟨ys.length, rfl, μ1, none, none, none, [], s3, e1.trans (x2.trans x3), upd_same, r2.fresh hp, Nat.zero_le _, fun f z => by cases z⟩, ?_⟩
    rintro i m σ' H' ⟨hm, μ, c, r, t', figs, st, xx, hp', nm', hl', hr⟩
    by_cases hi : i < ys.length
    · refine .inr ⟨⟨ys, ys[i], SqL.of hp', List.getElem?_eq_getElem hi⟩, fun σ2 H2 => DrI X.K H p ys (i + 1) σ2 H2, fun σ2 H2 z => ⟨m - 1, by omega, by omega, z⟩, ?_⟩
      rintro v H2 ⟨rfl, q⟩
      obtain ⟨n, rfl⟩ := ysi i v (q ys (SqL.of hp'))
      obtain ⟨more, r', y4, ee, l1, q2⟩ := dr_in C L (MP.run C L T k) (runP C L T k).2.2 n r t' figs (by omega)
      refine ⟨μ, [none, some (.loc 0), some (.int n), r, t'], _, st.set (i := 2) (.int n), ?_⟩
      rw [ee]
      intro μ' H3 σ2 x4 st2
      refine ⟨μ', some (.int n), some (.int r'), y4, figs ++ more, st2, xx.trans x4, x4.kp p _ hp' nm', fun mm => ?_, by rw [List.length_append]; omega, fun f hf => ?_⟩
      · have := x4.new p mm nm'
        rw [hp'] at this; cases this
      · rcases List.mem_append.mp hf with z | z
        · exact hr f z
        · exact q2 f z
    · refine .inl ⟨⟨ys, SqL.of hp', by omega⟩, μ, _, _, st, ?_⟩
      show PS_ g X.K _ _ μ H' (.rt (.loc 1) [.lst (figs.map PV.int), .lst [.loc 0, .int (.ofNat 0)]])
      exact fun μ' H2 x x4 r4 q4 => k0 μ' H2 x figs (xx.trans x4) r4 q4 (by omega) hr
  · cases h
end
end MP
namespace MP
open PySem L2 PySem.Spec PyProof.Rows
/-- statements that all go on -/
def nxOnly (k : Ev → Hv → Option (Ev × Hv)) (r : SR) : Option (Ev × Hv) := match r with
  | .nx e h => k e h
  | _ => none
noncomputable def runsP (C : List PV) (L : List Cl) (cf cf2 : Nat → List PV → Hv → R PV) : List St → Ev → Hv → Option (Ev × Hv)
  | [] => fun e h => some (e, h)
  | s :: r => fun e h => nxOnly (runsP C L cf cf2 r) (exec C L cf cf2 s e h)
variable [Wd]
def chain (g : GC) (K : Fr) (W : WX) (C : List PV) (L : List Cl) (cf cf2 : Nat → List PV → Hv → R PV) (S : Bs) : List St → TS
  | [] => TS_ g K W (execs C L cf cf2 S)
  | s :: r => tSeq (TS_ g K W (exec C L cf cf2 s)) (chain g K W C L cf cf2 S r)
def ckP (N : List Str) (T : List Fn) (cn : List Str) (L : List Cl) (sc : Scope) (S : Bs) : List St → List Stmt → Bool
  | [], l => ckB N T cn L sc S l
  | s :: r, l => (match l with
    | [] => false
    | t :: l => ckS N T cn L sc s t && ckP N T cn L sc S r l)
section
variable {g : GC} {N : List Str} {T : List Fn} {cn : List Str} {C : List PV} {k : Nat} {cf cf2 : Nat → List PV → Hv → R PV} {sc : Scope} {L : List Cl} {X : Cx} {W : WX} {S : Bs}
theorem chain_ok (Z : Sc X g W N T cn C k cf cf2 sc L) : ∀ {p : List St} {l : List Stmt}, ckP N T cn L sc S p l = true → PSs X l (chain g X.K W C L cf cf2 S p)
  | [], l, h => sndB dr S Z h
  | s :: r, [], h => (Bool.false_ne_true h).elim
  | s :: r, t :: l, h => by
    obtain ⟨h1, h2⟩ := and2 (show (ckS N T cn L sc s t && ckP N T cn L sc S r l) = true from h)
    exact pss_cons (sndS dr s Z h1) (chain_ok Z h2)
theorem chain_go {K : Fr} {D : Ends} : ∀ {p : List St} {e e' : Ev} {h h' h2 : Hv} {μ : List Addr} {σ : L2.St} {H : Hp} {v : PV}, Stt K μ e h σ H → runsP C L cf cf2 p e h = some (e', h') → execs C L cf cf2 S (pureE e') [] = .rt v h2 → v.pure = true →
    (∀ H' x, Rep K H' [] v x → D.rt x H') → chain g K W C L cf cf2 S p D σ H
  | [], e, e', h, h', h2, μ, σ, H, v, s, r, q, hv, k => by
    cases r
    refine ⟨[], pureE e, [], s.purify, ?_⟩
    rw [q]
    exact fun μ' H' x _ _ q' => k H' x (q'.pure_any hv)
  | st :: rest, e, e', h, h', h2, μ, σ, H, v, s, r, q, hv, k => by
    have r' : nxOnly (runsP C L cf cf2 rest) (exec C L cf cf2 st e h) = some (e', h') := r
    refine ⟨μ, e, h, s, ?_⟩
    cases z : exec C L cf cf2 st e h with
    | nx e1 h1 =>
      rw [z] at r'
      exact fun μ' H' σ' _ s' => chain_go s' r' q hv k
    | rt _ _ => rw [z] at r'; cases r'
    | bk _ _ => rw [z] at r'; cases r'
    | ct _ _ => rw [z] at r'; cases r'
    | exc _ _ _ _ => rw [z] at r'; cases r'
    | bad => rw [z] at r'; cases r'
end
def ckLaw (N : List Str) (T : List Fn) (cn : List Str) (L : List Cl) (sc : Scope) (p : List St) (S : Bs) (body : List Stmt) : Bool := match body with
  | .Assign [.Name y _] (.Call (.Name f _) [.Name x _] [] _) _ :: rest => isAt N 1 y && loc_ sc y && decide (f = ("_law_draws" : Str)) && gl sc f && isAt N 0 x && vis sc x && !dbg x && !decide (x = ("__classdict__" : Str)) && ckP N T cn L sc S p rest
  | _ => false
def spLaw (K : Fr) : Sp := fun vs H Q _ => ∃ (a : Addr) (ns : List Int), vs = [.ref a] ∧ SqL K H a (ns.map V.int) ∧ ns.length ≤ 1000 ∧ ∀ H', Q (.bl true) H'
section
variable {P : Program} {w : World} {K : Fr} {mg : Str → Option Value} {base : Heap} {g : GC} {T : List Fn} {cn : List Str} {C : List PV} {L : List Cl}
/-- the slots at the law's entry, its draws made -/
def lawE (n : Nat) : Ev := none :: some (.loc 1) :: List.replicate (n - 2) none
theorem law_fn {fa da : Addr} {fd dd : FuncData} {nm qual : Str} {params : Arguments} {body : List Stmt} {scope : Scope} {dvs : List V} {kws : List (Str × V)} {N : List Str} {k : Nat} {p : List St} {S : Bs} (sd : Side w mg cn C) (ce : ClE K mg g L)
    (cr : ∀ (c : Nat) (cl : Cl), L[c]? = some cl → cl.conv < T.length → ClRow K g T c cl) (gfA : ∀ k, Gf P w K mg base g T k (MP.run C L T k)) (F : FunD K nm qual params body scope dvs kws fa fd) (Sc0 : FnScope N ["script"] scope) (hN : 2 ≤ N.length)
    (D : FnG P w K mg base (k + 1) da dd ["script"] (spDr K)) (dm : mg "_law_draws" = some (.ref da)) (dk : PySem.W.keepIn K (.ref da) = true) (db : L2.Binds K dd ["script"] []) (h : ckLaw N T cn L scope p S body = true)
    (pl : ∀ figs : List Int, figs.length ≤ 2000 → (∀ f ∈ figs, 0 ≤ f ∧ f < 48) → ∃ e' h' h2, runsP C L (MP.run C L T (k + 1)) (runP C L T (k + 1)).2.2 p (lawE N.length) [.lst (figs.map .int), .lst [.loc 0, .int (.ofNat 0)]] = some (e', h') ∧
      execs C L (MP.run C L T (k + 1)) (runP C L T (k + 1)).2.2 S (pureE e') [] = .rt (.bl true) h2) : FnG P w K mg base (k + 2) fa fd ["script"] (spLaw K) := by
  refine fnG F Sc0 (by rintro vs H Q E ⟨a, ns, rfl, _⟩; rfl) ?_
  intro cdv A outer s H vs Q E room gd sp
  have St := sc_of (outer := outer) (H := H) (E := E) sd ce cr gfA Sc0 room gd
  unfold ckLaw at h
  split at h
  · rename_i y p1 f p2 x p3 p4 p5 rest
    obtain ⟨h, h9⟩ := and2 h
    obtain ⟨h, h8⟩ := and2 h
    obtain ⟨h, h7⟩ := and2 h
    obtain ⟨h, h6⟩ := and2 h
    obtain ⟨h, h5⟩ := and2 h
    obtain ⟨h, h4⟩ := and2 h
    obtain ⟨h, h3⟩ := and2 h
    obtain ⟨h1, h2⟩ := and2 h
    have e3 := of_decide_eq_true h3
    subst e3
    have h8' : decide (x = ("__classdict__" : Str)) = false := by simpa using h8
    generalize hX : cxOf (L2.CX P w) P w K mg base N qual scope fa cdv A outer s H E = X at St ⊢
    have scr := pe_var (X := X) (pos := p3) (i := 0) (x := x) (by rw [St.ct.hN]; exact of_decide_eq_true h5) (by rw [St.ct.hsc]; exact vis_ok h6) (not_dbg h7) (beq_eq_false_iff_ne.mpr (of_decide_eq_false h8'))
    have call : PE X (.Call (.Name "_law_draws" p2) [.Name x p3] [] p4) (fun σ H Q => ∃ v, σ[0]? = some (some v) ∧ spDr K [v] H Q fun cls d H' => E cls d H') := by
      refine ⟨fun pins s σ H Q I t => ?_⟩
      obtain ⟨v, hv, sp⟩ := t
      refine wpAny_Call_Name_kw (ld_glob I (St.ct.gl h4) (by rw [← hX]; exact dm) ?_ (by decide))
      refine PySem.W.callWith_K (h₀ := X.base) I.ok.mod.kin (by rw [← hX]; exact dk) ?_ rfl rfl
      have pa := pa_cons (X := X) (e := .Name x p3) scr (pa_nil (X := X)) rfl
      refine thn (pa.run p4 pins s σ H (fun vs H1 => vs = [v] ∧ H1 = H) I ⟨v, hv, rfl, rfl⟩) ?_
      rintro us s1 ⟨vs, H1, I1, r, rfl, rfl⟩
      refine ⟨I1.kIn, ?_⟩
      subst hX
      exact runG (W := fun cls d _ H' => E cls d H') D St.ct.room St.ct.gd db .nil St.ct.tk I1 r sp
    have st1 := ps_set (pos := p5) (pos' := p1) (by rw [St.ct.hN]; exact St.ct.nd) (by rw [St.ct.hN]; exact of_decide_eq_true h1) (St.lc y (loc_of h2)).1 call rfl (St.lc y (loc_of h2)).2
    refine ⟨_, pss_cons st1 (chain_ok St h9), ?_⟩
    have hK : X.K = K := by rw [← hX]; rfl
    obtain ⟨a, ns, rfl, hS, hn, k0⟩ := sp
    refine ⟨.ref a, rfl, a, ns, rfl, hS, hn, fun μ' H' x' figs e1 r1 q1 fl fr => ?_⟩
    obtain ⟨e', h', h2, z1, z2⟩ := pl figs fl fr
    rw [hK]
    refine chain_go (μ := μ') (e := lawE N.length) ⟨⟨?_, fun i v e => ?_⟩, r1⟩ z1 z2 rfl (fun H' x q => by cases q; exact k0 H')
    · show (none :: some (PV.loc 1) :: List.replicate (N.length - 2) none).length = (((L2.start N [.ref a])).set 1 (some x')).length
      rw [List.length_set]
      show _ = ([some (V.ref a)] ++ List.replicate (N.length - 1) none).length
      simp only [List.length_cons, List.length_replicate, List.length_append, List.length_nil]
      omega
    · match i, e with
      | 0, e => cases e
      | 1, e =>
        cases e
        refine ⟨x', ?_, q1⟩
        show ((L2.start N [.ref a]).set 1 (some x'))[1]? = _
        rw [List.getElem?_set_self]
        show 1 < ([some (V.ref a)] ++ List.replicate (N.length - 1) none).length
        simp only [List.length_cons, List.length_replicate, List.length_append, List.length_nil]
        omega
      | n + 2, e =>
        have e2 : (List.replicate (N.length - 2) (none : Option PV))[n]? = some (some v) := e
        rw [List.getElem?_replicate] at e2
        split at e2 <;> cases e2
  · cases h
end
end MP
namespace K25
open MP PySem L2 PySem.Spec PyProof.Rows
abbrev row : PySem.W.OpenLaw := PySem.Challenge.rw_wokenpages_k25_hung_numbers_far
def top (i : Nat) : Stmt := PySem.Challenge.pw_wokenpages_k25_hung_numbers_far.main.body.getD i (.Pass ⟨0, 0, 0, 0⟩)
def C : List PV := [(.str ⟨#[97, 98, 99, 100, 101, 102, 103, 104, 105, 106, 107, 108, 109, 110, 111, 112, 113, 114, 115, 116, 117, 118, 119, 120, 121, 122]⟩), (.str ⟨#[48, 49, 50, 51, 52, 53, 54, 55, 56, 57]⟩)]
def L : List Cl := [⟨"WakeError", "", 999999, [0]⟩, ⟨"BadNumber", "at", 0, [1, 0]⟩, ⟨"BadName", "at", 0, [2, 0]⟩, ⟨"BadCase", "at", 0, [3, 0]⟩, ⟨"TooMany", "limit", 0, [4, 0]⟩]
def b_tupled : Bs := (.cons (.ite (.not (.isi (.var 0) [.list, .tuple])) (.cons (.ret (.var 0)) .nil) .nil) (.cons (.asg 1 (.lst (.cons (.lst (.cons (.var 0) (.cons (.cst (.int (.ofNat 0))) (.cons (.lst .nil) .nil)))) .nil))) (.cons (.whl (.cst (.bl true)) (.cons (.asg 2 (.sub (.var 1) (.neg (.cst (.int (.ofNat 1)))))) (.cons (.ite (.cmp .lt (.sub (.var 2) (.cst (.int (.ofNat 1)))) (.blt .len (.cons (.sub (.var 2) (.cst (.int (.ofNat 0)))) .nil))) (.cons (.asg 3 (.sub (.sub (.var 2) (.cst (.int (.ofNat 0)))) (.sub (.var 2) (.cst (.int (.ofNat 1)))))) (.cons (.set (.var 2) (.cst (.int (.ofNat 1))) (.bin .add (.sub (.var 2) (.cst (.int (.ofNat 1)))) (.cst (.int (.ofNat 1))))) (.cons (.ite (.isi (.var 3) [.list, .tuple]) (.cons (.exp (.mth .append (.var 1) (.cons (.lst (.cons (.var 3) (.cons (.cst (.int (.ofNat 0))) (.cons (.lst .nil) .nil)))) .nil))) .nil) (.cons (.exp (.mth .append (.sub (.var 2) (.cst (.int (.ofNat 2)))) (.cons (.var 3) .nil))) .nil)) (.cons .cont .nil)))) .nil) (.cons (.exp (.mth .pop (.var 1) .nil)) (.cons (.ite (.cmp .eq (.blt .len (.cons (.var 1) .nil)) (.cst (.int (.ofNat 0)))) (.cons (.ret (.blt .tuple (.cons (.sub (.var 2) (.cst (.int (.ofNat 2)))) .nil))) .nil) .nil) (.cons (.exp (.mth .append (.sub (.sub (.var 1) (.neg (.cst (.int (.ofNat 1))))) (.cst (.int (.ofNat 2)))) (.cons (.blt .tuple (.cons (.sub (.var 2) (.cst (.int (.ofNat 2)))) .nil)) .nil))) .nil)))))) .nil)))
def b_is_int : Bs := (.cons (.ret (.and (.isi (.var 0) [.int]) (.not (.isi (.var 0) [.bool])))) .nil)
def b_has_signs : Bs := (.cons (.ite (.or (.not (.isi (.var 0) [.str])) (.cmp .gt (.blt .len (.cons (.var 0) .nil)) (.var 1))) (.cons (.ret (.cst (.bl false))) .nil) .nil) (.cons (.for_ (.v 2) (.var 0) (.cons (.ite (.and (.cmp .notin (.var 2) (.glb 0)) (.cmp .notin (.var 2) (.glb 1))) (.cons (.ret (.cst (.bl false))) .nil) .nil) .nil)) (.cons (.ret (.cst (.bl true))) .nil)))
def b_is_word : Bs := (.cons (.ret (.call 2 (.cons (.var 0) (.cons (.cst (.int (.ofNat 12))) .nil)))) .nil)
def b_is_name : Bs := (.cons (.ret (.and (.call 2 (.cons (.var 0) (.cons (.cst (.int (.ofNat 12))) .nil))) (.and (.cmp .gt (.blt .len (.cons (.var 0) .nil)) (.cst (.int (.ofNat 0)))) (.cmp .in_ (.sub (.var 0) (.cst (.int (.ofNat 0)))) (.glb 0))))) .nil)
def b_check_number : Bs := (.cons (.ite (.or (.not (.call 1 (.cons (.var 0) .nil))) (.cmp .lt (.var 0) (.var 1))) (.cons (.rse 1 (.var 0)) .nil) .nil) (.cons (.ite (.and (.cmp .isnot (.var 2) (.cst .non)) (.cmp .gt (.var 0) (.var 2))) (.cons (.rse 1 (.var 0)) .nil) .nil) (.cons (.ret (.var 0)) .nil)))
def b_is_range : Bs := (.cons (.ite (.or (.not (.isi (.var 0) [.list, .tuple])) (.cmp .eq (.blt .len (.cons (.var 0) .nil)) (.cst (.int (.ofNat 0))))) (.cons (.ret (.cst (.bl false))) .nil) .nil) (.cons (.asg 1 (.lst .nil)) (.cons (.for_ (.v 2) (.var 0) (.cons (.ite (.or (.not (.call 3 (.cons (.var 2) .nil))) (.cmp .in_ (.var 2) (.var 1))) (.cons (.ret (.cst (.bl false))) .nil) .nil) (.cons (.exp (.mth .append (.var 1) (.cons (.var 2) .nil))) .nil))) (.cons (.ret (.cst (.bl true))) .nil))))
def b_names_fault : Bs := (.cons (.ite (.not (.isi (.var 0) [.list, .tuple])) (.cons (.ret (.neg (.cst (.int (.ofNat 1))))) .nil) .nil) (.cons (.asg 1 (.lst .nil)) (.cons (.forR (.v 2) (.cons (.blt .len (.cons (.var 0) .nil)) .nil) (.cons (.asg 3 (.sub (.var 0) (.var 2))) (.cons (.ite (.or (.not (.isi (.var 3) [.list, .tuple])) (.cmp .ne (.blt .len (.cons (.var 3) .nil)) (.cst (.int (.ofNat 2))))) (.cons (.ret (.var 2)) .nil) .nil) (.cons (.ite (.or (.not (.call 4 (.cons (.sub (.var 3) (.cst (.int (.ofNat 0)))) .nil))) (.or (.cmp .in_ (.sub (.var 3) (.cst (.int (.ofNat 0)))) (.var 1)) (.not (.call 6 (.cons (.sub (.var 3) (.cst (.int (.ofNat 1)))) .nil))))) (.cons (.ret (.var 2)) .nil) .nil) (.cons (.exp (.mth .append (.var 1) (.cons (.sub (.var 3) (.cst (.int (.ofNat 0)))) .nil))) .nil))))) (.cons (.ret (.cst .non)) .nil))))
def b_check_names : Bs := (.cons (.asg 1 (.call 7 (.cons (.var 0) .nil))) (.cons (.ite (.cmp .isnot (.var 1) (.cst .non)) (.cons (.rse 2 (.var 1)) .nil) .nil) (.cons (.ret (.call 0 (.cons (.var 0) .nil))) .nil)))
def b_parted_ranks : Bs := (.cons (.asg 3 (.cst (.int (.ofNat 1)))) (.cons (.for_ (.v 4) (.slc (.var 0) (.bin .add (.var 2) (.cst (.int (.ofNat 1)))) .nop) (.cons (.asg 3 (.bin .mul (.var 3) (.var 4))) .nil)) (.cons (.forR (.v 5) (.cons (.blt .len (.cons (.var 1) .nil)) .nil) (.cons (.asg 6 (.bin .sub (.var 5) (.bin .mul (.bin .mod (.bin .fdiv (.var 5) (.var 3)) (.sub (.var 0) (.var 2))) (.var 3)))) (.cons (.ite (.cmp .ne (.sub (.var 1) (.var 5)) (.sub (.var 1) (.var 6))) (.cons (.ret (.tup (.cons (.var 6) (.cons (.var 5) .nil)))) .nil) .nil) .nil))) (.cons (.ret (.cst .non)) .nil))))
def b_rows_counted : Bs := (.cons (.asg 1 (.cst (.int (.ofNat 1)))) (.cons (.for_ (.v 2) (.var 0) (.cons (.asg 1 (.bin .mul (.var 1) (.blt .len (.cons (.sub (.var 2) (.cst (.int (.ofNat 1)))) .nil)))) .nil)) (.cons (.ret (.var 1)) .nil)))
def b_check_rows : Bs := (.cons (.ite (.cmp .gt (.call 10 (.cons (.var 0) .nil)) (.cst (.int (.ofNat 20000)))) (.cons (.rse 4 (.cst (.int (.ofNat 20000)))) .nil) .nil) .nil)
def b_checked_table : Bs := (.cons (.asg 2 (.call 8 (.cons (.var 0) .nil))) (.cons (.ite (.or (.not (.isi (.var 1) [.list, .tuple])) (.cmp .ne (.blt .len (.cons (.var 1) .nil)) (.call 10 (.cons (.var 2) .nil)))) (.cons (.rse 3 (.cst (.str ⟨#[116, 97, 98, 108, 101]⟩))) .nil) .nil) (.cons (.for_ (.v 3) (.var 1) (.cons (.ite (.not (.call 3 (.cons (.var 3) .nil))) (.cons (.rse 3 (.cst (.str ⟨#[116, 97, 98, 108, 101]⟩))) .nil) .nil) .nil)) (.cons (.ret (.tup (.cons (.var 2) (.cons (.blt .tuple (.cons (.var 1) .nil)) .nil)))) .nil))))
def b_range_sizes : Bs := (.cons (.ret (.blt .tuple (.cons (.comp [1] (.v 1) (.var 0) (.cst (.bl true)) (.blt .len (.cons (.sub (.var 1) (.cst (.int (.ofNat 1)))) .nil))) .nil))) .nil)
def b_hangs_on : Bs := (.cons (.asgT [5, 6] (.call 12 (.cons (.var 0) (.cons (.var 1) .nil)))) (.cons (.exp (.call 11 (.cons (.var 5) .nil))) (.cons (.asg 2 (.call 13 (.cons (.var 5) .nil))) (.cons (.asg 3 (.lst .nil)) (.cons (.forR (.v 4) (.cons (.blt .len (.cons (.var 5) .nil)) .nil) (.cons (.ite (.cmp .isnot (.call 9 (.cons (.var 2) (.cons (.var 6) (.cons (.var 4) .nil)))) (.cst .non)) (.cons (.exp (.mth .append (.var 3) (.cons (.sub (.sub (.var 5) (.var 4)) (.cst (.int (.ofNat 0)))) .nil))) .nil) .nil) .nil)) (.cons (.ret (.blt .tuple (.cons (.var 3) .nil))) .nil))))))
def b_product_of : Bs := (.cons (.asg 2 (.cst (.int (.ofNat 1)))) (.cons (.whl (.cmp .gt (.var 1) (.cst (.int (.ofNat 0)))) (.cons (.ite (.cmp .ne (.bin .mul (.bin .fdiv (.var 1) (.cst (.int (.ofNat 2)))) (.cst (.int (.ofNat 2)))) (.var 1)) (.cons (.asg 2 (.bin .mul (.var 2) (.var 0))) .nil) .nil) (.cons (.asg 0 (.bin .mul (.var 0) (.var 0))) (.cons (.asg 1 (.bin .fdiv (.var 1) (.cst (.int (.ofNat 2))))) .nil)))) (.cons (.ret (.var 2)) .nil)))
def b_hung_number : Bs := (.cons (.exp (.call 5 (.cons (.var 0) (.cons (.cst (.int (.ofNat 0))) .nil)))) (.cons (.exp (.call 5 (.cons (.var 1) (.cons (.cst (.int (.ofNat 1))) .nil)))) (.cons (.exp (.call 5 (.cons (.var 2) (.cons (.cst (.int (.ofNat 1))) .nil)))) (.cons (.ite (.cmp .eq (.var 1) (.cst (.int (.ofNat 1)))) (.cons (.ret (.ite (.cmp .eq (.var 0) (.cst (.int (.ofNat 0)))) (.var 2) (.cst (.int (.ofNat 0))))) .nil) .nil) (.cons (.asg 3 (.cst (.int (.ofNat 1)))) (.cons (.forR (.v 4) (.cons (.var 0) .nil) (.cons (.asg 3 (.bin .mul (.var 3) (.var 1))) (.cons (.ite (.cmp .gt (.var 3) (.cst (.int (.ofNat 20000)))) (.cons (.rse 4 (.cst (.int (.ofNat 20000)))) .nil) .nil) .nil))) (.cons (.asg 5 (.cst (.int (.ofNat 0)))) (.cons (.asg 6 (.cst (.int (.ofNat 1)))) (.cons (.forR (.v 7) (.cons (.bin .add (.var 0) (.cst (.int (.ofNat 1)))) .nil) (.cons (.asg 8 (.ite (.cmp .eq (.bin .mul (.bin .fdiv (.bin .sub (.var 0) (.var 7)) (.cst (.int (.ofNat 2)))) (.cst (.int (.ofNat 2)))) (.bin .sub (.var 0) (.var 7))) (.cst (.int (.ofNat 1))) (.neg (.cst (.int (.ofNat 1)))))) (.cons (.asg 5 (.bin .add (.var 5) (.bin .mul (.bin .mul (.var 8) (.var 6)) (.call 15 (.cons (.var 2) (.cons (.call 15 (.cons (.var 1) (.cons (.var 7) .nil))) .nil)))))) (.cons (.asg 6 (.bin .fdiv (.bin .mul (.var 6) (.bin .sub (.var 0) (.var 7))) (.bin .add (.var 7) (.cst (.int (.ofNat 1)))))) .nil)))) (.cons (.ret (.var 5)) .nil))))))))))
def b_knot_rows : Bs := (.cons (.asg 2 (.comp [10] (.v 10) (.var 1) (.cst (.bl true)) (.tup (.cons (.cst (.str ⟨#[119, 111, 114, 100]⟩)) (.cons (.var 10) .nil))))) (.cons (.asg 3 (.lst .nil)) (.cons (.for_ (.t [4, 5]) (.rev (.var 0)) (.cons (.asg 6 (.blt .len (.cons (.var 5) .nil))) (.cons (.asg 7 .dct0) (.cons (.asg 8 (.lst .nil)) (.cons (.forR (.v 9) (.cons (.cst (.int (.ofNat 0))) (.cons (.blt .len (.cons (.var 2) .nil)) (.cons (.var 6) .nil))) (.cons (.asg 11 (.blt .tuple (.cons (.slc (.var 2) (.var 9) (.bin .add (.var 9) (.var 6))) .nil))) (.cons (.ite (.cmp .eq (.blt .len (.cons (.comp [10] (.v 10) (.var 11) (.cmp .ne (.var 10) (.sub (.var 11) (.cst (.int (.ofNat 0))))) (.var 10)) .nil)) (.cst (.int (.ofNat 0)))) (.cons (.exp (.mth .append (.var 8) (.cons (.sub (.var 11) (.cst (.int (.ofNat 0)))) .nil))) (.cons .cont .nil)) .nil) (.cons (.ite (.cmp .notin (.var 11) (.var 7)) (.cons (.set (.var 7) (.var 11) (.blt .len (.cons (.var 3) .nil))) (.cons (.exp (.mth .append (.var 3) (.cons (.tup (.cons (.var 4) (.cons (.var 11) .nil))) .nil))) .nil)) .nil) (.cons (.exp (.mth .append (.var 8) (.cons (.tup (.cons (.cst (.str ⟨#[107, 110, 111, 116]⟩)) (.cons (.sub (.var 7) (.var 11)) .nil))) .nil))) .nil))))) (.cons (.asg 2 (.var 8)) .nil)))))) (.cons (.ret (.tup (.cons (.blt .tuple (.cons (.var 3) .nil)) (.cons (.sub (.var 2) (.cst (.int (.ofNat 0)))) .nil)))) .nil))))
def b_knot_number : Bs := (.cons (.asgT [2, 3] (.call 12 (.cons (.var 0) (.cons (.var 1) .nil)))) (.cons (.exp (.call 11 (.cons (.var 2) .nil))) (.cons (.ret (.blt .len (.cons (.sub (.call 17 (.cons (.var 2) (.cons (.var 3) .nil))) (.cst (.int (.ofNat 0)))) .nil))) .nil)))
def b_law_draws : Bs := (.cons (.asg 1 (.lst .nil)) (.cons (.for_ (.v 2) (.slc (.blt .list (.cons (.var 0) .nil)) .nop (.cst (.int (.ofNat 60)))) (.cons (.asg 3 (.bin .mod (.blt .int (.cons (.var 2) .nil)) (.bin .pow (.cst (.int (.ofNat 48))) (.cst (.int (.ofNat 20)))))) (.cons (.forR (.v 4) (.cons (.cst (.int (.ofNat 20))) .nil) (.cons (.exp (.mth .append (.var 1) (.cons (.bin .mod (.var 3) (.cst (.int (.ofNat 48)))) .nil))) (.cons (.asg 3 (.bin .fdiv (.var 3) (.cst (.int (.ofNat 48))))) (.cons (.ite (.cmp .eq (.var 3) (.cst (.int (.ofNat 0)))) (.cons .brk .nil) .nil) .nil)))) .nil))) (.cons (.ret (.lst (.cons (.var 1) (.cons (.cst (.int (.ofNat 0))) .nil)))) .nil)))
def b_law_take : Bs := (.cons (.asg 2 (.sub (.var 0) (.cst (.int (.ofNat 1))))) (.cons (.set (.var 0) (.cst (.int (.ofNat 1))) (.bin .add (.var 2) (.cst (.int (.ofNat 1))))) (.cons (.ite (.cmp .ge (.var 2) (.blt .len (.cons (.sub (.var 0) (.cst (.int (.ofNat 0)))) .nil))) (.cons (.ret (.cst (.int (.ofNat 0)))) .nil) .nil) (.cons (.ret (.bin .mod (.sub (.sub (.var 0) (.cst (.int (.ofNat 0)))) (.var 2)) (.var 1))) .nil))))
def b_law_choose : Bs := (.cons (.asg 2 (.cst (.int (.ofNat 1)))) (.cons (.forR (.v 3) (.cons (.var 1) .nil) (.cons (.asg 2 (.bin .fdiv (.bin .mul (.var 2) (.bin .sub (.var 0) (.var 3))) (.bin .add (.var 3) (.cst (.int (.ofNat 1)))))) .nil)) (.cons (.ret (.var 2)) .nil)))
def b_law_power : Bs := (.cons (.asg 2 (.cst (.int (.ofNat 1)))) (.cons (.asg 3 (.var 0)) (.cons (.asg 4 (.var 1)) (.cons (.forR (.v 5) (.cons (.cst (.int (.ofNat 40))) .nil) (.cons (.ite (.cmp .eq (.var 4) (.cst (.int (.ofNat 0)))) (.cons .brk .nil) .nil) (.cons (.ite (.cmp .eq (.bin .mod (.var 4) (.cst (.int (.ofNat 2)))) (.cst (.int (.ofNat 1)))) (.cons (.asg 2 (.bin .mul (.var 2) (.var 3))) .nil) .nil) (.cons (.asg 3 (.bin .mul (.var 3) (.var 3))) (.cons (.asg 4 (.bin .fdiv (.var 4) (.cst (.int (.ofNat 2))))) .nil))))) (.cons (.ret (.var 2)) .nil)))))
def b_law_rows_number : Bs := (.cons (.asg 2 (.cst (.int (.ofNat 1)))) (.cons (.forR (.v 3) (.cons (.var 0) .nil) (.cons (.asg 2 (.bin .mul (.var 2) (.var 1))) .nil)) (.cons (.ret (.var 2)) .nil)))
def b_law_due : Bs := (.cons (.asg 3 (.cst (.int (.ofNat 0)))) (.cons (.forR (.v 4) (.cons (.bin .add (.var 0) (.cst (.int (.ofNat 1)))) .nil) (.cons (.asg 5 (.bin .mul (.call 21 (.cons (.var 0) (.cons (.var 4) .nil))) (.call 22 (.cons (.var 2) (.cons (.call 23 (.cons (.var 4) (.cons (.var 1) .nil))) .nil))))) (.cons (.ite (.cmp .eq (.bin .mod (.bin .sub (.var 0) (.var 4)) (.cst (.int (.ofNat 2)))) (.cst (.int (.ofNat 1)))) (.cons (.asg 5 (.bin .sub (.cst (.int (.ofNat 0))) (.var 5))) .nil) .nil) (.cons (.asg 3 (.bin .add (.var 3) (.var 5))) .nil)))) (.cons (.ret (.var 3)) .nil)))
def b_law_said : Bs := (.cons (.ret (.and (.cmp .eq (.var 0) (.var 1)) (.cmp .eq (.blt .repr (.cons (.var 0) .nil)) (.blt .repr (.cons (.var 1) .nil))))) .nil)
def b_law_is : Bs := (.cons (.ret (.and (.isi (.var 0) [.int]) (.and (.not (.isi (.var 0) [.bool])) (.cmp .eq (.var 0) (.var 1))))) .nil)
def b_law_listed_right : Bs := (.cons (.asg 3 (.blt .tuple (.cons (.compR [10] (.v 10) (.cons (.var 0) .nil) (.cst (.bl true)) (.tup (.cons (.bin .add (.cst (.str ⟨#[110]⟩)) (.blt .str (.cons (.var 10) .nil))) (.cons (.slc (.tup (.cons (.cst (.str ⟨#[48]⟩)) (.cons (.cst (.str ⟨#[49]⟩)) (.cons (.cst (.str ⟨#[50]⟩)) (.cons (.cst (.str ⟨#[51]⟩)) (.cons (.cst (.str ⟨#[52]⟩)) (.cons (.cst (.str ⟨#[53]⟩)) (.cons (.cst (.str ⟨#[54]⟩)) (.cons (.cst (.str ⟨#[55]⟩)) .nil))))))))) .nop (.var 1)) .nil)))) .nil))) (.cons (.asg 4 (.call 23 (.cons (.var 0) (.cons (.var 1) .nil)))) (.cons (.asg 5 (.call 22 (.cons (.var 2) (.cons (.var 4) .nil)))) (.cons (.asg 6 (.cst (.int (.ofNat 0)))) (.cons (.forRP (.v 7) (.cons (.var 5) .nil) (.cons (.asg 8 (.lst .nil)) (.cons (.asg 9 (.var 7)) (.cons (.forR (.v 10) (.cons (.var 4) .nil) (.cons (.exp (.mth .append (.var 8) (.cons (.bin .add (.cst (.str ⟨#[119]⟩)) (.blt .str (.cons (.bin .mod (.var 9) (.var 2)) .nil))) .nil))) (.cons (.asg 9 (.bin .fdiv (.var 9) (.var 2))) .nil))) (.cons (.asg 11 (.call 14 (.cons (.var 3) (.cons (.var 8) .nil)))) (.cons (.ite (.not (.isi (.var 11) [.tuple])) (.cons (.ret (.cst (.bl false))) .nil) .nil) (.cons (.ite (.cmp .eq (.blt .len (.cons (.var 11) .nil)) (.var 0)) (.cons (.asg 6 (.bin .add (.var 6) (.cst (.int (.ofNat 1))))) .nil) .nil) (.cons (.asg 12 (.call 18 (.cons (.var 3) (.cons (.blt .tuple (.cons (.var 8) .nil)) .nil)))) (.cons (.ite (.or (.not (.call 26 (.cons (.var 12) (.cons (.var 12) .nil)))) (.or (.cmp .ne (.cmp .eq (.var 12) (.cst (.int (.ofNat 0)))) (.cmp .eq (.blt .len (.cons (.var 11) .nil)) (.cst (.int (.ofNat 0))))) (.cmp .lt (.var 12) (.blt .len (.cons (.var 11) .nil))))) (.cons (.ret (.cst (.bl false))) .nil) .nil) .nil))))))))) (.cons (.ret (.call 26 (.cons (.call 16 (.cons (.var 0) (.cons (.var 1) (.cons (.var 2) .nil)))) (.cons (.var 6) .nil)))) .nil))))))
def b_law_caught : Bs := (.cons (.asg 3 (.tup (.cons (.cst (.str ⟨#[116, 111, 108, 100]⟩)) (.cons (.cst .non) (.cons (.cst (.bl false)) .nil))))) (.cons (.try_ (.cons (.exp (.call 16 (.cons (.var 0) (.cons (.var 1) (.cons (.var 2) .nil))))) .nil) [⟨1, 4, 3, (.tup [(.cst (.str ⟨#[110, 117, 109, 98, 101, 114]⟩)), .fld, (.and (.isi 0) (.not (.isi 4)))])⟩, ⟨4, 5, 3, (.tup [(.cst (.str ⟨#[109, 97, 110, 121]⟩)), .fld, (.isi 0)])⟩]) (.cons (.ret (.var 3)) .nil)))
def b_law_refusals : Bs := (.cons (.asg 1 (.sub (.lst (.cons (.neg (.cst (.int (.ofNat 1)))) (.cons (.cst (.bl true)) (.cons (.cst .non) (.cons (.cst (.str ⟨#[50]⟩)) (.cons (.tup (.cons (.cst (.int (.ofNat 1))) .nil)) .nil)))))) (.bin .mod (.var 0) (.cst (.int (.ofNat 5)))))) (.cons (.asg 2 (.sub (.lst (.cons (.cst (.int (.ofNat 0))) (.cons (.neg (.cst (.int (.ofNat 7)))) (.cons (.cst (.bl false)) (.cons (.cst (.str ⟨#[49]⟩)) (.cons (.slc (.lst (.cons (.cst (.int (.ofNat 2))) .nil)) (.cst (.int (.ofNat 0))) (.cst (.int (.ofNat 0)))) .nil)))))) (.bin .mod (.var 0) (.cst (.int (.ofNat 5)))))) (.cons (.asg 3 (.sub (.lst (.cons (.cst (.int (.ofNat 0))) (.cons (.neg (.cst (.int (.ofNat 7)))) (.cons (.cst (.bl false)) (.cons (.cst (.str ⟨#[49]⟩)) (.cons (.tup .nil) .nil)))))) (.bin .mod (.var 0) (.cst (.int (.ofNat 5)))))) (.cons (.ite (.not (.call 25 (.cons (.call 28 (.cons (.var 1) (.cons (.cst (.int (.ofNat 0))) (.cons (.cst (.int (.ofNat 0))) .nil)))) (.cons (.tup (.cons (.cst (.str ⟨#[110, 117, 109, 98, 101, 114]⟩)) (.cons (.var 1) (.cons (.cst (.bl true)) .nil)))) .nil)))) (.cons (.ret (.cst (.bl false))) .nil) .nil) (.cons (.for_ (.t [4, 5]) (.tup (.cons (.tup (.cons (.var 2) (.cons (.var 3) .nil))) (.cons (.tup (.cons (.cst (.int (.ofNat 0))) (.cons (.cst (.int (.ofNat 0))) .nil))) (.cons (.tup (.cons (.cst (.bl true)) (.cons (.cst (.bl true)) .nil))) .nil)))) (.cons (.ite (.or (.not (.call 25 (.cons (.call 28 (.cons (.cst (.int (.ofNat 20))) (.cons (.var 4) (.cons (.cst (.int (.ofNat 0))) .nil)))) (.cons (.tup (.cons (.cst (.str ⟨#[110, 117, 109, 98, 101, 114]⟩)) (.cons (.var 5) (.cons (.cst (.bl true)) .nil)))) .nil)))) (.not (.call 25 (.cons (.call 28 (.cons (.cst (.int (.ofNat 20))) (.cons (.cst (.int (.ofNat 8))) (.cons (.var 4) .nil)))) (.cons (.tup (.cons (.cst (.str ⟨#[110, 117, 109, 98, 101, 114]⟩)) (.cons (.var 5) (.cons (.cst (.bl true)) .nil)))) .nil))))) (.cons (.ret (.cst (.bl false))) .nil) .nil) .nil)) (.cons (.for_ (.t [6, 7]) (.tup (.cons (.tup (.cons (.cst (.int (.ofNat 15))) (.cons (.cst (.int (.ofNat 2))) .nil))) (.cons (.tup (.cons (.cst (.int (.ofNat 10))) (.cons (.cst (.int (.ofNat 3))) .nil))) (.cons (.tup (.cons (.cst (.int (.ofNat 8))) (.cons (.cst (.int (.ofNat 4))) .nil))) (.cons (.tup (.cons (.cst (.int (.ofNat 7))) (.cons (.cst (.int (.ofNat 5))) .nil))) (.cons (.tup (.cons (.cst (.int (.ofNat 6))) (.cons (.cst (.int (.ofNat 6))) .nil))) (.cons (.tup (.cons (.cst (.int (.ofNat 6))) (.cons (.cst (.int (.ofNat 7))) .nil))) (.cons (.tup (.cons (.cst (.int (.ofNat 5))) (.cons (.cst (.int (.ofNat 8))) .nil))) (.cons (.tup (.cons (.cst (.int (.ofNat 60))) (.cons (.cst (.int (.ofNat 2))) .nil))) .nil))))))))) (.cons (.ite (.not (.call 25 (.cons (.call 28 (.cons (.var 6) (.cons (.var 7) (.cons (.bin .add (.cst (.int (.ofNat 1))) (.var 0)) .nil)))) (.cons (.tup (.cons (.cst (.str ⟨#[109, 97, 110, 121]⟩)) (.cons (.cst (.int (.ofNat 20000))) (.cons (.cst (.bl true)) .nil)))) .nil)))) (.cons (.ret (.cst (.bl false))) .nil) .nil) .nil)) (.cons (.ret (.cst (.bl true))) .nil)))))))
def b_law : Bs := (.cons (.asg 1 (.call 19 (.cons (.var 0) .nil))) (.cons (.asg 2 (.bin .add (.cst (.int (.ofNat 1))) (.call 20 (.cons (.var 1) (.cons (.cst (.int (.ofNat 8))) .nil))))) (.cons (.asg 3 (.sub (.lst (.cons (.cst (.int (.ofNat 14))) (.cons (.cst (.int (.ofNat 14))) (.cons (.cst (.int (.ofNat 9))) (.cons (.cst (.int (.ofNat 7))) (.cons (.cst (.int (.ofNat 6))) (.cons (.cst (.int (.ofNat 5))) (.cons (.cst (.int (.ofNat 5))) (.cons (.cst (.int (.ofNat 4))) .nil))))))))) (.bin .sub (.var 2) (.cst (.int (.ofNat 1)))))) (.cons (.asg 4 (.bin .mod (.call 20 (.cons (.var 1) (.cons (.cst (.int (.ofNat 48))) .nil))) (.bin .add (.var 3) (.cst (.int (.ofNat 1)))))) (.cons (.ite (.cmp .gt (.call 20 (.cons (.var 1) (.cons (.cst (.int (.ofNat 6))) .nil))) (.cst (.int (.ofNat 0)))) (.cons (.asg 4 (.blt .min (.cons (.var 4) (.cons (.sub (.lst (.cons (.cst (.int (.ofNat 14))) (.cons (.cst (.int (.ofNat 8))) (.cons (.cst (.int (.ofNat 5))) (.cons (.cst (.int (.ofNat 4))) (.cons (.cst (.int (.ofNat 3))) (.cons (.cst (.int (.ofNat 3))) (.cons (.cst (.int (.ofNat 2))) (.cons (.cst (.int (.ofNat 2))) .nil))))))))) (.bin .sub (.var 2) (.cst (.int (.ofNat 1))))) .nil)))) .nil) .nil) (.cons (.asg 5 (.sub (.lst (.cons (.cst (.int (.ofNat 2))) (.cons (.cst (.int (.ofNat 1))) (.cons (.cst (.int (.ofNat 3))) (.cons (.cst (.int (.ofNat 7))) (.cons (.bin .pow (.cst (.int (.ofNat 10))) (.cst (.int (.ofNat 6)))) .nil)))))) (.call 20 (.cons (.var 1) (.cons (.cst (.int (.ofNat 5))) .nil))))) (.cons (.ite (.cmp .gt (.call 23 (.cons (.var 4) (.cons (.var 2) .nil))) (.cst (.int (.ofNat 256)))) (.cons (.asg 5 (.bin .add (.cst (.int (.ofNat 1))) (.call 20 (.cons (.var 1) (.cons (.cst (.int (.ofNat 2))) .nil))))) .nil) .nil) (.cons (.asg 6 (.call 20 (.cons (.var 1) (.cons (.cst (.int (.ofNat 48))) .nil)))) (.cons (.asg 7 (.sub (.lst (.cons (.tup (.cons (.cst (.int (.ofNat 2))) (.cons (.cst (.int (.ofNat 2))) (.cons (.cst (.int (.ofNat 2))) .nil)))) (.cons (.tup (.cons (.cst (.int (.ofNat 0))) (.cons (.cst (.int (.ofNat 3))) (.cons (.cst (.int (.ofNat 2))) .nil)))) (.cons (.tup (.cons (.cst (.int (.ofNat 1))) (.cons (.cst (.int (.ofNat 2))) (.cons (.cst (.int (.ofNat 3))) .nil)))) (.cons (.tup (.cons (.cst (.int (.ofNat 1))) (.cons (.cst (.int (.ofNat 4))) (.cons (.cst (.int (.ofNat 3))) .nil)))) (.cons (.tup (.cons (.cst (.int (.ofNat 3))) (.cons (.cst (.int (.ofNat 2))) (.cons (.cst (.int (.ofNat 2))) .nil)))) (.cons (.tup (.cons (.cst (.int (.ofNat 2))) (.cons (.cst (.int (.ofNat 2))) (.cons (.cst (.int (.ofNat 3))) .nil)))) (.cons (.tup (.cons (.cst (.int (.ofNat 1))) (.cons (.cst (.int (.ofNat 8))) (.cons (.cst (.int (.ofNat 2))) .nil)))) (.cons (.tup (.cons (.cst (.int (.ofNat 2))) (.cons (.cst (.int (.ofNat 1))) (.cons (.cst (.int (.ofNat 5))) .nil)))) .nil))))))))) (.call 20 (.cons (.var 1) (.cons (.cst (.int (.ofNat 8))) .nil))))) (.cons (.ite (.not (.call 26 (.cons (.call 16 (.cons (.var 4) (.cons (.var 2) (.cons (.var 5) .nil)))) (.cons (.call 24 (.cons (.var 4) (.cons (.var 2) (.cons (.var 5) .nil)))) .nil)))) (.cons (.ret (.cst (.bl false))) .nil) .nil) (.cons (.ite (.cmp .le (.call 23 (.cons (.var 4) (.cons (.var 2) .nil))) (.cst (.int (.ofNat 1024)))) (.cons (.asg 8 (.cst (.int (.ofNat 0)))) (.cons (.forR (.v 9) (.cons (.bin .add (.var 4) (.cst (.int (.ofNat 1)))) .nil) (.cons (.asg 8 (.bin .add (.var 8) (.bin .mul (.call 21 (.cons (.var 4) (.cons (.var 9) .nil))) (.call 16 (.cons (.var 9) (.cons (.var 2) (.cons (.var 5) .nil))))))) .nil)) (.cons (.ite (.cmp .ne (.var 8) (.call 22 (.cons (.var 5) (.cons (.call 23 (.cons (.var 4) (.cons (.var 2) .nil))) .nil)))) (.cons (.ret (.cst (.bl false))) .nil) .nil) .nil))) .nil) (.cons (.ite (.not (.call 27 (.cons (.sub (.var 7) (.cst (.int (.ofNat 0)))) (.cons (.sub (.var 7) (.cst (.int (.ofNat 1)))) (.cons (.sub (.var 7) (.cst (.int (.ofNat 2)))) .nil))))) (.cons (.ret (.cst (.bl false))) .nil) .nil) (.cons (.ret (.call 29 (.cons (.var 6) .nil))) .nil)))))))))))))
def T : List Fn := [
  ⟨"tupled", 1, 4, [], b_tupled⟩,
  ⟨"is_int", 1, 1, [], b_is_int⟩,
  ⟨"has_signs", 2, 3, [], b_has_signs⟩,
  ⟨"is_word", 1, 1, [], b_is_word⟩,
  ⟨"is_name", 1, 1, [], b_is_name⟩,
  ⟨"check_number", 3, 3, [.non], b_check_number⟩,
  ⟨"is_range", 1, 3, [], b_is_range⟩,
  ⟨"names_fault", 1, 4, [], b_names_fault⟩,
  ⟨"check_names", 1, 2, [], b_check_names⟩,
  ⟨"parted_ranks", 3, 7, [], b_parted_ranks⟩,
  ⟨"rows_counted", 1, 3, [], b_rows_counted⟩,
  ⟨"check_rows", 1, 1, [], b_check_rows⟩,
  ⟨"checked_table", 2, 4, [], b_checked_table⟩,
  ⟨"range_sizes", 1, 2, [], b_range_sizes⟩,
  ⟨"hangs_on", 2, 7, [], b_hangs_on⟩,
  ⟨"product_of", 2, 3, [], b_product_of⟩,
  ⟨"hung_number", 3, 9, [], b_hung_number⟩,
  ⟨"knot_rows", 2, 12, [], b_knot_rows⟩,
  ⟨"knot_number", 2, 4, [], b_knot_number⟩,
  ⟨"_law_draws", 1, 5, [], b_law_draws⟩,
  ⟨"_law_take", 2, 3, [], b_law_take⟩,
  ⟨"_law_choose", 2, 4, [], b_law_choose⟩,
  ⟨"_law_power", 2, 6, [], b_law_power⟩,
  ⟨"_law_rows_number", 2, 4, [], b_law_rows_number⟩,
  ⟨"_law_due", 3, 6, [], b_law_due⟩,
  ⟨"_law_said", 2, 2, [], b_law_said⟩,
  ⟨"_law_is", 2, 2, [], b_law_is⟩,
  ⟨"_law_listed_right", 3, 13, [], b_law_listed_right⟩,
  ⟨"_law_caught", 3, 6, [], b_law_caught⟩,
  ⟨"_law_refusals", 1, 8, [], b_law_refusals⟩,
  ⟨"law", 1, 10, [], b_law⟩]
def cn : List Str := ["LETTERS", "FIGURES"]
def fn : List He.DefD := [
  ⟨("tupled", none), "tupled", "tupled", defArgs (top 1), defBody (top 1), defScope (top 1), [], []⟩,
  ⟨("BadNumber", some "__init__"), "__init__", "BadNumber.__init__", defArgs (inClass (top 3) 0), defBody (inClass (top 3) 0), defScope (inClass (top 3) 0), [], []⟩,
  ⟨("BadName", some "__init__"), "__init__", "BadName.__init__", defArgs (inClass (top 4) 0), defBody (inClass (top 4) 0), defScope (inClass (top 4) 0), [], []⟩,
  ⟨("BadCase", some "__init__"), "__init__", "BadCase.__init__", defArgs (inClass (top 5) 0), defBody (inClass (top 5) 0), defScope (inClass (top 5) 0), [], []⟩,
  ⟨("TooMany", some "__init__"), "__init__", "TooMany.__init__", defArgs (inClass (top 6) 0), defBody (inClass (top 6) 0), defScope (inClass (top 6) 0), [], []⟩,
  ⟨("is_int", none), "is_int", "is_int", defArgs (top 10), defBody (top 10), defScope (top 10), [], []⟩,
  ⟨("has_signs", none), "has_signs", "has_signs", defArgs (top 11), defBody (top 11), defScope (top 11), [], []⟩,
  ⟨("is_word", none), "is_word", "is_word", defArgs (top 12), defBody (top 12), defScope (top 12), [], []⟩,
  ⟨("is_name", none), "is_name", "is_name", defArgs (top 13), defBody (top 13), defScope (top 13), [], []⟩,
  ⟨("check_number", none), "check_number", "check_number", defArgs (top 14), defBody (top 14), defScope (top 14), [.non], []⟩,
  ⟨("is_range", none), "is_range", "is_range", defArgs (top 16), defBody (top 16), defScope (top 16), [], []⟩,
  ⟨("names_fault", none), "names_fault", "names_fault", defArgs (top 17), defBody (top 17), defScope (top 17), [], []⟩,
  ⟨("check_names", none), "check_names", "check_names", defArgs (top 18), defBody (top 18), defScope (top 18), [], []⟩,
  ⟨("parted_ranks", none), "parted_ranks", "parted_ranks", defArgs (top 20), defBody (top 20), defScope (top 20), [], []⟩,
  ⟨("rows_counted", none), "rows_counted", "rows_counted", defArgs (top 22), defBody (top 22), defScope (top 22), [], []⟩,
  ⟨("check_rows", none), "check_rows", "check_rows", defArgs (top 23), defBody (top 23), defScope (top 23), [], []⟩,
  ⟨("checked_table", none), "checked_table", "checked_table", defArgs (top 24), defBody (top 24), defScope (top 24), [], []⟩,
  ⟨("range_sizes", none), "range_sizes", "range_sizes", defArgs (top 25), defBody (top 25), defScope (top 25), [], []⟩,
  ⟨("hangs_on", none), "hangs_on", "hangs_on", defArgs (top 26), defBody (top 26), defScope (top 26), [], []⟩,
  ⟨("product_of", none), "product_of", "product_of", defArgs (top 28), defBody (top 28), defScope (top 28), [], []⟩,
  ⟨("hung_number", none), "hung_number", "hung_number", defArgs (top 29), defBody (top 29), defScope (top 29), [], []⟩,
  ⟨("knot_rows", none), "knot_rows", "knot_rows", defArgs (top 31), defBody (top 31), defScope (top 31), [], []⟩,
  ⟨("knot_number", none), "knot_number", "knot_number", defArgs (top 32), defBody (top 32), defScope (top 32), [], []⟩,
  ⟨("_law_draws", none), "_law_draws", "_law_draws", defArgs (top 34), defBody (top 34), defScope (top 34), [], []⟩,
  ⟨("_law_take", none), "_law_take", "_law_take", defArgs (top 35), defBody (top 35), defScope (top 35), [], []⟩,
  ⟨("_law_choose", none), "_law_choose", "_law_choose", defArgs (top 36), defBody (top 36), defScope (top 36), [], []⟩,
  ⟨("_law_power", none), "_law_power", "_law_power", defArgs (top 37), defBody (top 37), defScope (top 37), [], []⟩,
  ⟨("_law_rows_number", none), "_law_rows_number", "_law_rows_number", defArgs (top 38), defBody (top 38), defScope (top 38), [], []⟩,
  ⟨("_law_due", none), "_law_due", "_law_due", defArgs (top 39), defBody (top 39), defScope (top 39), [], []⟩,
  ⟨("_law_said", none), "_law_said", "_law_said", defArgs (top 40), defBody (top 40), defScope (top 40), [], []⟩,
  ⟨("_law_is", none), "_law_is", "_law_is", defArgs (top 41), defBody (top 41), defScope (top 41), [], []⟩,
  ⟨("_law_listed_right", none), "_law_listed_right", "_law_listed_right", defArgs (top 42), defBody (top 42), defScope (top 42), [], []⟩,
  ⟨("_law_caught", none), "_law_caught", "_law_caught", defArgs (top 43), defBody (top 43), defScope (top 43), [], []⟩,
  ⟨("_law_refusals", none), "_law_refusals", "_law_refusals", defArgs (top 44), defBody (top 44), defScope (top 44), [], []⟩,
  ⟨("law", none), "law", "law", defArgs (top 45), defBody (top 45), defScope (top 45), [], []⟩]
def fa : List He.Fa := [.glo "tupled", .glo "WakeError", .glo "BadNumber", .glo "BadName", .glo "BadCase", .glo "TooMany", .str "LETTERS" "abcdefghijklmnopqrstuvwxyz", .str "FIGURES" "0123456789", .glo "is_int", .glo "has_signs", .glo "is_word", .glo "is_name", .glo "check_number", .glo "is_range", .glo "names_fault", .glo "check_names", .glo "parted_ranks", .glo "rows_counted", .glo "check_rows", .glo "checked_table", .glo "range_sizes", .glo "hangs_on", .glo "product_of", .glo "hung_number", .glo "knot_rows", .glo "knot_number", .glo "_law_draws", .glo "_law_take", .glo "_law_choose", .glo "_law_power", .glo "_law_rows_number", .glo "_law_due", .glo "_law_said", .glo "_law_is", .glo "_law_listed_right", .glo "_law_caught", .glo "_law_refusals", .glo "law", .free "len", .free "tuple", .free "list", .free "str", .free "int", .free "repr", .free "min", .free "max", .free "isinstance", .free "bool", .free "dict", .free "range"]
def N_tupled : List Str := ["x", "pile", "level", "inner"]
def N_is_int : List Str := ["x"]
def N_has_signs : List Str := ["x", "most", "sign"]
def N_is_word : List Str := ["x"]
def N_is_name : List Str := ["x"]
def N_check_number : List Str := ["x", "least", "most"]
def N_is_range : List Str := ["x", "had", "entry"]
def N_names_fault : List Str := ["names", "had", "k", "entry"]
def N_check_names : List Str := ["names", "fault"]
def N_parted_ranks : List Str := ["sizes", "values", "k", "stride", "size", "rank", "base"]
def N_rows_counted : List Str := ["names", "total", "entry"]
def N_check_rows : List Str := ["names"]
def N_checked_table : List Str := ["names", "table", "plain", "entry"]
def N_range_sizes : List Str := ["names", "entry"]
def N_hangs_on : List Str := ["names", "table", "sizes", "told", "k", "plain", "words"]
def N_product_of : List Str := ["base", "times", "told"]
def N_hung_number : List Str := ["n", "k", "v", "rows", "_", "total", "ways", "j", "sign"]
def N_knot_rows : List Str := ["names", "words", "entries", "knots", "title", "told", "size", "had", "level", "at", "entry", "group"]
def N_knot_number : List Str := ["names", "table", "plain", "words"]
def N__law_draws : List Str := ["script", "figures", "cell", "rest", "turn"]
def N__law_take : List Str := ["draws", "many", "at"]
def N__law_choose : List Str := ["n", "k", "total", "at"]
def N__law_power : List Str := ["base", "many", "total", "factor", "left", "turn"]
def N__law_rows_number : List Str := ["n", "k", "total", "turn"]
def N__law_due : List Str := ["n", "k", "v", "total", "j", "term"]
def N__law_said : List Str := ["told", "due"]
def N__law_is : List Str := ["told", "due"]
def N__law_listed_right : List Str := ["n", "k", "v", "names", "size", "every", "many", "number", "table", "rest", "at", "hung", "knots"]
def N__law_caught : List Str := ["n", "k", "v", "told", "wrong", "many"]
def N__law_refusals : List Str := ["pick", "wrong", "low", "kept", "handed", "due", "n", "k"]
def N_law : List Str := ["script", "draws", "k", "most", "n", "v", "pick", "small", "total", "j"]
theorem ck_tupled : ckB N_tupled T cn L (defScope (top 1)) b_tupled (defBody (top 1)) = true := by decide +kernel
theorem ck_is_int : ckB N_is_int T cn L (defScope (top 10)) b_is_int (defBody (top 10)) = true := by decide +kernel
theorem ck_has_signs : ckB N_has_signs T cn L (defScope (top 11)) b_has_signs (defBody (top 11)) = true := by decide +kernel
theorem ck_is_word : ckB N_is_word T cn L (defScope (top 12)) b_is_word (defBody (top 12)) = true := by decide +kernel
theorem ck_is_name : ckB N_is_name T cn L (defScope (top 13)) b_is_name (defBody (top 13)) = true := by decide +kernel
theorem ck_check_number : ckB N_check_number T cn L (defScope (top 14)) b_check_number (defBody (top 14)) = true := by decide +kernel
theorem ck_is_range : ckB N_is_range T cn L (defScope (top 16)) b_is_range (defBody (top 16)) = true := by decide +kernel
theorem ck_names_fault : ckB N_names_fault T cn L (defScope (top 17)) b_names_fault (defBody (top 17)) = true := by decide +kernel
theorem ck_check_names : ckB N_check_names T cn L (defScope (top 18)) b_check_names (defBody (top 18)) = true := by decide +kernel
theorem ck_parted_ranks : ckB N_parted_ranks T cn L (defScope (top 20)) b_parted_ranks (defBody (top 20)) = true := by decide +kernel
theorem ck_rows_counted : ckB N_rows_counted T cn L (defScope (top 22)) b_rows_counted (defBody (top 22)) = true := by decide +kernel
theorem ck_check_rows : ckB N_check_rows T cn L (defScope (top 23)) b_check_rows (defBody (top 23)) = true := by decide +kernel
theorem ck_checked_table : ckB N_checked_table T cn L (defScope (top 24)) b_checked_table (defBody (top 24)) = true := by decide +kernel
theorem ck_range_sizes : ckB N_range_sizes T cn L (defScope (top 25)) b_range_sizes (defBody (top 25)) = true := by decide +kernel
theorem ck_hangs_on : ckB N_hangs_on T cn L (defScope (top 26)) b_hangs_on (defBody (top 26)) = true := by decide +kernel
theorem ck_product_of : ckB N_product_of T cn L (defScope (top 28)) b_product_of (defBody (top 28)) = true := by decide +kernel
theorem ck_hung_number : ckB N_hung_number T cn L (defScope (top 29)) b_hung_number (defBody (top 29)) = true := by decide +kernel
theorem ck_knot_rows : ckB N_knot_rows T cn L (defScope (top 31)) b_knot_rows (defBody (top 31)) = true := by decide +kernel
theorem ck_knot_number : ckB N_knot_number T cn L (defScope (top 32)) b_knot_number (defBody (top 32)) = true := by decide +kernel
theorem ck__law_draws : ckB N__law_draws T cn L (defScope (top 34)) b_law_draws (defBody (top 34)) = true := by decide +kernel
theorem ck__law_take : ckB N__law_take T cn L (defScope (top 35)) b_law_take (defBody (top 35)) = true := by decide +kernel
theorem ck__law_choose : ckB N__law_choose T cn L (defScope (top 36)) b_law_choose (defBody (top 36)) = true := by decide +kernel
theorem ck__law_power : ckB N__law_power T cn L (defScope (top 37)) b_law_power (defBody (top 37)) = true := by decide +kernel
theorem ck__law_rows_number : ckB N__law_rows_number T cn L (defScope (top 38)) b_law_rows_number (defBody (top 38)) = true := by decide +kernel
theorem ck__law_due : ckB N__law_due T cn L (defScope (top 39)) b_law_due (defBody (top 39)) = true := by decide +kernel
theorem ck__law_said : ckB N__law_said T cn L (defScope (top 40)) b_law_said (defBody (top 40)) = true := by decide +kernel
theorem ck__law_is : ckB N__law_is T cn L (defScope (top 41)) b_law_is (defBody (top 41)) = true := by decide +kernel
theorem ck__law_listed_right : ckB N__law_listed_right T cn L (defScope (top 42)) b_law_listed_right (defBody (top 42)) = true := by decide +kernel
theorem ck__law_caught : ckB N__law_caught T cn L (defScope (top 43)) b_law_caught (defBody (top 43)) = true := by decide +kernel
theorem ck__law_refusals : ckB N__law_refusals T cn L (defScope (top 44)) b_law_refusals (defBody (top 44)) = true := by decide +kernel
theorem ck_law : ckB N_law T cn L (defScope (top 45)) b_law (defBody (top 45)) = true := by decide +kernel
end K25
namespace K25
open MP PySem L2 PySem.Spec PyProof.Rows
abbrev hk : PySem.W.Hook := hookM 5 fa fn L
def ob (s : PySem.W.SharedT) : He.AlD := obsMG 5 fa fn L (HandSHeadRun.getT s)
theorem ob_eq (s : PySem.W.SharedT) : ob s = hk.obs s.abs := obsMG_eq (HandSHeadRun.getT_eq s)
def loose : List PySem.Str := List.append (["tupled", "WakeError", "BadNumber", "BadName", "BadCase", "TooMany", "LETTERS", "FIGURES", "is_int", "has_signs", "is_word", "is_name", "check_number", "is_range", "names_fault", "check_names", "parted_ranks", "rows_counted", "check_rows", "checked_table", "range_sizes", "hangs_on", "product_of", "hung_number", "knot_rows"] : List PySem.Str) ((["knot_number", "_law_draws", "_law_take", "_law_choose", "_law_power", "_law_rows_number", "_law_due", "_law_said", "_law_is", "_law_listed_right", "_law_caught", "_law_refusals"] : List PySem.Str))
theorem run (w : World) : HandSHeadRun.RunEq (PySem.W.OpenLaw.row row) (PySem.W.view row.prog [45]) hk ob 3000 loose w := by
  intro os
  kernel_rfl
end K25
namespace K25
open MP PySem L2 PySem.Spec PyProof.Rows
section
variable {K : Fr} {h : Heap} {mg : Str → Option Value}
def P_tupled : List Str := ["x"]
theorem sc_tupled : FnScope N_tupled P_tupled (defScope (top 1)) := ⟨rfl, rfl, rfl, by decide +kernel, rfl, by decide +kernel, by decide +kernel⟩
theorem row_tupled (X : K.In h) (G : h.Ns mainGlobals mg) (c : He.SaysD fa fn K) : FnRow K mg T cn L ⟨"tupled", 1, 4, [], b_tupled⟩ := by
  obtain ⟨fd, F⟩ := c.def_ 0 rfl
  refine ⟨⟨He.fAd K ("tupled", none), fd, P_tupled, N_tupled, "tupled", defArgs (top 1), defBody (top 1), defScope (top 1), _, _, He.glo_ok X G (c.fact 0 (f := .glo "tupled") rfl), rfl, rfl, F, sc_tupled, ck_tupled, fun n h1 h2 => ?_⟩⟩
  obtain rfl : n = 1 := by
    have h1 : n ≤ 1 := h1
    have h2 : 1 ≤ n + 0 := h2
    omega
  exact ⟨[], [], rfl, .nil, rfl, F.bindsN fun _ _ _ _ _ _ us hl => match us, hl with | [_], _ => rfl⟩
def P_is_int : List Str := ["x"]
theorem sc_is_int : FnScope N_is_int P_is_int (defScope (top 10)) := ⟨rfl, rfl, rfl, by decide +kernel, rfl, by decide +kernel, by decide +kernel⟩
theorem row_is_int (X : K.In h) (G : h.Ns mainGlobals mg) (c : He.SaysD fa fn K) : FnRow K mg T cn L ⟨"is_int", 1, 1, [], b_is_int⟩ := by
  obtain ⟨fd, F⟩ := c.def_ 5 rfl
  refine ⟨⟨He.fAd K ("is_int", none), fd, P_is_int, N_is_int, "is_int", defArgs (top 10), defBody (top 10), defScope (top 10), _, _, He.glo_ok X G (c.fact 8 (f := .glo "is_int") rfl), rfl, rfl, F, sc_is_int, ck_is_int, fun n h1 h2 => ?_⟩⟩
  obtain rfl : n = 1 := by
    have h1 : n ≤ 1 := h1
    have h2 : 1 ≤ n + 0 := h2
    omega
  exact ⟨[], [], rfl, .nil, rfl, F.bindsN fun _ _ _ _ _ _ us hl => match us, hl with | [_], _ => rfl⟩
def P_has_signs : List Str := ["x", "most"]
theorem sc_has_signs : FnScope N_has_signs P_has_signs (defScope (top 11)) := ⟨rfl, rfl, rfl, by decide +kernel, rfl, by decide +kernel, by decide +kernel⟩
theorem row_has_signs (X : K.In h) (G : h.Ns mainGlobals mg) (c : He.SaysD fa fn K) : FnRow K mg T cn L ⟨"has_signs", 2, 3, [], b_has_signs⟩ := by
  obtain ⟨fd, F⟩ := c.def_ 6 rfl
  refine ⟨⟨He.fAd K ("has_signs", none), fd, P_has_signs, N_has_signs, "has_signs", defArgs (top 11), defBody (top 11), defScope (top 11), _, _, He.glo_ok X G (c.fact 9 (f := .glo "has_signs") rfl), rfl, rfl, F, sc_has_signs, ck_has_signs, fun n h1 h2 => ?_⟩⟩
  obtain rfl : n = 2 := by
    have h1 : n ≤ 2 := h1
    have h2 : 2 ≤ n + 0 := h2
    omega
  exact ⟨[], [], rfl, .nil, rfl, F.bindsN fun _ _ _ _ _ _ us hl => match us, hl with | [_, _], _ => rfl⟩
def P_is_word : List Str := ["x"]
theorem sc_is_word : FnScope N_is_word P_is_word (defScope (top 12)) := ⟨rfl, rfl, rfl, by decide +kernel, rfl, by decide +kernel, by decide +kernel⟩
theorem row_is_word (X : K.In h) (G : h.Ns mainGlobals mg) (c : He.SaysD fa fn K) : FnRow K mg T cn L ⟨"is_word", 1, 1, [], b_is_word⟩ := by
  obtain ⟨fd, F⟩ := c.def_ 7 rfl
  refine ⟨⟨He.fAd K ("is_word", none), fd, P_is_word, N_is_word, "is_word", defArgs (top 12), defBody (top 12), defScope (top 12), _, _, He.glo_ok X G (c.fact 10 (f := .glo "is_word") rfl), rfl, rfl, F, sc_is_word, ck_is_word, fun n h1 h2 => ?_⟩⟩
  obtain rfl : n = 1 := by
    have h1 : n ≤ 1 := h1
    have h2 : 1 ≤ n + 0 := h2
    omega
  exact ⟨[], [], rfl, .nil, rfl, F.bindsN fun _ _ _ _ _ _ us hl => match us, hl with | [_], _ => rfl⟩
def P_is_name : List Str := ["x"]
theorem sc_is_name : FnScope N_is_name P_is_name (defScope (top 13)) := ⟨rfl, rfl, rfl, by decide +kernel, rfl, by decide +kernel, by decide +kernel⟩
theorem row_is_name (X : K.In h) (G : h.Ns mainGlobals mg) (c : He.SaysD fa fn K) : FnRow K mg T cn L ⟨"is_name", 1, 1, [], b_is_name⟩ := by
  obtain ⟨fd, F⟩ := c.def_ 8 rfl
  refine ⟨⟨He.fAd K ("is_name", none), fd, P_is_name, N_is_name, "is_name", defArgs (top 13), defBody (top 13), defScope (top 13), _, _, He.glo_ok X G (c.fact 11 (f := .glo "is_name") rfl), rfl, rfl, F, sc_is_name, ck_is_name, fun n h1 h2 => ?_⟩⟩
  obtain rfl : n = 1 := by
    have h1 : n ≤ 1 := h1
    have h2 : 1 ≤ n + 0 := h2
    omega
  exact ⟨[], [], rfl, .nil, rfl, F.bindsN fun _ _ _ _ _ _ us hl => match us, hl with | [_], _ => rfl⟩
def P_check_number : List Str := ["x", "least", "most"]
theorem sc_check_number : FnScope N_check_number P_check_number (defScope (top 14)) := ⟨rfl, rfl, rfl, by decide +kernel, rfl, by decide +kernel, by decide +kernel⟩
theorem row_check_number (X : K.In h) (G : h.Ns mainGlobals mg) (c : He.SaysD fa fn K) : FnRow K mg T cn L ⟨"check_number", 3, 3, [.non], b_check_number⟩ := by
  obtain ⟨fd, F⟩ := c.def_ 9 rfl
  refine ⟨⟨He.fAd K ("check_number", none), fd, P_check_number, N_check_number, "check_number", defArgs (top 14), defBody (top 14), defScope (top 14), _, _, He.glo_ok X G (c.fact 12 (f := .glo "check_number") rfl), rfl, rfl, F, sc_check_number, ck_check_number, fun n h1 h2 => ?_⟩⟩
  have h1 : n ≤ 3 := h1
  have h2 : 3 ≤ n + 1 := h2
  rcases (by omega : n = 2 ∨ n = 3) with rfl | rfl
  · obtain ⟨ds, r, b⟩ := F.binds1 (ps := P_check_number) 2 0 (by intro z; cases z) rfl fun _ _ _ _ _ _ _ us its h1 h2 => match us, its, h1, h2 with | [_, _], [_], _, _ => ⟨_, rfl, rfl⟩
    exact ⟨_, ds, rfl, r, rfl, b⟩
  · obtain ⟨ds, r, b⟩ := F.binds1 (ps := P_check_number) 3 1 (by intro z; cases z) rfl fun _ _ _ _ _ _ _ us its h1 h2 => match us, its, h1, h2 with | [_, _, _], [_], _, _ => ⟨_, rfl, rfl⟩
    exact ⟨_, ds, rfl, r, rfl, b⟩
def P_is_range : List Str := ["x"]
theorem sc_is_range : FnScope N_is_range P_is_range (defScope (top 16)) := ⟨rfl, rfl, rfl, by decide +kernel, rfl, by decide +kernel, by decide +kernel⟩
theorem row_is_range (X : K.In h) (G : h.Ns mainGlobals mg) (c : He.SaysD fa fn K) : FnRow K mg T cn L ⟨"is_range", 1, 3, [], b_is_range⟩ := by
  obtain ⟨fd, F⟩ := c.def_ 10 rfl
  refine ⟨⟨He.fAd K ("is_range", none), fd, P_is_range, N_is_range, "is_range", defArgs (top 16), defBody (top 16), defScope (top 16), _, _, He.glo_ok X G (c.fact 13 (f := .glo "is_range") rfl), rfl, rfl, F, sc_is_range, ck_is_range, fun n h1 h2 => ?_⟩⟩
  obtain rfl : n = 1 := by
    have h1 : n ≤ 1 := h1
    have h2 : 1 ≤ n + 0 := h2
    omega
  exact ⟨[], [], rfl, .nil, rfl, F.bindsN fun _ _ _ _ _ _ us hl => match us, hl with | [_], _ => rfl⟩
def P_names_fault : List Str := ["names"]
theorem sc_names_fault : FnScope N_names_fault P_names_fault (defScope (top 17)) := ⟨rfl, rfl, rfl, by decide +kernel, rfl, by decide +kernel, by decide +kernel⟩
theorem row_names_fault (X : K.In h) (G : h.Ns mainGlobals mg) (c : He.SaysD fa fn K) : FnRow K mg T cn L ⟨"names_fault", 1, 4, [], b_names_fault⟩ := by
  obtain ⟨fd, F⟩ := c.def_ 11 rfl
  refine ⟨⟨He.fAd K ("names_fault", none), fd, P_names_fault, N_names_fault, "names_fault", defArgs (top 17), defBody (top 17), defScope (top 17), _, _, He.glo_ok X G (c.fact 14 (f := .glo "names_fault") rfl), rfl, rfl, F, sc_names_fault, ck_names_fault, fun n h1 h2 => ?_⟩⟩
  obtain rfl : n = 1 := by
    have h1 : n ≤ 1 := h1
    have h2 : 1 ≤ n + 0 := h2
    omega
  exact ⟨[], [], rfl, .nil, rfl, F.bindsN fun _ _ _ _ _ _ us hl => match us, hl with | [_], _ => rfl⟩
def P_check_names : List Str := ["names"]
theorem sc_check_names : FnScope N_check_names P_check_names (defScope (top 18)) := ⟨rfl, rfl, rfl, by decide +kernel, rfl, by decide +kernel, by decide +kernel⟩
theorem row_check_names (X : K.In h) (G : h.Ns mainGlobals mg) (c : He.SaysD fa fn K) : FnRow K mg T cn L ⟨"check_names", 1, 2, [], b_check_names⟩ := by
  obtain ⟨fd, F⟩ := c.def_ 12 rfl
  refine ⟨⟨He.fAd K ("check_names", none), fd, P_check_names, N_check_names, "check_names", defArgs (top 18), defBody (top 18), defScope (top 18), _, _, He.glo_ok X G (c.fact 15 (f := .glo "check_names") rfl), rfl, rfl, F, sc_check_names, ck_check_names, fun n h1 h2 => ?_⟩⟩
  obtain rfl : n = 1 := by
    have h1 : n ≤ 1 := h1
    have h2 : 1 ≤ n + 0 := h2
    omega
  exact ⟨[], [], rfl, .nil, rfl, F.bindsN fun _ _ _ _ _ _ us hl => match us, hl with | [_], _ => rfl⟩
def P_parted_ranks : List Str := ["sizes", "values", "k"]
theorem sc_parted_ranks : FnScope N_parted_ranks P_parted_ranks (defScope (top 20)) := ⟨rfl, rfl, rfl, by decide +kernel, rfl, by decide +kernel, by decide +kernel⟩
theorem row_parted_ranks (X : K.In h) (G : h.Ns mainGlobals mg) (c : He.SaysD fa fn K) : FnRow K mg T cn L ⟨"parted_ranks", 3, 7, [], b_parted_ranks⟩ := by
  obtain ⟨fd, F⟩ := c.def_ 13 rfl
  refine ⟨⟨He.fAd K ("parted_ranks", none), fd, P_parted_ranks, N_parted_ranks, "parted_ranks", defArgs (top 20), defBody (top 20), defScope (top 20), _, _, He.glo_ok X G (c.fact 16 (f := .glo "parted_ranks") rfl), rfl, rfl, F, sc_parted_ranks, ck_parted_ranks, fun n h1 h2 => ?_⟩⟩
  obtain rfl : n = 3 := by
    have h1 : n ≤ 3 := h1
    have h2 : 3 ≤ n + 0 := h2
    omega
  exact ⟨[], [], rfl, .nil, rfl, F.bindsN fun _ _ _ _ _ _ us hl => match us, hl with | [_, _, _], _ => rfl⟩
def P_rows_counted : List Str := ["names"]
theorem sc_rows_counted : FnScope N_rows_counted P_rows_counted (defScope (top 22)) := ⟨rfl, rfl, rfl, by decide +kernel, rfl, by decide +kernel, by decide +kernel⟩
theorem row_rows_counted (X : K.In h) (G : h.Ns mainGlobals mg) (c : He.SaysD fa fn K) : FnRow K mg T cn L ⟨"rows_counted", 1, 3, [], b_rows_counted⟩ := by
  obtain ⟨fd, F⟩ := c.def_ 14 rfl
  refine ⟨⟨He.fAd K ("rows_counted", none), fd, P_rows_counted, N_rows_counted, "rows_counted", defArgs (top 22), defBody (top 22), defScope (top 22), _, _, He.glo_ok X G (c.fact 17 (f := .glo "rows_counted") rfl), rfl, rfl, F, sc_rows_counted, ck_rows_counted, fun n h1 h2 => ?_⟩⟩
  obtain rfl : n = 1 := by
    have h1 : n ≤ 1 := h1
    have h2 : 1 ≤ n + 0 := h2
    omega
  exact ⟨[], [], rfl, .nil, rfl, F.bindsN fun _ _ _ _ _ _ us hl => match us, hl with | [_], _ => rfl⟩
def P_check_rows : List Str := ["names"]
theorem sc_check_rows : FnScope N_check_rows P_check_rows (defScope (top 23)) := ⟨rfl, rfl, rfl, by decide +kernel, rfl, by decide +kernel, by decide +kernel⟩
theorem row_check_rows (X : K.In h) (G : h.Ns mainGlobals mg) (c : He.SaysD fa fn K) : FnRow K mg T cn L ⟨"check_rows", 1, 1, [], b_check_rows⟩ := by
  obtain ⟨fd, F⟩ := c.def_ 15 rfl
  refine ⟨⟨He.fAd K ("check_rows", none), fd, P_check_rows, N_check_rows, "check_rows", defArgs (top 23), defBody (top 23), defScope (top 23), _, _, He.glo_ok X G (c.fact 18 (f := .glo "check_rows") rfl), rfl, rfl, F, sc_check_rows, ck_check_rows, fun n h1 h2 => ?_⟩⟩
  obtain rfl : n = 1 := by
    have h1 : n ≤ 1 := h1
    have h2 : 1 ≤ n + 0 := h2
    omega
  exact ⟨[], [], rfl, .nil, rfl, F.bindsN fun _ _ _ _ _ _ us hl => match us, hl with | [_], _ => rfl⟩
def P_checked_table : List Str := ["names", "table"]
theorem sc_checked_table : FnScope N_checked_table P_checked_table (defScope (top 24)) := ⟨rfl, rfl, rfl, by decide +kernel, rfl, by decide +kernel, by decide +kernel⟩
theorem row_checked_table (X : K.In h) (G : h.Ns mainGlobals mg) (c : He.SaysD fa fn K) : FnRow K mg T cn L ⟨"checked_table", 2, 4, [], b_checked_table⟩ := by
  obtain ⟨fd, F⟩ := c.def_ 16 rfl
  refine ⟨⟨He.fAd K ("checked_table", none), fd, P_checked_table, N_checked_table, "checked_table", defArgs (top 24), defBody (top 24), defScope (top 24), _, _, He.glo_ok X G (c.fact 19 (f := .glo "checked_table") rfl), rfl, rfl, F, sc_checked_table, ck_checked_table, fun n h1 h2 => ?_⟩⟩
  obtain rfl : n = 2 := by
    have h1 : n ≤ 2 := h1
    have h2 : 2 ≤ n + 0 := h2
    omega
  exact ⟨[], [], rfl, .nil, rfl, F.bindsN fun _ _ _ _ _ _ us hl => match us, hl with | [_, _], _ => rfl⟩
def P_range_sizes : List Str := ["names"]
theorem sc_range_sizes : FnScope N_range_sizes P_range_sizes (defScope (top 25)) := ⟨rfl, rfl, rfl, by decide +kernel, rfl, by decide +kernel, by decide +kernel⟩
theorem row_range_sizes (X : K.In h) (G : h.Ns mainGlobals mg) (c : He.SaysD fa fn K) : FnRow K mg T cn L ⟨"range_sizes", 1, 2, [], b_range_sizes⟩ := by
  obtain ⟨fd, F⟩ := c.def_ 17 rfl
  refine ⟨⟨He.fAd K ("range_sizes", none), fd, P_range_sizes, N_range_sizes, "range_sizes", defArgs (top 25), defBody (top 25), defScope (top 25), _, _, He.glo_ok X G (c.fact 20 (f := .glo "range_sizes") rfl), rfl, rfl, F, sc_range_sizes, ck_range_sizes, fun n h1 h2 => ?_⟩⟩
  obtain rfl : n = 1 := by
    have h1 : n ≤ 1 := h1
    have h2 : 1 ≤ n + 0 := h2
    omega
  exact ⟨[], [], rfl, .nil, rfl, F.bindsN fun _ _ _ _ _ _ us hl => match us, hl with | [_], _ => rfl⟩
def P_hangs_on : List Str := ["names", "table"]
theorem sc_hangs_on : FnScope N_hangs_on P_hangs_on (defScope (top 26)) := ⟨rfl, rfl, rfl, by decide +kernel, rfl, by decide +kernel, by decide +kernel⟩
theorem row_hangs_on (X : K.In h) (G : h.Ns mainGlobals mg) (c : He.SaysD fa fn K) : FnRow K mg T cn L ⟨"hangs_on", 2, 7, [], b_hangs_on⟩ := by
  obtain ⟨fd, F⟩ := c.def_ 18 rfl
  refine ⟨⟨He.fAd K ("hangs_on", none), fd, P_hangs_on, N_hangs_on, "hangs_on", defArgs (top 26), defBody (top 26), defScope (top 26), _, _, He.glo_ok X G (c.fact 21 (f := .glo "hangs_on") rfl), rfl, rfl, F, sc_hangs_on, ck_hangs_on, fun n h1 h2 => ?_⟩⟩
  obtain rfl : n = 2 := by
    have h1 : n ≤ 2 := h1
    have h2 : 2 ≤ n + 0 := h2
    omega
  exact ⟨[], [], rfl, .nil, rfl, F.bindsN fun _ _ _ _ _ _ us hl => match us, hl with | [_, _], _ => rfl⟩
def P_product_of : List Str := ["base", "times"]
theorem sc_product_of : FnScope N_product_of P_product_of (defScope (top 28)) := ⟨rfl, rfl, rfl, by decide +kernel, rfl, by decide +kernel, by decide +kernel⟩
theorem row_product_of (X : K.In h) (G : h.Ns mainGlobals mg) (c : He.SaysD fa fn K) : FnRow K mg T cn L ⟨"product_of", 2, 3, [], b_product_of⟩ := by
  obtain ⟨fd, F⟩ := c.def_ 19 rfl
  refine ⟨⟨He.fAd K ("product_of", none), fd, P_product_of, N_product_of, "product_of", defArgs (top 28), defBody (top 28), defScope (top 28), _, _, He.glo_ok X G (c.fact 22 (f := .glo "product_of") rfl), rfl, rfl, F, sc_product_of, ck_product_of, fun n h1 h2 => ?_⟩⟩
  obtain rfl : n = 2 := by
    have h1 : n ≤ 2 := h1
    have h2 : 2 ≤ n + 0 := h2
    omega
  exact ⟨[], [], rfl, .nil, rfl, F.bindsN fun _ _ _ _ _ _ us hl => match us, hl with | [_, _], _ => rfl⟩
def P_hung_number : List Str := ["n", "k", "v"]
theorem sc_hung_number : FnScope N_hung_number P_hung_number (defScope (top 29)) := ⟨rfl, rfl, rfl, by decide +kernel, rfl, by decide +kernel, by decide +kernel⟩
theorem row_hung_number (X : K.In h) (G : h.Ns mainGlobals mg) (c : He.SaysD fa fn K) : FnRow K mg T cn L ⟨"hung_number", 3, 9, [], b_hung_number⟩ := by
  obtain ⟨fd, F⟩ := c.def_ 20 rfl
  refine ⟨⟨He.fAd K ("hung_number", none), fd, P_hung_number, N_hung_number, "hung_number", defArgs (top 29), defBody (top 29), defScope (top 29), _, _, He.glo_ok X G (c.fact 23 (f := .glo "hung_number") rfl), rfl, rfl, F, sc_hung_number, ck_hung_number, fun n h1 h2 => ?_⟩⟩
  obtain rfl : n = 3 := by
    have h1 : n ≤ 3 := h1
    have h2 : 3 ≤ n + 0 := h2
    omega
  exact ⟨[], [], rfl, .nil, rfl, F.bindsN fun _ _ _ _ _ _ us hl => match us, hl with | [_, _, _], _ => rfl⟩
def P_knot_rows : List Str := ["names", "words"]
theorem sc_knot_rows : FnScope N_knot_rows P_knot_rows (defScope (top 31)) := ⟨rfl, rfl, rfl, by decide +kernel, rfl, by decide +kernel, by decide +kernel⟩
theorem row_knot_rows (X : K.In h) (G : h.Ns mainGlobals mg) (c : He.SaysD fa fn K) : FnRow K mg T cn L ⟨"knot_rows", 2, 12, [], b_knot_rows⟩ := by
  obtain ⟨fd, F⟩ := c.def_ 21 rfl
  refine ⟨⟨He.fAd K ("knot_rows", none), fd, P_knot_rows, N_knot_rows, "knot_rows", defArgs (top 31), defBody (top 31), defScope (top 31), _, _, He.glo_ok X G (c.fact 24 (f := .glo "knot_rows") rfl), rfl, rfl, F, sc_knot_rows, ck_knot_rows, fun n h1 h2 => ?_⟩⟩
  obtain rfl : n = 2 := by
    have h1 : n ≤ 2 := h1
    have h2 : 2 ≤ n + 0 := h2
    omega
  exact ⟨[], [], rfl, .nil, rfl, F.bindsN fun _ _ _ _ _ _ us hl => match us, hl with | [_, _], _ => rfl⟩
def P_knot_number : List Str := ["names", "table"]
theorem sc_knot_number : FnScope N_knot_number P_knot_number (defScope (top 32)) := ⟨rfl, rfl, rfl, by decide +kernel, rfl, by decide +kernel, by decide +kernel⟩
theorem row_knot_number (X : K.In h) (G : h.Ns mainGlobals mg) (c : He.SaysD fa fn K) : FnRow K mg T cn L ⟨"knot_number", 2, 4, [], b_knot_number⟩ := by
  obtain ⟨fd, F⟩ := c.def_ 22 rfl
  refine ⟨⟨He.fAd K ("knot_number", none), fd, P_knot_number, N_knot_number, "knot_number", defArgs (top 32), defBody (top 32), defScope (top 32), _, _, He.glo_ok X G (c.fact 25 (f := .glo "knot_number") rfl), rfl, rfl, F, sc_knot_number, ck_knot_number, fun n h1 h2 => ?_⟩⟩
  obtain rfl : n = 2 := by
    have h1 : n ≤ 2 := h1
    have h2 : 2 ≤ n + 0 := h2
    omega
  exact ⟨[], [], rfl, .nil, rfl, F.bindsN fun _ _ _ _ _ _ us hl => match us, hl with | [_, _], _ => rfl⟩
def P__law_draws : List Str := ["script"]
theorem sc__law_draws : FnScope N__law_draws P__law_draws (defScope (top 34)) := ⟨rfl, rfl, rfl, by decide +kernel, rfl, by decide +kernel, by decide +kernel⟩
theorem row__law_draws (X : K.In h) (G : h.Ns mainGlobals mg) (c : He.SaysD fa fn K) : FnRow K mg T cn L ⟨"_law_draws", 1, 5, [], b_law_draws⟩ := by
  obtain ⟨fd, F⟩ := c.def_ 23 rfl
  refine ⟨⟨He.fAd K ("_law_draws", none), fd, P__law_draws, N__law_draws, "_law_draws", defArgs (top 34), defBody (top 34), defScope (top 34), _, _, He.glo_ok X G (c.fact 26 (f := .glo "_law_draws") rfl), rfl, rfl, F, sc__law_draws, ck__law_draws, fun n h1 h2 => ?_⟩⟩
  obtain rfl : n = 1 := by
    have h1 : n ≤ 1 := h1
    have h2 : 1 ≤ n + 0 := h2
    omega
  exact ⟨[], [], rfl, .nil, rfl, F.bindsN fun _ _ _ _ _ _ us hl => match us, hl with | [_], _ => rfl⟩
def P__law_take : List Str := ["draws", "many"]
theorem sc__law_take : FnScope N__law_take P__law_take (defScope (top 35)) := ⟨rfl, rfl, rfl, by decide +kernel, rfl, by decide +kernel, by decide +kernel⟩
theorem row__law_take (X : K.In h) (G : h.Ns mainGlobals mg) (c : He.SaysD fa fn K) : FnRow K mg T cn L ⟨"_law_take", 2, 3, [], b_law_take⟩ := by
  obtain ⟨fd, F⟩ := c.def_ 24 rfl
  refine ⟨⟨He.fAd K ("_law_take", none), fd, P__law_take, N__law_take, "_law_take", defArgs (top 35), defBody (top 35), defScope (top 35), _, _, He.glo_ok X G (c.fact 27 (f := .glo "_law_take") rfl), rfl, rfl, F, sc__law_take, ck__law_take, fun n h1 h2 => ?_⟩⟩
  obtain rfl : n = 2 := by
    have h1 : n ≤ 2 := h1
    have h2 : 2 ≤ n + 0 := h2
    omega
  exact ⟨[], [], rfl, .nil, rfl, F.bindsN fun _ _ _ _ _ _ us hl => match us, hl with | [_, _], _ => rfl⟩
def P__law_choose : List Str := ["n", "k"]
theorem sc__law_choose : FnScope N__law_choose P__law_choose (defScope (top 36)) := ⟨rfl, rfl, rfl, by decide +kernel, rfl, by decide +kernel, by decide +kernel⟩
theorem row__law_choose (X : K.In h) (G : h.Ns mainGlobals mg) (c : He.SaysD fa fn K) : FnRow K mg T cn L ⟨"_law_choose", 2, 4, [], b_law_choose⟩ := by
  obtain ⟨fd, F⟩ := c.def_ 25 rfl
  refine ⟨⟨He.fAd K ("_law_choose", none), fd, P__law_choose, N__law_choose, "_law_choose", defArgs (top 36), defBody (top 36), defScope (top 36), _, _, He.glo_ok X G (c.fact 28 (f := .glo "_law_choose") rfl), rfl, rfl, F, sc__law_choose, ck__law_choose, fun n h1 h2 => ?_⟩⟩
  obtain rfl : n = 2 := by
    have h1 : n ≤ 2 := h1
    have h2 : 2 ≤ n + 0 := h2
    omega
  exact ⟨[], [], rfl, .nil, rfl, F.bindsN fun _ _ _ _ _ _ us hl => match us, hl with | [_, _], _ => rfl⟩
def P__law_power : List Str := ["base", "many"]
theorem sc__law_power : FnScope N__law_power P__law_power (defScope (top 37)) := ⟨rfl, rfl, rfl, by decide +kernel, rfl, by decide +kernel, by decide +kernel⟩
theorem row__law_power (X : K.In h) (G : h.Ns mainGlobals mg) (c : He.SaysD fa fn K) : FnRow K mg T cn L ⟨"_law_power", 2, 6, [], b_law_power⟩ := by
  obtain ⟨fd, F⟩ := c.def_ 26 rfl
  refine ⟨⟨He.fAd K ("_law_power", none), fd, P__law_power, N__law_power, "_law_power", defArgs (top 37), defBody (top 37), defScope (top 37), _, _, He.glo_ok X G (c.fact 29 (f := .glo "_law_power") rfl), rfl, rfl, F, sc__law_power, ck__law_power, fun n h1 h2 => ?_⟩⟩
  obtain rfl : n = 2 := by
    have h1 : n ≤ 2 := h1
    have h2 : 2 ≤ n + 0 := h2
    omega
  exact ⟨[], [], rfl, .nil, rfl, F.bindsN fun _ _ _ _ _ _ us hl => match us, hl with | [_, _], _ => rfl⟩
def P__law_rows_number : List Str := ["n", "k"]
theorem sc__law_rows_number : FnScope N__law_rows_number P__law_rows_number (defScope (top 38)) := ⟨rfl, rfl, rfl, by decide +kernel, rfl, by decide +kernel, by decide +kernel⟩
theorem row__law_rows_number (X : K.In h) (G : h.Ns mainGlobals mg) (c : He.SaysD fa fn K) : FnRow K mg T cn L ⟨"_law_rows_number", 2, 4, [], b_law_rows_number⟩ := by
  obtain ⟨fd, F⟩ := c.def_ 27 rfl
  refine ⟨⟨He.fAd K ("_law_rows_number", none), fd, P__law_rows_number, N__law_rows_number, "_law_rows_number", defArgs (top 38), defBody (top 38), defScope (top 38), _, _, He.glo_ok X G (c.fact 30 (f := .glo "_law_rows_number") rfl), rfl, rfl, F, sc__law_rows_number, ck__law_rows_number, fun n h1 h2 => ?_⟩⟩
  obtain rfl : n = 2 := by
    have h1 : n ≤ 2 := h1
    have h2 : 2 ≤ n + 0 := h2
    omega
  exact ⟨[], [], rfl, .nil, rfl, F.bindsN fun _ _ _ _ _ _ us hl => match us, hl with | [_, _], _ => rfl⟩
def P__law_due : List Str := ["n", "k", "v"]
theorem sc__law_due : FnScope N__law_due P__law_due (defScope (top 39)) := ⟨rfl, rfl, rfl, by decide +kernel, rfl, by decide +kernel, by decide +kernel⟩
theorem row__law_due (X : K.In h) (G : h.Ns mainGlobals mg) (c : He.SaysD fa fn K) : FnRow K mg T cn L ⟨"_law_due", 3, 6, [], b_law_due⟩ := by
  obtain ⟨fd, F⟩ := c.def_ 28 rfl
  refine ⟨⟨He.fAd K ("_law_due", none), fd, P__law_due, N__law_due, "_law_due", defArgs (top 39), defBody (top 39), defScope (top 39), _, _, He.glo_ok X G (c.fact 31 (f := .glo "_law_due") rfl), rfl, rfl, F, sc__law_due, ck__law_due, fun n h1 h2 => ?_⟩⟩
  obtain rfl : n = 3 := by
    have h1 : n ≤ 3 := h1
    have h2 : 3 ≤ n + 0 := h2
    omega
  exact ⟨[], [], rfl, .nil, rfl, F.bindsN fun _ _ _ _ _ _ us hl => match us, hl with | [_, _, _], _ => rfl⟩
def P__law_said : List Str := ["told", "due"]
theorem sc__law_said : FnScope N__law_said P__law_said (defScope (top 40)) := ⟨rfl, rfl, rfl, by decide +kernel, rfl, by decide +kernel, by decide +kernel⟩
theorem row__law_said (X : K.In h) (G : h.Ns mainGlobals mg) (c : He.SaysD fa fn K) : FnRow K mg T cn L ⟨"_law_said", 2, 2, [], b_law_said⟩ := by
  obtain ⟨fd, F⟩ := c.def_ 29 rfl
  refine ⟨⟨He.fAd K ("_law_said", none), fd, P__law_said, N__law_said, "_law_said", defArgs (top 40), defBody (top 40), defScope (top 40), _, _, He.glo_ok X G (c.fact 32 (f := .glo "_law_said") rfl), rfl, rfl, F, sc__law_said, ck__law_said, fun n h1 h2 => ?_⟩⟩
  obtain rfl : n = 2 := by
    have h1 : n ≤ 2 := h1
    have h2 : 2 ≤ n + 0 := h2
    omega
  exact ⟨[], [], rfl, .nil, rfl, F.bindsN fun _ _ _ _ _ _ us hl => match us, hl with | [_, _], _ => rfl⟩
def P__law_is : List Str := ["told", "due"]
theorem sc__law_is : FnScope N__law_is P__law_is (defScope (top 41)) := ⟨rfl, rfl, rfl, by decide +kernel, rfl, by decide +kernel, by decide +kernel⟩
theorem row__law_is (X : K.In h) (G : h.Ns mainGlobals mg) (c : He.SaysD fa fn K) : FnRow K mg T cn L ⟨"_law_is", 2, 2, [], b_law_is⟩ := by
  obtain ⟨fd, F⟩ := c.def_ 30 rfl
  refine ⟨⟨He.fAd K ("_law_is", none), fd, P__law_is, N__law_is, "_law_is", defArgs (top 41), defBody (top 41), defScope (top 41), _, _, He.glo_ok X G (c.fact 33 (f := .glo "_law_is") rfl), rfl, rfl, F, sc__law_is, ck__law_is, fun n h1 h2 => ?_⟩⟩
  obtain rfl : n = 2 := by
    have h1 : n ≤ 2 := h1
    have h2 : 2 ≤ n + 0 := h2
    omega
  exact ⟨[], [], rfl, .nil, rfl, F.bindsN fun _ _ _ _ _ _ us hl => match us, hl with | [_, _], _ => rfl⟩
def P__law_listed_right : List Str := ["n", "k", "v"]
theorem sc__law_listed_right : FnScope N__law_listed_right P__law_listed_right (defScope (top 42)) := ⟨rfl, rfl, rfl, by decide +kernel, rfl, by decide +kernel, by decide +kernel⟩
theorem row__law_listed_right (X : K.In h) (G : h.Ns mainGlobals mg) (c : He.SaysD fa fn K) : FnRow K mg T cn L ⟨"_law_listed_right", 3, 13, [], b_law_listed_right⟩ := by
  obtain ⟨fd, F⟩ := c.def_ 31 rfl
  refine ⟨⟨He.fAd K ("_law_listed_right", none), fd, P__law_listed_right, N__law_listed_right, "_law_listed_right", defArgs (top 42), defBody (top 42), defScope (top 42), _, _, He.glo_ok X G (c.fact 34 (f := .glo "_law_listed_right") rfl), rfl, rfl, F, sc__law_listed_right, ck__law_listed_right, fun n h1 h2 => ?_⟩⟩
  obtain rfl : n = 3 := by
    have h1 : n ≤ 3 := h1
    have h2 : 3 ≤ n + 0 := h2
    omega
  exact ⟨[], [], rfl, .nil, rfl, F.bindsN fun _ _ _ _ _ _ us hl => match us, hl with | [_, _, _], _ => rfl⟩
def P__law_caught : List Str := ["n", "k", "v"]
theorem sc__law_caught : FnScope N__law_caught P__law_caught (defScope (top 43)) := ⟨rfl, rfl, rfl, by decide +kernel, rfl, by decide +kernel, by decide +kernel⟩
theorem row__law_caught (X : K.In h) (G : h.Ns mainGlobals mg) (c : He.SaysD fa fn K) : FnRow K mg T cn L ⟨"_law_caught", 3, 6, [], b_law_caught⟩ := by
  obtain ⟨fd, F⟩ := c.def_ 32 rfl
  refine ⟨⟨He.fAd K ("_law_caught", none), fd, P__law_caught, N__law_caught, "_law_caught", defArgs (top 43), defBody (top 43), defScope (top 43), _, _, He.glo_ok X G (c.fact 35 (f := .glo "_law_caught") rfl), rfl, rfl, F, sc__law_caught, ck__law_caught, fun n h1 h2 => ?_⟩⟩
  obtain rfl : n = 3 := by
    have h1 : n ≤ 3 := h1
    have h2 : 3 ≤ n + 0 := h2
    omega
  exact ⟨[], [], rfl, .nil, rfl, F.bindsN fun _ _ _ _ _ _ us hl => match us, hl with | [_, _, _], _ => rfl⟩
def P__law_refusals : List Str := ["pick"]
theorem sc__law_refusals : FnScope N__law_refusals P__law_refusals (defScope (top 44)) := ⟨rfl, rfl, rfl, by decide +kernel, rfl, by decide +kernel, by decide +kernel⟩
theorem row__law_refusals (X : K.In h) (G : h.Ns mainGlobals mg) (c : He.SaysD fa fn K) : FnRow K mg T cn L ⟨"_law_refusals", 1, 8, [], b_law_refusals⟩ := by
  obtain ⟨fd, F⟩ := c.def_ 33 rfl
  refine ⟨⟨He.fAd K ("_law_refusals", none), fd, P__law_refusals, N__law_refusals, "_law_refusals", defArgs (top 44), defBody (top 44), defScope (top 44), _, _, He.glo_ok X G (c.fact 36 (f := .glo "_law_refusals") rfl), rfl, rfl, F, sc__law_refusals, ck__law_refusals, fun n h1 h2 => ?_⟩⟩
  obtain rfl : n = 1 := by
    have h1 : n ≤ 1 := h1
    have h2 : 1 ≤ n + 0 := h2
    omega
  exact ⟨[], [], rfl, .nil, rfl, F.bindsN fun _ _ _ _ _ _ us hl => match us, hl with | [_], _ => rfl⟩
def P_law : List Str := ["script"]
theorem sc_law : FnScope N_law P_law (defScope (top 45)) := ⟨rfl, rfl, rfl, by decide +kernel, rfl, by decide +kernel, by decide +kernel⟩
theorem row_law (X : K.In h) (G : h.Ns mainGlobals mg) (c : He.SaysD fa fn K) : FnRow K mg T cn L ⟨"law", 1, 10, [], b_law⟩ := by
  obtain ⟨fd, F⟩ := c.def_ 34 rfl
  refine ⟨⟨He.fAd K ("law", none), fd, P_law, N_law, "law", defArgs (top 45), defBody (top 45), defScope (top 45), _, _, He.glo_ok X G (c.fact 37 (f := .glo "law") rfl), rfl, rfl, F, sc_law, ck_law, fun n h1 h2 => ?_⟩⟩
  obtain rfl : n = 1 := by
    have h1 : n ≤ 1 := h1
    have h2 : 1 ≤ n + 0 := h2
    omega
  exact ⟨[], [], rfl, .nil, rfl, F.bindsN fun _ _ _ _ _ _ us hl => match us, hl with | [_], _ => rfl⟩
theorem rows (X : K.In h) (G : h.Ns mainGlobals mg) (c : He.SaysD fa fn K) : ∀ (f : Nat) (fn : Fn), T[f]? = some fn → FnRow K mg T cn L fn := by
  intro f fn hf
  match f, hf with
  | 0, hf => cases hf; exact row_tupled X G c
  | 1, hf => cases hf; exact row_is_int X G c
  | 2, hf => cases hf; exact row_has_signs X G c
  | 3, hf => cases hf; exact row_is_word X G c
  | 4, hf => cases hf; exact row_is_name X G c
  | 5, hf => cases hf; exact row_check_number X G c
  | 6, hf => cases hf; exact row_is_range X G c
  | 7, hf => cases hf; exact row_names_fault X G c
  | 8, hf => cases hf; exact row_check_names X G c
  | 9, hf => cases hf; exact row_parted_ranks X G c
  | 10, hf => cases hf; exact row_rows_counted X G c
  | 11, hf => cases hf; exact row_check_rows X G c
  | 12, hf => cases hf; exact row_checked_table X G c
  | 13, hf => cases hf; exact row_range_sizes X G c
  | 14, hf => cases hf; exact row_hangs_on X G c
  | 15, hf => cases hf; exact row_product_of X G c
  | 16, hf => cases hf; exact row_hung_number X G c
  | 17, hf => cases hf; exact row_knot_rows X G c
  | 18, hf => cases hf; exact row_knot_number X G c
  | 19, hf => cases hf; exact row__law_draws X G c
  | 20, hf => cases hf; exact row__law_take X G c
  | 21, hf => cases hf; exact row__law_choose X G c
  | 22, hf => cases hf; exact row__law_power X G c
  | 23, hf => cases hf; exact row__law_rows_number X G c
  | 24, hf => cases hf; exact row__law_due X G c
  | 25, hf => cases hf; exact row__law_said X G c
  | 26, hf => cases hf; exact row__law_is X G c
  | 27, hf => cases hf; exact row__law_listed_right X G c
  | 28, hf => cases hf; exact row__law_caught X G c
  | 29, hf => cases hf; exact row__law_refusals X G c
  | 30, hf => cases hf; exact row_law X G c
  | n + 31, hf => cases hf
theorem csc_BadNumber : FnScope ["self", "at"] ["self", "at"] (defScope (inClass (top 3) 0)) := ⟨rfl, rfl, rfl, by decide +kernel, rfl, by decide +kernel, by decide +kernel⟩
theorem crow_BadNumber (c : He.SaysD fa fn K) (al : allB K L = true) : ClRow K (gOfL K L) T 1 ⟨"BadNumber", "at", 0, [1, 0]⟩ := by
  obtain ⟨fd, F⟩ := c.def_ 1 rfl
  have ib := (allB_cl al (c := 1) rfl).2 (by decide)
  obtain ⟨ib, i3⟩ := Bool.and_eq_true_iff.mp ib
  obtain ⟨i1, i2⟩ := Bool.and_eq_true_iff.mp ib
  exact ⟨oexB_ok i1, _, fd, "self", "at", _, _, _, _, _, of_decide_eq_true i2, of_decide_eq_true i3, F, csc_BadNumber, F.bindsN fun _ _ _ _ _ _ us hl => match us, hl with | [_, _], _ => rfl, by decide +kernel⟩
theorem csc_BadName : FnScope ["self", "at"] ["self", "at"] (defScope (inClass (top 4) 0)) := ⟨rfl, rfl, rfl, by decide +kernel, rfl, by decide +kernel, by decide +kernel⟩
theorem crow_BadName (c : He.SaysD fa fn K) (al : allB K L = true) : ClRow K (gOfL K L) T 2 ⟨"BadName", "at", 0, [2, 0]⟩ := by
  obtain ⟨fd, F⟩ := c.def_ 2 rfl
  have ib := (allB_cl al (c := 2) rfl).2 (by decide)
  obtain ⟨ib, i3⟩ := Bool.and_eq_true_iff.mp ib
  obtain ⟨i1, i2⟩ := Bool.and_eq_true_iff.mp ib
  exact ⟨oexB_ok i1, _, fd, "self", "at", _, _, _, _, _, of_decide_eq_true i2, of_decide_eq_true i3, F, csc_BadName, F.bindsN fun _ _ _ _ _ _ us hl => match us, hl with | [_, _], _ => rfl, by decide +kernel⟩
theorem csc_BadCase : FnScope ["self", "at"] ["self", "at"] (defScope (inClass (top 5) 0)) := ⟨rfl, rfl, rfl, by decide +kernel, rfl, by decide +kernel, by decide +kernel⟩
theorem crow_BadCase (c : He.SaysD fa fn K) (al : allB K L = true) : ClRow K (gOfL K L) T 3 ⟨"BadCase", "at", 0, [3, 0]⟩ := by
  obtain ⟨fd, F⟩ := c.def_ 3 rfl
  have ib := (allB_cl al (c := 3) rfl).2 (by decide)
  obtain ⟨ib, i3⟩ := Bool.and_eq_true_iff.mp ib
  obtain ⟨i1, i2⟩ := Bool.and_eq_true_iff.mp ib
  exact ⟨oexB_ok i1, _, fd, "self", "at", _, _, _, _, _, of_decide_eq_true i2, of_decide_eq_true i3, F, csc_BadCase, F.bindsN fun _ _ _ _ _ _ us hl => match us, hl with | [_, _], _ => rfl, by decide +kernel⟩
theorem csc_TooMany : FnScope ["self", "limit"] ["self", "limit"] (defScope (inClass (top 6) 0)) := ⟨rfl, rfl, rfl, by decide +kernel, rfl, by decide +kernel, by decide +kernel⟩
theorem crow_TooMany (c : He.SaysD fa fn K) (al : allB K L = true) : ClRow K (gOfL K L) T 4 ⟨"TooMany", "limit", 0, [4, 0]⟩ := by
  obtain ⟨fd, F⟩ := c.def_ 4 rfl
  have ib := (allB_cl al (c := 4) rfl).2 (by decide)
  obtain ⟨ib, i3⟩ := Bool.and_eq_true_iff.mp ib
  obtain ⟨i1, i2⟩ := Bool.and_eq_true_iff.mp ib
  exact ⟨oexB_ok i1, _, fd, "self", "limit", _, _, _, _, _, of_decide_eq_true i2, of_decide_eq_true i3, F, csc_TooMany, F.bindsN fun _ _ _ _ _ _ us hl => match us, hl with | [_, _], _ => rfl, by decide +kernel⟩
theorem crows (c : He.SaysD fa fn K) (al : allB K L = true) : ∀ (i : Nat) (cl : Cl), L[i]? = some cl → cl.conv < T.length → ClRow K (gOfL K L) T i cl := by
  intro i cl hi lt
  match i, hi with
  | 0, hi => cases hi; exact absurd lt (by decide)
  | 1, hi => cases hi; exact crow_BadNumber c al
  | 2, hi => cases hi; exact crow_BadName c al
  | 3, hi => cases hi; exact crow_BadCase c al
  | 4, hi => cases hi; exact crow_TooMany c al
  | n + 5, hi => cases hi
theorem side [Wd] {w : World} (hw : w = Wd.w) (X : K.In h) (G : h.Ns mainGlobals mg) (c : He.SaysD fa fn K) : Side w mg cn C := by
  refine ⟨hw, fun x hx => ?_, fun i x v h1 h2 => ?_, rfl⟩
  · simp only [bltNames, List.mem_cons, List.not_mem_nil, or_false] at hx
    rcases hx with rfl | rfl | rfl | rfl | rfl | rfl | rfl | rfl | rfl | rfl | rfl | rfl
    · exact He.free_ok X G (c.fact 38 (f := .free "len") rfl)
    · exact He.free_ok X G (c.fact 39 (f := .free "tuple") rfl)
    · exact He.free_ok X G (c.fact 40 (f := .free "list") rfl)
    · exact He.free_ok X G (c.fact 41 (f := .free "str") rfl)
    · exact He.free_ok X G (c.fact 42 (f := .free "int") rfl)
    · exact He.free_ok X G (c.fact 43 (f := .free "repr") rfl)
    · exact He.free_ok X G (c.fact 44 (f := .free "min") rfl)
    · exact He.free_ok X G (c.fact 45 (f := .free "max") rfl)
    · exact He.free_ok X G (c.fact 46 (f := .free "isinstance") rfl)
    · exact He.free_ok X G (c.fact 47 (f := .free "bool") rfl)
    · exact He.free_ok X G (c.fact 48 (f := .free "dict") rfl)
    · exact He.free_ok X G (c.fact 49 (f := .free "range") rfl)
  · match i, h1, h2 with
    | 0, h1, h2 =>
      cases h1
      cases h2
      obtain ⟨t, m⟩ := He.str_ok X G (c.fact 6 (f := .str "LETTERS" "abcdefghijklmnopqrstuvwxyz") rfl)
      exact ⟨_, .str "abcdefghijklmnopqrstuvwxyz", m, by kernel_rfl, ⟨t, rfl⟩⟩
    | 1, h1, h2 =>
      cases h1
      cases h2
      obtain ⟨t, m⟩ := He.str_ok X G (c.fact 7 (f := .str "FIGURES" "0123456789") rfl)
      exact ⟨_, .str "0123456789", m, by kernel_rfl, ⟨t, rfl⟩⟩
    | n + 2, h1, _ => cases h1
/-- every def keeps its promise, at every level -/
theorem gf [Wd] {w : World} {base : Heap} (hw : w = Wd.w) (X : K.In h) (G : h.Ns mainGlobals mg) (c : SaysM fa fn L K) (k : Nat) : Gf row.prog w K mg base (gOfL K L) T k (MP.run C L T k) := by
  obtain ⟨c1, al⟩ := c.both
  exact gf_all dr (side hw X G c1) (rows X G c1) (clE_of X G al) (crows c1 al) k
end
end K25
namespace K25
open MP PySem L2 PySem.Spec PyProof.Rows
def lawP : List MP.St := [
  (.asg 2 (.bin .add (.cst (.int (.ofNat 1))) (.call 20 (.cons (.var 1) (.cons (.cst (.int (.ofNat 8))) .nil))))),
  (.asg 3 (.sub (.lst (.cons (.cst (.int (.ofNat 14))) (.cons (.cst (.int (.ofNat 14))) (.cons (.cst (.int (.ofNat 9))) (.cons (.cst (.int (.ofNat 7))) (.cons (.cst (.int (.ofNat 6))) (.cons (.cst (.int (.ofNat 5))) (.cons (.cst (.int (.ofNat 5))) (.cons (.cst (.int (.ofNat 4))) .nil))))))))) (.bin .sub (.var 2) (.cst (.int (.ofNat 1)))))),
  (.asg 4 (.bin .mod (.call 20 (.cons (.var 1) (.cons (.cst (.int (.ofNat 48))) .nil))) (.bin .add (.var 3) (.cst (.int (.ofNat 1)))))),
  (.ite (.cmp .gt (.call 20 (.cons (.var 1) (.cons (.cst (.int (.ofNat 6))) .nil))) (.cst (.int (.ofNat 0)))) (.cons (.asg 4 (.blt .min (.cons (.var 4) (.cons (.sub (.lst (.cons (.cst (.int (.ofNat 14))) (.cons (.cst (.int (.ofNat 8))) (.cons (.cst (.int (.ofNat 5))) (.cons (.cst (.int (.ofNat 4))) (.cons (.cst (.int (.ofNat 3))) (.cons (.cst (.int (.ofNat 3))) (.cons (.cst (.int (.ofNat 2))) (.cons (.cst (.int (.ofNat 2))) .nil))))))))) (.bin .sub (.var 2) (.cst (.int (.ofNat 1))))) .nil)))) .nil) .nil),
  (.asg 5 (.sub (.lst (.cons (.cst (.int (.ofNat 2))) (.cons (.cst (.int (.ofNat 1))) (.cons (.cst (.int (.ofNat 3))) (.cons (.cst (.int (.ofNat 7))) (.cons (.bin .pow (.cst (.int (.ofNat 10))) (.cst (.int (.ofNat 6)))) .nil)))))) (.call 20 (.cons (.var 1) (.cons (.cst (.int (.ofNat 5))) .nil))))),
  (.ite (.cmp .gt (.call 23 (.cons (.var 4) (.cons (.var 2) .nil))) (.cst (.int (.ofNat 256)))) (.cons (.asg 5 (.bin .add (.cst (.int (.ofNat 1))) (.call 20 (.cons (.var 1) (.cons (.cst (.int (.ofNat 2))) .nil))))) .nil) .nil),
  (.asg 6 (.call 20 (.cons (.var 1) (.cons (.cst (.int (.ofNat 48))) .nil)))),
  (.asg 7 (.sub (.lst (.cons (.tup (.cons (.cst (.int (.ofNat 2))) (.cons (.cst (.int (.ofNat 2))) (.cons (.cst (.int (.ofNat 2))) .nil)))) (.cons (.tup (.cons (.cst (.int (.ofNat 0))) (.cons (.cst (.int (.ofNat 3))) (.cons (.cst (.int (.ofNat 2))) .nil)))) (.cons (.tup (.cons (.cst (.int (.ofNat 1))) (.cons (.cst (.int (.ofNat 2))) (.cons (.cst (.int (.ofNat 3))) .nil)))) (.cons (.tup (.cons (.cst (.int (.ofNat 1))) (.cons (.cst (.int (.ofNat 4))) (.cons (.cst (.int (.ofNat 3))) .nil)))) (.cons (.tup (.cons (.cst (.int (.ofNat 3))) (.cons (.cst (.int (.ofNat 2))) (.cons (.cst (.int (.ofNat 2))) .nil)))) (.cons (.tup (.cons (.cst (.int (.ofNat 2))) (.cons (.cst (.int (.ofNat 2))) (.cons (.cst (.int (.ofNat 3))) .nil)))) (.cons (.tup (.cons (.cst (.int (.ofNat 1))) (.cons (.cst (.int (.ofNat 8))) (.cons (.cst (.int (.ofNat 2))) .nil)))) (.cons (.tup (.cons (.cst (.int (.ofNat 2))) (.cons (.cst (.int (.ofNat 1))) (.cons (.cst (.int (.ofNat 5))) .nil)))) .nil))))))))) (.call 20 (.cons (.var 1) (.cons (.cst (.int (.ofNat 8))) .nil)))))]
def lawS : Bs := (.cons (.ite (.not (.call 26 (.cons (.call 16 (.cons (.var 4) (.cons (.var 2) (.cons (.var 5) .nil)))) (.cons (.call 24 (.cons (.var 4) (.cons (.var 2) (.cons (.var 5) .nil)))) .nil)))) (.cons (.ret (.cst (.bl false))) .nil) .nil) (.cons (.ite (.cmp .le (.call 23 (.cons (.var 4) (.cons (.var 2) .nil))) (.cst (.int (.ofNat 1024)))) (.cons (.asg 8 (.cst (.int (.ofNat 0)))) (.cons (.forR (.v 9) (.cons (.bin .add (.var 4) (.cst (.int (.ofNat 1)))) .nil) (.cons (.asg 8 (.bin .add (.var 8) (.bin .mul (.call 21 (.cons (.var 4) (.cons (.var 9) .nil))) (.call 16 (.cons (.var 9) (.cons (.var 2) (.cons (.var 5) .nil))))))) .nil)) (.cons (.ite (.cmp .ne (.var 8) (.call 22 (.cons (.var 5) (.cons (.call 23 (.cons (.var 4) (.cons (.var 2) .nil))) .nil)))) (.cons (.ret (.cst (.bl false))) .nil) .nil) .nil))) .nil) (.cons (.ite (.not (.call 27 (.cons (.sub (.var 7) (.cst (.int (.ofNat 0)))) (.cons (.sub (.var 7) (.cst (.int (.ofNat 1)))) (.cons (.sub (.var 7) (.cst (.int (.ofNat 2)))) .nil))))) (.cons (.ret (.cst (.bl false))) .nil) .nil) (.cons (.ret (.call 29 (.cons (.var 6) .nil))) .nil))))
theorem ck_draws : ckDr T cn L (defScope (top 34)) (defBody (top 34)) = true := by decide +kernel
theorem ck_law2 : ckLaw N_law T cn L (defScope (top 45)) lawP lawS (defBody (top 45)) = true := by decide +kernel
/-- what is left to show, in plain Lean -/
def Plain : Prop := ∀ figs : List Int, figs.length ≤ 2000 → (∀ f ∈ figs, 0 ≤ f ∧ f < 48) → ∃ e' h' h2, runsP C L (MP.run C L T 13) (runP C L T 13).2.2 lawP (lawE 10) [.lst (figs.map .int), .lst [.loc 0, .int (.ofNat 0)]] = some (e', h') ∧
  execs C L (MP.run C L T 13) (runP C L T 13).2.2 lawS (pureE e') [] = .rt (.bl true) h2
theorem facts [Wd] (pl : Plain) {w : World} {K : Fr} {h : Heap} {mg : Str → Option Value} {fa : Addr} (hw : w = Wd.w) (X : K.In h) (G : h.Ns mainGlobals mg) (hfa : mg ("law" : Str) = some (.ref fa)) (c : SaysM K25.fa fn L K) :
    ∃ fd : FuncData, (∀ (s : Shared) (v : Value), BindsTo s fd ⟨[v], []⟩ [("script", v)]) ∧ ∀ base : Heap, FnG row.prog w K mg base 14 fa fd ["script"] (MP.spLaw K) := by
  obtain ⟨c1, al⟩ := c.both
  obtain ⟨fd, F⟩ := c1.def_ 34 rfl
  obtain ⟨dd, FD⟩ := c1.def_ 23 rfl
  have e := hfa.symm.trans (He.glo_ok X G (c1.fact 37 (f := .glo "law") rfl))
  cases e
  have b := FunD.bindsA (ps := ["script"]) F fun _ _ _ _ _ _ us hl => match us, hl with | [_], _ => rfl
  refine ⟨fd, fun s v => b s [v] rfl, fun base => ?_⟩
  have sd := side (w := w) hw X G c1
  have ce := clE_of X G al
  have cr := crows c1 al
  have gfA := fun k => gf (w := w) (base := base) hw X G c k
  exact law_fn (k := 12) sd ce cr gfA F sc_law (by decide) (dr_fn (k := 12) sd ce cr gfA FD sc__law_draws ck_draws) (He.glo_ok X G (c1.fact 26 (f := .glo "_law_draws") rfl)) FD.kp (FD.bindsN fun _ _ _ _ _ _ us hl => match us, hl with | [_], _ => rfl) ck_law2 pl
end K25
open PySem PySem.W PySem.Calls PyProof.Rows
theorem K25.holds_of (pl : K25.Plain) : PySem.Challenge.rw_wokenpages_k25_hung_numbers_far.Holds := by
  w_on; o_law
  refine HandSHeadRun.head_any (r := OpenLaw.row PySem.Challenge.rw_wokenpages_k25_hung_numbers_far) (q := view (OpenLaw.row PySem.Challenge.rw_wokenpages_k25_hung_numbers_far).prog [45]) (H := K25.hk) (ob := K25.ob) (M := 3000) (loose := K25.loose) (d := HandSHeadRun.topDef (OpenLaw.row PySem.Challenge.rw_wokenpages_k25_hung_numbers_far).prog 45) (kwd := []) K25.ob_eq
    (by kernel_rfl) (fun s => by kernel_rfl) K25.run (by kernel_rfl) (by kernel_rfl) (by kernel_rfl) (by rfl) (by first | assumption | decide +kernel) (by decide +kernel) ⟨rfl, rfl, rfl, rfl, rfl, by decide +kernel⟩ ?hw ?hc
  case hw => w_witness2
  case hc =>
    refine MP.walk_G (l := PySem.Challenge.rw_wokenpages_k25_hung_numbers_far) (n := 63) (k := 14) (x := "script") rfl (by decide) (by kernel_rfl) ⟨rfl, by decide, by decide⟩ ?F
    intro w mg fa h Y G hmg0
    obtain ⟨K, KX, c⟩ := Y
    have hmg : mg ("law" : PySem.Str) = some (.ref fa) := by
      have e : (HandSHeadRun.topDef (OpenLaw.row PySem.Challenge.rw_wokenpages_k25_hung_numbers_far).prog 45).name = ("law" : PySem.Str) := by kernel_rfl
      rw [← e]
      exact hmg0
    letI : MP.Wd := ⟨w⟩
    obtain ⟨fd, hb, hF⟩ := K25.facts pl (w := w) rfl KX G hmg c
    exact ⟨K, fd, MP.spLaw K, KX, hb, fun H a ns hl _ hS => ⟨a, ns, rfl, hS, by omega, fun _ => rfl⟩, fun base _ _ => hF base⟩
namespace K25
open MP PySem L2 PySem.Spec PyProof.Rows
noncomputable section
/-- so many turns of a walk on values alone -/
def stP (w : Wk) (tg : Tg) (b : Sr) : Nat → Nat → Ev → Option Ev
  | 0 => fun _ e => some e
  | n + 1 => fun i e => match w.at_ i [] with
    | some (some x) => (match setTg tg x e with
      | some e1 => (match b e1 [] with
        | .nx e2 _ => forceE e2 fun e3 => stP w tg b n (i + 1) e3
        | _ => none)
      | none => none)
    | _ => none
theorem stP_loop {w : Wk} {tg : Tg} {b : Sr} (m : Nat) : ∀ (n i : Nat) (e : Ev) {e' : Ev}, stP w tg b n i e = some e' → loopP w tg b (n + m) i e [] = loopP w tg b m (i + n) e' []
  | 0, i, e, e', q => by
    cases (show some e = some e' from q)
    rw [Nat.zero_add]; rfl
  | n + 1, i, e, e', q => by
    have q' : (match w.at_ i [] with
      | some (some x) => (match setTg tg x e with
        | some e1 => (match b e1 [] with
          | .nx e2 _ => forceE e2 fun e3 => stP w tg b n (i + 1) e3
          | _ => none)
        | none => none)
      | _ => none) = some e' := q
    have l : loopP w tg b (n + 1 + m) i e [] = lF tg b (fun e' _ => forceE e' fun e2 => loopP w tg b (n + m) (i + 1) e2 []) e [] (w.at_ i []) := by
      rw [show n + 1 + m = (n + m) + 1 by omega]; rfl
    rw [l]
    cases z : w.at_ i [] with
    | none => rw [z] at q'; cases q'
    | some o =>
      cases o with
      | none => rw [z] at q'; cases q'
      | some x =>
        rw [z] at q'
        show lF2 b (fun e' _ => forceE e' fun e2 => loopP w tg b (n + m) (i + 1) e2 []) [] (setTg tg x e) = _
        cases z1 : setTg tg x e with
        | none => simp only [z1] at q'; cases q'
        | some e1 =>
          simp only [z1] at q'
          show after (fun e' _ => forceE e' fun e2 => loopP w tg b (n + m) (i + 1) e2 []) (b e1 []) = _
          cases z2 : b e1 [] with
          | nx e2 h2 =>
            simp only [z2] at q'
            show forceE e2 (fun e2 => loopP w tg b (n + m) (i + 1) e2 []) = _
            rw [forceE_eq]
            rw [forceE_eq] at q'
            rw [stP_loop m n (i + 1) _ q', show i + 1 + n = i + (n + 1) by omega]
          | _ => simp only [z2] at q'; cases q'
abbrev cf1 := MP.run C L T 12
abbrev cf2 := (runP C L T 12).2.2
def bodyL : Bs := match b_law_listed_right with
  | .cons _ (.cons _ (.cons _ (.cons _ (.cons (.forRP _ _ b) _)))) => b
  | _ => .nil
def n_ (n : Nat) : Option PV := some (.int (.ofNat n))
def nam : PV := .tup [.tup [.str ⟨#[110, 48]⟩, .tup [.str ⟨#[48]⟩, .str ⟨#[49]⟩]], .tup [.str ⟨#[110, 49]⟩, .tup [.str ⟨#[48]⟩, .str ⟨#[49]⟩]], .tup [.str ⟨#[110, 50]⟩, .tup [.str ⟨#[48]⟩, .str ⟨#[49]⟩]]]
def eL (many num : Nat) (hung : List PV) (knots : Nat) : Ev := [n_ 3, n_ 2, n_ 2, some nam, n_ 8, n_ 256, n_ many, n_ num, none, n_ 0, n_ 7, some (.tup hung), n_ knots]
def h0 : PV := .str ⟨#[110, 48]⟩
def h1 : PV := .str ⟨#[110, 49]⟩
def h2 : PV := .str ⟨#[110, 50]⟩
abbrev seg (n i : Nat) (e : Ev) : Option Ev := stP (.rng (.ofNat 0) (.ofNat 1) 256) (.v 7) (execs C L cf1 cf2 bodyL) n i e
theorem g1 : seg 64 0 [n_ 3, n_ 2, n_ 2, some nam, n_ 8, n_ 256, n_ 0, none, none, none, none, none, none] = some (eL 52 63 [h0, h1] 2) := by kernel_rfl
theorem g2 : seg 64 64 (eL 52 63 [h0, h1] 2) = some (eL 109 127 [h0, h1, h2] 3) := by kernel_rfl
theorem g3 : seg 64 128 (eL 109 127 [h0, h1, h2] 3) = some (eL 166 191 [h0, h1, h2] 3) := by kernel_rfl
theorem g4 : seg 64 192 (eL 166 191 [h0, h1, h2] 3) = some (eL 218 255 [] 0) := by kernel_rfl
end
end K25
namespace K25
open MP PySem L2 PySem.Spec PyProof.Rows
noncomputable section
def sL : Bs → Nat → MP.St
  | .nil, _ => .pass
  | .cons s _, 0 => s
  | .cons _ b, n + 1 => sL b n
def st0 : Ev := [n_ 3, n_ 2, n_ 2, none, none, none, none, none, none, none, none, none, none]
def E0 : Ev := [n_ 3, n_ 2, n_ 2, some nam, n_ 8, n_ 256, n_ 0, none, none, none, none, none, none]
def H0 : Hv := [.lst [.tup [.str ⟨#[110, 48]⟩, .tup [.str ⟨#[48]⟩, .str ⟨#[49]⟩]], .tup [.str ⟨#[110, 49]⟩, .tup [.str ⟨#[48]⟩, .str ⟨#[49]⟩]], .tup [.str ⟨#[110, 50]⟩, .tup [.str ⟨#[48]⟩, .str ⟨#[49]⟩]]]]
theorem g0 : exec C L cf1 cf2 (sL b_law_listed_right 0) st0 [] = .nx (put st0 3 (some nam)) H0 := by kernel_rfl
theorem g0b : execs C L cf1 cf2 (.cons (sL b_law_listed_right 1) (.cons (sL b_law_listed_right 2) (.cons (sL b_law_listed_right 3) .nil))) (put st0 3 (some nam)) H0 = .nx E0 H0 := by kernel_rfl
theorem g5 : loopP (.rng (.ofNat 0) (.ofNat 1) 256) (.v 7) (execs C L cf1 cf2 bodyL) 999744 256 (eL 218 255 [] 0) [] = .nx (eL 218 255 [] 0) [] := by kernel_rfl
theorem g6 : exec C L cf1 cf2 (sL b_law_listed_right 5) (eL 218 255 [] 0) H0 = .rt (.bl true) H0 := by kernel_rfl
theorem fuel_cut : fuelW = 64 + (64 + (64 + (64 + 999744))) := by unfold fuelW; decide
theorem pure0 : pureE E0 = E0 := rfl
theorem pure4 : pureE (eL 218 255 [] 0) = eL 218 255 [] 0 := rfl
theorem sForP_some (w : Wk) (t : Tg) (b : Sr) (e : Ev) (h : Hv) : sForP (some w) t b e h = outP h (forceE e fun e2 => loopP w t b fuelW 0 e2 []) := rfl
theorem outP_nx (h : Hv) (e : Ev) (h2 : Hv) : outP h (.nx e h2) = .nx (pureE e) h := rfl
theorem ex_forRP (t : Tg) (es : Es) (b : Bs) (e : Ev) (h : Hv) : exec C L cf1 cf2 (.forRP t es b) e h = (evL C cf1 es e h).done e fun vs h1 => sForP (rangeOf vs) t (execs C L cf1 cf2 b) e h1 := rfl
theorem s4_eq : sL b_law_listed_right 4 = .forRP (.v 7) (.cons (.var 5) .nil) bodyL := rfl
theorem ev256 : evL C cf1 (.cons (.var 5) .nil) E0 H0 = .ok [.int (.ofNat 256)] H0 := rfl
theorem rng256 : rangeOf [.int (.ofNat 256)] = some (.rng (.ofNat 0) (.ofNat 1) 256) := rfl
theorem sum256 : 0 + 64 + 64 + 64 + 64 = 256 := rfl
theorem gl : exec C L cf1 cf2 (sL b_law_listed_right 4) E0 H0 = .nx (eL 218 255 [] 0) H0 := by
  rw [s4_eq, ex_forRP, ev256, done_ok, rng256, sForP_some, forceE_eq, pure0, fuel_cut, stP_loop _ 64 0 E0 g1, stP_loop _ 64 (0 + 64) _ g2, stP_loop _ 64 (0 + 64 + 64) _ g3, stP_loop _ 64 (0 + 64 + 64 + 64) _ g4, sum256, g5, outP_nx, pure4]
theorem outI_rt (h : Hv) (v : PV) (h2 : Hv) (p : v.pure = true) : outI h (.rt v h2) = .ok v h := by
  show (if v.pure = true then _ else _) = _
  rw [if_pos p]
theorem tnNx (k : Sr) (e : Ev) (h : Hv) : then_ k (.nx e h) = k e h := rfl
theorem gAll : execs C L cf1 cf2 b_law_listed_right st0 [] = .rt (.bl true) H0 := by
  have st : ∀ e h, execs C L cf1 cf2 b_law_listed_right e h = then_ (fun e h => then_ (fun e h => then_ (fun e h => then_ sNil (exec C L cf1 cf2 (sL b_law_listed_right 5) e h)) (exec C L cf1 cf2 (sL b_law_listed_right 4) e h))
      (execs C L cf1 cf2 (.cons (sL b_law_listed_right 1) (.cons (sL b_law_listed_right 2) (.cons (sL b_law_listed_right 3) .nil))) e h)) (exec C L cf1 cf2 (sL b_law_listed_right 0) e h) := by
    intro e h
    show then_ (fun e h => then_ (fun e h => then_ (fun e h => then_ (fun e h => then_ (fun e h => then_ sNil (exec C L cf1 cf2 (sL b_law_listed_right 5) e h)) (exec C L cf1 cf2 (sL b_law_listed_right 4) e h)) (exec C L cf1 cf2 (sL b_law_listed_right 3) e h))
      (exec C L cf1 cf2 (sL b_law_listed_right 2) e h)) (exec C L cf1 cf2 (sL b_law_listed_right 1) e h)) (exec C L cf1 cf2 (sL b_law_listed_right 0) e h) = _
    have as : ∀ (x : SR) (a b : Sr), then_ (fun e h => then_ b (a e h)) x = then_ b (then_ a x) := by
      intro x a b; cases x <;> rfl
    have as3 : ∀ (e : Ev) (h : Hv) (k : Sr), then_ (fun e h => then_ (fun e h => then_ k (exec C L cf1 cf2 (sL b_law_listed_right 3) e h)) (exec C L cf1 cf2 (sL b_law_listed_right 2) e h)) (exec C L cf1 cf2 (sL b_law_listed_right 1) e h) =
        then_ k (execs C L cf1 cf2 (.cons (sL b_law_listed_right 1) (.cons (sL b_law_listed_right 2) (.cons (sL b_law_listed_right 3) .nil))) e h) := by
      intro e h k
      show _ = then_ k (then_ (fun e h => then_ (fun e h => then_ sNil (exec C L cf1 cf2 (sL b_law_listed_right 3) e h)) (exec C L cf1 cf2 (sL b_law_listed_right 2) e h)) (exec C L cf1 cf2 (sL b_law_listed_right 1) e h))
      have nil : ∀ x, then_ sNil x = x := by intro x; cases x <;> rfl
      simp only [nil]
      rw [as, as]
      exact congrArg (then_ k) (as _ (exec C L cf1 cf2 (sL b_law_listed_right 2)) (exec C L cf1 cf2 (sL b_law_listed_right 3))).symm
    congr 1
    funext e h
    exact as3 e h _
  rw [st, g0, tnNx, g0b, tnNx, gl, tnNx, g6]
  rfl
theorem run_succ (k f : Nat) (vs : List PV) (h : Hv) : MP.run C L T (k + 1) f vs h = goO C L (MP.run C L T k) (runP C L T k).2.2 (nth T f) vs h := rfl
theorem goO_some (cf cf2 : Nat → List PV → Hv → R PV) (fn : Fn) (vs : List PV) (h : Hv) : goO C L cf cf2 (some fn) vs h = goF C L cf cf2 fn (fillD fn.np fn.dfl vs) h := rfl
theorem goF_pure (cf cf2 : Nat → List PV → Hv → R PV) (fn : Fn) (us : List PV) (h : Hv) (h1 : Nat.beq us.length fn.np = true) (h2 : pureL us = true) : goF C L cf cf2 fn us h = outI h (execs C L cf cf2 fn.body (start fn us) []) := by
  unfold goF
  rw [if_pos h1, if_pos h2]
def fn27 : Fn := ⟨"_law_listed_right", 3, 13, [], b_law_listed_right⟩
theorem nth27 : nth T 27 = some fn27 := rfl
theorem fill27 : fillD fn27.np fn27.dfl [.int (.ofNat 3), .int (.ofNat 2), .int (.ofNat 2)] = [.int (.ofNat 3), .int (.ofNat 2), .int (.ofNat 2)] := rfl
theorem body27 : fn27.body = b_law_listed_right := rfl
theorem start27 : start fn27 [.int (.ofNat 3), .int (.ofNat 2), .int (.ofNat 2)] = st0 := rfl
theorem call27 : MP.run C L T 13 27 [.int (.ofNat 3), .int (.ofNat 2), .int (.ofNat 2)] [] = .ok (.bl true) [] := by
  rw [run_succ 12, nth27, goO_some, fill27, goF_pure _ _ _ _ _ rfl rfl, body27, start27, gAll]
  exact outI_rt [] (.bl true) H0 rfl
theorem ex_ite (c : Ex) (a b : Bs) (e : Ev) (h : Hv) (cf cf2 : Nat → List PV → Hv → R PV) : exec C L cf cf2 (.ite c a b) e h = (ev C cf c e h).done e fun x h1 => cBs x (execs C L cf cf2 a e h1) (execs C L cf cf2 b e h1) := rfl
theorem ev_not (a : Ex) (e : Ev) (h : Hv) (cf : Nat → List PV → Hv → R PV) : ev C cf (.not a) e h = (ev C cf a e h).bind fun x h1 => cB x (.ok (.bl false) h1) (.ok (.bl true) h1) := rfl
theorem ev_call (f : Nat) (es : Es) (e : Ev) (h : Hv) (cf : Nat → List PV → Hv → R PV) : ev C cf (.call f es) e h = (evL C cf es e h).bind fun vs h1 => cf f vs h1 := rfl
end
end K25
namespace K25
open MP PySem L2 PySem.Spec PyProof.Rows
noncomputable section
abbrev cfA := MP.run C L T 13
abbrev cfB := (runP C L T 13).2.2
def sAt : Bs → Nat → MP.St
  | .nil, _ => .pass
  | .cons s _, 0 => s
  | .cons _ b, n + 1 => sAt b n
def i (n : Nat) : Option PV := some (.int (.ofNat n))
def envA (k m n v : Nat) (x6 x7 : Option PV) : Ev := [none, none, i k, i m, i n, i v, x6, x7, none, none]
def envB (k m n v : Nat) (x6 x7 : Option PV) : Ev := match Nat.ble (k ^ n) 1024 with
  | true => [none, none, i k, i m, i n, i v, x6, x7, i (v ^ (k ^ n)), i n]
  | false => [none, none, i k, i m, i n, i v, x6, x7, none, none]
def vs (k n : Nat) : List Nat := match Nat.ble (k ^ n) 256 with
  | true => [2, 1, 3, 7, 1000000]
  | false => [1, 2]
def combos (k m : Nat) : List (Nat × Nat) := (List.range (m + 1)).flatMap fun n => (vs k n).map fun v => (n, v)
theorem a1 (x6 x7 : Option PV) : (combos 1 14).map (fun c => runsP C L cfA cfB [sAt lawS 0, sAt lawS 1] (envA 1 14 c.1 c.2 x6 x7) []) = (combos 1 14).map (fun c => some (envB 1 14 c.1 c.2 x6 x7, [])) := by kernel_rfl
theorem a2 (x6 x7 : Option PV) : (combos 2 14).map (fun c => runsP C L cfA cfB [sAt lawS 0, sAt lawS 1] (envA 2 14 c.1 c.2 x6 x7) []) = (combos 2 14).map (fun c => some (envB 2 14 c.1 c.2 x6 x7, [])) := by kernel_rfl
theorem a3 (x6 x7 : Option PV) : (combos 3 9).map (fun c => runsP C L cfA cfB [sAt lawS 0, sAt lawS 1] (envA 3 9 c.1 c.2 x6 x7) []) = (combos 3 9).map (fun c => some (envB 3 9 c.1 c.2 x6 x7, [])) := by kernel_rfl
theorem a4 (x6 x7 : Option PV) : (combos 4 7).map (fun c => runsP C L cfA cfB [sAt lawS 0, sAt lawS 1] (envA 4 7 c.1 c.2 x6 x7) []) = (combos 4 7).map (fun c => some (envB 4 7 c.1 c.2 x6 x7, [])) := by kernel_rfl
theorem a5 (x6 x7 : Option PV) : (combos 5 6).map (fun c => runsP C L cfA cfB [sAt lawS 0, sAt lawS 1] (envA 5 6 c.1 c.2 x6 x7) []) = (combos 5 6).map (fun c => some (envB 5 6 c.1 c.2 x6 x7, [])) := by kernel_rfl
theorem a6 (x6 x7 : Option PV) : (combos 6 5).map (fun c => runsP C L cfA cfB [sAt lawS 0, sAt lawS 1] (envA 6 5 c.1 c.2 x6 x7) []) = (combos 6 5).map (fun c => some (envB 6 5 c.1 c.2 x6 x7, [])) := by kernel_rfl
theorem a7 (x6 x7 : Option PV) : (combos 7 5).map (fun c => runsP C L cfA cfB [sAt lawS 0, sAt lawS 1] (envA 7 5 c.1 c.2 x6 x7) []) = (combos 7 5).map (fun c => some (envB 7 5 c.1 c.2 x6 x7, [])) := by kernel_rfl
theorem a8 (x6 x7 : Option PV) : (combos 8 4).map (fun c => runsP C L cfA cfB [sAt lawS 0, sAt lawS 1] (envA 8 4 c.1 c.2 x6 x7) []) = (combos 8 4).map (fun c => some (envB 8 4 c.1 c.2 x6 x7, [])) := by kernel_rfl
def smalls : List (List PV) := [[.int (.ofNat 2), .int (.ofNat 2), .int (.ofNat 2)], [.int (.ofNat 0), .int (.ofNat 3), .int (.ofNat 2)], [.int (.ofNat 1), .int (.ofNat 2), .int (.ofNat 3)], [.int (.ofNat 1), .int (.ofNat 4), .int (.ofNat 3)],
  [.int (.ofNat 3), .int (.ofNat 2), .int (.ofNat 2)], [.int (.ofNat 2), .int (.ofNat 2), .int (.ofNat 3)], [.int (.ofNat 1), .int (.ofNat 8), .int (.ofNat 2)], [.int (.ofNat 2), .int (.ofNat 1), .int (.ofNat 5)]]
def picks : List Nat := List.range 48
theorem c4 (x2 x3 x4 x5 x7 x8 x9 : Option PV) : picks.map (fun p => exec C L cfA cfB (sAt lawS 3) [none, none, x2, x3, x4, x5, i p, x7, x8, x9] []) = picks.map (fun _ => .rt (.bl true) []) := by kernel_rfl
theorem d0 (x2 x3 x4 x5 x6 x8 x9 : Option PV) : exec C L cfA cfB (sAt lawS 2) [none, none, x2, x3, x4, x5, x6, some (.tup (smalls.getD 0 [])), x8, x9] [] = .nx [none, none, x2, x3, x4, x5, x6, some (.tup (smalls.getD 0 [])), x8, x9] [] := by kernel_rfl
theorem d1 (x2 x3 x4 x5 x6 x8 x9 : Option PV) : exec C L cfA cfB (sAt lawS 2) [none, none, x2, x3, x4, x5, x6, some (.tup (smalls.getD 1 [])), x8, x9] [] = .nx [none, none, x2, x3, x4, x5, x6, some (.tup (smalls.getD 1 [])), x8, x9] [] := by kernel_rfl
theorem d2 (x2 x3 x4 x5 x6 x8 x9 : Option PV) : exec C L cfA cfB (sAt lawS 2) [none, none, x2, x3, x4, x5, x6, some (.tup (smalls.getD 2 [])), x8, x9] [] = .nx [none, none, x2, x3, x4, x5, x6, some (.tup (smalls.getD 2 [])), x8, x9] [] := by kernel_rfl
theorem d3 (x2 x3 x4 x5 x6 x8 x9 : Option PV) : exec C L cfA cfB (sAt lawS 2) [none, none, x2, x3, x4, x5, x6, some (.tup (smalls.getD 3 [])), x8, x9] [] = .nx [none, none, x2, x3, x4, x5, x6, some (.tup (smalls.getD 3 [])), x8, x9] [] := by kernel_rfl
theorem d4 (x2 x3 x4 x5 x6 x8 x9 : Option PV) : exec C L cfA cfB (sAt lawS 2) [none, none, x2, x3, x4, x5, x6, some (.tup (smalls.getD 4 [])), x8, x9] [] = .nx [none, none, x2, x3, x4, x5, x6, some (.tup (smalls.getD 4 [])), x8, x9] [] := by
  rw [show sAt lawS 2 = .ite (.not (.call 27 (.cons (.sub (.var 7) (.cst (.int (.ofNat 0)))) (.cons (.sub (.var 7) (.cst (.int (.ofNat 1)))) (.cons (.sub (.var 7) (.cst (.int (.ofNat 2)))) .nil))))) (.cons (.ret (.cst (.bl false))) .nil) .nil from rfl, ex_ite, ev_not, ev_call,
    show evL C cfA (.cons (.sub (.var 7) (.cst (.int (.ofNat 0)))) (.cons (.sub (.var 7) (.cst (.int (.ofNat 1)))) (.cons (.sub (.var 7) (.cst (.int (.ofNat 2)))) .nil))) [none, none, x2, x3, x4, x5, x6, some (.tup (smalls.getD 4 [])), x8, x9] [] = .ok [.int (.ofNat 3), .int (.ofNat 2), .int (.ofNat 2)] [] from rfl, bind_ok, (show cfA 27 [.int (.ofNat 3), .int (.ofNat 2), .int (.ofNat 2)] [] = .ok (.bl true) [] from call27)]
  rfl
theorem d5 (x2 x3 x4 x5 x6 x8 x9 : Option PV) : exec C L cfA cfB (sAt lawS 2) [none, none, x2, x3, x4, x5, x6, some (.tup (smalls.getD 5 [])), x8, x9] [] = .nx [none, none, x2, x3, x4, x5, x6, some (.tup (smalls.getD 5 [])), x8, x9] [] := by kernel_rfl
theorem d6 (x2 x3 x4 x5 x6 x8 x9 : Option PV) : exec C L cfA cfB (sAt lawS 2) [none, none, x2, x3, x4, x5, x6, some (.tup (smalls.getD 6 [])), x8, x9] [] = .nx [none, none, x2, x3, x4, x5, x6, some (.tup (smalls.getD 6 [])), x8, x9] [] := by kernel_rfl
theorem d7 (x2 x3 x4 x5 x6 x8 x9 : Option PV) : exec C L cfA cfB (sAt lawS 2) [none, none, x2, x3, x4, x5, x6, some (.tup (smalls.getD 7 [])), x8, x9] [] = .nx [none, none, x2, x3, x4, x5, x6, some (.tup (smalls.getD 7 [])), x8, x9] [] := by kernel_rfl
theorem c3 (x2 x3 x4 x5 x6 x8 x9 : Option PV) : smalls.map (fun s => exec C L cfA cfB (sAt lawS 2) [none, none, x2, x3, x4, x5, x6, some (.tup s), x8, x9] []) = smalls.map (fun s => .nx [none, none, x2, x3, x4, x5, x6, some (.tup s), x8, x9] []) := by
  refine List.map_inj_left.mpr fun s hs => ?_
  simp only [smalls, List.mem_cons, List.not_mem_nil, or_false] at hs
  rcases hs with rfl | rfl | rfl | rfl | rfl | rfl | rfl | rfl
  · exact d0 x2 x3 x4 x5 x6 x8 x9
  · exact d1 x2 x3 x4 x5 x6 x8 x9
  · exact d2 x2 x3 x4 x5 x6 x8 x9
  · exact d3 x2 x3 x4 x5 x6 x8 x9
  · exact d4 x2 x3 x4 x5 x6 x8 x9
  · exact d5 x2 x3 x4 x5 x6 x8 x9
  · exact d6 x2 x3 x4 x5 x6 x8 x9
  · exact d7 x2 x3 x4 x5 x6 x8 x9
end
end K25
namespace K25
open MP PySem L2 PySem.Spec PyProof.Rows
noncomputable section
/-- the heap while the law draws -/
def hD (figs : List Int) (at_ : Nat) (r : Hv) : Hv := .lst (figs.map .int) :: .lst [.loc 0, .int (.ofNat at_)] :: r
theorem then_nx (a b : Sr) (e : Ev) (h : Hv) : then_ (sCons a b) (.nx e h) = then_ b (a e h) := rfl
theorem cons_eq (a b : Sr) (e : Ev) (h : Hv) : sCons a b e h = then_ b (a e h) := rfl
theorem take_body (cf cf2 : Nat → List PV → Hv → R PV) (figs : List Int) (hf : ∀ f ∈ figs, 0 ≤ f ∧ f < 48) (at_ m : Nat) (hm : 0 < m) (r : Hv) : ∃ t : Nat, t < m ∧ execs C L cf cf2 b_law_take [some (.loc 1), some (.int (.ofNat m)), none] (hD figs at_ r) = .rt (.int (.ofNat t)) (hD figs (at_ + 1) r) := by
  have s1 : execs C L cf cf2 b_law_take = sCons (sAsg 2 (cSub (cVar 0) (cCst (.int (.ofNat 1))))) (sCons (sSet (cVar 0) (cCst (.int (.ofNat 1))) (cBin .add (cVar 2) (cCst (.int (.ofNat 1)))))
    (sCons (sIte (cCmp .ge (cVar 2) (cBlt .len (cCons (cSub (cVar 0) (cCst (.int (.ofNat 0)))) cNil))) (sCons (sRet (cCst (.int (.ofNat 0)))) sNil) sNil) (sCons (sRet (cBin .mod (cSub (cSub (cVar 0) (cCst (.int (.ofNat 0)))) (cVar 2)) (cVar 1))) sNil))) := rfl
  have a1 : sAsg 2 (cSub (cVar 0) (cCst (.int (.ofNat 1)))) [some (.loc 1), some (.int (.ofNat m)), none] (hD figs at_ r) = .nx [some (.loc 1), some (.int (.ofNat m)), some (.int (.ofNat at_))] (hD figs at_ r) := rfl
  have a2 : sSet (cVar 0) (cCst (.int (.ofNat 1))) (cBin .add (cVar 2) (cCst (.int (.ofNat 1)))) [some (.loc 1), some (.int (.ofNat m)), some (.int (.ofNat at_))] (hD figs at_ r) = .nx [some (.loc 1), some (.int (.ofNat m)), some (.int (.ofNat at_))] (hD figs (at_ + 1) r) := by
    have v : cBin .add (cVar 2) (cCst (.int (.ofNat 1))) [some (.loc 1), some (.int (.ofNat m)), some (.int (.ofNat at_))] (hD figs at_ r) = .ok (.int (.ofNat (at_ + 1))) (hD figs at_ r) := by
      show addI (.ofNat at_) (.ofNat 1) (fun k => (R.ok (PV.int k) (hD figs at_ r) : R PV)) = _
      rw [addI_eq]; rfl
    show (cBin .add (cVar 2) (cCst (.int (.ofNat 1))) [some (.loc 1), some (.int (.ofNat m)), some (.int (.ofNat at_))] (hD figs at_ r)).done _ _ = _
    rw [v]; rfl
  have a3 : sIte (cCmp .ge (cVar 2) (cBlt .len (cCons (cSub (cVar 0) (cCst (.int (.ofNat 0)))) cNil))) (sCons (sRet (cCst (.int (.ofNat 0)))) sNil) sNil [some (.loc 1), some (.int (.ofNat m)), some (.int (.ofNat at_))] (hD figs (at_ + 1) r) =
      if figs.length ≤ at_ then .rt (.int (.ofNat 0)) (hD figs (at_ + 1) r) else .nx [some (.loc 1), some (.int (.ofNat m)), some (.int (.ofNat at_))] (hD figs (at_ + 1) r) := by
    have ln : cBlt .len (cCons (cSub (cVar 0) (cCst (.int (.ofNat 0)))) cNil) [some (.loc 1), some (.int (.ofNat m)), some (.int (.ofNat at_))] (hD figs (at_ + 1) r) = .ok (.int (.ofNat figs.length)) (hD figs (at_ + 1) r) := by
      show forceN (figs.map PV.int).length (fun m => (R.ok (PV.int (.ofNat m)) (hD figs (at_ + 1) r) : R PV)) = _
      rw [forceN_eq, List.length_map]
    show (((R.ok (PV.int (.ofNat at_)) (hD figs (at_ + 1) r) : R PV).bind fun x h1 => (cBlt .len (cCons (cSub (cVar 0) (cCst (.int (.ofNat 0)))) cNil) [some (.loc 1), some (.int (.ofNat m)), some (.int (.ofNat at_))] h1).bind fun y h2 => okB (cmpop .ge x y h2) h2)).done _ _ = _
    rw [bind_ok, ln]
    show cBs (.bl (leI (.ofNat figs.length) (.ofNat at_))) (.rt (.int (.ofNat 0)) (hD figs (at_ + 1) r)) (.nx _ (hD figs (at_ + 1) r)) = _
    rw [leI_eq]
    by_cases z : figs.length ≤ at_
    · rw [if_pos z, decide_eq_true (show Int.ofNat figs.length ≤ Int.ofNat at_ from Int.ofNat_le.mpr z)]; rfl
    · rw [if_neg z, decide_eq_false (show ¬ (Int.ofNat figs.length ≤ Int.ofNat at_) from fun y => z (Int.ofNat_le.mp y))]; rfl
  have st : execs C L cf cf2 b_law_take [some (.loc 1), some (.int (.ofNat m)), none] (hD figs at_ r) = then_ (sCons (sRet (cBin .mod (cSub (cSub (cVar 0) (cCst (.int (.ofNat 0)))) (cVar 2)) (cVar 1))) sNil)
      (if figs.length ≤ at_ then .rt (.int (.ofNat 0)) (hD figs (at_ + 1) r) else .nx [some (.loc 1), some (.int (.ofNat m)), some (.int (.ofNat at_))] (hD figs (at_ + 1) r)) := by
    rw [s1, cons_eq, a1, then_nx, a2, then_nx, a3]
  rw [st]
  by_cases z : figs.length ≤ at_
  · rw [if_pos z]
    exact ⟨0, hm, rfl⟩
  · rw [if_neg z]
    have lt : at_ < figs.length := by omega
    obtain ⟨f0, f1⟩ := hf figs[at_] (List.getElem_mem lt)
    obtain ⟨q, hq⟩ : ∃ q : Nat, figs[at_] = Int.ofNat q := ⟨figs[at_].toNat, by show _ = ((figs[at_].toNat : Nat) : Int); omega⟩
    refine ⟨q % m, Nat.mod_lt _ hm, ?_⟩
    rw [then_nx]
    have v : cSub (cSub (cVar 0) (cCst (.int (.ofNat 0)))) (cVar 2) [some (.loc 1), some (.int (.ofNat m)), some (.int (.ofNat at_))] (hD figs (at_ + 1) r) = .ok (.int (.ofNat q)) (hD figs (at_ + 1) r) := by
      show MP.R.of (nth (figs.map PV.int) at_) (hD figs (at_ + 1) r) = _
      rw [nth_eq, List.getElem?_map, List.getElem?_eq_getElem lt, hq]; rfl
    have w : cBin .mod (cSub (cSub (cVar 0) (cCst (.int (.ofNat 0)))) (cVar 2)) (cVar 1) [some (.loc 1), some (.int (.ofNat m)), some (.int (.ofNat at_))] (hD figs (at_ + 1) r) = .ok (.int (.ofNat (q % m))) (hD figs (at_ + 1) r) := by
      show ((cSub (cSub (cVar 0) (cCst (.int (.ofNat 0)))) (cVar 2) [some (.loc 1), some (.int (.ofNat m)), some (.int (.ofNat at_))] (hD figs (at_ + 1) r)).bind fun x h1 => (cVar 1 [some (.loc 1), some (.int (.ofNat m)), some (.int (.ofNat at_))] h1).bind fun y h2 => binop .mod x y h2) = _
      rw [v]
      show lenLe (ltI (.ofNat 0) (.ofNat m)) (modI (.ofNat q) (.ofNat m) fun k => (R.ok (PV.int k) (hD figs (at_ + 1) r) : R PV)) = _
      rw [modI_eq, ltI_eq, decide_eq_true (show Int.ofNat 0 < Int.ofNat m from Int.ofNat_lt.mpr hm)]; rfl
    show then_ sNil ((cBin .mod (cSub (cSub (cVar 0) (cCst (.int (.ofNat 0)))) (cVar 2)) (cVar 1) [some (.loc 1), some (.int (.ofNat m)), some (.int (.ofNat at_))] (hD figs (at_ + 1) r)).done _ _) = _
    rw [w]; rfl
/-- a draw -/
theorem take (k : Nat) (figs : List Int) (hf : ∀ f ∈ figs, 0 ≤ f ∧ f < 48) (at_ m : Nat) (hm : 0 < m) (r : Hv) : ∃ t : Nat, t < m ∧ MP.run C L T (k + 1) 20 [.loc 1, .int (.ofNat m)] (hD figs at_ r) = .ok (.int (.ofNat t)) (hD figs (at_ + 1) r) := by
  obtain ⟨t, lt, e⟩ := take_body (MP.run C L T k) (runP C L T k).2.2 figs hf at_ m hm r
  refine ⟨t, lt, ?_⟩
  show outS (execs C L (MP.run C L T k) (runP C L T k).2.2 b_law_take [some (.loc 1), some (.int (.ofNat m)), none] (hD figs at_ r)) = _
  rw [e]; rfl
end
end K25
namespace K25
open MP PySem L2 PySem.Spec PyProof.Rows
noncomputable section
theorem idx {es : SmL} {ix : Sm} {E : Ev} {h h2 : Hv} {xs : List PV} {j : Nat} {v : PV} (e1 : es E h = .ok xs h) (e2 : ix E (h ++ [.lst xs]) = .ok (.int (.ofNat j)) h2) (e3 : nth h2 h.length = some (.lst xs)) (e4 : xs[j]? = some v) : cSub (cLst es) ix E h = .ok v h2 := by
  show ((es E h).bind fun vs h1 => (R.ok (PV.loc h1.length) (h1 ++ [HV.lst vs]) : R PV)).bind (fun x h1 => (ix E h1).bind fun y h2 => sub_ x y h2) = _
  rw [e1]
  show (ix E (h ++ [HV.lst xs])).bind (fun y h2 => sub_ (.loc h.length) y h2) = _
  rw [e2]
  show (match nth h2 h.length with
    | some (.lst xs) => subL xs (.int (.ofNat j)) h2
    | some (.dct kvs) => subD kvs (.int (.ofNat j)) h2
    | none => .bad) = _
  rw [e3]
  show MP.R.of (nth xs j) h2 = _
  rw [nth_eq, e4]; rfl
theorem nth_end (h : Hv) (x : HV) : nth (h ++ [x]) h.length = some x := by rw [nth_eq]; simp
theorem hD_app (figs : List Int) (a : Nat) (r : Hv) (x : HV) : hD figs a r ++ [x] = hD figs a (r ++ [x]) := rfl
theorem hD_len (figs : List Int) (a b : Nat) (r : Hv) (x : HV) : nth (hD figs b (r ++ [x])) (hD figs a r).length = some x := by
  rw [nth_eq]
  show (hD figs b (r ++ [x]))[r.length + 1 + 1]? = some x
  unfold hD
  simp
abbrev i_ (n : Nat) : Option PV := some (.int (.ofNat n))
def mosts : List Nat := [14, 14, 9, 7, 6, 5, 5, 4]
def lims : List Nat := [14, 8, 5, 4, 3, 3, 2, 2]
def menu : List Nat := [2, 1, 3, 7, 1000000]
def smallV : List (List Nat) := [[2, 2, 2], [0, 3, 2], [1, 2, 3], [1, 4, 3], [3, 2, 2], [2, 2, 3], [1, 8, 2], [2, 1, 5]]
abbrev intsL (l : List Nat) : List PV := l.map fun n => .int (.ofNat n)
def sAt' (l : List MP.St) (n : Nat) : MP.St := l.getD n .pass
def lstE : Ex → Es
  | .sub (.lst es) _ => es
  | _ => .nil
def lstOf : MP.St → Es
  | .asg _ e => lstE e
  | _ => .nil
section
variable (figs : List Int) (x2 x3 x4 x5 x6 x7 : Option PV)
abbrev cA := MP.run C L T 13
abbrev cB := (runP C L T 13).2.2
abbrev En (x2 x3 x4 x5 x6 x7 : Option PV) : Ev := [none, some (.loc 1), x2, x3, x4, x5, x6, x7, none, none]
def tk (m : Nat) : Sm := cCall cA 20 (cCons (cVar 1) (cCons (cCst (.int (.ofNat m))) cNil))
theorem tk_ok (hf : ∀ f ∈ figs, 0 ≤ f ∧ f < 48) (m : Nat) (hm : 0 < m) (a : Nat) (r : Hv) : ∃ t, t < m ∧ tk m (En x2 x3 x4 x5 x6 x7) (hD figs a r) = .ok (.int (.ofNat t)) (hD figs (a + 1) r) := take 12 figs hf a m hm r
/-- k = 1 + draw -/
theorem p1 (hf : ∀ f ∈ figs, 0 ≤ f ∧ f < 48) (a : Nat) (r : Hv) : ∃ t, t < 8 ∧ exec C L cA cB (sAt' lawP 0) (En x2 x3 x4 x5 x6 x7) (hD figs a r) = .nx (En (i_ (1 + t)) x3 x4 x5 x6 x7) (hD figs (a + 1) r) := by
  obtain ⟨t, lt, e⟩ := tk_ok figs x2 x3 x4 x5 x6 x7 hf 8 (by decide) a r
  refine ⟨t, lt, ?_⟩
  show (((tk 8 (En x2 x3 x4 x5 x6 x7) (hD figs a r)).bind fun y h2 => binop .add (.int (.ofNat 1)) y h2)).done _ _ = _
  rw [e]
  show (addI (.ofNat 1) (.ofNat t) fun k => (R.ok (PV.int k) (hD figs (a + 1) r) : R PV)).done _ _ = _
  rw [addI_eq]; rfl
theorem p2 (t m : Nat) (a : Nat) (r : Hv) (hm : mosts[t]? = some m) : exec C L cA cB (sAt' lawP 1) (En (i_ (1 + t)) x3 x4 x5 x6 x7) (hD figs a r) = .nx (En (i_ (1 + t)) (i_ m) x4 x5 x6 x7) (hD figs a (r ++ [.lst (intsL mosts)])) := by
  have s : exec C L cA cB (sAt' lawP 1) = sAsg 3 (cSub (cLst (evL C cA (lstOf (sAt' lawP 1)))) (cBin .sub (cVar 2) (cCst (.int (.ofNat 1))))) := rfl
  have ix : cBin .sub (cVar 2) (cCst (.int (.ofNat 1))) (En (i_ (1 + t)) x3 x4 x5 x6 x7) (hD figs a r ++ [.lst (intsL mosts)]) = .ok (.int (.ofNat t)) (hD figs a (r ++ [.lst (intsL mosts)])) := by
    show addI (.ofNat (1 + t)) (-(.ofNat 1)) (fun k => (R.ok (PV.int k) (hD figs a r ++ [.lst (intsL mosts)]) : R PV)) = _
    rw [addI_eq, show (Int.ofNat (1 + t) + -(Int.ofNat 1)) = Int.ofNat t by show ((1 + t : Nat) : Int) + -((1 : Nat) : Int) = ((t : Nat) : Int); omega]
    rfl
  have e := idx (es := evL C cA (lstOf (sAt' lawP 1))) (xs := intsL mosts) (h := hD figs a r) (E := En (i_ (1 + t)) x3 x4 x5 x6 x7) rfl ix (hD_len figs a a r _) (v := .int (.ofNat m)) (by simp [intsL, hm])
  rw [s]
  show (cSub _ _ _ _).done _ _ = _
  rw [e]; rfl
theorem add1 (E : Ev) (h : Hv) (m : Nat) (hE : nth E 3 = some (i_ m)) : cBin .add (cVar 3) (cCst (.int (.ofNat 1))) E h = .ok (.int (.ofNat (m + 1))) h := by
  show ((gotV (nth E 3) h).bind fun x h1 => (R.ok (PV.int (.ofNat 1)) h1 : R PV).bind fun y h2 => binop .add x y h2) = _
  rw [hE]
  show addI (.ofNat m) (.ofNat 1) (fun k => (R.ok (PV.int k) h : R PV)) = _
  rw [addI_eq]; rfl
theorem p3 (hf : ∀ f ∈ figs, 0 ≤ f ∧ f < 48) (m : Nat) (a : Nat) (r : Hv) : ∃ n, n ≤ m ∧ exec C L cA cB (sAt' lawP 2) (En x2 (i_ m) x4 x5 x6 x7) (hD figs a r) = .nx (En x2 (i_ m) (i_ n) x5 x6 x7) (hD figs (a + 1) r) := by
  obtain ⟨t, lt, e⟩ := tk_ok figs x2 (i_ m) x4 x5 x6 x7 hf 48 (by decide) a r
  refine ⟨t % (m + 1), Nat.le_of_lt_succ (Nat.mod_lt _ (Nat.succ_pos m)), ?_⟩
  show (((tk 48 (En x2 (i_ m) x4 x5 x6 x7) (hD figs a r)).bind fun x h1 => (cBin .add (cVar 3) (cCst (.int (.ofNat 1))) (En x2 (i_ m) x4 x5 x6 x7) h1).bind fun y h2 => binop .mod x y h2)).done _ _ = _
  rw [e, bind_ok, add1 _ _ m rfl]
  show (lenLe (ltI (.ofNat 0) (.ofNat (m + 1))) (modI (.ofNat t) (.ofNat (m + 1)) fun k => (R.ok (PV.int k) (hD figs (a + 1) r) : R PV))).done _ _ = _
  rw [modI_eq, ltI_eq, decide_eq_true (show Int.ofNat 0 < Int.ofNat (m + 1) from Int.ofNat_lt.mpr (Nat.succ_pos m))]; rfl
def minE : MP.St → Es
  | .ite _ (.cons (.asg _ (.blt _ (.cons _ (.cons (.sub (.lst es) _) _)))) _) _ => es
  | _ => .nil
theorem p4 (hf : ∀ f ∈ figs, 0 ≤ f ∧ f < 48) (t0 l n : Nat) (hl : lims[t0]? = some l) (a : Nat) (r : Hv) : ∃ n' r', n' ≤ n ∧ exec C L cA cB (sAt' lawP 3) (En (i_ (1 + t0)) x3 (i_ n) x5 x6 x7) (hD figs a r) = .nx (En (i_ (1 + t0)) x3 (i_ n') x5 x6 x7) (hD figs (a + 1) r') := by
  obtain ⟨t, lt, e⟩ := tk_ok figs (i_ (1 + t0)) x3 (i_ n) x5 x6 x7 hf 6 (by decide) a r
  have st : exec C L cA cB (sAt' lawP 3) (En (i_ (1 + t0)) x3 (i_ n) x5 x6 x7) (hD figs a r) = cBs (.bl (ltI (.ofNat 0) (.ofNat t))) (sCons (sAsg 4 (cBlt .min (cCons (cVar 4) (cCons (cSub (cLst (evL C cA (minE (sAt' lawP 3)))) (cBin .sub (cVar 2) (cCst (.int (.ofNat 1))))) cNil)))) sNil (En (i_ (1 + t0)) x3 (i_ n) x5 x6 x7) (hD figs (a + 1) r)) (.nx (En (i_ (1 + t0)) x3 (i_ n) x5 x6 x7) (hD figs (a + 1) r)) := by
    show (((tk 6 (En (i_ (1 + t0)) x3 (i_ n) x5 x6 x7) (hD figs a r)).bind fun x h1 => (R.ok (PV.int (.ofNat 0)) h1 : R PV).bind fun y h2 => okB (cmpop .gt x y h2) h2)).done _ _ = _
    rw [e]; rfl
  rw [st, ltI_eq]
  by_cases z : 0 < t
  · rw [decide_eq_true (show Int.ofNat 0 < Int.ofNat t from Int.ofNat_lt.mpr z)]
    have ix : cBin .sub (cVar 2) (cCst (.int (.ofNat 1))) (En (i_ (1 + t0)) x3 (i_ n) x5 x6 x7) (hD figs (a + 1) r ++ [.lst (intsL lims)]) = .ok (.int (.ofNat t0)) (hD figs (a + 1) (r ++ [.lst (intsL lims)])) := by
      show addI (.ofNat (1 + t0)) (-(.ofNat 1)) (fun k => (R.ok (PV.int k) (hD figs (a + 1) r ++ [.lst (intsL lims)]) : R PV)) = _
      rw [addI_eq, show (Int.ofNat (1 + t0) + -(Int.ofNat 1)) = Int.ofNat t0 by show ((1 + t0 : Nat) : Int) + -((1 : Nat) : Int) = ((t0 : Nat) : Int); omega]
      rfl
    have e2 := idx (es := evL C cA (minE (sAt' lawP 3))) (xs := intsL lims) (h := hD figs (a + 1) r) (E := En (i_ (1 + t0)) x3 (i_ n) x5 x6 x7) rfl ix (hD_len figs (a + 1) (a + 1) r _) (v := .int (.ofNat l)) (by simp [intsL, hl])
    have e3 : cBlt .min (cCons (cVar 4) (cCons (cSub (cLst (evL C cA (minE (sAt' lawP 3)))) (cBin .sub (cVar 2) (cCst (.int (.ofNat 1))))) cNil)) (En (i_ (1 + t0)) x3 (i_ n) x5 x6 x7) (hD figs (a + 1) r) = .ok (.int (.ofNat (if l < n then l else n))) (hD figs (a + 1) (r ++ [.lst (intsL lims)])) := by
      show (((cSub (cLst (evL C cA (minE (sAt' lawP 3)))) (cBin .sub (cVar 2) (cCst (.int (.ofNat 1)))) (En (i_ (1 + t0)) x3 (i_ n) x5 x6 x7) (hD figs (a + 1) r)).bind fun x h1 => (R.ok [x] h1 : R (List PV))).bind fun xs h2 => (R.ok (PV.int (.ofNat n) :: xs) h2 : R (List PV))).bind (fun vs h1 => bltF .min vs h1) = _
      rw [e2]
      show (match ltI (.ofNat l) (.ofNat n) with | true => (R.ok (PV.int (.ofNat l)) (hD figs (a + 1) (r ++ [HV.lst (intsL lims)])) : R PV) | false => .ok (.int (.ofNat n)) (hD figs (a + 1) (r ++ [HV.lst (intsL lims)]))) = _
      rw [ltI_eq]
      by_cases q : l < n
      · rw [if_pos q, decide_eq_true (show Int.ofNat l < Int.ofNat n from Int.ofNat_lt.mpr q)]
      · rw [if_neg q, decide_eq_false (show ¬ (Int.ofNat l < Int.ofNat n) from fun y => q (Int.ofNat_lt.mp y))]
    refine ⟨if l < n then l else n, r ++ [.lst (intsL lims)], by split <;> omega, ?_⟩
    show then_ sNil ((cBlt .min _ _ _).done _ _) = _
    rw [e3]; rfl
  · rw [decide_eq_false (show ¬ (Int.ofNat 0 < Int.ofNat t) from fun y => z (Int.ofNat_lt.mp y))]
    exact ⟨n, r, Nat.le_refl _, rfl⟩
theorem p5 (hf : ∀ f ∈ figs, 0 ≤ f ∧ f < 48) (a : Nat) (r : Hv) : ∃ v, v ∈ menu ∧ exec C L cA cB (sAt' lawP 4) (En x2 x3 x4 x5 x6 x7) (hD figs a r) = .nx (En x2 x3 x4 (i_ v) x6 x7) (hD figs (a + 1) (r ++ [.lst (intsL menu)])) := by
  obtain ⟨t, lt, e⟩ := tk_ok figs x2 x3 x4 x5 x6 x7 hf 5 (by decide) a (r ++ [.lst (intsL menu)])
  have ht : t < menu.length := lt
  refine ⟨menu[t], List.getElem_mem ht, ?_⟩
  have e2 := idx (es := evL C cA (lstOf (sAt' lawP 4))) (xs := intsL menu) (h := hD figs a r) (ix := tk 5) (E := En x2 x3 x4 x5 x6 x7) rfl e (hD_len figs a (a + 1) r _) (v := .int (.ofNat menu[t])) (by simp [intsL, List.getElem?_eq_getElem ht])
  show (cSub (cLst (evL C cA (lstOf (sAt' lawP 4)))) (tk 5) (En x2 x3 x4 x5 x6 x7) (hD figs a r)).done _ _ = _
  rw [e2]; rfl
theorem p7 (hf : ∀ f ∈ figs, 0 ≤ f ∧ f < 48) (a : Nat) (r : Hv) : ∃ p, p < 48 ∧ exec C L cA cB (sAt' lawP 6) (En x2 x3 x4 x5 x6 x7) (hD figs a r) = .nx (En x2 x3 x4 x5 (i_ p) x7) (hD figs (a + 1) r) := by
  obtain ⟨t, lt, e⟩ := tk_ok figs x2 x3 x4 x5 x6 x7 hf 48 (by decide) a r
  refine ⟨t, lt, ?_⟩
  show (tk 48 (En x2 x3 x4 x5 x6 x7) (hD figs a r)).done _ _ = _
  rw [e]; rfl
theorem p8 (hf : ∀ f ∈ figs, 0 ≤ f ∧ f < 48) (a : Nat) (r : Hv) : ∃ s r', s ∈ smallV ∧ exec C L cA cB (sAt' lawP 7) (En x2 x3 x4 x5 x6 x7) (hD figs a r) = .nx (En x2 x3 x4 x5 x6 (some (.tup (intsL s)))) (hD figs (a + 1) r') := by
  obtain ⟨t, lt, e⟩ := tk_ok figs x2 x3 x4 x5 x6 x7 hf 8 (by decide) a (r ++ [.lst (smallV.map fun s => .tup (intsL s))])
  have ht : t < smallV.length := lt
  refine ⟨smallV[t], r ++ [.lst (smallV.map fun s => .tup (intsL s))], List.getElem_mem ht, ?_⟩
  have e2 := idx (es := evL C cA (lstOf (sAt' lawP 7))) (xs := smallV.map fun s => .tup (intsL s)) (h := hD figs a r) (ix := tk 8) (E := En x2 x3 x4 x5 x6 x7) rfl e (hD_len figs a (a + 1) r _) (v := .tup (intsL smallV[t])) (by simp [List.getElem?_eq_getElem ht])
  show (cSub (cLst (evL C cA (lstOf (sAt' lawP 7)))) (tk 8) (En x2 x3 x4 x5 x6 x7) (hD figs a r)).done _ _ = _
  rw [e2]; rfl
def kn : List (Nat × Nat) := (List.range 8).flatMap fun k => (List.range 15).map fun n => (k + 1, n)
theorem rowsF (cf cf2 : Nat → List PV → Hv → R PV) : kn.map (fun c => execs C L cf cf2 b_law_rows_number [i_ c.2, i_ c.1, none, none] []) = kn.map (fun c => .rt (.int (.ofNat (c.1 ^ c.2))) []) := by kernel_rfl
theorem kn_mem {k n : Nat} (h1 : 1 ≤ k) (h2 : k ≤ 8) (h3 : n ≤ 14) : (k, n) ∈ kn := by
  unfold kn
  rw [List.mem_flatMap]
  exact ⟨k - 1, List.mem_range.mpr (by omega), List.mem_map.mpr ⟨n, List.mem_range.mpr (by omega), by rw [show k - 1 + 1 = k by omega]⟩⟩
theorem rows_ok {k n : Nat} (h1 : 1 ≤ k) (h2 : k ≤ 8) (h3 : n ≤ 14) (h : Hv) : cA 23 [.int (.ofNat n), .int (.ofNat k)] h = .ok (.int (.ofNat (k ^ n))) h := by
  have q := List.map_inj_left.mp (rowsF (MP.run C L T 12) (runP C L T 12).2.2) (k, n) (kn_mem h1 h2 h3)
  show outI h (execs C L (MP.run C L T 12) (runP C L T 12).2.2 b_law_rows_number [i_ n, i_ k, none, none] []) = _
  rw [q]; rfl
theorem p6 (hf : ∀ f ∈ figs, 0 ≤ f ∧ f < 48) {k n : Nat} (h1 : 1 ≤ k) (h2 : k ≤ 8) (h3 : n ≤ 14) (v : Nat) (a : Nat) (r : Hv) : ∃ v' a', (256 < k ^ n ∧ (v' = 1 ∨ v' = 2) ∨ ¬ 256 < k ^ n ∧ v' = v) ∧ exec C L cA cB (sAt' lawP 5) (En (i_ k) x3 (i_ n) (i_ v) x6 x7) (hD figs a r) = .nx (En (i_ k) x3 (i_ n) (i_ v') x6 x7) (hD figs a' r) := by
  have st : exec C L cA cB (sAt' lawP 5) (En (i_ k) x3 (i_ n) (i_ v) x6 x7) (hD figs a r) = cBs (.bl (ltI (.ofNat 256) (.ofNat (k ^ n)))) (sCons (sAsg 5 (cBin .add (cCst (.int (.ofNat 1))) (tk 2))) sNil (En (i_ k) x3 (i_ n) (i_ v) x6 x7) (hD figs a r)) (.nx (En (i_ k) x3 (i_ n) (i_ v) x6 x7) (hD figs a r)) := by
    show (((cA 23 [.int (.ofNat n), .int (.ofNat k)] (hD figs a r)).bind fun x h1 => (R.ok (PV.int (.ofNat 256)) h1 : R PV).bind fun y h2 => okB (cmpop .gt x y h2) h2)).done _ _ = _
    rw [rows_ok h1 h2 h3]; rfl
  rw [st, ltI_eq]
  by_cases z : 256 < k ^ n
  · rw [decide_eq_true (show Int.ofNat 256 < Int.ofNat (k ^ n) from Int.ofNat_lt.mpr z)]
    obtain ⟨t, lt, e⟩ := tk_ok figs (i_ k) x3 (i_ n) (i_ v) x6 x7 hf 2 (by decide) a r
    refine ⟨1 + t, a + 1, .inl ⟨z, by omega⟩, ?_⟩
    show then_ sNil ((((tk 2 (En (i_ k) x3 (i_ n) (i_ v) x6 x7) (hD figs a r)).bind fun y h2 => binop .add (.int (.ofNat 1)) y h2)).done _ _) = _
    rw [e]
    show then_ sNil ((addI (.ofNat 1) (.ofNat t) fun k => (R.ok (PV.int k) (hD figs (a + 1) r) : R PV)).done _ _) = _
    rw [addI_eq]; rfl
  · rw [decide_eq_false (show ¬ (Int.ofNat 256 < Int.ofNat (k ^ n)) from fun y => z (Int.ofNat_lt.mp y))]
    exact ⟨v, a, .inr ⟨z, rfl⟩, rfl⟩
end
end
end K25
namespace K25
open MP PySem L2 PySem.Spec PyProof.Rows
noncomputable section
theorem aAll : ∀ (t : Nat) (m : Nat), mosts[t]? = some m → ∀ c ∈ combos (1 + t) m, ∀ x6 x7, runsP C L cfA cfB [sAt lawS 0, sAt lawS 1] (envA (1 + t) m c.1 c.2 x6 x7) [] = some (envB (1 + t) m c.1 c.2 x6 x7, [])
  | 0, m, hm, c, hc, x6, x7 => by cases hm; exact List.map_inj_left.mp (a1 x6 x7) c hc
  | 1, m, hm, c, hc, x6, x7 => by cases hm; exact List.map_inj_left.mp (a2 x6 x7) c hc
  | 2, m, hm, c, hc, x6, x7 => by cases hm; exact List.map_inj_left.mp (a3 x6 x7) c hc
  | 3, m, hm, c, hc, x6, x7 => by cases hm; exact List.map_inj_left.mp (a4 x6 x7) c hc
  | 4, m, hm, c, hc, x6, x7 => by cases hm; exact List.map_inj_left.mp (a5 x6 x7) c hc
  | 5, m, hm, c, hc, x6, x7 => by cases hm; exact List.map_inj_left.mp (a6 x6 x7) c hc
  | 6, m, hm, c, hc, x6, x7 => by cases hm; exact List.map_inj_left.mp (a7 x6 x7) c hc
  | 7, m, hm, c, hc, x6, x7 => by cases hm; exact List.map_inj_left.mp (a8 x6 x7) c hc
  | n + 8, m, hm, _, _, _, _ => by cases hm
theorem pure_ints : ∀ s : List Nat, pureL (intsL s) = true
  | [] => rfl
  | _ :: s => pure_ints s
theorem smalls_eq : smalls = smallV.map intsL := rfl
theorem suffix (k m n v x : Nat) (s : List Nat) (hs : s ∈ smallV) (hx : x < 48) (q : runsP C L cfA cfB [sAt lawS 0, sAt lawS 1] (envA k m n v (i_ x) (some (.tup (intsL s)))) [] = some (envB k m n v (i_ x) (some (.tup (intsL s))), [])) :
    execs C L cfA cfB lawS (envA k m n v (i_ x) (some (.tup (intsL s)))) [] = .rt (.bl true) [] := by
  have st : ∀ e h, execs C L cfA cfB lawS e h = then_ (fun e h => then_ (fun e h => then_ (fun e h => then_ sNil (exec C L cfA cfB (sAt lawS 3) e h)) (exec C L cfA cfB (sAt lawS 2) e h)) (exec C L cfA cfB (sAt lawS 1) e h)) (exec C L cfA cfB (sAt lawS 0) e h) := fun e h => rfl
  have q' : nxOnly (fun e h => nxOnly (fun e h => some (e, h)) (exec C L cfA cfB (sAt lawS 1) e h)) (exec C L cfA cfB (sAt lawS 0) (envA k m n v (i_ x) (some (.tup (intsL s)))) []) = some (envB k m n v (i_ x) (some (.tup (intsL s))), []) := q
  rw [st]
  cases z0 : exec C L cfA cfB (sAt lawS 0) (envA k m n v (i_ x) (some (.tup (intsL s)))) [] with
  | nx e0 h0 =>
    rw [z0] at q'
    have q2 : nxOnly (fun e h => some (e, h)) (exec C L cfA cfB (sAt lawS 1) e0 h0) = some (envB k m n v (i_ x) (some (.tup (intsL s))), []) := q'
    show then_ (fun e h => then_ (fun e h => then_ sNil (exec C L cfA cfB (sAt lawS 3) e h)) (exec C L cfA cfB (sAt lawS 2) e h)) (exec C L cfA cfB (sAt lawS 1) e0 h0) = _
    cases z1 : exec C L cfA cfB (sAt lawS 1) e0 h0 with
    | nx e1 h1 =>
      rw [z1] at q2
      cases q2
      show then_ (fun e h => then_ sNil (exec C L cfA cfB (sAt lawS 3) e h)) (exec C L cfA cfB (sAt lawS 2) (envB k m n v (i_ x) (some (.tup (intsL s)))) []) = _
      have hs' : intsL s ∈ smalls := by rw [smalls_eq]; exact List.mem_map.mpr ⟨s, hs, rfl⟩
      have shape : ∃ x8 x9, envB k m n v (i_ x) (some (.tup (intsL s))) = [none, none, i k, i m, i n, i v, i_ x, some (.tup (intsL s)), x8, x9] := by
        unfold envB
        split
        · exact ⟨_, _, rfl⟩
        · exact ⟨_, _, rfl⟩
      obtain ⟨x8, x9, sh⟩ := shape
      rw [sh, List.map_inj_left.mp (c3 (i k) (i m) (i n) (i v) (i_ x) x8 x9) (intsL s) hs']
      show then_ sNil (exec C L cfA cfB (sAt lawS 3) [none, none, i k, i m, i n, i v, i x, some (.tup (intsL s)), x8, x9] []) = _
      rw [List.map_inj_left.mp (c4 (i k) (i m) (i n) (i v) (some (.tup (intsL s))) x8 x9) x (List.mem_range.mpr hx)]
      rfl
    | rt _ _ => rw [z1] at q2; cases q2
    | bk _ _ => rw [z1] at q2; cases q2
    | ct _ _ => rw [z1] at q2; cases q2
    | exc _ _ _ _ => rw [z1] at q2; cases q2
    | bad => rw [z1] at q2; cases q2
  | rt _ _ => rw [z0] at q'; cases q'
  | bk _ _ => rw [z0] at q'; cases q'
  | ct _ _ => rw [z0] at q'; cases q'
  | exc _ _ _ _ => rw [z0] at q'; cases q'
  | bad => rw [z0] at q'; cases q'
theorem run_step (s : MP.St) (r : List MP.St) (e : Ev) (h : Hv) {e1 : Ev} {h1 : Hv} (q : exec C L cA cB s e h = .nx e1 h1) : runsP C L cA cB (s :: r) e h = runsP C L cA cB r e1 h1 := by
  show nxOnly (runsP C L cA cB r) (exec C L cA cB s e h) = _
  rw [q]; rfl
theorem lawP_eq : lawP = [sAt' lawP 0, sAt' lawP 1, sAt' lawP 2, sAt' lawP 3, sAt' lawP 4, sAt' lawP 5, sAt' lawP 6, sAt' lawP 7] := rfl
theorem plain : Plain := by
  intro figs _ hf
  obtain ⟨t, lt, e1⟩ := p1 figs none none none none none none hf 0 []
  have ht : t < mosts.length := lt
  have hm : mosts[t]? = some mosts[t] := List.getElem?_eq_getElem ht
  have hl : lims[t]? = some (lims[t]'lt) := List.getElem?_eq_getElem (show t < lims.length from lt)
  have mle : mosts[t] ≤ 14 := by
    have : ∀ x ∈ mosts, x ≤ 14 := by decide
    exact this _ (List.getElem_mem ht)
  generalize mosts[t] = m at hm mle
  generalize lims[t]'lt = l at hl
  have e2 := p2 figs none none none none none t m 1 [] hm
  obtain ⟨n3, l3, e3⟩ := p3 figs (i_ (1 + t)) none none none none hf m 1 ([] ++ [.lst (intsL mosts)])
  obtain ⟨n, r4, l4, e4⟩ := p4 figs (i_ m) none none none hf t l n3 hl 2 ([] ++ [.lst (intsL mosts)])
  obtain ⟨v5, m5, e5⟩ := p5 figs (i_ (1 + t)) (i_ m) (i_ n) none none none hf 3 r4
  obtain ⟨v, a6, m6, e6⟩ := p6 figs (i_ m) none none hf (k := 1 + t) (n := n) (by omega) (by omega) (by omega) v5 4 (r4 ++ [.lst (intsL menu)])
  obtain ⟨x, hx, e7⟩ := p7 figs (i_ (1 + t)) (i_ m) (i_ n) (i_ v) none none hf a6 (r4 ++ [.lst (intsL menu)])
  obtain ⟨s, r8, hs, e8⟩ := p8 figs (i_ (1 + t)) (i_ m) (i_ n) (i_ v) (i_ x) none hf (a6 + 1) (r4 ++ [.lst (intsL menu)])
  refine ⟨En (i_ (1 + t)) (i_ m) (i_ n) (i_ v) (i_ x) (some (.tup (intsL s))), hD figs (a6 + 1 + 1) r8, [], ?_, ?_⟩
  · show runsP C L cA cB lawP (En none none none none none none) (hD figs 0 []) = _
    rw [lawP_eq, run_step _ _ _ _ e1, run_step _ _ _ _ e2, run_step _ _ _ _ e3, run_step _ _ _ _ e4, run_step _ _ _ _ e5, run_step _ _ _ _ e6, run_step _ _ _ _ e7, run_step _ _ _ _ e8]
    rfl
  · have pe : pureE (En (i_ (1 + t)) (i_ m) (i_ n) (i_ v) (i_ x) (some (.tup (intsL s)))) = envA (1 + t) m n v (i_ x) (some (.tup (intsL s))) := by
      show [none, none, i_ (1 + t), i_ m, i_ n, i_ v, i_ x, (match pureL (intsL s) with | true => some (PV.tup (intsL s)) | false => none), none, none] = _
      rw [pure_ints]; rfl
    rw [pe]
    refine suffix (1 + t) m n v x s hs hx (aAll t m hm (n, v) ?_ _ _)
    unfold combos
    rw [List.mem_flatMap]
    refine ⟨n, List.mem_range.mpr (by omega), List.mem_map.mpr ⟨v, ?_, rfl⟩⟩
    unfold vs
    rcases m6 with ⟨z, w⟩ | ⟨z, w⟩
    · rw [ble_no (show ¬ (1 + t) ^ n ≤ 256 by omega)]
      rcases w with rfl | rfl <;> simp
    · rw [show Nat.ble ((1 + t) ^ n) 256 = true from Nat.ble_eq_true_of_le (by omega), w]
      exact m5
end
end K25

theorem PySem.Challenge.cw_wokenpages_k25_hung_numbers_far_holds : PySem.Challenge.rw_wokenpages_k25_hung_numbers_far.Holds :=
  K25.holds_of K25.plain
