import PyProof.Rows.All
import Wide.All
import OpenK.AllK
import Wide.FinOn
import HandS.ForMost
import HandS.Exc
import HandS.TryOnly
import HandS.WordsExc
import HandS.Deep
import HandS.TupAny
import HandS.IsInst
import HandS.ExcOwn
import HandS.More
import HandS.Text
import HandS.Iter
import HandS.FStr
import HandS.ExcInit
import HandS.ExcIs
import HandS.ExcField
import KE.KExcSuper
import KE.KSuper
import KE.KExcIs
import PySem.Challenge.RW_doubtbook_k82_rows_with_a_fault
section
set_option linter.all false
set_option Elab.async false
set_option maxRecDepth 100000
/-! DlCore: a small functional reading of Python over plain data: values D (tuples by value, lists, dicts, instances by
reference), stores, results, and one combinator for each construct. Plain Lean: no program, no machine. -/
set_option linter.all false
set_option Elab.async false
namespace Dl

abbrev Cs := List Nat

inductive D where
  | non | bl (b : Bool) | int (i : Int) | str (x : Cs) | tup (xs : List D) | ref (n : Nat) | fn (x : String)
  /-- a list that is never changed (the script) -/
  | lit (xs : List D)
  deriving Inhabited, Repr

mutual
def D.beq : D → D → Bool
  | .non, .non => true
  | .bl a, .bl b => a == b
  | .int a, .int b => a == b
  | .str a, .str b => a == b
  | .tup a, .tup b => D.beqs a b
  | .ref a, .ref b => a == b
  | .fn a, .fn b => a == b
  | .lit a, .lit b => D.beqs a b
  | _, _ => false
def D.beqs : List D → List D → Bool
  | [], [] => true
  | a :: r, b :: s => D.beq a b && D.beqs r s
  | _, _ => false
end
mutual
theorem D.beq_iff : ∀ a b : D, D.beq a b = true ↔ a = b
  | .non, b => by cases b <;> simp [D.beq]
  | .bl _, b => by cases b <;> simp [D.beq]
  | .int _, b => by cases b <;> simp [D.beq]
  | .str _, b => by cases b <;> simp [D.beq]
  | .tup xs, b => by
    cases b <;> simp [D.beq]
    exact D.beqs_iff xs _
  | .ref _, b => by cases b <;> simp [D.beq]
  | .fn _, b => by cases b <;> simp [D.beq]
  | .lit xs, b => by
    cases b <;> simp [D.beq]
    exact D.beqs_iff xs _
theorem D.beqs_iff : ∀ a b : List D, D.beqs a b = true ↔ a = b
  | [], b => by cases b <;> simp [D.beqs]
  | x :: r, b => by
    cases b with
    | nil => simp [D.beqs]
    | cons y s => simp [D.beqs, D.beq_iff x y, D.beqs_iff r s]
end
instance : DecidableEq D := fun a b => decidable_of_iff (D.beq a b = true) (D.beq_iff a b)

/-- what stands in the store -/
inductive MO where
  | lst (xs : List D)
  | dct (kvs : List (D × D))
  /-- a dict while it is walked -/
  | lck (kvs : List (D × D))
  | set (xs : List D)
  | ins (C : String) (fs : List (String × D))
  deriving DecidableEq, Inhabited, Repr

abbrev Store := List MO
abbrev Env := List (Option D)

/-- an exception: its class, its attributes -/
structure Exc where
  cls : String
  fs : List (String × D)
  deriving DecidableEq, Inhabited, Repr

inductive Res (α : Type) where
  | ok (a : α) (S : Store)
  | exc (e : Exc) (S : Store)
  | stuck
  deriving Repr

def Res.bind {α β : Type} (r : Res α) (f : α → Store → Res β) : Res β :=
  match r with
  | .ok a S => f a S
  | .exc e S => .exc e S
  | .stuck => .stuck
@[simp] theorem Res.bind_ok {α β : Type} (a : α) (S : Store) (f : α → Store → Res β) : (Res.ok a S).bind f = f a S := id rfl
@[simp] theorem Res.bind_exc {α β : Type} (e : Exc) (S : Store) (f : α → Store → Res β) : (Res.exc e S : Res α).bind f = .exc e S := id rfl
@[simp] theorem Res.bind_stuck {α β : Type} (f : α → Store → Res β) : (Res.stuck : Res α).bind f = .stuck := id rfl

/-- the result is a good one of which Q holds, or an exception of which E holds -/
@[irreducible] def Res.sat {α : Type} (r : Res α) (Q : α → Store → Prop) (E : Exc → Store → Prop := fun _ _ => False) : Prop :=
  match r with
  | .ok a S => Q a S
  | .exc e S => E e S
  | .stuck => False
@[simp] theorem Res.sat_ok {α : Type} (a : α) (S : Store) (Q : α → Store → Prop) (E : Exc → Store → Prop) : (Res.ok a S).sat Q E ↔ Q a S := by unfold Res.sat; exact Iff.rfl
@[simp] theorem Res.sat_exc {α : Type} (e : Exc) (S : Store) (Q : α → Store → Prop) (E : Exc → Store → Prop) : (Res.exc e S : Res α).sat Q E ↔ E e S := by unfold Res.sat; exact Iff.rfl
@[simp] theorem Res.sat_stuck {α : Type} (Q : α → Store → Prop) (E : Exc → Store → Prop) : (Res.stuck : Res α).sat Q E ↔ False := by unfold Res.sat; exact Iff.rfl
@[simp] theorem Res.sat_bind {α β : Type} (r : Res α) (f : α → Store → Res β) (Q : β → Store → Prop) (E : Exc → Store → Prop) :
    (r.bind f).sat Q E ↔ r.sat (fun a S => (f a S).sat Q E) E := by
  cases r <;> simp [Res.bind]
theorem Res.sat.imp {α : Type} {r : Res α} {Q Q' : α → Store → Prop} {E E' : Exc → Store → Prop} (h : r.sat Q E) (hQ : ∀ a S, Q a S → Q' a S) (hE : ∀ e S, E e S → E' e S) : r.sat Q' E' := by
  cases r with
  | ok a S => rw [Res.sat_ok] at h ⊢; exact hQ _ _ h
  | exc e S => rw [Res.sat_exc] at h ⊢; exact hE _ _ h
  | stuck => rw [Res.sat_stuck] at h; exact h.elim
theorem Res.sat.mono {α : Type} {r : Res α} {Q Q' : α → Store → Prop} {E : Exc → Store → Prop} (h : r.sat Q E) (hQ : ∀ a S, Q a S → Q' a S) : r.sat Q' E := h.imp hQ fun _ _ h => h
theorem Res.sat.up {α : Type} {r : Res α} {Q Q' : α → Store → Prop} {E' : Exc → Store → Prop} (h : r.sat Q) (hQ : ∀ a S, Q a S → Q' a S) : r.sat Q' E' := h.imp hQ fun _ _ z => z.elim
theorem Res.sat_iff {α : Type} {r : Res α} {Q : α → Store → Prop} : r.sat Q ↔ ∃ a S, r = .ok a S ∧ Q a S := by
  cases r with
  | ok a S => rw [Res.sat_ok]; exact ⟨fun h => ⟨a, S, rfl, h⟩, fun ⟨_, _, e, h⟩ => by cases e; exact h⟩
  | exc e S => rw [Res.sat_exc]; exact ⟨fun h => h.elim, fun ⟨_, _, e, h⟩ => by cases e⟩
  | stuck => rw [Res.sat_stuck]; exact ⟨fun h => h.elim, fun ⟨_, _, e, h⟩ => by cases e⟩

/-- sizeLine of the model -/
def LIM : Nat := 16777216
/-- a while's most turns -/
def FUEL : Nat := 1000000000

abbrev EM := Env → Store → Res D
abbrev TM := Env → Store → Res Bool
abbrev AM := Env → Store → Res (List D)
/-- a def, a built-in, an operator -/
abbrev FM := List D → Store → Res D
inductive Flow where
  | nx (δ : Env) | rt (d : D) | bk (δ : Env) | ct (δ : Env) | ex (e : Exc) (δ : Env)
  deriving Repr
/-- an expression within a statement: an exception becomes a flow -/
def Res.thenS {α : Type} (r : Res α) (δ : Env) (f : α → Store → Res Flow) : Res Flow := match r with
  | .ok a S => f a S
  | .exc e S => .ok (.ex e δ) S
  | .stuck => .stuck
@[simp] theorem Res.thenS_ok {α : Type} (a : α) (S : Store) (δ : Env) (f : α → Store → Res Flow) : (Res.ok a S).thenS δ f = f a S := id rfl
@[simp] theorem Res.thenS_exc {α : Type} (e : Exc) (S : Store) (δ : Env) (f : α → Store → Res Flow) : (Res.exc e S : Res α).thenS δ f = .ok (.ex e δ) S := id rfl
@[simp] theorem Res.thenS_stuck {α : Type} (δ : Env) (f : α → Store → Res Flow) : (Res.stuck : Res α).thenS δ f = .stuck := id rfl
@[simp] theorem Res.sat_thenS {α : Type} (r : Res α) (δ : Env) (f : α → Store → Res Flow) (Q : Flow → Store → Prop) (E : Exc → Store → Prop) :
    (r.thenS δ f).sat Q E ↔ r.sat (fun a S => (f a S).sat Q E) (fun e S => Q (.ex e δ) S) := by
  cases r <;> simp
abbrev SM := Env → Store → Res Flow

/-! ### expressions -/
def varM (i : Nat) : EM := fun δ S => match δ[i]? with | some (some d) => .ok d S | _ => .stuck
def conM (d : D) : EM := fun _ S => .ok d S
def argsM : List EM → AM
  | [] => fun _ S => .ok [] S
  | e :: es => fun δ S => (e δ S).bind fun d S1 => (argsM es δ S1).bind fun ds S2 => .ok (d :: ds) S2
def callM (f : FM) (es : List EM) : EM := fun δ S => (argsM es δ S).bind f
def tupP : FM := fun ds S => if ds.length ≤ LIM then .ok (.tup ds) S else .stuck
def lstP : FM := fun ds S => if ds.length ≤ LIM then .ok (.ref S.length) (S ++ [.lst ds]) else .stuck
def dctP : FM := fun ds S => match ds with | [] => .ok (.ref S.length) (S ++ [.dct []]) | _ => .stuck

/-! ### data, equality, truth -/
mutual
/-- no references within, nested at most n deep -/
def D.flat : Nat → D → Bool
  | n, .tup xs => match n with | 0 => false | n + 1 => D.flats n xs
  | _, .ref _ => false
  | _, .fn _ => false
  | _, .lit _ => false
  | _, .str x => x.all fun c => decide (c < 0x110000)
  | _, _ => true
def D.flats : Nat → List D → Bool
  | _, [] => true
  | n, d :: r => D.flat n d && D.flats n r
end
def b2i (b : Bool) : Int := if b then 1 else 0
mutual
/-- Python's == on data -/
def D.eqv : D → D → Bool
  | .non, .non => true
  | .bl a, .bl b => a == b
  | .bl a, .int b => b2i a == b
  | .int a, .bl b => a == b2i b
  | .int a, .int b => a == b
  | .str a, .str b => a == b
  | .tup a, .tup b => D.eqvs a b
  | _, _ => false
def D.eqvs : List D → List D → Bool
  | [], [] => true
  | a :: r, b :: s => D.eqv a b && D.eqvs r s
  | _, _ => false
end
def DEP : Nat := 60
def lstAt (S : Store) (n : Nat) : Option (List D) := match S[n]? with | some (.lst xs) => some xs | _ => none
def dctAt (S : Store) (n : Nat) : Option (List (D × D)) := match S[n]? with | some (.dct xs) => some xs | some (.lck xs) => some xs | _ => none
/-- none, a bool, an int, a text -/
def D.sc : D → Bool
  | .non => true | .bl _ => true | .int _ => true | .str _ => true | _ => false
/-- scalars that == tells apart as data does -/
def D.scal : D → D → Bool
  | .non, .non => true | .non, .int _ => true | .int _, .non => true | .non, .bl _ => true | .bl _, .non => true | .non, .str _ => true | .str _, .non => true
  | .int _, .int _ => true | .bl _, .bl _ => true | .str _, .str _ => true
  | .int _, .str _ => true | .str _, .int _ => true | .bl _, .str _ => true | .str _, .bl _ => true
  | _, _ => false
def eqP : FM := fun ds S => match ds with
  | [x, y] => if D.scal x y then .ok (.bl (decide (x = y))) S else (match x, y with
    | .ref n, .ref m => (match lstAt S n, lstAt S m with
      | some xs, some ys => if D.flats (DEP - 1) xs && D.flats (DEP - 1) ys then .ok (.bl (D.eqvs xs ys)) S else .stuck
      | _, _ => .stuck)
    | x, y => if D.flat DEP x && D.flat DEP y then .ok (.bl (D.eqv x y)) S else .stuck)
  | _ => .stuck
def notR (r : Res D) : Res D := r.bind fun d S => match d with | .bl b => .ok (.bl (!b)) S | _ => .stuck
def neP : FM := fun ds S => notR (eqP ds S)
def inP : FM := fun ds S => match ds with
  | [x, .ref n] => (match lstAt S n with
    | some ys => if (x.sc && ys.all D.sc) || (D.flat (DEP - 1) x && D.flats (DEP - 1) ys) then .ok (.bl (ys.any fun z => D.eqv z x)) S else .stuck
    | none => .stuck)
  | [x, .tup ys] => if x.sc && ys.all D.sc then .ok (.bl (ys.any fun z => D.eqv z x)) S else .stuck
  | [.str [c], .str ys] => .ok (.bl (decide (c ∈ ys))) S
  | _ => .stuck
def notInP : FM := fun ds S => notR (inP ds S)
def isNonP : FM := fun ds S => match ds with | [d] => .ok (.bl (decide (d = .non))) S | _ => .stuck
def notNonP : FM := fun ds S => match ds with | [d] => .ok (.bl (!decide (d = .non))) S | _ => .stuck
def truth (d : D) (S : Store) : Option Bool := match d with
  | .non => some false
  | .bl b => some b
  | .int i => some (i != 0)
  | .str x => if x.length ≤ LIM then some (x.length != 0) else none
  | .tup xs => some (!xs.isEmpty)
  | .ref n => (match S[n]? with | some (.lst xs) => some (!xs.isEmpty) | some (.dct xs) => some (!xs.isEmpty) | _ => none)
  | .lit xs => some (!xs.isEmpty)
  | .fn _ => none

/-! ### operators -/
def small64 (i : Int) : Bool := decide (-(2 ^ 64) < i) && decide (i < 2 ^ 64)
def addP : FM := fun ds S => match ds with
  | [.int i, .int j] => .ok (.int (i + j)) S
  | [.str x, .str y] => if x.length + y.length ≤ LIM then .ok (.str (x ++ y)) S else .stuck
  | [.tup x, .tup y] => if x.length + y.length ≤ LIM then .ok (.tup (x ++ y)) S else .stuck
  | [.ref n, .ref m] => (match S[n]?, S[m]? with
    | some (.lst xs), some (.lst ys) => if xs.length + ys.length ≤ LIM then .ok (.ref S.length) (S ++ [.lst (xs ++ ys)]) else .stuck
    | _, _ => .stuck)
  | _ => .stuck
def subP : FM := fun ds S => match ds with | [.int i, .int j] => .ok (.int (i - j)) S | _ => .stuck
def mulP : FM := fun ds S => match ds with
  | [.int i, .int j] => if small64 i || small64 j then .ok (.int (i * j)) S else .stuck
  | [.str x, .int j] => if 0 ≤ j ∧ x.length * j.toNat ≤ LIM ∧ j ≤ (LIM : Int) then .ok (.str (List.replicate j.toNat x).flatten) S else .stuck
  | _ => .stuck
def modP : FM := fun ds S => match ds with | [.int i, .int j] => if 0 < j then .ok (.int (i % j)) S else .stuck | _ => .stuck
def fdivP : FM := fun ds S => match ds with | [.int i, .int j] => if 0 < j ∧ j < 1073741824 then .ok (.int (i / j)) S else .stuck | _ => .stuck
def powP : FM := fun ds S => match ds with | [.int i, .int j] => if 0 ≤ j ∧ j ≤ 1000000 ∧ i.natAbs < 2 ^ 64 then .ok (.int (i ^ j.toNat)) S else .stuck | _ => .stuck
def negP : FM := fun ds S => match ds with | [.int i] => .ok (.int (-i)) S | _ => .stuck
/-- lists of codes in order -/
def csLt : Cs → Cs → Bool
  | _, [] => false
  | [], _ :: _ => true
  | a :: r, b :: s => if a = b then csLt r s else decide (a < b)
def ltP : FM := fun ds S => match ds with
  | [.int i, .int j] => .ok (.bl (decide (i < j))) S
  | [.str x, .str y] => .ok (.bl (decide (x < y))) S
  | _ => .stuck
def leP : FM := fun ds S => match ds with
  | [.int i, .int j] => .ok (.bl (decide (i ≤ j))) S
  | [.str x, .str y] => .ok (.bl (!decide (y < x))) S
  | _ => .stuck
def gtP : FM := fun ds S => match ds with
  | [.int i, .int j] => .ok (.bl (decide (j < i))) S
  | [.str x, .str y] => .ok (.bl (decide (y < x))) S
  | _ => .stuck
def geP : FM := fun ds S => match ds with
  | [.int i, .int j] => .ok (.bl (decide (j ≤ i))) S
  | [.str x, .str y] => .ok (.bl (!decide (x < y))) S
  | _ => .stuck

/-! ### tests -/
def tvM (m : EM) : TM := fun δ S => (m δ S).bind fun d S1 => match truth d S1 with | some b => .ok b S1 | none => .stuck
/-- a test whose value is a bool -/
def tbM (m : EM) : TM := fun δ S => (m δ S).bind fun d S1 => match d with | .bl b => .ok b S1 | _ => .stuck
def andT (a b : TM) : TM := fun δ S => (a δ S).bind fun c S1 => if c = true then b δ S1 else .ok false S1
def orT (a b : TM) : TM := fun δ S => (a δ S).bind fun c S1 => if c = true then .ok true S1 else b δ S1
def notT (a : TM) : TM := fun δ S => (a δ S).bind fun c S1 => .ok (!c) S1
def yesT : TM := fun _ S => .ok true S
def ifM (t : TM) (a b : EM) : EM := fun δ S => (t δ S).bind fun c S1 => if c = true then a δ S1 else b δ S1
/-- a and b, a or b, not a as values; a a bool -/
def andV (a b : EM) : EM := fun δ S => (a δ S).bind fun d S1 => match d with | .bl c => if c = true then b δ S1 else .ok (.bl false) S1 | _ => .stuck
def orV (a b : EM) : EM := fun δ S => (a δ S).bind fun d S1 => match d with | .bl c => if c = true then .ok (.bl true) S1 else b δ S1 | _ => .stuck
def notV (a : EM) : EM := fun δ S => (a δ S).bind fun d S1 => match d with | .bl c => .ok (.bl (!c)) S1 | _ => .stuck

/-! ### items and slices -/
def ixN (n : Nat) (i : Int) : Option Nat := if 0 ≤ i then (if i < n then some i.toNat else none) else if -(n : Int) ≤ i then some (i + n).toNat else none
def atI {α : Type} (xs : List α) (i : Int) : Option α := (ixN xs.length i).bind fun j => xs[j]?
def ixP : FM := fun ds S => match ds with
  | [.ref n, .int i] => (match lstAt S n with | some xs => (match atI xs i with | some d => .ok d S | none => .stuck) | none => .stuck)
  | [.tup xs, .int i] => (match atI xs i with | some d => .ok d S | none => .stuck)
  | [.lit xs, .int i] => (match atI xs i with | some d => .ok d S | none => .stuck)
  | [.str x, .int i] => if x.length ≤ LIM then (match atI x i with | some c => .ok (.str [c]) S | none => .stuck) else .stuck
  | _ => .stuck
def sIx (n d : Nat) : Option Int → Nat
  | none => d
  | some v => if v < 0 then (v + n).toNat else min v.toNat n
def cut {α : Type} (xs : List α) (lo hi : Option Int) : List α := (xs.drop (sIx xs.length 0 lo)).take (sIx xs.length xs.length hi - sIx xs.length 0 lo)
def optI : Option EM → Env → Store → Res (Option Int)
  | none => fun _ S => .ok none S
  | some e => fun δ S => (e δ S).bind fun d S1 => match d with | .int i => .ok (some i) S1 | _ => .stuck
def sliceP (d : D) (lo hi : Option Int) (S : Store) : Res D := match d with
  | .ref n => (match lstAt S n with | some xs => .ok (.ref S.length) (S ++ [.lst (cut xs lo hi)]) | none => .stuck)
  | .tup xs => .ok (.tup (cut xs lo hi)) S
  | .lit xs => .ok (.ref S.length) (S ++ [.lst (cut xs lo hi)])
  | .str x => if x.length ≤ LIM then .ok (.str (cut x lo hi)) S else .stuck
  | _ => .stuck
def sliceM (o : EM) (lo hi : Option EM) : EM := fun δ S => (o δ S).bind fun d S1 => (optI lo δ S1).bind fun l S2 => (optI hi δ S2).bind fun h S3 => sliceP d l h S3

/-! ### targets, what is walked, comprehensions -/
inductive Tgt where
  | nm (i : Nat)
  | tp (ts : List Nat)
def setAll : List Nat → List D → Env → Env
  | i :: is, d :: ds, δ => setAll is ds (δ.set i (some d))
  | _, _, δ => δ
def Tgt.put : Tgt → D → Env → Option Env
  | .nm i, d, δ => some (δ.set i (some d))
  | .tp is, .tup ds, δ => if ds.length = is.length then some (setAll is ds δ) else none
  | .tp _, _, _ => none
/-- the items, and that they are still so -/
structure Src where
  items : List D
  still : Store → Bool
abbrev IM := Env → Store → Res Src
def isLst (n : Nat) (xs : List D) (S : Store) : Bool := decide (lstAt S n = some xs)
def always (S : Store) : Bool := true
/-- a list or a tuple -/
def seqI (e : EM) : IM := fun δ S => (e δ S).bind fun d S1 => match d with
  | .ref n => (match lstAt S1 n with | some xs => .ok ⟨xs, isLst n xs⟩ S1 | none => .stuck)
  | .tup xs => .ok ⟨xs, always⟩ S1
  | .lit xs => .ok ⟨xs, always⟩ S1
  | _ => .stuck
def inRange (i : Int) : Bool := decide (-(2 ^ 62) ≤ i) && decide (i < 2 ^ 62)
def rangeL (lo hi : Int) : List D := (List.range (hi - lo).toNat).map fun k : Nat => D.int (lo + k)
def rangeI (es : List EM) : IM := fun δ S => (argsM es δ S).bind fun ds S1 => match ds with
  | [.int j] => if inRange j then .ok ⟨rangeL 0 j, always⟩ S1 else .stuck
  | [.int i, .int j] => if inRange i && inRange j then .ok ⟨rangeL i j, always⟩ S1 else .stuck
  | _ => .stuck
def wipe (δ : Env) : List Nat → Env
  | [] => δ
  | v :: vs => (wipe δ vs).set v none
/-- no exception leaves from here -/
def Res.nox {α : Type} (r : Res α) : Res α := match r with
  | .ok a S => .ok a S
  | _ => .stuck
@[simp] theorem Res.nox_ok {α : Type} (a : α) (S : Store) : (Res.ok a S).nox = .ok a S := id rfl
@[simp] theorem Res.sat_nox {α : Type} (r : Res α) (Q : α → Store → Prop) (E : Exc → Store → Prop) : r.nox.sat Q E ↔ r.sat Q := by
  cases r <;> simp [Res.nox]
theorem Res.nox_eq {α : Type} {r : Res α} {a : α} {S : Store} : r.nox = .ok a S ↔ r = .ok a S := by
  cases r <;> simp [Res.nox]
def lcLoop (still : Store → Bool) (D₀ : Nat) (δ : Env) (tg : Tgt) (tt : TM) (elt : EM) : List D → Store → Res Unit
  | [], S => if still S then .ok () S else .stuck
  | x :: r, S => if still S then (match tg.put x δ with
      | some δ2 => (tt δ2 S).nox.bind fun b S1 => if b = true then (elt δ2 S1).nox.bind fun y S2 => (match S2[D₀]? with
          | some (.lst acc) => if acc.length < LIM then lcLoop still D₀ δ tg tt elt r (S2.set D₀ (.lst (acc ++ [y]))) else .stuck
          | _ => .stuck) else lcLoop still D₀ δ tg tt elt r S1
      | none => .stuck) else .stuck
def lcM (own : List Nat) (src : IM) (tg : Tgt) (tt : TM) (elt : EM) : EM := fun δ S => (src δ S).bind fun s S1 =>
  (lcLoop s.still S1.length (wipe δ own) tg tt elt s.items (S1 ++ [.lst []])).bind fun _ S2 => .ok (.ref S1.length) S2

/-! ### instances of own classes -/
def getF (f : String) : List (String × D) → Option D
  | [] => none
  | p :: r => if p.1 = f then some p.2 else getF f r
def putF (f : String) (d : D) : List (String × D) → List (String × D)
  | [] => [(f, d)]
  | p :: r => if p.1 = f then (f, d) :: r else p :: putF f d r
def insAt (S : Store) (n : Nat) (C : String) : Option (List (String × D)) := match S[n]? with
  | some (.ins C' fs) => if C' = C then some fs else none
  | _ => none
def fldP (C f : String) : FM := fun ds S => match ds with
  | [.ref n] => (match insAt S n C with | some fs => (match getF f fs with | some d => .ok d S | none => .stuck) | none => .stuck)
  | _ => .stuck
/-- o.f = v: v, o -/
def putFP (C f : String) : FM := fun ds S => match ds with
  | [v, .ref n] => (match insAt S n C with | some fs => if fs.length < 100 then .ok .non (S.set n (.ins C (putF f v fs))) else .stuck | none => .stuck)
  | _ => .stuck
/-- o.f += e of ints: o, e -/
def augFP (C f : String) : FM := fun ds S => match ds with
  | [.ref n, .int j] => (match insAt S n C with | some fs => (match getF f fs with | some (.int i) => if fs.length < 100 then .ok .non (S.set n (.ins C (putF f (.int (i + j)) fs))) else .stuck | _ => .stuck) | none => .stuck)
  | _ => .stuck
/-- += of names: ints, texts -/
def addIS : FM := fun ds S => match ds with
  | [.int i, .int j] => .ok (.int (i + j)) S
  | [.str x, .str y] => if x.length + y.length ≤ LIM then .ok (.str (x ++ y)) S else .stuck
  | _ => .stuck
/-- o.m(..) -/
def methI (C m : String) (F : FM) (o : EM) (es : List EM) : EM := fun δ S => (o δ S).bind fun d S1 => match d with
  | .ref n => (match insAt S1 n C with
    | some fs => if getF m fs = none then (argsM es δ S1).bind fun ds S2 => F (d :: ds) S2 else .stuck
    | none => .stuck)
  | _ => .stuck
/-- C(..), F its __init__ -/
def makeM (C : String) (F : FM) (es : List EM) : EM := fun δ S => (argsM es δ S).bind fun ds S1 =>
  (F (.ref S1.length :: ds) (S1 ++ [.ins C []])).bind fun r S2 => if r = .non then .ok (.ref S1.length) S2 else .stuck
/-- a call of the def that a slot holds, one of some -/
def callV (i : Nat) (Fs : List (String × FM)) (es : List EM) : EM := fun δ S => match δ[i]? with
  | some (some (.fn x)) => (match Fs.lookup x with | some F => callM F es δ S | none => .stuck)
  | _ => .stuck

/-! ### statements -/
def noxS (s : SM) : SM := fun δ S => (s δ S).bind fun f S1 => match f with | .ex _ _ => .stuck | _ => .ok f S1
def nilS : SM := fun δ S => .ok (.nx δ) S
def seqS (a b : SM) : SM := fun δ S => (a δ S).bind fun f S1 => match f with | .nx δ1 => b δ1 S1 | _ => .ok f S1
def blkS : List SM → SM
  | [] => nilS
  | [a] => a
  | a :: b :: r => seqS a (blkS (b :: r))
def setS (tg : Tgt) (e : EM) : SM := fun δ S => (e δ S).thenS δ fun d S1 => match tg.put d δ with | some δ1 => .ok (.nx δ1) S1 | none => .stuck
def augS (i : Nat) (p : FM) (e : EM) : SM := fun δ S => match δ[i]? with
  | some (some x) => (e δ S).thenS δ fun y S1 => (p [x, y] S1).thenS δ fun z S2 => .ok (.nx (δ.set i (some z))) S2
  | _ => .stuck
def exprS (e : EM) : SM := fun δ S => (e δ S).thenS δ fun _ S1 => .ok (.nx δ) S1
def retS (e : EM) : SM := fun δ S => (e δ S).thenS δ fun d S1 => .ok (.rt d) S1
def retN : SM := fun _ S => .ok (.rt .non) S
def ifS (t : TM) (a b : SM) : SM := fun δ S => (t δ S).thenS δ fun c S1 => if c = true then a δ S1 else b δ S1
def brkS : SM := fun δ S => .ok (.bk δ) S
def cntS : SM := fun δ S => .ok (.ct δ) S
def neverS : SM := fun _ _ => .stuck
/-- raise C(..), its fields in the order of its __init__ -/
def raiseS (C : String) (fl : List String) (ms : List EM) : SM := fun δ S => (argsM ms δ S).thenS δ fun ds S1 => if ds.length = fl.length then .ok (.ex ⟨C, (fl.zip ds).reverse⟩ δ) S1 else .stuck
/-! what a suite does of the exception that it holds -/
def hRet (h : Exc → Option (List D)) : Exc → Option D := fun e => (h e).bind fun ds => if ds.length ≤ LIM then some (.tup ds) else none
def hCons (h : Exc → Option D) (r : Exc → Option (List D)) : Exc → Option (List D) := fun e => (h e).bind fun d => (r e).map fun ds => d :: ds
def hNil : Exc → Option (List D) := fun _ => some []
def hCon (d : D) : Exc → Option D := fun _ => some d
def hFld (C f : String) : Exc → Option D := fun e => if e.cls = C then getF f e.fs else none
def hIf (p : Exc → Option Bool) (a b : Exc → Option D) : Exc → Option D := fun e => (p e).bind fun t => if t = true then a e else b e
def hNot (p : Exc → Option Bool) : Exc → Option Bool := fun e => (p e).map fun b => !b
def hOr (p q : Exc → Option Bool) : Exc → Option Bool := fun e => (p e).bind fun b => if b = true then some true else q e
/-- isinstance of one class, of any of some; T: which class is below which -/
def hIs (T : String → String → Option Bool) (Cs : List String) : Exc → Option Bool := fun e => Cs.foldr (fun C r => (T e.cls C).bind fun b => if b = true then some true else r) (some false)
def tabT (tab : List (String × String × Bool)) (C D : String) : Option Bool := (tab.find? fun p => decide (p.1 = C ∧ p.2.1 = D)).map fun p => p.2.2
/-- try: s except ..: c tells whether it is caught, h what the suite then returns -/
def tryS (i : Nat) (c : Exc → Option Bool) (h : Exc → Option D) (s : SM) : SM := fun δ S => (s δ S).bind fun f S1 => match f with
  | .ex e δ1 => if i < δ1.length then (match c e with
    | some true => (match h e with | some d => .ok (.rt d) S1 | none => .stuck)
    | some false => .ok (.ex e δ1) S1
    | none => .stuck) else .stuck
  | f => .ok f S1
/-- o[i] = e: e, o, i -/
def putLP : FM := fun ds S => match ds with
  | [v, .ref n, .int k] => (match S[n]? with
    | some (.lst xs) => (match ixN xs.length k with | some j => .ok .non (S.set n (.lst (xs.set j v))) | none => .stuck)
    | _ => .stuck)
  | _ => .stuck
def forLoop (still : Store → Bool) (tg : Tgt) (body : SM) : List D → Env → Store → Res Flow
  | [], δ, S => if still S then .ok (.nx δ) S else .stuck
  | x :: r, δ, S => if still S then (match tg.put x δ with
      | some δ1 => (body δ1 S).bind fun f S1 => (match f with
        | .nx δ2 => forLoop still tg body r δ2 S1
        | .ct δ2 => forLoop still tg body r δ2 S1
        | .bk δ2 => .ok (.nx δ2) S1
        | .rt d => .ok (.rt d) S1
        | .ex e δ2 => .ok (.ex e δ2) S1)
      | none => .stuck) else .stuck
def forS (src : IM) (tg : Tgt) (body : SM) : SM := fun δ S => (src δ S).thenS δ fun s S1 => forLoop s.still tg body s.items δ S1
def whileLoop (t : TM) (body : SM) : Nat → Env → Store → Res Flow
  | 0, _, _ => .stuck
  | n + 1, δ, S => (t δ S).thenS δ fun c S1 => if c = true then (body δ S1).bind fun f S2 => (match f with
        | .nx δ2 => whileLoop t body n δ2 S2
        | .ct δ2 => whileLoop t body n δ2 S2
        | .bk δ2 => .ok (.nx δ2) S2
        | .rt d => .ok (.rt d) S2
        | .ex e δ2 => .ok (.ex e δ2) S2) else .ok (.nx δ) S1
def whileS (t : TM) (body : SM) : SM := whileLoop t body FUEL

/-! ### defs -/
/-- a def of so many parameters and slots -/
def defM (params slots : Nat) (body : SM) : FM := fun ds S => if ds.length = params then
    (body (ds.map some ++ List.replicate (slots - params) none) S).nox.bind fun f S1 => (match f with
      | .rt d => .ok d S1
      | .nx _ => .ok .non S1
      | .ex e _ => .exc e S1
      | _ => .stuck)
  else .stuck

/-! ### built-ins -/
def lenP : FM := fun ds S => match ds with
  | [.str x] => if x.length ≤ LIM then .ok (.int x.length) S else .stuck
  | [.tup xs] => .ok (.int xs.length) S
  | [.lit xs] => .ok (.int xs.length) S
  | [.ref n] => (match S[n]? with
    | some (.lst xs) => .ok (.int xs.length) S
    | some (.dct xs) => .ok (.int xs.length) S
    | _ => .stuck)
  | _ => .stuck
/-- the digits of a number, and what digits are worth -/
def natCs (n : Nat) : Cs := (Nat.toDigits 10 n).map Char.toNat
def intCs (i : Int) : Cs := if i < 0 then 45 :: natCs i.natAbs else natCs i.natAbs
def digV (cs : Cs) : Nat := cs.foldl (fun acc c => acc * 10 + (c - 48)) 0
def isDigit (c : Nat) : Bool := decide (48 ≤ c) && decide (c ≤ 57)
def csInt (cs : Cs) : Option Int := match cs with
  | [] => none
  | 45 :: r => if r ≠ [] ∧ r.all isDigit then some (-(digV r : Int)) else none
  | c :: r => if (c :: r).all isDigit then some (digV (c :: r) : Int) else none
def strP : FM := fun ds S => match ds with
  | [.int i] => if i.natAbs < 2 ^ 1900 then .ok (.str (intCs i)) S else .stuck
  | _ => .stuck
/-- {x} in an f-string -/
def fmtP : FM := fun ds S => match ds with
  | [.int i] => if i.natAbs < 2 ^ 1900 then .ok (.str (intCs i)) S else .stuck
  | [.str x] => if x.length ≤ LIM then .ok (.str x) S else .stuck
  | _ => .stuck
def catM : Cs → List EM → EM
  | acc, [] => fun _ S => .ok (.str acc) S
  | acc, e :: es => fun δ S => (e δ S).bind fun d S1 => match d with
    | .str y => if acc.length + y.length ≤ LIM then catM (acc ++ y) es δ S1 else .stuck
    | _ => .stuck
def intP : FM := fun ds S => match ds with
  | [.str x] => if x.length ≤ 640 then (match csInt x with | some n => .ok (.int n) S | none => .stuck) else .stuck
  | [.int i] => .ok (.int i) S
  | [.bl b] => .ok (.int (b2i b)) S
  | _ => .stuck
def listP : FM := fun ds S => match ds with
  | [.ref n] => (match lstAt S n with | some xs => .ok (.ref S.length) (S ++ [.lst xs]) | none => .stuck)
  | [.tup xs] => .ok (.ref S.length) (S ++ [.lst xs])
  | [.lit xs] => .ok (.ref S.length) (S ++ [.lst xs])
  | _ => .stuck
def tupleP : FM := fun ds S => match ds with
  | [.ref n] => (match lstAt S n with | some xs => .ok (.tup xs) S | none => .stuck)
  | [.tup xs] => .ok (.tup xs) S
  | _ => .stuck
/-- o.append and its like give the receiver's kind in the text; here the types of data -/
def tyN (d : D) (S : Store) : Option String := match d with
  | .non => some "NoneType"
  | .bl _ => some "bool"
  | .int _ => some "int"
  | .str _ => some "str"
  | .tup _ => some "tuple"
  | .ref n => (match S[n]? with | some (.lst _) => some "list" | some (.dct _) => some "dict" | _ => none)
  | .fn _ => none
  | .lit _ => some "list"
def appendP : FM := fun ds S => match ds with
  | [.ref n, d] => (match S[n]? with | some (.lst xs) => if xs.length < LIM then .ok .non (S.set n (.lst (xs ++ [d]))) else .stuck | _ => .stuck)
  | _ => .stuck
/-- a method of a built-in type: the receiver's type is looked at first -/
def methM (T : String) (p : FM) (o : EM) (es : List EM) : EM := fun δ S => (o δ S).bind fun d S1 => if tyN d S1 = some T then (argsM es δ S1).bind fun ds S2 => p (d :: ds) S2 else .stuck
def insertP : FM := fun ds S => match ds with
  | [.ref n, .int i, d] => (match S[n]? with | some (.lst xs) => if xs.length < LIM ∧ 0 ≤ i ∧ i < 2 ^ 62 then .ok .non (S.set n (.lst (xs.take i.toNat ++ [d] ++ xs.drop i.toNat))) else .stuck | _ => .stuck)
  | _ => .stuck
def popP : FM := fun ds S => match ds with
  | [.ref n] => (match S[n]? with | some (.lst xs) => (match xs[xs.length - 1]? with | some d => .ok d (S.set n (.lst xs.dropLast)) | none => .stuck) | _ => .stuck)
  | _ => .stuck
def reverseP : FM := fun ds S => match ds with
  | [.ref n] => (match S[n]? with | some (.lst xs) => .ok .non (S.set n (.lst xs.reverse)) | _ => .stuck)
  | _ => .stuck
def isTy (a b : String) : Bool := a == b || (a == "bool" && b == "int")
def isP (Ts : List String) : FM := fun ds S => match ds with
  | [d] => (match tyN d S with | some t => .ok (.bl (Ts.any fun T => isTy t T)) S | none => .stuck)
  | _ => .stuck
def strsOf : List D → Option (List Cs)
  | [] => some []
  | .str x :: r => (strsOf r).map fun xs => x :: xs
  | _ :: _ => none
def intsOf : List D → Option (List Int)
  | [] => some []
  | .int x :: r => (intsOf r).map fun xs => x :: xs
  | _ :: _ => none
def joinCs (sep : Cs) : List Cs → Cs
  | [] => []
  | [x] => x
  | x :: y :: r => x ++ sep ++ joinCs sep (y :: r)
def joinP : FM := fun ds S => match ds with
  | [.str sep, d] => (match (match d with | .ref n => lstAt S n | .tup xs => some xs | _ => none) with
    | some xs => (match strsOf xs with
      | some ys => if (ys.map List.length).sum + ys.length * sep.length ≤ LIM then .ok (.str (joinCs sep ys)) S else .stuck
      | none => .stuck)
    | none => .stuck)
  | _ => .stuck
def csLe (x y : Cs) : Bool := !decide (y < x)
/-- sorted of texts -/
def sortedSP : FM := fun ds S => match ds with
  | [.ref n] => (match lstAt S n with
    | some xs => (match strsOf xs with
      | some ys => if ys.length < 64 then .ok (.ref S.length) (S ++ [.lst ((ys.mergeSort csLe).map D.str)]) else .stuck
      | none => .stuck)
    | none => .stuck)
  | _ => .stuck
def maxL : Int → List Int → Int
  | a, [] => a
  | a, b :: r => maxL (if b > a then b else a) r
def maxP : FM := fun ds S => match ds with
  | [.ref n] => (match lstAt S n with
    | some xs => (match intsOf xs with
      | some (a :: r) => .ok (.int (maxL a r)) S
      | _ => .stuck)
    | none => .stuck)
  | [.int i, .int j] => .ok (.int (if j > i then j else i)) S
  | _ => .stuck
def absP : FM := fun ds S => match ds with | [.int i] => .ok (.int (if i < 0 then -i else i)) S | _ => .stuck
def minP : FM := fun ds S => match ds with
  | [.int i, .int j] => .ok (.int (if j < i then j else i)) S
  | _ => .stuck
end Dl

end

section
set_option linter.all false
set_option Elab.async false
set_option maxRecDepth 100000
set_option linter.all false
set_option Elab.async false
/-! DlEv: the combinators applied, for simp; loops by invariants; frames. Plain Lean. -/
namespace DlM
open Dl
section
variable {i : Nat} {δ : Env} {S : Store}
@[scoped simp] theorem varM_ap : varM i δ S = match δ[i]? with | some (some d) => .ok d S | _ => .stuck := id rfl
@[scoped simp] theorem conM_ap (d : D) : conM d δ S = .ok d S := id rfl
@[scoped simp] theorem argsM_nil : argsM [] δ S = .ok [] S := id rfl
@[scoped simp] theorem argsM_cons (e : EM) (es : List EM) : argsM (e :: es) δ S = (e δ S).bind fun d S1 => (argsM es δ S1).bind fun ds S2 => .ok (d :: ds) S2 := id rfl
@[scoped simp] theorem callM_ap (f : FM) (es : List EM) : callM f es δ S = (argsM es δ S).bind f := id rfl
@[scoped simp] theorem tvM_ap (m : EM) : tvM m δ S = (m δ S).bind fun d S1 => match truth d S1 with | some b => .ok b S1 | none => .stuck := id rfl
@[scoped simp] theorem tbM_ap (m : EM) : tbM m δ S = (m δ S).bind fun d S1 => match d with | .bl b => .ok b S1 | _ => .stuck := id rfl
@[scoped simp] theorem andT_ap (a b : TM) : andT a b δ S = (a δ S).bind fun c S1 => if c = true then b δ S1 else .ok false S1 := id rfl
@[scoped simp] theorem orT_ap (a b : TM) : orT a b δ S = (a δ S).bind fun c S1 => if c = true then .ok true S1 else b δ S1 := id rfl
@[scoped simp] theorem notT_ap (a : TM) : notT a δ S = (a δ S).bind fun c S1 => .ok (!c) S1 := id rfl
@[scoped simp] theorem yesT_ap : yesT δ S = .ok true S := id rfl
@[scoped simp] theorem ifM_ap (t : TM) (a b : EM) : ifM t a b δ S = (t δ S).bind fun c S1 => if c = true then a δ S1 else b δ S1 := id rfl
@[scoped simp] theorem andV_ap (a b : EM) : andV a b δ S = (a δ S).bind fun d S1 => match d with | .bl c => if c = true then b δ S1 else .ok (.bl false) S1 | _ => .stuck := id rfl
@[scoped simp] theorem orV_ap (a b : EM) : orV a b δ S = (a δ S).bind fun d S1 => match d with | .bl c => if c = true then .ok (.bl true) S1 else b δ S1 | _ => .stuck := id rfl
@[scoped simp] theorem notV_ap (a : EM) : notV a δ S = (a δ S).bind fun d S1 => match d with | .bl c => .ok (.bl (!c)) S1 | _ => .stuck := id rfl
@[scoped simp] theorem sliceM_ap (o : EM) (lo hi : Option EM) : sliceM o lo hi δ S = (o δ S).bind fun d S1 => (optI lo δ S1).bind fun l S2 => (optI hi δ S2).bind fun h S3 => sliceP d l h S3 := id rfl
@[scoped simp] theorem optI_none : optI none δ S = .ok none S := id rfl
@[scoped simp] theorem optI_some (e : EM) : optI (some e) δ S = (e δ S).bind fun d S1 => match d with | .int i => .ok (some i) S1 | _ => .stuck := id rfl
@[scoped simp] theorem seqI_ap (e : EM) : seqI e δ S = (e δ S).bind fun d S1 => match d with
  | .ref n => (match lstAt S1 n with | some xs => .ok ⟨xs, isLst n xs⟩ S1 | none => .stuck)
  | .tup xs => .ok ⟨xs, always⟩ S1
  | .lit xs => .ok ⟨xs, always⟩ S1
  | _ => .stuck := id rfl
@[scoped simp] theorem rangeI_ap (es : List EM) : rangeI es δ S = (argsM es δ S).bind fun ds S1 => match ds with
  | [.int j] => if inRange j then .ok ⟨rangeL 0 j, always⟩ S1 else .stuck
  | [.int i, .int j] => if inRange i && inRange j then .ok ⟨rangeL i j, always⟩ S1 else .stuck
  | _ => .stuck := id rfl
@[scoped simp] theorem methI_ap (C m : String) (F : FM) (o : EM) (es : List EM) : methI C m F o es δ S = (o δ S).bind fun d S1 => match d with
  | .ref n => (match insAt S1 n C with
    | some fs => if getF m fs = none then (argsM es δ S1).bind fun ds S2 => F (d :: ds) S2 else .stuck
    | none => .stuck)
  | _ => .stuck := id rfl
@[scoped simp] theorem makeM_ap (C : String) (F : FM) (es : List EM) : makeM C F es δ S = (argsM es δ S).bind fun ds S1 =>
  (F (.ref S1.length :: ds) (S1 ++ [.ins C []])).bind fun r S2 => if r = .non then .ok (.ref S1.length) S2 else .stuck := id rfl
@[scoped simp] theorem callV_ap (Fs : List (String × FM)) (es : List EM) : callV i Fs es δ S = match δ[i]? with
  | some (some (.fn x)) => (match Fs.lookup x with | some F => callM F es δ S | none => .stuck)
  | _ => .stuck := id rfl
@[scoped simp] theorem methM_ap (T : String) (p : FM) (o : EM) (es : List EM) : methM T p o es δ S = (o δ S).bind fun d S1 => if tyN d S1 = some T then (argsM es δ S1).bind fun ds S2 => p (d :: ds) S2 else .stuck := id rfl
@[scoped simp] theorem catM_nil (acc : Cs) : catM acc [] δ S = .ok (.str acc) S := id rfl
@[scoped simp] theorem catM_cons (acc : Cs) (e : EM) (es : List EM) : catM acc (e :: es) δ S = (e δ S).bind fun d S1 => match d with
    | .str y => if acc.length + y.length ≤ LIM then catM (acc ++ y) es δ S1 else .stuck
    | _ => .stuck := id rfl
/-! statements -/
@[scoped simp] theorem blkS_nil : blkS [] δ S = .ok (.nx δ) S := id rfl
@[scoped simp] theorem blkS_one (a : SM) : blkS [a] δ S = a δ S := id rfl
@[scoped simp] theorem blkS_cons (a b : SM) (r : List SM) : blkS (a :: b :: r) δ S = (a δ S).bind fun f S1 => match f with | .nx δ1 => blkS (b :: r) δ1 S1 | _ => .ok f S1 := id rfl
@[scoped simp] theorem setS_ap (tg : Tgt) (e : EM) : setS tg e δ S = (e δ S).thenS δ fun d S1 => match tg.put d δ with | some δ1 => .ok (.nx δ1) S1 | none => .stuck := id rfl
@[scoped simp] theorem augS_ap (p : FM) (e : EM) : augS i p e δ S = match δ[i]? with
  | some (some x) => (e δ S).thenS δ fun y S1 => (p [x, y] S1).thenS δ fun z S2 => .ok (.nx (δ.set i (some z))) S2
  | _ => .stuck := id rfl
@[scoped simp] theorem exprS_ap (e : EM) : exprS e δ S = (e δ S).thenS δ fun _ S1 => .ok (.nx δ) S1 := id rfl
@[scoped simp] theorem retS_ap (e : EM) : retS e δ S = (e δ S).thenS δ fun d S1 => .ok (.rt d) S1 := id rfl
@[scoped simp] theorem retN_ap : retN δ S = .ok (.rt .non) S := id rfl
@[scoped simp] theorem ifS_ap (t : TM) (a b : SM) : ifS t a b δ S = (t δ S).thenS δ fun c S1 => if c = true then a δ S1 else b δ S1 := id rfl
@[scoped simp] theorem brkS_ap : brkS δ S = .ok (.bk δ) S := id rfl
@[scoped simp] theorem cntS_ap : cntS δ S = .ok (.ct δ) S := id rfl
@[scoped simp] theorem neverS_ap : neverS δ S = .stuck := id rfl
@[scoped simp] theorem raiseS_ap (C : String) (fl : List String) (ms : List EM) : raiseS C fl ms δ S = (argsM ms δ S).thenS δ fun ds S1 => if ds.length = fl.length then .ok (.ex ⟨C, (fl.zip ds).reverse⟩ δ) S1 else .stuck := id rfl
theorem tryS_ap (c : Exc → Option Bool) (h : Exc → Option D) (s : SM) : tryS i c h s δ S = (s δ S).bind fun f S1 => match f with
  | .ex e δ1 => if i < δ1.length then (match c e with
    | some true => (match h e with | some d => .ok (.rt d) S1 | none => .stuck)
    | some false => .ok (.ex e δ1) S1
    | none => .stuck) else .stuck
  | f => .ok f S1 := id rfl
@[scoped simp] theorem noxS_ap (s : SM) : noxS s δ S = (s δ S).bind fun f S1 => match f with | .ex _ _ => .stuck | _ => .ok f S1 := id rfl
@[scoped simp] theorem forS_ap (src : IM) (tg : Tgt) (body : SM) : forS src tg body δ S = (src δ S).thenS δ fun s S1 => forLoop s.still tg body s.items δ S1 := id rfl
@[scoped simp] theorem whileS_ap (t : TM) (body : SM) : whileS t body δ S = whileLoop t body FUEL δ S := id rfl
@[scoped simp] theorem put_nm (d : D) : (Tgt.nm i).put d δ = some (δ.set i (some d)) := id rfl
@[scoped simp] theorem put_tp (is : List Nat) (ds : List D) : (Tgt.tp is).put (.tup ds) δ = if ds.length = is.length then some (setAll is ds δ) else none := id rfl
@[scoped simp] theorem setAll_nil : setAll [] [] δ = δ := id rfl
@[scoped simp] theorem setAll_cons (is : List Nat) (d : D) (ds : List D) : setAll (i :: is) (d :: ds) δ = setAll is ds (δ.set i (some d)) := id rfl
@[scoped simp] theorem wipe_nil : wipe δ [] = δ := id rfl
@[scoped simp] theorem wipe_cons (v : Nat) (vs : List Nat) : wipe δ (v :: vs) = (wipe δ vs).set v none := id rfl
/-- a def's answer -/
theorem sat_defM {params slots : Nat} {body : SM} {ds : List D} {Q : D → Store → Prop} {E : Exc → Store → Prop} (hl : ds.length = params)
    (h : (body (ds.map some ++ List.replicate (slots - params) none) S).sat fun f S1 => match f with | .rt d => Q d S1 | .nx _ => Q .non S1 | .ex e _ => E e S1 | _ => False) : (defM params slots body ds S).sat Q E := by
  unfold defM
  rw [if_pos hl]
  rw [Res.sat_bind]
  cases e : body (ds.map some ++ List.replicate (slots - params) none) S with
  | stuck => rw [e, Res.sat_stuck] at h; exact h.elim
  | exc y S1 => rw [e, Res.sat_exc] at h; exact h.elim
  | ok f S1 =>
    rw [e, Res.sat_ok] at h
    simp only [Res.nox_ok, Res.sat_ok]
    cases f <;> simpa using h
end
/-! built-ins on shapes -/
section
variable {S : Store}
@[scoped simp] theorem eqP_int (i j : Int) : eqP [.int i, .int j] S = .ok (.bl (decide (i = j))) S := by simp [eqP, D.scal]
@[scoped simp] theorem eqP_str (i j : Cs) : eqP [.str i, .str j] S = .ok (.bl (decide (i = j))) S := by simp [eqP, D.scal]
@[scoped simp] theorem eqP_bl (i j : Bool) : eqP [.bl i, .bl j] S = .ok (.bl (decide (i = j))) S := by simp [eqP, D.scal]
@[scoped simp] theorem eqP_non : eqP [.non, .non] S = .ok (.bl true) S := by simp [eqP, D.scal]
@[scoped simp] theorem neP_ap (ds : List D) : neP ds S = (eqP ds S).bind fun d S => match d with | .bl b => .ok (.bl (!b)) S | _ => .stuck := id rfl
@[scoped simp] theorem notInP_ap (ds : List D) : notInP ds S = (inP ds S).bind fun d S => match d with | .bl b => .ok (.bl (!b)) S | _ => .stuck := id rfl
@[scoped simp] theorem inP_str (c : Nat) (ys : Cs) : inP [.str [c], .str ys] S = .ok (.bl (decide (c ∈ ys))) S := id rfl
@[scoped simp] theorem isNonP_ap (d : D) : isNonP [d] S = .ok (.bl (decide (d = .non))) S := id rfl
@[scoped simp] theorem notNonP_ap (d : D) : notNonP [d] S = .ok (.bl (!decide (d = .non))) S := id rfl
@[scoped simp] theorem addP_int (i j : Int) : addP [.int i, .int j] S = .ok (.int (i + j)) S := id rfl
@[scoped simp] theorem addP_str (i j : Cs) : addP [.str i, .str j] S = if i.length + j.length ≤ LIM then .ok (.str (i ++ j)) S else .stuck := id rfl
@[scoped simp] theorem addP_ref (n m : Nat) : addP [.ref n, .ref m] S = (match S[n]?, S[m]? with
    | some (.lst xs), some (.lst ys) => if xs.length + ys.length ≤ LIM then .ok (.ref S.length) (S ++ [.lst (xs ++ ys)]) else .stuck
    | _, _ => .stuck) := id rfl
@[scoped simp] theorem subP_int (i j : Int) : subP [.int i, .int j] S = .ok (.int (i - j)) S := id rfl
theorem mulP_str (x : Cs) (j : Int) : mulP [.str x, .int j] S = if 0 ≤ j ∧ x.length * j.toNat ≤ LIM ∧ j ≤ (LIM : Int) then .ok (.str (List.replicate j.toNat x).flatten) S else .stuck := id rfl
@[scoped simp] theorem mulP_int (i j : Int) : mulP [.int i, .int j] S = if small64 i || small64 j then .ok (.int (i * j)) S else .stuck := id rfl
@[scoped simp] theorem modP_int (i j : Int) : modP [.int i, .int j] S = if 0 < j then .ok (.int (i % j)) S else .stuck := id rfl
@[scoped simp] theorem fdivP_int (i j : Int) : fdivP [.int i, .int j] S = if 0 < j ∧ j < 1073741824 then .ok (.int (i / j)) S else .stuck := id rfl
@[scoped simp] theorem powP_int (i j : Int) : powP [.int i, .int j] S = if 0 ≤ j ∧ j ≤ 1000000 ∧ i.natAbs < 2 ^ 64 then .ok (.int (i ^ j.toNat)) S else .stuck := id rfl
@[scoped simp] theorem negP_int (i : Int) : negP [.int i] S = .ok (.int (-i)) S := id rfl
@[scoped simp] theorem ltP_int (i j : Int) : ltP [.int i, .int j] S = .ok (.bl (decide (i < j))) S := id rfl
@[scoped simp] theorem leP_int (i j : Int) : leP [.int i, .int j] S = .ok (.bl (decide (i ≤ j))) S := id rfl
@[scoped simp] theorem gtP_int (i j : Int) : gtP [.int i, .int j] S = .ok (.bl (decide (j < i))) S := id rfl
@[scoped simp] theorem geP_int (i j : Int) : geP [.int i, .int j] S = .ok (.bl (decide (j ≤ i))) S := id rfl
@[scoped simp] theorem ixP_ref (n : Nat) (i : Int) : ixP [.ref n, .int i] S = (match lstAt S n with | some xs => (match atI xs i with | some d => .ok d S | none => .stuck) | none => .stuck) := id rfl
@[scoped simp] theorem ixP_tup (xs : List D) (i : Int) : ixP [.tup xs, .int i] S = (match atI xs i with | some d => .ok d S | none => .stuck) := id rfl
@[scoped simp] theorem ixP_lit (xs : List D) (i : Int) : ixP [.lit xs, .int i] S = (match atI xs i with | some d => .ok d S | none => .stuck) := id rfl
@[scoped simp] theorem ixP_str (x : Cs) (i : Int) : ixP [.str x, .int i] S = if x.length ≤ LIM then (match atI x i with | some c => .ok (.str [c]) S | none => .stuck) else .stuck := id rfl
@[scoped simp] theorem sliceP_ref (n : Nat) (lo hi : Option Int) : sliceP (.ref n) lo hi S = (match lstAt S n with | some xs => .ok (.ref S.length) (S ++ [.lst (cut xs lo hi)]) | none => .stuck) := id rfl
@[scoped simp] theorem sliceP_tup (xs : List D) (lo hi : Option Int) : sliceP (.tup xs) lo hi S = .ok (.tup (cut xs lo hi)) S := id rfl
@[scoped simp] theorem sliceP_str (x : Cs) (lo hi : Option Int) : sliceP (.str x) lo hi S = if x.length ≤ LIM then .ok (.str (cut x lo hi)) S else .stuck := id rfl
@[scoped simp] theorem lenP_str (x : Cs) : lenP [.str x] S = if x.length ≤ LIM then .ok (.int x.length) S else .stuck := id rfl
@[scoped simp] theorem lenP_tup (x : List D) : lenP [.tup x] S = .ok (.int x.length) S := id rfl
@[scoped simp] theorem lenP_lit (x : List D) : lenP [.lit x] S = .ok (.int x.length) S := id rfl
@[scoped simp] theorem lenP_ref (n : Nat) : lenP [.ref n] S = (match S[n]? with
    | some (.lst xs) => .ok (.int xs.length) S
    | some (.dct xs) => .ok (.int xs.length) S
    | _ => .stuck) := id rfl
@[scoped simp] theorem strP_int (i : Int) : strP [.int i] S = if i.natAbs < 2 ^ 1900 then .ok (.str (intCs i)) S else .stuck := id rfl
@[scoped simp] theorem fmtP_int (i : Int) : fmtP [.int i] S = if i.natAbs < 2 ^ 1900 then .ok (.str (intCs i)) S else .stuck := id rfl
@[scoped simp] theorem fmtP_str (x : Cs) : fmtP [.str x] S = if x.length ≤ LIM then .ok (.str x) S else .stuck := id rfl
@[scoped simp] theorem intP_str (x : Cs) : intP [.str x] S = if x.length ≤ 640 then (match csInt x with | some n => .ok (.int n) S | none => .stuck) else .stuck := id rfl
@[scoped simp] theorem intP_int (i : Int) : intP [.int i] S = .ok (.int i) S := id rfl
@[scoped simp] theorem intP_bl (b : Bool) : intP [.bl b] S = .ok (.int (b2i b)) S := id rfl
@[scoped simp] theorem listP_ref (n : Nat) : listP [.ref n] S = (match lstAt S n with | some xs => .ok (.ref S.length) (S ++ [.lst xs]) | none => .stuck) := id rfl
@[scoped simp] theorem tupleP_ref (n : Nat) : tupleP [.ref n] S = (match lstAt S n with | some xs => .ok (.tup xs) S | none => .stuck) := id rfl
@[scoped simp] theorem appendP_ref (n : Nat) (d : D) : appendP [.ref n, d] S = (match S[n]? with | some (.lst xs) => if xs.length < LIM then .ok .non (S.set n (.lst (xs ++ [d]))) else .stuck | _ => .stuck) := id rfl
@[scoped simp] theorem popP_ref (n : Nat) : popP [.ref n] S = (match S[n]? with | some (.lst xs) => (match xs[xs.length - 1]? with | some d => .ok d (S.set n (.lst xs.dropLast)) | none => .stuck) | _ => .stuck) := id rfl
@[scoped simp] theorem reverseP_ref (n : Nat) : reverseP [.ref n] S = (match S[n]? with | some (.lst xs) => .ok .non (S.set n (.lst xs.reverse)) | _ => .stuck) := id rfl
@[scoped simp] theorem putLP_ref (v : D) (n : Nat) (k : Int) : putLP [v, .ref n, .int k] S = (match S[n]? with
    | some (.lst xs) => (match ixN xs.length k with | some j => .ok .non (S.set n (.lst (xs.set j v))) | none => .stuck)
    | _ => .stuck) := id rfl
@[scoped simp] theorem isP_ap (Ts : List String) (d : D) : isP Ts [d] S = (match tyN d S with | some t => .ok (.bl (Ts.any fun T => isTy t T)) S | none => .stuck) := id rfl
@[scoped simp] theorem tyN_non : tyN .non S = some "NoneType" := id rfl
@[scoped simp] theorem tyN_bl (b : Bool) : tyN (.bl b) S = some "bool" := id rfl
@[scoped simp] theorem tyN_int (i : Int) : tyN (.int i) S = some "int" := id rfl
@[scoped simp] theorem tyN_str (x : Cs) : tyN (.str x) S = some "str" := id rfl
@[scoped simp] theorem tyN_tup (x : List D) : tyN (.tup x) S = some "tuple" := id rfl
@[scoped simp] theorem tyN_lit (x : List D) : tyN (.lit x) S = some "list" := id rfl
@[scoped simp] theorem tyN_ref (n : Nat) : tyN (.ref n) S = (match S[n]? with | some (.lst _) => some "list" | some (.dct _) => some "dict" | _ => none) := id rfl
theorem tyN_lst {n : Nat} {xs : List D} (h : S[n]? = some (.lst xs)) : tyN (.ref n) S = some "list" := by simp [tyN, h]
theorem lstAt_of {n : Nat} {xs : List D} (h : S[n]? = some (.lst xs)) : lstAt S n = some xs := by simp [lstAt, h]
@[scoped simp] theorem lstP_ap (ds : List D) : lstP ds S = if ds.length ≤ LIM then .ok (.ref S.length) (S ++ [.lst ds]) else .stuck := id rfl
@[scoped simp] theorem tupP_ap (ds : List D) : tupP ds S = if ds.length ≤ LIM then .ok (.tup ds) S else .stuck := id rfl
@[scoped simp] theorem addIS_int (i j : Int) : addIS [.int i, .int j] S = .ok (.int (i + j)) S := id rfl
@[scoped simp] theorem addIS_str (i j : Cs) : addIS [.str i, .str j] S = if i.length + j.length ≤ LIM then .ok (.str (i ++ j)) S else .stuck := id rfl
@[scoped simp] theorem maxP_ref (n : Nat) : maxP [.ref n] S = (match lstAt S n with
    | some xs => (match intsOf xs with
      | some (a :: r) => .ok (.int (maxL a r)) S
      | _ => .stuck)
    | none => .stuck) := id rfl
@[scoped simp] theorem minP_int (i j : Int) : minP [.int i, .int j] S = .ok (.int (if j < i then j else i)) S := id rfl
@[scoped simp] theorem joinP_ref (sep : Cs) (n : Nat) : joinP [.str sep, .ref n] S = (match lstAt S n with
    | some xs => (match strsOf xs with
      | some ys => if (ys.map List.length).sum + ys.length * sep.length ≤ LIM then .ok (.str (joinCs sep ys)) S else .stuck
      | none => .stuck)
    | none => .stuck) := id rfl
end
theorem le_LIM {n : Nat} (h : n ≤ 1000000) : n ≤ LIM := Nat.le_trans h (by decide)
theorem lt_LIM {n : Nat} (h : n ≤ 1000000) : n < LIM := Nat.lt_of_le_of_lt h (by decide)
@[scoped simp] theorem lim_0 : 0 ≤ LIM := by decide
@[scoped simp] theorem lim_1 : 1 ≤ LIM := by decide
@[scoped simp] theorem lim_2 : 2 ≤ LIM := by decide
@[scoped simp] theorem lim_3 : 3 ≤ LIM := by decide
@[scoped simp] theorem lim_4 : 4 ≤ LIM := by decide
@[scoped simp] theorem lim_5 : 5 ≤ LIM := by decide
@[scoped simp] theorem lim_6 : 6 ≤ LIM := by decide
@[scoped simp] theorem lim_7 : 7 ≤ LIM := by decide
@[scoped simp] theorem lim_8 : 8 ≤ LIM := by decide
@[scoped simp] theorem lim_9 : 9 ≤ LIM := by decide
@[scoped simp] theorem lim_10 : 10 ≤ LIM := by decide
@[scoped simp] theorem lim_11 : 11 ≤ LIM := by decide
@[scoped simp] theorem lim_12 : 12 ≤ LIM := by decide
@[scoped simp] theorem lim_13 : 13 ≤ LIM := by decide
@[scoped simp] theorem lim_14 : 14 ≤ LIM := by decide
@[scoped simp] theorem lim_15 : 15 ≤ LIM := by decide
@[scoped simp] theorem limt_0 : 0 < LIM := by decide
@[scoped simp] theorem strsOf_map (xs : List Cs) : strsOf (xs.map D.str) = some xs := by
  induction xs with
  | nil => rfl
  | cons x r ih => simp [strsOf, ih]
@[scoped simp] theorem intsOf_map (xs : List Int) : intsOf (xs.map D.int) = some xs := by
  induction xs with
  | nil => rfl
  | cons x r ih => simp [intsOf, ih]
@[scoped simp] theorem strsOf_cons (x : Cs) (r : List D) : strsOf (.str x :: r) = (strsOf r).map fun xs => x :: xs := id rfl
@[scoped simp] theorem intsOf_cons (x : Int) (r : List D) : intsOf (.int x :: r) = (intsOf r).map fun xs => x :: xs := id rfl
@[scoped simp] theorem strsOf_nil : strsOf [] = some [] := id rfl
@[scoped simp] theorem intsOf_nil : intsOf [] = some [] := id rfl
theorem atI_nat {α : Type} {xs : List α} {k : Nat} {x : α} (h : xs[k]? = some x) : atI xs (k : Int) = some x := by
  have hk : k < xs.length := (List.getElem?_eq_some_iff.mp h).1
  unfold atI ixN
  rw [if_pos (by omega), if_pos (by omega)]
  simpa using h
theorem atI_int {α : Type} {xs : List α} {i : Int} (h0 : 0 ≤ i) (h : i < xs.length) : ∃ x, atI xs i = some x ∧ xs[i.toNat]? = some x := by
  have hk : i.toNat < xs.length := by omega
  refine ⟨xs[i.toNat], ?_, List.getElem?_eq_getElem hk⟩
  have := atI_nat (List.getElem?_eq_getElem hk)
  rwa [Int.toNat_of_nonneg h0] at this
@[scoped simp] theorem atI_zero {α : Type} {x : α} {xs : List α} : atI (x :: xs) 0 = some x := by simp [atI, ixN]
@[scoped simp] theorem atI_one {α : Type} {x y : α} {xs : List α} : atI (x :: y :: xs) 1 = some y := atI_nat (k := 1) rfl
@[scoped simp] theorem atI_two {α : Type} {x y z : α} {xs : List α} : atI (x :: y :: z :: xs) 2 = some z := atI_nat (k := 2) rfl
theorem atI_last {α : Type} {x : α} {xs : List α} : atI (xs ++ [x]) (-1) = some x := by
  unfold atI ixN
  rw [if_neg (by omega), if_pos (by simp; omega)]
  have e : ((-1 : Int) + ((xs ++ [x]).length : Nat)).toNat = xs.length := by rw [List.length_append]; simp only [List.length_singleton]; omega
  rw [e]
  simp
theorem ixN_last {α : Type} {x : α} {xs : List α} : ixN (xs ++ [x]).length (-1) = some xs.length := by
  unfold ixN
  rw [if_neg (by omega), if_pos (by simp; omega)]
  have e : ((-1 : Int) + ((xs ++ [x]).length : Nat)).toNat = xs.length := by rw [List.length_append]; simp only [List.length_singleton]; omega
  rw [e]
theorem ixN_nat {n k : Nat} (h : k < n) : ixN n (k : Int) = some k := by
  unfold ixN
  rw [if_pos (by omega), if_pos (by omega)]
  simp
theorem ixN_int {n : Nat} {i : Int} (h0 : 0 ≤ i) (h : i < n) : ixN n i = some i.toNat := by
  unfold ixN
  rw [if_pos h0, if_pos h]
theorem cut_nat {α : Type} (xs : List α) (a b : Nat) (hb : b ≤ xs.length) : cut xs (some (a : Int)) (some (b : Int)) = (xs.drop a).take (b - a) := by
  unfold cut sIx
  simp only []
  rw [if_neg (by omega), if_neg (by omega)]
  by_cases h : a ≤ xs.length
  · congr 1
    · omega
    · congr 1; omega
  · rw [List.drop_eq_nil_of_le (by omega), List.drop_eq_nil_of_le (by omega)]
    simp
theorem cut_to {α : Type} (xs : List α) (b : Nat) : cut xs none (some (b : Int)) = xs.take b := by
  unfold cut sIx
  simp only [List.drop_zero, Nat.sub_zero]
  rw [if_neg (by omega)]
  simp only [Int.toNat_natCast]
  by_cases h : b ≤ xs.length
  · rw [Nat.min_eq_left h]
  · rw [Nat.min_eq_right (by omega), List.take_of_length_le (by omega), List.take_of_length_le (by omega)]
theorem cut_from {α : Type} (xs : List α) (a : Nat) : cut xs (some (a : Int)) none = xs.drop a := by
  unfold cut sIx
  simp only []
  rw [if_neg (by omega)]
  simp only [Int.toNat_natCast]
  by_cases h : a ≤ xs.length
  · rw [Nat.min_eq_left h]
    exact List.take_of_length_le (by simp)
  · rw [List.drop_eq_nil_of_le (by omega), List.drop_eq_nil_of_le (show xs.length ≤ a by omega)]
    simp
@[scoped simp] theorem rangeL_length (n : Nat) : (rangeL 0 n).length = n := by simp [rangeL]
theorem inRange_nat {n : Nat} (h : n ≤ 1000000000) : inRange n = true := by
  unfold inRange
  simp only [Bool.and_eq_true, decide_eq_true_eq]
  omega
theorem rangeL_get {n k : Nat} (h : k < (rangeL 0 n).length) : (rangeL 0 n)[k] = .int k := by simp [rangeL]
theorem rangeL_get2 {a b : Int} {k : Nat} (h : k < (rangeL a b).length) : (rangeL a b)[k] = .int (a + k) := by simp [rangeL]
theorem rangeL_len2 (a b : Int) : (rangeL a b).length = (b - a).toNat := by simp [rangeL]

theorem sat_seq {a b : SM} {r : List SM} {δ : Env} {S : Store} {Q : Flow → Store → Prop} {E : Exc → Store → Prop} (R : Env → Store → Prop) (h1 : (a δ S).sat (fun f S1 => match f with | .nx δ1 => R δ1 S1 | f => Q f S1) E)
    (h2 : ∀ δ1 S1, R δ1 S1 → (blkS (b :: r) δ1 S1).sat Q E) : (blkS (a :: b :: r) δ S).sat Q E := by
  rw [blkS_cons, Res.sat_bind]
  refine h1.mono fun f S1 h => ?_
  cases f with
  | nx δ1 => exact h2 δ1 S1 h
  | rt d => simpa using h
  | bk d => simpa using h
  | ct d => simpa using h
  | ex e d => simpa using h
/-! loops -/
theorem for_inv {still : Store → Bool} {tg : Tgt} {body : SM} {xs : List D} {δ : Env} {S : Store} {Q : Flow → Store → Prop} {E : Exc → Store → Prop} (I : Nat → Env → Store → Prop) (h0 : I 0 δ S)
    (hs : ∀ k δ S, k ≤ xs.length → I k δ S → still S = true)
    (step : ∀ k (hk : k < xs.length) δ S, I k δ S → ∃ δ1, tg.put xs[k] δ = some δ1 ∧ (body δ1 S).sat (fun f S' => match f with
      | .nx δ' => I (k + 1) δ' S'
      | .ct δ' => I (k + 1) δ' S'
      | .bk δ' => Q (.nx δ') S'
      | .rt d => Q (.rt d) S'
      | .ex e δ' => Q (.ex e δ') S') E)
    (hend : ∀ δ S, I xs.length δ S → Q (.nx δ) S) : (forLoop still tg body xs δ S).sat Q E := by
  have main : ∀ (n k : Nat) (δ : Env) (S : Store), n + k = xs.length → I k δ S → (forLoop still tg body (xs.drop k) δ S).sat Q E := by
    intro n
    induction n with
    | zero =>
      intro k δ S hk hI
      have e : k = xs.length := by omega
      subst e
      rw [List.drop_length]
      unfold forLoop
      rw [if_pos (hs _ _ _ (Nat.le_refl _) hI)]
      rw [Res.sat_ok]
      exact hend _ _ hI
    | succ n ih =>
      intro k δ S hk hI
      have hlt : k < xs.length := by omega
      rw [List.drop_eq_getElem_cons hlt]
      unfold forLoop
      rw [if_pos (hs _ _ _ (by omega) hI)]
      obtain ⟨δ1, e1, h1⟩ := step k hlt δ S hI
      rw [e1]
      simp only [Res.sat_bind]
      refine h1.mono fun f S' h => ?_
      cases f with
      | nx δ' => exact ih (k + 1) δ' S' (by omega) h
      | ct δ' => exact ih (k + 1) δ' S' (by omega) h
      | bk δ' => simpa using h
      | rt d => simpa using h
      | ex e δ' => simpa using h
  have := main xs.length 0 δ S (by omega) h0
  simpa using this
theorem while_inv {t : TM} {body : SM} {Q : Flow → Store → Prop} {E : Exc → Store → Prop} (I : Nat → Env → Store → Prop)
    (step : ∀ n δ S, I n δ S → (t δ S).sat (fun c S1 => if c = true then (body δ S1).sat (fun f S' => match f with
      | .nx δ' => ∃ m, m < n ∧ I m δ' S'
      | .ct δ' => ∃ m, m < n ∧ I m δ' S'
      | .bk δ' => Q (.nx δ') S'
      | .rt d => Q (.rt d) S'
      | .ex e δ' => Q (.ex e δ') S') E else Q (.nx δ) S1) (fun e S1 => Q (.ex e δ) S1)) :
    ∀ (fuel n : Nat) (δ : Env) (S : Store), n < fuel → I n δ S → (whileLoop t body fuel δ S).sat Q E := by
  intro fuel
  induction fuel with
  | zero => intro n δ S h; omega
  | succ fuel ih =>
    intro n δ S hn hI
    unfold whileLoop
    rw [Res.sat_thenS]
    refine (step n δ S hI).mono fun c S1 h => ?_
    by_cases hc : c = true
    · rw [if_pos hc] at h ⊢
      rw [Res.sat_bind]
      refine h.mono fun f S' h => ?_
      cases f with
      | nx δ' => obtain ⟨m, hm, h⟩ := h; exact ih m δ' S' (by omega) h
      | ct δ' => obtain ⟨m, hm, h⟩ := h; exact ih m δ' S' (by omega) h
      | bk δ' => simpa using h
      | rt d => simpa using h
      | ex e δ' => simpa using h
    · rw [if_neg hc] at h ⊢
      simpa using h
theorem while_run {t : TM} {body : SM} {Q : Flow → Store → Prop} {E : Exc → Store → Prop} (I : Nat → Env → Store → Prop) (n : Nat) (hn : n ≤ 100000000) {δ : Env} {S : Store} (h0 : I n δ S)
    (step : ∀ n δ S, I n δ S → (t δ S).sat (fun c S1 => if c = true then (body δ S1).sat (fun f S' => match f with
      | .nx δ' => ∃ m, m < n ∧ I m δ' S'
      | .ct δ' => ∃ m, m < n ∧ I m δ' S'
      | .bk δ' => Q (.nx δ') S'
      | .rt d => Q (.rt d) S'
      | .ex e δ' => Q (.ex e δ') S') E else Q (.nx δ) S1) (fun e S1 => Q (.ex e δ) S1)) : (whileLoop t body FUEL δ S).sat Q E :=
  while_inv I step FUEL n δ S (Nat.lt_of_le_of_lt hn (by decide)) h0
/-- [elt for tg in xs] -/
theorem lc_inv {still : Store → Bool} {D₀ : Nat} {tg : Tgt} {tt : TM} {elt : EM} {xs : List D} {δ : Env} {S : Store} {Q : Unit → Store → Prop} (I : Nat → List D → Store → Prop)
    (h0 : I 0 [] S)
    (hs : ∀ k acc S, k ≤ xs.length → I k acc S → still S = true ∧ S[D₀]? = some (.lst acc) ∧ acc.length ≤ k) (hlen : xs.length ≤ LIM)
    (step : ∀ k (hk : k < xs.length) acc S, I k acc S → ∃ δ1, tg.put xs[k] δ = some δ1 ∧ (tt δ1 S).sat (fun b S1 => if b = true then (elt δ1 S1).sat (fun y S2 => S2[D₀]? = some (.lst acc) ∧ I (k + 1) (acc ++ [y]) (S2.set D₀ (.lst (acc ++ [y])))) else I (k + 1) acc S1))
    (hend : ∀ acc S, I xs.length acc S → Q () S) : (lcLoop still D₀ δ tg tt elt xs S).sat Q := by
  have main : ∀ (n k : Nat) (acc : List D) (S : Store), n + k = xs.length → I k acc S → (lcLoop still D₀ δ tg tt elt (xs.drop k) S).sat Q := by
    intro n
    induction n with
    | zero =>
      intro k acc S hk hI
      have e : k = xs.length := by omega
      subst e
      rw [List.drop_length]
      unfold lcLoop
      rw [if_pos (hs _ _ _ (Nat.le_refl _) hI).1]
      rw [Res.sat_ok]
      exact hend _ _ hI
    | succ n ih =>
      intro k acc S hk hI
      have hlt : k < xs.length := by omega
      rw [List.drop_eq_getElem_cons hlt]
      unfold lcLoop
      rw [if_pos (hs _ _ _ (by omega) hI).1]
      obtain ⟨δ1, e1, h1⟩ := step k hlt acc S hI
      rw [e1]
      simp only []
      rw [Res.sat_bind, Res.sat_nox]
      refine h1.mono fun b S1 h => ?_
      by_cases hb : b = true
      · rw [if_pos hb] at h ⊢
        rw [Res.sat_bind, Res.sat_nox]
        refine h.mono fun y S2 ⟨h2, h3⟩ => ?_
        rw [h2]
        simp only
        have hacc := (hs _ _ _ (by omega) hI).2.2
        rw [if_pos (by omega)]
        exact ih (k + 1) _ _ (by omega) h3
      · rw [if_neg hb] at h ⊢
        exact ih (k + 1) _ _ (by omega) h
  have := main xs.length 0 [] S (by omega) h0
  simpa using this
/-! frames -/
/-- but for what stands at xs, all is as it was -/
structure Fr (xs : List Nat) (S S' : Store) : Prop where
  le : S.length ≤ S'.length
  at_ : ∀ i, i < S.length → i ∉ xs → S'[i]? = S[i]?
theorem Fr.refl {xs : List Nat} {S : Store} : Fr xs S S := ⟨Nat.le_refl _, fun _ _ _ => rfl⟩
theorem Fr.trans {xs : List Nat} {S S1 S2 : Store} (a : Fr xs S S1) (b : Fr xs S1 S2) : Fr xs S S2 := ⟨Nat.le_trans a.le b.le, fun i h n => by rw [b.at_ i (Nat.lt_of_lt_of_le h a.le) n, a.at_ i h n]⟩
theorem Fr.mono {xs ys : List Nat} {S S' : Store} (a : Fr xs S S') (h : ∀ i ∈ xs, i ∈ ys) : Fr ys S S' := ⟨a.le, fun i hi n => a.at_ i hi fun z => n (h i z)⟩
theorem Fr.nil {ys : List Nat} {S S' : Store} (a : Fr [] S S') : Fr ys S S' := a.mono fun _ h => by cases h
/-- what was made within is of no account -/
theorem Fr.cut {xs ys : List Nat} {S S1 : Store} (a : Fr xs S S1) (h : ∀ i ∈ xs, i < S.length → i ∈ ys) : Fr ys S S1 := ⟨a.le, fun i hi n => a.at_ i hi fun z => n (h i z hi)⟩
theorem Fr.app {xs : List Nat} {S T : Store} : Fr xs S (S ++ T) := ⟨by simp, fun i h _ => by rw [List.getElem?_append_left h]⟩
theorem Fr.set {xs : List Nat} {S : Store} {i : Nat} {v : MO} (h : i ∈ xs) : Fr xs S (S.set i v) := ⟨by simp, fun j _ n => by rw [List.getElem?_set_ne (fun e : i = j => n (e ▸ h))]⟩
theorem Fr.get {xs : List Nat} {S S' : Store} {i : Nat} {v : MO} (a : Fr xs S S') (h : S[i]? = some v) (n : i ∉ xs) : S'[i]? = some v := by
  rw [a.at_ i (List.getElem?_eq_some_iff.mp h).1 n]; exact h
theorem Fr.set_new {xs : List Nat} {S S' : Store} {i : Nat} {v : MO} (a : Fr xs S S') (h : S.length ≤ i) : Fr xs S (S'.set i v) := ⟨by simpa using a.le, fun j hj n => by rw [List.getElem?_set_ne (by omega)]; exact a.at_ j hj n⟩
theorem Fr.push {xs : List Nat} {S S' T : Store} (a : Fr xs S S') : Fr xs S (S' ++ T) := a.trans .app
theorem lt_of_get {S : Store} {i : Nat} {v : MO} (h : S[i]? = some v) : i < S.length := (List.getElem?_eq_some_iff.mp h).1
@[scoped simp] theorem lcM_ap {own : List Nat} {src : IM} {tg : Tgt} {tt : TM} {elt : EM} {δ : Env} {S : Store} : lcM own src tg tt elt δ S = (src δ S).bind fun s S1 =>
  (lcLoop s.still S1.length (wipe δ own) tg tt elt s.items (S1 ++ [.lst []])).bind fun _ S2 => .ok (.ref S1.length) S2 := id rfl
/-- without an if -/
theorem lc_all {still : Store → Bool} {D₀ : Nat} {tg : Tgt} {elt : EM} {xs : List D} {δ : Env} {S : Store} {Q : Unit → Store → Prop} (J : Store → Prop) (P : Nat → D → Prop)
    (h0 : J S) (hD : S[D₀]? = some (.lst [])) (hJ : ∀ S v, J S → J (S.set D₀ v)) (hs : ∀ S, J S → still S = true) (hlen : xs.length ≤ LIM)
    (step : ∀ k (hk : k < xs.length) S acc, J S → S[D₀]? = some (.lst acc) → ∃ δ1, tg.put xs[k] δ = some δ1 ∧ (elt δ1 S).sat (fun y S2 => P k y ∧ J S2 ∧ S2[D₀]? = some (.lst acc)))
    (hend : ∀ (ys : List D) S, J S → S[D₀]? = some (.lst ys) → ys.length = xs.length → (∀ (k : Nat) (y : D), ys[k]? = some y → P k y) → Q () S) : (lcLoop still D₀ δ tg yesT elt xs S).sat Q := by
  refine lc_inv (fun k acc S => J S ∧ S[D₀]? = some (.lst acc) ∧ acc.length = k ∧ ∀ (k : Nat) (y : D), acc[k]? = some y → P k y) ⟨h0, hD, rfl, fun k y h => by simp at h⟩ ?_ hlen ?_ ?_
  · rintro k acc S _ ⟨h1, h2, h3, _⟩
    exact ⟨hs S h1, h2, by omega⟩
  · rintro k hk acc S ⟨h1, h2, h3, h4⟩
    obtain ⟨δ1, e1, h⟩ := step k hk S acc h1 h2
    refine ⟨δ1, e1, ?_⟩
    simp only [yesT_ap, Res.sat_ok, if_true]
    refine h.mono fun y S2 ⟨p, j, d⟩ => ⟨d, hJ _ _ j, ?_, by simp [h3], fun k' y' hy => ?_⟩
    · rw [List.getElem?_set_self (lt_of_get d)]
    · rw [List.getElem?_append] at hy
      split at hy
      · exact h4 k' y' hy
      · have e : k' = k := by
          by_cases z : k' - acc.length = 0
          · omega
          · rw [List.getElem?_eq_none (by simp; omega)] at hy
            cases hy
        subst e
        rw [h3, Nat.sub_self] at hy
        cases hy
        exact p
  · rintro acc S ⟨h1, h2, h3, h4⟩
    exact hend acc S h1 h2 h3 h4
theorem inP_strs {S : Store} {n : Nat} {x : Cs} {ws : List Cs} (h : S[n]? = some (.lst (ws.map D.str))) : inP [.str x, .ref n] S = .ok (.bl (decide (x ∈ ws))) S := by
  have e1 : ((ws.map D.str).all D.sc) = true := by simp [D.sc]
  have e2 : (D.str x).sc = true := rfl
  unfold inP
  simp only [lstAt_of h, e1, e2, Bool.and_self, Bool.true_or, if_true]
  congr 2
  rw [Bool.eq_iff_iff]
  simp [D.eqv]
theorem joinCs_nil (zs : List Cs) : joinCs [] zs = zs.flatten := by
  induction zs with
  | nil => rfl
  | cons x r ih =>
    cases r with
    | nil => simp [joinCs]
    | cons y r => simp [joinCs, ih]
theorem maxL_spec : ∀ (r : List Int) (a : Int), maxL a r ∈ a :: r ∧ ∀ x ∈ a :: r, x ≤ maxL a r := by
  intro r
  induction r with
  | nil => intro a; simp [maxL]
  | cons b r ih =>
    intro a
    unfold maxL
    obtain ⟨h1, h2⟩ := ih (if b > a then b else a)
    by_cases hb : b > a
    · rw [if_pos hb] at h1 h2 ⊢
      refine ⟨List.mem_cons_of_mem _ h1, fun x hx => ?_⟩
      rcases List.mem_cons.mp hx with rfl | hx
      · have := h2 b (by simp); omega
      · exact h2 x hx
    · rw [if_neg hb] at h1 h2 ⊢
      refine ⟨?_, fun x hx => ?_⟩
      · rcases List.mem_cons.mp h1 with h1 | h1
        · rw [h1]; simp
        · exact List.mem_cons_of_mem _ (List.mem_cons_of_mem _ h1)
      · rcases List.mem_cons.mp hx with rfl | hx
        · exact h2 x (by simp)
        · rcases List.mem_cons.mp hx with rfl | hx
          · have := h2 a (by simp); omega
          · exact h2 x (List.mem_cons_of_mem _ hx)
theorem ints_of {ys : List D} (h : ∀ (k : Nat) (y : D), ys[k]? = some y → ∃ z, y = D.int z) : ∃ zs : List Int, ys = zs.map D.int := by
  induction ys with
  | nil => exact ⟨[], rfl⟩
  | cons y r ih =>
    obtain ⟨z, rfl⟩ := h 0 y rfl
    obtain ⟨zs, rfl⟩ := ih fun k y hy => h (k + 1) y hy
    exact ⟨z :: zs, rfl⟩
theorem strs_of {P : Cs → Prop} {ys : List D} (h : ∀ (k : Nat) (y : D), ys[k]? = some y → ∃ z, y = D.str z ∧ P z) : ∃ zs : List Cs, ys = zs.map D.str ∧ ∀ z ∈ zs, P z := by
  induction ys with
  | nil => exact ⟨[], rfl, by simp⟩
  | cons y r ih =>
    obtain ⟨z, rfl, hz⟩ := h 0 y rfl
    obtain ⟨zs, rfl, hzs⟩ := ih fun k y hy => h (k + 1) y hy
    exact ⟨z :: zs, rfl, by simpa using ⟨hz, hzs⟩⟩
@[scoped simp] theorem always_ap {S : Store} : always S = true := id rfl
@[scoped simp] theorem isLst_ap {n : Nat} {xs : List D} {S : Store} : isLst n xs S = decide (lstAt S n = some xs) := id rfl
end DlM

end

section
set_option linter.all false
set_option Elab.async false
set_option maxRecDepth 100000
set_option linter.all false
set_option Elab.async false
/-! digits, slices, runs. Plain Lean. -/
namespace DlM
open Dl
theorem natCs_eq (n : Nat) : natCs n = if n < 10 then [48 + n] else natCs (n / 10) ++ [48 + n % 10] := by
  have dc : ∀ d, d < 10 → (Nat.digitChar d).toNat = 48 + d := by decide
  unfold natCs
  rw [Nat.toDigits_eq_if (by omega)]
  by_cases h : n < 10
  · rw [if_pos h, if_pos h]
    simp [dc n h]
  · rw [if_neg h, if_neg h]
    simp [dc (n % 10) (by omega)]
theorem natCs_digit (n : Nat) : ∀ c ∈ natCs n, 48 ≤ c ∧ c ≤ 57 := by
  induction n using Nat.strongRecOn with
  | _ n ih =>
    intro c hc
    rw [natCs_eq] at hc
    by_cases h : n < 10
    · rw [if_pos h] at hc
      rw [List.mem_singleton.mp hc]
      omega
    · rw [if_neg h] at hc
      rcases List.mem_append.mp hc with hc | hc
      · exact ih (n / 10) (by omega) c hc
      · rw [List.mem_singleton.mp hc]
        omega
theorem natCs_ne (n : Nat) : natCs n ≠ [] := by
  rw [natCs_eq]
  split <;> simp
theorem natCs_val (n : Nat) : digV (natCs n) = n := by
  induction n using Nat.strongRecOn with
  | _ n ih =>
    rw [natCs_eq]
    by_cases h : n < 10
    · rw [if_pos h]
      simp [digV]
    · rw [if_neg h]
      have e := ih (n / 10) (by omega)
      unfold digV at e ⊢
      rw [List.foldl_append, e]
      simp
      omega
theorem natCs_len {n k : Nat} (h0 : 0 < k) (h : n < 10 ^ k) : (natCs n).length ≤ k := by
  unfold natCs
  rw [List.length_map]
  exact (Nat.length_toDigits_le_iff (by omega) h0).mpr h
theorem natCs_head (n : Nat) (r : Cs) (h : natCs n = 48 :: r) : n = 0 := by
  induction n using Nat.strongRecOn generalizing r with
  | _ n ih =>
    rw [natCs_eq] at h
    by_cases h1 : n < 10
    · rw [if_pos h1] at h
      injection h with h2 h3
      omega
    · rw [if_neg h1] at h
      obtain ⟨c, t, e⟩ := List.exists_cons_of_ne_nil (natCs_ne (n / 10))
      rw [e] at h
      injection h with h2 h3
      have := ih (n / 10) (by omega) t (by rw [e, h2])
      omega
theorem natCs_zero : natCs 0 = [48] := by rw [natCs_eq]; rfl
theorem intCs_len {i : Int} {k : Nat} (h0 : 0 < k) (h : i.natAbs < 10 ^ k) : (intCs i).length ≤ k + 1 := by
  unfold intCs
  have := natCs_len h0 h
  split
  · simp; omega
  · omega
theorem csInt_intCs (i : Int) : csInt (intCs i) = some i := by
  have hd : (natCs i.natAbs).all isDigit = true := by
    rw [List.all_eq_true]
    intro c hc
    have := natCs_digit _ c hc
    simp [isDigit]
    omega
  unfold intCs
  by_cases h : i < 0
  · rw [if_pos h]
    unfold csInt
    simp only []
    rw [if_pos ⟨natCs_ne _, hd⟩, natCs_val]
    congr 1
    omega
  · rw [if_neg h]
    obtain ⟨c, t, e⟩ := List.exists_cons_of_ne_nil (natCs_ne i.natAbs)
    have hc := natCs_digit i.natAbs c (by rw [e]; simp)
    have e2 := natCs_val i.natAbs
    rw [e] at hd e2 ⊢
    unfold csInt
    split
    · rename_i z; cases z
    · rename_i z; injection z with z; omega
    · rename_i z
      injection z with z1 z2
      subst z1 z2
      rw [if_pos hd, e2]
      congr 1
      omega
theorem intCs_inj {i j : Int} (h : intCs i = intCs j) : i = j := by
  have := csInt_intCs i
  rw [h, csInt_intCs] at this
  exact (Option.some.inj this).symm
theorem intCs_ne (i : Int) : intCs i ≠ [] := by
  unfold intCs
  split
  · simp
  · exact natCs_ne _
/-! slices -/
theorem cut_is {α : Type} {x a b c : List α} {lo hi : Int} (hx : x = a ++ (b ++ c)) (hlo : lo = a.length) (hhi : hi = a.length + b.length) : cut x (some lo) (some hi) = b := by
  subst hx hlo
  have e : hi = ((a.length + b.length : Nat) : Int) := by omega
  rw [e, cut_nat _ _ _ (by simp)]
  simp
theorem atI_is {α : Type} {x a b : List α} {c : α} {i : Int} (hx : x = a ++ c :: b) (hi : i = a.length) : atI x i = some c := by
  subst hx hi
  exact atI_nat (by simp)
/-! runs -/
/-- so many at the beginning are of cs -/
def run (cs : Cs) : Cs → Nat
  | [] => 0
  | c :: r => if c ∈ cs then run cs r + 1 else 0
theorem run_le (cs : Cs) : ∀ y : Cs, run cs y ≤ y.length
  | [] => Nat.le_refl _
  | c :: r => by
    unfold run
    have := run_le cs r
    split
    · simp; omega
    · simp
theorem run_lt (cs : Cs) : ∀ (y : Cs) (j : Nat), j < run cs y → ∃ c, y[j]? = some c ∧ c ∈ cs
  | [], j, h => by simp [run] at h
  | c :: r, j, h => by
    unfold run at h
    by_cases hc : c ∈ cs
    · rw [if_pos hc] at h
      cases j with
      | zero => exact ⟨c, rfl, hc⟩
      | succ j =>
        obtain ⟨d, e1, e2⟩ := run_lt cs r j (by omega)
        exact ⟨d, by simpa using e1, e2⟩
    · rw [if_neg hc] at h
      omega
theorem run_stop (cs : Cs) : ∀ (y : Cs) (c : Nat), y[run cs y]? = some c → c ∉ cs
  | [], c, h => by simp at h
  | d :: r, c, h => by
    unfold run at h
    by_cases hc : d ∈ cs
    · rw [if_pos hc] at h
      exact run_stop cs r c (by simpa using h)
    · rw [if_neg hc] at h
      cases h
      exact hc
theorem run_app {cs w y : Cs} (hw : ∀ c ∈ w, c ∈ cs) (hy : ∀ c, y.head? = some c → c ∉ cs) : run cs (w ++ y) = w.length := by
  induction w with
  | nil =>
    cases y with
    | nil => rfl
    | cons c r =>
      show (if c ∈ cs then _ else _) = _
      rw [if_neg (hy c rfl)]
      rfl
  | cons c r ih =>
    show (if c ∈ cs then run cs (r ++ y) + 1 else 0) = _
    rw [if_pos (hw c (by simp)), ih fun d hd => hw d (List.mem_cons_of_mem _ hd)]
    rfl
theorem run_all {cs w y : Cs} (hw : ∀ c ∈ w, c ∈ cs) : run cs (w ++ y) = w.length + run cs y := by
  induction w with
  | nil => simp
  | cons c r ih =>
    show (if c ∈ cs then run cs (r ++ y) + 1 else 0) = _
    rw [if_pos (hw c (by simp)), ih fun d hd => hw d (List.mem_cons_of_mem _ hd)]
    simp; omega
theorem eq_of_sat {α : Type} {r : Res α} {v : α} {S : Store} (h : r.sat fun d S' => d = v ∧ S' = S) : r = .ok v S := by
  obtain ⟨a, S', e, h1, h2⟩ := Res.sat_iff.mp h
  rw [e, h1, h2]
end DlM

end

section
set_option linter.all false
set_option Elab.async false
set_option maxRecDepth 100000
set_option linter.all false
set_option Elab.async false
set_option maxRecDepth 100000
/-! the readings of the defs, printed by gen.py -/
namespace LW
open Dl
def d_DIGITS : D := .str [48, 49, 50, 51, 52, 53, 54, 55, 56, 57]
def d_SIGNS : D := .str [40, 41, 44, 124]
def d_LETTERS : D := .str [97, 98, 99, 100, 101, 102, 103, 104, 105, 106, 107, 108, 109, 110, 111, 112, 113, 114, 115, 116, 117, 118, 119, 120, 121, 122]
def xTab : List (String × String × Bool) := [("BadText", "DoubtError", true), ("BadText", "BadText", true), ("BadText", "Forbidden", false), ("BadText", "NoNumber", false), ("BadText", "NoVerdict", false), ("BadText", "NoRules", false), ("BadText", "NoSchema", false), ("BadText", "NoReport", false), ("BadText", "NoTrust", false), ("BadText", "NoKept", false), ("BadText", "NoGuard", false)]
def xT : String → String → Option Bool := tabT xTab
/-- slots: 0 schema, 1 name, 2 table -/
def F_table_of : FM := defM 2 3 (blkS [(forS (seqI (varM 0)) (.nm 2) (blkS [(ifS (tbM (callM eqP [(callM ixP [(varM 2), (conM (.int 0))]), (varM 1)])) (blkS [(retS (varM 2))]) (blkS []))])), (retS (conM .non))])
/-- slots: 0 line, 1 at, 2 chars, 3 end -/
def F_run_end : FM := defM 3 4 (blkS [(setS (.nm 3) (varM 1)), (whileS (andT (tbM (callM ltP [(varM 3), (callM lenP [(varM 0)])])) (tbM (callM inP [(callM ixP [(varM 0), (varM 3)]), (varM 2)]))) (blkS [(augS 3 addIS (conM (.int 1)))])), (retS (varM 3))])
/-- slots: 0 line, 1 at, 2 first, 3 end -/
def F_integer_at : FM := defM 2 4 (blkS [(setS (.nm 2) (ifM (tbM (callM eqP [(callM ixP [(varM 0), (varM 1)]), (conM (.str [45]))])) (callM addP [(varM 1), (conM (.int 1))]) (varM 1))), (setS (.nm 3) (callM F_run_end [(varM 0), (varM 2), (conM d_DIGITS)])), (ifS (orT (tbM (callM eqP [(varM 2), (varM 3)])) (andT (tbM (callM eqP [(callM ixP [(varM 0), (varM 2)]), (conM (.str [48]))])) (tbM (callM gtP [(callM subP [(varM 3), (varM 1)]), (conM (.int 1))])))) (blkS [(retS (callM tupP [(conM (.str [])), (conM (.int 0)), (varM 1)]))]) (blkS [])), (retS (callM tupP [(conM (.str [105, 110, 116, 101, 103, 101, 114])), (callM intP [(sliceM (varM 0) (some (varM 1)) (some (varM 3)))]), (varM 3)]))])
/-- slots: 0 line, 1 at, 2 char, 3 end -/
def F_token_at : FM := defM 2 4 (blkS [(setS (.nm 2) (callM ixP [(varM 0), (varM 1)])), (ifS (tbM (callM inP [(varM 2), (conM d_SIGNS)])) (blkS [(retS (callM tupP [(varM 2), (varM 2), (callM addP [(varM 1), (conM (.int 1))])]))]) (blkS [])), (ifS (tbM (callM inP [(varM 2), (conM d_LETTERS)])) (blkS [(setS (.nm 3) (callM F_run_end [(varM 0), (varM 1), (conM d_LETTERS)])), (retS (callM tupP [(conM (.str [119, 111, 114, 100])), (sliceM (varM 0) (some (varM 1)) (some (varM 3))), (varM 3)]))]) (blkS [])), (ifS (tbM (callM neP [(varM 2), (conM (.str [34]))])) (blkS [(retS (callM F_integer_at [(varM 0), (varM 1)]))]) (blkS [])), (setS (.nm 3) (callM F_run_end [(varM 0), (callM addP [(varM 1), (conM (.int 1))]), (conM d_LETTERS)])), (ifS (orT (tbM (callM eqP [(varM 3), (callM addP [(varM 1), (conM (.int 1))])])) (tbM (callM neP [(sliceM (varM 0) (some (varM 3)) (some (callM addP [(varM 3), (conM (.int 1))]))), (conM (.str [34]))]))) (blkS [(retS (callM tupP [(conM (.str [])), (conM (.int 0)), (varM 1)]))]) (blkS [])), (retS (callM tupP [(conM (.str [113, 117, 111, 116, 101, 100])), (sliceM (varM 0) (some (callM addP [(varM 1), (conM (.int 1))])) (some (varM 3))), (callM addP [(varM 3), (conM (.int 1))])]))])
/-- slots: 0 line, 1 tokens, 2 at, 3 kind, 4 value, 5 end -/
def F_tokens_of : FM := defM 1 6 (blkS [(setS (.nm 1) (callM lstP [])), (setS (.nm 2) (callM F_run_end [(varM 0), (conM (.int 0)), (conM (.str [32]))])), (whileS (tbM (callM ltP [(varM 2), (callM lenP [(varM 0)])])) (blkS [(setS (.tp [3, 4, 5]) (callM F_token_at [(varM 0), (varM 2)])), (exprS (methM "list" appendP (varM 1) [(callM tupP [(varM 2), (varM 3), (varM 4)])])), (ifS (tbM (callM eqP [(varM 3), (conM (.str []))])) (blkS [(retS (varM 1))]) (blkS [])), (setS (.nm 2) (callM F_run_end [(varM 0), (varM 5), (conM (.str [32]))]))])), (exprS (methM "list" appendP (varM 1) [(callM tupP [(callM lenP [(varM 0)]), (conM (.str [101, 110, 100])), (conM (.int 0))])])), (retS (varM 1))])
/-- slots: 0 self, 1 text, 2 number -/
def F_Line___init__ : FM := defM 3 3 (blkS [(exprS (callM (putFP "Line" "number") [(varM 2), (varM 0)])), (exprS (callM (putFP "Line" "tokens") [(callM F_tokens_of [(varM 1)]), (varM 0)])), (exprS (callM (putFP "Line" "many") [(conM (.int 0)), (varM 0)]))])
/-- slots: 0 self -/
def F_Line_kind : FM := defM 1 1 (blkS [(retS (callM ixP [(callM ixP [(callM (fldP "Line" "tokens") [(varM 0)]), (callM (fldP "Line" "many") [(varM 0)])]), (conM (.int 1))]))])
/-- slots: 0 self -/
def F_Line_value : FM := defM 1 1 (blkS [(retS (callM ixP [(callM ixP [(callM (fldP "Line" "tokens") [(varM 0)]), (callM (fldP "Line" "many") [(varM 0)])]), (conM (.int 2))]))])
/-- slots: 0 self -/
def F_Line_word : FM := defM 1 1 (blkS [(ifS (tbM (callM eqP [(methI "Line" "kind" F_Line_kind (varM 0) []), (conM (.str [119, 111, 114, 100]))])) (blkS [(retS (methI "Line" "value" F_Line_value (varM 0) []))]) (blkS [])), (retS (conM (.str [])))])
/-- slots: 0 self -/
def F_Line_refuse : FM := defM 1 1 (blkS [(raiseS "BadText" ["line", "at"] [(callM (fldP "Line" "number") [(varM 0)]), (callM ixP [(callM ixP [(callM (fldP "Line" "tokens") [(varM 0)]), (callM (fldP "Line" "many") [(varM 0)])]), (conM (.int 0))])])])
/-- slots: 0 self, 1 kind, 2 value -/
def F_Line_take : FM := defM 2 3 (blkS [(ifS (tbM (callM neP [(methI "Line" "kind" F_Line_kind (varM 0) []), (varM 1)])) (blkS [(exprS (methI "Line" "refuse" F_Line_refuse (varM 0) []))]) (blkS [])), (setS (.nm 2) (methI "Line" "value" F_Line_value (varM 0) [])), (exprS (callM (augFP "Line" "many") [(varM 0), conM (.int 1)])), (retS (varM 2))])
/-- slots: 0 self -/
def F_Line_take_value : FM := defM 1 1 (blkS [(ifS (tbM (callM notInP [(methI "Line" "kind" F_Line_kind (varM 0) []), (callM tupP [(conM (.str [105, 110, 116, 101, 103, 101, 114])), (conM (.str [113, 117, 111, 116, 101, 100]))])])) (blkS [(exprS (methI "Line" "refuse" F_Line_refuse (varM 0) []))]) (blkS [])), (retS (methI "Line" "take" F_Line_take (varM 0) [(methI "Line" "kind" F_Line_kind (varM 0) [])]))])
/-- slots: 0 line -/
def F_take_value : FM := defM 1 1 (blkS [(retS (methI "Line" "take_value" F_Line_take_value (varM 0) []))])
def hs_F_take_places : List (String × FM) := [("take_value", F_take_value)]
/-- slots: 0 line, 1 count, 2 take_place, 3 places, 4 at -/
def F_take_places : FM := defM 3 5 (blkS [(setS (.nm 3) (callM lstP [])), (forS (rangeI [(varM 1)]) (.nm 4) (blkS [(ifS (tbM (callM gtP [(varM 4), (conM (.int 0))])) (blkS [(exprS (methI "Line" "take" F_Line_take (varM 0) [(conM (.str [44]))]))]) (blkS [])), (exprS (methM "list" appendP (varM 3) [(callV 2 hs_F_take_places [(varM 0)])]))])), (retS (varM 3))])
/-- slots: 0 line, 1 table, 2 take_place, 3 key, 4 others -/
def F_take_cells : FM := defM 3 5 (blkS [(exprS (methI "Line" "take" F_Line_take (varM 0) [(conM (.str [40]))])), (setS (.nm 3) (callM F_take_places [(varM 0), (callM ixP [(varM 1), (conM (.int 1))]), (varM 2)])), (exprS (methI "Line" "take" F_Line_take (varM 0) [(conM (.str [124]))])), (setS (.nm 4) (callM F_take_places [(varM 0), (callM ixP [(varM 1), (conM (.int 2))]), (varM 2)])), (exprS (methI "Line" "take" F_Line_take (varM 0) [(conM (.str [41]))])), (retS (callM tupleP [(callM addP [(varM 3), (varM 4)])]))])
/-- slots: 0 line, 1 schema, 2 table -/
def F_take_row : FM := defM 2 3 (blkS [(setS (.nm 2) (callM F_table_of [(varM 1), (methI "Line" "word" F_Line_word (varM 0) [])])), (ifS (tbM (callM isNonP [(varM 2)])) (blkS [(exprS (methI "Line" "refuse" F_Line_refuse (varM 0) []))]) (blkS [])), (exprS (methI "Line" "take" F_Line_take (varM 0) [(conM (.str [119, 111, 114, 100]))])), (retS (callM tupP [(callM ixP [(varM 2), (conM (.int 0))]), (callM F_take_cells [(varM 0), (varM 2), (conM (.fn "take_value"))])]))])
/-- slots: 0 schema, 1 text, 2 line, 3 pair -/
def F_read_row : FM := defM 2 4 (blkS [(setS (.nm 2) (makeM "Line" F_Line___init__ [(varM 1), (conM (.int 0))])), (setS (.nm 3) (callM F_take_row [(varM 2), (varM 0)])), (exprS (methI "Line" "take" F_Line_take (varM 2) [(conM (.str [101, 110, 100]))])), (retS (varM 3))])
/-- slots: 0 script, 1 many, 2 cells, 3 left, 4 draws, 5 k, 6 place, 7 mixed, 8 cell -/
def F__law_draws : FM := defM 2 9 (blkS [(setS (.nm 2) (lcM [8] (seqI (varM 0)) (.nm 8) yesT (callM intP [(varM 8)]))), (ifS (tbM (callM eqP [(callM lenP [(varM 2)]), (conM (.int 0))])) (blkS [(exprS (methM "list" appendP (varM 2) [(conM (.int 0))]))]) (blkS [])), (setS (.nm 3) (callM listP [(varM 2)])), (setS (.nm 4) (callM lstP [])), (forS (rangeI [(varM 1)]) (.nm 5) (blkS [(setS (.nm 6) (callM modP [(varM 5), (callM lenP [(varM 2)])])), (ifS (tbM (callM geP [(callM ixP [(varM 2), (varM 6)]), (callM powP [(conM (.int 10)), (conM (.int 18))])])) (blkS [(exprS (methM "list" appendP (varM 4) [(callM modP [(callM intP [(callM ixP [(varM 3), (varM 6)])]), (conM (.int 1000))])])), (exprS (callM putLP [(callM fdivP [(callM ixP [(varM 3), (varM 6)]), (conM (.int 1000))]), (varM 3), (varM 6)]))]) (blkS [(setS (.nm 7) (callM modP [(callM intP [(callM addP [(callM addP [(callM mulP [(callM ixP [(varM 2), (varM 6)]), (conM (.int 48271))]), (callM mulP [(varM 5), (conM (.int 69621))])]), (conM (.int 11))])]), (conM (.int 2147483647))])), (exprS (methM "list" appendP (varM 4) [(callM modP [(callM intP [(callM addP [(callM addP [(callM mulP [(varM 7), (varM 7)]), (callM mulP [(conM (.int 3)), (varM 7)])]), (varM 5)])]), (conM (.int 1000003))])]))]))])), (exprS (methM "list" reverseP (varM 4) [])), (retS (varM 4))])
/-- slots: 0 draws, 1 many -/
def F__law_take : FM := defM 2 2 (blkS [(ifS (tbM (callM eqP [(callM lenP [(varM 0)]), (conM (.int 0))])) (blkS [(retS (conM (.int 0)))]) (blkS [])), (retS (callM modP [(callM intP [(methM "list" popP (varM 0) [])]), (varM 1)]))])
/-- slots: 0 draws, 1 row -/
def F__law_pick : FM := defM 2 2 (blkS [(retS (callM ixP [(varM 1), (callM F__law_take [(varM 0), (callM lenP [(varM 1)])])]))])
/-- slots: 0 actual, 1 due, 2 k -/
def F__law_same : Nat → FM
  | 0 => fun _ _ => .stuck
  | n + 1 => defM 2 3 (blkS [(ifS (tbM (callM (isP ["tuple", "list"]) [(varM 1)])) (blkS [(ifS (orT (tbM (callM neP [(callM (isP ["tuple"]) [(varM 0)]), (callM (isP ["tuple"]) [(varM 1)])])) (tbM (callM neP [(callM (isP ["list"]) [(varM 0)]), (callM (isP ["list"]) [(varM 1)])]))) (blkS [(retS (conM (.bl false)))]) (blkS [])), (ifS (tbM (callM neP [(callM lenP [(varM 0)]), (callM lenP [(varM 1)])])) (blkS [(retS (conM (.bl false)))]) (blkS [])), (retS (callM notInP [(conM (.bl false)), (lcM [2] (rangeI [(callM lenP [(varM 1)])]) (.nm 2) yesT (callM (F__law_same n) [(callM ixP [(varM 0), (varM 2)]), (callM ixP [(varM 1), (varM 2)])]))]))]) (blkS [])), (ifS (orT (tbM (callM neP [(callM (isP ["bool"]) [(varM 0)]), (callM (isP ["bool"]) [(varM 1)])])) (tbM (callM neP [(callM (isP ["int"]) [(varM 0)]), (callM (isP ["int"]) [(varM 1)])]))) (blkS [(retS (conM (.bl false)))]) (blkS [])), (ifS (orT (tbM (callM neP [(callM (isP ["str"]) [(varM 0)]), (callM (isP ["str"]) [(varM 1)])])) (tbM (callM neP [(callM isNonP [(varM 0)]), (callM isNonP [(varM 1)])]))) (blkS [(retS (conM (.bl false)))]) (blkS [])), (retS (callM eqP [(varM 0), (varM 1)]))])
/-- slots: 0 draws, 1 many, 2 words, 3 k, 4 size, 5 word, 6 j, 7 other -/
def F__law_words : FM := defM 2 8 (blkS [(setS (.nm 2) (callM lstP [])), (forS (rangeI [(varM 1)]) (.nm 3) (blkS [(setS (.nm 4) (callM addP [(conM (.int 1)), (callM F__law_take [(varM 0), (conM (.int 3))])])), (ifS (tbM (callM eqP [(callM F__law_take [(varM 0), (conM (.int 9))]), (conM (.int 0))])) (blkS [(setS (.nm 4) (callM addP [(callM addP [(varM 4), (conM (.int 3))]), (callM F__law_take [(varM 0), (conM (.int 20))])]))]) (blkS [])), (setS (.nm 5) (methM "str" joinP (conM (.str [])) [(lcM [6] (rangeI [(varM 4)]) (.nm 6) yesT (callM ixP [(conM (.str [97, 98, 99, 100, 101, 102, 103, 104, 105, 106, 107, 108, 109, 110, 111, 112, 113, 114, 115, 116, 117, 118, 119, 120, 121, 122])), (callM F__law_take [(varM 0), (conM (.int 26))])]))])), (ifS (tbM (callM inP [(varM 5), (varM 2)])) (blkS [(setS (.nm 5) (callM mulP [(conM (.str [122])), (callM addP [(conM (.int 1)), (callM maxP [(lcM [7] (seqI (varM 2)) (.nm 7) yesT (callM lenP [(varM 7)]))])])]))]) (blkS [])), (exprS (methM "list" appendP (varM 2) [(varM 5)]))])), (retS (varM 2))])
/-- slots: 0 draws, 1 number, 2 k -/
def F__law_great_number : FM := defM 1 3 (blkS [(setS (.nm 1) (conM (.int 0))), (forS (rangeI [(callM ixP [(callM lstP [(conM (.int 1)), (conM (.int 2)), (conM (.int 6)), (conM (.int 19))]), (callM F__law_take [(varM 0), (conM (.int 4))])])]) (.nm 2) (blkS [(setS (.nm 1) (callM addP [(callM mulP [(varM 1), (conM (.int 1000))]), (callM F__law_take [(varM 0), (conM (.int 1000))])]))])), (ifS (tbM (callM eqP [(callM F__law_take [(varM 0), (conM (.int 3))]), (conM (.int 1))])) (blkS [(retS (callM subP [(conM (.int 0)), (varM 1)]))]) (blkS [])), (retS (varM 1))])
/-- slots: 0 draws, 1 words -/
def F__law_text_value : FM := defM 2 2 (blkS [(ifS (tbM (callM eqP [(callM F__law_take [(varM 0), (conM (.int 2))]), (conM (.int 0))])) (blkS [(retS (callM F__law_pick [(varM 0), (varM 1)]))]) (blkS [])), (retS (callM F__law_great_number [(varM 0)]))])
/-- slots: 0 value -/
def F__law_value_text : FM := defM 1 1 (blkS [(ifS (tbM (callM (isP ["str"]) [(varM 0)])) (blkS [(retS (callM addP [(callM addP [(conM (.str [34])), (varM 0)]), (conM (.str [34]))]))]) (blkS [])), (retS (callM strP [(varM 0)]))])
/-- slots: 0 texts, 1 sign, 2 found, 3 k -/
def F__law_between : FM := defM 2 4 (blkS [(setS (.nm 2) (callM lstP [])), (forS (rangeI [(callM lenP [(varM 0)])]) (.nm 3) (blkS [(ifS (tbM (callM gtP [(varM 3), (conM (.int 0))])) (blkS [(exprS (methM "list" appendP (varM 2) [(varM 1)]))]) (blkS [])), (exprS (methM "list" appendP (varM 2) [(callM ixP [(varM 0), (varM 3)])]))])), (retS (varM 2))])
/-- slots: 0 name, 1 cells, 2 key, 3 found -/
def F__law_cells_texts : FM := defM 3 4 (blkS [(ifS (tbM (callM ltP [(varM 2), (conM (.int 0))])) (blkS [(retS (callM addP [(callM addP [(callM lstP [(varM 0), (conM (.str [40]))]), (callM F__law_between [(varM 1), (conM (.str [44]))])]), (callM lstP [(conM (.str [41]))])]))]) (blkS [])), (setS (.nm 3) (callM addP [(callM addP [(callM lstP [(varM 0), (conM (.str [40]))]), (callM F__law_between [(sliceM (varM 1) none (some (varM 2))), (conM (.str [44]))])]), (callM lstP [(conM (.str [124]))])])), (retS (callM addP [(callM addP [(varM 3), (callM F__law_between [(sliceM (varM 1) (some (varM 2)) none), (conM (.str [44]))])]), (callM lstP [(conM (.str [41]))])]))])
/-- slots: 0 line, 1 at, 2 chars, 3 k -/
def F__law_run : FM := defM 3 4 (blkS [(forS (rangeI [(varM 1), (callM lenP [(varM 0)])]) (.nm 3) (blkS [(ifS (tbM (callM notInP [(callM ixP [(varM 0), (varM 3)]), (varM 2)])) (blkS [(retS (varM 3))]) (blkS []))])), (retS (callM lenP [(varM 0)]))])
/-- slots: 0 line, 1 at, 2 letters, 3 end, 4 first, 5 digits -/
def F__law_token_end : FM := defM 2 6 (blkS [(setS (.nm 2) (conM (.str [97, 98, 99, 100, 101, 102, 103, 104, 105, 106, 107, 108, 109, 110, 111, 112, 113, 114, 115, 116, 117, 118, 119, 120, 121, 122]))), (ifS (tbM (callM inP [(callM ixP [(varM 0), (varM 1)]), (conM (.str [40, 41, 44, 124]))])) (blkS [(retS (callM addP [(varM 1), (conM (.int 1))]))]) (blkS [])), (ifS (tbM (callM inP [(callM ixP [(varM 0), (varM 1)]), (varM 2)])) (blkS [(retS (callM F__law_run [(varM 0), (varM 1), (varM 2)]))]) (blkS [])), (ifS (tbM (callM eqP [(callM ixP [(varM 0), (varM 1)]), (conM (.str [34]))])) (blkS [(setS (.nm 3) (callM F__law_run [(varM 0), (callM addP [(varM 1), (conM (.int 1))]), (varM 2)])), (ifS (andT (tbM (callM gtP [(varM 3), (callM addP [(varM 1), (conM (.int 1))])])) (tbM (callM eqP [(sliceM (varM 0) (some (varM 3)) (some (callM addP [(varM 3), (conM (.int 1))]))), (conM (.str [34]))]))) (blkS [(retS (callM addP [(varM 3), (conM (.int 1))]))]) (blkS [])), (retS (varM 1))]) (blkS [])), (setS (.nm 4) (callM addP [(varM 1), (callM intP [(callM eqP [(callM ixP [(varM 0), (varM 1)]), (conM (.str [45]))])])])), (setS (.nm 3) (callM F__law_run [(varM 0), (varM 4), (conM (.str [48, 49, 50, 51, 52, 53, 54, 55, 56, 57]))])), (setS (.nm 5) (sliceM (varM 0) (some (varM 4)) (some (varM 3)))), (ifS (orT (tbM (callM eqP [(varM 5), (conM (.str []))])) (andT (tbM (callM eqP [(callM ixP [(varM 5), (conM (.int 0))]), (conM (.str [48]))])) (tbM (callM neP [(sliceM (varM 0) (some (varM 1)) (some (varM 3))), (conM (.str [48]))])))) (blkS [(retS (varM 1))]) (blkS [])), (retS (varM 3))])
/-- slots: 0 line, 1 found, 2 at, 3 k, 4 end -/
def F__law_tokens : FM := defM 1 5 (blkS [(setS (.nm 1) (callM lstP [])), (setS (.nm 2) (callM F__law_run [(varM 0), (conM (.int 0)), (conM (.str [32]))])), (forS (rangeI [(callM lenP [(varM 0)])]) (.nm 3) (blkS [(ifS (tbM (callM eqP [(varM 2), (callM lenP [(varM 0)])])) (blkS [brkS]) (blkS [])), (setS (.nm 4) (callM F__law_token_end [(varM 0), (varM 2)])), (ifS (tbM (callM eqP [(varM 4), (varM 2)])) (blkS [(retS (callM addP [(varM 1), (callM lstP [(callM tupP [(varM 2), (conM (.str [32]))])])]))]) (blkS [])), (exprS (methM "list" appendP (varM 1) [(callM tupP [(varM 2), (sliceM (varM 0) (some (varM 2)) (some (varM 4)))])])), (setS (.nm 2) (callM F__law_run [(varM 0), (varM 4), (conM (.str [32]))]))])), (retS (callM addP [(varM 1), (callM lstP [(callM tupP [(callM lenP [(varM 0)]), (conM (.str []))])])]))])
/-- slots: 0 draws, 1 texts, 2 line, 3 k, 4 gap, 5 apart, 6 pair -/
def F__law_loose : FM := defM 2 7 (blkS [(setS (.nm 2) (callM ixP [(callM lstP [(conM (.str [])), (conM (.str [32])), (conM (.str [])), (conM (.str [32, 32, 32]))]), (callM F__law_take [(varM 0), (conM (.int 4))])])), (forS (rangeI [(callM lenP [(varM 1)])]) (.nm 3) (blkS [(setS (.nm 4) (callM ixP [(callM lstP [(conM (.str [])), (conM (.str [32])), (conM (.str [])), (conM (.str [32, 32])), (conM (.str [32]))]), (callM F__law_take [(varM 0), (conM (.int 5))])])), (ifS (andT (tbM (callM gtP [(varM 3), (conM (.int 0))])) (tbM (callM eqP [(varM 4), (conM (.str []))]))) (blkS [(setS (.nm 5) (lcM [6] (seqI (callM F__law_tokens [(callM addP [(callM ixP [(varM 1), (callM subP [(varM 3), (conM (.int 1))])]), (callM ixP [(varM 1), (varM 3)])])])) (.nm 6) yesT (callM ixP [(varM 6), (conM (.int 1))]))), (ifS (tbM (callM neP [(varM 5), (callM lstP [(callM ixP [(varM 1), (callM subP [(varM 3), (conM (.int 1))])]), (callM ixP [(varM 1), (varM 3)]), (conM (.str []))])])) (blkS [(setS (.nm 4) (conM (.str [32])))]) (blkS []))]) (blkS [])), (ifS (tbM (callM gtP [(varM 3), (conM (.int 0))])) (blkS [(setS (.nm 2) (callM addP [(varM 2), (varM 4)]))]) (blkS [])), (setS (.nm 2) (callM addP [(varM 2), (callM ixP [(varM 1), (varM 3)])]))])), (retS (callM addP [(varM 2), (callM ixP [(callM lstP [(conM (.str [])), (conM (.str [32])), (conM (.str [])), (conM (.str [32, 32]))]), (callM F__law_take [(varM 0), (conM (.int 4))])])]))])
/-- slots: 0 draws, 1 many, 2 words, 3 keys, 4 k, 5 word -/
def F__law_text_words : FM := defM 2 6 (blkS [(setS (.nm 2) (callM F__law_words [(varM 0), (varM 1)])), (setS (.nm 3) (callM lstP [(conM (.str [116, 111])), (conM (.str [111, 110])), (conM (.str [110, 101, 118, 101, 114])), (conM (.str [116, 114, 117, 101])), (conM (.str [105, 102])), (conM (.str [108, 101, 115, 115])), (conM (.str [117, 110, 108, 105, 107, 101])), (conM (.str [111, 110, 99, 101])), (conM (.str [101, 118, 101, 114])), (conM (.str [97, 108, 119, 97, 121, 115])), (conM (.str [116, 97, 98, 108, 101])), (conM (.str [116, 111, 108, 100])), (conM (.str [97, 103, 111]))])), (forS (rangeI [(conM (.int 2))]) (.nm 4) (blkS [(setS (.nm 5) (callM F__law_pick [(varM 0), (varM 3)])), (ifS (andT (tbM (callM notInP [(varM 5), (varM 2)])) (tbM (callM eqP [(callM F__law_take [(varM 0), (conM (.int 2))]), (conM (.int 0))]))) (blkS [(exprS (callM putLP [(varM 5), (varM 2), (callM F__law_take [(varM 0), (varM 1)])]))]) (blkS []))])), (retS (varM 2))])
/-- slots: 0 draws, 1 names, 2 tables, 3 name, 4 key, 5 others -/
def F__law_text_schema : FM := defM 2 6 (blkS [(setS (.nm 2) (callM lstP [])), (forS (seqI (callM sortedSP [(varM 1)])) (.nm 3) (blkS [(setS (.nm 4) (callM ixP [(callM lstP [(conM (.int 1)), (conM (.int 0)), (conM (.int 2)), (conM (.int 1)), (conM (.int 8)), (conM (.int 3)), (conM (.int 0))]), (callM F__law_take [(varM 0), (conM (.int 7))])])), (setS (.nm 5) (callM ixP [(callM lstP [(conM (.int 1)), (conM (.int 0)), (conM (.int 2)), (conM (.int 0)), (conM (.int 3)), (conM (.int 1)), (conM (.int 8))]), (callM F__law_take [(varM 0), (conM (.int 7))])])), (exprS (methM "list" appendP (varM 2) [(callM tupP [(varM 3), (varM 4), (callM minP [(varM 5), (callM subP [(conM (.int 8)), (varM 4)])])])]))])), (retS (callM tupleP [(varM 2)]))])
/-- slots: 0 token -/
def F__law_is_whole : FM := defM 1 1 (blkS [(retS (andV (callM neP [(varM 0), (conM (.str []))]) (orV (callM inP [(callM ixP [(varM 0), (conM (.int 0))]), (conM (.str [48, 49, 50, 51, 52, 53, 54, 55, 56, 57]))]) (andV (callM eqP [(callM ixP [(varM 0), (conM (.int 0))]), (conM (.str [45]))]) (callM gtP [(callM lenP [(varM 0)]), (conM (.int 1))])))))])
/-- slots: 0 token -/
def F__law_is_value : FM := defM 1 1 (blkS [(retS (orV (callM F__law_is_whole [(varM 0)]) (callM eqP [(sliceM (varM 0) none (some (conM (.int 1)))), (conM (.str [34]))])))])
/-- slots: 0 token -/
def F__law_is_name : FM := defM 1 1 (blkS [(retS (andV (callM neP [(varM 0), (conM (.str []))]) (callM inP [(callM ixP [(varM 0), (conM (.int 0))]), (conM (.str [97, 98, 99, 100, 101, 102, 103, 104, 105, 106, 107, 108, 109, 110, 111, 112, 113, 114, 115, 116, 117, 118, 119, 120, 121, 122]))])))])
/-- slots: 0 token -/
def F__law_value_of : FM := defM 1 1 (blkS [(ifS (tbM (callM eqP [(callM ixP [(varM 0), (conM (.int 0))]), (conM (.str [34]))])) (blkS [(retS (sliceM (varM 0) (some (conM (.int 1))) (some (callM negP [(conM (.int 1))]))))]) (blkS [])), (retS (callM intP [(varM 0)]))])
/-- slots: 0 state -/
def F__law_next : FM := defM 1 1 (blkS [(retS (callM ixP [(callM ixP [(callM ixP [(varM 0), (conM (.int 0))]), (callM ixP [(varM 0), (conM (.int 1))])]), (conM (.int 1))]))])
/-- slots: 0 state, 1 fits, 2 token -/
def F__law_takes : FM := defM 2 3 (blkS [(setS (.nm 2) (callM F__law_next [(varM 0)])), (ifS (tbM (callM geP [(callM ixP [(varM 0), (conM (.int 2))]), (conM (.int 0))])) (blkS [(retS (conM (.str [])))]) (blkS [])), (ifS (orT (notT (tbM (varM 1))) (tbM (callM inP [(varM 2), (callM lstP [(conM (.str [])), (conM (.str [32]))])]))) (blkS [(exprS (callM putLP [(callM ixP [(callM ixP [(callM ixP [(varM 0), (conM (.int 0))]), (callM ixP [(varM 0), (conM (.int 1))])]), (conM (.int 0))]), (varM 0), (conM (.int 2))])), (retS (conM (.str [])))]) (blkS [])), (exprS (callM putLP [(callM addP [(callM ixP [(varM 0), (conM (.int 1))]), (conM (.int 1))]), (varM 0), (conM (.int 1))])), (retS (varM 2))])
/-- slots: 0 state -/
def F__law_ends : FM := defM 1 1 (blkS [(ifS (andT (tbM (callM ltP [(callM ixP [(varM 0), (conM (.int 2))]), (conM (.int 0))])) (tbM (callM neP [(callM F__law_next [(varM 0)]), (conM (.str []))]))) (blkS [(exprS (callM putLP [(callM ixP [(callM ixP [(callM ixP [(varM 0), (conM (.int 0))]), (callM ixP [(varM 0), (conM (.int 1))])]), (conM (.int 0))]), (varM 0), (conM (.int 2))]))]) (blkS []))])
/-- slots: 0 state, 1 key, 2 many, 3 terms, 4 cells, 5 k, 6 token, 7 sign -/
def F__law_reads_cells : FM := defM 4 8 (blkS [(exprS (callM F__law_takes [(varM 0), (callM eqP [(callM F__law_next [(varM 0)]), (conM (.str [40]))])])), (setS (.nm 4) (callM lstP [])), (forS (rangeI [(callM lenP [(callM ixP [(varM 0), (conM (.int 0))])])]) (.nm 5) (blkS [(ifS (orT (andT (tbM (callM ltP [(varM 1), (conM (.int 0))])) (andT (tbM (callM eqP [(varM 5), (conM (.int 0))])) (tbM (callM eqP [(callM F__law_next [(varM 0)]), (conM (.str [41]))])))) (andT (tbM (callM eqP [(varM 5), (varM 2)])) (tbM (callM geP [(varM 1), (conM (.int 0))])))) (blkS [brkS]) (blkS [])), (ifS (tbM (callM eqP [(varM 5), (varM 1)])) (blkS [(exprS (callM F__law_takes [(varM 0), (callM eqP [(callM F__law_next [(varM 0)]), (conM (.str [124]))])]))]) (blkS [(ifS (tbM (callM gtP [(varM 5), (conM (.int 0))])) (blkS [(setS (.nm 7) (callM F__law_takes [(varM 0), (orV (callM eqP [(callM F__law_next [(varM 0)]), (conM (.str [44]))]) (andV (callM ltP [(varM 1), (conM (.int 0))]) (callM eqP [(callM F__law_next [(varM 0)]), (conM (.str [41]))])))])), (ifS (tbM (callM eqP [(varM 7), (conM (.str [41]))])) (blkS [(retS (varM 4))]) (blkS []))]) (blkS []))])), (setS (.nm 6) (callM F__law_takes [(varM 0), (orV (callM F__law_is_value [(callM F__law_next [(varM 0)])]) (andV (varM 3) (callM F__law_is_name [(callM F__law_next [(varM 0)])])))])), (ifS (tbM (callM eqP [(varM 6), (conM (.str []))])) (blkS [(retS (callM lstP []))]) (blkS [])), (ifS (notT (tbM (varM 3))) (blkS [(exprS (methM "list" appendP (varM 4) [(callM F__law_value_of [(varM 6)])]))]) (blkS [(ifS (tbM (callM F__law_is_name [(varM 6)])) (blkS [(exprS (methM "list" appendP (varM 4) [(callM tupP [(conM (.str [118, 97, 114])), (varM 6)])]))]) (blkS [(exprS (methM "list" appendP (varM 4) [(callM tupP [(conM (.str [118, 97, 108, 117, 101])), (callM F__law_value_of [(varM 6)])])]))]))]))])), (ifS (tbM (callM eqP [(varM 1), (varM 2)])) (blkS [(exprS (callM F__law_takes [(varM 0), (callM eqP [(callM F__law_next [(varM 0)]), (conM (.str [124]))])]))]) (blkS [])), (exprS (callM F__law_takes [(varM 0), (callM eqP [(callM F__law_next [(varM 0)]), (conM (.str [41]))])])), (retS (varM 4))])
/-- slots: 0 schema, 1 name, 2 table -/
def F__law_table : FM := defM 2 3 (blkS [(forS (seqI (varM 0)) (.nm 2) (blkS [(ifS (tbM (callM eqP [(callM ixP [(varM 2), (conM (.int 0))]), (varM 1)])) (blkS [(retS (varM 2))]) (blkS []))])), (retS (conM .non))])
/-- slots: 0 state, 1 schema, 2 name, 3 table -/
def F__law_reads_row : FM := defM 2 4 (blkS [(setS (.nm 2) (callM F__law_takes [(varM 0), (callM notNonP [(callM F__law_table [(varM 1), (callM F__law_next [(varM 0)])])])])), (ifS (tbM (callM eqP [(varM 2), (conM (.str []))])) (blkS [(retS (callM tupP [(conM (.str [])), (callM tupP [])]))]) (blkS [])), (setS (.nm 3) (callM F__law_table [(varM 1), (varM 2)])), (retS (callM tupP [(varM 2), (callM tupleP [(callM F__law_reads_cells [(varM 0), (callM ixP [(varM 3), (conM (.int 1))]), (callM addP [(callM ixP [(varM 3), (conM (.int 1))]), (callM ixP [(varM 3), (conM (.int 2))])]), (conM (.bl false))])])]))])
/-- slots: 0 draws, 1 tokens, 2 pool, 3 found, 4 kind, 5 at -/
def F__law_spoilt : FM := defM 3 6 (blkS [(setS (.nm 3) (callM listP [(varM 1)])), (setS (.nm 4) (callM F__law_take [(varM 0), (conM (.int 7))])), (setS (.nm 5) (callM F__law_take [(varM 0), (callM addP [(callM lenP [(varM 3)]), (conM (.int 1))])])), (ifS (orT (tbM (callM eqP [(varM 4), (conM (.int 0))])) (tbM (callM eqP [(varM 5), (callM lenP [(varM 3)])]))) (blkS [(retS (callM addP [(callM addP [(sliceM (varM 3) none (some (varM 5))), (callM lstP [(callM F__law_pick [(varM 0), (varM 2)])])]), (sliceM (varM 3) (some (varM 5)) none)]))]) (blkS [])), (ifS (tbM (callM eqP [(varM 4), (conM (.int 1))])) (blkS [(retS (callM addP [(sliceM (varM 3) none (some (varM 5))), (sliceM (varM 3) (some (callM addP [(varM 5), (conM (.int 1))])) none)]))]) (blkS [])), (ifS (tbM (callM eqP [(varM 4), (conM (.int 2))])) (blkS [(retS (callM addP [(sliceM (varM 3) none (some (callM addP [(varM 5), (conM (.int 1))]))), (sliceM (varM 3) (some (varM 5)) none)]))]) (blkS [])), (ifS (tbM (callM eqP [(varM 4), (conM (.int 3))])) (blkS [(retS (sliceM (varM 3) none (some (varM 5))))]) (blkS [])), (ifS (andT (tbM (callM eqP [(varM 4), (conM (.int 4))])) (tbM (callM ltP [(callM addP [(varM 5), (conM (.int 1))]), (callM lenP [(varM 3)])]))) (blkS [(retS (callM addP [(callM addP [(sliceM (varM 3) none (some (varM 5))), (callM lstP [(callM ixP [(varM 3), (callM addP [(varM 5), (conM (.int 1))])]), (callM ixP [(varM 3), (varM 5)])])]), (sliceM (varM 3) (some (callM addP [(varM 5), (conM (.int 2))])) none)]))]) (blkS [])), (exprS (callM putLP [(callM F__law_pick [(varM 0), (varM 2)]), (varM 3), (varM 5)])), (retS (varM 3))])
/-- slots: 0 draws, 1 line, 2 at, 3 sign -/
def F__law_odd : FM := defM 2 4 (blkS [(ifS (tbM (callM eqP [(callM F__law_take [(varM 0), (conM (.int 2))]), (conM (.int 0))])) (blkS [(retS (varM 1))]) (blkS [])), (setS (.nm 2) (callM F__law_take [(varM 0), (callM addP [(callM lenP [(varM 1)]), (conM (.int 1))])])), (setS (.nm 3) (callM F__law_pick [(varM 0), (callM lstP [(conM (.str [45])), (conM (.str [65])), (conM (.str [10])), (conM (.str [34])), (conM (.str [46])), (conM (.str [48])), (conM (.str [9])), (conM (.str [95])), (conM (.str [120])), (conM (.str [32])), (conM (.str [55])), (conM (.str [43])), (conM (.str [58]))])])), (retS (callM addP [(callM addP [(sliceM (varM 1) none (some (varM 2))), (varM 3)]), (sliceM (varM 1) (some (varM 2)) none)]))])
/-- slots: 0 schema, 1 text, 2 e -/
def F__law_result : FM := defM 2 3 (blkS [(tryS 2 (fun e => xT e.cls "DoubtError") (hIf (hOr (hNot (hIs xT ["BadText"])) (hIs xT ["NoReport", "NoSchema", "NoRules", "NoVerdict", "NoNumber", "Forbidden"])) (hRet (hCons (hCon (.str [111, 116, 104, 101, 114])) hNil)) (hIf (hIs xT ["NoGuard", "NoKept", "NoTrust"]) (hRet (hCons (hCon (.str [111, 116, 104, 101, 114])) hNil)) (hRet (hCons (hCon (.str [98, 97, 100])) (hCons (hFld "BadText" "line") (hCons (hFld "BadText" "at") hNil)))))) (blkS [(retS (callM tupP [(conM (.str [103, 111, 111, 100])), (callM F_read_row [(varM 0), (varM 1)])]))]))])
/-- slots: 0 schema, 1 text, 2 state, 3 pair -/
def F__law_due : FM := defM 2 4 (blkS [(setS (.nm 2) (callM lstP [(callM F__law_tokens [(varM 1)]), (conM (.int 0)), (callM negP [(conM (.int 1))])])), (setS (.nm 3) (callM F__law_reads_row [(varM 2), (varM 0)])), (exprS (callM F__law_ends [(varM 2)])), (ifS (tbM (callM geP [(callM ixP [(varM 2), (conM (.int 2))]), (conM (.int 0))])) (blkS [(retS (callM tupP [(conM (.str [98, 97, 100])), (conM (.int 0)), (callM ixP [(varM 2), (conM (.int 2))])]))]) (blkS [])), (retS (callM tupP [(conM (.str [103, 111, 111, 100])), (varM 3)]))])
/-- slots: 0 script, 1 draws, 2 words, 3 tables, 4 schema, 5 turn, 6 table, 7 cells, 8 good, 9 pool, 10 text, 11 right, 12 form, 13 k -/
def F_law : FM := defM 1 14 (blkS [(setS (.nm 1) (callM F__law_draws [(varM 0), (conM (.int 520))])), (setS (.nm 2) (callM F__law_text_words [(varM 1), (conM (.int 9))])), (setS (.nm 3) (callM F__law_text_schema [(varM 1), (sliceM (varM 2) none (some (conM (.int 5))))])), (setS (.nm 4) (sliceM (varM 3) none (some (callM ixP [(callM lstP [(conM (.int 2)), (conM (.int 4)), (conM (.int 1)), (conM (.int 0)), (conM (.int 3)), (conM (.int 4))]), (callM F__law_take [(varM 1), (conM (.int 6))])])))), (forS (rangeI [(conM (.int 4))]) (.nm 5) (blkS [(setS (.nm 6) (callM ixP [(varM 3), (callM F__law_take [(varM 1), (callM maxP [(conM (.int 1)), (callM lenP [(varM 4)])])])])), (ifS (tbM (callM eqP [(callM F__law_take [(varM 1), (conM (.int 9))]), (conM (.int 0))])) (blkS [(setS (.nm 6) (callM ixP [(varM 3), (conM (.int 4))]))]) (blkS [])), (setS (.nm 7) (lcM [13] (rangeI [(callM addP [(callM ixP [(varM 6), (conM (.int 1))]), (callM ixP [(varM 6), (conM (.int 2))])])]) (.nm 13) yesT (callM F__law_value_text [(callM F__law_text_value [(varM 1), (varM 2)])]))), (setS (.nm 8) (callM F__law_cells_texts [(callM ixP [(varM 6), (conM (.int 0))]), (varM 7), (callM ixP [(varM 6), (conM (.int 1))])])), (setS (.nm 9) (callM lstP [(conM (.str [40])), (conM (.str [41])), (conM (.str [44])), (conM (.str [124])), (conM (.str [55])), (conM (.str [45, 49])), (conM (.str [34, 111, 110, 34])), (callM ixP [(varM 2), (conM (.int 8))]), (callM addP [(callM addP [(conM (.str [34])), (callM ixP [(varM 2), (conM (.int 8))])]), (conM (.str [34]))]), (callM ixP [(varM 6), (conM (.int 0))]), (conM (.str [116, 111]))])), (setS (.nm 10) (callM F__law_odd [(varM 1), (callM F__law_loose [(varM 1), (callM F__law_spoilt [(varM 1), (varM 8), (varM 9)])])])), (setS (.nm 11) (callM F__law_loose [(varM 1), (varM 8)])), (forS (seqI (callM lstP [(varM 10), (varM 11), (callM addP [(varM 11), (callM F__law_pick [(varM 1), (varM 9)])]), (varM 10)])) (.nm 12) (blkS [(ifS (notT (tbM (callM (F__law_same 8) [(callM F__law_result [(varM 4), (varM 12)]), (callM F__law_due [(varM 4), (varM 12)])]))) (blkS [(retS (conM (.bl false)))]) (blkS []))]))])), (forS (seqI (callM lstP [(conM (.str [])), (callM mulP [(conM (.str [32])), (callM F__law_take [(varM 1), (conM (.int 9))])]), (conM (.str [41])), (callM ixP [(varM 2), (conM (.int 0))]), (callM addP [(callM ixP [(varM 2), (conM (.int 0))]), (conM (.str [40]))]), (callM addP [(callM ixP [(varM 2), (conM (.int 0))]), (conM (.str [40, 124]))])])) (.nm 12) (blkS [(ifS (notT (tbM (callM (F__law_same 8) [(callM F__law_result [(varM 4), (varM 12)]), (callM F__law_due [(varM 4), (varM 12)])]))) (blkS [(retS (conM (.bl false)))]) (blkS []))])), (retS (conM (.bl true)))])
end LW

end

section
set_option linter.all false
set_option Elab.async false
set_option maxRecDepth 100000
namespace LW
open Dl DlM
/-- r holds whole numbers -/
def Ints (S : Store) (r : Nat) : Prop := ∃ xs : List Int, S[r]? = some (.lst (xs.map D.int))
/-- all but the draws is as it was -/
structure Dr (r : Nat) (S S' : Store) : Prop where
  fr : Fr [r] S S'
  whole : Ints S' r
theorem Dr.trans {r : Nat} {S S1 S2 : Store} (a : Dr r S S1) (b : Dr r S1 S2) : Dr r S S2 := ⟨a.fr.trans b.fr, b.whole⟩
theorem Dr.refl {r : Nat} {S : Store} (a : Ints S r) : Dr r S S := ⟨.refl, a⟩
theorem Ints.mono {r : Nat} {S S' : Store} (a : Ints S r) (f : Fr [] S S') : Ints S' r := by
  obtain ⟨xs, h⟩ := a
  exact ⟨xs, f.get h (by simp)⟩
theorem Ints.lt {r : Nat} {S : Store} (a : Ints S r) : r < S.length := by
  obtain ⟨xs, h⟩ := a
  exact lt_of_get h
theorem Dr.of {r : Nat} {S S' : Store} (a : Ints S r) (f : Fr [] S S') : Dr r S S' := ⟨f.nil, a.mono f⟩
theorem Dr.get {r : Nat} {S S' : Store} {i : Nat} {v : MO} (a : Dr r S S') (h : S[i]? = some v) (n : i ≠ r) : S'[i]? = some v := a.fr.get h (by simpa using n)
theorem Dr.le {r : Nat} {S S' : Store} (a : Dr r S S') : S.length ≤ S'.length := a.fr.le
theorem c_take {S : Store} {r : Nat} {m : Int} (h : Ints S r) (hm : 0 < m) : (F__law_take [.ref r, .int m] S).sat fun d S' => ∃ v : Int, d = .int v ∧ 0 ≤ v ∧ v < m ∧ Dr r S S' := by
  obtain ⟨xs, h⟩ := h
  refine sat_defM rfl ?_
  by_cases hx : xs = []
  · subst hx
    simp [h]
    exact ⟨hm, .refl ⟨[], h⟩⟩
  · have hl : (xs.length : Int) ≠ 0 := by
      intro z
      exact hx (List.length_eq_zero_iff.mp (by omega))
    have h1 : xs.length - 1 < xs.length := by
      have : xs.length ≠ 0 := by simpa using hx
      omega
    simp [h, hl, hx, tyN_lst h, h1, hm]
    refine ⟨Int.emod_nonneg _ (by omega), Int.emod_lt_of_pos _ hm, .set (by simp), xs.dropLast, ?_⟩
    rw [List.getElem?_set_self (lt_of_get h), List.map_dropLast]
theorem c_pick {S : Store} {r w : Nat} {row : List D} (h : Ints S r) (hw : S[w]? = some (.lst row)) (hne : row ≠ []) (hn : w ≠ r) : (F__law_pick [.ref r, .ref w] S).sat fun d S' => d ∈ row ∧ Dr r S S' := by
  refine sat_defM rfl ?_
  have hl : (0 : Int) < row.length := by
    have : row.length ≠ 0 := by simpa using hne
    omega
  simp [hw]
  refine (c_take h hl).mono ?_
  rintro d S1 ⟨v, rfl, h0, h1, hd⟩
  obtain ⟨x, e1, e2⟩ := atI_int (xs := row) h0 h1
  simp [lstAt_of (hd.get hw hn), e1]
  exact ⟨List.mem_of_getElem? e2, hd⟩
theorem c_draws (ns : List Int) (many : Nat) (hm : many ≤ 1000) (hl : ns.length ≤ 63) : (F__law_draws [.lit (ns.map D.int), .int many] []).sat fun d S' => ∃ r, d = .ref r ∧ Ints S' r := by
  refine sat_defM rfl ?_
  refine sat_seq (fun δ S => ∃ cs : List Int, cs.length ≤ 63 ∧ δ = [some (.lit (ns.map D.int)), some (.int many), some (.ref 0), none, none, none, none, none, none] ∧ S = [.lst (cs.map D.int)]) ?_ ?_
  · simp
    refine lc_all (fun S => S.length = 1) (fun _ y => ∃ z, y = D.int z) rfl rfl (by simp) (by simp) (le_LIM (by simp; omega)) ?_ ?_
    · intro k hk S acc h1 h2
      refine ⟨_, rfl, ?_⟩
      simp
      exact ⟨h1, h2⟩
    · intro ys S h1 h2 hy hP
      obtain ⟨zs, rfl⟩ := ints_of hP
      obtain ⟨o, rfl⟩ : ∃ o, S = [o] := List.length_eq_one_iff.mp h1
      simp at h2 hy
      subst h2
      simp
      exact ⟨zs, by omega, rfl⟩
  rintro δ S ⟨cs, hcs, rfl, rfl⟩
  refine sat_seq (fun δ S => ∃ cs : List Int, cs.length ≤ 63 ∧ cs.length ≠ 0 ∧ δ = [some (.lit (ns.map D.int)), some (.int many), some (.ref 0), none, none, none, none, none, none] ∧ S = [.lst (cs.map D.int)]) ?_ ?_
  · cases cs with
    | nil =>
      simp [tyN, lt_LIM]
      exact ⟨[0], by simp⟩
    | cons c cs =>
      have h0 : ((cs.length : Int) + 1 = 0) = False := by simp; omega
      simp [h0]
      exact ⟨c :: cs, hcs, by simp, rfl⟩
  rintro δ S ⟨cs, hcs, hne, rfl, rfl⟩
  simp [lstAt, le_LIM]
  rw [if_pos (inRange_nat (by omega))]
  simp
  refine for_inv (fun k δ S => ∃ a5 a6 a7 a8, ∃ ls ds : List Int, δ = [some (.lit (ns.map D.int)), some (.int many), some (.ref 0), some (.ref 1), some (.ref 2), a5, a6, a7, a8] ∧ S = [.lst (cs.map D.int), .lst (ls.map D.int), .lst (ds.map D.int)] ∧ ls.length = cs.length ∧ ds.length = k)
    ⟨none, none, none, none, cs, [], rfl, rfl, rfl, rfl⟩ (by simp) ?_ ?_
  · rintro k hk δ S ⟨a5, a6, a7, a8, ls, ds, rfl, rfl, hls, hds⟩
    refine ⟨_, rfl, ?_⟩
    have hc : 0 < cs.length := by omega
    simp at hk
    rw [rangeL_get]
    obtain ⟨p, hp, e1⟩ : ∃ p, p < cs.length ∧ (k : Int) % (cs.length : Int) = (p : Int) := ⟨k % cs.length, Nat.mod_lt _ (by omega), by simp⟩
    have hp2 : p < ls.length := by omega
    have e2 : atI (cs.map D.int) (p : Int) = some (.int cs[p]) := atI_nat (by simp [hp])
    have e3 : atI (ls.map D.int) (p : Int) = some (.int ls[p]) := atI_nat (by simp [hp2])
    have e4 : ixN ls.length (p : Int) = some p := ixN_nat hp2
    generalize cs[p] = c at e2
    generalize ls[p] = l at e3
    simp only [blkS_cons, blkS_one, setS_ap, callM_ap, argsM_cons, argsM_nil, varM_ap, Res.bind_ok, Res.thenS_ok]
    simp [hc, e1, lstAt, e2, e3, e4, powP, small64]
    have hb0 := Int.emod_nonneg (c * 48271 + k * 69621 + 11) (show (2147483647 : Int) ≠ 0 by omega)
    have hb1 := Int.emod_lt_of_pos (c * 48271 + k * 69621 + 11) (show (0 : Int) < 2147483647 by omega)
    generalize (c * 48271 + k * 69621 + 11) % 2147483647 = y at hb0 hb1
    by_cases hb : 1000000000000000000 ≤ c
    · simp [hb, lt_LIM (show ds.length ≤ 1000000 by omega), lstAt, e3, e4]
      refine ⟨ls.set p (l / 1000), ds ++ [l % 1000], by simp [List.map_set], by simp [hls], by simp [hds]⟩
    · simp [hb, lt_LIM (show ds.length ≤ 1000000 by omega), show -18446744073709551616 < y ∧ y < 18446744073709551616 by omega]
      refine ⟨ls, ds ++ [(y * y + 3 * y + k) % 1000003], by simp, by simp [hls], by simp [hds]⟩
  · rintro δ S ⟨a5, a6, a7, a8, ls, ds, rfl, rfl, hls, hds⟩
    simp
    exact ⟨ds.reverse, by simp⟩
end LW

end

section
set_option linter.all false
set_option Elab.async false
set_option maxRecDepth 100000
namespace LW
open Dl DlM
/-- data without references, so many deep -/
inductive Data : Nat → D → Prop
  | non {n : Nat} : Data n .non
  | bl {n : Nat} (b : Bool) : Data n (.bl b)
  | int {n : Nat} (i : Int) : Data n (.int i)
  | str {n : Nat} (x : Cs) : Data n (.str x)
  | tup {n : Nat} {xs : List D} (hl : xs.length ≤ 1000000) (h : ∀ x ∈ xs, Data n x) : Data (n + 1) (.tup xs)
theorem notIn_false {S : Store} {n : Nat} {ys : List D} (h : S[n]? = some (.lst ys)) (hy : ∀ (k : Nat) (y : D), ys[k]? = some y → y = .bl true) : inP [.bl false, .ref n] S = .ok (.bl false) S := by
  have hy' : ∀ y ∈ ys, y = .bl true := fun y hm => by
    obtain ⟨k, hk⟩ := List.getElem?_of_mem hm
    exact hy k y hk
  have e1 : ys.all D.sc = true := by
    rw [List.all_eq_true]
    intro y hm
    rw [hy' y hm]; rfl
  have e2 : (D.bl false).sc = true := rfl
  unfold inP
  simp only [lstAt_of h, e1, e2, Bool.and_self, Bool.true_or, if_true]
  congr 2
  rw [List.any_eq_false]
  intro y hm
  rw [hy' y hm]; decide
theorem c_same : ∀ (n : Nat) (d : D), Data n d → ∀ S : Store, (F__law_same (n + 1) [d, d] S).sat fun r S' => r = .bl true ∧ Fr [] S S' := by
  intro n
  induction n with
  | zero =>
    intro d hd S
    unfold F__law_same
    refine sat_defM rfl ?_
    cases hd <;> simp [isTy, Fr.refl]
  | succ n ih =>
    intro d hd S
    unfold F__law_same
    refine sat_defM rfl ?_
    cases hd with
    | non => simp [isTy, Fr.refl]
    | bl b => simp [isTy, Fr.refl]
    | int i => simp [isTy, Fr.refl]
    | str x => simp [isTy, Fr.refl]
    | tup hl h =>
      rename_i xs
      have hr : inRange (xs.length : Int) = true := inRange_nat (by omega)
      simp [isTy, hr]
      refine lc_all (fun S' => Fr [] S S' ∧ S.length < S'.length) (fun _ y => y = .bl true) ⟨.app, by simp⟩ (by simp) (fun S' v ⟨h1, h2⟩ => ⟨h1.set_new (Nat.le_refl _), by simpa using h2⟩) (fun _ _ => rfl) (by simpa using le_LIM hl) ?_ ?_
      · rintro k hk S' acc ⟨hf, hlt⟩ hacc
        refine ⟨_, rfl, ?_⟩
        rw [rangeL_get]
        simp at hk
        have e1 : atI xs (k : Int) = some xs[k] := atI_nat (List.getElem?_eq_getElem hk)
        simp [e1]
        refine (ih xs[k] (h _ (List.getElem_mem hk)) S').mono ?_
        rintro d S2 ⟨rfl, hf2⟩
        exact ⟨rfl, ⟨hf.trans hf2, Nat.lt_of_lt_of_le hlt hf2.le⟩, hf2.get hacc (by simp)⟩
      · rintro ys S' ⟨hf, hlt⟩ hys hl2 hP
        simp [notIn_false hys hP]
        exact hf
/-- two lists of the same data -/
theorem c_same_ref {n i j : Nat} {xs : List D} {S : Store} (hi : S[i]? = some (.lst xs)) (hj : S[j]? = some (.lst xs)) (hl : xs.length ≤ 1000000) (h : ∀ x ∈ xs, Data n x) : (F__law_same (n + 1 + 1) [.ref i, .ref j] S).sat fun r S' => r = .bl true ∧ Fr [] S S' := by
  unfold F__law_same
  refine sat_defM rfl ?_
  have hr : inRange (xs.length : Int) = true := inRange_nat (by omega)
  simp [isTy, hi, hj, hr]
  refine lc_all (fun S' => Fr [] S S' ∧ S.length < S'.length) (fun _ y => y = .bl true) ⟨.app, by simp⟩ (by simp) (fun S' v ⟨h1, h2⟩ => ⟨h1.set_new (Nat.le_refl _), by simpa using h2⟩) (fun _ _ => rfl) (by simpa using le_LIM hl) ?_ ?_
  · rintro k hk S' acc ⟨hf, hlt⟩ hacc
    refine ⟨_, rfl, ?_⟩
    rw [rangeL_get]
    simp at hk
    have e1 : atI xs (k : Int) = some xs[k] := atI_nat (List.getElem?_eq_getElem hk)
    simp [e1, lstAt_of (hf.get hi (by simp)), lstAt_of (hf.get hj (by simp))]
    refine (c_same n xs[k] (h _ (List.getElem_mem hk)) S').mono ?_
    rintro d S2 ⟨rfl, hf2⟩
    exact ⟨rfl, ⟨hf.trans hf2, Nat.lt_of_lt_of_le hlt hf2.le⟩, hf2.get hacc (by simp)⟩
  · rintro ys S' ⟨hf, hlt⟩ hys hl2 hP
    simp [notIn_false hys hP]
    exact hf
theorem Data.mono : ∀ {n : Nat} {d : D}, Data n d → ∀ {m : Nat}, n ≤ m → Data m d
  | _, _, .non, _, _ => .non
  | _, _, .bl b, _, _ => .bl b
  | _, _, .int b, _, _ => .int b
  | _, _, .str b, _, _ => .str b
  | _, _, .tup hl h, m, hm => by
    cases m with
    | zero => omega
    | succ m => exact .tup hl fun x hx => (h x hx).mono (by omega)
/-! words, numbers -/
def letter (c : Nat) : Prop := 97 ≤ c ∧ c ≤ 122
structure Word (w : Cs) : Prop where
  ne : w ≠ []
  all : ∀ c ∈ w, letter c
def letters : Cs := [97, 98, 99, 100, 101, 102, 103, 104, 105, 106, 107, 108, 109, 110, 111, 112, 113, 114, 115, 116, 117, 118, 119, 120, 121, 122]
theorem mem_letters {c : Nat} : c ∈ letters ↔ letter c := by
  simp only [letters, letter, List.mem_cons, List.not_mem_nil, or_false]
  omega
/-- what the words of a law are like -/
structure Words (b : Nat) (ws : List Cs) : Prop where
  word : ∀ w ∈ ws, Word w
  len : ∀ w ∈ ws, w.length ≤ b
  nodup : ws.Nodup
theorem Words.snoc {b c : Nat} {ws : List Cs} {w : Cs} (h : Words b ws) (hw : Word w) (hb : b ≤ c) (hl : w.length ≤ c) (hn : w ∉ ws) : Words c (ws ++ [w]) where
  word := fun x hx => by
    rcases List.mem_append.mp hx with hx | hx
    · exact h.word x hx
    · rw [List.mem_singleton.mp hx]; exact hw
  len := fun x hx => by
    rcases List.mem_append.mp hx with hx | hx
    · exact Nat.le_trans (h.len x hx) hb
    · rw [List.mem_singleton.mp hx]; exact hl
  nodup := by
    rw [List.nodup_append]
    refine ⟨h.nodup, by simp, fun a ha b hb e => ?_⟩
    rw [List.mem_singleton.mp hb] at e
    exact hn (e ▸ ha)
end LW

end

section
set_option linter.all false
set_option Elab.async false
set_option maxRecDepth 100000
namespace LW
open Dl DlM
theorem Dr.set_new {r i : Nat} {S S' : Store} {v : MO} (a : Dr r S S') (hr : r < S.length) (h : S.length ≤ i) : Dr r S (S'.set i v) := ⟨a.fr.set_new h, by
  obtain ⟨xs, hx⟩ := a.whole
  exact ⟨xs, by rw [List.getElem?_set_ne (by omega)]; exact hx⟩⟩
theorem Dr.push {r : Nat} {S S' T : Store} (a : Dr r S S') : Dr r S (S' ++ T) := a.trans (.of a.whole .app)
theorem flatten_len1 : ∀ {zs : List Cs}, (∀ z ∈ zs, ∃ c, z = [c] ∧ letter c) → (zs.flatten.length = zs.length ∧ (zs.map List.length).sum = zs.length ∧ ∀ c ∈ zs.flatten, letter c)
  | [], _ => by simp
  | z :: zs, h => by
    obtain ⟨c, rfl, hc⟩ := h z (by simp)
    obtain ⟨h1, h2, h3⟩ := flatten_len1 (zs := zs) fun z hz => h z (List.mem_cons_of_mem _ hz)
    refine ⟨by simp [h1], by simp [h2]; omega, fun c' hc' => ?_⟩
    rw [List.flatten_cons, List.mem_append] at hc'
    rcases hc' with hc' | hc'
    · rw [List.mem_singleton.mp hc']; exact hc
    · exact h3 c' hc'
end LW

end

section
set_option linter.all false
set_option Elab.async false
set_option maxRecDepth 100000
namespace LW
open Dl DlM
theorem c_words {S : Store} {r : Nat} (h : Ints S r) (many : Nat) (hm : many ≤ 20) : (F__law_words [.ref r, .int many] S).sat fun d S' => ∃ w ws, d = .ref w ∧ S.length ≤ w ∧ S'[w]? = some (.lst (ws.map D.str)) ∧ ws.length = many ∧ Words 60 ws ∧ Dr r S S' := by
  have hr := h.lt
  refine sat_defM rfl ?_
  simp
  rw [if_pos (inRange_nat (by omega))]
  simp
  refine for_inv (fun k δ S' => ∃ a3 a4 a5 a6 a7, ∃ ws : List Cs, δ = [some (.ref r), some (.int many), some (.ref S.length), a3, a4, a5, a6, a7] ∧ S'[S.length]? = some (.lst (ws.map D.str)) ∧ ws.length = k ∧ Words (30 + k) ws ∧ Dr r S S')
    ⟨none, none, none, none, none, [], rfl, by simp, rfl, ⟨by simp, by simp, by simp⟩, .of h .app⟩ (by simp) ?_ ?_
  · rintro k hk δ S1 ⟨a3, a4, a5, a6, a7, ws, rfl, hw, hl, hws, hd⟩
    refine ⟨_, rfl, ?_⟩
    rw [rangeL_get]
    simp at hk
    -- the size
    refine sat_seq (fun δ S2 => ∃ v : Nat, v ≤ 2 ∧ δ = [some (.ref r), some (.int many), some (.ref S.length), some (.int k), some (.int (1 + v)), a5, a6, a7] ∧ Dr r S1 S2) ?_ ?_
    · simp
      refine (c_take hd.whole (by omega)).mono ?_
      rintro d S2 ⟨v, rfl, h0, h1, h2⟩
      simp
      exact ⟨v.toNat, by omega, by omega, h2⟩
    rintro δ S2 ⟨v, hv, rfl, h2⟩
    refine sat_seq (fun δ S3 => ∃ v : Nat, v ≤ 24 ∧ δ = [some (.ref r), some (.int many), some (.ref S.length), some (.int k), some (.int (1 + v)), a5, a6, a7] ∧ Dr r S1 S3) ?_ ?_
    · simp
      refine (c_take h2.whole (by omega)).mono ?_
      rintro d S3 ⟨u, rfl, h0, h1, h3⟩
      simp
      by_cases hu : u = 0
      · simp [hu]
        refine (c_take h3.whole (by omega)).mono ?_
        rintro d S4 ⟨u2, rfl, h0, h1, h4⟩
        simp
        exact ⟨v + 3 + u2.toNat, by omega, by omega, h2.trans (h3.trans h4)⟩
      · simp [hu]
        exact ⟨v, by omega, rfl, h2.trans h3⟩
    rintro δ S3 ⟨v, hv, rfl, h3⟩
    have hw3 : S3[S.length]? = some (.lst (ws.map D.str)) := h3.get hw (by omega)
    -- the word
    refine sat_seq (fun δ S4 => ∃ x : Cs, Word x ∧ x.length ≤ 25 ∧ δ = [some (.ref r), some (.int many), some (.ref S.length), some (.int k), some (.int (1 + v)), some (.str x), a6, a7] ∧ Dr r S1 S4) ?_ ?_
    · have e1 : ((1 : Int) + v) = ((1 + v : Nat) : Int) := by omega
      simp only [e1]
      simp only [setS_ap, methM_ap, conM_ap, Res.bind_ok, tyN_str, if_true, argsM_cons, argsM_nil, lcM_ap, rangeI_ap, varM_ap, List.getElem?_cons_succ, List.getElem?_cons_zero, inRange_nat (show 1 + v ≤ 1000000000 by omega), Res.sat_thenS, Res.sat_bind, Res.sat_ok]
      refine lc_all (fun S' => Dr r S1 S' ∧ S3.length < S'.length) (fun _ y => ∃ z, y = D.str z ∧ ∃ c, z = [c] ∧ letter c) ⟨h3.push, by simp⟩ (by simp) (fun S' w ⟨z1, z2⟩ => ⟨z1.set_new (by have := hd.le; omega) (by have := h3.le; omega), by simpa using z2⟩) (fun _ _ => rfl) (by rw [rangeL_len2]; exact le_LIM (by omega)) ?_ ?_
      · rintro j hj S' acc ⟨hd4, hlt⟩ hacc
        refine ⟨_, rfl, ?_⟩
        simp
        refine (c_take hd4.whole (by omega)).mono ?_
        rintro d S5 ⟨u, rfl, h0, h1, h5⟩
        obtain ⟨c, e1, e2⟩ := atI_int (xs := letters) h0 (by simpa [letters] using h1)
        have hc := mem_letters.mp (List.mem_of_getElem? e2)
        unfold letters at e1
        simp [e1, LIM]
        exact ⟨hc, ⟨hd4.trans h5, Nat.lt_of_lt_of_le hlt h5.le⟩, h5.get hacc (by have := h3.le; have := hd.le; omega)⟩
      · rintro ys S' ⟨hd4, hlt⟩ hys hl2 hP
        obtain ⟨zs, rfl, hz⟩ := strs_of hP
        obtain ⟨f1, f2, f3⟩ := flatten_len1 hz
        rw [rangeL_len2, List.length_map] at hl2
        simp [lstAt_of hys, f2, joinCs_nil, le_LIM (show zs.length ≤ 1000000 by omega)]
        exact ⟨_, ⟨fun e => by rw [e] at f1; simp at f1; omega, f3⟩, by omega, rfl, hd4⟩
    rintro δ S4 ⟨x, hx, hxl, rfl, h4⟩
    have hw4 : S4[S.length]? = some (.lst (ws.map D.str)) := h4.get hw (by omega)
    refine sat_seq (fun δ S4 => ∃ x : Cs, ∃ a7, Word x ∧ x.length ≤ 31 + k ∧ x ∉ ws ∧ δ = [some (.ref r), some (.int many), some (.ref S.length), some (.int k), some (.int (1 + v)), some (.str x), a6, a7] ∧ Dr r S1 S4) ?_ ?_
    · by_cases hin : x ∈ ws
      · simp [inP_strs hw4, hin, lstAt_of hw4]
        refine lc_all (fun S' => Fr [] S4 S' ∧ S4.length < S'.length) (fun k y => ∃ z, y = D.int z ∧ ∃ w, ws[k]? = some w ∧ z = w.length) ⟨.app, by simp⟩ (by simp) (fun S' w ⟨z1, z2⟩ => ⟨z1.set_new (Nat.le_refl _), by simpa using z2⟩) ?_ (by simp; exact le_LIM (by omega)) ?_ ?_
        · rintro S' ⟨z1, z2⟩
          simp [lstAt_of (z1.get hw4 (by simp))]
        · rintro j hj S' acc ⟨z1, z2⟩ hacc
          refine ⟨_, rfl, ?_⟩
          simp at hj
          have hw5 := hws.len _ (List.getElem_mem hj)
          simp [le_LIM (show (ws[j]).length ≤ 1000000 by omega), hj]
          exact ⟨⟨z1, z2⟩, hacc⟩
        · rintro ys S' ⟨z1, z2⟩ hys hl2 hP
          obtain ⟨zs, rfl⟩ := ints_of (ys := ys) fun k y hy => by
            obtain ⟨z, e, _⟩ := hP k y hy
            exact ⟨z, e⟩
          simp at hl2
          have hP' : ∀ (k : Nat) (z : Int), zs[k]? = some z → ∃ w, ws[k]? = some w ∧ z = w.length := by
            intro k z hz
            obtain ⟨z', e, w, e2, e3⟩ := hP k (.int z) (by simp [hz])
            cases e
            exact ⟨w, e2, e3⟩
          cases zs with
          | nil =>
            have : ws = [] := List.length_eq_zero_iff.mp hl2.symm
            rw [this] at hin
            cases hin
          | cons a zs =>
            simp [lstAt_of hys]
            obtain ⟨m1, m2⟩ := maxL_spec zs a
            obtain ⟨k1, hk1⟩ := List.getElem?_of_mem m1
            obtain ⟨w1, e1, e2⟩ := hP' k1 _ hk1
            have b1 := hws.len w1 (List.mem_of_getElem? e1)
            generalize maxL a zs = mx at m2 e2 ⊢
            have hmx : ∀ w ∈ ws, (w.length : Int) ≤ mx := fun w hw => by
              obtain ⟨k2, hk2⟩ := List.getElem?_of_mem hw
              have hk3 : k2 < (a :: zs).length := by
                have := (List.getElem?_eq_some_iff.mp hk2).1
                omega
              obtain ⟨w2, e3, e4⟩ := hP' k2 _ (List.getElem?_eq_getElem hk3)
              rw [hk2] at e3
              cases e3
              rw [← e4]
              exact m2 _ (List.getElem_mem hk3)
            have c1 : (0 : Int) ≤ 1 + mx ∧ [122].length * (1 + mx).toNat ≤ LIM ∧ 1 + mx ≤ (LIM : Int) := by
              have : LIM = 16777216 := rfl
              rw [List.length_singleton]
              omega
            have c2 : (List.replicate (1 + mx).toNat [122]).flatten = List.replicate (1 + mx).toNat 122 := by
              induction (1 + mx).toNat with
              | zero => rfl
              | succ n ih => simp [List.replicate_succ, ih]
            have c3 : mulP [.str [122], .int (1 + mx)] S' = .ok (.str (List.replicate (1 + mx).toNat 122)) S' := by
              show (if _ then _ else _) = _
              rw [if_pos c1, c2]
            simp [c3]
            refine ⟨_, ⟨fun e => ?_, fun c hc => ?_⟩, by rw [List.length_replicate]; omega, fun hc => ?_, rfl, h4.trans (.of h4.whole z1)⟩
            · have := congrArg List.length e
              simp at this
              omega
            · rw [(List.mem_replicate.mp hc).2]
              exact ⟨by omega, by omega⟩
            · have := hmx _ hc
              simp at this
              omega
      · simp [inP_strs hw4, hin]
        exact ⟨x, hx, by omega, hin, rfl, h4⟩
    rintro δ S5 ⟨x, a7, hx, hxl, hn, rfl, h5⟩
    have hw5 : S5[S.length]? = some (.lst (ws.map D.str)) := h5.get hw (by omega)
    simp [hw5, lt_LIM (show ws.length ≤ 1000000 by omega)]
    refine ⟨ws ++ [x], ?_, by simp [hl], hws.snoc hx (by omega) (by omega) hn, (hd.trans h5).set_new hr (Nat.le_refl _)⟩
    rw [List.getElem?_set_self (lt_of_get hw5)]
    simp
  · rintro δ S1 ⟨a3, a4, a5, a6, a7, ws, rfl, hw, hl, hws, hd⟩
    rw [rangeL_len2] at hl hws
    simp
    exact ⟨ws, hw, by omega, ⟨hws.word, fun w hw => Nat.le_trans (hws.len w hw) (by omega), hws.nodup⟩, hd⟩
end LW

end

section
set_option linter.all false
set_option Elab.async false
set_option maxRecDepth 100000
namespace LW
open Dl DlM
def big : Nat := 10 ^ 60
def optD : Option Int → D
  | none => .non
  | some e => .int e
/-- a number that a law draws -/
def Num (i : Int) : Prop := i.natAbs < 1000 ^ 20
end LW

end

section
set_option linter.all false
set_option Elab.async false
set_option maxRecDepth 100000
namespace LW
open Dl DlM
theorem c_great {S : Store} {r : Nat} (h : Ints S r) : (F__law_great_number [.ref r] S).sat fun d S' => ∃ i, d = .int i ∧ Num i ∧ Dr r S S' := by
  have hr := h.lt
  refine sat_defM rfl ?_
  refine sat_seq (fun δ S1 => δ = [some (.ref r), some (.int 0), none] ∧ Dr r S S1) (by simp; exact .refl h) ?_
  rintro δ S1 ⟨rfl, h1⟩
  refine sat_seq (fun δ S2 => ∃ (x : Int) (a : Option D), δ = [some (.ref r), some (.int x), a] ∧ 0 ≤ x ∧ x.natAbs < 1000 ^ 19 ∧ Dr r S S2) ?_ ?_
  · simp [LIM]
    refine (c_take (h1.push (T := [.lst [.int 1, .int 2, .int 6, .int 19]])).whole (by omega)).mono ?_
    rintro d S2 ⟨v, rfl, h0, hv, h2⟩
    have e0 : S2[S1.length]? = some (.lst [.int 1, .int 2, .int 6, .int 19]) := h2.get (by simp) (by have := h1.le; omega)
    have hd2 : Dr r S S2 := h1.push.trans h2
    obtain ⟨n, hn, e1⟩ : ∃ n : Nat, n ≤ 19 ∧ atI [D.int 1, .int 2, .int 6, .int 19] v = some (.int n) := by
      have : v = 0 ∨ v = 1 ∨ v = 2 ∨ v = 3 := by omega
      rcases this with rfl | rfl | rfl | rfl
      · exact ⟨1, by omega, rfl⟩
      · exact ⟨2, by omega, rfl⟩
      · exact ⟨6, by omega, rfl⟩
      · exact ⟨19, by omega, rfl⟩
    simp [lstAt_of e0, e1, inRange_nat (show n ≤ 1000000000 by omega)]
    refine for_inv (fun k δ S' => ∃ (x : Int) (a : Option D), δ = [some (.ref r), some (.int x), a] ∧ 0 ≤ x ∧ x.natAbs < 1000 ^ k ∧ Dr r S S') ⟨0, none, rfl, by omega, by simp, hd2⟩ (by simp) ?_ ?_
    · rintro k hk δ S3 ⟨x, a, rfl, hx, hxk, h3⟩
      refine ⟨_, rfl, ?_⟩
      rw [rangeL_get]
      simp [small64]
      refine (c_take h3.whole (by omega)).mono ?_
      rintro d S4 ⟨u, rfl, h0, hu, h4⟩
      simp
      refine ⟨by omega, ?_, h3.trans h4⟩
      rw [Nat.pow_succ]
      omega
    · rintro δ S3 ⟨x, a, rfl, hx, hxk, h3⟩
      rw [rangeL_length] at hxk
      have hp : (1000 : Nat) ^ n ≤ 1000 ^ 19 := Nat.pow_le_pow_right (by omega) hn
      exact ⟨x, ⟨a, rfl⟩, hx, Nat.lt_of_lt_of_le hxk (by simpa using hp), h3⟩
  rintro δ S2 ⟨x, a, rfl, hx, hxk, h2⟩
  simp
  refine (c_take h2.whole (by omega)).mono ?_
  rintro d S3 ⟨u, rfl, h0, hu, h3⟩
  have b : Num x ∧ Num (0 - x) := by
    unfold Num
    have : (1000 : Nat) ^ 20 = 1000 ^ 19 * 1000 := by decide
    omega
  by_cases c : u = 1
  · simp [c]
    exact ⟨by simpa using b.2, h2.trans h3⟩
  · simp [c]
    exact ⟨b.1, h2.trans h3⟩
inductive Val : D → Prop
  | num (i : Int) (h : Num i) : Val (.int i)
  | wrd (w : Cs) (h : Word w) (hl : w.length ≤ 60) : Val (.str w)
theorem c_value {S : Store} {r n : Nat} {ws : List Cs} (h : Ints S r) (hw : S[n]? = some (.lst (ws.map D.str))) (hws : Words 60 ws) (hne : ws ≠ []) (hn : n ≠ r) : (F__law_text_value [.ref r, .ref n] S).sat fun d S' => Val d ∧ Dr r S S' := by
  refine sat_defM rfl ?_
  simp
  refine (c_take h (by omega)).mono ?_
  rintro d S1 ⟨v, rfl, h0, h1, h2⟩
  simp
  by_cases hv : v = 0
  · simp [hv]
    refine (c_pick h2.whole (h2.get hw hn) (by simpa using hne) hn).mono ?_
    rintro d S2 ⟨hd, h3⟩
    obtain ⟨w, hw, rfl⟩ := List.mem_map.mp hd
    exact ⟨.wrd w (hws.word w hw) (hws.len w hw), h2.trans h3⟩
  · simp [hv]
    refine (c_great h2.whole).mono ?_
    rintro d S2 ⟨i, rfl, hi, h3⟩
    exact ⟨.num i hi, h2.trans h3⟩
theorem Words.set {b : Nat} {ws : List Cs} {w : Cs} {i : Nat} (h : Words b ws) (hw : Word w) (hl : w.length ≤ b) (hn : w ∉ ws) : Words b (ws.set i w) where
  word := fun x hx => by
    rcases List.mem_or_eq_of_mem_set hx with hx | rfl
    · exact h.word x hx
    · exact hw
  len := fun x hx => by
    rcases List.mem_or_eq_of_mem_set hx with hx | rfl
    · exact h.len x hx
    · exact hl
  nodup := by
    have hnd := h.nodup
    clear h
    induction ws generalizing i with
    | nil => simp
    | cons a r ih =>
      rw [List.nodup_cons] at hnd
      cases i with
      | zero =>
        rw [List.set_cons_zero, List.nodup_cons]
        exact ⟨fun z => hn (List.mem_cons_of_mem _ z), hnd.2⟩
      | succ i =>
        rw [List.set_cons_succ, List.nodup_cons]
        refine ⟨fun z => ?_, ih (fun z => hn (List.mem_cons_of_mem _ z)) hnd.2⟩
        rcases List.mem_or_eq_of_mem_set z with z | z
        · exact hnd.1 z
        · exact hn (by rw [← z]; simp)
def keyWords : List Cs := [[116, 111], [111, 110], [110, 101, 118, 101, 114], [116, 114, 117, 101], [105, 102], [108, 101, 115, 115], [117, 110, 108, 105, 107, 101], [111, 110, 99, 101], [101, 118, 101, 114], [97, 108, 119, 97, 121, 115], [116, 97, 98, 108, 101], [116, 111, 108, 100], [97, 103, 111]]
theorem keyWords_ok : ∀ w ∈ keyWords, Word w ∧ w.length ≤ 60 := by
  intro w hw
  have h1 : w ≠ [] := by
    rintro rfl
    revert hw
    decide
  have h2 : ∀ w ∈ keyWords, w.length ≤ 60 := by decide
  have h3 : ∀ w ∈ keyWords, ∀ c ∈ w, 97 ≤ c ∧ c ≤ 122 := by decide
  exact ⟨⟨h1, h3 w hw⟩, h2 w hw⟩
theorem c_text_words {S : Store} {r : Nat} (h : Ints S r) (many : Nat) (h1 : 0 < many) (hm : many ≤ 20) : (F__law_text_words [.ref r, .int many] S).sat fun d S' => ∃ w ws, d = .ref w ∧ S.length ≤ w ∧ S'[w]? = some (.lst (ws.map D.str)) ∧ ws.length = many ∧ Words 60 ws ∧ Dr r S S' := by
  have hr := h.lt
  refine sat_defM rfl ?_
  refine sat_seq (fun δ S1 => ∃ w ws, δ = [some (.ref r), some (.int many), some (.ref w), none, none, none] ∧ S.length ≤ w ∧ S1[w]? = some (.lst (ws.map D.str)) ∧ ws.length = many ∧ Words 60 ws ∧ Dr r S S1) ?_ ?_
  · simp
    refine (c_words h many hm).mono ?_
    rintro d S1 ⟨w, ws, rfl, hle, hw, hl, hws, hd⟩
    simp
    exact ⟨hle, ws, hw, hl, hws, hd⟩
  rintro δ S1 ⟨w, ws, rfl, hle, hw, hl, hws, hd⟩
  have hwl := lt_of_get hw
  have h2 := hd.push (T := [.lst (keyWords.map D.str)])
  simp [LIM]
  rw [if_pos (by rfl)]
  simp
  refine for_inv (fun k δ S' => ∃ a4 a5 ws, δ = [some (.ref r), some (.int many), some (.ref w), some (.ref S1.length), a4, a5] ∧ S'[w]? = some (.lst (ws.map D.str)) ∧ S'[S1.length]? = some (.lst (keyWords.map D.str)) ∧ ws.length = many ∧ Words 60 ws ∧ Dr r S S')
    ⟨none, none, ws, rfl, ?_, by simp [keyWords], hl, hws, h2⟩ (by simp) ?_ ?_
  · rw [List.getElem?_append_left hwl]; exact hw
  · rintro k hk δ S2 ⟨a4, a5, ws, rfl, hw, hkw, hl, hws, hd⟩
    refine ⟨_, rfl, ?_⟩
    simp
    refine (c_pick hd.whole hkw (by decide) (by omega)).mono ?_
    rintro d S3 ⟨hm3, h3⟩
    obtain ⟨x, hx, rfl⟩ := List.mem_map.mp hm3
    obtain ⟨hx1, hx2⟩ := keyWords_ok x hx
    have hw3 := h3.get hw (by omega)
    have hk3 := h3.get hkw (by omega)
    simp [inP_strs hw3]
    by_cases hin : x ∈ ws
    · simp [hin]
      exact ⟨ws, hw3, hk3, hl, hws, hd.trans h3⟩
    · simp [hin]
      refine (c_take h3.whole (by omega)).mono ?_
      rintro d S4 ⟨v, rfl, h0, hv, h4⟩
      have hw4 := h4.get hw3 (by omega)
      have hk4 := h4.get hk3 (by omega)
      simp
      by_cases hv0 : v = 0
      · simp [hv0]
        refine (c_take h4.whole (by omega)).mono ?_
        rintro d S5 ⟨u, rfl, h0, hu, h5⟩
        have hw5 := h5.get hw4 (by omega)
        have hk5 := h5.get hk4 (by omega)
        have e1 : ixN ws.length u = some u.toNat := ixN_int h0 (by omega)
        simp [hw5, e1]
        refine ⟨ws.set u.toNat x, ?_, ?_, by simpa using hl, hws.set hx1 hx2 hin, (hd.trans (h3.trans (h4.trans h5))).set_new hr hle⟩
        · rw [List.getElem?_set_self (lt_of_get hw5), List.map_set]
        · rw [List.getElem?_set_ne (by omega)]; exact hk5
      · simp [hv0]
        exact ⟨ws, hw4, hk4, hl, hws, hd.trans (h3.trans h4)⟩
  · rintro δ S2 ⟨a4, a5, ws, rfl, hw, hkw, hl, hws, hd⟩
    simp
    exact ⟨hle, ws, hw, hl, hws, hd⟩
end LW

end

section
set_option linter.all false
set_option Elab.async false
set_option maxRecDepth 100000
namespace LW
open Dl DlM
/-! schemas -/
structure Table where
  name : Cs
  key : Nat
  others : Nat
def tabD (t : Table) : D := .tup [.str t.name, .int t.key, .int t.others]
structure Schema (l : List Table) : Prop where
  word : ∀ t ∈ l, Word t.name ∧ t.name.length ≤ 60
  size : ∀ t ∈ l, t.key + t.others ≤ 8
  nodup : (l.map Table.name).Nodup
  len : l.length ≤ 20
theorem c_text_schema_n {S : Store} {r n : Nat} {ws : List Cs} (h : Ints S r) (hw : S[n]? = some (.lst (ws.map D.str))) (hws : Words 60 ws) (hl : ws.length ≤ 20) : (F__law_text_schema [.ref r, .ref n] S).sat fun d S' => ∃ l, d = .tup (l.map tabD) ∧ Schema l ∧ (∀ t ∈ l, t.name ∈ ws) ∧ l.length = ws.length ∧ Dr r S S' := by
  have hr := h.lt
  have hn := lt_of_get hw
  refine sat_defM rfl ?_
  refine sat_seq (fun δ S1 => δ = [some (.ref r), some (.ref n), some (.ref S.length), none, none, none] ∧ S1 = S ++ [.lst []]) (by simp) ?_
  rintro δ S1 ⟨rfl, rfl⟩
  have hw1 : (S ++ [.lst []])[n]? = some (.lst (ws.map D.str)) := by rw [List.getElem?_append_left hn]; exact hw
  have hs : (ws.mergeSort csLe).Perm ws := List.mergeSort_perm ws csLe
  have es : sortedSP [.ref n] (S ++ [.lst []]) = .ok (.ref (S.length + 1)) (S ++ [.lst []] ++ [.lst ((ws.mergeSort csLe).map D.str)]) := by
    unfold sortedSP
    simp only [lstAt_of hw1, strsOf_map]
    rw [if_pos (by omega)]
    simp
  have hsl : (ws.mergeSort csLe).length = ws.length := hs.length_eq
  have hsn : (ws.mergeSort csLe).Nodup := hs.nodup_iff.mpr hws.nodup
  have hsw : ∀ w ∈ ws.mergeSort csLe, Word w ∧ w.length ≤ 60 := fun w hw => ⟨hws.word w (hs.mem_iff.mp hw), hws.len w (hs.mem_iff.mp hw)⟩
  have hsm : ∀ w ∈ ws.mergeSort csLe, w ∈ ws := fun w hw => hs.mem_iff.mp hw
  generalize ws.mergeSort csLe = us at es hsl hsn hsw hsm
  simp [es]
  have hu : (S ++ [MO.lst [], .lst (us.map D.str)])[S.length + 1]? = some (.lst (us.map D.str)) := by
    rw [List.getElem?_append_right (by omega)]
    simp
  have hd0 : Dr r S (S ++ [MO.lst [], .lst (us.map D.str)]) := .of h .app
  simp [lstAt_of hu]
  refine for_inv (fun k δ S1 => ∃ l a3 a4 a5, δ = [some (.ref r), some (.ref n), some (.ref S.length), a3, a4, a5] ∧ S1[S.length]? = some (.lst (l.map tabD)) ∧ S1[S.length + 1]? = some (.lst (us.map D.str)) ∧ l.map Table.name = us.take k ∧ (∀ t ∈ l, t.key + t.others ≤ 8) ∧ Dr r S S1)
    ⟨[], none, none, none, rfl, by simp, hu, by simp, by simp, hd0⟩ ?_ ?_ ?_
  · rintro k δ S1 _ ⟨l, a3, a4, a5, rfl, h1, h2, h3, h4, h5⟩
    simp [lstAt_of h2]
  · rintro k hk δ S1 ⟨l, a3, a4, a5, rfl, h1, h2, h3, h4, h5⟩
    refine ⟨_, rfl, ?_⟩
    simp at hk
    have hlk : l.length = k := by
      have := congrArg List.length h3
      simp at this
      omega
    have pk : ∀ (T : Store) (xs : List Int), xs.length = 7 → Dr r S T → (F__law_take [.ref r, .int 7] (T ++ [.lst (xs.map D.int)])).sat fun d S' => ∃ v : Int, ∃ x ∈ xs, d = .int v ∧ atI (xs.map D.int) v = some (.int x) ∧ S'[T.length]? = some (.lst (xs.map D.int)) ∧ Dr r T S' := by
      intro T xs hx hT
      have hT1 : Dr r T (T ++ [.lst (xs.map D.int)]) := Dr.push (.refl hT.whole)
      refine (c_take hT1.whole (by omega)).mono ?_
      rintro d S2 ⟨v, rfl, h0, hv, h6⟩
      obtain ⟨y, e1, e2⟩ := atI_int (xs := xs.map D.int) h0 (by simp; omega)
      rw [List.getElem?_map] at e2
      cases e3 : xs[v.toNat]? with
      | none => rw [e3] at e2; cases e2
      | some x =>
        rw [e3] at e2
        cases e2
        exact ⟨v, x, List.mem_of_getElem? e3, rfl, e1, h6.get (by simp) (by have := hT.le; omega), hT1.trans h6⟩
    refine sat_seq (fun δ S2 => ∃ key : Nat, key ≤ 8 ∧ δ = [some (.ref r), some (.ref n), some (.ref S.length), some (.str us[k]), some (.int key), a5] ∧ Dr r S1 S2) ?_ ?_
    · simp [LIM]
      refine (pk S1 [1, 0, 2, 1, 8, 3, 0] rfl h5).mono ?_
      rintro d S2 ⟨v, x, hx, rfl, e1, e2, h6⟩
      simp at e1
      simp [lstAt_of e2, e1]
      obtain ⟨x, rfl⟩ : ∃ y : Nat, x = y := ⟨x.toNat, by revert hx; simp; omega⟩
      refine ⟨x, ?_, rfl, h6⟩
      revert hx; simp; omega
    rintro δ S2 ⟨key, hkey, rfl, h6⟩
    refine sat_seq (fun δ S3 => ∃ o : Nat, δ = [some (.ref r), some (.ref n), some (.ref S.length), some (.str us[k]), some (.int key), some (.int o)] ∧ Dr r S1 S3) ?_ ?_
    · simp [LIM]
      refine (pk S2 [1, 0, 2, 0, 3, 1, 8] rfl (h5.trans h6)).mono ?_
      rintro d S3 ⟨v, x, hx, rfl, e1, e2, h7⟩
      simp at e1
      simp [lstAt_of e2, e1]
      obtain ⟨x, rfl⟩ : ∃ y : Nat, x = y := ⟨x.toNat, by revert hx; simp; omega⟩
      exact ⟨⟨x, rfl⟩, h6.trans h7⟩
    rintro δ S3 ⟨o, rfl, h7⟩
    have h13 := h7.get h1 (by omega)
    have h23 := h7.get h2 (by omega)
    obtain ⟨o', ho1, ho2⟩ : ∃ o' : Nat, (if (8 : Int) - key < o then (8 : Int) - key else o) = o' ∧ key + o' ≤ 8 := by
      by_cases c : (8 : Int) - key < o
      · rw [if_pos c]
        exact ⟨8 - key, by omega, by omega⟩
      · rw [if_neg c]
        exact ⟨o, rfl, by omega⟩
    simp [h13, LIM, show l.length < 16777216 by omega, ho1]
    refine ⟨l ++ [⟨us[k], key, o'⟩], ?_, ?_, ?_, ?_, (h5.trans h7).set_new hr (Nat.le_refl _)⟩
    · rw [List.getElem?_set_self (lt_of_get h13)]
      simp [tabD]
    · exact h23
    · rw [List.map_append, h3, List.take_add_one, List.getElem?_eq_getElem hk]
      rfl
    · intro t ht
      rcases List.mem_append.mp ht with ht | ht
      · exact h4 t ht
      · rw [List.mem_singleton.mp ht]; exact ho2
  · rintro δ S1 ⟨l, a3, a4, a5, rfl, h1, h2, h3, h4, h5⟩
    simp [lstAt_of h1]
    rw [List.length_map, List.take_length] at h3
    have hl3 : l.length = us.length := by rw [← h3]; simp
    have hin : ∀ t ∈ l, t.name ∈ us := fun t ht => by
      rw [← h3]
      exact List.mem_map_of_mem ht
    exact ⟨l, rfl, ⟨fun t ht => hsw _ (hin t ht), h4, by rw [h3]; exact hsn, by omega⟩, fun t ht => hsm _ (hin t ht), by omega, h5⟩
theorem c_text_schema {S : Store} {r n : Nat} {ws : List Cs} (h : Ints S r) (hw : S[n]? = some (.lst (ws.map D.str))) (hws : Words 60 ws) (hl : ws.length ≤ 20) : (F__law_text_schema [.ref r, .ref n] S).sat fun d S' => ∃ l, d = .tup (l.map tabD) ∧ Schema l ∧ (∀ t ∈ l, t.name ∈ ws) ∧ Dr r S S' :=
  (c_text_schema_n h hw hws hl).mono fun _ _ ⟨l, h1, h2, h3, _, h5⟩ => ⟨l, h1, h2, h3, h5⟩
end LW

end

section
set_option linter.all false
set_option Elab.async false
set_option maxRecDepth 100000
namespace LW
open Dl DlM
def digits : Cs := [48, 49, 50, 51, 52, 53, 54, 55, 56, 57]
def signs : Cs := [40, 41, 44, 124]
@[scoped simp] theorem d_LETTERS_eq : d_LETTERS = .str letters := id rfl
@[scoped simp] theorem d_DIGITS_eq : d_DIGITS = .str digits := id rfl
@[scoped simp] theorem d_SIGNS_eq : d_SIGNS = .str signs := id rfl
theorem mem_digits {c : Nat} : c ∈ digits ↔ 48 ≤ c ∧ c ≤ 57 := by
  simp only [digits, List.mem_cons, List.not_mem_nil, or_false]
  omega
theorem mem_signs {c : Nat} : c ∈ signs ↔ c = 40 ∨ c = 41 ∨ c = 44 ∨ c = 124 := by
  simp only [signs, List.mem_cons, List.not_mem_nil, or_false]
theorem c_run_end {S : Store} {x a y cs : Cs} {at_ : Int} (hx : x = a ++ y) (ha : at_ = a.length) (hl : x.length ≤ 1000000) : F_run_end [.str x, .int at_, .str cs] S = .ok (.int (at_ + run cs y)) S := by
  subst ha
  refine eq_of_sat (sat_defM rfl ?_)
  simp
  have hxl : x.length = a.length + y.length := by rw [hx, List.length_append]
  have hr := run_le cs y
  refine while_run (fun n δ S' => ∃ j, j + n = run cs y ∧ S' = S ∧ δ = [some (.str x), some (.int a.length), some (.str cs), some (.int (a.length + j))]) (run cs y) (by omega) ⟨0, by omega, rfl, by simp⟩ ?_
  rintro n δ S' ⟨j, hj, rfl, rfl⟩
  simp [le_LIM hl]
  by_cases h1 : j < y.length
  · obtain ⟨c, hc⟩ : ∃ c, y[j]? = some c := ⟨y[j], List.getElem?_eq_getElem h1⟩
    have e1 : atI x ((a.length : Int) + j) = some c := by
      have : ((a.length : Int) + j) = ((a.length + j : Nat) : Int) := by omega
      rw [this]
      refine atI_nat ?_
      rw [hx, List.getElem?_append_right (by omega)]
      simpa using hc
    simp [e1, hxl, h1]
    by_cases h2 : c ∈ cs
    · have h3 : j ≠ run cs y := fun e => run_stop cs y c (by rw [← e]; exact hc) h2
      simp [h2]
      exact ⟨n - 1, by omega, j + 1, by omega, by omega⟩
    · have h3 : ¬ j < run cs y := fun h => by
        obtain ⟨d, e3, e4⟩ := run_lt cs y j h
        rw [hc] at e3
        cases e3
        exact h2 e4
      simp [h2]
      omega
  · simp [hxl, h1]
    omega
inductive Token
  | wrd (w : Cs) | num (i : Int) | quo (w : Cs) | sg (c : Nat)
  deriving DecidableEq
def Token.txt : Token → Cs
  | .wrd w => w
  | .num i => intCs i
  | .quo w => 34 :: (w ++ [34])
  | .sg c => [c]
def Token.kind : Token → Cs
  | .wrd _ => [119, 111, 114, 100]
  | .num _ => [105, 110, 116, 101, 103, 101, 114]
  | .quo _ => [113, 117, 111, 116, 101, 100]
  | .sg c => [c]
def Token.val : Token → D
  | .wrd w => .str w
  | .num i => .int i
  | .quo w => .str w
  | .sg c => .str [c]
inductive Good : Token → Prop
  | wrd (w : Cs) (h : Word w) (hl : w.length ≤ 60) : Good (.wrd w)
  | num (i : Int) (h : i.natAbs < big) : Good (.num i)
  | quo (w : Cs) (h : Word w) (hl : w.length ≤ 60) : Good (.quo w)
  | sg (c : Nat) (h : c ∈ signs) : Good (.sg c)
/-- .. with integers of any length that int takes -/
inductive Tok : Token → Prop
  | wrd (w : Cs) (h : Word w) : Tok (.wrd w)
  | num (i : Int) (h : (intCs i).length ≤ 640) : Tok (.num i)
  | quo (w : Cs) (h : Word w) : Tok (.quo w)
  | sg (c : Nat) (h : c ∈ signs) : Tok (.sg c)
/-- what stands behind t does not go on with it -/
def Delim : Token → Cs → Prop
  | .wrd _, y => ∀ c, y.head? = some c → c ∉ letters
  | .num _, y => ∀ c, y.head? = some c → c ∉ digits
  | _, _ => True
theorem num_len {i : Int} (h : i.natAbs < big) : (intCs i).length ≤ 61 := intCs_len (by omega) h
theorem Good.tok {t : Token} (h : Good t) : Tok t := by
  cases h with
  | wrd w h hl => exact .wrd w h
  | num i h => exact .num i (Nat.le_trans (num_len h) (by omega))
  | quo w h hl => exact .quo w h
  | sg c h => exact .sg c h
theorem c_integer_at {S : Store} {x a y : Cs} {i : Int} (h : (intCs i).length ≤ 640) (hy : ∀ c, y.head? = some c → c ∉ digits) (hx : x = a ++ (intCs i ++ y)) (hl : x.length ≤ 1000000) :
    F_integer_at [.str x, .int a.length] S = .ok (.tup [.str [105, 110, 116, 101, 103, 101, 114], .int i, .int (a.length + (intCs i).length)]) S := by
  have hlen := h
  have hcs := csInt_intCs i
  have hxl : x.length = a.length + ((intCs i).length + y.length) := by rw [hx]; simp
  have hcut : cut x (some (a.length : Int)) (some (a.length + (intCs i).length)) = intCs i := cut_is hx rfl rfl
  refine eq_of_sat (sat_defM rfl ?_)
  -- the digits begin at a ++ p
  obtain ⟨p, n, hp, hn0, e0⟩ : ∃ (p : Cs) (n : Nat), intCs i = p ++ natCs n ∧ (p = [] ∧ (n : Int) = i ∨ p = [45] ∧ -(n : Int) = i ∧ n ≠ 0) ∧ True := by
    by_cases hi : i < 0
    · exact ⟨[45], i.natAbs, by unfold intCs; rw [if_pos hi]; rfl, .inr ⟨rfl, by omega, by omega⟩, trivial⟩
    · exact ⟨[], i.natAbs, by unfold intCs; rw [if_neg hi]; rfl, .inl ⟨rfl, by omega⟩, trivial⟩
  obtain ⟨c, t, e⟩ := List.exists_cons_of_ne_nil (natCs_ne n)
  have hcd := natCs_digit n c (by rw [e]; simp)
  have hrun : run digits (natCs n ++ y) = (natCs n).length := run_app (fun c hc => mem_digits.mpr (natCs_digit n c hc)) hy
  have r1 : F_run_end [.str x, .int (a.length + p.length), .str digits] S = .ok (.int (a.length + p.length + (natCs n).length)) S := by
    rw [c_run_end (a := a ++ p) (y := natCs n ++ y) (by rw [hx, hp]; simp) (by simp) hl, hrun]
  have a1 : atI x ((a.length : Int) + p.length) = some c := atI_is (a := a ++ p) (b := t ++ y) (by rw [hx, hp, e]; simp) (by simp)
  have hl2 : (intCs i).length = p.length + (natCs n).length := by rw [hp]; simp
  have ht : (natCs n).length = t.length + 1 := by rw [e]; simp
  have hz : c = 48 → t = [] ∧ p = [] := by
    rintro rfl
    have z := natCs_head n t e
    subst z
    rw [natCs_zero] at e
    refine ⟨(List.cons.inj e).2.symm, ?_⟩
    rcases hn0 with ⟨q, _⟩ | ⟨_, _, q⟩
    · exact q
    · exact absurd rfl q
  have hne : ¬ ((a.length : Int) + p.length = a.length + p.length + (natCs n).length) := by omega
  have hc2 : ¬ (c = 48 ∧ (1 : Int) < a.length + p.length + (natCs n).length - a.length) := by
    rintro ⟨q1, q2⟩
    obtain ⟨q3, q4⟩ := hz q1
    rw [q3] at ht
    rw [q4] at q2
    simp at ht q2
    omega
  have hend : (a.length : Int) + p.length + (natCs n).length = a.length + (intCs i).length := by omega
  rw [hend] at r1 hne hc2
  refine sat_seq (fun δ S' => δ = [some (.str x), some (.int a.length), some (.int (a.length + p.length)), none] ∧ S = S') ?_ ?_
  · rcases hn0 with ⟨rfl, hi⟩ | ⟨rfl, hi, hi0⟩
    · have a2 : atI x (a.length : Int) = some c := by simpa using a1
      have hc45 : c ≠ 45 := by omega
      simp [le_LIM hl, a2, hc45]
    · have a2 : atI x (a.length : Int) = some 45 := atI_is (a := a) (b := natCs n ++ y) (by rw [hx, hp]; simp) rfl
      simp [le_LIM hl, a2]
  rintro δ S' ⟨rfl, rfl⟩
  refine sat_seq (fun δ S' => δ = [some (.str x), some (.int a.length), some (.int (a.length + p.length)), some (.int (a.length + (intCs i).length))] ∧ S = S') (by simp [r1]) ?_
  rintro δ S' ⟨rfl, rfl⟩
  refine sat_seq (fun δ S' => δ = [some (.str x), some (.int a.length), some (.int (a.length + p.length)), some (.int (a.length + (intCs i).length))] ∧ S = S') ?_ ?_
  · simp [le_LIM hl, a1]
    rw [if_neg (by omega)]
    by_cases h48 : c = 48
    · have : ¬ ((1 : Int) < a.length + (intCs i).length - a.length) := fun z => hc2 ⟨h48, z⟩
      simp [h48]
      rw [if_neg (by omega)]
      simp
    · simp [h48]
  rintro δ S' ⟨rfl, rfl⟩
  simp [le_LIM hl, hcut, hcs, show (intCs i).length ≤ 640 by omega]
theorem c_token_at {S : Store} {x a y : Cs} {t : Token} (hg : Tok t) (hd : Delim t y) (hx : x = a ++ (t.txt ++ y)) (hl : x.length ≤ 1000000) :
    F_token_at [.str x, .int a.length] S = .ok (.tup [.str t.kind, t.val, .int (a.length + t.txt.length)]) S := by
  refine eq_of_sat (sat_defM rfl ?_)
  cases hg with
  | sg c h =>
    have a1 : atI x (a.length : Int) = some c := atI_is (b := y) hx rfl
    simp [le_LIM hl, a1, h, Token.kind, Token.val, Token.txt]
  | wrd w h =>
    obtain ⟨c, u, rfl⟩ := List.exists_cons_of_ne_nil h.ne
    have hc := h.all c (by simp)
    have a1 : atI x (a.length : Int) = some c := atI_is (b := u ++ y) hx rfl
    have h1 : ¬ c ∈ signs := by rw [mem_signs]; unfold letter at hc; omega
    have h2 : c ∈ letters := mem_letters.mpr hc
    have hrun : run letters ((c :: u) ++ y) = (c :: u).length := run_app (fun d hd => mem_letters.mpr (h.all d hd)) hd
    have r1 : F_run_end [.str x, .int a.length, .str letters] S = .ok (.int (a.length + (c :: u).length)) S := by
      rw [c_run_end hx rfl hl]
      show _ = Res.ok (D.int (a.length + (c :: u).length)) S
      rw [← hrun]
      rfl
    have hcut : cut x (some (a.length : Int)) (some (a.length + (c :: u).length)) = c :: u := cut_is hx rfl rfl
    generalize hm : (c :: u) = w at *
    simp [le_LIM hl, a1, h1, h2, r1, hcut, Token.kind, Token.val, Token.txt]
  | quo w h =>
    have a1 : atI x (a.length : Int) = some 34 := atI_is (b := w ++ [34] ++ y) (by rw [hx]; simp [Token.txt]) rfl
    have h1 : ¬ 34 ∈ signs := by decide
    have h2 : ¬ 34 ∈ letters := by decide
    have hrun : run letters (w ++ (34 :: y)) = w.length := run_app (fun d hd => mem_letters.mpr (h.all d hd)) (by
      intro c hc
      cases hc
      exact h2)
    have r1 : F_run_end [.str x, .int (a.length + 1), .str letters] S = .ok (.int (a.length + 1 + w.length)) S := by
      rw [c_run_end (a := a ++ [34]) (y := w ++ (34 :: y)) (by rw [hx]; simp [Token.txt]) (by simp) hl, hrun]
    have hw : w.length ≠ 0 := fun e => h.ne (List.length_eq_zero_iff.mp e)
    have hcut1 : cut x (some ((a.length : Int) + 1 + w.length)) (some (a.length + 1 + w.length + 1)) = [34] := cut_is (a := a ++ 34 :: w) (b := [34]) (c := y) (by rw [hx]; simp [Token.txt]) (by simp; omega) (by simp; omega)
    have hcut2 : cut x (some ((a.length : Int) + 1)) (some (a.length + 1 + w.length)) = w := cut_is (a := a ++ [34]) (b := w) (c := 34 :: y) (by rw [hx]; simp [Token.txt]) (by simp) (by simp)
    have hne : ¬ ((a.length : Int) + 1 + w.length = a.length + 1) := by omega
    simp [le_LIM hl, a1, h1, h2, r1, hcut1, hcut2, Token.kind, Token.val, Token.txt]
    rw [if_neg (by omega)]
    simp [le_LIM hl, hcut2]
    omega
  | num i h =>
    obtain ⟨c, u, e⟩ := List.exists_cons_of_ne_nil (intCs_ne i)
    have hc : c = 45 ∨ (48 ≤ c ∧ c ≤ 57) := by
      unfold intCs at e
      split at e
      · left; exact (List.cons.inj e).1.symm
      · right; exact natCs_digit _ c (by rw [e]; simp)
    have a1 : atI x (a.length : Int) = some c := atI_is (b := u ++ y) (by rw [hx]; simp [Token.txt, e]) rfl
    have h1 : ¬ c ∈ signs := by rw [mem_signs]; omega
    have h2 : ¬ c ∈ letters := by rw [mem_letters]; unfold letter; omega
    have h3 : ¬ c = 34 := by omega
    have r1 := c_integer_at (S := S) h hd hx hl
    simp [le_LIM hl, a1, h1, h2, h3, r1, Token.kind, Token.val, Token.txt]
end LW

end

section
set_option linter.all false
set_option Elab.async false
set_option maxRecDepth 100000
namespace LW
open Dl DlM
/-! lines -/
abbrev Gap := Nat × Token
/-- the tokens, each behind its blanks, and z blanks at the end -/
def asm : List Gap → Nat → Cs
  | [], z => List.replicate z 32
  | (g, t) :: r, z => List.replicate g 32 ++ (t.txt ++ asm r z)
/-- each token is told from what stands behind it -/
def Told : List Gap → Nat → Prop
  | [], _ => True
  | (_, t) :: r, z => Good t ∧ Delim t (asm r z) ∧ Told r z
theorem first_ne {t : Token} (h : Good t) : ∀ c, t.txt.head? = some c → c ≠ 32 := by
  intro c hc
  cases h with
  | sg c' h => cases hc; rw [mem_signs] at h; omega
  | quo w h => cases hc; omega
  | wrd w h =>
    obtain ⟨d, u, e⟩ := List.exists_cons_of_ne_nil h.ne
    subst e
    cases hc
    have := h.all c (by simp)
    unfold letter at this
    omega
  | num i h =>
    have hc' : (intCs i).head? = some c := hc
    unfold intCs at hc'
    split at hc'
    · cases hc'; omega
    · obtain ⟨d, u, e⟩ := List.exists_cons_of_ne_nil (natCs_ne i.natAbs)
      rw [e] at hc'
      cases hc'
      have := natCs_digit i.natAbs c (by rw [e]; simp)
      omega
theorem txt_ne {t : Token} (h : Good t) : t.txt ≠ [] := by
  cases h with
  | sg c' h => simp [Token.txt]
  | quo w h => simp [Token.txt]
  | wrd w h => exact h.ne
  | num i h => exact intCs_ne i
theorem kind_ne {t : Token} : t.kind ≠ [] := by
  cases t <;> simp [Token.kind]
theorem run_spaces {g : Nat} {t : Token} {y : Cs} (h : Good t) : run [32] (List.replicate g 32 ++ (t.txt ++ y)) = g := by
  rw [run_app]
  · simp
  · intro c hc
    rw [(List.mem_replicate.mp hc).2]
    simp
  · intro c hc
    obtain ⟨d, u, e⟩ := List.exists_cons_of_ne_nil (txt_ne h)
    have := first_ne h c (by rw [e] at hc ⊢; exact hc)
    simpa using this
theorem run_spaces_end {g : Nat} : run [32] (List.replicate g 32) = g := by
  have := run_app (cs := [32]) (w := List.replicate g 32) (y := []) (by
    intro c hc
    rw [(List.mem_replicate.mp hc).2]
    simp) (by simp)
  simpa using this
/-- between commas -/
def seps {α : Type} (c : α) : List (List α) → List α
  | [] => []
  | x :: r => x ++ r.flatMap fun y => c :: y
theorem seps_snoc {α : Type} (c : α) (l : List (List α)) (x : List α) : seps c (l ++ [x]) = if l = [] then x else seps c l ++ c :: x := by
  cases l with
  | nil => simp [seps]
  | cons a r => simp [seps]
end LW

end

section
set_option linter.all false
set_option Elab.async false
set_option maxRecDepth 100000
namespace LW
open Dl DlM
/-! the reading of a row -/
theorem c_table_of {S : Store} {ts : List Table} {w : Cs} : F_table_of [.tup (ts.map tabD), .str w] S = .ok (match ts.find? (fun t => decide (t.name = w)) with | some t => tabD t | none => .non) S := by
  refine eq_of_sat (sat_defM rfl ?_)
  simp
  refine for_inv (fun k δ S' => S = S' ∧ (∃ a, δ = [some (.tup (ts.map tabD)), some (.str w), a]) ∧ ts.find? (fun t => decide (t.name = w)) = (ts.drop k).find? (fun t => decide (t.name = w))) ⟨rfl, ⟨none, rfl⟩, by simp⟩ (by simp) ?_ ?_
  · rintro k hk δ S' ⟨rfl, ⟨a, rfl⟩, h⟩
    refine ⟨_, rfl, ?_⟩
    simp at hk
    rw [List.drop_eq_getElem_cons hk, List.find?_cons] at h
    simp [tabD]
    by_cases c : ts[k].name = w
    · simp [c] at h
      simp [c, h]
    · simp [c] at h
      simp [c, h]
  · rintro δ S' ⟨rfl, ⟨a, rfl⟩, h⟩
    simp at h
    have e : ts.find? (fun t => decide (t.name = w)) = none := by simpa using h
    simp [e]
def valTok : D → Token
  | .int i => .num i
  | .str w => .quo w
  | _ => .num 0
theorem valTok_val {d : D} (h : Val d) : (valTok d).val = d ∧ ((∃ i, valTok d = .num i) ∨ ∃ w, valTok d = .quo w) := by
  cases h with
  | num i h => exact ⟨rfl, .inl ⟨i, rfl⟩⟩
  | wrd w h hl => exact ⟨rfl, .inr ⟨w, rfl⟩⟩
end LW

end

section
set_option linter.all false
set_option Elab.async false
set_option maxRecDepth 100000
namespace LW
open Dl DlM
theorem big_lt : big < 2 ^ 1900 := by decide +kernel
theorem Num.big {i : Int} (h : Num i) : i.natAbs < LW.big := by
  have e : LW.big = 1000 ^ 20 := by decide +kernel
  rw [e]; exact h
theorem Num.str {i : Int} (h : i.natAbs < LW.big) : i.natAbs < 2 ^ 1900 := Nat.lt_trans h big_lt
/-- a pure elt over a list that stands still -/
theorem lc_map {still : Store → Bool} {D₀ : Nat} {tg : Tgt} {elt : EM} {xs : List D} {δ : Env} {S : Store} {Q : Unit → Store → Prop} (f : D → D) (h0 : S[D₀]? = some (.lst [])) (hlen : xs.length ≤ LIM)
    (hs : ∀ S', Fr [D₀] S S' → still S' = true)
    (step : ∀ x ∈ xs, ∃ δ1, tg.put x δ = some δ1 ∧ ∀ S', Fr [D₀] S S' → elt δ1 S' = .ok (f x) S')
    (hend : ∀ S', Fr [D₀] S S' → S'[D₀]? = some (.lst (xs.map f)) → Q () S') : (lcLoop still D₀ δ tg yesT elt xs S).sat Q := by
  refine lc_all (fun S' => Fr [D₀] S S') (fun k y => ∃ x, xs[k]? = some x ∧ y = f x) .refl h0 (fun S' v h => h.trans (.set (by simp))) hs hlen ?_ ?_
  · intro k hk S' acc hf hacc
    obtain ⟨δ1, e1, e2⟩ := step xs[k] (List.getElem_mem hk)
    refine ⟨δ1, e1, ?_⟩
    rw [e2 S' hf, Res.sat_ok]
    exact ⟨⟨xs[k], List.getElem?_eq_getElem hk, rfl⟩, hf, hacc⟩
  · intro ys S' hf hys hl hP
    refine hend S' hf ?_
    rw [hys]
    congr 2
    apply List.ext_getElem?
    intro k
    rw [List.getElem?_map]
    cases e : ys[k]? with
    | none =>
      have : ys.length ≤ k := List.getElem?_eq_none_iff.mp e
      rw [List.getElem?_eq_none (by omega)]
      rfl
    | some y =>
      obtain ⟨x, e1, e2⟩ := hP k y e
      rw [e1, e2]
      rfl
theorem fr_app_new {S S' T : Store} {n : Nat} (hn : n = S.length) (h : Fr [n] (S ++ T) S') : Fr [] S S' := by
  subst hn
  exact ((Fr.app (xs := [S.length])).trans h).cut fun i hi hlt => by simp at hi; omega
def txts (ts : List Token) : List Cs := ts.map Token.txt
end LW

end

section
set_option linter.all false
set_option Elab.async false
set_option maxRecDepth 100000
namespace LW
open Dl DlM
theorem c_value_text {S : Store} {d : D} (h : Val d) : F__law_value_text [d] S = .ok (.str (valTok d).txt) S := by
  refine eq_of_sat (sat_defM rfl ?_)
  cases h with
  | num i h => simp [isTy, Num.str h.big, valTok, Token.txt, -Nat.reducePow]
  | wrd w h hl => simp [isTy, valTok, Token.txt, le_LIM (show 1 + w.length ≤ 1000000 by omega), le_LIM (show w.length + 1 + 1 ≤ 1000000 by omega)]
end LW

end

section
set_option linter.all false
set_option Elab.async false
set_option maxRecDepth 100000
namespace LW
open Dl DlM
theorem map_seps {α β : Type} (f : α → β) (c : α) (l : List (List α)) : (seps c l).map f = seps (f c) (l.map (List.map f)) := by
  cases l with
  | nil => rfl
  | cons a r =>
    simp [seps, List.map_flatMap, List.flatMap_map]
theorem seps_len {α : Type} (c : α) (b : Nat) : ∀ l : List (List α), (∀ x ∈ l, x.length ≤ b) → (seps c l).length ≤ l.length * (b + 1)
  | [], _ => by simp [seps]
  | a :: r, h => by
    have h1 : ∀ r : List (List α), (∀ x ∈ r, x.length ≤ b) → (r.flatMap fun y => c :: y).length ≤ r.length * (b + 1) := by
      intro r
      induction r with
      | nil => simp
      | cons x r ih =>
        intro h
        have := h x (by simp)
        have := ih fun y hy => h y (List.mem_cons_of_mem _ hy)
        simp only [List.flatMap_cons, List.length_append, List.length_cons, Nat.add_mul, Nat.one_mul] at this ⊢
        omega
    have h2 := h a (by simp)
    have h3 := h1 r fun y hy => h y (List.mem_cons_of_mem _ hy)
    simp only [seps, List.length_append, List.length_cons, Nat.add_mul, Nat.one_mul] at h3 ⊢
    omega
theorem seps_take {α : Type} (c : α) (l : List (List α)) (k : Nat) (hk : k < l.length) : seps c (l.take (k + 1)) = (if k = 0 then [] else seps c (l.take k) ++ [c]) ++ l[k] := by
  rw [List.take_add_one, List.getElem?_eq_getElem hk]
  show seps c (l.take k ++ [l[k]]) = _
  rw [seps_snoc]
  by_cases h : k = 0
  · subst h
    simp
  · have : l.take k ≠ [] := by
      intro e
      have := congrArg List.length e
      rw [List.length_take, List.length_nil] at this
      omega
    rw [if_neg this, if_neg h]
    simp
end LW

end

section
set_option linter.all false
set_option Elab.async false
set_option maxRecDepth 100000
namespace LW
open Dl DlM
theorem c_between {S : Store} {n : Nat} {xs : List Cs} {c : Cs} (h : S[n]? = some (.lst (xs.map D.str))) (hl : xs.length ≤ 1000) :
    (F__law_between [.ref n, .str c] S).sat fun d S' => ∃ m, d = .ref m ∧ S.length ≤ m ∧ S'[m]? = some (.lst ((seps c (xs.map fun x => [x])).map D.str)) ∧ Fr [] S S' := by
  have hn := lt_of_get h
  refine sat_defM rfl ?_
  have h0 : (S ++ [MO.lst []])[n]? = some (.lst (xs.map D.str)) := by rw [List.getElem?_append_left hn]; exact h
  refine sat_seq (fun δ S' => δ = [some (.ref n), some (.str c), some (.ref S.length), none] ∧ S' = S ++ [.lst []]) (by simp) ?_
  rintro δ S' ⟨rfl, rfl⟩
  simp [h0, inRange_nat (show xs.length ≤ 1000000000 by omega)]
  refine for_inv (fun k δ S' => (∃ a, δ = [some (.ref n), some (.str c), some (.ref S.length), a]) ∧ S'[S.length]? = some (.lst ((seps c ((xs.map fun x => [x]).take k)).map D.str)) ∧ Fr [] S S') ⟨⟨none, rfl⟩, by simp [seps], .app⟩ (by simp) ?_ ?_
  · rintro k hk δ S1 ⟨⟨a, rfl⟩, h1, f1⟩
    refine ⟨_, rfl, ?_⟩
    rw [rangeL_get]
    rw [rangeL_length] at hk
    have hlen : ∀ j, (seps c ((xs.map fun x => [x]).take j)).length ≤ 4000 := fun j => by
      have := seps_len c 1 ((xs.map fun x => [x]).take j) (by
        intro x hx
        obtain ⟨y, _, rfl⟩ := List.mem_map.mp (List.mem_of_mem_take hx)
        simp)
      rw [List.length_take, List.length_map] at this
      omega
    have hst := seps_take c (xs.map fun x => [x]) k (by simpa using hk)
    refine sat_seq (fun δ S2 => δ = [some (.ref n), some (.str c), some (.ref S.length), some (.int k)] ∧ S2[S.length]? = some (.lst ((if k = 0 then [] else seps c ((xs.map fun x => [x]).take k) ++ [c]).map D.str)) ∧ Fr [] S S2) ?_ ?_
    · by_cases hk0 : k = 0
      · subst hk0
        simp [seps] at h1 ⊢
        exact ⟨h1, f1⟩
      · have : 0 < k := by omega
        have hl2 := hlen k
        generalize seps c ((xs.map fun x => [x]).take k) = L at h1 hl2
        simp [this, h1, hk0, lt_LIM (show L.length ≤ 1000000 by omega)]
        refine ⟨?_, f1.set_new (Nat.le_refl _)⟩
        rw [List.getElem?_set_self (lt_of_get h1)]
    rintro δ S2 ⟨rfl, h2, f2⟩
    have hx : S2[n]? = some (.lst (xs.map D.str)) := f2.get h (by simp)
    have e1 : atI (xs.map D.str) (k : Int) = some (.str xs[k]) := atI_nat (by simp [hk])
    have hl3 := hlen (k + 1)
    rw [hst] at hl3 ⊢
    generalize (if k = 0 then [] else seps c ((xs.map fun x => [x]).take k) ++ [c]) = L at h2 hl3
    simp at hl3
    simp [h2, lstAt_of hx, e1, lt_LIM (show L.length ≤ 1000000 by omega)]
    refine ⟨?_, f2.set_new (Nat.le_refl _)⟩
    rw [List.getElem?_set_self (lt_of_get h2)]
  · rintro δ S1 ⟨⟨a, rfl⟩, h1, f1⟩
    rw [rangeL_length] at h1
    simp
    refine ⟨?_, f1⟩
    rw [h1, List.take_of_length_le (by simp)]
end LW

end

section
set_option linter.all false
set_option Elab.async false
set_option maxRecDepth 100000
namespace LW
open Dl DlM
theorem add_lists {S : Store} {n m : Nat} {xs ys : List D} (h1 : S[n]? = some (.lst xs)) (h2 : S[m]? = some (.lst ys)) (hl : xs.length + ys.length ≤ 1000000) : addP [.ref n, .ref m] S = .ok (.ref S.length) (S ++ [.lst (xs ++ ys)]) := by
  simp [h1, h2, le_LIM hl]
theorem app_get {S T : Store} {n : Nat} {v : MO} (h : S[n]? = some v) : (S ++ T)[n]? = some v := by rw [List.getElem?_append_left (lt_of_get h)]; exact h
theorem asm_snoc : ∀ (l : List Gap) (g : Nat) (t : Token) (z : Nat), asm (l ++ [(g, t)]) z = asm l 0 ++ (List.replicate g 32 ++ (t.txt ++ List.replicate z 32))
  | [], g, t, z => by simp [asm]
  | (g', t') :: r, g, t, z => by
    have := asm_snoc r g t z
    simp only [List.cons_append, asm, this, List.append_assoc]
theorem txt_sg {t : Token} (h : Good t) {c : Nat} (hc : c ∈ signs) : t.txt = [c] ↔ t = .sg c := by
  rw [mem_signs] at hc
  cases h with
  | sg c' h => simp [Token.txt]
  | quo w h => simp [Token.txt]
  | wrd w h hl =>
    simp [Token.txt]
    rintro rfl
    have := h.all c (by simp)
    unfold letter at this
    omega
  | num i h =>
    simp [Token.txt]
    intro e
    have : c = 45 ∨ (48 ≤ c ∧ c ≤ 57) := by
      unfold intCs at e
      split at e
      · left; exact (List.cons.inj e).1.symm
      · right; exact natCs_digit _ c (by rw [e]; simp)
    omega
theorem txt_len {t : Token} (h : Good t) : t.txt.length ≤ 62 := by
  cases h with
  | sg c' h => simp [Token.txt]
  | quo w h => simp [Token.txt]; omega
  | wrd w h hl => simp [Token.txt]; omega
  | num i h => exact Nat.le_trans (num_len h) (by omega)
theorem asm_len {b z : Nat} : ∀ {l : List Gap}, (∀ p ∈ l, p.1 ≤ b ∧ Good p.2) → (asm l z).length ≤ l.length * (b + 62) + z
  | [], _ => by simp [asm]
  | (g, t) :: r, h => by
    obtain ⟨h1, h2⟩ := h (g, t) (by simp)
    have h3 := txt_len h2
    have h4 := asm_len (z := z) fun p hp => h p (List.mem_cons_of_mem _ hp)
    simp only [asm, List.length_append, List.length_replicate, List.length_cons, Nat.add_mul, Nat.one_mul] at h1 h3 ⊢
    omega
end LW

end

section
set_option linter.all false
set_option Elab.async false
set_option maxRecDepth 100000
namespace LW
open Dl DlM
/-- the texts of a row's tokens -/
def rowTx (name : Cs) (xs ys : List Cs) : List Cs := name :: [40] :: (seps [44] (xs.map fun x => [x]) ++ [124] :: (seps [44] (ys.map fun x => [x]) ++ [[41]]))
theorem seps1_len (c : Cs) (xs : List Cs) : (seps c (xs.map fun x => [x])).length ≤ xs.length * 2 := by
  have := seps_len c 1 (xs.map fun x => [x]) (by
    intro x hx
    obtain ⟨y, _, rfl⟩ := List.mem_map.mp hx
    simp)
  rwa [List.length_map] at this
theorem c_cells_texts {S : Store} {name : Cs} {n key : Nat} {xs : List Cs} (h : S[n]? = some (.lst (xs.map D.str))) (hl : xs.length ≤ 100) (hk : key ≤ xs.length) :
    (F__law_cells_texts [.str name, .ref n, .int key] S).sat fun d S' => ∃ m, d = .ref m ∧ S.length ≤ m ∧ S'[m]? = some (.lst ((rowTx name (xs.take key) (xs.drop key)).map D.str)) ∧ Fr [] S S' := by
  refine sat_defM rfl ?_
  have hneg : ¬ ((key : Int) < 0) := by omega
  have c1 : ∀ T : Store, lstAt (S ++ T) n = some (xs.map D.str) := fun T => lstAt_of (app_get h)
  have c2 : cut (xs.map D.str) none (some (key : Int)) = (xs.take key).map D.str := by rw [cut_to, List.map_take]
  have c3 : cut (xs.map D.str) (some (key : Int)) none = (xs.drop key).map D.str := by rw [cut_from, List.map_drop]
  have b1 := seps1_len [44] (xs.take key)
  have b2 := seps1_len [44] (xs.drop key)
  rw [List.length_take] at b1
  rw [List.length_drop] at b2
  generalize hA : seps [44] ((xs.take key).map fun x => [x]) = A at b1
  generalize hB : seps [44] ((xs.drop key).map fun x => [x]) = B at b2
  refine sat_seq (fun δ S' => δ = [some (.str name), some (.ref n), some (.int key), none] ∧ S = S') (by simp [hneg]) ?_
  rintro δ _ ⟨rfl, rfl⟩
  refine sat_seq (fun δ S' => ∃ q, δ = [some (.str name), some (.ref n), some (.int key), some (.ref q)] ∧ S.length ≤ q ∧ S'[q]? = some (.lst ((name :: [40] :: (A ++ [[124]])).map D.str)) ∧ Fr [] S S') ?_ ?_
  · simp [c1, c2]
    refine (c_between (xs := xs.take key) (by rw [List.getElem?_append_right (by omega)]; simp) (by simp; omega)).mono ?_
    rintro d S1 ⟨m1, rfl, l1, e1, f1⟩
    rw [hA] at e1
    have e0 : S1[S.length]? = some (.lst [.str name, .str [40]]) := f1.get (by simp) (by simp)
    simp [add_lists e0 e1 (by simp; omega)]
    have e2 : (S1 ++ [MO.lst (D.str name :: D.str [40] :: List.map D.str A), MO.lst [D.str [124]]])[S1.length]? = some (.lst (D.str name :: D.str [40] :: List.map D.str A)) := by simp
    have e3 : (S1 ++ [MO.lst (D.str name :: D.str [40] :: List.map D.str A), MO.lst [D.str [124]]])[S1.length + 1]? = some (.lst [D.str [124]]) := by rw [List.getElem?_append_right (by omega)]; simp
    have e4 := add_lists e2 e3 (by simp; omega)
    simp at e4
    simp [e4]
    have f0 : Fr [] S S1 := Fr.app.trans f1
    exact ⟨by have := f0.le; omega, f0.push⟩
  rintro δ S1 ⟨q, rfl, hq, e1, f1⟩
  have h1 : S1[n]? = some (.lst (xs.map D.str)) := f1.get h (by simp)
  simp [lstAt_of h1, c3]
  refine (c_between (xs := xs.drop key) (n := S1.length) (by simp) (by simp; omega)).mono ?_
  rintro d S2 ⟨m2, rfl, l2, e2, f2⟩
  rw [hB] at e2
  have e1' : S2[q]? = some (.lst ((name :: [40] :: (A ++ [[124]])).map D.str)) := f2.get (app_get e1) (by simp)
  simp [add_lists e1' e2 (by simp; omega)]
  have e5 : (S2 ++ [MO.lst (D.str name :: D.str [40] :: (List.map D.str A ++ D.str [124] :: List.map D.str B)), MO.lst [D.str [41]]])[S2.length]? = some (.lst (D.str name :: D.str [40] :: (List.map D.str A ++ D.str [124] :: List.map D.str B))) := by simp
  have e6 : (S2 ++ [MO.lst (D.str name :: D.str [40] :: (List.map D.str A ++ D.str [124] :: List.map D.str B)), MO.lst [D.str [41]]])[S2.length + 1]? = some (.lst [D.str [41]]) := by rw [List.getElem?_append_right (by omega)]; simp
  have e7 := add_lists e5 e6 (by simp; omega)
  simp at e7
  simp [e7]
  have f0 : Fr [] S S2 := f1.trans (Fr.app.trans f2)
  refine ⟨by have := f0.le; omega, ?_, f0.push⟩
  unfold rowTx
  rw [hA, hB]
  simp
end LW

end

section
set_option linter.all false
set_option Elab.async false
set_option maxRecDepth 100000
namespace LW
open Dl DlM
def Free : Token → Token → Prop
  | .wrd _, .wrd _ => False
  | .num _, .num j => j < 0
  | _, _ => True
def GapsOk : List Gap → Prop
  | (_, t) :: (g', t') :: r => (0 < g' ∨ Free t t') ∧ GapsOk ((g', t') :: r)
  | _ => True
theorem head_cases {t : Token} (h : Good t) {c : Nat} (hc : t.txt.head? = some c) : match t with
    | .wrd _ => letter c
    | .num i => if i < 0 then c = 45 else 48 ≤ c ∧ c ≤ 57
    | .quo _ => c = 34
    | .sg d => c = d := by
  cases h with
  | sg c' h => cases hc; rfl
  | quo w h => cases hc; rfl
  | wrd w h hl =>
    obtain ⟨d, u, e⟩ := List.exists_cons_of_ne_nil h.ne
    subst e
    cases hc
    exact h.all c (by simp)
  | num i h =>
    have hc' : (intCs i).head? = some c := hc
    unfold intCs at hc'
    by_cases hi : i < 0
    · rw [if_pos hi] at hc'
      cases hc'
      show (if i < 0 then _ else _)
      rw [if_pos hi]
    · rw [if_neg hi] at hc'
      obtain ⟨d, u, e⟩ := List.exists_cons_of_ne_nil (natCs_ne i.natAbs)
      rw [e] at hc'
      cases hc'
      show (if i < 0 then _ else _)
      rw [if_neg hi]
      exact natCs_digit i.natAbs c (by rw [e]; simp)
theorem head_rep {g : Nat} {y : Cs} {c : Nat} (h : (List.replicate g 32 ++ y).head? = some c) : (0 < g ∧ c = 32) ∨ (g = 0 ∧ y.head? = some c) := by
  cases g with
  | zero => right; exact ⟨rfl, by simpa using h⟩
  | succ g => left; simp [List.replicate_succ] at h; exact ⟨by omega, h.symm⟩
theorem head_app {a y : Cs} (h : a ≠ []) : (a ++ y).head? = a.head? := by
  cases a with
  | nil => exact absurd rfl h
  | cons x r => rfl
theorem delim_end {t : Token} {z : Nat} : Delim t (List.replicate z 32) := by
  have h : ∀ c, (List.replicate z 32).head? = some c → c = 32 := fun c hc => by
    have : (List.replicate z 32 ++ []).head? = some c := by simpa using hc
    rcases head_rep this with ⟨_, q⟩ | ⟨_, q⟩
    · exact q
    · simp at q
  cases t with
  | wrd w => exact fun c hc => by rw [h c hc]; decide
  | num i => exact fun c hc => by rw [h c hc]; decide
  | quo w => trivial
  | sg c => trivial
theorem delim_next {t t' : Token} {g : Nat} {y : Cs} (hg : Good t') (h : 0 < g ∨ Free t t') : Delim t (List.replicate g 32 ++ (t'.txt ++ y)) := by
  have key : ∀ c, (List.replicate g 32 ++ (t'.txt ++ y)).head? = some c → (c = 32) ∨ (Free t t' ∧ t'.txt.head? = some c) := fun c hc => by
    rcases head_rep hc with ⟨_, q⟩ | ⟨q1, q2⟩
    · exact .inl q
    · rcases h with h | h
      · omega
      · rw [head_app (txt_ne hg)] at q2
        exact .inr ⟨h, q2⟩
  cases t with
  | quo w => trivial
  | sg c => trivial
  | wrd w =>
    intro c hc
    rcases key c hc with rfl | ⟨h1, h2⟩
    · decide
    · have h3 := head_cases hg h2
      rw [mem_letters]
      unfold letter
      cases hg with
      | wrd w' _ _ => exact absurd h1 (by simp [Free])
      | num i _ => simp only at h3; split at h3 <;> omega
      | quo w' _ _ => simp only at h3; omega
      | sg d hd => simp only at h3; rw [mem_signs] at hd; omega
  | num i =>
    intro c hc
    rcases key c hc with rfl | ⟨h1, h2⟩
    · decide
    · have h3 := head_cases hg h2
      rw [mem_digits]
      cases hg with
      | wrd w' _ _ => simp only at h3; unfold letter at h3; omega
      | num j _ =>
        have : j < 0 := h1
        simp only [if_pos this] at h3
        omega
      | quo w' _ _ => simp only at h3; omega
      | sg d hd => simp only at h3; rw [mem_signs] at hd; omega
theorem told_of : ∀ {l : List Gap} {z : Nat}, (∀ p ∈ l, Good p.2) → GapsOk l → Told l z
  | [], z, _, _ => trivial
  | [(g, t)], z, h, _ => ⟨h (g, t) (by simp), delim_end, trivial⟩
  | (g, t) :: (g', t') :: r, z, h, hg => ⟨h (g, t) (by simp), delim_next (h (g', t') (by simp)) hg.1, told_of (fun p hp => h p (List.mem_cons_of_mem _ hp)) hg.2⟩
end LW

end

section
set_option linter.all false
set_option Elab.async false
set_option maxRecDepth 100000
namespace LW
open Dl DlM
theorem c_law_run {S : Store} {x a y cs : Cs} {at_ : Int} (hx : x = a ++ y) (ha : at_ = a.length) (hl : x.length ≤ 1000000) : F__law_run [.str x, .int at_, .str cs] S = .ok (.int (at_ + run cs y)) S := by
  subst ha
  refine eq_of_sat (sat_defM rfl ?_)
  have hxl : x.length = a.length + y.length := by rw [hx, List.length_append]
  have hr := run_le cs y
  have hrl : (rangeL (a.length : Int) x.length).length = y.length := by rw [rangeL_len2]; omega
  simp [le_LIM hl, inRange_nat (show a.length ≤ 1000000000 by omega), inRange_nat (show x.length ≤ 1000000000 by omega)]
  refine for_inv (fun k δ S' => (∃ b, δ = [some (.str x), some (.int a.length), some (.str cs), b]) ∧ S = S' ∧ k ≤ run cs y) ⟨⟨none, rfl⟩, rfl, by omega⟩ (by simp) ?_ ?_
  · rintro k hk δ S' ⟨⟨b, rfl⟩, rfl, h1⟩
    refine ⟨_, rfl, ?_⟩
    rw [rangeL_get2]
    rw [hrl] at hk
    have e1 : atI x ((a.length : Int) + k) = some y[k] := by
      have : ((a.length : Int) + k) = ((a.length + k : Nat) : Int) := by omega
      rw [this]
      refine atI_nat ?_
      rw [hx, List.getElem?_append_right (by omega)]
      simp [hk]
    by_cases h2 : y[k] ∈ cs
    · have h3 : k ≠ run cs y := fun e => run_stop cs y y[k] (by rw [← e]; exact List.getElem?_eq_getElem hk) h2
      simp [le_LIM hl, e1, h2]
      omega
    · have h3 : ¬ k < run cs y := fun h => by
        obtain ⟨d, e3, e4⟩ := run_lt cs y k h
        rw [List.getElem?_eq_getElem hk] at e3
        cases e3
        exact h2 e4
      simp [le_LIM hl, e1, h2]
      omega
  · rintro δ S' ⟨⟨b, rfl⟩, rfl, h1⟩
    rw [hrl] at h1
    simp [le_LIM hl]
    omega
/-- where the token at a ++ y ends, as the law's own reading has it: so much of y -/
def tokEnd (y : Cs) : Nat :=
  match y with
  | [] => 0
  | c :: r =>
    if c ∈ signs then 1
    else if c ∈ letters then run letters y
    else if c = 34 then (if 0 < run letters r ∧ r[run letters r]? = some 34 then run letters r + 2 else 0)
    else
      let p := if c = 45 then 1 else 0
      let n := run digits (y.drop p)
      if n = 0 ∨ ((y.drop p)[0]? = some 48 ∧ y.take (p + n) ≠ [48]) then 0 else p + n
theorem tokEnd_le (y : Cs) : tokEnd y ≤ y.length := by
  cases y with
  | nil => simp [tokEnd]
  | cons c r =>
    have h1 := run_le letters (c :: r)
    have key : ∀ p, p ≤ (c :: r).length → (if run digits ((c :: r).drop p) = 0 ∨ (((c :: r).drop p)[0]? = some 48 ∧ (c :: r).take (p + run digits ((c :: r).drop p)) ≠ [48]) then 0 else p + run digits ((c :: r).drop p)) ≤ (c :: r).length := by
      intro p hp
      have h2 := run_le digits ((c :: r).drop p)
      rw [List.length_drop] at h2
      split <;> omega
    unfold tokEnd
    simp only
    split
    · simp
    · split
      · exact h1
      · split
        · split
          · rename_i h
            have := (List.getElem?_eq_some_iff.mp h.2).1
            simp only [List.length_cons]
            omega
          · omega
        · refine key _ ?_
          split <;> simp
theorem cut_past {α : Type} {x : List α} {lo : Int} {hi : Option Int} (h : lo = x.length) : cut x (some lo) hi = [] := by
  subst h
  unfold cut
  have : sIx x.length 0 (some (x.length : Int)) = x.length := by
    unfold sIx
    simp only []
    rw [if_neg (by omega)]
    simp
  rw [this, List.drop_length]
  simp
theorem c_token_end {S : Store} {x a y : Cs} (hx : x = a ++ y) (hy : y ≠ []) (hl : x.length ≤ 1000000) : F__law_token_end [.str x, .int a.length] S = .ok (.int (a.length + tokEnd y)) S := by
  obtain ⟨c, r, rfl⟩ := List.exists_cons_of_ne_nil hy
  have hxl : x.length = a.length + (r.length + 1) := by rw [hx]; simp
  have a1 : atI x (a.length : Int) = some c := atI_is hx rfl
  refine eq_of_sat (sat_defM rfl ?_)
  have r1 : ∀ {S}, F__law_run [.str x, .int a.length, .str letters] S = .ok (.int (a.length + run letters (c :: r))) S := c_law_run hx rfl hl
  have r2 : ∀ {S}, F__law_run [.str x, .int (a.length + 1), .str letters] S = .ok (.int (a.length + 1 + run letters r)) S := c_law_run (a := a ++ [c]) (y := r) (by rw [hx]; simp) (by simp) hl
  have hd : (D.str [97, 98, 99, 100, 101, 102, 103, 104, 105, 106, 107, 108, 109, 110, 111, 112, 113, 114, 115, 116, 117, 118, 119, 120, 121, 122]) = .str letters := rfl
  have hs : (D.str [40, 41, 44, 124]) = .str signs := rfl
  refine sat_seq (fun δ S' => δ = [some (.str x), some (.int a.length), some (.str letters), none, none, none] ∧ S = S') (by simp [hd]) ?_
  rintro δ _ ⟨rfl, rfl⟩
  simp only [hs]
  unfold tokEnd
  simp only
  by_cases h1 : c ∈ signs
  · simp [le_LIM hl, a1, h1]
  rw [if_neg h1]
  refine sat_seq (fun δ S' => δ = [some (.str x), some (.int a.length), some (.str letters), none, none, none] ∧ S = S') (by simp [le_LIM hl, a1, h1]) ?_
  rintro δ _ ⟨rfl, rfl⟩
  by_cases h2 : c ∈ letters
  · simp [le_LIM hl, a1, h2, r1]
  rw [if_neg h2]
  refine sat_seq (fun δ S' => δ = [some (.str x), some (.int a.length), some (.str letters), none, none, none] ∧ S = S') (by simp [le_LIM hl, a1, h2]) ?_
  rintro δ _ ⟨rfl, rfl⟩
  by_cases h3 : c = 34
  · subst h3
    simp only [if_true]
    have hrl := run_le letters r
    by_cases h4 : run letters r = 0
    · simp [le_LIM hl, a1, r2, h4]
    · have h5 : (a.length : Int) + 1 < a.length + 1 + run letters r := by omega
      have h6 : 0 < run letters r := by omega
      simp [le_LIM hl, a1, r2, h4, h5, h6]
      have hcut : cut x (some ((a.length : Int) + 1 + run letters r)) (some (a.length + 1 + run letters r + 1)) = (r.drop (run letters r)).take 1 := by
        have e : x = (a ++ [34] ++ r.take (run letters r)) ++ ((r.drop (run letters r)).take 1 ++ (r.drop (run letters r)).drop 1) := by
          rw [List.take_append_drop]
          simp [hx]
        by_cases hq : run letters r < r.length
        · refine cut_is e ?_ ?_
          · simp; omega
          · simp; omega
        · have h7 : run letters r = r.length := by omega
          rw [h7, List.drop_length, cut_past (by omega)]
          simp
      rw [hcut]
      cases h7 : r[run letters r]? with
      | none =>
        rw [List.drop_eq_nil_of_le (List.getElem?_eq_none_iff.mp h7)]
        simp
      | some d =>
        have h8 := (List.getElem?_eq_some_iff.mp h7)
        rw [List.drop_eq_getElem_cons h8.1, h8.2]
        by_cases hd : d = 34
        · simp [hd]; omega
        · simp [hd]
  rw [if_neg h3]
  refine sat_seq (fun δ S' => δ = [some (.str x), some (.int a.length), some (.str letters), none, none, none] ∧ S = S') (by simp [le_LIM hl, a1, h3]) ?_
  rintro δ _ ⟨rfl, rfl⟩
  have hdg : (D.str [48, 49, 50, 51, 52, 53, 54, 55, 56, 57]) = .str digits := rfl
  simp only [hdg]
  obtain ⟨p, hp, hp2⟩ : ∃ p : Nat, (if c = 45 then 1 else 0) = p ∧ p ≤ 1 := by
    split
    · exact ⟨1, rfl, by omega⟩
    · exact ⟨0, rfl, by omega⟩
  rw [hp]
  have hpl : p ≤ (c :: r).length := by simp; omega
  refine sat_seq (fun δ S' => δ = [some (.str x), some (.int a.length), some (.str letters), none, some (.int (a.length + p)), none] ∧ S = S') ?_ ?_
  · by_cases h4 : c = 45
    · simp [h4] at hp
      simp [le_LIM hl, a1, h4, b2i, ← hp]
    · simp [h4] at hp
      simp [le_LIM hl, a1, h4, b2i, ← hp]
  rintro δ _ ⟨rfl, rfl⟩
  generalize hyd : (c :: r).drop p = y'
  have hx2 : x = (a ++ (c :: r).take p) ++ y' := by rw [← hyd, List.append_assoc, List.take_append_drop]; exact hx
  have hap : ((a ++ (c :: r).take p).length : Int) = a.length + p := by simp; omega
  have r3 : ∀ {S}, F__law_run [.str x, .int (a.length + p), .str digits] S = .ok (.int (a.length + p + run digits y')) S := c_law_run hx2 hap.symm hl
  have hrl := run_le digits y'
  have hc1 : cut x (some ((a.length : Int) + p)) (some (a.length + p + run digits y')) = y'.take (run digits y') := by
    refine cut_is (a := a ++ (c :: r).take p) (c := y'.drop (run digits y')) (by rw [List.take_append_drop]; exact hx2) hap.symm ?_
    rw [hap, List.length_take, Nat.min_eq_left hrl]
  have hc2 : cut x (some (a.length : Int)) (some (a.length + p + run digits y')) = (c :: r).take (p + run digits y') := by
    have hle : p + run digits y' ≤ (c :: r).length := by
      rw [← hyd, List.length_drop] at hrl
      rw [hyd] at hrl
      omega
    refine cut_is (a := a) (c := (c :: r).drop (p + run digits y')) (by rw [List.take_append_drop]; exact hx) rfl ?_
    rw [List.length_take, Nat.min_eq_left hle]
    omega
  generalize hn : run digits y' = n at r3 hrl hc1 hc2
  by_cases h5 : n = 0
  · rw [h5] at r3 hc1 hc2 ⊢
    simp at r3 hc1 hc2
    simp [le_LIM hl, r3, hc1, hc2]
  · cases y' with
    | nil => simp at hrl; omega
    | cons d t =>
      have e0 : (d :: t).take n = d :: t.take (n - 1) := by
        cases n with
        | zero => omega
        | succ n => rfl
      rw [e0] at hc1
      have e1 : (t.take (n - 1)).length + 1 ≤ 1000000 := by
        simp at hrl ⊢
        have : (d :: t).length ≤ x.length := by rw [hx2]; simp; omega
        simp at this
        omega
      simp [le_LIM hl, r3, hc1, hc2, h5, le_LIM e1]
      rw [if_pos (le_LIM (by rw [List.length_take] at e1; exact e1))]
      by_cases h6 : d = 48
      · by_cases h7 : (c :: r).take (p + n) = [48]
        · simp [h6, h7]; omega
        · simp [h6, h7]
      · simp [h6]; omega
def pairD (p : Int × Cs) : D := .tup [.int p.1, .str p.2]
/-- the first of the pairs, where the line begins with no blank -/
def FirstOk (x : Cs) (acc : List (Int × Cs)) : Prop := x ≠ [] → run [32] x = 0 → ∃ p r, acc = p :: r ∧ p.2 = if tokEnd x = 0 then [32] else x.take (tokEnd x)
theorem FirstOk.snoc {x : Cs} {acc : List (Int × Cs)} (h : FirstOk x acc) (p : Int × Cs) : FirstOk x (acc ++ [p]) := fun h1 h2 => by
  obtain ⟨q, r, rfl, e⟩ := h h1 h2
  exact ⟨q, r ++ [p], rfl, e⟩
def Low (x : Cs) : Prop := ∀ c ∈ x, c < 128
def LTRes (S : Store) (x : Cs) (d : D) (S' : Store) : Prop := ∃ (n : Nat) (ps : List (Int × Cs)), d = .ref n ∧ S.length ≤ n ∧ S'[n]? = some (.lst (ps.map pairD)) ∧ ps.length ≤ 1001 ∧ (∀ p ∈ ps, Low p.2) ∧ FirstOk x ps ∧ Fr [] S S'
def LTInv (S : Store) (x : Cs) (k : Nat) (δ : Env) (S' : Store) : Prop := ∃ (a y : Cs) (acc : List (Int × Cs)) (a3 a4 : Option D), δ = [some (.str x), some (.ref S.length), some (.int a.length), a3, a4] ∧ x = a ++ y ∧ S'[S.length]? = some (.lst (acc.map pairD)) ∧ acc.length = k ∧ (∀ p ∈ acc, Low p.2) ∧ (k = 0 → a = x.take (run [32] x)) ∧ (0 < k → FirstOk x acc) ∧ Fr [] S S'
def LTOut (S : Store) (x : Cs) (δ : Env) (S' : Store) : Prop := ∃ (acc : List (Int × Cs)) (a2 a3 a4 : Option D), δ = [some (.str x), some (.ref S.length), a2, a3, a4] ∧ S'[S.length]? = some (.lst (acc.map pairD)) ∧ acc.length ≤ 1000 ∧ (∀ p ∈ acc, Low p.2) ∧ FirstOk x acc ∧ Fr [] S S'
theorem lt_fin {S : Store} {x : Cs} (T : Store) (acc : List (Int × Cs)) (p : Int × Cs) (hal : acc.length ≤ 1000) (ht : T[S.length]? = some (.lst (acc.map pairD))) (hf : Fr [] S T) (ha : ∀ p ∈ acc, Low p.2) (hp : Low p.2) (hfo : FirstOk x (acc ++ [p])) :
    (addP [.ref S.length, .ref T.length] (T ++ [.lst [pairD p]])).sat fun d S' => LTRes S x d S' := by
  have h1 : (T ++ [.lst [pairD p]])[S.length]? = some (.lst (acc.map pairD)) := app_get ht
  have h2 : (T ++ [.lst [pairD p]])[T.length]? = some (.lst [pairD p]) := by simp
  rw [add_lists h1 h2 (by simp; omega), Res.sat_ok]
  refine ⟨_, acc ++ [p], rfl, by have := hf.le; simp; omega, by rw [List.getElem?_append_right (by omega)]; simp, by simp; omega, ?_, hfo, hf.push.push⟩
  intro q hq
  rcases List.mem_append.mp hq with hq | hq
  · exact ha q hq
  · rw [List.mem_singleton.mp hq]; exact hp
theorem c_law_tokens {S : Store} {x : Cs} (hl : x.length ≤ 1000) (hlow : Low x) : (F__law_tokens [.str x] S).sat fun d S' => LTRes S x d S' := by
  refine sat_defM rfl ?_
  refine sat_seq (fun δ S' => δ = [some (.str x), some (.ref S.length), none, none, none] ∧ S' = S ++ [.lst []]) (by simp) ?_
  rintro δ _ ⟨rfl, rfl⟩
  have r0 : ∀ {S}, F__law_run [.str x, .int 0, .str [32]] S = .ok (.int (run [32] x)) S := by
    intro S
    have := c_law_run (S := S) (x := x) (a := []) (y := x) (cs := [32]) (at_ := 0) rfl rfl (by omega)
    simpa using this
  refine sat_seq (fun δ S' => δ = [some (.str x), some (.ref S.length), some (.int (run [32] x)), none, none] ∧ S' = S ++ [.lst []]) (by simp [r0]) ?_
  rintro δ _ ⟨rfl, rfl⟩
  refine sat_seq (LTOut S x) ?_ ?_
  · simp [le_LIM (show x.length ≤ 1000000 by omega), inRange_nat (show x.length ≤ 1000000000 by omega)]
    refine for_inv (LTInv S x) ?_ (by simp) ?_ ?_
    · have := run_le [32] x
      refine ⟨x.take (run [32] x), x.drop (run [32] x), [], none, none, ?_, by rw [List.take_append_drop], by simp, rfl, by simp, fun _ => rfl, by simp, .app⟩
      rw [List.length_take, Nat.min_eq_left this]
    · rintro k hk δ S1 ⟨a, y, acc, a3, a4, rfl, hx, h1, h2, h3, h4, h5, h6⟩
      refine ⟨_, rfl, ?_⟩
      rw [rangeL_get]
      rw [rangeL_length] at hk
      have hxl : x.length = a.length + y.length := by rw [hx, List.length_append]
      by_cases hy : y = []
      · have e1 : (a.length : Int) = x.length := by rw [hxl, hy]; simp
        simp [le_LIM (show x.length ≤ 1000000 by omega), e1]
        refine ⟨acc, _, _, _, rfl, h1, by omega, h3, ?_, h6⟩
        by_cases hk0 : k = 0
        · intro q1 q2
          have := h4 hk0
          rw [q2] at this
          rw [this, hy] at hx
          exact absurd hx q1
        · exact h5 (by omega)
      · have hy0 : y.length ≠ 0 := fun e => hy (List.length_eq_zero_iff.mp e)
        have e1 : ¬ ((a.length : Int) = x.length) := by omega
        have te := c_token_end (S := S1) hx hy (by omega)
        have tl := tokEnd_le y
        have hfirst : ∀ p : Int × Cs, p.2 = (if tokEnd y = 0 then [32] else y.take (tokEnd y)) → FirstOk x (acc ++ [p]) := by
          intro p hp
          by_cases hk0 : k = 0
          · intro q1 q2
            have := h4 hk0
            rw [q2] at this
            have hxy : x = y := by rw [hx, this]; simp
            have hacc : acc = [] := List.length_eq_zero_iff.mp (by omega)
            exact ⟨p, [], by rw [hacc]; rfl, by rw [hp, hxy]⟩
          · exact (h5 (by omega)).snoc p
        by_cases ht0 : tokEnd y = 0
        · rw [ht0] at te
          simp only [Int.natCast_zero, Int.add_zero, Int.ofNat_zero] at te
          simp [le_LIM (show x.length ≤ 1000000 by omega), e1, te, -addP_ref]
          exact lt_fin S1 acc (a.length, [32]) (by omega) h1 h6 h3 (by intro c hc; rw [List.mem_singleton.mp hc]; omega) (hfirst _ (by rw [if_pos ht0]))
        · have e2 : ¬ ((a.length : Int) + tokEnd y = a.length) := by omega
          have hcut : cut x (some (a.length : Int)) (some (a.length + tokEnd y)) = y.take (tokEnd y) := by
            refine cut_is (a := a) (c := y.drop (tokEnd y)) (by rw [List.take_append_drop]; exact hx) rfl ?_
            rw [List.length_take, Nat.min_eq_left tl]
          have er : ∀ {S}, F__law_run [.str x, .int (a.length + tokEnd y), .str [32]] S = .ok (.int (a.length + tokEnd y + run [32] (y.drop (tokEnd y)))) S := by
            intro S
            refine c_law_run (a := a ++ y.take (tokEnd y)) (y := y.drop (tokEnd y)) (by rw [List.append_assoc, List.take_append_drop]; exact hx) ?_ (by omega)
            rw [List.length_append, List.length_take, Nat.min_eq_left tl]
            omega
          simp [le_LIM (show x.length ≤ 1000000 by omega), e1, e2, te, h1, hcut, er, lt_LIM (show acc.length ≤ 1000000 by omega)]
          have hr := run_le [32] (y.drop (tokEnd y))
          refine ⟨a ++ (y.take (tokEnd y) ++ (y.drop (tokEnd y)).take (run [32] (y.drop (tokEnd y)))), (y.drop (tokEnd y)).drop (run [32] (y.drop (tokEnd y))), acc ++ [(↑a.length, y.take (tokEnd y))], some (.int k), some (.int (a.length + tokEnd y)), ?_, ?_, ?_, by simp [h2], ?_, by omega, fun _ => hfirst _ (by rw [if_neg ht0]), h6.set_new (Nat.le_refl _)⟩
          · have : (a ++ (y.take (tokEnd y) ++ (y.drop (tokEnd y)).take (run [32] (y.drop (tokEnd y))))).length = a.length + tokEnd y + run [32] (y.drop (tokEnd y)) := by
              rw [List.length_append, List.length_append, List.length_take, List.length_take, Nat.min_eq_left tl, Nat.min_eq_left hr]
              omega
            rw [this]
            simp
          · rw [List.append_assoc, List.append_assoc, List.take_append_drop, List.take_append_drop]; exact hx
          · rw [List.getElem?_set_self (lt_of_get h1)]
            simp [pairD]
          · intro p hp
            rcases List.mem_append.mp hp with hp | hp
            · exact h3 p hp
            · rw [List.mem_singleton.mp hp]
              intro c hc
              exact hlow c (by rw [hx]; exact List.mem_append_right _ (List.mem_of_mem_take hc))
    · rintro δ S1 ⟨a, y, acc, a3, a4, rfl, hx, h1, h2, h3, h4, h5, h6⟩
      rw [rangeL_length] at h2
      refine ⟨acc, _, _, _, rfl, h1, by omega, h3, ?_, h6⟩
      by_cases hk0 : x.length = 0
      · exact fun q1 _ => absurd (List.length_eq_zero_iff.mp hk0) q1
      · exact h5 (by rw [rangeL_length]; omega)
  · rintro δ S1 ⟨acc, a2, a3, a4, rfl, h1, h2, h3, h4, h5⟩
    simp [le_LIM (show x.length ≤ 1000000 by omega), -addP_ref]
    exact lt_fin S1 acc (x.length, []) h2 h1 h5 h3 (by intro c hc; cases hc) (h4.snoc _)
end LW

end

section
set_option linter.all false
set_option Elab.async false
set_option maxRecDepth 100000
namespace LW
open Dl DlM
theorem flats_low {n : Nat} : ∀ {xs : List Cs}, (∀ x ∈ xs, Low x) → D.flats n (xs.map D.str) = true
  | [], _ => by simp [D.flats]
  | x :: r, h => by
    have ih := flats_low (n := n) fun y hy => h y (List.mem_cons_of_mem _ hy)
    have hx : (x.all fun c => decide (c < 0x110000)) = true := by
      rw [List.all_eq_true]
      intro c hc
      have := h x (by simp) c hc
      simp
      omega
    simp only [List.map_cons, D.flats, D.flat, hx, ih, Bool.and_self]
theorem eqvs_strs : ∀ (xs ys : List Cs), D.eqvs (xs.map D.str) (ys.map D.str) = decide (xs = ys)
  | [], [] => by simp [D.eqvs]
  | [], y :: s => by simp [D.eqvs]
  | x :: r, [] => by simp [D.eqvs]
  | x :: r, y :: s => by
    have ih := eqvs_strs r s
    simp only [List.map_cons, D.eqvs, D.eqv, ih]
    rw [Bool.eq_iff_iff]
    simp
theorem eqP_strs {S : Store} {n m : Nat} {xs ys : List Cs} (h1 : S[n]? = some (.lst (xs.map D.str))) (h2 : S[m]? = some (.lst (ys.map D.str))) (l1 : ∀ x ∈ xs, Low x) (l2 : ∀ x ∈ ys, Low x) : eqP [.ref n, .ref m] S = .ok (.bl (decide (xs = ys))) S := by
  unfold eqP
  simp only [D.scal, lstAt_of h1, lstAt_of h2, flats_low l1, flats_low l2, Bool.and_self, if_true, eqvs_strs]
  rfl
theorem low_txt {t : Token} (h : Good t) : Low t.txt := by
  intro c hc
  cases h with
  | sg c' h => simp [Token.txt] at hc; rw [mem_signs] at h; omega
  | quo w h hl =>
    simp [Token.txt] at hc
    rcases hc with rfl | hc | rfl
    · omega
    · have := h.all c hc; unfold letter at this; omega
    · omega
  | wrd w h hl => have := h.all c hc; unfold letter at this; omega
  | num i h =>
    have hc' : c ∈ intCs i := hc
    unfold intCs at hc'
    split at hc'
    · rcases List.mem_cons.mp hc' with rfl | hc'
      · omega
      · have := natCs_digit _ c hc'; omega
    · have := natCs_digit _ c hc'; omega
/-- what the law takes for apart is so -/
theorem apart_free {a b : Token} (ha : Good a) (hb : Good b) {ps : List (Int × Cs)} (hF : FirstOk (a.txt ++ b.txt) ps) (he : ps.map (·.2) = [a.txt, b.txt, []]) : Free a b := by
  have hna := txt_ne ha
  have hnb := txt_ne hb
  obtain ⟨p, r, rfl, hp⟩ := hF (by simp [hna]) (by
    obtain ⟨c, u, e⟩ := List.exists_cons_of_ne_nil hna
    have := first_ne ha c (by rw [e]; rfl)
    rw [e]
    show (if c ∈ [32] then _ else _) = 0
    rw [if_neg (by simpa using this)])
  have hp2 : p.2 = a.txt := by simpa using (List.cons.inj he).1
  rw [hp2] at hp
  have hlen : a.txt ≠ a.txt ++ b.txt := fun e => by
    have := congrArg List.length e
    simp at this
    exact hnb this
  cases ha with
  | sg c h => cases b <;> trivial
  | quo w h hl => cases b <;> trivial
  | wrd w h hl =>
    cases hb with
    | sg c h => trivial
    | quo w h hl => trivial
    | num i h => trivial
    | wrd w2 h2 hl2 =>
      exfalso
      obtain ⟨c, u, e⟩ := List.exists_cons_of_ne_nil h.ne
      subst e
      have hc := h.all c (by simp)
      have h1 : ¬ c ∈ signs := by rw [mem_signs]; unfold letter at hc; omega
      have h2' : c ∈ letters := mem_letters.mpr hc
      have e1 : tokEnd ((Token.wrd (c :: u)).txt ++ (Token.wrd w2).txt) = ((Token.wrd (c :: u)).txt ++ (Token.wrd w2).txt).length := by
        show tokEnd (c :: (u ++ w2)) = (c :: (u ++ w2)).length
        unfold tokEnd
        simp only
        rw [if_neg h1, if_pos h2']
        have := run_app (cs := letters) (w := c :: (u ++ w2)) (y := []) (by
          intro d hd
          refine mem_letters.mpr ?_
          rcases List.mem_cons.mp hd with rfl | hd
          · exact hc
          · rcases List.mem_append.mp hd with hd | hd
            · exact h.all d (List.mem_cons_of_mem _ hd)
            · exact h2.all d hd) (by simp)
        simpa using this
      rw [e1, if_neg (by simp [Token.txt]), List.take_length] at hp
      exact hlen hp
  | num i h =>
    cases hb with
    | sg c h => trivial
    | quo w h hl => trivial
    | wrd w h hl => trivial
    | num j h2 =>
      by_cases hj : j < 0
      · exact hj
      exfalso
      have ej : (Token.num j).txt = natCs j.natAbs := by
        show intCs j = _
        unfold intCs
        rw [if_neg hj]
      obtain ⟨q, n, hq, hi⟩ : ∃ (q : Cs) (n : Nat), intCs i = q ++ natCs n ∧ (q = [] ∨ q = [45]) := by
        by_cases hi : i < 0
        · exact ⟨[45], i.natAbs, by unfold intCs; rw [if_pos hi]; rfl, .inr rfl⟩
        · exact ⟨[], i.natAbs, by unfold intCs; rw [if_neg hi]; rfl, .inl rfl⟩
      have ei : (Token.num i).txt = q ++ natCs n := hq
      have hrun : run digits (natCs n ++ natCs j.natAbs) = (natCs n ++ natCs j.natAbs).length := by
        have := run_app (cs := digits) (w := natCs n ++ natCs j.natAbs) (y := []) (by
          intro d hd
          refine mem_digits.mpr ?_
          rcases List.mem_append.mp hd with hd | hd
          · exact natCs_digit _ d hd
          · exact natCs_digit _ d hd) (by simp)
        simpa using this
      obtain ⟨d, u, ed⟩ := List.exists_cons_of_ne_nil (natCs_ne n)
      have hd := natCs_digit n d (by rw [ed]; simp)
      have e1 : tokEnd ((Token.num i).txt ++ (Token.num j).txt) = 0 ∨ tokEnd ((Token.num i).txt ++ (Token.num j).txt) = ((Token.num i).txt ++ (Token.num j).txt).length := by
        rw [ei, ej]
        rcases hi with rfl | rfl
        · have hx : ([] : Cs) ++ natCs n ++ natCs j.natAbs = d :: (u ++ natCs j.natAbs) := by rw [ed]; rfl
          have hy : natCs n ++ natCs j.natAbs = d :: (u ++ natCs j.natAbs) := by rw [ed]; rfl
          rw [hx]
          unfold tokEnd
          simp only
          have q1 : ¬ d ∈ signs := by rw [mem_signs]; omega
          have q2 : ¬ d ∈ letters := by rw [mem_letters]; unfold letter; omega
          have q3 : ¬ d = 34 := by omega
          have q4 : ¬ d = 45 := by omega
          simp only [q1, q2, q3, q4, if_false]
          rw [hy] at hrun
          simp only [List.drop_zero, Nat.zero_add, hrun]
          split
          · left; rfl
          · right; rfl
        · have hx : [45] ++ natCs n ++ natCs j.natAbs = 45 :: (natCs n ++ natCs j.natAbs) := rfl
          rw [hx]
          unfold tokEnd
          simp only
          rw [if_neg (by decide), if_neg (by decide), if_neg (by omega), if_pos trivial]
          simp only [List.drop_succ_cons, List.drop_zero, hrun]
          split
          · left; rfl
          · right; simp; omega
      rcases e1 with e1 | e1
      · rw [if_pos e1] at hp
        obtain ⟨c, v, e⟩ := List.exists_cons_of_ne_nil hna
        have := first_ne (Good.num i h) c (by rw [e]; rfl)
        rw [hp] at e
        exact this (List.cons.inj e).1.symm
      · rw [e1] at hp
        by_cases z : ((Token.num i).txt ++ (Token.num j).txt).length = 0
        · exact hna (List.append_eq_nil_iff.mp (List.length_eq_zero_iff.mp z)).1
        · rw [if_neg z, List.take_length] at hp
          exact hlen hp
theorem GapsOk.snoc : ∀ {l : List Gap} {t t' : Token} {g g' : Nat}, GapsOk (l ++ [(g, t)]) → (0 < g' ∨ Free t t') → GapsOk (l ++ [(g, t)] ++ [(g', t')])
  | [], t, t', g, g', _, h => ⟨h, trivial⟩
  | [(g1, t1)], t, t', g, g', h1, h => ⟨h1.1, h, trivial⟩
  | (g1, t1) :: (g2, t2) :: r, t, t', g, g', h1, h => ⟨h1.1, GapsOk.snoc (l := (g2, t2) :: r) h1.2 h⟩
end LW

end

section
set_option linter.all false
set_option Elab.async false
set_option maxRecDepth 100000
namespace LW
open Dl DlM
/-- a form of the tokens ts -/
structure Form (ts : List Token) (x : Cs) : Prop where
  ex : ∃ (l : List Gap) (z : Nat), x = asm l z ∧ l.map (·.2) = ts ∧ GapsOk l ∧ (∀ p ∈ l, p.1 ≤ 3) ∧ z ≤ 3
/-- one of the blanks that a row of texts gives -/
theorem blank {S : Store} {r : Nat} (h : Ints S r) (gs : List Nat) (hne : gs ≠ []) (m : Int) (hm : m = gs.length) :
    (callM ixP [(callM lstP [] : EM), (callM F__law_take [varM 0, conM (.int m)])] [] S = .stuck → True) ∧
    (F__law_take [.ref r, .int m] (S ++ [.lst (gs.map fun g => D.str (List.replicate g 32))])).sat fun d S' => ∃ v : Int, ∃ g ∈ gs, d = .int v ∧ lstAt S' S.length = some (gs.map fun g => D.str (List.replicate g 32)) ∧ atI (gs.map fun g => D.str (List.replicate g 32)) v = some (.str (List.replicate g 32)) ∧ Dr r S S' := by
  refine ⟨fun _ => trivial, ?_⟩
  have h1 : Dr r S (S ++ [.lst (gs.map fun g => D.str (List.replicate g 32))]) := .of h .app
  have hl : gs.length ≠ 0 := by simpa using hne
  refine (c_take h1.whole (by omega)).mono ?_
  rintro d S2 ⟨v, rfl, h0, hv, h2⟩
  have hr := h.lt
  obtain ⟨y, e1, e2⟩ := atI_int (xs := gs.map fun g => D.str (List.replicate g 32)) h0 (by simp; omega)
  rw [List.getElem?_map] at e2
  cases e3 : gs[v.toNat]? with
  | none => rw [e3] at e2; cases e2
  | some g =>
    rw [e3] at e2
    cases e2
    exact ⟨v, g, List.mem_of_getElem? e3, rfl, lstAt_of (h2.get (by simp) (by omega)), e1, h1.trans h2⟩
def LoInv (S : Store) (r n : Nat) (ts : List Token) (k : Nat) (δ : Env) (S' : Store) : Prop := ∃ (x : Cs) (a3 a4 a5 a6 : Option D), δ = [some (.ref r), some (.ref n), some (.str x), a3, a4, a5, a6] ∧ Dr r S S' ∧
  ((k = 0 ∧ ∃ g, g ≤ 3 ∧ x = List.replicate g 32) ∨ (∃ (l : List Gap) (g : Nat) (t : Token), x = asm (l ++ [(g, t)]) 0 ∧ (l ++ [(g, t)]).map (·.2) = ts.take k ∧ GapsOk (l ++ [(g, t)]) ∧ ∀ p ∈ l ++ [(g, t)], p.1 ≤ 3))
def LoMid (S2 : Store) (r n : Nat) (x : Cs) (k : Nat) (p t : Token) (δ : Env) (S4 : Store) : Prop := ∃ (g : Nat) (a5 a6 : Option D), g ≤ 3 ∧ δ = [some (.ref r), some (.ref n), some (.str x), some (.int k), some (.str (List.replicate g 32)), a5, a6] ∧ (0 < k → 0 < g ∨ Free p t) ∧ Dr r S2 S4
theorem c_loose {S : Store} {r n : Nat} {ts : List Token} (h : Ints S r) (hn : S[n]? = some (.lst ((txts ts).map D.str))) (hnr : n ≠ r) (hg : ∀ t ∈ ts, Good t) (hl : ts.length ≤ 1000) (hne : ts ≠ []) :
    (F__law_loose [.ref r, .ref n] S).sat fun d S' => ∃ x, d = .str x ∧ Form ts x ∧ Dr r S S' := by
  have hr := h.lt
  have hnl := lt_of_get hn
  have htl : (txts ts).length = ts.length := by simp [txts]
  refine sat_defM rfl ?_
  refine sat_seq (LoInv S r n ts 0) ?_ ?_
  · simp
    refine (blank h [0, 1, 0, 3] (by simp) 4 rfl).2.mono ?_
    rintro d S1 ⟨v, g, hgm, rfl, e1, e2, h1⟩
    simp [List.replicate_succ] at e1 e2
    simp [e1, e2]
    refine ⟨_, _, _, _, _, rfl, h1, .inl ⟨rfl, g, ?_, rfl⟩⟩
    revert hgm; simp; omega
  rintro δ S1 hI
  refine sat_seq (LoInv S r n ts ts.length) ?_ ?_
  · obtain ⟨x, a3, a4, a5, a6, rfl, hd, hx⟩ := id hI
    have hn1 := hd.get hn hnr
    simp [hn1, htl, inRange_nat (show ts.length ≤ 1000000000 by omega)]
    refine for_inv (LoInv S r n ts) hI (by simp) ?_ ?_
    · rintro k hk δ S2 ⟨x, a3, a4, a5, a6, rfl, hd, hx⟩
      refine ⟨_, rfl, ?_⟩
      rw [rangeL_get]
      rw [rangeL_length] at hk
      have gk := hg _ (List.getElem_mem hk)
      have e1 : atI ((txts ts).map D.str) (k : Int) = some (.str ts[k].txt) := atI_nat (by simp [txts, hk])
      have tk : ts.take (k + 1) = ts.take k ++ [ts[k]] := by
        rw [List.take_add_one, List.getElem?_eq_getElem hk]
        rfl
      -- the gap
      refine sat_seq (fun δ S3 => ∃ g, g ≤ 3 ∧ δ = [some (.ref r), some (.ref n), some (.str x), some (.int k), some (.str (List.replicate g 32)), a5, a6] ∧ Dr r S2 S3) ?_ ?_
      · simp
        refine (blank hd.whole [0, 1, 0, 2, 1] (by simp) 5 rfl).2.mono ?_
        rintro d S3 ⟨v, g, hgm, rfl, e1, e2, h1⟩
        simp [List.replicate_succ] at e1 e2
        simp [e1, e2]
        refine ⟨g, ?_, rfl, h1⟩
        revert hgm; simp; omega
      rintro δ S3 ⟨g, hg3, rfl, h3⟩
      have hn3 := (hd.trans h3).get hn hnr
      refine sat_seq (LoMid S2 r n x k (ts[k - 1]'(by omega)) ts[k]) ?_ ?_
      · by_cases hk0 : k = 0
        · subst hk0
          simp
          exact ⟨g, _, _, hg3, rfl, fun h => absurd h (by omega), h3⟩
        · have hkp : 0 < k := by omega
          have hpk : k - 1 < ts.length := by omega
          have gp := hg _ (List.getElem_mem hpk)
          by_cases hg0 : g = 0
          · subst hg0
            have e2 : atI ((txts ts).map D.str) ((k : Int) - 1) = some (.str ts[k - 1].txt) := by
              have : ((k : Int) - 1) = ((k - 1 : Nat) : Int) := by omega
              rw [this]
              exact atI_nat (by simp [txts, hpk])
            have l1 := txt_len gp
            have l2 := txt_len gk
            have low1 := low_txt gp
            have low2 := low_txt gk
            simp [hkp, lstAt_of hn3, e1, e2, le_LIM (show ts[k - 1].txt.length + ts[k].txt.length ≤ 1000000 by omega)]
            refine (c_law_tokens (S := S3) (by rw [List.length_append]; omega) (by
              intro c hc
              rcases List.mem_append.mp hc with hc | hc
              · exact low1 c hc
              · exact low2 c hc)).mono ?_
            rintro d S4 ⟨m, ps, rfl, hm1, hm2, hm3, hm4, hm5, hm6⟩
            simp [lstAt_of hm2]
            refine lc_map (fun d => match d with | .tup [_, d] => d | _ => .non) (by simp) (le_LIM (by simp; omega)) ?_ ?_ ?_
            · intro S' hf
              have := hf.get (app_get hm2) (by have := lt_of_get hm2; simp; omega)
              simp [lstAt_of this]
            · intro p hp
              obtain ⟨q, _, rfl⟩ := List.mem_map.mp hp
              refine ⟨_, rfl, fun S' _ => ?_⟩
              simp [pairD]
            · intro S5 hf hys
              have f5 := fr_app_new rfl hf
              have hap : S5[S4.length]? = some (.lst ((ps.map (·.2)).map D.str)) := by
                rw [hys]
                simp [Function.comp_def, pairD]
              have hd5 : Dr r S2 S5 := h3.trans ((Dr.of h3.whole hm6).trans (.of (Ints.mono h3.whole hm6) f5))
              have hn5 := (hd.trans hd5).get hn hnr
              simp [lstAt_of hn5, e1, e2]
              have q1 : (S5 ++ [MO.lst [D.str ts[k - 1].txt, .str ts[k].txt, .str []]])[S4.length]? = some (.lst ((ps.map (·.2)).map D.str)) := app_get hap
              have q2 : (S5 ++ [MO.lst [D.str ts[k - 1].txt, .str ts[k].txt, .str []]])[S5.length]? = some (.lst ([ts[k - 1].txt, ts[k].txt, []].map D.str)) := by simp
              have q3 := eqP_strs q1 q2 (by
                intro x hx
                obtain ⟨p, hp, rfl⟩ := List.mem_map.mp hx
                exact hm4 p hp) (by
                intro x hx
                simp at hx
                rcases hx with rfl | rfl | rfl
                · exact low1
                · exact low2
                · intro c hc; cases hc)
              have hsz : S4.length < S5.length + 1 := by have := lt_of_get hap; omega
              simp [q3]
              by_cases he : ps.map (·.2) = [ts[k - 1].txt, ts[k].txt, []]
              · simp [he]
                exact ⟨0, _, _, by omega, rfl, fun _ => .inr (apart_free gp gk hm5 he), hd5.push⟩
              · simp [he]
                exact ⟨1, _, _, by omega, rfl, fun _ => .inl (by omega), hd5.push⟩
          · have : ¬ (List.replicate g 32 = []) := by simpa using hg0
            simp [hkp, hg0]
            exact ⟨g, _, _, hg3, rfl, fun _ => .inl (by omega), h3⟩
      rintro δ S4 ⟨g, b5, b6, hg3, rfl, hfree, h4⟩
      have hn4 := (hd.trans h4).get hn hnr
      have l2 := txt_len gk
      by_cases hk0 : k = 0
      · subst hk0
        obtain ⟨g0, hg0, rfl⟩ : ∃ g, g ≤ 3 ∧ x = List.replicate g 32 := by
          rcases hx with ⟨_, hx⟩ | ⟨l, g, t, _, hm, _⟩
          · exact hx
          · simp at hm
        have e1' : atI ((txts ts).map D.str) 0 = some (.str ts[0].txt) := e1
        simp [lstAt_of hn4, e1', le_LIM (show g0 + ts[0].txt.length ≤ 1000000 by omega)]
        refine ⟨_, _, _, _, _, rfl, hd.trans h4, .inr ⟨[], g0, ts[0], by simp [asm], by rw [tk]; simp, trivial, ?_⟩⟩
        intro p hp
        simp at hp
        rw [hp]
        exact hg0
      · have hkp : 0 < k := by omega
        obtain ⟨l, g1, t1, rfl, hm, hok, hle⟩ : ∃ (l : List Gap) (g : Nat) (t : Token), x = asm (l ++ [(g, t)]) 0 ∧ (l ++ [(g, t)]).map (·.2) = ts.take k ∧ GapsOk (l ++ [(g, t)]) ∧ ∀ p ∈ l ++ [(g, t)], p.1 ≤ 3 := by
          rcases hx with ⟨z, _⟩ | hx
          · exact absurd z hk0
          · exact hx
        have ht1 : t1 = ts[k - 1] := by
          have := congrArg List.getLast? hm
          rw [List.map_append, List.map_singleton, List.getLast?_concat, List.getLast?_eq_getElem?, List.length_take, Nat.min_eq_left (by omega), List.getElem?_take_of_lt (by omega), List.getElem?_eq_getElem (by omega)] at this
          exact Option.some.inj this
        have hlen : (asm (l ++ [(g1, t1)]) 0).length ≤ 65000 := by
          have := asm_len (b := 3) (z := 0) (l := l ++ [(g1, t1)]) fun p hp => ⟨hle p hp, hg _ (by
            have : p.2 ∈ (l ++ [(g1, t1)]).map (·.2) := List.mem_map_of_mem hp
            rw [hm] at this
            exact List.mem_of_mem_take this)⟩
          have e := congrArg List.length hm
          rw [List.length_map, List.length_take] at e
          omega
        have hsn := asm_snoc (l ++ [(g1, t1)]) g ts[k] 0
        generalize hX : asm (l ++ [(g1, t1)]) 0 = X at hlen hsn
        simp [hkp, lstAt_of hn4, e1, le_LIM (show X.length + g ≤ 1000000 by omega), le_LIM (show X.length + (g + ts[k].txt.length) ≤ 1000000 by omega), le_LIM (show X.length + g + ts[k].txt.length ≤ 1000000 by omega)]
        refine ⟨_, _, _, _, _, rfl, hd.trans h4, .inr ⟨l ++ [(g1, t1)], g, ts[k], by rw [hsn]; simp, by rw [List.map_append, hm, tk]; rfl, hok.snoc (by rw [ht1]; exact hfree hkp), ?_⟩⟩
        intro p hp
        rcases List.mem_append.mp hp with hp | hp
        · exact hle p hp
        · rw [List.mem_singleton.mp hp]
          exact hg3
    · rintro δ S2 h
      rw [rangeL_length] at h
      exact h
  rintro δ S2 ⟨x, a3, a4, a5, a6, rfl, hd, hx⟩
  obtain ⟨l, g, t, rfl, hm, hok, hle⟩ : ∃ (l : List Gap) (g : Nat) (t : Token), x = asm (l ++ [(g, t)]) 0 ∧ (l ++ [(g, t)]).map (·.2) = ts.take ts.length ∧ GapsOk (l ++ [(g, t)]) ∧ ∀ p ∈ l ++ [(g, t)], p.1 ≤ 3 := by
    rcases hx with ⟨z, _⟩ | hx
    · exact absurd (List.length_eq_zero_iff.mp z) hne
    · exact hx
  rw [List.take_length] at hm
  have hlen : (asm (l ++ [(g, t)]) 0).length ≤ 65000 := by
    have := asm_len (b := 3) (z := 0) (l := l ++ [(g, t)]) fun p hp => ⟨hle p hp, hg _ (by
      have : p.2 ∈ (l ++ [(g, t)]).map (·.2) := List.mem_map_of_mem hp
      rw [hm] at this
      exact this)⟩
    have e := congrArg List.length hm
    rw [List.length_map] at e
    omega
  have hz : ∀ z, asm (l ++ [(g, t)]) z = asm (l ++ [(g, t)]) 0 ++ List.replicate z 32 := fun z => by
    rw [asm_snoc, asm_snoc]
    simp
  simp
  refine (blank hd.whole [0, 1, 0, 2] (by simp) 4 rfl).2.mono ?_
  rintro d S3 ⟨v, z, hzm, rfl, e1, e2, h3⟩
  simp [List.replicate_succ] at e1 e2
  have hz3 : z ≤ 3 := by revert hzm; simp; omega
  generalize hX : asm (l ++ [(g, t)]) 0 = X at hlen hz
  simp [e1, e2, le_LIM (show X.length + z ≤ 1000000 by omega)]
  exact ⟨⟨l ++ [(g, t)], z, (hz z).symm, hm, hok, hle, hz3⟩, hd.trans h3⟩
/-- what a form is to the reader -/
theorem Form.read {ts : List Token} {x : Cs} (h : Form ts x) (hg : ∀ t ∈ ts, Good t) (hl : ts.length ≤ 1000) : ∃ (l : List Gap) (z : Nat), x = asm l z ∧ l.map (·.2) = ts ∧ Told l z ∧ x.length ≤ 1000000 ∧ l.length ≤ 100000 := by
  obtain ⟨l, z, rfl, hm, hok, hle, hz⟩ := h.ex
  have hlg : ∀ p ∈ l, Good p.2 := fun p hp => hg _ (by rw [← hm]; exact List.mem_map_of_mem hp)
  have e := congrArg List.length hm
  rw [List.length_map] at e
  refine ⟨l, z, rfl, hm, told_of hlg hok, ?_, by omega⟩
  have := asm_len (b := 3) (z := z) (l := l) fun p hp => ⟨hle p hp, hlg p hp⟩
  omega
end LW

end

section
set_option linter.all false
set_option Elab.async false
set_option maxRecDepth 100000
namespace LW
open Dl DlM
theorem seps_mem {α : Type} {c : α} {l : List (List α)} {x : α} (h : x ∈ seps c l) : x = c ∨ ∃ y ∈ l, x ∈ y := by
  cases l with
  | nil => cases h
  | cons a r =>
    rcases List.mem_append.mp h with h | h
    · exact .inr ⟨a, by simp, h⟩
    · obtain ⟨y, hy, h⟩ := List.mem_flatMap.mp h
      rcases List.mem_cons.mp h with h | h
      · exact .inl h
      · exact .inr ⟨y, List.mem_cons_of_mem _ hy, h⟩
theorem c_same_str {x : Cs} {S : Store} : (F__law_same 8 [.str x, .str x] S).sat fun r S' => r = .bl true ∧ Fr [] S S' := c_same 7 (.str x) (.str x) S
end LW

end

section
set_option linter.all false
set_option Elab.async false
set_option maxRecDepth 100000
namespace LW
open Dl DlM
/-! any line: its tokens, up to the end or to where none begins -/
/-- at most k digits in a row -/
def DR (k : Nat) (x : Cs) : Prop := ∀ i, run digits (x.drop i) ≤ k
theorem DR.drop {k : Nat} {x : Cs} (h : DR k x) (n : Nat) : DR k (x.drop n) := fun i => by rw [List.drop_drop]; exact h _
theorem DR.tail {k : Nat} {a y : Cs} (h : DR k (a ++ y)) : DR k y := by
  have := h.drop a.length
  rwa [List.drop_left] at this
theorem run_split (cs : Cs) : ∀ a b : Cs, run cs (a ++ b) ≤ run cs a + run cs b ∧ run cs a ≤ run cs (a ++ b)
  | [], b => by simp [run]
  | c :: a, b => by
    have := run_split cs a b
    simp only [List.cons_append, run]
    split <;> omega
theorem DR.of_len {k : Nat} {x : Cs} (h : x.length ≤ k) : DR k x := fun i => by
  have := run_le digits (x.drop i)
  rw [List.length_drop] at this
  omega
theorem DR.mono {k j : Nat} {x : Cs} (h : DR k x) (hk : k ≤ j) : DR j x := fun i => Nat.le_trans (h i) hk
theorem DR.app {k j : Nat} {a b : Cs} (h : DR k a) (h2 : DR j b) : DR (k + j) (a ++ b) := fun i => by
  rw [List.drop_append]
  have h3 := (run_split digits (a.drop i) (b.drop (i - a.length))).1
  have := h i
  have := h2 (i - a.length)
  omega
theorem DR.pre {k : Nat} {a b : Cs} (h : DR k (a ++ b)) : DR k a := fun i => by
  have := h i
  rw [List.drop_append] at this
  exact Nat.le_trans (run_split digits _ _).2 this
/-- a character is put in -/
theorem DR.put {k : Nat} {x : Cs} (h : DR k x) (n : Nat) (c : Cs) (hc : c.length ≤ 1) : DR (k + 1 + k) (x.take n ++ c ++ x.drop n) := by
  have h1 : DR k (x.take n) := DR.pre (b := x.drop n) (by rw [List.take_append_drop]; exact h)
  exact (h1.app (DR.of_len hc)).app (h.drop n)
theorem natCs_digV : ∀ (n : Nat) (ds : Cs), ds.length = n → ds ≠ [] → (∀ c ∈ ds, c ∈ digits) → (ds.head? ≠ some 48 ∨ ds = [48]) → natCs (digV ds) = ds := by
  intro n
  induction n with
  | zero => intro ds hl hne; exact absurd (List.length_eq_zero_iff.mp hl) hne
  | succ n ih =>
    intro ds hl hne hd hz
    obtain ⟨r, c, rfl⟩ : ∃ r c, ds = r ++ [c] := ⟨ds.dropLast, ds.getLast hne, (List.dropLast_concat_getLast hne).symm⟩
    have hc := mem_digits.mp (hd c (by simp))
    have ev : digV (r ++ [c]) = digV r * 10 + (c - 48) := by simp [digV]
    rw [ev]
    by_cases hr : r = []
    · subst hr
      rw [natCs_eq, if_pos (by simp [digV]; omega)]
      simp [digV]; omega
    · have hh : r.head? ≠ some 48 := by
        intro e
        rcases hz with hz | hz
        · apply hz
          cases r with
          | nil => exact absurd rfl hr
          | cons a t => simpa using e
        · cases r with
          | nil => exact absurd rfl hr
          | cons a t => simp at hz
      have e := ih r (by simpa using hl) hr (fun d hm => hd d (by simp [hm])) (.inl hh)
      have h0 : digV r ≠ 0 := fun z => by
        rw [z, natCs_zero] at e
        rw [← e] at hh
        exact hh rfl
      rw [natCs_eq, if_neg (by omega)]
      have h1 : (digV r * 10 + (c - 48)) / 10 = digV r := by omega
      have h2 : 48 + (digV r * 10 + (c - 48)) % 10 = c := by omega
      rw [h1, h2, e]
/-- where a token begins, it is one -/
theorem tokEnd_tok {y : Cs} (hy : y ≠ []) (hr : DR 600 y) (h : tokEnd y ≠ 0) : ∃ t, Tok t ∧ y = t.txt ++ y.drop (tokEnd y) ∧ t.txt.length = tokEnd y ∧ Delim t (y.drop (tokEnd y)) := by
  obtain ⟨c, r, rfl⟩ := List.exists_cons_of_ne_nil hy
  have stop : ∀ (cs z : Cs) (d : Nat), (z.drop (run cs z)).head? = some d → d ∉ cs := fun cs z d hd => run_stop cs z d (by rw [List.head?_drop] at hd; exact hd)
  have allof : ∀ (cs z : Cs), ∀ d ∈ z.take (run cs z), d ∈ cs := fun cs z d hd => by
    obtain ⟨j, hj, e⟩ := List.getElem_of_mem hd
    rw [List.length_take] at hj
    obtain ⟨d', e1, e2⟩ := run_lt cs z j (by omega)
    rw [List.getElem_take] at e
    rw [List.getElem?_eq_getElem (by omega), e] at e1
    cases e1
    exact e2
  by_cases h1 : c ∈ signs
  · have e : tokEnd (c :: r) = 1 := by unfold tokEnd; simp only; rw [if_pos h1]
    rw [e]
    exact ⟨.sg c, .sg c h1, rfl, rfl, trivial⟩
  by_cases h2 : c ∈ letters
  · have e : tokEnd (c :: r) = run letters (c :: r) := by unfold tokEnd; simp only; rw [if_neg h1, if_pos h2]
    rw [e] at h ⊢
    have hle := run_le letters (c :: r)
    refine ⟨.wrd ((c :: r).take (run letters (c :: r))), .wrd _ ⟨?_, ?_⟩, ?_, ?_, ?_⟩
    · intro z
      have := congrArg List.length z
      rw [List.length_take, List.length_nil] at this
      omega
    · intro d hd
      exact mem_letters.mp (allof letters _ d hd)
    · exact (List.take_append_drop _ _).symm
    · show (List.take _ _).length = _
      rw [List.length_take]; omega
    · intro d hd
      exact stop letters _ d hd
  by_cases h3 : c = 34
  · subst h3
    have e : tokEnd (34 :: r) = if 0 < run letters r ∧ r[run letters r]? = some 34 then run letters r + 2 else 0 := by unfold tokEnd; simp only; rw [if_neg h1, if_neg h2, if_pos trivial]
    rw [e] at h ⊢
    by_cases h4 : 0 < run letters r ∧ r[run letters r]? = some 34
    · rw [if_pos h4]
      have hlt := (List.getElem?_eq_some_iff.mp h4.2).1
      have er : r = r.take (run letters r) ++ 34 :: r.drop (run letters r + 1) := by
        have e1 := List.take_append_drop (run letters r) r
        rw [List.drop_eq_getElem_cons hlt, (List.getElem?_eq_some_iff.mp h4.2).2] at e1
        exact e1.symm
      refine ⟨.quo (r.take (run letters r)), .quo _ ⟨?_, ?_⟩, ?_, ?_, trivial⟩
      · intro z
        have := congrArg List.length z
        rw [List.length_take, List.length_nil] at this
        omega
      · intro d hd
        exact mem_letters.mp (allof letters _ d hd)
      · show 34 :: r = 34 :: (r.take (run letters r) ++ [34]) ++ (34 :: r).drop (run letters r + 1 + 1)
        rw [List.drop_succ_cons]
        simp only [List.cons_append, List.append_assoc, List.nil_append]
        congr 1
      · simp [Token.txt]; omega
    · rw [if_neg h4] at h
      exact absurd rfl h
  obtain ⟨p, hp⟩ : ∃ p : Nat, (if c = 45 then 1 else 0) = p := ⟨_, rfl⟩
  have e : tokEnd (c :: r) = if run digits ((c :: r).drop p) = 0 ∨ (((c :: r).drop p)[0]? = some 48 ∧ (c :: r).take (p + run digits ((c :: r).drop p)) ≠ [48]) then 0 else p + run digits ((c :: r).drop p) := by
    unfold tokEnd
    simp only
    rw [if_neg h1, if_neg h2, if_neg h3, hp]
  rw [e] at h ⊢
  split at h
  · exact absurd rfl h
  rename_i hcond
  rw [if_neg hcond]
  have hn0 : run digits ((c :: r).drop p) ≠ 0 := fun z => hcond (.inl z)
  have hz : ((c :: r).drop p)[0]? = some 48 → (c :: r).take (p + run digits ((c :: r).drop p)) = [48] := fun z => by
    by_cases q : (c :: r).take (p + run digits ((c :: r).drop p)) = [48]
    · exact q
    · exact absurd (.inr ⟨z, q⟩) hcond
  generalize hy' : (c :: r).drop p = y' at *
  have hle := run_le digits y'
  have hrl : run digits y' ≤ 600 := by rw [← hy']; exact hr p
  generalize hds : y'.take (run digits y') = ds
  have hdl : ds.length = run digits y' := by rw [← hds, List.length_take]; omega
  have hdd : ∀ d ∈ ds, d ∈ digits := by rw [← hds]; exact allof digits y'
  have hdne : ds ≠ [] := fun z => by rw [z] at hdl; exact hn0 hdl.symm
  have hhead : ds.head? = y'[0]? := by
    rw [← hds, List.head?_take, if_neg hn0, List.head?_eq_getElem?]
  have hall : (c :: r) = (c :: r).take p ++ ds ++ (c :: r).drop (p + run digits y') := by
    rw [← hds, ← hy', List.append_assoc, ← List.drop_drop, List.take_append_drop, List.take_append_drop]
  have hdel : ∀ d, ((c :: r).drop (p + run digits y')).head? = some d → d ∉ digits := fun d hd => by
    rw [← List.drop_drop, hy'] at hd
    exact stop digits y' d hd
  by_cases h45 : c = 45
  · have hp1 : p = 1 := by rw [if_pos h45] at hp; exact hp.symm
    subst hp1
    subst h45
    have hnz : ds.head? ≠ some 48 := fun z => by
      have := hz (hhead ▸ z)
      rw [Nat.add_comm, List.take_succ_cons] at this
      cases this
    have en := natCs_digV _ ds rfl hdne hdd (.inl hnz)
    have h0 : digV ds ≠ 0 := fun z => by
      rw [z, natCs_zero] at en
      rw [← en] at hnz
      exact hnz rfl
    have ei : intCs (-(digV ds : Int)) = 45 :: ds := by
      unfold intCs
      rw [if_pos (by omega)]
      have : (-(digV ds : Int)).natAbs = digV ds := by omega
      rw [this, en]
    refine ⟨.num (-(digV ds : Int)), .num _ (by rw [ei]; simp; omega), ?_, ?_, hdel⟩
    · show _ = intCs _ ++ _
      rw [ei]
      exact hall
    · show (intCs _).length = _
      rw [ei]; simp; omega
  · have hp0 : p = 0 := by rw [if_neg h45] at hp; exact hp.symm
    subst hp0
    have hz2 : ds.head? ≠ some 48 ∨ ds = [48] := by
      by_cases q : ds.head? = some 48
      · right
        have := hz (hhead ▸ q)
        rw [Nat.zero_add] at this
        have e0 : y' = c :: r := by rw [← hy']; rfl
        rw [← hds, e0]
        rw [e0] at this
        exact this
      · exact .inl q
    have en := natCs_digV _ ds rfl hdne hdd hz2
    have ei : intCs (digV ds : Int) = ds := by
      unfold intCs
      rw [if_neg (by omega)]
      have : ((digV ds : Int)).natAbs = digV ds := by omega
      rw [this, en]
    refine ⟨.num (digV ds : Int), .num _ (by rw [ei]; omega), ?_, ?_, hdel⟩
    · show _ = intCs _ ++ _
      rw [ei]
      simpa using hall
    · show (intCs _).length = _
      rw [ei]; omega
/-- a token, the end, or no token -/
inductive Tk
  | tok (t : Token) | fin | bad
  deriving DecidableEq
abbrev PTok := Nat × Tk
/-- the line y that begins at o has these tokens -/
inductive Lex : Nat → Cs → List PTok → Prop
  | fin {o : Nat} (g : Nat) : Lex o (List.replicate g 32) [(o + g, .fin)]
  | bad {o : Nat} (g : Nat) {y : Cs} (h : y ≠ []) (hs : run [32] y = 0) (ht : tokEnd y = 0) : Lex o (List.replicate g 32 ++ y) [(o + g, .bad)]
  | tok {o : Nat} (g : Nat) {t : Token} {y : Cs} {l : List PTok} (h : Tok t) (hd : Delim t y) (ht : tokEnd (t.txt ++ y) = t.txt.length) (r : Lex (o + g + t.txt.length) y l) : Lex o (List.replicate g 32 ++ (t.txt ++ y)) ((o + g, .tok t) :: l)
theorem spaces_split (y : Cs) : y = List.replicate (run [32] y) 32 ++ y.drop (run [32] y) ∧ run [32] (y.drop (run [32] y)) = 0 := by
  constructor
  · have h : y.take (run [32] y) = List.replicate (run [32] y) 32 := by
      apply List.eq_replicate_iff.mpr
      have hle := run_le [32] y
      refine ⟨by rw [List.length_take]; omega, fun d hd => ?_⟩
      obtain ⟨j, hj, e⟩ := List.getElem_of_mem hd
      rw [List.length_take] at hj
      obtain ⟨d', e1, e2⟩ := run_lt [32] y j (by omega)
      rw [List.getElem_take] at e
      rw [List.getElem?_eq_getElem (by omega), e] at e1
      cases e1
      simpa using e2
    rw [← h, List.take_append_drop]
  · cases e : y.drop (run [32] y) with
    | nil => rfl
    | cons c r =>
      have : c ∉ [32] := run_stop [32] y c (by rw [← List.head?_drop, e]; rfl)
      show (if c ∈ [32] then _ else _) = 0
      rw [if_neg this]
theorem Lex.ex : ∀ (n : Nat) (y : Cs) (o : Nat), y.length ≤ n → DR 600 y → ∃ l, Lex o y l := by
  intro n
  induction n with
  | zero =>
    intro y o hl _
    have : y = [] := List.length_eq_zero_iff.mp (by omega)
    subst this
    exact ⟨_, .fin 0⟩
  | succ n ih =>
    intro y o hl hr
    obtain ⟨e1, e2⟩ := spaces_split y
    generalize hg : run [32] y = g at e1 e2
    generalize hz : y.drop g = z at e1 e2
    have hrz : DR 600 z := by rw [← hz]; exact hr.drop g
    by_cases hzn : z = []
    · rw [hzn, List.append_nil] at e1
      rw [e1]
      exact ⟨_, .fin g⟩
    by_cases ht : tokEnd z = 0
    · rw [e1]
      exact ⟨_, .bad g hzn e2 ht⟩
    · obtain ⟨t, h1, h2, h3, h4⟩ := tokEnd_tok hzn hrz ht
      have hzl : z.length ≤ y.length := by rw [← hz, List.length_drop]; omega
      obtain ⟨l, hl2⟩ := ih (z.drop (tokEnd z)) (o + g + t.txt.length) (by rw [List.length_drop]; omega) (hrz.drop _)
      rw [e1]
      clear ih hz e1 hzl hrz e2
      generalize z.drop (tokEnd z) = w at *
      subst h2
      exact ⟨_, .tok g h1 h4 h3.symm hl2⟩
theorem Lex.ne {o : Nat} {y : Cs} {l : List PTok} (h : Lex o y l) : l ≠ [] := by cases h <;> simp
theorem Lex.len {o : Nat} {y : Cs} {l : List PTok} (h : Lex o y l) : l.length ≤ y.length + 1 := by
  induction h with
  | fin g => simp
  | bad g h hs ht => simp
  | @tok o g t y l h hd ht r ih =>
    have : t.txt ≠ [] := by
      cases h with
      | sg c h => simp [Token.txt]
      | quo w h => simp [Token.txt]
      | wrd w h => exact h.ne
      | num i h => exact intCs_ne i
    have := List.length_pos_iff.mpr this
    simp only [List.length_cons, List.length_append]
    omega
/-- all but the last are tokens -/
def Shape : List PTok → Prop
  | [] => False
  | [(_, .tok _)] => False
  | [_] => True
  | (_, .tok t) :: r => Tok t ∧ Shape r
  | _ :: _ => False
theorem Lex.shape {o : Nat} {y : Cs} {l : List PTok} (h : Lex o y l) : Shape l := by
  induction h with
  | fin g => trivial
  | bad g h hs ht => trivial
  | @tok o g t y l h hd ht r ih =>
    cases l with
    | nil => exact ih.elim
    | cons p r => exact ⟨h, ih⟩
end LW

end

section
set_option linter.all false
set_option Elab.async false
set_option maxRecDepth 100000
namespace LW
open Dl DlM
/-! the program's tokens of any line -/
def ptD : PTok → D
  | (p, .tok t) => .tup [.int p, .str t.kind, t.val]
  | (p, .fin) => .tup [.int p, .str [101, 110, 100], .int 0]
  | (p, .bad) => .tup [.int p, .str [], .int 0]
theorem c_token_at_bad {S : Store} {x a y : Cs} (hx : x = a ++ y) (hy : y ≠ []) (ht : tokEnd y = 0) (hl : x.length ≤ 1000000) :
    F_token_at [.str x, .int a.length] S = .ok (.tup [.str [], .int 0, .int a.length]) S := by
  obtain ⟨c, r, rfl⟩ := List.exists_cons_of_ne_nil hy
  have hxl : x.length = a.length + (r.length + 1) := by rw [hx]; simp
  have a1 : atI x (a.length : Int) = some c := atI_is hx rfl
  have h1 : ¬ c ∈ signs := fun h => by unfold tokEnd at ht; simp only [if_pos h] at ht; omega
  have h2 : ¬ c ∈ letters := fun h => by
    unfold tokEnd at ht; simp only [if_neg h1, if_pos h, run] at ht; omega
  refine eq_of_sat (sat_defM rfl ?_)
  by_cases h3 : c = 34
  · subst h3
    have ht' : (if 0 < run letters r ∧ r[run letters r]? = some 34 then run letters r + 2 else 0) = 0 := by
      unfold tokEnd at ht; simp only [if_neg h1, if_neg h2, if_true] at ht; exact ht
    have r1 : F_run_end [.str x, .int (a.length + 1), .str letters] S = .ok (.int (a.length + 1 + run letters r)) S := c_run_end (a := a ++ [34]) (y := r) (by rw [hx]; simp) (by simp) hl
    have hrl := run_le letters r
    by_cases h4 : run letters r = 0
    · simp [le_LIM hl, a1, h1, h2, r1, h4]
    · have h5 : ¬ ((a.length : Int) + 1 + run letters r = a.length + 1) := by omega
      have h6 : r[run letters r]? ≠ some 34 := fun z => by
        rw [if_pos ⟨by omega, z⟩] at ht'; omega
      have hcut : cut x (some ((a.length : Int) + 1 + run letters r)) (some (a.length + 1 + run letters r + 1)) = (r.drop (run letters r)).take 1 := by
        have e : x = (a ++ [34] ++ r.take (run letters r)) ++ ((r.drop (run letters r)).take 1 ++ (r.drop (run letters r)).drop 1) := by
          rw [List.take_append_drop]
          simp [hx]
        by_cases hq : run letters r < r.length
        · refine cut_is e ?_ ?_
          · simp; omega
          · simp; omega
        · have h7 : run letters r = r.length := by omega
          rw [h7, List.drop_length, cut_past (by omega)]
          simp
      have hne : (r.drop (run letters r)).take 1 ≠ [34] := fun z => by
        apply h6
        have := congrArg (fun l => l[0]?) z
        simpa using this
      simp [le_LIM hl, a1, h1, h2, r1, hcut, hne, h5]
  · obtain ⟨p, hp⟩ : ∃ p : Nat, (if c = 45 then 1 else 0) = p := ⟨_, rfl⟩
    have ht' : (if run digits ((c :: r).drop p) = 0 ∨ (((c :: r).drop p)[0]? = some 48 ∧ (c :: r).take (p + run digits ((c :: r).drop p)) ≠ [48]) then 0 else p + run digits ((c :: r).drop p)) = 0 := by
      unfold tokEnd at ht
      simp only at ht
      rw [if_neg h1, if_neg h2, if_neg h3, hp] at ht
      exact ht
    have hint : F_integer_at [.str x, .int a.length] S = .ok (.tup [.str [], .int 0, .int a.length]) S := by
      refine eq_of_sat (sat_defM rfl ?_)
      have hpl : p ≤ (c :: r).length := by rw [← hp]; split <;> simp
      generalize hyd : (c :: r).drop p = y' at ht'
      have hx2 : x = (a ++ (c :: r).take p) ++ y' := by rw [← hyd, List.append_assoc, List.take_append_drop]; exact hx
      have hap : ((a ++ (c :: r).take p).length : Int) = a.length + p := by
        have : (a ++ (c :: r).take p).length = a.length + p := by rw [List.length_append, List.length_take, Nat.min_eq_left hpl]
        omega
      have r3 : F_run_end [.str x, .int (a.length + p), .str digits] S = .ok (.int (a.length + p + run digits y')) S := c_run_end hx2 hap.symm hl
      refine sat_seq (fun δ S' => δ = [some (.str x), some (.int a.length), some (.int (a.length + p)), none] ∧ S = S') ?_ ?_
      · by_cases h45 : c = 45
        · rw [if_pos h45] at hp
          subst h45
          simp [le_LIM hl, a1, ← hp]
        · rw [if_neg h45] at hp
          simp [le_LIM hl, a1, h45, ← hp]
      rintro δ S' ⟨rfl, rfl⟩
      refine sat_seq (fun δ S' => δ = [some (.str x), some (.int a.length), some (.int (a.length + p)), some (.int (a.length + p + run digits y'))] ∧ S = S') (by simp [r3]) ?_
      rintro δ S' ⟨rfl, rfl⟩
      by_cases h5 : run digits y' = 0
      · simp [h5]
      · have h6 : y'[0]? = some 48 ∧ (c :: r).take (p + run digits y') ≠ [48] := by
          by_cases q : y'[0]? = some 48 ∧ (c :: r).take (p + run digits y') ≠ [48]
          · exact q
          · rw [if_neg (by rintro (z | z); exact h5 z; exact q z)] at ht'
            omega
        have a2 : atI x ((a.length : Int) + p) = some 48 := by
          cases y' with
          | nil => simp at h6
          | cons d t =>
            have : d = 48 := by simpa using h6.1
            subst this
            exact atI_is hx2 hap.symm
        have h7 : 1 < p + run digits y' := by
          by_cases q : p = 0
          · by_cases q2 : run digits y' = 1
            · exfalso
              apply h6.2
              have e0 : y' = c :: r := by rw [← hyd, q]; rfl
              rw [q, q2]
              have : c = 48 := by rw [e0] at h6; simpa using h6.1
              rw [this]; rfl
            · omega
          · omega
        have h8 : ¬ ((a.length : Int) + p = a.length + p + run digits y') := by omega
        have h9 : (1 : Int) < a.length + p + run digits y' - a.length := by omega
        simp [le_LIM hl, a2, h5, h9]
    simp [le_LIM hl, a1, h1, h2, h3, hint]
theorem Tok.pos {t : Token} (h : Tok t) : 0 < t.txt.length := by
  have : t.txt ≠ [] := by
    cases h with
    | sg c h => simp [Token.txt]
    | quo w h => simp [Token.txt]
    | wrd w h => exact h.ne
    | num i h => exact intCs_ne i
  exact List.length_pos_iff.mpr this
/-- the first character of a token is no blank -/
theorem Tok.run0 {t : Token} (h : Tok t) (y : Cs) : run [32] (t.txt ++ y) = 0 := by
  have key : ∀ c u, t.txt = c :: u → c ≠ 32 := by
    intro c u e
    cases h with
    | sg c' h => cases e; rw [mem_signs] at h; omega
    | quo w h => cases e; omega
    | wrd w h =>
      have e' : w = c :: u := e
      have := h.all c (by rw [e']; simp)
      unfold letter at this; omega
    | num i h =>
      have e' : intCs i = c :: u := e
      unfold intCs at e'
      split at e'
      · cases e'; omega
      · have := natCs_digit i.natAbs c (by rw [e']; simp)
        omega
  obtain ⟨c, u, e⟩ := List.exists_cons_of_ne_nil (List.length_pos_iff.mp h.pos)
  rw [e]
  show (if c ∈ [32] then _ else _) = 0
  rw [if_neg (by simpa using key c u e)]
theorem run_reps {g : Nat} {y : Cs} (h : run [32] y = 0) : run [32] (List.replicate g 32 ++ y) = g := by
  rw [run_all (by intro c hc; rw [(List.mem_replicate.mp hc).2]; simp), h]
  simp
theorem run_rep {g : Nat} : run [32] (List.replicate g 32) = g := by
  have := run_reps (g := g) (y := []) rfl
  simpa using this
def LexInv (S : Store) (x : Cs) (l : List PTok) (n : Nat) (δ : Env) (S' : Store) : Prop :=
  ∃ (a y : Cs) (r done : List PTok) (a3 a4 a5 : Option D), n = r.length ∧ δ = [some (.str x), some (.ref S.length), some (.int (a.length + run [32] y)), a3, a4, a5] ∧ x = a ++ y ∧ Lex a.length y r ∧ l = done ++ r ∧
    S'[S.length]? = some (.lst (done.map ptD)) ∧ Fr [] S S'
theorem c_tokens_lex {S : Store} {x : Cs} {l : List PTok} (hx : Lex 0 x l) (hl : x.length ≤ 100000) :
    (F_tokens_of [.str x] S).sat fun d S' => ∃ n, d = .ref n ∧ S.length ≤ n ∧ S'[n]? = some (.lst (l.map ptD)) ∧ Fr [] S S' := by
  have hll := hx.len
  refine sat_defM rfl ?_
  have e0 : F_run_end [.str x, .int 0, .str [32]] (S ++ [.lst []]) = .ok (.int (run [32] x)) (S ++ [.lst []]) := by
    have := c_run_end (S := S ++ [.lst []]) (a := []) (y := x) (cs := [32]) (at_ := 0) rfl rfl (by omega : x.length ≤ 1000000)
    simpa using this
  simp [e0]
  refine while_run (LexInv S x l) l.length (by omega) ?_ ?_
  · exact ⟨[], x, l, [], none, none, none, rfl, by simp, rfl, hx, rfl, by simp, .app⟩
  · rintro n δ S1 ⟨a, y, r, done, a3, a4, a5, rfl, rfl, hxa, hr, hdone, hacc, hf⟩
    have hlt := lt_of_get hacc
    have hxl : x.length = a.length + y.length := by rw [hxa, List.length_append]
    have hdl : done.length ≤ 100001 := by
      have := congrArg List.length hdone
      simp at this
      omega
    have hdm : (done.map ptD).length ≤ 1000000 := by simp; omega
    cases hr with
    | fin g =>
      have e2 : x.length = a.length + g := by rw [hxl]; simp
      simp [le_LIM (show x.length ≤ 1000000 by omega), run_rep, e2, hacc, lt_LIM hdm]
      have e3 : (a.length + g) ≤ LIM := le_LIM (by omega)
      have e4 : done.length < LIM := lt_LIM (by omega)
      simp [e3, e4, hacc]
      refine ⟨?_, hf.set_new (Nat.le_refl _)⟩
      rw [List.getElem?_set_self hlt, hdone]
      simp [ptD]
    | @bad _ g y h hs ht =>
      have e1 := run_reps (g := g) hs
      have etok := c_token_at_bad (S := S1) (x := x) (a := a ++ List.replicate g 32) (y := y) (by rw [hxa]; simp) h ht (by omega)
      have hyl : y.length ≠ 0 := fun e => h (List.length_eq_zero_iff.mp e)
      have hlt3 : (a.length : Int) + g < x.length := by rw [hxl]; simp; omega
      have e4 : done.length < LIM := lt_LIM (by omega)
      simp at etok
      simp [le_LIM (show x.length ≤ 1000000 by omega), e1, hlt3, etok, hacc, e4]
      refine ⟨?_, hf.set_new (Nat.le_refl _)⟩
      rw [List.getElem?_set_self hlt, hdone]
      simp [ptD]
    | @tok _ g t y l' h hd ht r' =>
      have e1 := run_reps (g := g) (h.run0 y)
      have hx2 : x = (a ++ List.replicate g 32) ++ (t.txt ++ y) := by rw [hxa]; simp
      have etok := c_token_at (S := S1) h hd hx2 (by omega)
      have hpos := h.pos
      have hlt3 : (a.length : Int) + g < x.length := by rw [hxl]; simp; omega
      have e4 : done.length < LIM := lt_LIM (by omega)
      have erun : ∀ S, F_run_end [.str x, .int (a.length + g + t.txt.length), .str [32]] S = .ok (.int (a.length + g + t.txt.length + run [32] y)) S := fun S =>
        c_run_end (a := a ++ List.replicate g 32 ++ t.txt) (y := y) (by rw [hx2]; simp) (by simp; omega) (by omega)
      simp at etok
      simp [le_LIM (show x.length ≤ 1000000 by omega), e1, hlt3, etok, hacc, e4, kind_ne, erun]
      refine ⟨l'.length, by omega, a ++ List.replicate g 32 ++ t.txt, y, l', done ++ [(a.length + g, .tok t)], some (.str t.kind), some t.val, some (.int (a.length + g + t.txt.length)), rfl, (by simp; omega), by rw [hx2]; simp, ?_, by rw [hdone]; simp, ?_, hf.set_new (Nat.le_refl _)⟩
      · have : (a ++ List.replicate g 32 ++ t.txt).length = a.length + g + t.txt.length := by simp; omega
        rw [this]; exact r'
      · rw [List.getElem?_set_self hlt]
        simp [ptD]
/-! the law's tokens of any line -/
def ltx : Tk → Cs
  | .tok t => t.txt
  | .fin => []
  | .bad => [32]
def ltD (p : PTok) : D := .tup [.int p.1, .str (ltx p.2)]
def LL (S : Store) (x : Cs) (l : List PTok) (k : Nat) (δ : Env) (S' : Store) : Prop := ∃ (a y : Cs) (r done : List PTok) (a3 a4 : Option D), δ = [some (.str x), some (.ref S.length), some (.int (a.length + run [32] y)), a3, a4] ∧ x = a ++ y ∧ Lex a.length y r ∧ l = done ++ r ∧ k ≤ a.length ∧ S'[S.length]? = some (.lst (done.map ltD)) ∧ Fr [] S S'
def LLO (S : Store) (x : Cs) (l : List PTok) (δ : Env) (S' : Store) : Prop := ∃ (done : List PTok) (a2 a3 a4 : Option D), δ = [some (.str x), some (.ref S.length), a2, a3, a4] ∧ l = done ++ [(x.length, .fin)] ∧ S'[S.length]? = some (.lst (done.map ltD)) ∧ Fr [] S S'
theorem ll_fin {S : Store} {l : List PTok} (T : Store) (acc : List PTok) (p : PTok) (hal : acc.length ≤ 100001) (ht : T[S.length]? = some (.lst (acc.map ltD))) (hf : Fr [] S T) (hp : l = acc ++ [p]) :
    (addP [.ref S.length, .ref T.length] (T ++ [.lst [ltD p]])).sat fun d S' => ∃ n, d = .ref n ∧ S.length ≤ n ∧ S'[n]? = some (.lst (l.map ltD)) ∧ Fr [] S S' := by
  have h1 : (T ++ [.lst [ltD p]])[S.length]? = some (.lst (acc.map ltD)) := app_get ht
  have h2 : (T ++ [.lst [ltD p]])[T.length]? = some (.lst [ltD p]) := by simp
  rw [add_lists h1 h2 (by simp; omega), Res.sat_ok]
  refine ⟨_, rfl, by have := hf.le; simp; omega, ?_, hf.push.push⟩
  rw [List.getElem?_append_right (by omega), hp]; simp
theorem c_law_lex {S : Store} {x : Cs} {l : List PTok} (hx : Lex 0 x l) (hl : x.length ≤ 100000) : (F__law_tokens [.str x] S).sat fun d S' => ∃ n, d = .ref n ∧ S.length ≤ n ∧ S'[n]? = some (.lst (l.map ltD)) ∧ Fr [] S S' := by
  have hll := hx.len
  refine sat_defM rfl ?_
  refine sat_seq (fun δ S' => δ = [some (.str x), some (.ref S.length), none, none, none] ∧ S' = S ++ [.lst []]) (by simp) ?_
  rintro δ _ ⟨rfl, rfl⟩
  have r0 : ∀ {S}, F__law_run [.str x, .int 0, .str [32]] S = .ok (.int (run [32] x)) S := by
    intro S
    have := c_law_run (S := S) (x := x) (a := []) (y := x) (cs := [32]) (at_ := 0) rfl rfl (by omega)
    simpa using this
  refine sat_seq (fun δ S' => δ = [some (.str x), some (.ref S.length), some (.int (run [32] x)), none, none] ∧ S' = S ++ [.lst []]) (by simp [r0]) ?_
  rintro δ _ ⟨rfl, rfl⟩
  refine sat_seq (LLO S x l) ?_ ?_
  · simp [le_LIM (show x.length ≤ 1000000 by omega), inRange_nat (show x.length ≤ 1000000000 by omega)]
    refine for_inv (LL S x l) ?_ (by simp) ?_ ?_
    · exact ⟨[], x, l, [], none, none, by simp, rfl, hx, rfl, by simp, by simp, .app⟩
    · rintro k hk δ S1 ⟨a, y, r, done, a3, a4, rfl, hxa, hr, hdone, hka, hacc, hf⟩
      refine ⟨_, rfl, ?_⟩
      rw [rangeL_get]
      rw [rangeL_length] at hk
      have hxl : x.length = a.length + y.length := by rw [hxa, List.length_append]
      have hdl : done.length ≤ 100001 := by
        have := congrArg List.length hdone
        simp at this
        omega
      have e4 : done.length < LIM := lt_LIM (by omega)
      cases hr with
      | fin g =>
        have e1 : (a.length : Int) + g = x.length := by rw [hxl]; simp
        simp [le_LIM (show x.length ≤ 1000000 by omega), run_rep, e1]
        refine ⟨done, _, _, _, rfl, ?_, hacc, hf⟩
        rw [hdone]
        have : a.length + g = x.length := by omega
        rw [this]
      | @bad _ g y h hs ht =>
        have e1 := run_reps (g := g) hs
        have hyl : y.length ≠ 0 := fun e => h (List.length_eq_zero_iff.mp e)
        have hne : ¬ ((a.length : Int) + g = x.length) := by rw [hxl]; simp; omega
        have te := c_token_end (S := S1) (x := x) (a := a ++ List.replicate g 32) (y := y) (by rw [hxa]; simp) h (by omega)
        rw [ht] at te
        simp at te
        simp [le_LIM (show x.length ≤ 1000000 by omega), e1, hne, te, -addP_ref]
        have := ll_fin (l := l) S1 done (a.length + g, .bad) hdl hacc hf hdone
        simpa [ltD, ltx] using this
      | @tok _ g t y l' h hd ht r' =>
        have e1 := run_reps (g := g) (h.run0 y)
        have hx2 : x = (a ++ List.replicate g 32) ++ (t.txt ++ y) := by rw [hxa]; simp
        have hpos := h.pos
        have hne : ¬ ((a.length : Int) + g = x.length) := by rw [hxl]; simp; omega
        have te := c_token_end (S := S1) hx2 (by intro z; have := congrArg List.length z; rw [List.length_append, List.length_nil] at this; omega) (by omega)
        rw [ht] at te
        have hne2 : ¬ ((a.length : Int) + g + t.txt.length = a.length + g) := by omega
        have hcut : cut x (some ((a.length : Int) + g)) (some (a.length + g + t.txt.length)) = t.txt := cut_is (a := a ++ List.replicate g 32) (c := y) hx2 (by simp) (by simp)
        have er : ∀ {S}, F__law_run [.str x, .int (a.length + g + t.txt.length), .str [32]] S = .ok (.int (a.length + g + t.txt.length + run [32] y)) S := by
          intro S
          exact c_law_run (a := a ++ List.replicate g 32 ++ t.txt) (y := y) (by rw [hx2]; simp) (by simp; omega) (by omega)
        simp at te
        simp [le_LIM (show x.length ≤ 1000000 by omega), e1, hne, te, hne2, hacc, hcut, er, e4]
        refine ⟨a ++ List.replicate g 32 ++ t.txt, y, l', done ++ [(a.length + g, .tok t)], some (.int k), some (.int (a.length + g + t.txt.length)), (by simp; omega), by rw [hx2]; simp, ?_, by rw [hdone]; simp, by simp; omega, ?_, hf.set_new (Nat.le_refl _)⟩
        · have : (a ++ List.replicate g 32 ++ t.txt).length = a.length + g + t.txt.length := by simp; omega
          rw [this]; exact r'
        · rw [List.getElem?_set_self (lt_of_get hacc)]
          simp [ltD, ltx]
    · rintro δ S1 ⟨a, y, r, done, a3, a4, rfl, hxa, hr, hdone, hka, hacc, hf⟩
      rw [rangeL_length] at hka
      have hxl : x.length = a.length + y.length := by rw [hxa, List.length_append]
      have hy : y = [] := List.length_eq_zero_iff.mp (by omega)
      subst hy
      have hrr : r = [(a.length, .fin)] := by
        generalize hq : ([] : Cs) = q at hr
        cases hr with
        | fin g =>
          have : g = 0 := by
            have := congrArg List.length hq
            simpa using this.symm
          subst this; rfl
        | bad g h hs ht => exact absurd (List.append_eq_nil_iff.mp hq.symm).2 h
        | tok g h hd ht r' =>
          have h1 := h.pos
          have h2 := (List.append_eq_nil_iff.mp (List.append_eq_nil_iff.mp hq.symm).2).1
          rw [h2] at h1
          exact absurd h1 (by simp)
      refine ⟨done, _, _, _, rfl, ?_, hacc, hf⟩
      rw [hdone, hrr]
      have : a.length = x.length := by rw [hxl]; simp
      rw [this]
  · rintro δ S1 ⟨done, a2, a3, a4, rfl, h1, h2, h3⟩
    simp [le_LIM (show x.length ≤ 1000000 by omega), -addP_ref]
    have hdl : done.length ≤ 100001 := by
      have := congrArg List.length h1
      simp at this
      omega
    have := ll_fin (l := l) S1 done (x.length, .fin) hdl h2 h3 h1
    simpa [ltD, ltx] using this
end LW

end

section
set_option linter.all false
set_option Elab.async false
set_option maxRecDepth 100000
namespace LW
open Dl DlM
/-! the program's Line over any tokens -/
def kdOf : Tk → Cs
  | .tok t => t.kind
  | .fin => [101, 110, 100]
  | .bad => []
def kvOf : Tk → D
  | .tok t => t.val
  | _ => .int 0
theorem ptD_eq (p : Nat) (k : Tk) : ptD (p, k) = .tup [.int p, .str (kdOf k), kvOf k] := by cases k <;> rfl
def wdOf : Tk → Cs
  | .tok (.wrd w) => w
  | _ => []
theorem Shape.ne {ts : List PTok} (h : Shape ts) : ∃ p k r, ts = (p, k) :: r := by
  cases ts with
  | nil => exact h.elim
  | cons a r => exact ⟨a.1, a.2, r, rfl⟩
theorem Shape.tail {p : Nat} {t : Token} {r : List PTok} (h : Shape ((p, .tok t) :: r)) : Tok t ∧ Shape r := by
  cases r with
  | nil => exact h.elim
  | cons a r => exact h
theorem Shape.last {p : Nat} {k : Tk} {r : List PTok} (h : Shape ((p, k) :: r)) (hk : ∀ t, k ≠ .tok t) : r = [] := by
  cases r with
  | nil => rfl
  | cons a r =>
    cases k with
    | tok t => exact absurd rfl (hk t)
    | fin => exact h.elim
    | bad => exact h.elim
/-- the line at l, of the number n, has the list of tokens at t; the next ones are ts -/
def LA2 (S : Store) (l t : Nat) (n : Int) (ts : List PTok) : Prop :=
  ∃ (ds : List D) (m : Nat), S[l]? = some (.ins "Line" [("number", .int n), ("tokens", .ref t), ("many", .int m)]) ∧ S[t]? = some (.lst ds) ∧ t ≠ l ∧ ds.drop m = ts.map ptD ∧ Shape ts
theorem LA2.shape {S : Store} {l t : Nat} {n : Int} {ts : List PTok} (h : LA2 S l t n ts) : Shape ts := by
  obtain ⟨ds, m, _, _, _, _, h⟩ := h
  exact h
theorem LA2.mono {S S' : Store} {l t : Nat} {n : Int} {ts : List PTok} {xs : List Nat} (h : LA2 S l t n ts) (f : Fr xs S S') (h1 : l ∉ xs) (h2 : t ∉ xs) : LA2 S' l t n ts := by
  obtain ⟨ds, m, e1, e2, e3, e4, e5⟩ := h
  exact ⟨ds, m, f.get e1 h1, f.get e2 h2, e3, e4, e5⟩
theorem LA2.lt {S : Store} {l t : Nat} {n : Int} {ts : List PTok} (h : LA2 S l t n ts) : l < S.length ∧ t < S.length := by
  obtain ⟨ds, m, e1, e2, e3, e4, e5⟩ := h
  exact ⟨lt_of_get e1, lt_of_get e2⟩
theorem LA2.ins {S : Store} {l t : Nat} {n : Int} {ts : List PTok} (h : LA2 S l t n ts) : ∃ fs, insAt S l "Line" = some fs ∧ ∀ m : String, m ≠ "number" → m ≠ "tokens" → m ≠ "many" → getF m fs = none := by
  obtain ⟨ds, m, e1, e2, e3, e4, e5⟩ := h
  refine ⟨_, by simp [insAt, e1]; rfl, fun m h1 h2 h3 => ?_⟩
  simp [getF, Ne.symm h1, Ne.symm h2, Ne.symm h3]
theorem LA2.next {S : Store} {l t : Nat} {n : Int} {p : Nat} {k : Tk} {ts : List PTok} (h : LA2 S l t n ((p, k) :: ts)) : ∃ (ds : List D) (m : Nat), S[l]? = some (.ins "Line" [("number", .int n), ("tokens", .ref t), ("many", .int m)]) ∧ S[t]? = some (.lst ds) ∧ t ≠ l ∧
    atI ds (m : Int) = some (.tup [.int p, .str (kdOf k), kvOf k]) ∧ ds.drop (m + 1) = ts.map ptD := by
  obtain ⟨ds, m, e1, e2, e3, e4, e5⟩ := h
  have e7 : ds[m]? = some (ptD (p, k)) := by
    have := congrArg (fun z => z[0]?) e4
    simpa using this
  have e8 : ds.drop (m + 1) = ts.map ptD := by
    have := congrArg List.tail e4
    simpa using this
  exact ⟨ds, m, e1, e2, e3, atI_nat (by rw [e7, ptD_eq]), e8⟩
@[scoped simp] theorem fldP_ap (C f : String) (n : Nat) {S : Store} : fldP C f [.ref n] S = (match insAt S n C with | some fs => (match getF f fs with | some d => .ok d S | none => .stuck) | none => .stuck) := id rfl
@[scoped simp] theorem augFP_ap (C f : String) (n : Nat) (j : Int) {S : Store} : augFP C f [.ref n, .int j] S = (match insAt S n C with | some fs => (match getF f fs with | some (.int i) => if fs.length < 100 then .ok .non (S.set n (.ins C (putF f (.int (i + j)) fs))) else .stuck | _ => .stuck) | none => .stuck) := id rfl
@[scoped simp] theorem putFP_ap (C f : String) (n : Nat) (v : D) {S : Store} : putFP C f [v, .ref n] S = (match insAt S n C with | some fs => if fs.length < 100 then .ok .non (S.set n (.ins C (putF f v fs))) else .stuck | none => .stuck) := id rfl
theorem insAt_set {S : Store} {n : Nat} {C : String} {fs : List (String × D)} (h : n < S.length) : insAt (S.set n (.ins C fs)) n C = some fs := by simp [insAt, h]
section
variable {S : Store} {l t : Nat} {n : Int} {p : Nat} {k : Tk} {ts : List PTok}
theorem c_kind2 (h : LA2 S l t n ((p, k) :: ts)) : F_Line_kind [.ref l] S = .ok (.str (kdOf k)) S := by
  obtain ⟨ds, m, e1, e2, e3, e4, e5⟩ := h.next
  refine eq_of_sat (sat_defM rfl ?_)
  simp [insAt, e1, getF, lstAt_of e2, e4]
theorem c_value2 (h : LA2 S l t n ((p, k) :: ts)) : F_Line_value [.ref l] S = .ok (kvOf k) S := by
  obtain ⟨ds, m, e1, e2, e3, e4, e5⟩ := h.next
  refine eq_of_sat (sat_defM rfl ?_)
  simp [insAt, e1, getF, lstAt_of e2, e4]
theorem kd_word {k : Tk} : kdOf k = [119, 111, 114, 100] ↔ ∃ w, k = .tok (.wrd w) := by
  cases k with
  | fin => simp [kdOf]
  | bad => simp [kdOf]
  | tok t => cases t <;> simp [kdOf, Token.kind]
theorem kd_int {k : Tk} : kdOf k = [105, 110, 116, 101, 103, 101, 114] ↔ ∃ i, k = .tok (.num i) := by
  cases k with
  | fin => simp [kdOf]
  | bad => simp [kdOf]
  | tok t => cases t <;> simp [kdOf, Token.kind]
theorem kd_quo {k : Tk} : kdOf k = [113, 117, 111, 116, 101, 100] ↔ ∃ w, k = .tok (.quo w) := by
  cases k with
  | fin => simp [kdOf]
  | bad => simp [kdOf]
  | tok t => cases t <;> simp [kdOf, Token.kind]
theorem kd_sg {k : Tk} {c : Nat} : kdOf k = [c] ↔ k = .tok (.sg c) := by
  cases k with
  | fin => simp [kdOf]
  | bad => simp [kdOf]
  | tok t => cases t <;> simp [kdOf, Token.kind]
theorem kd_end {k : Tk} : kdOf k = [101, 110, 100] ↔ k = .fin := by
  cases k with
  | fin => simp [kdOf]
  | bad => simp [kdOf]
  | tok t => cases t <;> simp [kdOf, Token.kind]
theorem c_word2 (h : LA2 S l t n ((p, k) :: ts)) : F_Line_word [.ref l] S = .ok (.str (wdOf k)) S := by
  obtain ⟨fs, e1, e2⟩ := h.ins
  refine eq_of_sat (sat_defM rfl ?_)
  simp [e1, e2, c_kind2 h, c_value2 h]
  by_cases hk : kdOf k = [119, 111, 114, 100]
  · obtain ⟨w, rfl⟩ := kd_word.mp hk
    simp [kdOf, Token.kind, kvOf, Token.val, wdOf]
  · have : wdOf k = [] := by
      cases k with
      | fin => rfl
      | bad => rfl
      | tok t => cases t <;> first | rfl | exact absurd rfl hk
    simp [hk, this]
/-- BadText of this line, at this place -/
def bx (n : Int) (p : Nat) : Exc := ⟨"BadText", [("at", .int p), ("line", .int n)]⟩
theorem c_refuse2 (h : LA2 S l t n ((p, k) :: ts)) : (F_Line_refuse [.ref l] S).sat (fun _ _ => False) (fun e S' => e = bx n p ∧ S' = S) := by
  obtain ⟨ds, m, e1, e2, e3, e4, e5⟩ := h.next
  refine sat_defM rfl ?_
  simp [insAt, e1, getF, lstAt_of e2, e4, bx]
end
/-! what is read, and where it fails -/
abbrev Ans (α : Type) := Except Nat (α × List PTok)
def Ans.then {α β : Type} (r : Ans α) (f : α → List PTok → Ans β) : Ans β := match r with
  | .ok (a, ts) => f a ts
  | .error p => .error p
def pTake {α : Type} (f : Tk → Option α) : List PTok → Ans α
  | [] => .error 0
  | (p, k) :: ts => match f k with
    | some a => .ok (a, ts)
    | none => .error p
def rdQ {α : Type} (S : Store) (l t : Nat) (n : Int) (r : Ans α) (enc : α → D) : D → Store → Prop := fun d S' => ∃ v ts, r = .ok (v, ts) ∧ d = enc v ∧ LA2 S' l t n ts ∧ Fr [l] S S'
def rdE {α : Type} (S : Store) (l : Nat) (n : Int) (r : Ans α) : Exc → Store → Prop := fun e S' => ∃ p, r = .error p ∧ e = bx n p ∧ Fr [l] S S'
/-- the token is of this kind -/
def fKd (kd : Cs) (k : Tk) : Option D := if kdOf k = kd then some (kvOf k) else none
theorem c_take2 {S : Store} {l t : Nat} {n : Int} {ts : List PTok} {kd : Cs} (h : LA2 S l t n ts) (hk : kd ≠ [101, 110, 100]) (hk2 : kd ≠ []) : (F_Line_take [.ref l, .str kd] S).sat (rdQ S l t n (pTake (fKd kd) ts) id) (rdE S l n (pTake (fKd kd) ts)) := by
  obtain ⟨p, k, r, rfl⟩ := h.shape.ne
  have hsh := h.shape
  obtain ⟨fs, i1, i2⟩ := h.ins
  obtain ⟨ds, m, e1, e2, e3, e4, e5⟩ := h.next
  refine sat_defM rfl ?_
  by_cases hkd : kdOf k = kd
  · simp [i1, i2, c_kind2 h, c_value2 h, hkd]
    have i3 : insAt S l "Line" = some [("number", .int n), ("tokens", .ref t), ("many", .int m)] := by simp [insAt, e1]
    rw [i3] at i1
    cases i1
    simp [getF, putF]
    refine ⟨kvOf k, r, by simp [pTake, fKd, hkd], rfl, ⟨ds, m + 1, by rw [List.getElem?_set_self (lt_of_get e1)]; rfl, by rw [List.getElem?_set_ne (Ne.symm e3)]; exact e2, e3, e5, ?_⟩, .set (by simp)⟩
    cases k with
    | tok t => exact hsh.tail.2
    | fin => exact absurd hkd.symm hk
    | bad => exact absurd hkd.symm hk2
  · simp [i1, i2, c_kind2 h, hkd]
    refine (c_refuse2 h).imp (fun _ _ z => z.elim) ?_
    rintro e S' ⟨rfl, rfl⟩
    exact ⟨p, by simp [pTake, fKd, hkd], rfl, .refl⟩
theorem c_take_fin {S : Store} {l t : Nat} {n : Int} {p : Nat} {k : Tk} {ts : List PTok} (h : LA2 S l t n ((p, k) :: ts)) : (F_Line_take [.ref l, .str [101, 110, 100]] S).sat (fun d S' => k = .fin ∧ Fr [l] S S') (fun e S' => k ≠ .fin ∧ e = bx n p ∧ Fr [l] S S') := by
  obtain ⟨fs, i1, i2⟩ := h.ins
  obtain ⟨ds, m, e1, e2, e3, e4, e5⟩ := h.next
  refine sat_defM rfl ?_
  by_cases hkd : kdOf k = [101, 110, 100]
  · simp [i1, i2, c_kind2 h, c_value2 h, hkd]
    have i3 : insAt S l "Line" = some [("number", .int n), ("tokens", .ref t), ("many", .int m)] := by simp [insAt, e1]
    rw [i3] at i1
    cases i1
    simp [getF, putF]
    exact ⟨kd_end.mp hkd, .set (by simp)⟩
  · simp [i1, i2, c_kind2 h, hkd]
    refine (c_refuse2 h).imp (fun _ _ z => z.elim) ?_
    rintro e S' ⟨rfl, rfl⟩
    exact ⟨fun z => hkd (kd_end.mpr z), rfl, .refl⟩
def fInt (least : Int) : Tk → Option Int
  | .tok (.num i) => if least ≤ i then some i else none
  | _ => none
def fWord (ws : List Cs) : Tk → Option Cs
  | .tok (.wrd w) => if w ∈ ws then some w else none
  | _ => none
theorem inP_words {S : Store} {w : Cs} {ws : List Cs} : inP [.str w, .tup (ws.map D.str)] S = .ok (.bl (decide (w ∈ ws))) S := by
  have e1 : (ws.map D.str).all D.sc = true := by
    rw [List.all_eq_true]
    intro y hm
    obtain ⟨z, _, rfl⟩ := List.mem_map.mp hm
    rfl
  unfold inP
  simp only [D.sc, e1, Bool.and_self, if_true]
  congr 2
  rw [Bool.eq_iff_iff, List.any_eq_true, decide_eq_true_eq]
  constructor
  · rintro ⟨x, hx, e⟩
    obtain ⟨a, ha, rfl⟩ := List.mem_map.mp hx
    have : a = w := by simpa [D.eqv] using e
    exact this ▸ ha
  · intro hw
    exact ⟨.str w, List.mem_map_of_mem hw, by simp [D.eqv]⟩
/-- a line is made of a text -/
theorem c_line2 {S : Store} {x : Cs} {ts : List PTok} {i : Nat} {n : Int} (hx : Lex 0 x ts) (hl : x.length ≤ 100000) (hi : i < S.length) (h0 : S[i]? = some (.ins "Line" [])) :
    (F_Line___init__ [.ref i, .str x, .int n] S).sat fun d S' => d = .non ∧ ∃ t, S.length ≤ t ∧ LA2 S' i t n ts ∧ Fr [i] S S' := by
  refine sat_defM rfl ?_
  simp [insAt, h0, putF]
  have h1 : (S.set i (.ins "Line" [("number", .int n)]))[i]? = some (.ins "Line" [("number", .int n)]) := List.getElem?_set_self hi
  have f1 : Fr [i] S (S.set i (.ins "Line" [("number", .int n)])) := .set (by simp)
  refine (c_tokens_lex hx hl).mono ?_
  rintro d S1 ⟨t, rfl, ht, h2, f2⟩
  have ht : S.length ≤ t := by simpa using ht
  have h3 := f2.get h1 (by simp)
  simp [h3]
  have e4 : ∀ v : MO, (S1.set i v)[i]? = some v := fun v => List.getElem?_set_self (lt_of_get h3)
  simp [e4, putF]
  refine ⟨t, ht, ⟨ts.map ptD, 0, e4 _, by rw [List.getElem?_set_ne (by omega)]; exact h2, by omega, by simp, hx.shape⟩, ?_⟩
  exact (f1.trans (f2.mono (by simp))).trans (.set (by simp))
theorem pTake_len {α : Type} {f : Tk → Option α} {ts ts' : List PTok} {a : α} (h : pTake f ts = .ok (a, ts')) : ts'.length + 1 = ts.length := by
  cases ts with
  | nil => cases h
  | cons x r =>
    obtain ⟨p, k⟩ := x
    simp only [pTake] at h
    split at h
    · cases h; simp
    · cases h
/-- all of a text -/
def pAll {α : Type} (r : Ans α) : Except Nat α := match r with
  | .ok (v, (_, .fin) :: _) => .ok v
  | .ok (_, (p, _) :: _) => .error p
  | .ok (_, []) => .error 0
  | .error p => .error p
end LW

end

section
set_option linter.all false
set_option Elab.async false
set_option maxRecDepth 100000
namespace LW
open Dl DlM
/-! the law's own reading: its state -/
structure LS (S : Store) (s ps : Nat) (all : List PTok) (m : Nat) (bad : Int) : Prop where
  st : S[s]? = some (.lst [.ref ps, .int m, .int bad])
  pr : S[ps]? = some (.lst (all.map ltD))
  ne : ps ≠ s
  sh : Shape (all.drop m)
theorem LS.mono {S S' : Store} {s ps m : Nat} {all : List PTok} {bad : Int} {xs : List Nat} (h : LS S s ps all m bad) (f : Fr xs S S') (h1 : s ∉ xs) (h2 : ps ∉ xs) : LS S' s ps all m bad := ⟨f.get h.st h1, f.get h.pr h2, h.ne, h.sh⟩
theorem LS.head {S : Store} {s ps m : Nat} {all : List PTok} {bad : Int} (h : LS S s ps all m bad) : ∃ p k r, all.drop m = (p, k) :: r ∧ all[m]? = some (p, k) ∧ all.drop (m + 1) = r := by
  obtain ⟨p, k, r, e⟩ := h.sh.ne
  refine ⟨p, k, r, e, ?_, ?_⟩
  · have := congrArg (fun z => z[0]?) e
    simpa using this
  · have := congrArg List.tail e
    simpa using this
section
variable {S : Store} {s ps m : Nat} {all : List PTok} {bad : Int} {p : Nat} {k : Tk} {r : List PTok}
theorem LS.tok (h : LS S s ps all m bad) {t : Token} (e : all.drop m = (p, .tok t) :: r) : Tok t ∧ Shape r := by
  have := h.sh
  rw [e] at this
  exact this.tail
theorem LS.at_ (h : LS S s ps all m bad) (e : all.drop m = (p, k) :: r) : atI (all.map ltD) (m : Int) = some (ltD (p, k)) ∧ all.drop (m + 1) = r := by
  obtain ⟨p', k', r', e1, e2, e3⟩ := h.head
  rw [e] at e1
  cases e1
  exact ⟨atI_nat (by simp [e2]), e3⟩
theorem c_next (h : LS S s ps all m bad) (e : all.drop m = (p, k) :: r) : F__law_next [.ref s] S = .ok (.str (ltx k)) S := by
  obtain ⟨e1, _⟩ := h.at_ e
  refine eq_of_sat (sat_defM rfl ?_)
  simp [lstAt_of h.st, lstAt_of h.pr, e1, ltD]
theorem ltx_tok {t : Token} (h : Tok t) : ltx (.tok t) ≠ [] ∧ ltx (.tok t) ≠ [32] := by
  have h1 := h.pos
  refine ⟨fun z => by rw [show t.txt = [] from z] at h1; simp at h1, fun z => ?_⟩
  have h2 := h.run0 []
  rw [List.append_nil, show t.txt = [32] from z] at h2
  simp [run] at h2
/-- a token is taken if it fits -/
theorem c_takes (h : LS S s ps all m bad) (hb : bad = -1 ∨ 0 ≤ bad) (e : all.drop m = (p, k) :: r) (fits : Bool) : (F__law_takes [.ref s, .bl fits] S).sat fun d S' => Fr [s] S S' ∧
    ((0 ≤ bad ∧ d = .str [] ∧ LS S' s ps all m bad) ∨ (bad = -1 ∧ ((∃ t, k = .tok t ∧ fits = true ∧ d = .str t.txt ∧ LS S' s ps all (m + 1) (-1)) ∨ (((∀ t, k ≠ .tok t) ∨ fits = false) ∧ d = .str [] ∧ LS S' s ps all m p)))) := by
  obtain ⟨e1, e2⟩ := h.at_ e
  have hs := lt_of_get h.st
  refine sat_defM rfl ?_
  simp [c_next h e, lstAt_of h.st]
  rcases hb with rfl | hb
  · have hin : ∀ S1 : Store, S1[S.length]? = some (.lst [.str [], .str [32]]) → inP [.str (ltx k), .ref S.length] S1 = .ok (.bl (decide (ltx k ∈ [[], [32]]))) S1 := fun S1 h1 => inP_strs (ws := [[], [32]]) h1
    have q1 : ∀ T : Store, (S ++ T)[s]? = some (.lst [.ref ps, .int m, .int (-1)]) := fun T => app_get h.st
    have q2 : ∀ T : Store, (S ++ T)[ps]? = some (.lst (all.map ltD)) := fun T => app_get h.pr
    have q3 : ixN 3 2 = some 2 := rfl
    have q4 : ixN 3 1 = some 1 := rfl
    have l1 : ∀ T : Store, lstAt (S ++ T) s = some [.ref ps, .int m, .int (-1)] := fun T => lstAt_of (q1 T)
    have l2 : ∀ T : Store, lstAt (S ++ T) ps = some (all.map ltD) := fun T => lstAt_of (q2 T)
    have wr : ∀ T : Store, LS ((S ++ T).set s (.lst [.ref ps, .int m, .int p])) s ps all m p := fun T =>
      ⟨by rw [List.getElem?_set_self (lt_of_get (q1 T))], by rw [List.getElem?_set_ne (Ne.symm h.ne)]; exact q2 T, h.ne, h.sh⟩
    by_cases hf : fits = true
    · subst hf
      have hin' := hin (S ++ [.lst [.str [], .str [32]]]) (by simp)
      cases k with
      | tok t =>
        obtain ⟨ht, _⟩ := h.tok e
        obtain ⟨n1, n2⟩ := ltx_tok ht
        simp [n1, n2] at hin'
        simp [hin', l1, q1, q4]
        refine ⟨Fr.app.trans (.set (by simp)), rfl, ?_, ?_, h.ne, ?_⟩
        · rw [List.getElem?_set_self (lt_of_get (q1 _))]; rfl
        · rw [List.getElem?_set_ne (Ne.symm h.ne)]; exact q2 _
        · rw [e2]; exact (h.tok e).2
      | fin =>
        simp [ltx] at hin'
        simp [ltx, hin', l1, l2, e1, ltD, q1, q3]
        exact ⟨Fr.app.trans (.set (by simp)), wr _⟩
      | bad =>
        simp [ltx] at hin'
        simp [ltx, hin', l1, l2, e1, ltD, q1, q3]
        exact ⟨Fr.app.trans (.set (by simp)), wr _⟩
    · have hf : fits = false := by simpa using hf
      subst hf
      have w0 := wr []
      rw [List.append_nil] at w0
      simp [lstAt_of h.st, lstAt_of h.pr, e1, ltD, h.st, q3]
      exact ⟨.set (by simp), w0⟩
  · simp [hb]
    exact ⟨.refl, .inl h⟩
def isNum : Tk → Bool
  | .tok (.num _) => true
  | _ => false
theorem c_is_whole (h : Shape ((p, k) :: r)) (hl : (ltx k).length ≤ 1000000) : F__law_is_whole [.str (ltx k)] S = .ok (.bl (isNum k)) S := by
  refine eq_of_sat (sat_defM rfl ?_)
  have hdg : (D.str [48, 49, 50, 51, 52, 53, 54, 55, 56, 57]) = .str digits := rfl
  simp only [hdg]
  cases k with
  | fin => simp [ltx, isNum]
  | bad => simp [ltx, digits, isNum]
  | tok t =>
    obtain ⟨ht, _⟩ := h.tail
    have hl' : t.txt.length ≤ 1000000 := hl
    cases ht with
    | sg c hc =>
      rw [mem_signs] at hc
      have h1 : c ∉ digits := by rw [mem_digits]; omega
      have h2 : c ≠ 45 := by omega
      simp [ltx, Token.txt, h1, h2, isNum]
    | quo w hw =>
      have h1 : 34 ∉ digits := by rw [mem_digits]; omega
      have h3 : (w.length + 1 + 1) ≤ LIM := le_LIM (by simpa [Token.txt] using hl')
      simp [ltx, Token.txt, h1, h3, isNum]
    | wrd w hw =>
      obtain ⟨c, u, rfl⟩ := List.exists_cons_of_ne_nil hw.ne
      have hc := hw.all c (by simp)
      unfold letter at hc
      have h1 : c ∉ digits := by rw [mem_digits]; omega
      have h2 : c ≠ 45 := by omega
      have h3 : (u.length + 1) ≤ LIM := le_LIM (by simpa [Token.txt] using hl')
      simp [ltx, Token.txt, h1, h2, h3, isNum]
    | num i hi =>
      have h3 : (intCs i).length ≤ LIM := le_LIM (by omega)
      by_cases h0 : i < 0
      · have ei : intCs i = 45 :: natCs i.natAbs := by unfold intCs; rw [if_pos h0]
        have hn := List.length_pos_iff.mpr (natCs_ne i.natAbs)
        have h1 : 45 ∉ digits := by rw [mem_digits]; omega
        rw [ei] at h3
        have h3 : (natCs i.natAbs).length + 1 ≤ LIM := by simpa using h3
        simp [ltx, Token.txt, ei, h1, h3, isNum]
        omega
      · have ei : intCs i = natCs i.natAbs := by unfold intCs; rw [if_neg h0]
        obtain ⟨c, u, e⟩ := List.exists_cons_of_ne_nil (natCs_ne i.natAbs)
        have hc := natCs_digit i.natAbs c (by rw [e]; simp)
        have h1 : c ∈ digits := mem_digits.mpr hc
        rw [ei, e] at h3
        have h3 : u.length + 1 ≤ LIM := by simpa using h3
        simp [ltx, Token.txt, ei, e, h1, h3, isNum]
end
/-- the law's own reading, so far: right, or with its first fault -/
def lwQ {α : Type} (S : Store) (s ps : Nat) (all : List PTok) (r : Ans α) (enc : α → D) : D → Store → Prop := fun d S' => Fr [s] S S' ∧
  ((∃ v ts m, r = .ok (v, ts) ∧ d = enc v ∧ LS S' s ps all m (-1) ∧ all.drop m = ts) ∨ (∃ p m : Nat, pAll r = .error p ∧ LS S' s ps all m p))
/-- the outcome of taking one token, f telling which fits -/
def TkQ {α : Type} (s ps : Nat) (all : List PTok) (m : Nat) (bad : Int) (f : Tk → Option α) (txt : α → Cs) (d : D) (S' : Store) : Prop :=
  (0 ≤ bad ∧ d = .str [] ∧ LS S' s ps all m bad) ∨ (bad = -1 ∧ ((∃ a, pTake f (all.drop m) = .ok (a, all.drop (m + 1)) ∧ d = .str (txt a) ∧ LS S' s ps all (m + 1) (-1)) ∨ (∃ p : Nat, pTake f (all.drop m) = .error p ∧ d = .str [] ∧ LS S' s ps all m p)))
theorem takes_f {α : Type} {f : Tk → Option α} {txt : α → Cs} (hf : ∀ k a, f k = some a → ∃ t, k = .tok t ∧ t.txt = txt a) {S : Store} {s ps m : Nat} {all : List PTok} {bad : Int} {p : Nat} {k : Tk} {r : List PTok} (h : LS S s ps all m bad) (hb : bad = -1 ∨ 0 ≤ bad) (e : all.drop m = (p, k) :: r) :
    (F__law_takes [.ref s, .bl (f k).isSome] S).sat fun d S' => Fr [s] S S' ∧ TkQ s ps all m bad f txt d S' := by
  obtain ⟨_, e2⟩ := h.at_ e
  refine (c_takes h hb e _).mono ?_
  rintro d S' ⟨f1, q⟩
  refine ⟨f1, ?_⟩
  rcases q with ⟨q1, q2, q3⟩ | ⟨q1, ⟨t, hk, hfit, q2, q3⟩ | ⟨hno, q2, q3⟩⟩
  · exact .inl ⟨q1, q2, q3⟩
  · right
    refine ⟨q1, .inl ?_⟩
    obtain ⟨a, ha⟩ := Option.isSome_iff_exists.mp hfit
    obtain ⟨t', hk', ht'⟩ := hf k a ha
    rw [hk] at hk'
    cases hk'
    exact ⟨a, by rw [e]; simp only [pTake, ha]; rw [e2], by rw [q2, ht'], q3⟩
  · right
    refine ⟨q1, .inr ⟨p, ?_, q2, q3⟩⟩
    have hn : f k = none := by
      cases ha : f k with
      | none => rfl
      | some a =>
        obtain ⟨t', hk', _⟩ := hf k a ha
        rcases hno with hno | hno
        · exact absurd hk' (hno t')
        · rw [ha] at hno; cases hno
    rw [e]
    simp only [pTake, hn]
def fSg (c : Nat) : Tk → Option Unit
  | .tok (.sg d) => if d = c then some () else none
  | _ => none
theorem fInt_txt {least : Int} : ∀ k a, fInt least k = some a → ∃ t, k = .tok t ∧ t.txt = intCs a := by
  intro k a h
  cases k with
  | fin => cases h
  | bad => cases h
  | tok t =>
    cases t with
    | num i =>
      simp only [fInt] at h
      split at h
      · cases h; exact ⟨_, rfl, rfl⟩
      · cases h
    | _ => cases h
theorem fWord_txt {ws : List Cs} : ∀ k a, fWord ws k = some a → ∃ t, k = .tok t ∧ t.txt = a := by
  intro k a h
  cases k with
  | fin => cases h
  | bad => cases h
  | tok t =>
    cases t with
    | wrd w =>
      simp only [fWord] at h
      split at h
      · cases h; exact ⟨_, rfl, rfl⟩
      · cases h
    | _ => cases h
theorem fSg_txt {c : Nat} : ∀ k a, fSg c k = some a → ∃ t, k = .tok t ∧ t.txt = [c] := by
  intro k a h
  cases k with
  | fin => cases h
  | bad => cases h
  | tok t =>
    cases t with
    | sg d =>
      simp only [fSg] at h
      split at h
      · rename_i e; subst e; exact ⟨_, rfl, rfl⟩
      · cases h
    | _ => cases h
/-- a token that is this word -/
theorem ltx_wrd {p : Nat} {k : Tk} {r : List PTok} {w : Cs} (h : Shape ((p, k) :: r)) (hw : Word w) : ltx k = w ↔ k = .tok (.wrd w) := by
  constructor
  · intro e
    cases k with
    | fin => exact absurd e.symm hw.ne
    | bad =>
      have : letter 32 := hw.all 32 (by rw [← e]; simp [ltx])
      unfold letter at this; omega
    | tok t =>
      obtain ⟨ht, _⟩ := h.tail
      have e : t.txt = w := e
      cases ht with
      | wrd w' h' => exact congrArg _ (congrArg _ e)
      | sg c hc =>
        have : letter c := hw.all c (by rw [← e]; simp [Token.txt])
        rw [mem_signs] at hc; unfold letter at this; omega
      | quo w' h' =>
        have : letter 34 := hw.all 34 (by rw [← e]; simp [Token.txt])
        unfold letter at this; omega
      | num i hi =>
        obtain ⟨c, u, ec⟩ := List.exists_cons_of_ne_nil (intCs_ne i)
        have h1 : letter c := hw.all c (by rw [← e]; simp [Token.txt, ec])
        have h2 : c = 45 ∨ (48 ≤ c ∧ c ≤ 57) := by
          unfold intCs at ec
          split at ec
          · left; exact (List.cons.inj ec).1.symm
          · right; exact natCs_digit _ c (by rw [ec]; simp)
        unfold letter at h1; omega
  · rintro rfl; rfl
theorem ltx_sg {p : Nat} {k : Tk} {r : List PTok} {c : Nat} (h : Shape ((p, k) :: r)) (hc : c ∈ signs) : ltx k = [c] ↔ k = .tok (.sg c) := by
  rw [mem_signs] at hc
  constructor
  · intro e
    cases k with
    | fin => cases e
    | bad => simp [ltx] at e; omega
    | tok t =>
      obtain ⟨ht, _⟩ := h.tail
      have e : t.txt = [c] := e
      cases ht with
      | sg d hd => simp [Token.txt] at e; rw [e]
      | wrd w hw =>
        have e : w = [c] := e
        have := hw.all c (by rw [e]; simp)
        unfold letter at this; omega
      | quo w hw => simp [Token.txt] at e
      | num i hi =>
        have e : intCs i = [c] := e
        have h2 : c = 45 ∨ (48 ≤ c ∧ c ≤ 57) := by
          unfold intCs at e
          split at e
          · left; exact (List.cons.inj e).1.symm
          · right; exact natCs_digit _ c (by rw [e]; simp)
        omega
  · rintro rfl; rfl
theorem c_ends {S : Store} {s ps m : Nat} {all : List PTok} {p : Nat} {k : Tk} {r : List PTok} {bad : Int} (h : LS S s ps all m bad) (hb : bad = -1 ∨ 0 ≤ bad) (e : all.drop m = (p, k) :: r) : (F__law_ends [.ref s] S).sat fun d S' => Fr [s] S S' ∧
    LS S' s ps all m (if bad = -1 ∧ k ≠ .fin then (p : Int) else bad) := by
  obtain ⟨e1, e2⟩ := h.at_ e
  have hs := lt_of_get h.st
  have q3 : ixN 3 2 = some 2 := rfl
  refine sat_defM rfl ?_
  rcases hb with rfl | hb
  · simp [lstAt_of h.st, c_next h e]
    cases k with
    | fin => simp [ltx]; exact ⟨.refl, h⟩
    | tok t =>
      obtain ⟨ht, _⟩ := h.tok e
      simp [(ltx_tok ht).1, lstAt_of h.st, lstAt_of h.pr, e1, ltD, h.st, q3]
      exact ⟨.set (by simp), ⟨by rw [List.getElem?_set_self hs], by rw [List.getElem?_set_ne (Ne.symm h.ne)]; exact h.pr, h.ne, h.sh⟩⟩
    | bad =>
      simp [ltx, lstAt_of h.st, lstAt_of h.pr, e1, ltD, h.st, q3]
      exact ⟨.set (by simp), ⟨by rw [List.getElem?_set_self hs], by rw [List.getElem?_set_ne (Ne.symm h.ne)]; exact h.pr, h.ne, h.sh⟩⟩
  · have h1 : ¬ bad < 0 := by omega
    have h2 : ¬ (bad = -1 ∧ k ≠ .fin) := by rintro ⟨z, _⟩; omega
    rw [if_neg h2]
    simp [lstAt_of h.st, h1]
    exact ⟨.refl, h⟩
end LW

end

section
set_option linter.all false
set_option Elab.async false
set_option maxRecDepth 100000
namespace LW
open Dl DlM
/-! the law's own reading: tokens of a line -/
theorem c_int_ge {S : Store} {s ps m : Nat} {all : List PTok} {bad : Int} {p : Nat} {k : Tk} {r : List PTok} (h : LS S s ps all m bad) (e : all.drop m = (p, k) :: r) (hl : (ltx k).length ≤ 1000000) {i : Int} (hk : k = .tok (.num i)) : intP [.str (ltx k)] S = .ok (.int i) S := by
  subst hk
  obtain ⟨ht, _⟩ := h.tok e
  cases ht with
  | num i hi => simp [ltx, Token.txt, csInt_intCs, hi]
theorem tok_num {k : Tk} : isNum k = true ↔ ∃ i, k = .tok (.num i) := by
  cases k with
  | fin => simp [isNum]
  | bad => simp [isNum]
  | tok t => cases t <;> simp [isNum]
theorem txt_len_all {k : Tk} (h : ∀ t, k = .tok t → t.txt.length ≤ 100000) : (ltx k).length ≤ 1000000 := by
  cases k with
  | fin => simp [ltx]
  | bad => simp [ltx]
  | tok t => have := h t rfl; simp only [ltx]; omega
/-- texts of the tokens of a line -/
def Short (all : List PTok) : Prop := ∀ (m p : Nat) (k : Tk) (r : List PTok), all.drop m = (p, k) :: r → (ltx k).length ≤ 1000000
theorem Lex.short {o : Nat} {y : Cs} {l : List PTok} (h : Lex o y l) (hy : y.length ≤ 100000) : Short l := by
  have key : ∀ q ∈ l, (ltx q.2).length ≤ y.length + 1 := by
    clear hy
    induction h with
    | fin g => simp [ltx]
    | bad g h hs ht => simp [ltx]
    | @tok o g t y l h hd ht r ih =>
      intro q hq
      rcases List.mem_cons.mp hq with rfl | hq
      · simp [ltx]; omega
      · have := ih q hq
        simp; omega
  intro m p k r e
  have : (p, k) ∈ l := List.mem_of_mem_drop (i := m) (by rw [e]; simp)
  have := key _ this
  simp at this
  omega
section
variable {S : Store} {s ps m : Nat} {all : List PTok} {bad : Int} {δ : Env}
/-- one of two words -/
theorem read_word2 (h : LS S s ps all m bad) (hb : bad = -1 ∨ 0 ≤ bad) (w1 w2 : Cs) (hw1 : Word w1) (hw2 : Word w2) (h0 : δ[0]? = some (some (.ref s))) :
    (callM F__law_takes [(varM 0), (callM inP [(callM F__law_next [(varM 0)]), (callM lstP [(conM (.str w1)), (conM (.str w2))])])] δ S).sat fun d S' => Fr [s] S S' ∧ TkQ s ps all m bad (fWord [w1, w2]) id d S' := by
  obtain ⟨p, k, r, e, _, _⟩ := h.head
  have hS := h.sh
  rw [e] at hS
  have h2 : LS (S ++ [.lst [.str w1, .str w2]]) s ps all m bad := h.mono (.app (xs := [])) (by simp) (by simp)
  have hin : inP [.str (ltx k), .ref S.length] (S ++ [.lst [.str w1, .str w2]]) = .ok (.bl (decide (ltx k ∈ [w1, w2]))) (S ++ [.lst [.str w1, .str w2]]) := inP_strs (ws := [w1, w2]) (by simp)
  have hfit : decide (ltx k ∈ [w1, w2]) = (fWord [w1, w2] k).isSome := by
    have e1 := ltx_wrd hS hw1
    have e2 := ltx_wrd hS hw2
    simp only [List.mem_cons, List.not_mem_nil, or_false, e1, e2]
    cases k with
    | fin => simp [fWord]
    | bad => simp [fWord]
    | tok t =>
      cases t with
      | wrd w => by_cases q : w = w1 ∨ w = w2 <;> simp [fWord, q]
      | _ => simp [fWord]
  have := takes_f (f := fWord [w1, w2]) (txt := id) fWord_txt h2 hb e
  simp [h0, c_next h e, hin]
  have hfit' : (decide (ltx k = w1) || decide (ltx k = w2)) = (fWord [w1, w2] k).isSome := by
    rw [← hfit, Bool.eq_iff_iff]; simp
  rw [hfit']
  refine this.mono ?_
  rintro d S' ⟨f1, q⟩
  exact ⟨Fr.app.trans f1, q⟩
/-- a sign -/
theorem read_sg (h : LS S s ps all m bad) (hb : bad = -1 ∨ 0 ≤ bad) (c : Nat) (hc : c ∈ signs) (h0 : δ[0]? = some (some (.ref s))) :
    (callM F__law_takes [(varM 0), (callM eqP [(callM F__law_next [(varM 0)]), (conM (.str [c]))])] δ S).sat fun d S' => Fr [s] S S' ∧ TkQ s ps all m bad (fSg c) (fun _ => [c]) d S' := by
  obtain ⟨p, k, r, e, _, _⟩ := h.head
  have hS := h.sh
  rw [e] at hS
  have hfit : decide (ltx k = [c]) = (fSg c k).isSome := by
    have e1 := ltx_sg hS hc
    simp only [e1]
    cases k with
    | fin => simp [fSg]
    | bad => simp [fSg]
    | tok t =>
      cases t with
      | sg d => by_cases q : d = c <;> simp [fSg, q]
      | _ => simp [fSg]
  have := takes_f (f := fSg c) (txt := fun _ => [c]) fSg_txt h hb e
  simp [h0, c_next h e, hfit]
  exact this
end
end LW

end

section
set_option linter.all false
set_option Elab.async false
set_option maxRecDepth 100000
namespace LW
open Dl DlM
/-! places, cells, rows, right or wrong: the program -/
/-- the first n places, with commas between -/
def pPl (f : Tk → Option D) : Nat → List PTok → Ans (List D)
  | 0, ts => .ok ([], ts)
  | n + 1, ts => Ans.then (pPl f n ts) fun ds ts => Ans.then (if n = 0 then .ok ((), ts) else pTake (fSg 44) ts) fun _ ts => Ans.then (pTake f ts) fun d ts => .ok (ds ++ [d], ts)
theorem pPl_bad {f : Tk → Option D} {ts : List PTok} {p k : Nat} (h : pPl f k ts = .error p) : ∀ n, k ≤ n → pPl f n ts = .error p := by
  intro n hn
  induction n with
  | zero =>
    have : k = 0 := by omega
    subst this; exact h
  | succ n ih =>
    by_cases e : k = n + 1
    · subst e; exact h
    · show Ans.then (pPl f n ts) _ = _
      rw [ih (by omega)]; rfl
theorem pPl_len {f : Tk → Option D} : ∀ {n : Nat} {ts ts' : List PTok} {ds : List D}, pPl f n ts = .ok (ds, ts') → ds.length = n
  | 0, _, _, _, h => by cases h; rfl
  | n + 1, ts, ts', ds, h => by
    have h : Ans.then (pPl f n ts) _ = .ok (ds, ts') := h
    cases e1 : pPl f n ts with
    | error p => rw [e1] at h; cases h
    | ok x =>
      obtain ⟨d1, t1⟩ := x
      have := pPl_len e1
      rw [e1] at h
      simp only [Ans.then] at h
      split at h
      · cases e3 : pTake f _ with
        | error p => rw [e3] at h; cases h
        | ok z => rw [e3] at h; cases h; simp [this]
      · cases h
/-- the brackets, the stroke, so many places on each side -/
def pCells (f : Tk → Option D) (key others : Nat) (ts : List PTok) : Ans (List D) :=
  Ans.then (pTake (fSg 40) ts) fun _ ts => Ans.then (pPl f key ts) fun ds ts => Ans.then (pTake (fSg 124) ts) fun _ ts => Ans.then (pPl f others ts) fun es ts => Ans.then (pTake (fSg 41) ts) fun _ ts => .ok (ds ++ es, ts)
/-- a table whose name stands next -/
def fTab (sc : List Table) : Tk → Option Table
  | .tok (.wrd w) => sc.find? fun t => decide (t.name = w)
  | _ => none
def pRow (sc : List Table) (f : Tk → Option D) (ts : List PTok) : Ans (Table × List D) :=
  Ans.then (pTake (fTab sc) ts) fun t ts => Ans.then (pCells f t.key t.others ts) fun ds ts => .ok ((t, ds), ts)
def fVal : Tk → Option D
  | .tok (.num i) => some (.int i)
  | .tok (.quo w) => some (.str w)
  | _ => none
/-- a sign that is taken -/
theorem c_take_sg2 {S : Store} {l t : Nat} {n : Int} {ts : List PTok} (h : LA2 S l t n ts) (c : Nat) : (F_Line_take [.ref l, .str [c]] S).sat (rdQ S l t n (pTake (fSg c) ts) fun _ => .str [c]) (rdE S l n (pTake (fSg c) ts)) := by
  obtain ⟨p, k, r, rfl⟩ := h.shape.ne
  have hE : pTake (fSg c) ((p, k) :: r) = if kdOf k = [c] then .ok ((), r) else .error p := by
    by_cases hk : kdOf k = [c]
    · have := kd_sg.mp hk
      subst this
      simp [pTake, fSg, kdOf, Token.kind]
    · rw [if_neg hk]
      have : fSg c k = none := by
        cases k with
        | fin => rfl
        | bad => rfl
        | tok t =>
          cases t with
          | sg d =>
            have : d ≠ c := fun e => hk (by rw [e]; rfl)
            simp [fSg, this]
          | _ => rfl
      simp [pTake, this]
  refine (c_take2 h (by simp) (by simp)).imp ?_ ?_
  · rintro d S' ⟨v, ts', e1, rfl, h1, f1⟩
    simp only [pTake, fKd] at e1
    by_cases hk : kdOf k = [c]
    · rw [if_pos hk] at e1
      cases e1
      have := kd_sg.mp hk
      subst this
      exact ⟨(), _, by rw [hE, if_pos hk], rfl, h1, f1⟩
    · rw [if_neg hk] at e1; cases e1
  · rintro e S' ⟨q, e1, rfl, f1⟩
    simp only [pTake, fKd] at e1
    by_cases hk : kdOf k = [c]
    · rw [if_pos hk] at e1; cases e1
    · rw [if_neg hk] at e1; cases e1
      exact ⟨_, by rw [hE, if_neg hk], rfl, f1⟩
theorem c_ltake_value2 {S : Store} {l t : Nat} {n : Int} {ts : List PTok} (h : LA2 S l t n ts) : (F_Line_take_value [.ref l] S).sat (rdQ S l t n (pTake fVal ts) id) (rdE S l n (pTake fVal ts)) := by
  obtain ⟨p, k, r, rfl⟩ := h.shape.ne
  obtain ⟨fs, i1, i2⟩ := h.ins
  have hin : ∀ S : Store, inP [.str (kdOf k), .tup ([[105, 110, 116, 101, 103, 101, 114], [113, 117, 111, 116, 101, 100]].map D.str)] S = .ok (.bl (decide (kdOf k ∈ [[105, 110, 116, 101, 103, 101, 114], [113, 117, 111, 116, 101, 100]]))) S := fun S => inP_words
  simp only [List.map_cons, List.map_nil] at hin
  refine sat_defM rfl ?_
  by_cases hk : kdOf k = [105, 110, 116, 101, 103, 101, 114] ∨ kdOf k = [113, 117, 111, 116, 101, 100]
  · have hin2 : ∀ S : Store, inP [.str (kdOf k), .tup [.str [105, 110, 116, 101, 103, 101, 114], .str [113, 117, 111, 116, 101, 100]]] S = .ok (.bl true) S := fun S => by
      rw [hin S]
      have : decide (kdOf k ∈ [[105, 110, 116, 101, 103, 101, 114], [113, 117, 111, 116, 101, 100]]) = true := by simpa using hk
      rw [this]
    have hv : fVal k = some (kvOf k) := by
      rcases hk with hk | hk
      · obtain ⟨i, rfl⟩ := kd_int.mp hk; rfl
      · obtain ⟨w, rfl⟩ := kd_quo.mp hk; rfl
    have hne : kdOf k ≠ [101, 110, 100] ∧ kdOf k ≠ [] := by
      rcases hk with hk | hk <;> rw [hk] <;> simp
    simp [i1, i2, c_kind2 h, hin2]
    refine (c_take2 h hne.1 hne.2).imp ?_ ?_
    · rintro d S' ⟨v, ts', e1, rfl, h1, f1⟩
      simp only [pTake, fKd, if_true] at e1
      cases e1
      exact ⟨kvOf k, r, by simp only [pTake, hv], rfl, h1, f1⟩
    · rintro e S' ⟨q, e1, _⟩
      simp only [pTake, fKd, if_true] at e1
      cases e1
  · have hin2 : ∀ S : Store, inP [.str (kdOf k), .tup [.str [105, 110, 116, 101, 103, 101, 114], .str [113, 117, 111, 116, 101, 100]]] S = .ok (.bl false) S := fun S => by
      rw [hin S]
      have : decide (kdOf k ∈ [[105, 110, 116, 101, 103, 101, 114], [113, 117, 111, 116, 101, 100]]) = false := by simpa using hk
      rw [this]
    have hv : fVal k = none := by
      cases k with
      | fin => rfl
      | bad => rfl
      | tok t =>
        cases t with
        | num i => exact absurd (.inl rfl) hk
        | quo w => exact absurd (.inr rfl) hk
        | _ => rfl
    simp [i1, i2, c_kind2 h, hin2]
    refine (c_refuse2 h).imp (fun _ _ z => z.elim) ?_
    rintro e S' ⟨rfl, rfl⟩
    exact ⟨p, by simp only [pTake, hv], rfl, .refl⟩
def PlInv (S : Store) (l t : Nat) (n : Int) (x : String) (c : Nat) (f : Tk → Option D) (ts : List PTok) (k : Nat) (δ : Env) (S' : Store) : Prop := ∃ (q : Nat) (ds : List D) (ts' : List PTok) (a : Option D), δ = [some (.ref l), some (.int c), some (.fn x), some (.ref q), a] ∧ S.length ≤ q ∧ S'[q]? = some (.lst ds) ∧ pPl f k ts = .ok (ds, ts') ∧ LA2 S' l t n ts' ∧ Fr [l] S S'
def PlMid (S : Store) (l t : Nat) (n : Int) (x : String) (c q k : Nat) (ds : List D) (ts1 : List PTok) (δ : Env) (S3 : Store) : Prop := ∃ ts2, δ = [some (.ref l), some (.int c), some (.fn x), some (.ref q), some (.int k)] ∧ (if k = 0 then .ok ((), ts1) else pTake (fSg 44) ts1) = (.ok ((), ts2) : Ans Unit) ∧ LA2 S3 l t n ts2 ∧ S3[q]? = some (.lst ds) ∧ Fr [l] S S3
def PlOut (S : Store) (l t : Nat) (n : Int) (f : Tk → Option D) (c : Nat) (ts : List PTok) (d : D) (S' : Store) : Prop := ∃ m ds ts', d = .ref m ∧ S.length ≤ m ∧ S'[m]? = some (.lst ds) ∧ pPl f c ts = .ok (ds, ts') ∧ LA2 S' l t n ts' ∧ Fr [l] S S'
theorem c_take_places2 {S : Store} {l t : Nat} {n : Int} {ts : List PTok} {x : String} {F : FM} {f : Tk → Option D} (h : LA2 S l t n ts) (hF : hs_F_take_places.lookup x = some F)
    (hc : ∀ {S : Store} {ts : List PTok}, LA2 S l t n ts → (F [.ref l] S).sat (rdQ S l t n (pTake f ts) id) (rdE S l n (pTake f ts))) (c : Nat) (hcl : c ≤ 1000) :
    (F_take_places [.ref l, .int c, .fn x] S).sat (PlOut S l t n f c ts) (rdE S l n (pPl f c ts)) := by
  obtain ⟨hl, ht⟩ := h.lt
  refine sat_defM rfl ?_
  refine sat_seq (PlInv S l t n x c f ts 0) ?_ ?_
  · simp
    exact ⟨S.length, [], ts, none, rfl, Nat.le_refl _, by simp, rfl, h.mono (.app (xs := [])) (by simp) (by simp), .app⟩
  intro δ S1 hI
  refine sat_seq (PlInv S l t n x c f ts c) ?_ ?_
  · obtain ⟨q, ds, ts', a, rfl, _⟩ := id hI
    simp [inRange_nat (show c ≤ 1000000000 by omega)]
    refine for_inv (PlInv S l t n x c f ts) hI (by simp) ?_ ?_
    · rintro k hk δ S2 ⟨q, ds, ts1, a, rfl, hq, g2, hp, h2, f2⟩
      refine ⟨_, rfl, ?_⟩
      rw [rangeL_get]
      rw [rangeL_length] at hk
      have hqt : q ≠ t := by omega
      have hql : q ≠ l := by omega
      have hdl := pPl_len hp
      have hstep : ∀ z, pPl f (k + 1) ts = z → pPl f (k + 1) ts = Ans.then (if k = 0 then .ok ((), ts1) else pTake (fSg 44) ts1) fun _ ts => Ans.then (pTake f ts) fun d ts => .ok (ds ++ [d], ts) := fun z _ => by
        show Ans.then (pPl f k ts) _ = _
        rw [hp]; rfl
      have hstep := hstep _ rfl
      refine sat_seq (PlMid S l t n x c q k ds ts1) ?_ ?_
      · by_cases hk0 : k = 0
        · simp [hk0]
          exact ⟨ts1, rfl, rfl, h2, g2, f2⟩
        · obtain ⟨fs, i1, i2⟩ := h2.ins
          have hk1 : 0 < k := by omega
          simp [hk1, hk0, i1, i2]
          refine (c_take_sg2 h2 44).imp ?_ ?_
          · rintro d S3 ⟨u, ts2, e1, rfl, h3, f3⟩
            exact ⟨ts2, rfl, by rw [if_neg hk0]; exact e1, h3, f3.get g2 (by simpa using hql), f2.trans f3⟩
          · rintro e S3 ⟨p, e1, rfl, f3⟩
            refine ⟨p, pPl_bad (k := k + 1) ?_ c (by omega), rfl, f2.trans f3⟩
            rw [hstep, if_neg hk0, e1]; rfl
      rintro δ S3 ⟨ts2, rfl, e1, h3, g3, f3⟩
      have hdm : ds.length < LIM := lt_LIM (by omega)
      simp [g3, hF]
      refine (hc h3).imp ?_ ?_
      · rintro d S4 ⟨v, ts3, e2, rfl, h4, f4⟩
        have g4 := f4.get g3 (by simpa using hql)
        simp [g4, hdm]
        refine ⟨q, ds ++ [d], ts3, _, rfl, hq, by rw [List.getElem?_set_self (lt_of_get g4)], ?_, h4.mono (.set (xs := [q]) (by simp)) (by simpa using Ne.symm hql) (by simpa using Ne.symm hqt), (f3.trans f4).set_new hq⟩
        rw [hstep, e1]
        simp only [Ans.then, e2]
      · rintro e S4 ⟨p, e2, rfl, f4⟩
        refine ⟨p, pPl_bad (k := k + 1) ?_ c (by omega), rfl, f3.trans f4⟩
        rw [hstep, e1]
        simp only [Ans.then, e2]
    · intro δ S2 h2
      rw [rangeL_length] at h2
      exact h2
  rintro δ S2 ⟨q, ds, ts1, a, rfl, hq, g2, hp, h2, f2⟩
  simp
  exact ⟨q, ds, ts1, rfl, hq, g2, hp, h2, f2⟩
def CelB (S S1 : Store) (l t : Nat) (n : Int) (d1 d2 : Option D) (f : Tk → Option D) (c : Nat) (ts1 : List PTok) (δ : Env) (S2 : Store) : Prop := ∃ q ds ts2, δ = [some (.ref l), d1, d2, some (.ref q), none] ∧ S1.length ≤ q ∧ S2[q]? = some (.lst ds) ∧ pPl f c ts1 = .ok (ds, ts2) ∧ LA2 S2 l t n ts2 ∧ Fr [l] S S2
def CelD (S S3 : Store) (l t : Nat) (n : Int) (d1 d2 : Option D) (f : Tk → Option D) (c q : Nat) (ds : List D) (ts3 : List PTok) (δ : Env) (S4 : Store) : Prop := ∃ q2 es ts4, δ = [some (.ref l), d1, d2, some (.ref q), some (.ref q2)] ∧ S3.length ≤ q2 ∧ S4[q]? = some (.lst ds) ∧ S4[q2]? = some (.lst es) ∧ pPl f c ts3 = .ok (es, ts4) ∧ LA2 S4 l t n ts4 ∧ Fr [l] S S4
theorem c_take_cells2 {S : Store} {l t : Nat} {n : Int} {ts : List PTok} {x : String} {F : FM} {f : Tk → Option D} {tb : Table} (h : LA2 S l t n ts) (hF : hs_F_take_places.lookup x = some F)
    (hc : ∀ {S : Store} {ts : List PTok}, LA2 S l t n ts → (F [.ref l] S).sat (rdQ S l t n (pTake f ts) id) (rdE S l n (pTake f ts))) (hsz : tb.key + tb.others ≤ 8) :
    (F_take_cells [.ref l, tabD tb, .fn x] S).sat (rdQ S l t n (pCells f tb.key tb.others ts) D.tup) (rdE S l n (pCells f tb.key tb.others ts)) := by
  obtain ⟨hl, ht⟩ := h.lt
  refine sat_defM rfl ?_
  refine sat_seq (fun δ S1 => ∃ ts1, δ = [some (.ref l), some (tabD tb), some (.fn x), none, none] ∧ pTake (fSg 40) ts = .ok ((), ts1) ∧ LA2 S1 l t n ts1 ∧ Fr [l] S S1) ?_ ?_
  · obtain ⟨fs, i1, i2⟩ := h.ins
    simp [i1, i2]
    refine (c_take_sg2 h 40).imp ?_ ?_
    · rintro d S1 ⟨u, ts1, e1, rfl, h1, f1⟩
      exact ⟨ts1, e1, h1, f1⟩
    · rintro e S1 ⟨p, e1, rfl, f1⟩
      exact ⟨p, by unfold pCells; rw [e1]; rfl, rfl, f1⟩
  rintro δ S1 ⟨ts1, rfl, e1, h1, f1⟩
  refine sat_seq (CelB S S1 l t n (some (tabD tb)) (some (.fn x)) f tb.key ts1) ?_ ?_
  · simp [tabD]
    refine (c_take_places2 h1 hF hc tb.key (by omega)).imp ?_ ?_
    · rintro d S2 ⟨q, ds, ts2, rfl, hq, g2, e2, h2, f2⟩
      exact ⟨q, ds, ts2, rfl, hq, g2, e2, h2, f1.trans f2⟩
    · rintro e S2 ⟨p, e2, rfl, f2⟩
      exact ⟨p, by unfold pCells; rw [e1]; simp only [Ans.then]; rw [e2], rfl, f1.trans f2⟩
  rintro δ S2 ⟨q, ds, ts2, rfl, hq, g2, e2, h2, f2⟩
  have hle1 := f1.le
  refine sat_seq (fun δ S3 => ∃ ts3, δ = [some (.ref l), some (tabD tb), some (.fn x), some (.ref q), none] ∧ pTake (fSg 124) ts2 = .ok ((), ts3) ∧ S3[q]? = some (.lst ds) ∧ LA2 S3 l t n ts3 ∧ Fr [l] S S3) ?_ ?_
  · obtain ⟨fs, i1, i2⟩ := h2.ins
    simp [i1, i2]
    refine (c_take_sg2 h2 124).imp ?_ ?_
    · rintro d S3 ⟨u, ts3, e3, rfl, h3, f3⟩
      exact ⟨ts3, e3, f3.get g2 (by simp; omega), h3, f2.trans f3⟩
    · rintro e S3 ⟨p, e3, rfl, f3⟩
      exact ⟨p, by unfold pCells; rw [e1]; simp only [Ans.then]; rw [e2]; simp only; rw [e3], rfl, f2.trans f3⟩
  rintro δ S3 ⟨ts3, rfl, e3, g3, h3, f3⟩
  refine sat_seq (CelD S S3 l t n (some (tabD tb)) (some (.fn x)) f tb.others q ds ts3) ?_ ?_
  · simp [tabD]
    refine (c_take_places2 h3 hF hc tb.others (by omega)).imp ?_ ?_
    · rintro d S4 ⟨q2, es, ts4, rfl, hq2, g4, e4, h4, f4⟩
      exact ⟨q2, es, ts4, rfl, hq2, f4.get g3 (by simp; omega), g4, e4, h4, f3.trans f4⟩
    · rintro e S4 ⟨p, e4, rfl, f4⟩
      exact ⟨p, by unfold pCells; rw [e1]; simp only [Ans.then]; rw [e2]; simp only; rw [e3]; simp only; rw [e4], rfl, f3.trans f4⟩
  rintro δ S4 ⟨q2, es, ts4, rfl, hq2, g4, g4', e4, h4, f4⟩
  have hle3 := f3.le
  refine sat_seq (fun δ S5 => ∃ ts5, δ = [some (.ref l), some (tabD tb), some (.fn x), some (.ref q), some (.ref q2)] ∧ pTake (fSg 41) ts4 = .ok ((), ts5) ∧ S5[q]? = some (.lst ds) ∧ S5[q2]? = some (.lst es) ∧ LA2 S5 l t n ts5 ∧ Fr [l] S S5) ?_ ?_
  · obtain ⟨fs, i1, i2⟩ := h4.ins
    simp [i1, i2]
    refine (c_take_sg2 h4 41).imp ?_ ?_
    · rintro d S5 ⟨u, ts5, e5, rfl, h5, f5⟩
      exact ⟨ts5, e5, f5.get g4 (by simp; omega), f5.get g4' (by simp; omega), h5, f4.trans f5⟩
    · rintro e S5 ⟨p, e5, rfl, f5⟩
      exact ⟨p, by unfold pCells; rw [e1]; simp only [Ans.then]; rw [e2]; simp only; rw [e3]; simp only; rw [e4]; simp only; rw [e5], rfl, f4.trans f5⟩
  rintro δ S5 ⟨ts5, rfl, e5, g5, g5', h5, f5⟩
  have hds := pPl_len e2
  have hes := pPl_len e4
  have ha := add_lists g5 g5' (by omega)
  simp [ha, -addP_ref, lstAt]
  exact ⟨ds ++ es, ts5, by unfold pCells; rw [e1]; simp only [Ans.then]; rw [e2]; simp only; rw [e3]; simp only; rw [e4]; simp only; rw [e5], rfl, h5.mono (.app (xs := [])) (by simp) (by simp), f5.push⟩
end LW

end

section
set_option linter.all false
set_option Elab.async false
set_option maxRecDepth 100000
namespace LW
open Dl DlM
/-! rows -/
theorem c_take_value2 {S : Store} {l t : Nat} {n : Int} {ts : List PTok} (h : LA2 S l t n ts) : (F_take_value [.ref l] S).sat (rdQ S l t n (pTake fVal ts) id) (rdE S l n (pTake fVal ts)) := by
  obtain ⟨fs, i1, i2⟩ := h.ins
  refine sat_defM rfl ?_
  simp [i1, i2]
  exact c_ltake_value2 h
def rowD (r : Table × List D) : D := .tup [.str r.1.name, .tup r.2]
theorem c_take_row2 {S : Store} {l t : Nat} {n : Int} {ts : List PTok} {sc : List Table} (h : LA2 S l t n ts) (hsc : Schema sc) : (F_take_row [.ref l, .tup (sc.map tabD)] S).sat (rdQ S l t n (pRow sc fVal ts) rowD) (rdE S l n (pRow sc fVal ts)) := by
  obtain ⟨p, k, r, rfl⟩ := h.shape.ne
  obtain ⟨fs, i1, i2⟩ := h.ins
  have et := c_table_of (S := S) (ts := sc) (w := wdOf k)
  have hft : fTab sc k = sc.find? fun t => decide (t.name = wdOf k) := by
    have hno : sc.find? (fun t => decide (t.name = ([] : Cs))) = none := by
      rw [List.find?_eq_none]
      intro t ht
      simpa using (hsc.word t ht).1.ne
    cases k with
    | fin => exact hno.symm
    | bad => exact hno.symm
    | tok t => cases t <;> first | rfl | exact hno.symm
  refine sat_defM rfl ?_
  cases e : sc.find? fun t => decide (t.name = wdOf k) with
  | none =>
    rw [e] at et
    simp [i1, i2, c_word2 h, et]
    refine (c_refuse2 h).imp (fun _ _ z => z.elim) ?_
    rintro x S' ⟨rfl, rfl⟩
    exact ⟨p, by unfold pRow; simp only [pTake, hft, e]; rfl, rfl, .refl⟩
  | some tb =>
    rw [e] at et
    have hmem := List.mem_of_find?_eq_some e
    have hname : tb.name = wdOf k := by simpa using List.find?_some e
    have hk : ∃ w, k = .tok (.wrd w) := by
      have hne := (hsc.word tb hmem).1.ne
      rw [hname] at hne
      cases k with
      | fin => exact absurd rfl hne
      | bad => exact absurd rfl hne
      | tok t => cases t <;> first | exact ⟨_, rfl⟩ | exact absurd rfl hne
    obtain ⟨w, rfl⟩ := hk
    have hnn : ¬ tabD tb = .non := by simp [tabD]
    refine sat_seq (fun δ S1 => δ = [some (.ref l), some (.tup (sc.map tabD)), some (tabD tb)] ∧ S = S1) (by simp [i1, i2, c_word2 h, et]) ?_
    rintro δ _ ⟨rfl, rfl⟩
    refine sat_seq (fun δ S1 => δ = [some (.ref l), some (.tup (sc.map tabD)), some (tabD tb)] ∧ S = S1) (by simp [hnn]) ?_
    rintro δ _ ⟨rfl, rfl⟩
    refine sat_seq (fun δ S1 => δ = [some (.ref l), some (.tup (sc.map tabD)), some (tabD tb)] ∧ LA2 S1 l t n r ∧ Fr [l] S S1) ?_ ?_
    · simp [i1, i2]
      refine (c_take2 h (by simp) (by simp)).imp ?_ ?_
      · rintro d S1 ⟨v, ts1, e1, rfl, h1, f1⟩
        simp [pTake, fKd, kdOf, Token.kind] at e1
        obtain ⟨_, rfl⟩ := e1
        exact ⟨h1, f1⟩
      · rintro x S1 ⟨q, e1, _⟩
        simp [pTake, fKd, kdOf, Token.kind] at e1
    rintro δ S1 ⟨rfl, h1, f1⟩
    have hix : ∀ S : Store, ixP [tabD tb, .int 0] S = .ok (.str tb.name) S := fun S => by simp [tabD]
    simp [hix]
    refine (c_take_cells2 (x := "take_value") (F := F_take_value) (f := fVal) h1 (by simp [hs_F_take_places]) (fun h => c_take_value2 h) (hsc.size tb hmem)).imp ?_ ?_
    · rintro d S2 ⟨ds, ts2, e2, rfl, h2, f2⟩
      exact ⟨(tb, ds), ts2, by unfold pRow; simp only [pTake, hft, e, Ans.then]; rw [e2], rfl, h2, f1.trans f2⟩
    · rintro x S2 ⟨q, e2, rfl, f2⟩
      exact ⟨q, by unfold pRow; simp only [pTake, hft, e, Ans.then]; rw [e2], rfl, f1.trans f2⟩
theorem c_read_row2 {S : Store} {x : Cs} {ts : List PTok} {sc : List Table} (hx : Lex 0 x ts) (hl : x.length ≤ 100000) (hsc : Schema sc) : (F_read_row [.tup (sc.map tabD), .str x] S).sat (fun d S' => ∃ v, pAll (pRow sc fVal ts) = .ok v ∧ d = rowD v ∧ Fr [] S S') (fun e S' => ∃ p, pAll (pRow sc fVal ts) = .error p ∧ e = bx 0 p ∧ Fr [] S S') := by
  have key : ∀ {S' : Store}, Fr [S.length] S S' → Fr [] S S' := fun f => f.cut fun i hi hlt => by simp at hi; omega
  refine sat_defM rfl ?_
  simp
  refine (c_line2 (S := S ++ [.ins "Line" []]) (i := S.length) (n := 0) hx hl (by simp) (by simp)).up ?_
  rintro d S1 ⟨rfl, t, ht, h1, f1⟩
  have ff1 : Fr [S.length] S S1 := Fr.app.trans f1
  simp
  refine (c_take_row2 h1 hsc).imp ?_ ?_
  · rintro d S2 ⟨v, ts2, e2, rfl, h2, f2⟩
    obtain ⟨fs2, j1, j2⟩ := h2.ins
    simp [j1, j2]
    obtain ⟨p2, k2, r2, rfl⟩ := h2.shape.ne
    refine (c_take_fin h2).imp ?_ ?_
    · rintro d S3 ⟨rfl, f3⟩
      exact ⟨v.1, v.2, by rw [e2]; rfl, rfl, key ((ff1.trans f2).trans f3)⟩
    · rintro e S3 ⟨hk, rfl, f3⟩
      refine ⟨p2, ?_, rfl, key ((ff1.trans f2).trans f3)⟩
      rw [e2]
      cases k2 with
      | fin => exact absurd rfl hk
      | bad => rfl
      | tok t => rfl
  · rintro e S2 ⟨q, e2, rfl, f2⟩
    exact ⟨q, by rw [e2]; rfl, rfl, key (ff1.trans f2)⟩
end LW

end

section
set_option linter.all false
set_option Elab.async false
set_option maxRecDepth 100000
namespace LW
open Dl DlM
/-! places, cells, right or wrong: the law -/
theorem Ans.assoc {α β γ : Type} (r : Ans α) (f : α → List PTok → Ans β) (g : β → List PTok → Ans γ) : Ans.then (Ans.then r f) g = Ans.then r fun a ts => Ans.then (f a ts) g := by
  cases r with
  | error p => rfl
  | ok x => rfl
theorem Ans.congr {α β : Type} (r : Ans α) {f g : α → List PTok → Ans β} (h : ∀ a ts, f a ts = g a ts) : Ans.then r f = Ans.then r g := by
  have : f = g := by funext a ts; exact h a ts
  rw [this]
theorem Ans.ok_then {α β : Type} (a : α) (ts : List PTok) (f : α → List PTok → Ans β) : Ans.then (.ok (a, ts)) f = f a ts := rfl
def pSepAt (key k : Nat) (ts : List PTok) : Ans Unit := if k = key then pTake (fSg 124) ts else if k = 0 then .ok ((), ts) else pTake (fSg 44) ts
def pCl (f : Tk → Option D) (key : Nat) : Nat → List PTok → Ans (List D)
  | 0, ts => .ok ([], ts)
  | n + 1, ts => Ans.then (pCl f key n ts) fun ds ts => Ans.then (pSepAt key n ts) fun _ ts => Ans.then (pTake f ts) fun d ts => .ok (ds ++ [d], ts)
theorem pCl_key (f : Tk → Option D) (key : Nat) (ts : List PTok) : ∀ k, k ≤ key → pCl f key k ts = pPl f k ts
  | 0, _ => rfl
  | k + 1, h => by
    show Ans.then (pCl f key k ts) _ = Ans.then (pPl f k ts) _
    rw [pCl_key f key ts k (by omega)]
    refine Ans.congr _ fun ds ts => ?_
    unfold pSepAt
    rw [if_neg (by omega)]
theorem pCl_more (f : Tk → Option D) (key : Nat) (ts : List PTok) : ∀ j, pCl f key (key + (j + 1)) ts = Ans.then (pPl f key ts) fun ds ts => Ans.then (pTake (fSg 124) ts) fun _ ts => Ans.then (pPl f (j + 1) ts) fun es ts => .ok (ds ++ es, ts)
  | 0 => by
    show Ans.then (pCl f key key ts) _ = _
    rw [pCl_key f key ts key (Nat.le_refl _)]
    refine Ans.congr _ fun ds ts => ?_
    unfold pSepAt
    rw [if_pos rfl]
    refine Ans.congr _ fun _ ts => ?_
    show _ = Ans.then (Ans.then (pTake f ts) fun d ts => .ok ([] ++ [d], ts)) _
    rw [Ans.assoc]
    rfl
  | j + 1 => by
    show Ans.then (pCl f key (key + (j + 1)) ts) _ = _
    rw [pCl_more f key ts j, Ans.assoc]
    refine Ans.congr _ fun ds ts => ?_
    rw [Ans.assoc]
    refine Ans.congr _ fun _ ts => ?_
    rw [Ans.assoc]
    show _ = Ans.then (Ans.then (pPl f (j + 1) ts) _) _
    rw [Ans.assoc]
    refine Ans.congr _ fun es ts => ?_
    show Ans.then (pSepAt key (key + (j + 1)) ts) _ = _
    unfold pSepAt
    rw [if_neg (by omega), if_neg (by omega), if_neg (by omega), Ans.assoc]
    refine Ans.congr _ fun _ ts => ?_
    rw [Ans.assoc]
    refine Ans.congr _ fun d ts => ?_
    show _ = Ans.then (.ok (es ++ [d], ts)) _
    simp [Ans.then]
theorem pCl_bad {f : Tk → Option D} {key : Nat} {ts : List PTok} {p k : Nat} (h : pCl f key k ts = .error p) : ∀ n, k ≤ n → pCl f key n ts = .error p := by
  intro n hn
  induction n with
  | zero =>
    have : k = 0 := by omega
    subst this; exact h
  | succ n ih =>
    by_cases e : k = n + 1
    · subst e; exact h
    · show Ans.then (pCl f key n ts) _ = _
      rw [ih (by omega)]; rfl
theorem pCl_len {f : Tk → Option D} {key : Nat} : ∀ {n : Nat} {ts ts' : List PTok} {ds : List D}, pCl f key n ts = .ok (ds, ts') → ds.length = n
  | 0, _, _, _, h => by cases h; rfl
  | n + 1, ts, ts', ds, h => by
    have h : Ans.then (pCl f key n ts) _ = .ok (ds, ts') := h
    cases e1 : pCl f key n ts with
    | error p => rw [e1] at h; cases h
    | ok x =>
      obtain ⟨d1, t1⟩ := x
      have := pCl_len e1
      rw [e1] at h
      simp only [Ans.then] at h
      split at h
      · cases e3 : pTake f _ with
        | error p => rw [e3] at h; cases h
        | ok z => rw [e3] at h; cases h; simp [this]
      · cases h
/-- as the law reads it -/
def pCellsL (f : Tk → Option D) (key others : Nat) (ts : List PTok) : Ans (List D) :=
  Ans.then (pTake (fSg 40) ts) fun _ ts => Ans.then (pCl f key (key + others) ts) fun ds ts => Ans.then (if others = 0 then pTake (fSg 124) ts else .ok ((), ts)) fun _ ts => Ans.then (pTake (fSg 41) ts) fun _ ts => .ok (ds, ts)
theorem pCells_law (f : Tk → Option D) (key others : Nat) (ts : List PTok) : pCells f key others ts = pCellsL f key others ts := by
  unfold pCells pCellsL
  refine Ans.congr _ fun _ ts => ?_
  cases others with
  | zero =>
    rw [Nat.add_zero, pCl_key f key ts key (Nat.le_refl _)]
    refine Ans.congr _ fun ds ts => ?_
    rw [if_pos rfl]
    refine Ans.congr _ fun _ ts => ?_
    show Ans.then (.ok ([], ts)) _ = _
    simp [Ans.then]
  | succ j =>
    rw [pCl_more f key ts j, Ans.assoc]
    refine Ans.congr _ fun ds ts => ?_
    rw [Ans.assoc]
    refine Ans.congr _ fun _ ts => ?_
    rw [Ans.assoc]
    refine Ans.congr _ fun es ts => ?_
    rw [Ans.ok_then, if_neg (by omega), Ans.ok_then]
/-- a value; a term -/
def fTerm : Tk → Option D
  | .tok (.wrd w) => some (.tup [.str [118, 97, 114], .str w])
  | .tok (.num i) => some (.tup [.str [118, 97, 108, 117, 101], .int i])
  | .tok (.quo w) => some (.tup [.str [118, 97, 108, 117, 101], .str w])
  | _ => none
def fPl : Bool → Tk → Option D
  | true => fTerm
  | false => fVal
def isWrd : Tk → Bool
  | .tok (.wrd _) => true
  | _ => false
section
variable {S : Store} {s ps m : Nat} {all : List PTok} {bad : Int} {δ : Env} {p : Nat} {k : Tk} {r : List PTok}
theorem c_is_value (h : Shape ((p, k) :: r)) (hl : (ltx k).length ≤ 1000000) : F__law_is_value [.str (ltx k)] S = .ok (.bl (fVal k).isSome) S := by
  refine eq_of_sat (sat_defM rfl ?_)
  have hc : ∀ x : Cs, cut x none (some (1 : Int)) = x.take 1 := fun x => cut_to x 1
  simp [c_is_whole h hl, le_LIM hl, hc]
  cases k with
  | fin => simp [isNum, fVal, ltx]
  | bad => simp [isNum, fVal, ltx]
  | tok t =>
    obtain ⟨ht, _⟩ := h.tail
    cases ht with
    | num i hi => simp [isNum, fVal]
    | quo w hw => simp [isNum, fVal, ltx, Token.txt]
    | sg c hc =>
      rw [mem_signs] at hc
      have : c ≠ 34 := by omega
      simp [isNum, fVal, ltx, Token.txt, this]
    | wrd w hw =>
      obtain ⟨c, u, rfl⟩ := List.exists_cons_of_ne_nil hw.ne
      have := hw.all c (by simp)
      unfold letter at this
      have : c ≠ 34 := by omega
      simp [isNum, fVal, ltx, Token.txt, this]
theorem c_is_name (h : Shape ((p, k) :: r)) (hl : (ltx k).length ≤ 1000000) : F__law_is_name [.str (ltx k)] S = .ok (.bl (isWrd k)) S := by
  refine eq_of_sat (sat_defM rfl ?_)
  have hlt : (D.str [97, 98, 99, 100, 101, 102, 103, 104, 105, 106, 107, 108, 109, 110, 111, 112, 113, 114, 115, 116, 117, 118, 119, 120, 121, 122]) = .str letters := rfl
  simp only [hlt]
  have first : ∀ c u, ltx k = c :: u → (defM 1 1 (blkS [(retS (andV (callM neP [(varM 0), (conM (.str []))]) (callM inP [(callM ixP [(varM 0), (conM (.int 0))]), (conM (.str letters))])))]) [.str (ltx k)] S) = .ok (.bl (decide (c ∈ letters))) S := by
    intro c u e
    refine eq_of_sat (sat_defM rfl ?_)
    have := le_LIM hl
    rw [e] at this ⊢
    simp at this
    simp [this]
  cases k with
  | fin => simp [isWrd, ltx]
  | bad => simp [isWrd, ltx, letters]
  | tok t =>
    obtain ⟨ht, _⟩ := h.tail
    have hl' := le_LIM hl
    cases ht with
    | num i hi =>
      obtain ⟨c, u, ec⟩ := List.exists_cons_of_ne_nil (intCs_ne i)
      have h2 : c = 45 ∨ (48 ≤ c ∧ c ≤ 57) := by
        unfold intCs at ec
        split at ec
        · left; exact (List.cons.inj ec).1.symm
        · right; exact natCs_digit _ c (by rw [ec]; simp)
      have h3 : c ∉ letters := by rw [mem_letters]; unfold letter; omega
      have h4 : u.length + 1 ≤ LIM := by simpa [ltx, Token.txt, ec] using hl'
      simp [isWrd, ltx, Token.txt, ec, h3, h4]
    | quo w hw =>
      have h3 : 34 ∉ letters := by decide
      have h4 : w.length + 1 + 1 ≤ LIM := by simpa [ltx, Token.txt] using hl'
      simp [isWrd, ltx, Token.txt, h3, h4]
    | sg c hc =>
      rw [mem_signs] at hc
      have h3 : c ∉ letters := by rw [mem_letters]; unfold letter; omega
      simp [isWrd, ltx, Token.txt, h3]
    | wrd w hw =>
      obtain ⟨c, u, rfl⟩ := List.exists_cons_of_ne_nil hw.ne
      have h3 : c ∈ letters := mem_letters.mpr (hw.all c (by simp))
      have h4 : u.length + 1 ≤ LIM := by simpa [ltx, Token.txt] using hl'
      simp [isWrd, ltx, Token.txt, h3, h4]
theorem c_value_of (h : Shape ((p, k) :: r)) (hl : (ltx k).length ≤ 1000000) {d : D} (hv : fVal k = some d) : F__law_value_of [.str (ltx k)] S = .ok d S := by
  refine eq_of_sat (sat_defM rfl ?_)
  cases k with
  | fin => cases hv
  | bad => cases hv
  | tok t =>
    obtain ⟨ht, _⟩ := h.tail
    have hl' := le_LIM hl
    cases ht with
    | sg c hc => cases hv
    | wrd w hw => cases hv
    | num i hi =>
      cases hv
      obtain ⟨c, u, ec⟩ := List.exists_cons_of_ne_nil (intCs_ne i)
      have h2 : c = 45 ∨ (48 ≤ c ∧ c ≤ 57) := by
        unfold intCs at ec
        split at ec
        · left; exact (List.cons.inj ec).1.symm
        · right; exact natCs_digit _ c (by rw [ec]; simp)
      have h3 : c ≠ 34 := by omega
      have h4 : u.length + 1 ≤ LIM := by simpa [ltx, Token.txt, ec] using hl'
      have h5 := csInt_intCs i
      rw [ec] at h5 hi
      simp at hi
      simp [ltx, Token.txt, ec, h3, h4, h5, hi]
    | quo w hw =>
      cases hv
      have h4 : w.length + 1 + 1 ≤ LIM := by simpa [ltx, Token.txt] using hl'
      have hcut : cut (34 :: (w ++ [34])) (some 1) (some (-1)) = w := by
        unfold cut sIx
        simp
        have : (-1 + ((w.length : Int) + 1 + 1)).toNat - 1 = w.length := by omega
        rw [this]
        simp
      simp [ltx, Token.txt, h4, hcut]
theorem fPl_txt {b : Bool} : ∀ k a, fPl b k = some a → ∃ t, k = .tok t := by
  intro k a h
  cases k with
  | fin => cases b <;> cases h
  | bad => cases b <;> cases h
  | tok t => exact ⟨t, rfl⟩
/-- one place is taken -/
theorem read_pl (h : LS S s ps all m bad) (hb : bad = -1 ∨ 0 ≤ bad) (hsh : Short all) (terms : Bool) (h0 : δ[0]? = some (some (.ref s))) (h3 : δ[3]? = some (some (.bl terms))) :
    (callM F__law_takes [(varM 0), (orV (callM F__law_is_value [(callM F__law_next [(varM 0)])]) (andV (varM 3) (callM F__law_is_name [(callM F__law_next [(varM 0)])])))] δ S).sat fun d S' => Fr [s] S S' ∧
      ((0 ≤ bad ∧ d = .str [] ∧ LS S' s ps all m bad) ∨ (bad = -1 ∧ ((∃ p k a, all.drop m = (p, k) :: all.drop (m + 1) ∧ fPl terms k = some a ∧ d = .str (ltx k) ∧ LS S' s ps all (m + 1) (-1)) ∨ (∃ p : Nat, pTake (fPl terms) (all.drop m) = .error p ∧ d = .str [] ∧ LS S' s ps all m p)))) := by
  obtain ⟨p, k, r, e, _, e'⟩ := h.head
  have hl := hsh m p k r e
  have hS := h.sh
  rw [e] at hS
  have hfit : ((fVal k).isSome || (terms && isWrd k)) = (fPl terms k).isSome := by
    cases k with
    | fin => cases terms <;> rfl
    | bad => cases terms <;> rfl
    | tok t => cases t <;> cases terms <;> rfl
  have key : (orV (callM F__law_is_value [(callM F__law_next [(varM 0)])]) (andV (varM 3) (callM F__law_is_name [(callM F__law_next [(varM 0)])]))) δ S = .ok (.bl (fPl terms k).isSome) S := by
    rw [← hfit]
    by_cases q : (fVal k).isSome = true
    · simp [h0, c_next h e, c_is_value hS hl, q]
    · have q : (fVal k).isSome = false := by simpa using q
      cases terms with
      | false => simp [h0, h3, c_next h e, c_is_value hS hl, q]
      | true => simp [h0, h3, c_next h e, c_is_value hS hl, q, c_is_name hS hl]
  rw [callM_ap, argsM_cons, varM_ap, h0]
  simp only [Res.bind_ok, argsM_cons, key, argsM_nil]
  refine (c_takes h hb e _).mono ?_
  rintro d S' ⟨f1, q⟩
  refine ⟨f1, ?_⟩
  rcases q with ⟨q1, q2, q3⟩ | ⟨q1, ⟨t, hk, hfit, q2, q3⟩ | ⟨hno, q2, q3⟩⟩
  · exact .inl ⟨q1, q2, q3⟩
  · right
    obtain ⟨a, ha⟩ := Option.isSome_iff_exists.mp hfit
    refine ⟨q1, .inl ⟨p, k, a, by rw [e, e'], ha, ?_, q3⟩⟩
    rw [q2, hk]; rfl
  · right
    refine ⟨q1, .inr ⟨p, ?_, q2, q3⟩⟩
    have hn : fPl terms k = none := by
      cases ha : fPl terms k with
      | none => rfl
      | some a =>
        obtain ⟨t', hk'⟩ := fPl_txt k a ha
        rcases hno with hno | hno
        · exact absurd hk' (hno t')
        · rw [ha] at hno; cases hno
    rw [e]
    simp only [pTake, hn]
end
end LW

end

section
set_option linter.all false
set_option Elab.async false
set_option maxRecDepth 100000
namespace LW
open Dl DlM
theorem c_law_table {S : Store} {ts : List Table} {w : Cs} : F__law_table [.tup (ts.map tabD), .str w] S = .ok (match ts.find? (fun t => decide (t.name = w)) with | some t => tabD t | none => .non) S := c_table_of
end LW

end

section
set_option linter.all false
set_option Elab.async false
set_option maxRecDepth 100000
namespace LW
open Dl DlM
/-! the law's own reading of cells -/
section
variable {S : Store} {s ps m : Nat} {all : List PTok} {bad : Int} {δ : Env} {p : Nat} {k : Tk} {r : List PTok}
/-- where the law's reader stands, told by an answer; o: what it holds, if no fault was met -/
def LR (s ps : Nat) (all : List PTok) (bad : Int) {α : Type} (r : Ans α) (o : Option α) (m : Nat) (S' : Store) : Prop := ∃ b, LS S' s ps all m b ∧ match o with
  | some v => bad = -1 ∧ b = -1 ∧ r = .ok (v, all.drop m)
  | none => (0 ≤ bad ∧ b = bad) ∨ (bad = -1 ∧ ∃ p : Nat, b = p ∧ r = .error p)
section
variable {α β : Type} {r : Ans α} {o : Option α} {f : Tk → Option β} {txt : β → Cs} {xs : List Nat} {S' : Store}
theorem LR.mono (h : LR s ps all bad r o m S) (f : Fr xs S S') (h1 : s ∉ xs) (h2 : ps ∉ xs) : LR s ps all bad r o m S' := by
  obtain ⟨b, h3, h4⟩ := h
  exact ⟨b, h3.mono f h1 h2, h4⟩
theorem LR.any (h : LR s ps all bad r o m S) : ∃ b, LS S s ps all m b ∧ (b = -1 ∨ 0 ≤ b) := by
  obtain ⟨b, h1, h2⟩ := h
  cases o with
  | some v => exact ⟨b, h1, .inl h2.2.1⟩
  | none =>
    rcases h2 with ⟨h2, rfl⟩ | ⟨_, p, rfl, _⟩
    · exact ⟨_, h1, .inr h2⟩
    · exact ⟨_, h1, .inr (by omega)⟩
theorem LR.cases {b : Int} (h : LR s ps all bad r o m S) (h1 : LS S s ps all m b) : (b = -1 ∧ bad = -1 ∧ ∃ v, o = some v ∧ r = .ok (v, all.drop m)) ∨ (0 ≤ b ∧ o = none ∧ ((0 ≤ bad ∧ b = bad) ∨ (bad = -1 ∧ ∃ p : Nat, b = p ∧ r = .error p))) := by
  obtain ⟨b', h1', h2⟩ := h
  have : b' = b := by
    have e1 := h1.st
    have e2 := h1'.st
    rw [e1] at e2
    simpa using e2.symm
  subst this
  cases o with
  | some v => exact .inl ⟨h2.2.1, h2.1, v, rfl, h2.2.2⟩
  | none =>
    refine .inr ⟨?_, rfl, h2⟩
    rcases h2 with ⟨h2, rfl⟩ | ⟨_, p, rfl, _⟩
    · exact h2
    · omega
theorem LR.start (h : LS S s ps all m bad) (hb : bad = -1 ∨ 0 ≤ bad) : ∃ o, LR s ps all bad (.ok ((), all.drop m)) o m S := by
  rcases hb with rfl | hb
  · exact ⟨some (), _, h, rfl, rfl, rfl⟩
  · exact ⟨none, _, h, .inl ⟨hb, rfl⟩⟩
theorem LR.eq {r' : Ans α} (h : LR s ps all bad r o m S) (e : r = r') : LR s ps all bad r' o m S := e ▸ h
/-- nothing read, but the answer put in another form -/
theorem LR.then (h : LR s ps all bad r o m S) (g : α → β) : LR s ps all bad (Ans.then r fun v ts => .ok (g v, ts)) (o.map g) m S := by
  obtain ⟨b, h1, h2⟩ := h
  refine ⟨b, h1, ?_⟩
  cases o with
  | some v =>
    obtain ⟨h2, h3, rfl⟩ := h2
    exact ⟨h2, h3, rfl⟩
  | none =>
    rcases h2 with h2 | ⟨h2, p, h3, rfl⟩
    · exact .inl h2
    · exact .inr ⟨h2, p, h3, rfl⟩
theorem LR.tk {d : D} {b : Int} (h : LR s ps all bad r o m S) (h1 : LS S s ps all m b) (q : TkQ s ps all m b f txt d S') : ∃ (o' : Option (α × β)) (m' : Nat), m ≤ m' ∧ LR s ps all bad (Ans.then r fun v ts => Ans.then (pTake f ts) fun a ts => .ok ((v, a), ts)) o' m' S' ∧ (∀ x, o' = some x → o = some x.1 ∧ m' = m + 1) ∧ d = .str (match o' with | some x => txt x.2 | none => []) := by
  obtain ⟨b', h1', h2⟩ := h
  have : b' = b := by
    have e1 := h1.st
    have e2 := h1'.st
    rw [e1] at e2
    simpa using e2.symm
  subst this
  rcases q with ⟨q1, q2, q3⟩ | ⟨q1, q⟩
  · refine ⟨none, m, Nat.le_refl _, ⟨_, q3, ?_⟩, by simp, q2⟩
    cases o with
    | some v => have := h2.2.1; omega
    | none =>
      rcases h2 with h2 | ⟨h2, p, h3, rfl⟩
      · exact .inl h2
      · exact .inr ⟨h2, p, h3, rfl⟩
  · cases o with
    | none =>
      rcases h2 with h2 | ⟨h2, p, h3, rfl⟩ <;> omega
    | some v =>
      obtain ⟨h2, h3, rfl⟩ := h2
      rcases q with ⟨a, e1, e2, q3⟩ | ⟨p, e1, e2, q3⟩
      · refine ⟨some (v, a), m + 1, by omega, ⟨_, q3, h2, rfl, ?_⟩, by rintro x ⟨⟩; exact ⟨rfl, rfl⟩, e2⟩
        simp only [Ans.then]; rw [e1]
      · refine ⟨none, m, Nat.le_refl _, ⟨_, q3, .inr ⟨h2, p, rfl, ?_⟩⟩, by simp, e2⟩
        simp only [Ans.then]; rw [e1]
/-- one more token -/
theorem LR.take (h : LR s ps all bad r o m S) (hf : ∀ k a, f k = some a → ∃ t, k = .tok t ∧ t.txt = txt a) (h0 : δ[0]? = some (some (.ref s))) {e : EM} (he : ∀ b p k r, LS S s ps all m b → all.drop m = (p, k) :: r → e δ S = .ok (.bl (f k).isSome) S) :
    (callM F__law_takes [varM 0, e] δ S).sat fun d S' => Fr [s] S S' ∧ ∃ (o' : Option (α × β)) (m' : Nat), m ≤ m' ∧ LR s ps all bad (Ans.then r fun v ts => Ans.then (pTake f ts) fun a ts => .ok ((v, a), ts)) o' m' S' ∧ (∀ x, o' = some x → o = some x.1 ∧ m' = m + 1) ∧ d = .str (match o' with | some x => txt x.2 | none => []) := by
  obtain ⟨b, h1, hb⟩ := h.any
  obtain ⟨p, k, r, e1, _, _⟩ := h1.head
  have key := he b p k r h1 e1
  rw [callM_ap, argsM_cons, varM_ap, h0]
  simp only [Res.bind_ok, argsM_cons, key, argsM_nil]
  refine (takes_f hf h1 hb e1).mono ?_
  rintro d S' ⟨f1, q⟩
  exact ⟨f1, h.tk h1 q⟩
theorem next_sg {b : Int} (h : LS S s ps all m b) {p : Nat} {k : Tk} {l : List PTok} (e : all.drop m = (p, k) :: l) {c : Nat} (hc : c ∈ signs) : decide (ltx k = [c]) = (fSg c k).isSome := by
  have hS := h.sh
  rw [e] at hS
  have e1 := ltx_sg hS hc
  simp only [e1]
  cases k with
  | fin => simp [fSg]
  | bad => simp [fSg]
  | tok t =>
    cases t with
    | sg d => by_cases q : d = c <;> simp [fSg, q]
    | _ => simp [fSg]
/-- a sign is taken, and no more kept of it -/
theorem LR.sgx (h : LR s ps all bad r o m S) {c : Nat} (hc : c ∈ signs) (h0 : δ[0]? = some (some (.ref s))) {e : EM} (he : ∀ b p k r, LS S s ps all m b → all.drop m = (p, k) :: r → e δ S = .ok (.bl (decide (ltx k = [c]))) S) :
    (callM F__law_takes [varM 0, e] δ S).sat fun d S' => Fr [s] S S' ∧ (d = .str [] ∨ d = .str [c]) ∧ ∃ o' m', m ≤ m' ∧ LR s ps all bad (Ans.then r fun v ts => Ans.then (pTake (fSg c) ts) fun _ ts => .ok (v, ts)) o' m' S' ∧ (∀ x, o' = some x → o = some x) := by
  refine (h.take (f := fSg c) (txt := fun _ => [c]) fSg_txt h0 fun b p k l h1 e1 => ?_).mono ?_
  · rw [he b p k l h1 e1, next_sg h1 e1 hc]
  rintro d S1 ⟨f1, o', m', hm, h1, h2, rfl⟩
  refine ⟨f1, ?_, _, m', hm, (h1.then Prod.fst).eq ?_, ?_⟩
  · cases o' with
    | none => exact .inl rfl
    | some x => exact .inr rfl
  · rw [Ans.assoc]
    refine Ans.congr _ fun v ts => ?_
    rw [Ans.assoc]
    rfl
  · intro x hx
    cases o' with
    | none => cases hx
    | some y => cases hx; exact (h2 _ rfl).1
theorem LR.sg (h : LR s ps all bad r o m S) (c : Nat) (hc : c ∈ signs) (h0 : δ[0]? = some (some (.ref s))) :
    (callM F__law_takes [(varM 0), (callM eqP [(callM F__law_next [(varM 0)]), (conM (.str [c]))])] δ S).sat fun d S' => Fr [s] S S' ∧ (d = .str [] ∨ d = .str [c]) ∧ ∃ o' m', m ≤ m' ∧ LR s ps all bad (Ans.then r fun v ts => Ans.then (pTake (fSg c) ts) fun _ ts => .ok (v, ts)) o' m' S' ∧ (∀ x, o' = some x → o = some x) := 
  h.sgx hc h0 fun b p k l h1 e1 => by simp [h0, c_next h1 e1]
end
/-- the outcome of a part that gives a list -/
def cQ (S : Store) (s ps : Nat) (all : List PTok) (bad : Int) (r : Ans (List D)) (d : D) (S' : Store) : Prop := Fr [s] S S' ∧ ∃ q ds, d = .ref q ∧ S.length ≤ q ∧ S'[q]? = some (.lst ds) ∧ ∃ o m, LR s ps all bad r o m S' ∧ ∀ v, o = some v → v = ds
def rpQ (s ps : Nat) (all : List PTok) (m : Nat) (bad : Int) (terms : Bool) (d : D) (S1 : Store) : Prop := ((0 ≤ bad ∧ d = .str [] ∧ LS S1 s ps all m bad) ∨ (bad = -1 ∧ ((∃ p k a, all.drop m = (p, k) :: all.drop (m + 1) ∧ fPl terms k = some a ∧ d = .str (ltx k) ∧ LS S1 s ps all (m + 1) (-1)) ∨ (∃ p : Nat, pTake (fPl terms) (all.drop m) = .error p ∧ d = .str [] ∧ LS S1 s ps all m p))))
def plS : SM := blkS [(setS (.nm 6) (callM F__law_takes [(varM 0), (orV (callM F__law_is_value [(callM F__law_next [(varM 0)])]) (andV (varM 3) (callM F__law_is_name [(callM F__law_next [(varM 0)])])))])), (ifS (tbM (callM eqP [(varM 6), (conM (.str []))])) (blkS [(retS (callM lstP []))]) (blkS [])), (ifS (notT (tbM (varM 3))) (blkS [(exprS (methM "list" appendP (varM 4) [(callM F__law_value_of [(varM 6)])]))]) (blkS [(ifS (tbM (callM F__law_is_name [(varM 6)])) (blkS [(exprS (methM "list" appendP (varM 4) [(callM tupP [(conM (.str [118, 97, 114])), (varM 6)])]))]) (blkS [(exprS (methM "list" appendP (varM 4) [(callM tupP [(conM (.str [118, 97, 108, 117, 101])), (callM F__law_value_of [(varM 6)])])]))]))]))]
def plOut (S : Store) (s ps : Nat) (all : List PTok) (m : Nat) (bad : Int) (terms : Bool) (q : Nat) (ds : List D) (a1 a2 a5 a7 : Option D) (f : Flow) (S' : Store) : Prop := Fr [s, q] S S' ∧
  ((0 ≤ bad ∧ LS S' s ps all m bad ∧ ∃ n, f = .rt (.ref n) ∧ S.length ≤ n ∧ S'[n]? = some (.lst [])) ∨
   (bad = -1 ∧ ((∃ a a6, pTake (fPl terms) (all.drop m) = .ok (a, all.drop (m + 1)) ∧ f = .nx [some (.ref s), a1, a2, some (.bl terms), some (.ref q), a5, a6, a7] ∧ S'[q]? = some (.lst (ds ++ [a])) ∧ LS S' s ps all (m + 1) (-1)) ∨
     (∃ p : Nat, pTake (fPl terms) (all.drop m) = .error p ∧ LS S' s ps all m p ∧ ∃ n, f = .rt (.ref n) ∧ S.length ≤ n ∧ S'[n]? = some (.lst [])))))
theorem c_place (h : LS S s ps all m bad) (hb : bad = -1 ∨ 0 ≤ bad) (hsh : Short all) {terms : Bool} {q : Nat} {ds : List D} {a1 a2 a5 a6 a7 : Option D} (hq : S[q]? = some (.lst ds)) (hqs : q ≠ s) (hqp : q ≠ ps) (hdl : ds.length ≤ 1000000) :
    (plS [some (.ref s), a1, a2, some (.bl terms), some (.ref q), a5, a6, a7] S).sat (plOut S s ps all m bad terms q ds a1 a2 a5 a7) := by
  unfold plS
  refine sat_seq (fun δ S1 => ∃ d, δ = [some (.ref s), a1, a2, some (.bl terms), some (.ref q), a5, some d, a7] ∧ Fr [s] S S1 ∧ rpQ s ps all m bad terms d S1) ?_ ?_
  · rw [setS_ap, Res.sat_thenS]
    refine (read_pl h hb hsh terms rfl rfl).up ?_
    rintro d S1 ⟨f1, q⟩
    simp
    exact ⟨f1, q⟩
  rintro δ S1 ⟨d, rfl, f1, hc⟩
  have w1 := f1.mono (ys := [s, q]) (by simp)
  rcases hc with ⟨hb0, rfl, h1⟩ | ⟨hb1, ⟨p, k, a, e, ha, rfl, h1⟩ | ⟨p, e, rfl, h1⟩⟩
  · simp
    refine ⟨w1.push, .inl ⟨hb0, h1.mono (.app (xs := [])) (by simp) (by simp), _, rfl, f1.le, by simp⟩⟩
  · obtain ⟨t, rfl⟩ := fPl_txt k a ha
    have hl := hsh m p _ _ e
    have hS := h.sh
    rw [e] at hS
    obtain ⟨ht, _⟩ := hS.tail
    have hne := (ltx_tok ht).1
    have g1 := f1.get hq (by simpa using hqs)
    have hdm : ds.length < LIM := lt_LIM (by omega)
    have fin : ∀ x, x = a → plOut S s ps all m bad terms q ds a1 a2 a5 a7 (.nx [some (.ref s), a1, a2, some (.bl terms), some (.ref q), a5, some (.str (ltx (.tok t))), a7]) (S1.set q (.lst (ds ++ [x]))) := by
      rintro x rfl
      refine ⟨w1.trans (.set (by simp)), .inr ⟨hb1, .inl ⟨x, _, ?_, rfl, by rw [List.getElem?_set_self (lt_of_get g1)], h1.mono (.set (xs := [q]) (by simp)) (by simpa using Ne.symm hqs) (by simpa using Ne.symm hqp)⟩⟩⟩
      rw [e]
      simp only [pTake, ha]
    refine sat_seq (fun δ S2 => δ = [some (.ref s), a1, a2, some (.bl terms), some (.ref q), a5, some (.str (ltx (.tok t))), a7] ∧ S1 = S2) (by simp [hne]) ?_
    rintro δ _ ⟨rfl, rfl⟩
    cases terms with
    | false =>
      have hv := c_value_of (S := S1) hS hl (d := a) ha
      simp [hv, g1, hdm]
      exact fin a rfl
    | true =>
      have hn := c_is_name (S := S1) hS hl
      cases hw : isWrd (.tok t) with
      | true =>
        obtain ⟨w, rfl⟩ : ∃ w, t = .wrd w := by cases t <;> first | exact ⟨_, rfl⟩ | cases hw
        rw [hw] at hn
        simp [hn, g1, hdm]
        refine fin _ ?_
        cases ha
        rfl
      | false =>
        rw [hw] at hn
        obtain ⟨v, hv, rfl⟩ : ∃ v, fVal (.tok t) = some v ∧ a = .tup [.str [118, 97, 108, 117, 101], v] := by
          cases t with
          | wrd w => cases hw
          | sg c => cases ha
          | num i => cases ha; exact ⟨_, rfl, rfl⟩
          | quo w => cases ha; exact ⟨_, rfl, rfl⟩
        have hv := c_value_of (S := S1) hS hl hv
        simp [hn, hv, g1, hdm]
        exact fin _ rfl
  · simp
    refine ⟨w1.push, .inr ⟨hb1, .inr ⟨p, e, h1.mono (.app (xs := [])) (by simp) (by simp), _, rfl, f1.le, by simp⟩⟩⟩
end
theorem ifS_t {t : TM} {a b : SM} {δ : Env} {S S1 : Store} (h : t δ S = .ok true S1) : ifS t a b δ S = a δ S1 := by rw [ifS_ap, h]; rfl
theorem ifS_f {t : TM} {a b : SM} {δ : Env} {S S1 : Store} (h : t δ S = .ok false S1) : ifS t a b δ S = b δ S1 := by rw [ifS_ap, h]; rfl
theorem pCl_fin {f : Tk → Option D} {r0 : Ans Unit} {key k many p : Nat} (h : Ans.then r0 (fun _ ts => pCl f key k ts) = .error p) (hk : k ≤ many) (G : List D → List PTok → Ans (List D)) : Ans.then r0 (fun _ ts => Ans.then (pCl f key many ts) G) = .error p := by
  cases r0 with
  | error q => exact h
  | ok x =>
    have h : pCl f key k x.2 = .error p := h
    show Ans.then (pCl f key many x.2) G = .error p
    rw [pCl_bad h many hk]
    rfl
def cInv (S : Store) (s ps : Nat) (all : List PTok) (bad : Int) (key many : Nat) (terms : Bool) (r0 : Ans Unit) (k : Nat) (δ : Env) (S' : Store) : Prop := ∃ (q m : Nat) (ds : List D) (o : Option (List D)) (a5 a6 a7 : Option D), δ = [some (.ref s), some (.int key), some (.int many), some (.bl terms), some (.ref q), a5, a6, a7] ∧ S.length ≤ q ∧ S'[q]? = some (.lst ds) ∧ Fr [s] S S' ∧ k ≤ many ∧ k ≤ m ∧ ds.length ≤ k ∧
  LR s ps all bad (Ans.then r0 fun _ ts => pCl (fPl terms) key k ts) o m S' ∧ ∀ v, o = some v → v = ds
/-- after the loop -/
def cMid (S : Store) (s ps : Nat) (all : List PTok) (bad : Int) (key many : Nat) (terms : Bool) (r0 : Ans Unit) (δ : Env) (S' : Store) : Prop := ∃ (q m : Nat) (ds : List D) (o : Option (List D)) (a5 a6 a7 : Option D), δ = [some (.ref s), some (.int key), some (.int many), some (.bl terms), some (.ref q), a5, a6, a7] ∧ S.length ≤ q ∧ S'[q]? = some (.lst ds) ∧ Fr [s] S S' ∧
  LR s ps all bad (Ans.then r0 fun _ ts => pCl (fPl terms) key many ts) o m S' ∧ ∀ v, o = some v → v = ds
/-- after the sign -/
def cSep (S : Store) (s ps : Nat) (all : List PTok) (bad : Int) (key many : Nat) (terms : Bool) (r0 : Ans Unit) (k q m0 : Nat) (ds : List D) (a6 : Option D) (δ : Env) (S' : Store) : Prop := ∃ (m : Nat) (o : Option (List D)) (a7 : Option D), δ = [some (.ref s), some (.int key), some (.int many), some (.bl terms), some (.ref q), some (.int k), a6, a7] ∧ S'[q]? = some (.lst ds) ∧ Fr [s] S S' ∧ m0 ≤ m ∧
  LR s ps all bad (Ans.then (Ans.then r0 fun _ ts => pCl (fPl terms) key k ts) fun v ts => Ans.then (pSepAt key k ts) fun _ ts => .ok (v, ts)) o m S' ∧ ∀ v, o = some v → v = ds
theorem c_law_cells {S : Store} {s ps m : Nat} {all : List PTok} {bad : Int} (h : LS S s ps all m bad) (hb : bad = -1 ∨ 0 ≤ bad) (hsh : Short all) (hlen : all.length ≤ 100001) (key others : Nat) (terms : Bool) (hm8 : key + others ≤ 8) :
    (F__law_reads_cells [.ref s, .int key, .int ((key + others : Nat) : Int), .bl terms] S).sat (cQ S s ps all bad (pCells (fPl terms) key others (all.drop m))) := by
  rw [pCells_law]
  have hko : others = 0 ↔ key = key + others := by omega
  have hkl : key ≤ key + others := by omega
  generalize hmany : key + others = many at *
  have hsl := lt_of_get h.st
  have hpl := lt_of_get h.pr
  have hne := h.ne
  refine sat_defM rfl ?_
  -- the bracket
  refine sat_seq (fun δ S1 => δ = [some (.ref s), some (.int key), some (.int many), some (.bl terms), none, none, none, none] ∧ Fr [s] S S1 ∧ ∃ o1 m1, LR s ps all bad (pTake (fSg 40) (all.drop m)) o1 m1 S1) ?_ ?_
  · rw [exprS_ap, Res.sat_thenS]
    obtain ⟨o0, q0⟩ := LR.start h hb
    refine (q0.sg 40 (by decide) rfl).up ?_
    rintro d S1 ⟨f1, _, o1, m1, _, q, _⟩
    rw [Res.sat_ok]
    refine ⟨rfl, f1, o1, m1, q.eq ?_⟩
    rw [Ans.ok_then]
    cases pTake (fSg 40) (all.drop m) with
    | error p => rfl
    | ok x => rfl
  rintro δ S1 ⟨rfl, f1, o1, m1, q1⟩
  unfold pCellsL
  rw [hmany]
  generalize pTake (fSg 40) (all.drop m) = r0 at q1
  refine sat_seq (fun δ S2 => δ = [some (.ref s), some (.int key), some (.int many), some (.bl terms), some (.ref S1.length), none, none, none] ∧ S2 = S1 ++ [.lst []]) (by simp) ?_
  rintro δ _ ⟨rfl, rfl⟩
  have q2 : LR s ps all bad r0 o1 m1 (S1 ++ [.lst []]) := q1.mono (.app (xs := [])) (by simp) (by simp)
  refine sat_seq (cMid S s ps all bad key many terms r0) ?_ ?_
  · obtain ⟨b1, h2, _⟩ := q2.any
    simp [lstAt_of h2.st, lstAt_of h2.pr, h2.pr, inRange_nat (show all.length ≤ 1000000000 by omega)]
    refine for_inv (cInv S s ps all bad key many terms r0) ?_ (by simp) ?_ ?_
    · refine ⟨S1.length, m1, [], _, none, none, none, rfl, f1.le, by simp, f1.push, by omega, by omega, by simp, q2.then fun _ => [], ?_⟩
      intro v hv
      cases o1 with
      | none => cases hv
      | some u => cases hv; rfl
    · rintro k hk δ S2 ⟨q, m2, ds, o2, a5, a6, a7, rfl, hq, g2, f2, hkm, hkm2, hdl, hc, ho⟩
      refine ⟨_, rfl, ?_⟩
      rw [rangeL_get]
      rw [rangeL_length] at hk
      have hk0 : ¬ (key : Int) < 0 := by omega
      have hk1 : (0 : Int) ≤ key := by omega
      by_cases hend : k = many
      · subst hend
        simp [hk0, hk1]
        exact ⟨q, m2, ds, _, _, _, _, rfl, hq, g2, f2, hc, ho⟩
      have hend' : ¬ ((k : Int) = many) := by omega
      refine sat_seq (fun δ S3 => δ = [some (.ref s), some (.int key), some (.int many), some (.bl terms), some (.ref q), some (.int k), a6, a7] ∧ S2 = S3) (by simp [hk0, hk1, hend']) ?_
      rintro δ _ ⟨rfl, rfl⟩
      have hqs : q ∉ [s] := by simp; omega
      refine sat_seq (cSep S s ps all bad key many terms r0 k q m2 ds a6) ?_ ?_
      · by_cases hkk : k = key
        · subst hkk
          rw [ifS_t (S1 := S2) (by simp), blkS_one, exprS_ap, Res.sat_thenS]
          refine (hc.sg 124 (by decide) rfl).up ?_
          rintro d S3 ⟨f3, _, o3, m3, hm3, q3, ho3⟩
          rw [Res.sat_ok]
          refine ⟨m3, o3, a7, rfl, f3.get g2 hqs, f2.trans f3, hm3, q3.eq ?_, fun v hv => ho v (ho3 v hv)⟩
          refine Ans.congr _ fun v ts => ?_
          unfold pSepAt
          rw [if_pos rfl]
        · have hkk' : ¬ ((k : Int) = key) := by omega
          rw [ifS_f (S1 := S2) (by simp [hkk'])]
          by_cases hz : k = 0
          · subst hz
            simp
            refine ⟨m2, o2, a7, rfl, g2, f2, Nat.le_refl _, hc.eq ?_, ho⟩
            have : ∀ (v : List D) ts, Ans.then (pSepAt key 0 ts) (fun _ ts => .ok (v, ts)) = (.ok (v, ts) : Ans (List D)) := fun v ts => by
              unfold pSepAt
              rw [if_neg hkk, if_pos rfl, Ans.ok_then]
            simp only [this]
            generalize Ans.then r0 (fun _ ts => pCl (fPl terms) key 0 ts) = x
            cases x <;> rfl
          have hz' : ¬ ((k : Int) = 0) := by omega
          rw [blkS_one, ifS_t (S1 := S2) (by simp; omega)]
          refine sat_seq (fun δ S3 => ∃ d, δ = [some (.ref s), some (.int key), some (.int many), some (.bl terms), some (.ref q), some (.int k), a6, some d] ∧ (d = .str [] ∨ d = .str [44]) ∧ cSep S s ps all bad key many terms r0 k q m2 ds a6 δ S3) ?_ ?_
          · rw [setS_ap, Res.sat_thenS]
            refine (hc.sgx (c := 44) (by decide) rfl fun b p k' l h1 e1 => by by_cases hx : ltx k' = [44] <;> simp [c_next h1 e1, hk0, hx]).up ?_
            rintro d S3 ⟨f3, hd, o3, m3, hm3, q3, ho3⟩
            simp
            refine ⟨hd, m3, o3, some d, rfl, f3.get g2 hqs, f2.trans f3, hm3, q3.eq ?_, fun v hv => ho v (ho3 v hv)⟩
            refine Ans.congr _ fun v ts => ?_
            unfold pSepAt
            rw [if_neg hkk, if_neg hz]
          rintro δ S3 ⟨d, rfl, hd, hcs⟩
          rcases hd with rfl | rfl
          · simp
            exact hcs
          · simp
            exact hcs
      rintro δ S3 ⟨m3, o3, a7', rfl, g3, f3, hm3, hc3, ho3⟩
      obtain ⟨b3, h3, hb3⟩ := hc3.any
      have hstep : Ans.then r0 (fun _ ts => pCl (fPl terms) key (k + 1) ts) = Ans.then (Ans.then (Ans.then r0 fun _ ts => pCl (fPl terms) key k ts) fun v ts => Ans.then (pSepAt key k ts) fun _ ts => .ok (v, ts)) fun ds ts => Ans.then (pTake (fPl terms) ts) fun d ts => .ok (ds ++ [d], ts) := by
        simp only [Ans.assoc, Ans.ok_then]
        rfl
      refine (c_place h3 hb3 hsh g3 (by omega) (by omega) (by omega)).up ?_
      rintro fl S4 ⟨f4, hpl⟩
      have cutF : Fr [s] S S4 := ((f3.mono (ys := [s, q]) (by simp)).trans f4).cut fun i hi hlt => by simp at hi ⊢; omega
      rcases hpl with ⟨hb0, h4, n, rfl, hn, g4⟩ | ⟨hb1, ⟨a, a6', e1, rfl, g4, h4⟩ | ⟨p, e1, h4, n, rfl, hn, g4⟩⟩
      · rcases hc3.cases h3 with ⟨z, _⟩ | ⟨_, _, hz⟩
        · omega
        refine ⟨cutF, n, [], rfl, by have := f3.le; omega, g4, none, m3, ⟨b3, h4, ?_⟩, by simp⟩
        rcases hz with hz | ⟨hz, p, rfl, hz2⟩
        · exact .inl hz
        · refine .inr ⟨hz, p, rfl, ?_⟩
          refine pCl_fin (k := k + 1) ?_ (by omega) _
          rw [hstep, hz2]; rfl
      · rcases hc3.cases h3 with ⟨_, z, v, rfl, hv⟩ | ⟨z, _⟩
        · have := ho3 v rfl
          subst this
          refine ⟨q, m3 + 1, v ++ [a], some (v ++ [a]), _, _, _, rfl, hq, g4, cutF, by omega, by omega, by simp; omega, ⟨-1, h4, z, rfl, ?_⟩, by simp⟩
          rw [hstep, hv, Ans.ok_then, e1, Ans.ok_then]
        · omega
      · rcases hc3.cases h3 with ⟨_, z, v, rfl, hv⟩ | ⟨z, _⟩
        · refine ⟨cutF, n, [], rfl, by have := f3.le; omega, g4, none, m3, ⟨p, h4, .inr ⟨z, p, rfl, ?_⟩⟩, by simp⟩
          refine pCl_fin (k := k + 1) ?_ (by omega) _
          rw [hstep, hv, Ans.ok_then, e1]; rfl
        · omega
    · rintro δ S2 ⟨q, m2, ds, o2, a5, a6, a7, rfl, hq, g2, f2, hkm, hkm2, hdl, hc, ho⟩
      obtain ⟨b, h2, _⟩ := hc.any
      obtain ⟨p, k, l, e, _, _⟩ := h2.head
      have := congrArg List.length e
      rw [List.length_drop] at this
      rw [rangeL_length] at hkm2
      simp at this
      omega
  · rintro δ S2 ⟨q, m2, ds, o2, a5, a6, a7, rfl, hq, g2, f2, hc, ho⟩
    have hqs : q ∉ [s] := by simp; omega
    refine sat_seq (fun δ S3 => δ = [some (.ref s), some (.int key), some (.int many), some (.bl terms), some (.ref q), a5, a6, a7] ∧ S3[q]? = some (.lst ds) ∧ Fr [s] S S3 ∧ ∃ o3 m3, LR s ps all bad (Ans.then (Ans.then r0 fun _ ts => pCl (fPl terms) key many ts) fun v ts => Ans.then (if others = 0 then pTake (fSg 124) ts else .ok ((), ts)) fun _ ts => .ok (v, ts)) o3 m3 S3 ∧ ∀ v, o3 = some v → v = ds) ?_ ?_
    · by_cases hz : others = 0
      · have hkm : key = many := hko.mp hz
        rw [ifS_t (S1 := S2) (by simp [hkm]), blkS_one, exprS_ap, Res.sat_thenS]
        refine (hc.sg 124 (by decide) rfl).up ?_
        rintro d S3 ⟨f3, _, o3, m3, hm3, q3, ho3⟩
        rw [Res.sat_ok]
        refine ⟨rfl, f3.get g2 hqs, f2.trans f3, o3, m3, q3.eq ?_, fun v hv => ho v (ho3 v hv)⟩
        refine Ans.congr _ fun v ts => ?_
        rw [if_pos hz]
      · have hkm : ¬ ((key : Int) = many) := by omega
        rw [ifS_f (S1 := S2) (by simp [hkm])]
        simp
        refine ⟨g2, f2, o2, ⟨m2, hc.eq ?_⟩, ho⟩
        have : ∀ (v : List D) ts, Ans.then (if others = 0 then pTake (fSg 124) ts else .ok ((), ts)) (fun _ ts => .ok (v, ts)) = (.ok (v, ts) : Ans (List D)) := fun v ts => by
          rw [if_neg hz, Ans.ok_then]
        simp only [this]
        generalize Ans.then r0 (fun _ ts => pCl (fPl terms) key many ts) = x
        cases x <;> rfl
    rintro δ S3 ⟨rfl, g3, f3, o3, m3, q3, ho3⟩
    refine sat_seq (fun δ S4 => δ = [some (.ref s), some (.int key), some (.int many), some (.bl terms), some (.ref q), a5, a6, a7] ∧ S4[q]? = some (.lst ds) ∧ Fr [s] S S4 ∧ ∃ o4 m4, LR s ps all bad (Ans.then (Ans.then (Ans.then r0 fun _ ts => pCl (fPl terms) key many ts) fun v ts => Ans.then (if others = 0 then pTake (fSg 124) ts else .ok ((), ts)) fun _ ts => .ok (v, ts)) fun v ts => Ans.then (pTake (fSg 41) ts) fun _ ts => .ok (v, ts)) o4 m4 S4 ∧ ∀ v, o4 = some v → v = ds) ?_ ?_
    · rw [exprS_ap, Res.sat_thenS]
      refine (q3.sg 41 (by decide) rfl).up ?_
      rintro d S4 ⟨f4, _, o4, m4, hm4, q4, ho4⟩
      rw [Res.sat_ok]
      exact ⟨rfl, f4.get g3 hqs, f3.trans f4, o4, m4, q4, fun v hv => ho3 v (ho4 v hv)⟩
    rintro δ S4 ⟨rfl, g4, f4, o4, m4, q4, ho4⟩
    simp
    refine ⟨f4, q, ds, rfl, hq, g4, o4, m4, q4.eq ?_, ho4⟩
    simp only [Ans.assoc, Ans.ok_then]
end LW

end

section
set_option linter.all false
set_option Elab.async false
set_option maxRecDepth 100000
namespace LW
open Dl DlM
/-! the law's own reading of a row -/
theorem fTab_txt {sc : List Table} : ∀ k a, fTab sc k = some a → ∃ t, k = .tok t ∧ t.txt = a.name := by
  intro k a h
  cases k with
  | fin => cases h
  | bad => cases h
  | tok t =>
    cases t with
    | wrd w =>
      have h : sc.find? (fun t => decide (t.name = w)) = some a := h
      have := List.find?_some h
      exact ⟨_, rfl, by simpa [Token.txt] using (show a.name = w by simpa using this).symm⟩
    | _ => cases h
theorem fTab_find {sc : List Table} (hsc : Schema sc) {p : Nat} {k : Tk} {r : List PTok} (hS : Shape ((p, k) :: r)) : sc.find? (fun t => decide (t.name = ltx k)) = fTab sc k := by
  by_cases hk : ∃ w, k = .tok (.wrd w)
  · obtain ⟨w, rfl⟩ := hk
    rfl
  · have e1 : fTab sc k = none := by
      cases k with
      | fin => rfl
      | bad => rfl
      | tok t => cases t <;> first | rfl | exact absurd ⟨_, rfl⟩ hk
    rw [e1, List.find?_eq_none]
    intro t ht e
    have e : t.name = ltx k := by simpa using e
    have := (ltx_wrd hS (hsc.word t ht).1).mp e.symm
    exact hk ⟨_, this⟩
def rowI (S : Store) (s ps : Nat) (all : List PTok) (sc : List Table) (d : D) (S1 : Store) : Prop := Fr [s] S S1 ∧ ∃ (o : Option (Unit × Table)) (m : Nat), d = .str (match o with | some x => x.2.name | none => []) ∧ LR s ps all (-1) (Ans.then (pTake (fTab sc) all) fun t ts => .ok (((), t), ts)) o m S1 ∧ ∀ x, o = some x → m = 1
theorem c_law_reads_row {S : Store} {s ps : Nat} {all : List PTok} {sc : List Table} (h : LS S s ps all 0 (-1)) (hsh : Short all) (hlen : all.length ≤ 100001) (hsc : Schema sc) : (F__law_reads_row [.ref s, .tup (sc.map tabD)] S).sat (lwQ S s ps all (pRow sc fVal all) rowD) := by
  have h0 : LR s ps all (-1) (.ok ((), all.drop 0)) (some ()) 0 S := ⟨-1, h, rfl, rfl, rfl⟩
  have ed : all.drop 0 = all := rfl
  refine sat_defM rfl ?_
  refine sat_seq (fun δ S1 => ∃ d, δ = [some (.ref s), some (.tup (sc.map tabD)), some d, none] ∧ rowI S s ps all sc d S1) ?_ ?_
  · rw [setS_ap, Res.sat_thenS]
    refine (h0.take (f := fTab sc) (txt := Table.name) fTab_txt rfl fun b p k r h1 e1 => ?_).up ?_
    · have hS := h1.sh
      rw [e1] at hS
      simp [c_next h1 e1, c_law_table, fTab_find hsc hS]
      cases fTab sc k with
      | none => simp
      | some t => simp [tabD]
    rintro d S1 ⟨f1, o, m, hm, h1, ho, rfl⟩
    simp
    exact ⟨f1, o, m, by cases o <;> rfl, h1, fun x hx => (ho x hx).2⟩
  rintro δ S1 ⟨d, rfl, f1, o, m, rfl, h1, hm⟩
  cases o with
  | none =>
    simp
    obtain ⟨b, h2, h3⟩ := h1
    rcases h3 with ⟨h3, _⟩ | ⟨_, p, rfl, h3⟩
    · omega
    refine ⟨f1, .inr ⟨p, m, ?_, h2⟩⟩
    unfold pRow
    revert h3
    cases pTake (fTab sc) all with
    | error q => intro h3; cases h3; rfl
    | ok x => intro h3; cases h3
  | some x =>
    obtain ⟨_, tb⟩ := x
    have hm := hm _ rfl
    subst hm
    obtain ⟨b, h2, h3, rfl, h4⟩ := h1
    have h5 : pTake (fTab sc) all = .ok (tb, all.drop 1) := by
      revert h4
      cases pTake (fTab sc) all with
      | error q => intro h3; cases h3
      | ok x =>
        rcases x with ⟨t, ts⟩
        intro h3
        simp only [Ans.ok_then, Except.ok.injEq, Prod.mk.injEq] at h3
        obtain ⟨⟨_, rfl⟩, rfl⟩ := h3
        rfl
    have hft : sc.find? (fun t => decide (t.name = tb.name)) = some tb := by
      obtain ⟨p, k, r, e⟩ := h.sh.ne
      rw [ed] at e
      rw [e] at h5
      simp only [pTake] at h5
      split at h5
      · rename_i a ha
        simp only [Except.ok.injEq, Prod.mk.injEq] at h5
        obtain ⟨hab, _⟩ := h5
        rw [hab] at ha
        obtain ⟨t, rfl, ht⟩ := fTab_txt k _ ha
        cases t with
        | wrd w =>
          have hw : w = tb.name := ht
          rw [← hw]; exact ha
        | _ => cases ha
      · cases h5
    have hmem := List.mem_of_find?_eq_some hft
    have hne := (hsc.word tb hmem).1.ne
    have et := c_law_table (S := S1) (ts := sc) (w := tb.name)
    rw [hft] at et
    refine sat_seq (fun δ S2 => δ = [some (.ref s), some (.tup (sc.map tabD)), some (.str tb.name), none] ∧ S1 = S2) (by simp [hne]) ?_
    rintro δ _ ⟨rfl, rfl⟩
    refine sat_seq (fun δ S2 => δ = [some (.ref s), some (.tup (sc.map tabD)), some (.str tb.name), some (tabD tb)] ∧ S1 = S2) (by simp [et]) ?_
    rintro δ _ ⟨rfl, rfl⟩
    have hsum : ((tb.key : Int) + tb.others) = ((tb.key + tb.others : Nat) : Int) := by omega
    simp [tabD, hsum, -Int.natCast_add]
    refine (c_law_cells h2 (.inl rfl) hsh hlen tb.key tb.others false (hsc.size tb hmem)).mono ?_
    rintro d S2 ⟨f2, q, ds, rfl, hq, g2, o2, m2, ⟨b2, hL, hc⟩, ho2⟩
    simp [lstAt_of g2]
    have epr : pRow sc fVal all = Ans.then (pCells fVal tb.key tb.others (all.drop 1)) fun ds ts => .ok ((tb, ds), ts) := by
      unfold pRow
      rw [h5, Ans.ok_then]
    refine ⟨f1.trans f2, ?_⟩
    cases o2 with
    | some v =>
      obtain ⟨_, rfl, e⟩ := hc
      have := ho2 v rfl
      subst this
      refine .inl ⟨(tb, v), all.drop m2, m2, ?_, rfl, hL, rfl⟩
      rw [epr, show pCells fVal tb.key tb.others (all.drop 1) = .ok (v, all.drop m2) from e]
      rfl
    | none =>
      rcases hc with ⟨z, _⟩ | ⟨_, p, rfl, e⟩
      · omega
      refine .inr ⟨p, m2, ?_, hL⟩
      rw [epr, show pCells fVal tb.key tb.others (all.drop 1) = .error p from e]
      rfl
end LW

end

section
set_option linter.all false
set_option Elab.async false
set_option maxRecDepth 100000
namespace LW
open Dl DlM
/-! what the law takes for due, and what the program does -/
def resD {α : Type} (enc : α → D) : Except Nat α → D
  | .ok v => .tup [.str [103, 111, 111, 100], enc v]
  | .error p => .tup [.str [98, 97, 100], .int 0, .int p]
theorem bx_caught (n : Int) (p : Nat) : xT (bx n p).cls "DoubtError" = some true := rfl
theorem bx_suite (n : Int) (p : Nat) : (hIf (hOr (hNot (hIs xT ["BadText"])) (hIs xT ["NoReport", "NoSchema", "NoRules", "NoVerdict", "NoNumber", "Forbidden"])) (hRet (hCons (hCon (.str [111, 116, 104, 101, 114])) hNil)) (hIf (hIs xT ["NoGuard", "NoKept", "NoTrust"]) (hRet (hCons (hCon (.str [111, 116, 104, 101, 114])) hNil)) (hRet (hCons (hCon (.str [98, 97, 100])) (hCons (hFld "BadText" "line") (hCons (hFld "BadText" "at") hNil)))))) (bx n p) = some (.tup [.str [98, 97, 100], .int n, .int p]) := rfl
end LW

end

section
set_option linter.all false
set_option Elab.async false
set_option maxRecDepth 100000
namespace LW
open Dl DlM
theorem c_due {S : Store} {x : Cs} {ts : List PTok} {sc : List Table} (hx : Lex 0 x ts) (hl : x.length ≤ 100000) (hsc : Schema sc) : (F__law_due [.tup (sc.map tabD), .str x] S).sat fun d S' => d = resD rowD (pAll (pRow sc fVal ts)) ∧ Fr [] S S' := by
  refine sat_defM rfl ?_
  have hlen := hx.len
  refine sat_seq (fun δ S1 => ∃ s ps, δ = [some (.tup (sc.map tabD)), some (.str x), some (.ref s), none] ∧ S.length ≤ s ∧ S.length ≤ ps ∧ LS S1 s ps ts 0 (-1) ∧ Fr [] S S1) ?_ ?_
  · simp
    refine (c_law_lex hx hl).mono ?_
    rintro d S1 ⟨n, rfl, hn, h1, f1⟩
    have hn1 := lt_of_get h1
    exact ⟨f1.le, n, hn, ⟨by simp, app_get h1, by omega, hx.shape⟩, f1.push⟩
  rintro δ S1 ⟨s, ps, rfl, hs, hps, h1, f1⟩
  have cutF : ∀ {T T' : Store}, Fr [] S T → Fr [s] T T' → Fr [] S T' := fun a b => ((Fr.nil (ys := [s]) a).trans b).cut fun i hi hlt => by simp at hi; omega
  refine sat_seq (fun δ S2 => ∃ d, δ = [some (.tup (sc.map tabD)), some (.str x), some (.ref s), some d] ∧ lwQ S1 s ps ts (pRow sc fVal ts) rowD d S2) ?_ ?_
  · simp
    refine (c_law_reads_row h1 (hx.short hl) (by omega) hsc).mono ?_
    rintro d S2 q
    exact q
  rintro δ S2 ⟨d, rfl, f2, q⟩
  have fin : ∀ (m : Nat) (bad : Int) (hb : bad = -1 ∨ 0 ≤ bad), LS S2 s ps ts m bad → (∀ (p : Nat) (k : Tk) (r : List PTok), ts.drop m = (p, k) :: r → (if (if bad = -1 ∧ k ≠ .fin then (p : Int) else bad) < 0 then D.tup [.str [103, 111, 111, 100], d] else .tup [.str [98, 97, 100], .int 0, .int (if bad = -1 ∧ k ≠ .fin then (p : Int) else bad)]) = resD rowD (pAll (pRow sc fVal ts))) →
      (blkS [(exprS (callM F__law_ends [(varM 2)])), (ifS (tbM (callM geP [(callM ixP [(varM 2), (conM (.int 2))]), (conM (.int 0))])) (blkS [(retS (callM tupP [(conM (.str [98, 97, 100])), (conM (.int 0)), (callM ixP [(varM 2), (conM (.int 2))])]))]) (blkS [])), (retS (callM tupP [(conM (.str [103, 111, 111, 100])), (varM 3)]))] [some (.tup (sc.map tabD)), some (.str x), some (.ref s), some d] S2).sat fun f S1 => match f with | .rt d => d = resD rowD (pAll (pRow sc fVal ts)) ∧ Fr [] S S1 | .nx _ => D.non = resD rowD (pAll (pRow sc fVal ts)) ∧ Fr [] S S1 | .ex e _ => False | _ => False := by
    intro m bad hb hL hd
    obtain ⟨p, k, r, e, _, _⟩ := hL.head
    have hd := hd p k r e
    refine sat_seq (fun δ S3 => δ = [some (.tup (sc.map tabD)), some (.str x), some (.ref s), some d] ∧ Fr [] S S3 ∧ LS S3 s ps ts m (if bad = -1 ∧ k ≠ .fin then (p : Int) else bad)) ?_ ?_
    · simp
      refine (c_ends hL hb e).mono ?_
      rintro d3 S3 ⟨f3, h3⟩
      exact ⟨cutF (cutF f1 f2) f3, h3⟩
    rintro δ S3 ⟨rfl, f3, h3⟩
    generalize (if bad = -1 ∧ k ≠ .fin then (p : Int) else bad) = b at h3 hd
    by_cases h0 : b < 0
    · have h0' : ¬ 0 ≤ b := by omega
      rw [if_pos h0] at hd
      simp [lstAt_of h3.st, h0']
      exact ⟨hd, f3⟩
    · have h0' : 0 ≤ b := by omega
      rw [if_neg h0] at hd
      simp [lstAt_of h3.st, h0']
      exact ⟨hd, f3⟩
  rcases q with ⟨v, ts', m, hv, rfl, hL, hts⟩ | ⟨p, m, hp, hL⟩
  · refine fin m (-1) (.inl rfl) hL ?_
    intro p k r e
    rw [hv, ← hts, e]
    cases k with
    | fin => simp [pAll, resD]
    | bad => simp [pAll, resD]
    | tok t => simp [pAll, resD]
  · refine fin m p (.inr (by omega)) hL ?_
    intro p' k r e
    have : ¬ ((p : Int) = -1 ∧ k ≠ .fin) := by rintro ⟨z, _⟩; omega
    rw [if_neg this, hp, if_neg (by omega)]
    rfl
theorem c_result {S : Store} {x : Cs} {ts : List PTok} {sc : List Table} (hx : Lex 0 x ts) (hl : x.length ≤ 100000) (hsc : Schema sc) : (F__law_result [.tup (sc.map tabD), .str x] S).sat fun d S' => d = resD rowD (pAll (pRow sc fVal ts)) ∧ Fr [] S S' := by
  refine sat_defM rfl ?_
  rw [blkS_one, tryS_ap, Res.sat_bind]
  simp
  refine (c_read_row2 hx hl hsc).imp ?_ ?_
  · rintro d S1 ⟨v, e1, rfl, f1⟩
    exact ⟨by rw [e1]; rfl, f1⟩
  · rintro e S1 ⟨p, e1, rfl, f1⟩
    simp [bx_caught, bx_suite]
    exact ⟨by rw [e1]; rfl, f1⟩
end LW

end

section
set_option linter.all false
set_option Elab.async false
set_option maxRecDepth 100000
namespace LW
open Dl DlM
/-! texts that are drawn and spoilt -/
theorem run_mid {cs u y : Cs} (h : ∃ c ∈ u, c ∉ cs) : run cs (u ++ y) = run cs u := by
  induction u with
  | nil => obtain ⟨c, hc, _⟩ := h; cases hc
  | cons d u ih =>
    by_cases hd : d ∈ cs
    · have h' : ∃ c ∈ u, c ∉ cs := by
        obtain ⟨c, hc, hn⟩ := h
        rcases List.mem_cons.mp hc with rfl | hc
        · exact absurd hd hn
        · exact ⟨c, hc, hn⟩
      simp only [List.cons_append, run, if_pos hd, ih h']
    · simp only [List.cons_append, run, if_neg hd]
theorem asm_DR : ∀ {l : List Gap} {z : Nat}, Told l z → DR 62 (asm l z)
  | [], z, _ => fun i => by
    have : run digits ((List.replicate z 32).drop i) = 0 := by
      rw [List.drop_replicate]
      cases z - i with
      | zero => rfl
      | succ n => rw [List.replicate_succ]; rfl
    show run digits ((List.replicate z 32).drop i) ≤ 62
    omega
  | (g, t) :: r, z, h => by
    obtain ⟨hg, hd, hr⟩ := h
    have ih := asm_DR hr
    have hl := txt_len hg
    generalize hasm : asm r z = y at ih hd
    have key : DR 62 (t.txt ++ y) := fun i => by
      rw [List.drop_append]
      by_cases hi : t.txt.length ≤ i
      · rw [List.drop_eq_nil_of_le hi]
        exact ih _
      · have h0 : i - t.txt.length = 0 := by omega
        rw [h0, List.drop_zero]
        have hrl := run_le digits (t.txt.drop i)
        rw [List.length_drop] at hrl
        have hlast : ∀ c, t.txt.getLast? = some c → c ∉ digits → run digits (t.txt.drop i ++ y) ≤ 62 := by
          intro c hc hn
          rw [run_mid ⟨c, ?_, hn⟩]
          · omega
          · have : (t.txt.drop i).getLast? = some c := by
              rw [List.getLast?_drop, if_neg (by omega)]; exact hc
            exact List.mem_of_getLast? this
        cases hg with
        | sg c hc =>
          refine hlast c rfl ?_
          rw [mem_signs] at hc; rw [mem_digits]; omega
        | quo w hw _ =>
          refine hlast 34 (by show (34 :: (w ++ [34])).getLast? = some 34; rw [← List.cons_append, List.getLast?_concat]) ?_
          rw [mem_digits]; omega
        | wrd w hw _ =>
          have hne : w ≠ [] := hw.ne
          refine hlast (w.getLast hne) (List.getLast?_eq_some_getLast hne) ?_
          have := hw.all _ (List.getLast_mem hne)
          unfold letter at this
          rw [mem_digits]; omega
        | num j hj =>
          have h1 := (run_split digits ((Token.num j).txt.drop i) y).1
          have h2 : run digits y = 0 := by
            cases y with
            | nil => rfl
            | cons c u =>
              have := hd c rfl
              show (if c ∈ digits then _ else _) = 0
              rw [if_neg this]
          omega
    intro i
    rw [show asm ((g, t) :: r) z = List.replicate g 32 ++ (t.txt ++ asm r z) from rfl, hasm]
    rw [List.drop_append, List.drop_replicate]
    cases hgi : g - i with
    | zero => simp only [List.replicate_zero, List.nil_append]; exact key _
    | succ n => rw [List.replicate_succ]; show (if 32 ∈ digits then _ else _) ≤ 62; rw [if_neg (by decide)]; omega
/-- a line of not too many tokens -/
structure Txt (k : Nat) (x : Cs) : Prop where
  len : x.length ≤ 70000
  dr : DR k x
theorem Form.txt {ts : List Token} {x : Cs} (h : Form ts x) (hg : ∀ t ∈ ts, Good t) (hl : ts.length ≤ 1000) : Txt 62 x := by
  obtain ⟨l, z, rfl, h1, h2, h3, h4⟩ := h.ex
  have hgl : ∀ p ∈ l, Good p.2 := fun p hp => hg _ (by rw [← h1]; exact List.mem_map_of_mem hp)
  have hll : l.length = ts.length := by rw [← h1]; simp
  refine ⟨?_, asm_DR (told_of hgl h2)⟩
  have := asm_len (b := 3) (z := z) (l := l) fun p hp => ⟨h3 p hp, hgl p hp⟩
  omega
theorem Txt.lex {k : Nat} {x : Cs} (h : Txt k x) (hk : k ≤ 600) : ∃ ts, Lex 0 x ts := Lex.ex x.length x 0 (Nat.le_refl _) (h.dr.mono hk)
theorem Txt.small {x : Cs} (h : x.length ≤ 60) : Txt 200 x := ⟨by omega, DR.of_len (by omega)⟩
theorem Txt.mono {k j : Nat} {x : Cs} (h : Txt k x) (hk : k ≤ j) : Txt j x := ⟨h.len, h.dr.mono hk⟩
/-- a character put in somewhere -/
def Odd (x y : Cs) : Prop := y = x ∨ ∃ n c, y = x.take n ++ [c] ++ x.drop n
theorem Odd.txt {x y : Cs} (h : Odd x y) (hx : Txt 62 x) (hl : x.length ≤ 69000) : Txt 200 y := by
  rcases h with rfl | ⟨n, c, rfl⟩
  · exact hx.mono (by omega)
  · refine ⟨?_, (hx.dr.put n [c] (by simp)).mono (by omega)⟩
    simp only [List.length_append, List.length_take, List.length_drop, List.length_cons, List.length_nil]
    omega
theorem c_odd {S : Store} {r : Nat} {x : Cs} (h : Ints S r) (hl : x.length ≤ 70000) : (F__law_odd [.ref r, .str x] S).sat fun d S' => ∃ y, d = .str y ∧ Odd x y ∧ Dr r S S' := by
  have hr := h.lt
  refine sat_defM rfl ?_
  refine sat_seq (fun δ S1 => δ = [some (.ref r), some (.str x), none, none] ∧ Dr r S S1) ?_ ?_
  · simp
    refine (c_take h (m := 2) (by omega)).mono ?_
    rintro d S1 ⟨v, rfl, h0, hv, h1⟩
    by_cases hv0 : v = 0
    · simp [hv0]
      exact ⟨.inl rfl, h1⟩
    · simp [hv0]
      exact h1
  rintro δ S1 ⟨rfl, h1⟩
  simp [le_LIM (show x.length ≤ 1000000 by omega)]
  refine (c_take h1.whole (m := x.length + 1) (by omega)).mono ?_
  rintro d S2 ⟨v, rfl, h0, hv, h2⟩
  obtain ⟨n, rfl⟩ := Int.eq_ofNat_of_zero_le h0
  have hrow : Dr r S2 (S2 ++ [.lst ([45, 65, 10, 34, 46, 48, 9, 95, 120, 32, 55, 43, 58].map fun c => D.str [c])]) := .of h2.whole .app
  have hr2 := h2.whole.lt
  simp
  have hp := c_pick (S := S2 ++ [.lst ([45, 65, 10, 34, 46, 48, 9, 95, 120, 32, 55, 43, 58].map fun c => D.str [c])]) (r := r) (w := S2.length) (row := [45, 65, 10, 34, 46, 48, 9, 95, 120, 32, 55, 43, 58].map fun c => D.str [c]) hrow.whole (by simp) (by simp) (by omega)
  simp only [List.map_cons, List.map_nil] at hp
  refine hp.mono ?_
  rintro d S3 ⟨hm, h3⟩
  obtain ⟨c, rfl⟩ : ∃ c, d = .str [c] := by
    simp only [List.mem_cons, List.not_mem_nil, or_false] at hm
    rcases hm with h | h | h | h | h | h | h | h | h | h | h | h | h <;> exact ⟨_, h⟩
  have hn : n ≤ x.length := by omega
  have hc1 : cut x none (some (n : Int)) = x.take n := cut_to x n
  have hc2 : cut x (some (n : Int)) none = x.drop n := cut_from x n
  have l1 : (x.take n).length + 1 ≤ LIM := le_LIM (by rw [List.length_take]; omega)
  have l2 : (x.take n).length + (1 + (x.drop n).length) ≤ LIM := le_LIM (by rw [List.length_take, List.length_drop]; omega)
  have l3 : (x.take n).length + 1 + (x.drop n).length ≤ LIM := by omega
  simp [le_LIM (show x.length ≤ 1000000 by omega), hc1, hc2]
  rw [List.length_take] at l1 l2 l3
  rw [List.length_drop] at l2 l3
  simp [l1, l2, l3]
  exact ⟨.inr ⟨n, c, by simp⟩, h1.trans (h2.trans (hrow.trans h3))⟩
/-- no tokens: blanks -/
theorem c_loose0 {S : Store} {r n : Nat} (h : Ints S r) (hn : S[n]? = some (.lst [])) (hnr : n ≠ r) : (F__law_loose [.ref r, .ref n] S).sat fun d S' => ∃ z, d = .str (List.replicate z 32) ∧ z ≤ 6 ∧ Dr r S S' := by
  have hr := h.lt
  refine sat_defM rfl ?_
  refine sat_seq (fun δ S1 => ∃ g, δ = [some (.ref r), some (.ref n), some (.str (List.replicate g 32)), none, none, none, none] ∧ g ≤ 3 ∧ Dr r S S1) ?_ ?_
  · simp
    refine (blank h [0, 1, 0, 3] (by simp) 4 rfl).2.mono ?_
    rintro d S1 ⟨v, g, hgm, rfl, e1, e2, h1⟩
    simp [List.replicate_succ] at e1 e2
    simp [e1, e2]
    exact ⟨by revert hgm; simp; omega, h1⟩
  rintro δ S1 ⟨g, rfl, hg, h1⟩
  have hn1 := h1.get hn hnr
  refine sat_seq (fun δ S2 => δ = [some (.ref r), some (.ref n), some (.str (List.replicate g 32)), none, none, none, none] ∧ S1 = S2) ?_ ?_
  · simp [hn1, inRange_nat (show 0 ≤ 1000000000 by omega)]
    rw [if_pos (by rfl)]
    simp
    refine for_inv (fun k δ S2 => δ = [some (.ref r), some (.ref n), some (.str (List.replicate g 32)), none, none, none, none] ∧ S1 = S2) ⟨rfl, rfl⟩ (by simp) ?_ ?_
    · intro k hk
      rw [show (rangeL 0 0).length = 0 from rfl] at hk
      omega
    · rintro δ S2 ⟨rfl, rfl⟩
      simp
  rintro δ _ ⟨rfl, rfl⟩
  simp
  refine (blank h1.whole [0, 1, 0, 2] (by simp) 4 rfl).2.mono ?_
  rintro d S2 ⟨v, g2, hgm, rfl, e1, e2, h2⟩
  simp [List.replicate_succ] at e1 e2
  have hg2 : g2 ≤ 2 := by revert hgm; simp; omega
  simp [e1, e2, le_LIM (show g + g2 ≤ 1000000 by omega)]
  exact ⟨by omega, h1.trans h2⟩
def SpOut (S : Store) (r : Nat) (ts pool : List Token) (d : D) (T : Store) : Prop := ∃ n us, d = .ref n ∧ S.length ≤ n ∧ T[n]? = some (.lst ((txts us).map D.str)) ∧ (∀ t ∈ us, t ∈ ts ∨ t ∈ pool) ∧ us.length ≤ ts.length + 1 ∧ Dr r S T
/-- a list that is spoilt -/
theorem c_spoilt {S : Store} {r a b : Nat} {ts pool : List Token} (h : Ints S r) (ha : S[a]? = some (.lst ((txts ts).map D.str))) (hb : S[b]? = some (.lst ((txts pool).map D.str))) (har : a ≠ r) (hbr : b ≠ r) (hp : pool ≠ []) (hl : ts.length ≤ 900) :
    (F__law_spoilt [.ref r, .ref a, .ref b] S).sat (SpOut S r ts pool) := by
  have hr := h.lt
  have hal := lt_of_get ha
  have hbl := lt_of_get hb
  have key : ∀ xs : List Token, (txts xs).length = xs.length := fun xs => by simp [txts]
  refine sat_defM rfl ?_
  refine sat_seq (fun δ S1 => δ = [some (.ref r), some (.ref a), some (.ref b), some (.ref S.length), none, none] ∧ S1 = S ++ [.lst ((txts ts).map D.str)]) (by simp [lstAt_of ha]) ?_
  rintro δ _ ⟨rfl, rfl⟩
  refine sat_seq (fun δ S1 => ∃ kind, δ = [some (.ref r), some (.ref a), some (.ref b), some (.ref S.length), some (.int kind), none] ∧ S1[S.length]? = some (.lst ((txts ts).map D.str)) ∧ Dr r S S1) ?_ ?_
  · have h1 : Dr r S (S ++ [.lst ((txts ts).map D.str)]) := .of h .app
    simp
    refine (c_take h1.whole (m := 7) (by omega)).mono ?_
    rintro d S1 ⟨v, rfl, h0, hv, h2⟩
    simp
    exact ⟨h2.get (by simp) (by omega), h1.trans h2⟩
  rintro δ S1 ⟨kind, rfl, g1, h1⟩
  refine sat_seq (fun δ S2 => ∃ n : Nat, n ≤ ts.length ∧ δ = [some (.ref r), some (.ref a), some (.ref b), some (.ref S.length), some (.int kind), some (.int n)] ∧ S2[S.length]? = some (.lst ((txts ts).map D.str)) ∧ Dr r S S2) ?_ ?_
  · simp [g1, key]
    refine (c_take h1.whole (m := ts.length + 1) (by omega)).mono ?_
    rintro d S2 ⟨v, rfl, h0, hv, h2⟩
    obtain ⟨n, rfl⟩ := Int.eq_ofNat_of_zero_le h0
    simp
    exact ⟨n, by omega, rfl, h2.get g1 (by omega), h1.trans h2⟩
  rintro δ S2 ⟨n, hn, rfl, g2, h2⟩
  have hle2 := h2.le
  have cto : ∀ (xs : List D) (k : Nat), cut xs none (some (k : Int)) = xs.take k := cut_to
  have cfrom : ∀ (xs : List D) (k : Nat), cut xs (some (k : Int)) none = xs.drop k := cut_from
  have mt : ∀ k, (((txts ts).map D.str).take k) = (txts (ts.take k)).map D.str := fun k => by simp [txts, List.map_take]
  have md : ∀ k, (((txts ts).map D.str).drop k) = (txts (ts.drop k)).map D.str := fun k => by simp [txts, List.map_drop]
  have tl : ∀ k, (txts (ts.take k)).length ≤ 900 := fun k => by rw [key, List.length_take]; omega
  have dl : ∀ k, (txts (ts.drop k)).length ≤ 900 := fun k => by rw [key, List.length_drop]; omega
  -- the sum of two slices
  have two : ∀ (T : Store) (xs ys : List Token), xs.length ≤ 2000 → ys.length ≤ 2000 → addP [.ref T.length, .ref (T.length + 1)] (T ++ [.lst ((txts xs).map D.str), .lst ((txts ys).map D.str)]) = .ok (.ref (T.length + 2)) (T ++ [.lst ((txts xs).map D.str), .lst ((txts ys).map D.str), .lst ((txts (xs ++ ys)).map D.str)]) := by
    intro T xs ys hx hy
    have e1 : (T ++ [MO.lst ((txts xs).map D.str), .lst ((txts ys).map D.str)])[T.length]? = some (.lst ((txts xs).map D.str)) := by simp
    have e2 : (T ++ [MO.lst ((txts xs).map D.str), .lst ((txts ys).map D.str)])[T.length + 1]? = some (.lst ((txts ys).map D.str)) := by simp
    rw [add_lists e1 e2 (by simp [txts]; omega)]
    simp [txts]
  have picked : ∀ (T : Store), Dr r S T → (F__law_pick [.ref r, .ref b] T).sat fun d T' => ∃ t ∈ pool, d = .str t.txt ∧ Dr r T T' := by
    intro T hT
    have := hT.get hb hbr
    refine (c_pick hT.whole this (by simpa [txts] using hp) hbr).mono ?_
    rintro d T' ⟨hm, hd⟩
    obtain ⟨x, hx, rfl⟩ := List.mem_map.mp hm
    obtain ⟨t, ht, rfl⟩ := List.mem_map.mp hx
    exact ⟨t, ht, rfl, hd⟩
  -- what comes out
  have out : ∀ (T : Store) (m : Nat) (us : List Token), S.length ≤ m → T[m]? = some (.lst ((txts us).map D.str)) → (∀ t ∈ us, t ∈ ts ∨ t ∈ pool) → us.length ≤ ts.length + 1 → Dr r S T → SpOut S r ts pool (.ref m) T :=
    fun T m us h1 h2 h3 h4 h5 => ⟨m, us, rfl, h1, h2, h3, h4, h5⟩
  have mtk : ∀ k, ∀ t ∈ ts.take k, t ∈ ts ∨ t ∈ pool := fun k t ht => .inl (List.mem_of_mem_take ht)
  have mdr : ∀ k, ∀ t ∈ ts.drop k, t ∈ ts ∨ t ∈ pool := fun k t ht => .inl (List.mem_of_mem_drop ht)
  have mapp : ∀ xs ys : List Token, (∀ t ∈ xs, t ∈ ts ∨ t ∈ pool) → (∀ t ∈ ys, t ∈ ts ∨ t ∈ pool) → ∀ t ∈ xs ++ ys, t ∈ ts ∨ t ∈ pool := fun xs ys h1 h2 t ht => (List.mem_append.mp ht).elim (h1 t) (h2 t)
  refine sat_seq (fun δ S3 => δ = [some (.ref r), some (.ref a), some (.ref b), some (.ref S.length), some (.int kind), some (.int n)] ∧ S2 = S3 ∧ n < ts.length) ?_ ?_
  · have br : (blkS [(retS (callM addP [(callM addP [(sliceM (varM 3) none (some (varM 5))), (callM lstP [(callM F__law_pick [(varM 0), (varM 2)])])]), (sliceM (varM 3) (some (varM 5)) none)]))] [some (.ref r), some (.ref a), some (.ref b), some (.ref S.length), some (.int kind), some (.int n)] S2).sat fun f S1 => match f with
        | .nx δ1 => δ1 = [some (.ref r), some (.ref a), some (.ref b), some (.ref S.length), some (.int kind), some (.int n)] ∧ S2 = S1 ∧ n < ts.length
        | .rt d => SpOut S r ts pool d S1
        | _ => False := by
      simp [lstAt_of g2, cto, cfrom, -addP_ref, -List.map_drop, -List.map_take]
      rw [mt]
      refine (picked _ h2.push).mono ?_
      rintro d S3 ⟨t, ht, rfl, h3⟩
      have d3 : Dr r S S3 := h2.push.trans h3
      have k1 := h3.get (i := S2.length) (v := .lst ((txts (ts.take n)).map D.str)) (by simp) (by omega)
      have k2 := h3.get (app_get g2) (by omega : S.length ≠ r)
      have a1 := add_lists (S := S3 ++ [.lst [.str t.txt]]) (app_get k1) (by simp : (S3 ++ [MO.lst [.str t.txt]])[S3.length]? = some (.lst ([t.txt].map D.str))) (by simp [txts]; omega)
      simp only [List.map_cons, List.map_nil] at a1
      simp [-addP_ref, a1, lstAt_of (app_get (app_get k2)), cfrom, -List.map_drop, -List.map_take]
      have k2' := lstAt_of (app_get (T := [MO.lst [D.str t.txt], .lst ((txts (ts.take n)).map D.str ++ [D.str t.txt])]) k2)
      simp only [k2', cfrom]
      rw [md, Res.sat_ok]
      have e1 : (S3 ++ [MO.lst [D.str t.txt], .lst ((txts (ts.take n)).map D.str ++ [D.str t.txt]), .lst ((txts (ts.drop n)).map D.str)])[S3.length + 1]? = some (.lst ((txts (ts.take n ++ [t])).map D.str)) := by
        rw [List.getElem?_append_right (by omega)]; simp [txts]
      have e2 : (S3 ++ [MO.lst [D.str t.txt], .lst ((txts (ts.take n)).map D.str ++ [D.str t.txt]), .lst ((txts (ts.drop n)).map D.str)])[S3.length + 2]? = some (.lst ((txts (ts.drop n)).map D.str)) := by
        rw [List.getElem?_append_right (by omega)]; simp
      rw [add_lists e1 e2 (by have := tl n; have := dl n; simp [txts] at *; omega), Res.sat_ok]
      refine out _ _ (ts.take n ++ [t] ++ ts.drop n) (by have := d3.le; rw [List.length_append]; omega) ?_ (mapp _ _ (mapp _ _ (mtk n) (by intro u hu; rw [List.mem_singleton.mp hu]; exact .inr ht)) (mdr n)) (by simp; omega) (d3.push.push)
      rw [List.getElem?_append_right (by simp)]
      simp [txts]
    have hcond : (orT (tbM (callM eqP [(varM 4), (conM (.int 0))])) (tbM (callM eqP [(varM 5), (callM lenP [(varM 3)])]))) [some (.ref r), some (.ref a), some (.ref b), some (.ref S.length), some (.int kind), some (.int n)] S2 = .ok (decide (kind = 0) || decide ((n : Int) = ts.length)) S2 := by
      by_cases q : kind = 0 <;> simp [q, g2, key]
    rw [ifS_ap, hcond, Res.thenS_ok]
    by_cases q : (decide (kind = 0) || decide ((n : Int) = ts.length)) = true
    · rw [if_pos q]
      refine br.mono fun f T hf => ?_
      cases f <;> first | exact hf | exact hf.elim
    · rw [if_neg q]
      simp at q ⊢
      omega
  rintro δ _ ⟨rfl, rfl, hnlt⟩
  refine sat_seq (fun δ S3 => δ = [some (.ref r), some (.ref a), some (.ref b), some (.ref S.length), some (.int kind), some (.int n)] ∧ S2 = S3) ?_ ?_
  · by_cases q : kind = 1
    · have c2 := cfrom ((txts ts).map D.str) (n + 1)
      simp only [Int.natCast_add, Int.natCast_one, Int.cast_ofNat_Int] at c2
      simp [q, lstAt_of g2, cto, -addP_ref, -List.map_drop, -List.map_take]
      have k2' := lstAt_of (app_get (T := [MO.lst (((txts ts).map D.str).take n)]) g2)
      simp only [k2', c2]
      rw [mt, md]
      simp only [List.append_assoc, List.cons_append, List.nil_append, Res.sat_ok, List.length_append, List.length_cons, List.length_nil, Nat.zero_add]
      rw [two _ _ _ (by rw [List.length_take]; omega) (by rw [List.length_drop]; omega), Res.sat_ok]
      refine out _ _ (ts.take n ++ ts.drop (n + 1)) (by omega) ?_ (mapp _ _ (mtk n) (mdr _)) (by simp; omega) h2.push
      rw [List.getElem?_append_right (by omega)]; simp
    · simp [q]
  rintro δ _ ⟨rfl, rfl⟩
  refine sat_seq (fun δ S3 => δ = [some (.ref r), some (.ref a), some (.ref b), some (.ref S.length), some (.int kind), some (.int n)] ∧ S2 = S3) ?_ ?_
  · by_cases q : kind = 2
    · have c2 := cto ((txts ts).map D.str) (n + 1)
      simp only [Int.natCast_add, Int.natCast_one, Int.cast_ofNat_Int] at c2
      simp [q, lstAt_of g2, c2, -addP_ref, -List.map_drop, -List.map_take]
      have k2' := lstAt_of (app_get (T := [MO.lst (((txts ts).map D.str).take (n + 1))]) g2)
      simp only [k2', cfrom]
      rw [mt, md]
      simp only [List.append_assoc, List.cons_append, List.nil_append, Res.sat_ok, List.length_append, List.length_cons, List.length_nil, Nat.zero_add]
      rw [two _ _ _ (by rw [List.length_take]; omega) (by rw [List.length_drop]; omega), Res.sat_ok]
      refine out _ _ (ts.take (n + 1) ++ ts.drop n) (by omega) ?_ (mapp _ _ (mtk _) (mdr _)) (by simp; omega) h2.push
      rw [List.getElem?_append_right (by omega)]; simp
    · simp [q]
  rintro δ _ ⟨rfl, rfl⟩
  refine sat_seq (fun δ S3 => δ = [some (.ref r), some (.ref a), some (.ref b), some (.ref S.length), some (.int kind), some (.int n)] ∧ S2 = S3) ?_ ?_
  · by_cases q : kind = 3
    · simp [q, lstAt_of g2, cto, -List.map_take]
      rw [mt]
      exact out _ _ (ts.take n) (by omega) (by simp) (mtk n) (by simp; omega) h2.push
    · simp [q]
  rintro δ _ ⟨rfl, rfl⟩
  refine sat_seq (fun δ S3 => δ = [some (.ref r), some (.ref a), some (.ref b), some (.ref S.length), some (.int kind), some (.int n)] ∧ S2 = S3) ?_ ?_
  · by_cases q : kind = 4 ∧ n + 1 < ts.length
    · have q2 : ((n : Int) + 1 < ts.length) := by omega
      have c2 := cfrom ((txts ts).map D.str) (n + 2)
      simp only [Int.natCast_add, Int.cast_ofNat_Int] at c2
      have i1 : atI ((txts ts).map D.str) ((n : Int) + 1) = some (.str (ts[n + 1]'q.2).txt) := by
        have : ((n : Int) + 1) = ((n + 1 : Nat) : Int) := by omega
        rw [this]
        exact atI_nat (by simp [txts, q.2])
      have i2 : atI ((txts ts).map D.str) (n : Int) = some (.str (ts[n]'hnlt).txt) := atI_nat (by simp [txts, hnlt])
      have k2' := fun T => lstAt_of (app_get (T := T) g2)
      simp [q.1, q2, lstAt_of g2, g2, key, cto, -addP_ref, -List.map_drop, -List.map_take, k2', i1, i2]
      rw [mt]
      have a1 := two S2 (ts.take n) [ts[n + 1]'q.2, ts[n]'hnlt] (by rw [List.length_take]; omega) (by simp)
      simp only [txts, List.map_cons, List.map_nil] at a1
      simp only [txts, List.map_map] at a1 ⊢
      rw [a1, Res.sat_ok]
      simp only [k2', c2, Res.sat_ok]
      rw [md]
      have hll : (S2 ++ [MO.lst (List.map (D.str ∘ Token.txt) (ts.take n)), .lst [D.str (ts[n + 1]'q.2).txt, D.str (ts[n]'hnlt).txt], .lst (List.map (D.str ∘ Token.txt) (ts.take n ++ [ts[n + 1]'q.2, ts[n]'hnlt]))]).length = S2.length + 3 := by simp
      rw [hll]
      have e1 : ((S2 ++ [MO.lst (List.map (D.str ∘ Token.txt) (ts.take n)), .lst [D.str (ts[n + 1]'q.2).txt, D.str (ts[n]'hnlt).txt], .lst (List.map (D.str ∘ Token.txt) (ts.take n ++ [ts[n + 1]'q.2, ts[n]'hnlt]))]) ++ [MO.lst ((txts (ts.drop (n + 2))).map D.str)])[S2.length + 2]? = some (.lst ((txts (ts.take n ++ [ts[n + 1]'q.2, ts[n]'hnlt])).map D.str)) := by
        rw [List.append_assoc, List.getElem?_append_right (by omega)]; simp [txts]
      have e2 : ((S2 ++ [MO.lst (List.map (D.str ∘ Token.txt) (ts.take n)), .lst [D.str (ts[n + 1]'q.2).txt, D.str (ts[n]'hnlt).txt], .lst (List.map (D.str ∘ Token.txt) (ts.take n ++ [ts[n + 1]'q.2, ts[n]'hnlt]))]) ++ [MO.lst ((txts (ts.drop (n + 2))).map D.str)])[S2.length + 3]? = some (.lst ((txts (ts.drop (n + 2))).map D.str)) := by
        rw [List.append_assoc, List.getElem?_append_right (by omega)]; simp
      rw [add_lists e1 e2 (by simp [txts]; omega), Res.sat_ok]
      refine out _ _ (ts.take n ++ [ts[n + 1]'q.2, ts[n]'hnlt] ++ ts.drop (n + 2)) (by rw [List.length_append, hll]; omega) ?_ (mapp _ _ (mapp _ _ (mtk n) ?_) (mdr _)) (by simp; omega) (h2.push.push.push)
      · rw [List.getElem?_append_right (by simp)]
        simp [txts]
      · intro u hu
        simp only [List.mem_cons, List.not_mem_nil, or_false] at hu
        rcases hu with rfl | rfl
        · exact .inl (List.getElem_mem _)
        · exact .inl (List.getElem_mem _)
    · have : ¬ (kind = 4 ∧ (n : Int) + 1 < ts.length) := by omega
      by_cases q4 : kind = 4
      · have q5 : ¬ ((n : Int) + 1 < ts.length) := by omega
        simp [q4, g2, key, q5]
      · simp [q4]
  rintro δ _ ⟨rfl, rfl⟩
  simp
  refine (picked _ h2).mono ?_
  rintro d S3 ⟨t, ht, rfl, h3⟩
  have g3 := h3.get g2 (by omega)
  have e3 : ixN ts.length (n : Int) = some n := ixN_nat hnlt
  simp [g3, key, e3]
  refine out _ _ (ts.set n t) (Nat.le_refl _) ?_ ?_ (by simp) ((h2.trans h3).set_new hr (Nat.le_refl _))
  · rw [List.getElem?_set_self (lt_of_get g3)]
    simp [txts, List.map_set]
  · intro u hu
    rcases List.mem_or_eq_of_mem_set hu with hu | hu
    · exact .inl hu
    · exact .inr (hu ▸ ht)
end LW

end

section
set_option linter.all false
set_option Elab.async false
set_option maxRecDepth 100000
namespace LW
open Dl DlM
theorem txt_0 : (Token.num 0).txt = [48] := by decide +kernel
theorem txt_m1 : (Token.num (-1)).txt = [45, 49] := by decide +kernel
theorem txt_1 : (Token.num 1).txt = [49] := by decide +kernel
end LW

end

section
set_option linter.all false
set_option Elab.async false
set_option maxRecDepth 100000
namespace LW
open Dl DlM
/-- any tokens, loose -/
theorem c_loose_any {S : Store} {r n : Nat} {ts : List Token} (h : Ints S r) (hn : S[n]? = some (.lst ((txts ts).map D.str))) (hnr : n ≠ r) (hg : ∀ t ∈ ts, Good t) (hl : ts.length ≤ 1000) :
    (F__law_loose [.ref r, .ref n] S).sat fun d S' => ∃ x, d = .str x ∧ Txt 62 x ∧ x.length ≤ 66000 ∧ Dr r S S' := by
  by_cases hne : ts = []
  · subst hne
    refine (c_loose0 h (by simpa [txts] using hn) hnr).mono ?_
    rintro d S1 ⟨z, rfl, hz, h1⟩
    exact ⟨_, rfl, ⟨by simp; omega, DR.of_len (by simp; omega)⟩, by simp; omega, h1⟩
  · refine (c_loose h hn hnr hg hl hne).mono ?_
    rintro d S1 ⟨x, rfl, hx, h1⟩
    refine ⟨x, rfl, hx.txt hg hl, ?_, h1⟩
    obtain ⟨l, z, rfl, q1, q2, q3, q4⟩ := hx.ex
    have hgl : ∀ p ∈ l, Good p.2 := fun p hp => hg _ (by rw [← q1]; exact List.mem_map_of_mem hp)
    have hll : l.length = ts.length := by rw [← q1]; simp
    have := asm_len (b := 3) (z := z) (l := l) fun p hp => ⟨q3 p hp, hgl p hp⟩
    omega
end LW

end

section
set_option linter.all false
set_option Elab.async false
set_option maxRecDepth 100000
namespace LW
open Dl DlM
theorem val_good {v : D} (h : Val v) : Good (valTok v) := by
  cases h with
  | num i h => exact .num i h.big
  | wrd w h hl => exact .quo w h hl
end LW

end

section
set_option linter.all false
set_option Elab.async false
set_option maxRecDepth 100000
namespace LW
open Dl DlM
def vt (v : D) : Cs := (valTok v).txt
end LW

end

section
set_option linter.all false
set_option Elab.async false
set_option maxRecDepth 100000
namespace LW
open Dl DlM
def commas (vs : List D) : List Token := seps (.sg 44) (vs.map fun v => [valTok v])
def rowTok (name : Cs) (ks os : List D) : List Token := .wrd name :: .sg 40 :: (commas ks ++ .sg 124 :: (commas os ++ [.sg 41]))
end LW

end

section
set_option linter.all false
set_option Elab.async false
set_option maxRecDepth 100000
namespace LW
open Dl DlM
theorem row_good {name : Cs} {ks os : List D} (hw : Word name) (hl : name.length ≤ 60) (hv : ∀ v ∈ ks ++ os, Val v) : ∀ t ∈ rowTok name ks os, Good t := by
  have hc : ∀ vs : List D, (∀ v ∈ vs, Val v) → ∀ t ∈ commas vs, Good t := by
    intro vs h t ht
    rcases seps_mem ht with rfl | ⟨y, hy, ht⟩
    · exact .sg _ (by decide)
    · obtain ⟨v, hv, rfl⟩ := List.mem_map.mp hy
      rw [List.mem_singleton.mp ht]
      exact val_good (h v hv)
  intro t ht
  unfold rowTok at ht
  simp only [List.mem_cons, List.mem_append, List.not_mem_nil, or_false] at ht
  rcases ht with rfl | rfl | ht | rfl | ht | rfl
  · exact .wrd _ hw hl
  · exact .sg _ (by decide)
  · exact hc ks (fun v h => hv v (List.mem_append_left _ h)) t ht
  · exact .sg _ (by decide)
  · exact hc os (fun v h => hv v (List.mem_append_right _ h)) t ht
  · exact .sg _ (by decide)
theorem commas_len (vs : List D) : (commas vs).length ≤ vs.length * 2 := by
  have := seps_len (.sg 44) 1 (vs.map fun v => [valTok v]) (by
    intro x hx
    obtain ⟨v, _, rfl⟩ := List.mem_map.mp hx
    simp)
  rwa [List.length_map] at this
theorem row_len {name : Cs} {ks os : List D} (h : ks.length + os.length ≤ 8) : (rowTok name ks os).length ≤ 28 ∧ rowTok name ks os ≠ [] := by
  have h1 := commas_len ks
  have h2 := commas_len os
  refine ⟨?_, by simp [rowTok]⟩
  simp [rowTok]
  omega
theorem data_row {name : Cs} {vs : List D} (h : vs.length ≤ 1000) (hv : ∀ v ∈ vs, Val v) : Data 6 (.tup [.str name, .tup vs]) := by
  refine .tup (by simp) fun d hd => ?_
  simp at hd
  rcases hd with rfl | rfl
  · exact .str _
  · refine .tup (by omega) fun d hd => ?_
    cases hv d hd with
    | num i h => exact .int _
    | wrd w h hl => exact .str _
end LW

end

section
set_option linter.all false
set_option Elab.async false
set_option maxRecDepth 100000
namespace LW
open Dl DlM
/-! rows: what is compared is plain data; the forms that are tried -/
theorem Schema.take {sc : List Table} (h : Schema sc) (m : Nat) : Schema (sc.take m) where
  word := fun t ht => h.word t (List.mem_of_mem_take ht)
  size := fun t ht => h.size t (List.mem_of_mem_take ht)
  nodup := by rw [List.map_take]; exact h.nodup.sublist (List.take_sublist _ _)
  len := by rw [List.length_take]; have := h.len; omega
theorem Ans.of_ok {α β : Type} {r : Ans α} {f : α → List PTok → Ans β} {x : β × List PTok} (h : Ans.then r f = .ok x) : ∃ a ts, r = .ok (a, ts) ∧ f a ts = .ok x := by
  cases r with
  | error p => cases h
  | ok y => exact ⟨y.1, y.2, rfl, h⟩
theorem pTake_ok {α : Type} {f : Tk → Option α} {ts ts' : List PTok} {a : α} (h : pTake f ts = .ok (a, ts')) : ∃ k, f k = some a := by
  cases ts with
  | nil => cases h
  | cons b l =>
    obtain ⟨p, k⟩ := b
    simp only [pTake] at h
    split at h
    · rename_i a' ha
      simp only [Except.ok.injEq, Prod.mk.injEq] at h
      exact ⟨k, by rw [ha, h.1]⟩
    · cases h
theorem pPl_mem {f : Tk → Option D} : ∀ {n : Nat} {ts ts' : List PTok} {ds : List D}, pPl f n ts = .ok (ds, ts') → ∀ d ∈ ds, ∃ k, f k = some d
  | 0, _, _, _, h => by cases h; intro d hd; cases hd
  | n + 1, ts, ts', ds, h => by
    obtain ⟨d1, t1, e1, h⟩ := Ans.of_ok h
    obtain ⟨_, t2, e2, h⟩ := Ans.of_ok h
    obtain ⟨d3, t3, e3, h⟩ := Ans.of_ok h
    cases h
    intro d hd
    rcases List.mem_append.mp hd with hd | hd
    · exact pPl_mem e1 d hd
    · rw [List.mem_singleton.mp hd]
      exact pTake_ok e3
theorem pCells_mem {f : Tk → Option D} {key others : Nat} {ts ts' : List PTok} {ds : List D} (h : pCells f key others ts = .ok (ds, ts')) : ds.length = key + others ∧ ∀ d ∈ ds, ∃ k, f k = some d := by
  obtain ⟨_, t1, e1, h⟩ := Ans.of_ok h
  obtain ⟨d2, t2, e2, h⟩ := Ans.of_ok h
  obtain ⟨_, t3, e3, h⟩ := Ans.of_ok h
  obtain ⟨d4, t4, e4, h⟩ := Ans.of_ok h
  obtain ⟨_, t5, e5, h⟩ := Ans.of_ok h
  cases h
  refine ⟨by rw [List.length_append, pPl_len e2, pPl_len e4], ?_⟩
  intro d hd
  rcases List.mem_append.mp hd with hd | hd
  · exact pPl_mem e2 d hd
  · exact pPl_mem e4 d hd
theorem pAll_ok {α : Type} {r : Ans α} {v : α} (h : pAll r = .ok v) : ∃ ts, r = .ok (v, ts) := by
  cases r with
  | error p => cases h
  | ok x =>
    obtain ⟨w, ts⟩ := x
    cases ts with
    | nil => cases h
    | cons a l =>
      obtain ⟨p, k⟩ := a
      cases k with
      | fin => cases h; exact ⟨_, rfl⟩
      | bad => cases h
      | tok t => cases h
theorem data_res {ts : List PTok} {sc : List Table} (hsc : Schema sc) : Data 7 (resD rowD (pAll (pRow sc fVal ts))) := by
  cases e : pAll (pRow sc fVal ts) with
  | error p =>
    refine .tup (by simp) fun d hd => ?_
    simp at hd
    rcases hd with rfl | rfl | rfl
    · exact .str _
    · exact .int _
    · exact .int _
  | ok v =>
    have hv := pAll_ok e
    obtain ⟨ts', hv⟩ := hv
    obtain ⟨tb, ds⟩ := v
    have hds : ds.length ≤ 8 ∧ ∀ d ∈ ds, ∃ k, fVal k = some d := by
      obtain ⟨t1, r1, e1, hv⟩ := Ans.of_ok hv
      obtain ⟨d2, r2, e2, hv⟩ := Ans.of_ok hv
      simp only [Except.ok.injEq, Prod.mk.injEq] at hv
      obtain ⟨⟨h1, h2⟩, _⟩ := hv
      subst h1 h2
      obtain ⟨h3, h4⟩ := pCells_mem e2
      obtain ⟨k, ha⟩ := pTake_ok e1
      have hmem : t1 ∈ sc := by
        cases k with
        | fin => cases ha
        | bad => cases ha
        | tok t =>
          cases t with
          | wrd w => exact List.mem_of_find?_eq_some ha
          | _ => cases ha
      exact ⟨by have := hsc.size _ hmem; omega, h4⟩
    refine .tup (by simp) fun d hd => ?_
    simp at hd
    rcases hd with rfl | rfl
    · exact .str _
    · refine .tup (by simp) fun d hd => ?_
      simp at hd
      rcases hd with rfl | rfl
      · exact .str _
      · refine .tup (n := 4) (by omega) fun d hd => ?_
        obtain ⟨k, hk⟩ := hds.2 d hd
        cases k with
        | fin => cases hk
        | bad => cases hk
        | tok t =>
          cases t with
          | num i => cases hk; exact .int _
          | quo w => cases hk; exact .str _
          | wrd w => cases hk
          | sg c => cases hk
def chk : SM := blkS [(ifS (notT (tbM (callM (F__law_same 8) [(callM F__law_result [(varM 4), (varM 12)]), (callM F__law_due [(varM 4), (varM 12)])]))) (blkS [(retS (conM (.bl false)))]) (blkS []))]
/-- one form -/
theorem c_chk {S : Store} {δ : Env} {y : Cs} {sc : List Table} (hsc : Schema sc) (h4 : δ[4]? = some (some (.tup (sc.map tabD)))) (h8 : δ[12]? = some (some (.str y))) (hy : Txt 200 y) : (chk δ S).sat fun f S' => f = .nx δ ∧ Fr [] S S' := by
  obtain ⟨ts, hx⟩ := hy.lex (by omega)
  have hl := hy.len
  have hlen := hx.len
  unfold chk
  simp [h4, h8]
  refine (c_result hx (by omega) hsc).mono ?_
  rintro d S1 ⟨rfl, f1⟩
  refine (c_due hx (by omega) hsc).mono ?_
  rintro d S2 ⟨rfl, f2⟩
  refine (c_same 7 _ (data_res hsc) S2).mono ?_
  rintro d S3 ⟨rfl, f3⟩
  simp
  exact (f1.trans f2).trans f3
theorem c_forms {S : Store} {q : Nat} {ys : List Cs} {sc : List Table} {a0 a1 a2 a3 a5 a6 a7 a8 a9 a10 a11 a12 a13 : Option D} (hsc : Schema sc) (hq : S[q]? = some (.lst (ys.map D.str))) (hy : ∀ y ∈ ys, Txt 200 y) :
    (forLoop (isLst q (ys.map D.str)) (.nm 12) chk (ys.map D.str) [a0, a1, a2, a3, some (.tup (sc.map tabD)), a5, a6, a7, a8, a9, a10, a11, a12, a13] S).sat fun f S' => (∃ b, f = .nx [a0, a1, a2, a3, some (.tup (sc.map tabD)), a5, a6, a7, a8, a9, a10, a11, b, a13]) ∧ Fr [] S S' := by
  refine for_inv (fun k δ S' => (∃ b, δ = [a0, a1, a2, a3, some (.tup (sc.map tabD)), a5, a6, a7, a8, a9, a10, a11, b, a13]) ∧ Fr [] S S') ⟨⟨_, rfl⟩, .refl⟩ ?_ ?_ ?_
  · rintro k δ S1 _ ⟨_, f1⟩
    simp [lstAt_of (f1.get hq (by simp))]
  · rintro k hk δ S1 ⟨⟨b, rfl⟩, f1⟩
    refine ⟨_, rfl, ?_⟩
    simp at hk
    have e : (ys.map D.str)[k]'(by simpa using hk) = .str ys[k] := by simp
    rw [e]
    refine (c_chk (y := ys[k]) hsc (by simp) (by simp) (hy _ (List.getElem_mem hk))).mono ?_
    rintro f S2 ⟨rfl, f2⟩
    exact ⟨⟨_, rfl⟩, f1.trans f2⟩
  · rintro δ S1 ⟨⟨b, rfl⟩, f1⟩
    exact ⟨⟨_, rfl⟩, f1⟩
end LW

end

section
set_option linter.all false
set_option Elab.async false
set_option maxRecDepth 100000
namespace LW
open Dl DlM
/-! the reading of a span -/
def wTo : Cs := [116, 111]
def wOn : Cs := [111, 110]
theorem word_to : Word wTo := ⟨by decide, fun c hc => by revert c; unfold wTo letter; decide⟩
theorem word_on : Word wOn := ⟨by decide, fun c hc => by revert c; unfold wOn letter; decide⟩
end LW

end

section
set_option linter.all false
set_option Elab.async false
set_option maxRecDepth 100000
namespace LW
open Dl DlM
/-- the draws, and the words at w -/
structure Js (r w : Nat) (ws : List Cs) (S : Store) : Prop where
  whole : Ints S r
  words : S[w]? = some (.lst (ws.map D.str))
theorem Js.dr {r w : Nat} {ws : List Cs} {S S' : Store} (h : Js r w ws S) (hn : w ≠ r) (d : Dr r S S') : Js r w ws S' := ⟨d.whole, d.get h.words hn⟩
theorem Js.fr {r w : Nat} {ws : List Cs} {S S' : Store} (h : Js r w ws S) (d : Fr [] S S') : Js r w ws S' := ⟨h.whole.mono d, d.get h.words (by simp)⟩
def LI (c : D) (r w : Nat) (ws : List Cs) (tabs sc : List Table) (δ : Env) (S : Store) : Prop := ∃ a5 a6 a7 a8 a9 a10 a11 a12 a13 : Option D, δ = [some c, some (.ref r), some (.ref w), some (.tup (tabs.map tabD)), some (.tup (sc.map tabD)), a5, a6, a7, a8, a9, a10, a11, a12, a13] ∧ Js r w ws S
def poolTok (w name : Cs) : List Token := [.sg 40, .sg 41, .sg 44, .sg 124, .num 7, .num (-1), .quo wOn, .wrd w, .quo w, .wrd name, .wrd wTo]
theorem txt_7 : intCs 7 = [55] := by decide +kernel
theorem txt_m : intCs (-1) = [45, 49] := by decide +kernel
theorem pool_txt (w name : Cs) : (txts (poolTok w name)).map D.str = [.str [40], .str [41], .str [44], .str [124], .str [55], .str [45, 49], .str [34, 111, 110, 34], .str w, .str (34 :: (w ++ [34])), .str name, .str [116, 111]] := by
  simp [txts, poolTok, txt_7, txt_m, Token.txt, wTo, wOn]
theorem pool_good {w name : Cs} (hw : Word w) (hwl : w.length ≤ 60) (hn : Word name) (hnl : name.length ≤ 60) : ∀ t ∈ poolTok w name, Good t := by
  have hb : (10 : Nat) < big := by decide +kernel
  intro t ht
  simp only [poolTok, List.mem_cons, List.not_mem_nil, or_false] at ht
  rcases ht with rfl | rfl | rfl | rfl | rfl | rfl | rfl | rfl | rfl | rfl | rfl
  · exact .sg _ (by decide)
  · exact .sg _ (by decide)
  · exact .sg _ (by decide)
  · exact .sg _ (by decide)
  · exact .num _ (by omega)
  · exact .num _ (by omega)
  · exact .quo _ word_on (by decide)
  · exact .wrd _ hw hwl
  · exact .quo _ hw hwl
  · exact .wrd _ hn hnl
  · exact .wrd _ word_to (by decide)
/-- a table, drawn -/
def TabOut (c : D) (r w : Nat) (ws : List Cs) (tabs sc : List Table) (kd : D) (a7 a8 a9 a10 a11 a12 a13 : Option D) (δ : Env) (S : Store) : Prop := ∃ tb, tb ∈ tabs ∧ δ = [some c, some (.ref r), some (.ref w), some (.tup (tabs.map tabD)), some (.tup (sc.map tabD)), some kd, some (tabD tb), a7, a8, a9, a10, a11, a12, a13] ∧ Js r w ws S
/-- the cells, drawn -/
def CelOut (c : D) (r w : Nat) (ws : List Cs) (tabs sc : List Table) (kd : D) (tb : Table) (a8 a9 a10 a11 a12 a13 : Option D) (δ : Env) (S : Store) : Prop := ∃ (q : Nat) (vs : List D), q ≠ r ∧ vs.length = tb.key + tb.others ∧ (∀ v ∈ vs, Val v) ∧ δ = [some c, some (.ref r), some (.ref w), some (.tup (tabs.map tabD)), some (.tup (sc.map tabD)), some kd, some (tabD tb), some (.ref q), a8, a9, a10, a11, a12, a13] ∧ Js r w ws S ∧ S[q]? = some (.lst ((vs.map vt).map D.str))
/-- the texts of the row -/
def GoodOut (c : D) (r w : Nat) (ws : List Cs) (tabs sc : List Table) (kd : D) (tb : Table) (q : Nat) (a9 a10 a11 a12 a13 : Option D) (δ : Env) (S : Store) : Prop := ∃ (q2 : Nat) (us : List Token), q2 ≠ r ∧ (∀ t ∈ us, Good t) ∧ us.length ≤ 28 ∧ δ = [some c, some (.ref r), some (.ref w), some (.tup (tabs.map tabD)), some (.tup (sc.map tabD)), some kd, some (tabD tb), some (.ref q), some (.ref q2), a9, a10, a11, a12, a13] ∧ Js r w ws S ∧ S[q2]? = some (.lst ((txts us).map D.str))
/-- the pool -/
def PoolOut (c : D) (r w : Nat) (ws : List Cs) (tabs sc : List Table) (kd : D) (tb : Table) (q q2 : Nat) (us : List Token) (w8 : Cs) (a10 a11 a12 a13 : Option D) (δ : Env) (S : Store) : Prop := ∃ q3 : Nat, q3 ≠ r ∧ δ = [some c, some (.ref r), some (.ref w), some (.tup (tabs.map tabD)), some (.tup (sc.map tabD)), some kd, some (tabD tb), some (.ref q), some (.ref q2), some (.ref q3), a10, a11, a12, a13] ∧ Js r w ws S ∧ S[q2]? = some (.lst ((txts us).map D.str)) ∧ S[q3]? = some (.lst ((txts (poolTok w8 tb.name)).map D.str))
def TxtOut (c : D) (r w : Nat) (ws : List Cs) (tabs sc : List Table) (kd : D) (tb : Table) (q q2 q3 : Nat) (us pool : List Token) (a11 a12 a13 : Option D) (δ : Env) (S : Store) : Prop := ∃ x : Cs, Txt 200 x ∧ δ = [some c, some (.ref r), some (.ref w), some (.tup (tabs.map tabD)), some (.tup (sc.map tabD)), some kd, some (tabD tb), some (.ref q), some (.ref q2), some (.ref q3), some (.str x), a11, a12, a13] ∧ Js r w ws S ∧ S[q2]? = some (.lst ((txts us).map D.str)) ∧ S[q3]? = some (.lst ((txts pool).map D.str))
def RgtOut (c : D) (r w : Nat) (ws : List Cs) (tabs sc : List Table) (kd : D) (tb : Table) (q q2 q3 : Nat) (pool : List Token) (x : Cs) (a12 a13 : Option D) (δ : Env) (S : Store) : Prop := ∃ y : Cs, Txt 62 y ∧ y.length ≤ 66000 ∧ δ = [some c, some (.ref r), some (.ref w), some (.tup (tabs.map tabD)), some (.tup (sc.map tabD)), some kd, some (tabD tb), some (.ref q), some (.ref q2), some (.ref q3), some (.str x), some (.str y), a12, a13] ∧ Js r w ws S ∧ S[q3]? = some (.lst ((txts pool).map D.str))
theorem row_txts {name : Cs} {ks os : List D} : txts (rowTok name ks os) = rowTx name (ks.map vt) (os.map vt) := by
  have w : ∀ vs : List D, (vs.map fun v => [valTok v]).map (List.map Token.txt) = (vs.map vt).map fun x => [x] := by
    intro vs
    simp [List.map_map, Function.comp_def, vt]
  unfold rowTok commas rowTx txts
  simp only [List.map_cons, List.map_append, List.map_nil, map_seps, w, Token.txt]
theorem maxP_two {S : Store} {i j : Int} : maxP [.int i, .int j] S = .ok (.int (if j > i then j else i)) S := id rfl
theorem law_sat (ns : List Int) (hl : ns.length ≤ 63) : (F_law [.lit (ns.map D.int)] []).sat fun d _ => d = .bl true := by
  refine sat_defM rfl ?_
  generalize hc : D.lit (ns.map D.int) = c
  refine sat_seq (fun δ S => ∃ r, δ = [some c, some (.ref r), none, none, none, none, none, none, none, none, none, none, none, none] ∧ Ints S r) ?_ ?_
  · subst hc
    simp
    refine (c_draws ns 520 (by omega) hl).mono ?_
    rintro d S1 ⟨r, rfl, h⟩
    simp
    exact h
  rintro δ S ⟨r, rfl, hr⟩
  have hrl := hr.lt
  refine sat_seq (fun δ S => ∃ w ws, w ≠ r ∧ ws.length = 9 ∧ Words 60 ws ∧ δ = [some c, some (.ref r), some (.ref w), none, none, none, none, none, none, none, none, none, none, none] ∧ Js r w ws S) ?_ ?_
  · simp
    refine (c_text_words hr 9 (by omega) (by omega)).mono ?_
    rintro d S1 ⟨w, ws, rfl, h1, h2, h3, h4, h5⟩
    exact ⟨w, by omega, ws, h3, h4, rfl, h5.whole, h2⟩
  rintro δ S1 ⟨w, ws, hwr, hws9, hws, rfl, hJ⟩
  have hwne : ws ≠ [] := by
    intro e
    rw [e] at hws9
    cases hws9
  refine sat_seq (fun δ S => ∃ tabs, Schema tabs ∧ tabs.length = 5 ∧ δ = [some c, some (.ref r), some (.ref w), some (.tup (tabs.map tabD)), none, none, none, none, none, none, none, none, none, none] ∧ Js r w ws S) ?_ ?_
  · have e3 : cut (ws.map D.str) none (some 5) = (ws.take 5).map D.str := by
      have := cut_to (ws.map D.str) 5
      rw [List.map_take]
      exact this
    simp [lstAt_of hJ.words, e3]
    have e4 : (S1 ++ [MO.lst (List.take 5 (List.map D.str ws))])[S1.length]? = some (.lst ((ws.take 5).map D.str)) := by simp
    have w2 : Words 60 (ws.take 5) := ⟨fun x hx => hws.word x (List.mem_of_mem_take hx), fun x hx => hws.len x (List.mem_of_mem_take hx), hws.nodup.sublist (List.take_sublist _ _)⟩
    have hJ2 := hJ.fr (.app (T := [MO.lst (List.take 5 (List.map D.str ws))]))
    refine (c_text_schema_n hJ2.whole (ws := ws.take 5) e4 w2 (by rw [List.length_take]; omega)).mono ?_
    rintro d S5 ⟨tabs, rfl, hsc, _, hlen, h5⟩
    refine ⟨tabs, hsc, by rw [hlen, List.length_take]; omega, rfl, hJ2.dr hwr h5⟩
  rintro δ S2 ⟨tabs, htabs, ht5, rfl, hJ2⟩
  refine sat_seq (fun δ S => ∃ sc, Schema sc ∧ sc.length ≤ 4 ∧ LI c r w ws tabs sc δ S) ?_ ?_
  · simp
    have hm : Dr r S2 (S2 ++ [.lst ([2, 4, 1, 0, 3, 4].map D.int)]) := .of hJ2.whole .app
    have hrl2 := hJ2.whole.lt
    refine (c_take hm.whole (m := 6) (by omega)).mono ?_
    rintro d S3 ⟨v, rfl, h0, hv, h3⟩
    have e0 := h3.get (i := S2.length) (v := .lst ([2, 4, 1, 0, 3, 4].map D.int)) (by simp) (by omega)
    obtain ⟨m, em, hm4⟩ : ∃ m : Nat, atI [D.int 2, .int 4, .int 1, .int 0, .int 3, .int 4] v = some (.int m) ∧ m ≤ 4 := by
      have : v = 0 ∨ v = 1 ∨ v = 2 ∨ v = 3 ∨ v = 4 ∨ v = 5 := by omega
      rcases this with rfl | rfl | rfl | rfl | rfl | rfl
      · exact ⟨2, rfl, by omega⟩
      · exact ⟨4, rfl, by omega⟩
      · exact ⟨1, rfl, by omega⟩
      · exact ⟨0, rfl, by omega⟩
      · exact ⟨3, rfl, by omega⟩
      · exact ⟨4, rfl, by omega⟩
    have e3 : cut (tabs.map tabD) none (some (m : Int)) = (tabs.take m).map tabD := by rw [cut_to, List.map_take]
    simp at e0
    simp [lstAt_of e0, em, e3]
    refine ⟨tabs.take m, htabs.take m, by rw [List.length_take]; omega, _, _, _, _, _, _, _, _, _, by rw [List.map_take], hJ2.dr hwr (hm.trans h3)⟩
  rintro δ S3 ⟨sc, hsc, hsc4, hI⟩
  refine sat_seq (LI c r w ws tabs sc) ?_ ?_
  · simp
    rw [if_pos (by rfl)]
    simp
    refine for_inv (fun _ => LI c r w ws tabs sc) hI (by simp) ?_ (fun δ S h => h)
    rintro k hk δ S4 ⟨a5, a6, a7, a8, a9, a10, a11, a12, a13, rfl, hJ4⟩
    refine ⟨_, rfl, ?_⟩
    generalize (rangeL 0 4)[k] = kd
    -- the table
    refine sat_seq (TabOut c r w ws tabs sc kd a7 a8 a9 a10 a11 a12 a13) ?_ ?_
    · have hmx : (if (1 : Int) < sc.length then (sc.length : Int) else 1) = ((max 1 sc.length : Nat) : Int) := by
        split <;> omega
      simp [maxP_two, hmx]
      refine (c_take hJ4.whole (m := ((max 1 sc.length : Nat) : Int)) (by omega)).mono ?_
      rintro d S5 ⟨v, rfl, h0, hv, h5⟩
      obtain ⟨y, e1, e2⟩ := atI_int (xs := tabs.map tabD) h0 (by rw [List.length_map]; omega)
      rw [List.getElem?_map] at e2
      cases e3 : tabs[v.toNat]? with
      | none => rw [e3] at e2; cases e2
      | some tb =>
        rw [e3] at e2
        cases e2
        simp [e1]
        exact ⟨tb, List.mem_of_getElem? e3, rfl, hJ4.dr hwr h5⟩
    rintro δ S5 ⟨tb0, htb0, rfl, hJ5⟩
    refine sat_seq (TabOut c r w ws tabs sc kd a7 a8 a9 a10 a11 a12 a13) ?_ ?_
    · simp
      refine (c_take hJ5.whole (m := 9) (by omega)).mono ?_
      rintro d S6 ⟨v, rfl, h0, hv, h6⟩
      by_cases hv0 : v = 0
      · obtain ⟨y, e1, e2⟩ := atI_int (xs := tabs.map tabD) (i := 4) (by omega) (by rw [List.length_map]; omega)
        rw [List.getElem?_map] at e2
        cases e3 : tabs[(4 : Int).toNat]? with
        | none => rw [e3] at e2; cases e2
        | some tb =>
          rw [e3] at e2
          cases e2
          simp [hv0, e1]
          exact ⟨tb, List.mem_of_getElem? e3, rfl, hJ5.dr hwr h6⟩
      · simp [hv0]
        exact ⟨tb0, htb0, rfl, hJ5.dr hwr h6⟩
    rintro δ S6 ⟨tb, htb, rfl, hJ6⟩
    have hsz := htabs.size tb htb
    obtain ⟨hw1, hw2⟩ := htabs.word tb htb
    -- the cells
    refine sat_seq (CelOut c r w ws tabs sc kd tb a8 a9 a10 a11 a12 a13) ?_ ?_
    · have hrange : inRange ((tb.key : Int) + tb.others) = true := by
        have : ((tb.key : Int) + tb.others) = ((tb.key + tb.others : Nat) : Int) := by omega
        rw [this]
        exact inRange_nat (by omega)
      simp [tabD, hrange]
      refine lc_all (fun S' => Js r w ws S' ∧ S6.length < S'.length) (fun _ y => ∃ v, Val v ∧ y = .str (vt v)) ⟨hJ6.fr .app, by simp⟩ (by simp) ?_ (fun _ _ => rfl) (by rw [rangeL_len2]; exact le_LIM (by omega)) ?_ ?_
      · rintro S' v ⟨⟨⟨xs, q1⟩, q2⟩, q3⟩
        have := lt_of_get hJ6.words
        have := hJ6.whole.lt
        exact ⟨⟨⟨xs, by rw [List.getElem?_set_ne (by omega)]; exact q1⟩, by rw [List.getElem?_set_ne (by omega)]; exact q2⟩, by simpa using q3⟩
      · rintro j hj S' acc ⟨q1, q2⟩ hacc
        refine ⟨_, rfl, ?_⟩
        simp
        refine (c_value q1.whole q1.words hws hwne hwr).mono ?_
        rintro d S7 ⟨hv, h7⟩
        simp [c_value_text hv]
        exact ⟨⟨d, hv, rfl⟩, ⟨q1.dr hwr h7, by have := h7.le; omega⟩, h7.get hacc (by have := hJ6.whole.lt; omega)⟩
      · rintro ys S' ⟨q1, q2⟩ hys hyl hP
        rw [rangeL_len2] at hyl
        obtain ⟨vs, hvs, rfl⟩ : ∃ vs : List D, (∀ v ∈ vs, Val v) ∧ ys = (vs.map vt).map D.str := by
          have : ∀ y ∈ ys, ∃ v, Val v ∧ y = .str (vt v) := fun y hy => by
            obtain ⟨j, hj⟩ := List.getElem?_of_mem hy
            exact hP j y hj
          clear hyl hP hys
          induction ys with
          | nil => exact ⟨[], by simp, rfl⟩
          | cons y ys ih =>
            obtain ⟨vs, h1, h2⟩ := ih fun y hy => this y (by simp [hy])
            obtain ⟨v, h3, rfl⟩ := this y (by simp)
            exact ⟨v :: vs, by simpa using ⟨h3, h1⟩, by rw [h2]; rfl⟩
        exact ⟨S6.length, vs, by have := hJ6.whole.lt; omega, by simp at hyl; omega, hvs, rfl, q1, hys⟩
    rintro δ S7 ⟨q, vs, hqr, hvl, hvs, rfl, hJ7, g7⟩
    refine sat_seq (GoodOut c r w ws tabs sc kd tb q a9 a10 a11 a12 a13) ?_ ?_
    · simp [tabD]
      refine (c_cells_texts (key := tb.key) g7 (by simp; omega) (by simp; omega)).mono ?_
      rintro d S8 ⟨m, rfl, hm, g8, f8⟩
      have hvs2 : ∀ v ∈ vs.take tb.key ++ vs.drop tb.key, Val v := by rw [List.take_append_drop]; exact hvs
      refine ⟨m, rowTok tb.name (vs.take tb.key) (vs.drop tb.key), by have := hJ7.whole.lt; omega, row_good hw1 hw2 hvs2, (row_len (by rw [List.length_take, List.length_drop]; omega)).1, rfl, hJ7.fr f8, ?_⟩
      rw [g8, row_txts, List.map_take, List.map_drop]
    rintro δ S8 ⟨q2, us, hq2, hus, hul, rfl, hJ8, g8⟩
    -- the pool
    have hw8 : ∃ w8, atI (ws.map D.str) 8 = some (.str w8) ∧ Word w8 ∧ w8.length ≤ 60 := by
      obtain ⟨y, e1, e2⟩ := atI_int (xs := ws.map D.str) (i := 8) (by omega) (by rw [List.length_map]; omega)
      rw [List.getElem?_map] at e2
      cases e3 : ws[(8 : Int).toNat]? with
      | none => rw [e3] at e2; cases e2
      | some w8 =>
        rw [e3] at e2
        cases e2
        have := List.mem_of_getElem? e3
        exact ⟨w8, e1, hws.word w8 this, hws.len w8 this⟩
    obtain ⟨w8, ew8, hw8w, hw8l⟩ := hw8
    have hpg := pool_good hw8w hw8l hw1 hw2
    refine sat_seq (PoolOut c r w ws tabs sc kd tb q q2 us w8 a10 a11 a12 a13) ?_ ?_
    · have l1 : 1 + w8.length ≤ LIM := le_LIM (by omega)
      have l2 : w8.length + 1 ≤ LIM := le_LIM (by omega)
      have l3 : w8.length + 1 + 1 ≤ LIM := le_LIM (by omega)
      simp [lstAt_of hJ8.words, ew8, l1, l2, l3, tabD]
      refine ⟨S8.length, by have := hJ8.whole.lt; omega, rfl, hJ8.fr .app, app_get g8, ?_⟩
      rw [pool_txt]
      simp
    rintro δ S9 ⟨q3, hq3, rfl, hJ9, g9, g93⟩
    have hpn : poolTok w8 tb.name ≠ [] := by simp [poolTok]
    generalize poolTok w8 tb.name = pool at hpg hpn g93
    -- the spoilt text
    refine sat_seq (TxtOut c r w ws tabs sc kd tb q q2 q3 us pool a11 a12 a13) ?_ ?_
    · simp
      refine (c_spoilt (ts := us) (pool := pool) hJ9.whole g9 g93 hq2 hq3 hpn (by omega)).mono ?_
      rintro d S10 ⟨m6, vs6, rfl, hm6, g6, hmem, hvl6, h10⟩
      have hg6 : ∀ t ∈ vs6, Good t := fun t ht => by
        rcases hmem t ht with ht | ht
        · exact hus t ht
        · exact hpg t ht
      refine (c_loose_any h10.whole g6 (by have := hJ9.whole.lt; omega) hg6 (by omega)).mono ?_
      rintro d S11 ⟨x, rfl, hx, hxl, h11⟩
      refine (c_odd h11.whole (by omega)).mono ?_
      rintro d S12 ⟨y, rfl, hy, h12⟩
      have hd := h10.trans (h11.trans h12)
      exact ⟨y, hy.txt hx (by omega), rfl, hJ9.dr hwr hd, hd.get g9 hq2, hd.get g93 hq3⟩
    rintro δ S10 ⟨x, hx, rfl, hJ10, g10, g103⟩
    refine sat_seq (RgtOut c r w ws tabs sc kd tb q q2 q3 pool x a12 a13) ?_ ?_
    · simp
      refine (c_loose_any hJ10.whole g10 hq2 hus (by omega)).mono ?_
      rintro d S11 ⟨y, rfl, hy, hyl, h11⟩
      exact ⟨y, hy, hyl, rfl, hJ10.dr hwr h11, h11.get g103 hq3⟩
    rintro δ S11 ⟨y, hy, hyl, rfl, hJ11, g11⟩
    rw [blkS_one, forS_ap, Res.sat_thenS]
    simp
    refine (c_pick hJ11.whole g11 (by simpa [txts] using hpn) hq3).mono ?_
    rintro d S12 ⟨hd, h12⟩
    obtain ⟨z, hz, rfl⟩ := List.mem_map.mp hd
    obtain ⟨t, ht, rfl⟩ := List.mem_map.mp hz
    have htl := txt_len (hpg t ht)
    have l1 : y.length + t.txt.length ≤ LIM := le_LIM (by omega)
    have hyc : Txt 200 (y ++ t.txt) := ⟨by simp; omega, (hy.dr.app (DR.of_len htl)).mono (by omega)⟩
    simp [l1, lstAt]
    have hF := c_forms (sc := sc) (a0 := some c) (a1 := some (.ref r)) (a2 := some (.ref w)) (a3 := some (.tup (tabs.map tabD))) (a5 := some kd) (a6 := some (tabD tb)) (a7 := some (.ref q)) (a8 := some (.ref q2)) (a9 := some (.ref q3)) (a10 := some (.str x)) (a11 := some (.str y)) (a12 := a12) (a13 := a13) (S := S12 ++ [MO.lst ([x, y, y ++ t.txt, x].map D.str)]) (q := S12.length) (ys := [x, y, y ++ t.txt, x]) hsc (by simp) (by
      intro z hz
      simp only [List.mem_cons, List.not_mem_nil, or_false] at hz
      rcases hz with rfl | rfl | rfl | rfl
      · exact hx
      · exact hy.mono (by omega)
      · exact hyc
      · exact hx)
    refine hF.mono ?_
    rintro f S13 ⟨⟨b, rfl⟩, f13⟩
    exact ⟨_, _, _, _, _, _, _, _, _, rfl, ((hJ11.dr hwr h12).fr .app).fr f13⟩
  rintro δ S4 ⟨a5, a6, a7, a8, a9, a10, a11, a12, a13, rfl, hJ4⟩
  obtain ⟨w0, ew0, hw0w, hw0l⟩ : ∃ w0, atI (ws.map D.str) 0 = some (.str w0) ∧ Word w0 ∧ w0.length ≤ 60 := by
    obtain ⟨y, e1, e2⟩ := atI_int (xs := ws.map D.str) (i := 0) (by omega) (by rw [List.length_map]; omega)
    rw [List.getElem?_map] at e2
    cases e3 : ws[(0 : Int).toNat]? with
    | none => rw [e3] at e2; cases e2
    | some w0 =>
      rw [e3] at e2
      cases e2
      have := List.mem_of_getElem? e3
      exact ⟨w0, e1, hws.word w0 this, hws.len w0 this⟩
  refine sat_seq (fun _ _ => True) ?_ ?_
  · simp
    refine (c_take hJ4.whole (m := 9) (by omega)).mono ?_
    rintro d S5 ⟨v, rfl, h0, hv, h5⟩
    obtain ⟨v, rfl⟩ := Int.eq_ofNat_of_zero_le h0
    have hJ5 := hJ4.dr hwr h5
    have e2 : (v : Int) ≤ LIM := by have := le_LIM (show v ≤ 1000000 by omega); omega
    have e3 : v ≤ LIM := le_LIM (by omega)
    have l1 : w0.length + 1 ≤ LIM := le_LIM (by omega)
    have l2 : w0.length + 2 ≤ LIM := le_LIM (by omega)
    have hF := c_forms (S := S5 ++ [MO.lst ([[], List.replicate v 32, [41], w0, w0 ++ [40], w0 ++ [40, 124]].map D.str)]) (q := S5.length) (sc := sc) (a0 := some c) (a1 := some (.ref r)) (a2 := some (.ref w)) (a3 := some (.tup (tabs.map tabD))) (a5 := a5) (a6 := a6) (a7 := a7) (a8 := a8) (a9 := a9) (a10 := a10) (a11 := a11) (a12 := a12) (a13 := a13) (ys := [[], List.replicate v 32, [41], w0, w0 ++ [40], w0 ++ [40, 124]]) hsc (by simp) (by
      intro z hz
      simp only [List.mem_cons, List.not_mem_nil, or_false] at hz
      rcases hz with rfl | rfl | rfl | rfl | rfl | rfl
      · exact ⟨by simp, DR.of_len (by simp)⟩
      · exact ⟨by simp; omega, DR.of_len (by simp; omega)⟩
      · exact ⟨by simp, DR.of_len (by simp)⟩
      · exact ⟨by omega, DR.of_len (by omega)⟩
      · exact ⟨by simp; omega, DR.of_len (by simp; omega)⟩
      · exact ⟨by simp; omega, DR.of_len (by simp; omega)⟩)
    simp only [List.map_cons, List.map_nil] at hF
    have eL : ∀ v, lstAt (S5 ++ [MO.lst v]) S5.length = some v := fun v => lstAt_of (by simp)
    simp [e2, e3, l1, l2, lstAt_of hJ5.words, ew0, eL, mulP_str]
    refine hF.mono ?_
    rintro f S6 ⟨⟨b, rfl⟩, f6⟩
    trivial
  · rintro δ S3 _
    simp
theorem plain : ∀ ns : List Int, ns.length ≤ 63 → ∃ S', F_law [.lit (ns.map D.int)] [] = .ok (.bl true) S' := fun ns hl => by
  obtain ⟨d, S', e, rfl⟩ := Res.sat_iff.mp (law_sat ns hl)
  exact ⟨S', e⟩
end LW

end

section
set_option linter.all false
set_option Elab.async false
set_option maxRecDepth 100000
set_option Elab.async false
set_option linter.all false
set_option maxRecDepth 100000
set_option maxHeartbeats 4000000
namespace Dl
open PySem PySem.Spec PyProof.Rows L2

def toS (x : Cs) : Str := ⟨x.toArray⟩
theorem toS_append (x y : Cs) : toS x ++ toS y = toS (x ++ y) := by
  show Str.mk _ = _
  simp [toS]
theorem toS_length (x : Cs) : (toS x).length = x.length := by simp [toS, Str.length]
theorem toS_list (x : Cs) : (toS x).cps.toList = x := by simp [toS]
theorem toS_of (z : Str) : toS z.cps.toList = z := by cases z; simp [toS]
theorem toS_inj {x y : Cs} : toS x = toS y ↔ x = y := ⟨fun h => by rw [← toS_list x, h, toS_list], fun h => by rw [h]⟩
theorem LIM_eq : LIM = sizeLine := by rw [sizeLine_eq]; rfl

/-- a list that is never changed -/
def SqK (K : PySem.W.Frag) (H : Hp) (a : Addr) (vs : List V) : Prop := (∃ o, H a = some (.frz o (.lst vs))) ∨ (SqL K (fun _ => none) a vs)
theorem SqK.sql {K : PySem.W.Frag} {H : Hp} {a : Addr} {vs : List V} (h : SqK K H a vs) : SqL K H a vs := by
  rcases h with h | h
  · exact .inl (.inr h)
  · rcases h with (h | ⟨_, h⟩) | h
    · cases h
    · cases h
    · exact .inr h
section
variable (K : PySem.W.Frag) (mg : Str → Option Value) (H : Hp) (ι : List Addr)
mutual
/-- the value v stands for d -/
inductive Rp : V → D → Prop
  | non : Rp .non .non
  | bl (b : Bool) : Rp (.bl b) (.bl b)
  | int (i : Int) : Rp (.int i) (.int i)
  | str (x : Cs) : Rp (.str (toS x)) (.str x)
  | tup {a : Addr} {vs : List V} {xs : List D} : SqT K H a vs → vs.length ≤ sizeLine → Rps vs xs → Rp (.ref a) (.tup xs)
  | ref {n : Nat} {a : Addr} : ι[n]? = some a → Rp (.ref a) (.ref n)
  | fn {x : String} {a : Addr} : mg (Str.ofString x) = some (.ref a) → Rp (.ref a) (.fn x)
  | lit {a : Addr} {vs : List V} {xs : List D} : SqK K H a vs → vs.length ≤ sizeLine → Rps vs xs → Rp (.ref a) (.lit xs)
inductive Rps : List V → List D → Prop
  | nil : Rps [] []
  | cons {v : V} {vs : List V} {d : D} {ds : List D} : Rp v d → Rps vs ds → Rps (v :: vs) (d :: ds)
end
/-- the heap and the names of objects grow -/
structure Grow (H' : Hp) (ι' : List Addr) : Prop where
  pre : ι <+: ι'
  tup : ∀ a vs, SqT K H a vs → SqT K H' a vs
  frz : ∀ a o u, H a = some (.frz o u) → H' a = some (.frz o u)
end
section
variable {K : PySem.W.Frag} {mg : Str → Option Value} {H H' H2 : Hp} {ι ι' ι2 : List Addr}
theorem Grow.refl : Grow K H ι H ι := ⟨List.prefix_rfl, fun _ _ h => h, fun _ _ _ h => h⟩
theorem Grow.trans (a : Grow K H ι H' ι') (b : Grow K H' ι' H2 ι2) : Grow K H ι H2 ι2 := ⟨a.pre.trans b.pre, fun x vs h => b.tup x vs (a.tup x vs h), fun x o u h => b.frz x o u (a.frz x o u h)⟩
theorem pre_get {α : Type} {l l' : List α} (h : l <+: l') {n : Nat} {a : α} (e : l[n]? = some a) : l'[n]? = some a := by
  obtain ⟨t, rfl⟩ := h
  obtain ⟨hn, _⟩ := List.getElem?_eq_some_iff.mp e
  rw [List.getElem?_append_left hn]; exact e
mutual
theorem Rp.mono (g : Grow K H ι H' ι') : ∀ {v : V} {d : D}, Rp K mg H ι v d → Rp K mg H' ι' v d
  | _, .non, h => by cases h; exact .non
  | _, .bl _, h => by cases h; exact .bl _
  | _, .int _, h => by cases h; exact .int _
  | _, .str _, h => by cases h; exact .str _
  | _, .tup _, h => by
    cases h with
    | tup h1 h2 h3 => exact .tup (g.tup _ _ h1) h2 (Rps.mono g h3)
  | _, .ref _, h => by
    cases h with
    | ref h => exact .ref (pre_get g.pre h)
  | _, .fn _, h => by
    cases h with
    | fn h => exact .fn h
  | _, .lit _, h => by
    cases h with
    | lit h1 h2 h3 => exact .lit (h1.elim (fun ⟨o, z⟩ => .inl ⟨o, g.frz _ _ _ z⟩) .inr) h2 (Rps.mono g h3)
theorem Rps.mono (g : Grow K H ι H' ι') : ∀ {vs : List V} {ds : List D}, Rps K mg H ι vs ds → Rps K mg H' ι' vs ds
  | _, [], h => by cases h; exact .nil
  | _, _ :: _, h => by
    cases h with
    | cons h1 h2 => exact .cons (Rp.mono g h1) (Rps.mono g h2)
end
theorem Rps.length : ∀ {vs : List V} {ds : List D}, Rps K mg H ι vs ds → vs.length = ds.length
  | _, [], h => by cases h; rfl
  | _, _ :: _, h => by
    cases h with
    | cons _ h2 => simp [Rps.length h2]
theorem Rps.get : ∀ {vs : List V} {ds : List D} {i : Nat} {d : D}, Rps K mg H ι vs ds → ds[i]? = some d → ∃ v, vs[i]? = some v ∧ Rp K mg H ι v d
  | _, [], _, _, _, e => by simp at e
  | _, _ :: _, 0, _, h, e => by
    cases h with
    | cons h1 h2 => simp at e; subst e; exact ⟨_, rfl, h1⟩
  | _, _ :: _, i + 1, d, h, e => by
    cases h with
    | cons h1 h2 =>
      obtain ⟨v, e1, e2⟩ := Rps.get (i := i) (d := d) h2 (by simpa using e)
      exact ⟨v, by simpa using e1, e2⟩
theorem Rps.append : ∀ {vs ws : List V} {ds es : List D}, Rps K mg H ι vs ds → Rps K mg H ι ws es → Rps K mg H ι (vs ++ ws) (ds ++ es)
  | _, _, [], _, h, q => by cases h; exact q
  | _, _, _ :: _, _, h, q => by
    cases h with
    | cons h1 h2 => exact .cons h1 (Rps.append h2 q)
theorem Rps.drop : ∀ {vs : List V} {ds : List D} (n : Nat), Rps K mg H ι vs ds → Rps K mg H ι (vs.drop n) (ds.drop n)
  | _, _, 0, h => h
  | _, [], _ + 1, h => by cases h; exact .nil
  | _, _ :: _, n + 1, h => by
    cases h with
    | cons h1 h2 => exact Rps.drop n h2
theorem Rps.take : ∀ {vs : List V} {ds : List D} (n : Nat), Rps K mg H ι vs ds → Rps K mg H ι (vs.take n) (ds.take n)
  | _, _, 0, h => .nil
  | _, [], _ + 1, h => by cases h; exact .nil
  | _, _ :: _, n + 1, h => by
    cases h with
    | cons h1 h2 => exact .cons h1 (Rps.take n h2)
theorem Rps.reverse : ∀ {vs : List V} {ds : List D}, Rps K mg H ι vs ds → Rps K mg H ι vs.reverse ds.reverse
  | _, [], h => by cases h; exact .nil
  | _, _ :: _, h => by
    cases h with
    | cons h1 h2 => rw [List.reverse_cons, List.reverse_cons]; exact Rps.append (Rps.reverse h2) (.cons h1 .nil)
theorem Rps.set {v : V} {d : D} (r : Rp K mg H ι v d) : ∀ {vs : List V} {ds : List D} (i : Nat), Rps K mg H ι vs ds → Rps K mg H ι (vs.set i v) (ds.set i d)
  | _, [], _, h => by cases h; exact .nil
  | _, _ :: _, 0, h => by
    cases h with
    | cons h1 h2 => exact .cons r h2
  | _, _ :: _, i + 1, h => by
    cases h with
    | cons h1 h2 => exact .cons h1 (Rps.set r i h2)
theorem Rps.dropLast {vs : List V} {ds : List D} (h : Rps K mg H ι vs ds) : Rps K mg H ι vs.dropLast ds.dropLast := by
  rw [List.dropLast_eq_take, List.dropLast_eq_take, h.length]
  exact h.take _
end

/-! ### the store -/
section
variable (K : PySem.W.Frag) (mg : Str → Option Value) (H : Hp) (ι : List Addr)
def kD : Key → D
  | .inl i => .int i
  | .inr x => .str x.cps.toList
inductive Rkv : List (Key × V) → List (D × D) → Prop
  | nil : Rkv [] []
  | cons {k : Key} {v : V} {vs : List (Key × V)} {d : D} {ds : List (D × D)} : Rp K mg H ι v d → Rkv vs ds → Rkv ((k, v) :: vs) ((kD k, d) :: ds)
inductive Rfs : List (Str × V) → List (String × D) → Prop
  | nil : Rfs [] []
  | cons {k : String} {v : V} {vs : List (Str × V)} {d : D} {ds : List (String × D)} : Rp K mg H ι v d → Rfs vs ds → Rfs ((Str.ofString k, v) :: vs) ((k, d) :: ds)
/-- the object at a stands for o -/
def RO (a : Addr) : MO → Prop
  | .lst xs => ∃ vs, H a = some (.lst vs) ∧ Rps K mg H ι vs xs
  | .dct kvs => ∃ vs, H a = some (.dK vs) ∧ Rkv K mg H ι vs kvs
  | .lck kvs => ∃ o vs, H a = some (.frz o (.dK vs)) ∧ Rkv K mg H ι vs kvs
  | .set _ => False
  | .ins C fs => ∃ c dx vs, mg (Str.ofString C) = some (.ref c) ∧ H a = some (.ins c dx vs) ∧ Rfs K mg H ι vs fs
structure RS (S : Store) : Prop where
  len : ι.length = S.length
  nd : ι.Nodup
  at_ : ∀ (n : Nat) (o : MO) (a : Addr), S[n]? = some o → ι[n]? = some a → RO K mg H ι a o
structure Rel (σ : L2.St) (δ : Env) (S : Store) : Prop where
  len : δ.length = σ.length
  env : ∀ (i : Nat) (d : D), δ[i]? = some (some d) → ∃ v, σ[i]? = some (some v) ∧ Rp K mg H ι v d
  sto : RS K mg H ι S
end
section
variable {K : PySem.W.Frag} {mg : Str → Option Value} {H H' H2 : Hp} {ι ι' ι2 : List Addr} {S : Store}
theorem Rkv.mono (g : Grow K H ι H' ι') : ∀ {vs : List (Key × V)} {ds : List (D × D)}, Rkv K mg H ι vs ds → Rkv K mg H' ι' vs ds
  | _, _, .nil => .nil
  | _, _, .cons h1 h2 => .cons (h1.mono g) (Rkv.mono g h2)
theorem Rfs.mono (g : Grow K H ι H' ι') : ∀ {vs : List (Str × V)} {ds : List (String × D)}, Rfs K mg H ι vs ds → Rfs K mg H' ι' vs ds
  | _, _, .nil => .nil
  | _, _, .cons h1 h2 => .cons (h1.mono g) (Rfs.mono g h2)
theorem RO.some {a : Addr} {o : MO} (h : RO K mg H ι a o) : ∃ u, H a = some u ∧ ∀ xs, u ≠ .tup xs := by
  cases o with
  | lst xs => obtain ⟨vs, e, _⟩ := h; exact ⟨_, e, fun _ z => by cases z⟩
  | dct xs => obtain ⟨vs, e, _⟩ := h; exact ⟨_, e, fun _ z => by cases z⟩
  | lck xs => obtain ⟨o, vs, e, _⟩ := h; exact ⟨_, e, fun _ z => by cases z⟩
  | set xs => exact h.elim
  | ins C fs => obtain ⟨c, dx, vs, _, e, _⟩ := h; exact ⟨_, e, fun _ z => by cases z⟩
theorem RO.keep {a : Addr} {o : MO} (g : Grow K H ι H' ι') (e : H' a = H a) (h : RO K mg H ι a o) : RO K mg H' ι' a o := by
  cases o with
  | lst xs => obtain ⟨vs, q, r⟩ := h; exact ⟨vs, e.trans q, r.mono g⟩
  | dct xs => obtain ⟨vs, q, r⟩ := h; exact ⟨vs, e.trans q, r.mono g⟩
  | lck xs => obtain ⟨o, vs, q, r⟩ := h; exact ⟨o, vs, e.trans q, r.mono g⟩
  | set xs => exact h.elim
  | ins C fs => obtain ⟨c, dx, vs, m, q, r⟩ := h; exact ⟨c, dx, vs, m, e.trans q, r.mono g⟩
theorem RS.addr (r : RS K mg H ι S) {n : Nat} {o : MO} (e : S[n]? = some o) : ∃ a, ι[n]? = some a ∧ RO K mg H ι a o := by
  obtain ⟨hn, _⟩ := List.getElem?_eq_some_iff.mp e
  have hl : n < ι.length := by rw [r.len]; exact hn
  exact ⟨ι[n], List.getElem?_eq_getElem hl, r.at_ n o _ e (List.getElem?_eq_getElem hl)⟩
theorem RS.obj (r : RS K mg H ι S) {n : Nat} {a : Addr} (e : ι[n]? = some a) : ∃ o, S[n]? = some o ∧ RO K mg H ι a o := by
  obtain ⟨hn, _⟩ := List.getElem?_eq_some_iff.mp e
  have hl : n < S.length := by rw [← r.len]; exact hn
  exact ⟨S[n], List.getElem?_eq_getElem hl, r.at_ n _ _ (List.getElem?_eq_getElem hl) e⟩
theorem RS.live (r : RS K mg H ι S) {a : Addr} (h : a ∈ ι) : ∃ u, H a = some u ∧ ∀ xs, u ≠ .tup xs := by
  obtain ⟨n, e⟩ := List.getElem?_of_mem h
  obtain ⟨o, _, q⟩ := r.obj e
  exact q.some
theorem SqT.upd_new {p : Addr} {o : HO} (hp : H p = none) {a : Addr} {vs : List V} (h : SqT K H a vs) : SqT K (upd H p o) a vs := by
  rcases h with (h | ⟨u, h⟩) | h
  · exact .inl (.inl (by rw [upd_ne (ne_of_none h hp)]; exact h))
  · exact .inl (.inr ⟨u, by rw [upd_ne (ne_of_none h hp)]; exact h⟩)
  · exact .inr h
theorem Grow.new {p : Addr} {o : HO} (hp : H p = none) : Grow K H ι (upd H p o) ι := ⟨List.prefix_rfl, fun _ _ h => SqT.upd_new hp h, fun _ _ _ h => by rw [upd_ne (ne_of_none h hp)]; exact h⟩
theorem Grow.alloc {p : Addr} {o : HO} (hp : H p = none) : Grow K H ι (upd H p o) (ι ++ [p]) := ⟨List.prefix_append _ _, fun _ _ h => SqT.upd_new hp h, fun _ _ _ h => by rw [upd_ne (ne_of_none h hp)]; exact h⟩
/-- an object that is not tracked in the store is laid -/
theorem RS.new (r : RS K mg H ι S) {p : Addr} {o : HO} (hp : H p = none) : RS K mg (upd H p o) ι S :=
  ⟨r.len, r.nd, fun n mo a e1 e2 => (r.at_ n mo a e1 e2).keep (Grow.new hp) (upd_ne fun z => by
    obtain ⟨u, hu, _⟩ := (r.at_ n mo a e1 e2).some
    rw [z, hp] at hu; cases hu)⟩
theorem RS.alloc (r : RS K mg H ι S) {p : Addr} {o : HO} {mo : MO} (hp : H p = none) (h : RO K mg (upd H p o) (ι ++ [p]) p mo) : RS K mg (upd H p o) (ι ++ [p]) (S ++ [mo]) := by
  have np : p ∉ ι := fun z => by
    obtain ⟨u, hu, _⟩ := r.live z
    rw [hp] at hu; cases hu
  refine ⟨by simp [r.len], ?_, fun n o' a e1 e2 => ?_⟩
  · rw [List.nodup_append]
    exact ⟨r.nd, by simp, fun x hx y hy => by simp at hy; subst hy; exact fun z => np (z ▸ hx)⟩
  · by_cases hn : n < S.length
    · rw [List.getElem?_append_left hn] at e1
      rw [List.getElem?_append_left (by rw [r.len]; exact hn)] at e2
      refine (r.at_ n o' a e1 e2).keep (Grow.alloc hp) (upd_ne fun z => ?_)
      exact np (z ▸ List.mem_of_getElem? e2)
    · have en : n = S.length := by
        obtain ⟨h1, _⟩ := List.getElem?_eq_some_iff.mp e1
        simp at h1; omega
      subst en
      simp at e1
      rw [← r.len] at e2
      simp at e2
      subst e1; subst e2
      exact h
theorem Grow.write {a : Addr} {o u : HO} (e : H a = some u) (nt : ∀ xs, u ≠ .tup xs) (nf : ∀ ob w, u ≠ .frz ob w) : Grow K H ι (upd H a o) ι := by
  refine ⟨List.prefix_rfl, fun b vs h => ?_, fun b ob w h => by rw [upd_ne (ne_of h e fun z => nf _ _ z.symm)]; exact h⟩
  rcases h with (h | ⟨w, h⟩) | h
  · exact .inl (.inl (by rw [upd_ne (ne_of h e fun z => nt _ z.symm)]; exact h))
  · exact .inl (.inr ⟨w, by rw [upd_ne (ne_of h e fun z => nf _ _ z.symm)]; exact h⟩)
  · exact .inr h
theorem RS.write (r : RS K mg H ι S) {n : Nat} {a : Addr} {o : HO} {mo : MO} (hn : ι[n]? = some a) (g : Grow K H ι (upd H a o) ι) (h : RO K mg (upd H a o) ι a mo) : RS K mg (upd H a o) ι (S.set n mo) := by
  refine ⟨by simp [r.len], r.nd, fun m o' b e1 e2 => ?_⟩
  by_cases hm : m = n
  · subst hm
    have hl : m < S.length := by
      obtain ⟨h1, _⟩ := List.getElem?_eq_some_iff.mp hn
      rw [← r.len]; exact h1
    rw [List.getElem?_set_self hl] at e1
    cases e1
    rw [hn] at e2; cases e2
    exact h
  · rw [List.getElem?_set_ne (Ne.symm hm)] at e1
    refine (r.at_ m o' b e1 e2).keep g (upd_ne fun z => ?_)
    subst z
    obtain ⟨h1, q1⟩ := List.getElem?_eq_some_iff.mp hn
    obtain ⟨h2, q2⟩ := List.getElem?_eq_some_iff.mp e2
    exact hm ((List.getElem_inj r.nd).mp (q2.trans q1.symm))
theorem Rel.mono {σ : L2.St} {δ : Env} {S' : Store} (r : Rel K mg H ι σ δ S) (g : Grow K H ι H' ι') (h : RS K mg H' ι' S') : Rel K mg H' ι' σ δ S' :=
  ⟨r.len, fun i d e => let ⟨v, q, p⟩ := r.env i d e; ⟨v, q, p.mono g⟩, h⟩
theorem Rel.set {σ : L2.St} {δ : Env} (r : Rel K mg H ι σ δ S) {i : Nat} {v : V} {d : D} (q : Rp K mg H ι v d) : Rel K mg H ι (σ.set i (some v)) (δ.set i (some d)) S := by
  refine ⟨by simp [r.len], fun j d' e => ?_, r.sto⟩
  by_cases h : j = i
  · subst h
    have hj : j < δ.length := by
      obtain ⟨h1, _⟩ := List.getElem?_eq_some_iff.mp e
      simpa using h1
    rw [List.getElem?_set_self hj] at e
    cases e
    exact ⟨v, by rw [List.getElem?_set_self (by rw [← r.len]; exact hj)], q⟩
  · rw [List.getElem?_set_ne (Ne.symm h)] at e
    obtain ⟨w, e1, e2⟩ := r.env j d' e
    exact ⟨w, by rw [List.getElem?_set_ne (Ne.symm h)]; exact e1, e2⟩
end

/-! ### the judgements -/
/-- an exception e lies so: its class, its own dict -/
def RX (K : PySem.W.Frag) (mg : Str → Option Value) (H : Hp) (ι : List Addr) (e : Exc) (cls : Value) (dx : Option Addr) : Prop :=
  ∃ c, cls = .ref c ∧ mg (Str.ofString e.cls) = some (.ref c) ∧ match dx with
    | none => e.fs = []
    | some d => ∃ fs, H d = some (.xd fs) ∧ Rfs K mg H ι fs e.fs
def PostE (K : PySem.W.Frag) (mg : Str → Option Value) (W : WX) (σ : L2.St) (H : Hp) (ι : List Addr) (r : Res D) (Q : VK) : Prop := match r with
  | .ok d S' => ∀ v H' ι', Grow K H ι H' ι' → RS K mg H' ι' S' → Rp K mg H' ι' v d → Q v H'
  | .exc e S' => ∀ cls dx H' ι', Grow K H ι H' ι' → RS K mg H' ι' S' → RX K mg H' ι' e cls dx → W cls dx σ H'
  | .stuck => False
def PostA (K : PySem.W.Frag) (mg : Str → Option Value) (W : WX) (σ : L2.St) (H : Hp) (ι : List Addr) (r : Res (List D)) (Q : List V → Hp → Prop) : Prop := match r with
  | .ok d S' => ∀ v H' ι', Grow K H ι H' ι' → RS K mg H' ι' S' → Rps K mg H' ι' v d → Q v H'
  | .exc e S' => ∀ cls dx H' ι', Grow K H ι H' ι' → RS K mg H' ι' S' → RX K mg H' ι' e cls dx → W cls dx σ H'
  | .stuck => False
def PostT (K : PySem.W.Frag) (mg : Str → Option Value) (W : WX) (σ : L2.St) (H : Hp) (ι : List Addr) (r : Res Bool) (Q : Bool → Hp → Prop) : Prop := match r with
  | .ok b S' => ∀ H' ι', Grow K H ι H' ι' → RS K mg H' ι' S' → Q b H'
  | .exc e S' => ∀ cls dx H' ι', Grow K H ι H' ι' → RS K mg H' ι' S' → RX K mg H' ι' e cls dx → W cls dx σ H'
  | .stuck => False
def PostS (K : PySem.W.Frag) (mg : Str → Option Value) (W : WX) (D : Ends) (H : Hp) (ι : List Addr) (r : Res Flow) : Prop := match r with
  | .ok (.nx δ') S' => ∀ σ' H' ι', Grow K H ι H' ι' → Rel K mg H' ι' σ' δ' S' → D.nx σ' H'
  | .ok (.bk δ') S' => ∀ σ' H' ι', Grow K H ι H' ι' → Rel K mg H' ι' σ' δ' S' → D.bk σ' H'
  | .ok (.ct δ') S' => ∀ σ' H' ι', Grow K H ι H' ι' → Rel K mg H' ι' σ' δ' S' → D.ct σ' H'
  | .ok (.rt d) S' => ∀ v H' ι', Grow K H ι H' ι' → RS K mg H' ι' S' → Rp K mg H' ι' v d → D.rt v H'
  | .ok (.ex e δ') S' => ∀ cls dx σ' H' ι', Grow K H ι H' ι' → Rel K mg H' ι' σ' δ' S' → RX K mg H' ι' e cls dx → W cls dx σ' H'
  | _ => False
def cE (K : PySem.W.Frag) (mg : Str → Option Value) (W : WX) (m : EM) : TE := fun σ H Q => ∃ δ S ι, Rel K mg H ι σ δ S ∧ PostE K mg W σ H ι (m δ S) Q
def cA (K : PySem.W.Frag) (mg : Str → Option Value) (W : WX) (m : AM) : TA := fun σ H Q => ∃ δ S ι, Rel K mg H ι σ δ S ∧ PostA K mg W σ H ι (m δ S) Q
def cT (K : PySem.W.Frag) (mg : Str → Option Value) (W : WX) (m : TM) : TT := fun σ H Q => ∃ δ S ι, Rel K mg H ι σ δ S ∧ PostT K mg W σ H ι (m δ S) Q
def cS (K : PySem.W.Frag) (mg : Str → Option Value) (W : WX) (m : SM) : TS := fun D σ H => ∃ δ S ι, Rel K mg H ι σ δ S ∧ PostS K mg W D H ι (m δ S)
abbrev SE (X : Cx) (W : WX) (e : Expr) (m : EM) : Prop := PE X e (cE X.K X.mg W m)
abbrev SA (X : Cx) (W : WX) (e : List Expr) (m : List EM) : Prop := PA X e (cA X.K X.mg W (argsM m))
abbrev ST (X : Cx) (W : WX) (e : Expr) (m : TM) : Prop := PT X e (cT X.K X.mg W m)
abbrev SW (X : Cx) (W : WX) (e : Expr) (m : TM) : Prop := PW X e (cT X.K X.mg W m)
abbrev SS (X : Cx) (W : WX) (s : Stmt) (m : SM) : Prop := PS X s (cS X.K X.mg W m)
abbrev SSs (X : Cx) (W : WX) (s : List Stmt) (m : SM) : Prop := PSs X s (cS X.K X.mg W m)
section
variable {X : Cx}
theorem pe_imp {e : Expr} {t t' : TE} (h : PE X e t) (i : ∀ σ H Q, t' σ H Q → t σ H Q) : PE X e t' := ⟨fun pins s σ H Q I hw => h.run pins s σ H Q I (i _ _ _ hw)⟩
theorem pa_imp {e : List Expr} {t t' : TA} (h : PA X e t) (i : ∀ σ H Q, t' σ H Q → t σ H Q) : PA X e t' := ⟨fun pos pins s σ H Q I hw => h.run pos pins s σ H Q I (i _ _ _ hw)⟩
theorem pt_imp {e : Expr} {t t' : TT} (h : PT X e t) (i : ∀ σ H Q, t' σ H Q → t σ H Q) : PT X e t' := ⟨fun pins s σ H Q I hw => h.run pins s σ H Q I (i _ _ _ hw)⟩
theorem pw_imp {e : Expr} {t t' : TT} (h : PW X e t) (i : ∀ σ H Q, t' σ H Q → t σ H Q) : PW X e t' := ⟨fun wh pins s σ H Q I hw => h.run wh pins s σ H Q I (i _ _ _ hw)⟩
theorem ps_imp {e : Stmt} {t t' : TS} (h : PS X e t) (i : ∀ D σ H, t' D σ H → t D σ H) : PS X e t' := ⟨fun pins s σ H D I hw => h.run pins s σ H D I (i _ _ _ hw)⟩
theorem pss_imp {e : List Stmt} {t t' : TS} (h : PSs X e t) (i : ∀ D σ H, t' D σ H → t D σ H) : PSs X e t' := ⟨fun pins s σ H D I hw => h.run pins s σ H D I (i _ _ _ hw)⟩
end
section
variable {K : PySem.W.Frag} {mg : Str → Option Value} {W : WX} {σ : L2.St} {H H1 : Hp} {ι ι1 : List Addr}
theorem PostE.imp {r : Res D} {Q Q' : VK} (h : PostE K mg W σ H ι r Q) (i : ∀ v H', Q v H' → Q' v H') : PostE K mg W σ H ι r Q' := by
  cases r with
  | ok d S => exact fun v H' ι' a b c => i _ _ (h v H' ι' a b c)
  | exc e S => exact h
  | stuck => exact h
theorem PostE.back {r : Res D} {Q : VK} (g : Grow K H ι H1 ι1) (h : PostE K mg W σ H ι r Q) : PostE K mg W σ H1 ι1 r Q := by
  cases r with
  | ok d S => exact fun v H' ι' a b c => h v H' ι' (g.trans a) b c
  | exc e S => exact fun c dx H' ι' a b d => h c dx H' ι' (g.trans a) b d
  | stuck => exact h
theorem PostA.back {r : Res (List D)} {Q : List V → Hp → Prop} (g : Grow K H ι H1 ι1) (h : PostA K mg W σ H ι r Q) : PostA K mg W σ H1 ι1 r Q := by
  cases r with
  | ok d S => exact fun v H' ι' a b c => h v H' ι' (g.trans a) b c
  | exc e S => exact fun c dx H' ι' a b d => h c dx H' ι' (g.trans a) b d
  | stuck => exact h
theorem PostT.back {r : Res Bool} {Q : Bool → Hp → Prop} (g : Grow K H ι H1 ι1) (h : PostT K mg W σ H ι r Q) : PostT K mg W σ H1 ι1 r Q := by
  cases r with
  | ok d S => exact fun H' ι' a b => h H' ι' (g.trans a) b
  | exc e S => exact fun c dx H' ι' a b d => h c dx H' ι' (g.trans a) b d
  | stuck => exact h
theorem PostS.back {r : Res Flow} {D : Ends} (g : Grow K H ι H1 ι1) (h : PostS K mg W D H ι r) : PostS K mg W D H1 ι1 r := by
  cases r with
  | ok f S =>
    cases f with
    | nx δ => exact fun σ' H' ι' a b => h σ' H' ι' (g.trans a) b
    | bk δ => exact fun σ' H' ι' a b => h σ' H' ι' (g.trans a) b
    | ct δ => exact fun σ' H' ι' a b => h σ' H' ι' (g.trans a) b
    | rt d => exact fun v H' ι' a b c => h v H' ι' (g.trans a) b c
    | ex e δ => exact fun c dx σ' H' ι' a b d => h c dx σ' H' ι' (g.trans a) b d
  | exc e S => exact h
  | stuck => exact h
/-- m, then f -/
theorem PostE.seq {r : Res D} {f : D → Store → Res D} {Q : VK} (h : PostE K mg W σ H ι (r.bind f) Q)
    {Q' : VK} (q : ∀ v H' ι' d S', r = .ok d S' → Grow K H ι H' ι' → RS K mg H' ι' S' → Rp K mg H' ι' v d → PostE K mg W σ H' ι' (f d S') Q → Q' v H') : PostE K mg W σ H ι r Q' := by
  cases r with
  | ok d S => exact fun v H' ι' a b c => q v H' ι' d S rfl a b c (h.back a)
  | exc e S => exact h
  | stuck => exact h
theorem PostA.seq {r : Res (List D)} {f : List D → Store → Res D} {Q : VK} (h : PostE K mg W σ H ι (r.bind f) Q)
    {Q' : List V → Hp → Prop} (q : ∀ v H' ι' d S', r = .ok d S' → Grow K H ι H' ι' → RS K mg H' ι' S' → Rps K mg H' ι' v d → PostE K mg W σ H' ι' (f d S') Q → Q' v H') : PostA K mg W σ H ι r Q' := by
  cases r with
  | ok d S => exact fun v H' ι' a b c => q v H' ι' d S rfl a b c (h.back a)
  | exc e S => exact h
  | stuck => exact h
end
end Dl

end

section
set_option linter.all false
set_option Elab.async false
set_option maxRecDepth 100000
set_option Elab.async false
set_option linter.all false
set_option maxRecDepth 100000
set_option maxHeartbeats 4000000
namespace Dl
open PySem PySem.Spec PyProof.Rows L2

section
variable {X : Cx} {W : WX} {e a b c : Expr} {es : List Expr} {m m' : EM} {ms : List EM} {pos : Pos}

/-! ### names, constants, arguments -/
theorem se_var (i : Nat) {x : Str} (hN : X.N[i]? = some x := by rfl) (hv : Vis X.env.scope x := by first | exact Or.inl rfl | exact Or.inr (Or.inl rfl) | exact Or.inr (Or.inr rfl)) (hd : (x == ("__debug__" : Str)) = false := by decide)
    (hcd : (x == ("__classdict__" : Str)) = false := by decide) : SE X W (.Name x pos) (varM i) := by
  refine pe_imp (pe_var hN hv hd hcd) fun σ H Q h => ?_
  obtain ⟨δ, S, ι, r, h⟩ := h
  unfold varM at h
  split at h
  · rename_i d e
    obtain ⟨v, e1, e2⟩ := r.env i d e
    exact ⟨v, e1, h v H ι .refl r.sto e2⟩
  · exact h.elim
theorem se_con {e : Expr} {v : V} {d : D} (h : PE X e (tC v)) (q : ∀ H ι, Rp X.K X.mg H ι v d) : SE X W e (conM d) := by
  refine pe_imp h fun σ H Q h => ?_
  obtain ⟨δ, S, ι, r, h⟩ := h
  exact h v H ι .refl r.sto (q H ι)
theorem se_int {i : Int} {j pos} : SE X W (.Constant (.int i) j pos) (conM (.int i)) := se_con pe_int fun _ _ => .int i
theorem se_bl {i : Bool} {j pos} : SE X W (.Constant (.bool i) j pos) (conM (.bl i)) := se_con pe_bl fun _ _ => .bl i
theorem se_non {j pos} : SE X W (.Constant .none j pos) (conM .non) := se_con pe_non fun _ _ => .non
theorem se_str {x : Str} (c : Cs) {j pos} (h : x = toS c := by decide +kernel) : SE X W (.Constant (.str x) j pos) (conM (.str c)) := by
  subst h
  exact se_con pe_str fun _ _ => .str c
/-- a def of the module as a value -/
theorem se_fn {x : Str} {f : Addr} (y : String) (hg : Gl X x) (hx : x = Str.ofString y) (hm : X.mg x = some (.ref f)) (hd : (x == ("__debug__" : Str)) = false := by decide) : SE X W (.Name x pos) (conM (.fn y)) := by
  subst hx
  exact se_con (pe_glob (v := .ref f) hg hm rfl hd) fun _ _ => .fn hm
theorem sa_nil : SA X W [] [] := by
  refine pa_imp pa_nil fun σ H Q h => ?_
  obtain ⟨δ, S, ι, r, h⟩ := h
  exact h [] H ι .refl r.sto .nil
theorem sa_cons (h1 : SE X W e m) (h2 : SA X W es ms) (hs : starEach (e :: es) X.env = (false, eval e X.env) :: starEach es X.env := by rfl) : SA X W (e :: es) (m :: ms) := by
  refine pa_imp (pa_cons h1 h2 hs) fun σ H Q h => ?_
  obtain ⟨δ, S, ι, r, h⟩ := h
  refine ⟨δ, S, ι, r, ?_⟩
  have h : PostA X.K X.mg W σ H ι ((m δ S).bind fun d S1 => (argsM ms δ S1).bind fun ds S2 => .ok (d :: ds) S2) Q := h
  cases e1 : m δ S with
  | ok d S1 =>
    rw [e1] at h
    intro v H1 ι1 g1 r1 p1
    refine ⟨δ, S1, ι1, r.mono g1 r1, ?_⟩
    cases e2 : argsM ms δ S1 with
    | ok ds S2 =>
      simp only [Res.bind_ok, e2] at h
      intro vs H2 ι2 g2 r2 p2
      exact h (v :: vs) H2 ι2 (g1.trans g2) r2 (.cons (p1.mono g2) p2)
    | exc x S2 =>
      simp only [Res.bind_ok, e2] at h
      exact fun c dx H' ι' g q z => h c dx H' ι' (g1.trans g) q z
    | stuck =>
      simp only [Res.bind_ok, e2] at h
      exact h
  | exc x S1 => rw [e1] at h; exact h
  | stuck => rw [e1] at h; exact h

/-! ### what is done with values -/
/-- the operation r on values does what p does on data -/
structure SimN (K : PySem.W.Frag) (mg : Str → Option Value) (r : List V → Hp → VK → Prop) (p : FM) : Prop where
  run : ∀ (xs : List V) (ds : List D) (H : Hp) (S : Store) (ι : List Addr) (d : D) (S' : Store) (Q : VK), RS K mg H ι S → Rps K mg H ι xs ds → p ds S = .ok d S' →
    (∀ v H' ι', Grow K H ι H' ι' → RS K mg H' ι' S' → Rp K mg H' ι' v d → Q v H') → r xs H Q
  nox : ∀ ds S e S', p ds S ≠ .exc e S'
/-- behind the arguments -/
theorem callN {K : PySem.W.Frag} {mg : Str → Option Value} {σ : L2.St} {H : Hp} {Q : VK} {r : List V → Hp → VK → Prop} {p : FM} (s : SimN K mg r p) (h : cE K mg W (callM p ms) σ H Q) : tCB r (cA K mg W (argsM ms)) σ H Q := by
  obtain ⟨δ, S, ι, rl, h⟩ := h
  refine ⟨δ, S, ι, rl, ?_⟩
  have h : PostE K mg W σ H ι ((argsM ms δ S).bind p) Q := h
  refine PostA.seq h fun v H' ι' ds S1 e g r1 q hp => ?_
  cases e2 : p ds S1 with
  | ok d S' => rw [e2] at hp; exact s.run v ds H' S1 ι' d S' Q r1 q e2 hp
  | exc x S' => exact (s.nox _ _ _ _ e2).elim
  | stuck => rw [e2] at hp; exact hp.elim
/-- of two -/
structure Sim2 (K : PySem.W.Frag) (mg : Str → Option Value) (r : R2) (p : FM) : Prop where
  run : ∀ (x y : V) (dx dy : D) (H : Hp) (S : Store) (ι : List Addr) (d : D) (S' : Store) (Q : VK), RS K mg H ι S → Rp K mg H ι x dx → Rp K mg H ι y dy → p [dx, dy] S = .ok d S' →
    (∀ v H' ι', Grow K H ι H' ι' → RS K mg H' ι' S' → Rp K mg H' ι' v d → Q v H') → r x y H Q
  nox : ∀ ds S e S', p ds S ≠ .exc e S'
theorem bind_inv {α β : Type} {r : Res α} {f : α → Store → Res β} {b : β} {S : Store} (h : r.bind f = .ok b S) : ∃ a S1, r = .ok a S1 ∧ f a S1 = .ok b S := by
  cases r with
  | ok a S1 => exact ⟨a, S1, rfl, h⟩
  | exc e S1 => cases h
  | stuck => cases h
theorem opN {K : PySem.W.Frag} {mg : Str → Option Value} {σ : L2.St} {H : Hp} {Q : VK} {r : R2} {p : FM} (s : Sim2 K mg r p) (h : cE K mg W (callM p [m, m']) σ H Q) : tOp r (cE K mg W m) (cE K mg W m') σ H Q := by
  obtain ⟨δ, S, ι, rl, h⟩ := h
  refine ⟨δ, S, ι, rl, ?_⟩
  have h : PostE K mg W σ H ι (((m δ S).bind fun d S1 => (argsM [m'] δ S1).bind fun ds S2 => .ok (d :: ds) S2).bind p) Q := h
  cases e1 : m δ S with
  | ok d S1 =>
    rw [e1] at h
    intro v H1 ι1 g1 r1 p1
    refine ⟨δ, S1, ι1, rl.mono g1 r1, ?_⟩
    have h : PostE K mg W σ H ι ((((m' δ S1).bind fun d S2 => .ok [d] S2).bind fun ds S2 => .ok (d :: ds) S2).bind p) Q := h
    cases e2 : m' δ S1 with
    | ok d' S2 =>
      rw [e2] at h
      have h : PostE K mg W σ H ι (p [d, d'] S2) Q := h
      intro u H2 ι2 g2 r2 p2
      cases e3 : p [d, d'] S2 with
      | ok z S3 =>
        rw [e3] at h
        exact s.run v u d d' H2 S2 ι2 z S3 Q r2 (p1.mono g2) p2 e3 fun w H3 ι3 g3 r3 p3 => h w H3 ι3 ((g1.trans g2).trans g3) r3 p3
      | exc x S3 => exact (s.nox _ _ _ _ e3).elim
      | stuck => rw [e3] at h; exact h.elim
    | exc x S2 =>
      rw [e2] at h
      exact fun c dx H' ι' g q z => h c dx H' ι' (g1.trans g) q z
    | stuck => rw [e2] at h; exact h
  | exc x S1 => rw [e1] at h; exact h
  | stuck => rw [e1] at h; exact h
theorem se_op {op : Operator} {r : R2} {p : FM} (ho : OpR X (binaryOp op) r) (s : Sim2 X.K X.mg r p) (ha : SE X W a m) (hb : SE X W b m') : SE X W (.BinOp a op b pos) (callM p [m, m']) :=
  pe_imp (pe_op ho ha hb) fun _ _ _ h => opN s h
theorem se_cmp {op : CmpOp} {r : R2} {p : FM} (ho : OpR X (compareOp op) r) (s : Sim2 X.K X.mg r p) (ha : SE X W a m) (hb : SE X W b m') (hm : behindInMarks op b = false) : SE X W (.Compare a [op] [b] pos) (callM p [m, m']) :=
  pe_imp (pe_cmpR ho ha hb hm) fun _ _ _ h => opN s h
theorem tbT {K : PySem.W.Frag} {mg : Str → Option Value} {σ : L2.St} {H : Hp} {Q : Bool → Hp → Prop} {t : TE} (i : ∀ {Q}, cE K mg W m σ H Q → t σ H Q) (h : cT K mg W (tbM m) σ H Q) : tTest t σ H Q := by
  obtain ⟨δ, S, ι, rl, h⟩ := h
  refine i ⟨δ, S, ι, rl, ?_⟩
  have h : PostT K mg W σ H ι ((m δ S).bind fun d S1 => match d with | .bl b => .ok b S1 | _ => .stuck) Q := h
  cases e1 : m δ S with
  | ok d S1 =>
    rw [e1] at h
    intro v H1 ι1 g1 r1 p1
    cases d with
    | bl b => cases p1; exact ⟨b, rfl, h H1 ι1 g1 r1⟩
    | _ => exact h.elim
  | exc x S1 => rw [e1] at h; exact h
  | stuck => rw [e1] at h; exact h
theorem st_cmp {op : CmpOp} {r : R2} {p : FM} (ho : OpR X (compareOp op) r) (s : Sim2 X.K X.mg r p) (ha : SE X W a m) (hb : SE X W b m') (hm : behindInMarks op b = false) : ST X W (.Compare a [op] [b] pos) (tbM (callM p [m, m'])) :=
  pt_imp (pt_cmpR ho ha hb hm) fun _ _ _ h => tbT (fun h => opN s h) h
/-- an expression whose value is a bool, as a test -/
theorem st_val (ha : SE X W e m) (he : ∀ whole, isTrue e X.env whole = (do let v ← whole; standAt e.pos; holding [v] (truthy v)) := by intro _; rfl) : ST X W e (tbM m) :=
  pt_imp (pt_val ha he) fun _ _ _ h => tbT (fun h => h) h

/-! ### and, or, not -/
variable {tA tB : TM} {rest : List Expr}
theorem PostT.seq {K : PySem.W.Frag} {mg : Str → Option Value} {σ : L2.St} {H : Hp} {ι : List Addr} {r : Res Bool} {f : Bool → Store → Res Bool} {Q : Bool → Hp → Prop} (h : PostT K mg W σ H ι (r.bind f) Q)
    {Q' : Bool → Hp → Prop} (q : ∀ H' ι' d S', r = .ok d S' → Grow K H ι H' ι' → RS K mg H' ι' S' → PostT K mg W σ H' ι' (f d S') Q → Q' d H') : PostT K mg W σ H ι r Q' := by
  cases r with
  | ok d S => exact fun H' ι' a b => q H' ι' d S rfl a b (h.back a)
  | exc e S => exact h
  | stuck => exact h
theorem PostT.seqE {K : PySem.W.Frag} {mg : Str → Option Value} {σ : L2.St} {H : Hp} {ι : List Addr} {r : Res Bool} {f : Bool → Store → Res D} {Q : VK} (h : PostE K mg W σ H ι (r.bind f) Q)
    {Q' : Bool → Hp → Prop} (q : ∀ H' ι' d S', r = .ok d S' → Grow K H ι H' ι' → RS K mg H' ι' S' → PostE K mg W σ H' ι' (f d S') Q → Q' d H') : PostT K mg W σ H ι r Q' := by
  cases r with
  | ok d S => exact fun H' ι' a b => q H' ι' d S rfl a b (h.back a)
  | exc e S => exact h
  | stuck => exact h
theorem sw_and1 (ha : ST X W a tA) : SW X W (.BoolOp .And [a] pos) tA := pw_and1 ha
theorem sw_or1 (ha : ST X W a tA) : SW X W (.BoolOp .Or [a] pos) tA := pw_or1 ha
theorem sw_and (ha : ST X W a tA) (hb : SW X W (.BoolOp .And (b :: rest) pos) tB) : SW X W (.BoolOp .And (a :: b :: rest) pos) (andT tA tB) := by
  refine pw_imp (pw_and ha hb) fun σ H Q h => ?_
  obtain ⟨δ, S, ι, r, h⟩ := h
  refine ⟨δ, S, ι, r, PostT.seq h fun H' ι' d S' _ g r1 h1 => ?_⟩
  cases d with
  | true => exact iteT ⟨δ, S', ι', r.mono g r1, h1⟩
  | false => exact iteF (h1 H' ι' .refl r1)
theorem sw_or (ha : ST X W a tA) (hb : SW X W (.BoolOp .Or (b :: rest) pos) tB) : SW X W (.BoolOp .Or (a :: b :: rest) pos) (orT tA tB) := by
  refine pw_imp (pw_or ha hb) fun σ H Q h => ?_
  obtain ⟨δ, S, ι, r, h⟩ := h
  refine ⟨δ, S, ι, r, PostT.seq h fun H' ι' d S' _ g r1 h1 => ?_⟩
  cases d with
  | true => exact iteT (h1 H' ι' .refl r1)
  | false => exact iteF ⟨δ, S', ι', r.mono g r1, h1⟩
theorem st_w (h : SW X W e tA) : ST X W e tA := h.pt
theorem st_not (ha : ST X W a tA) : ST X W (.UnaryOp .Not a pos) (notT tA) := by
  refine pt_imp (pt_not ha) fun σ H Q h => ?_
  obtain ⟨δ, S, ι, r, h⟩ := h
  exact ⟨δ, S, ι, r, PostT.seq h fun H' ι' d S' _ g r1 h1 => h1 H' ι' .refl r1⟩
theorem se_one {op} (h : SE X W a m) : SE X W (.BoolOp op [a] pos) m := pe_one h
theorem se_and (ha : SE X W a m) (hb : SE X W (.BoolOp .And (b :: rest) pos) m') : SE X W (.BoolOp .And (a :: b :: rest) pos) (andV m m') := by
  refine pe_imp (pe_and ha hb) fun σ H Q h => ?_
  obtain ⟨δ, S, ι, r, h⟩ := h
  refine ⟨δ, S, ι, r, PostE.seq h fun v H' ι' d S' _ g r1 p1 h1 => ?_⟩
  cases d with
  | bl k =>
    cases p1
    refine ⟨k, rfl, ?_⟩
    cases k with
    | true => exact iteT ⟨δ, S', ι', r.mono g r1, h1⟩
    | false => exact iteF (h1 _ H' ι' .refl r1 (.bl false))
  | _ => exact h1.elim
theorem se_or (ha : SE X W a m) (hb : SE X W (.BoolOp .Or (b :: rest) pos) m') : SE X W (.BoolOp .Or (a :: b :: rest) pos) (orV m m') := by
  refine pe_imp (pe_or ha hb) fun σ H Q h => ?_
  obtain ⟨δ, S, ι, r, h⟩ := h
  refine ⟨δ, S, ι, r, PostE.seq h fun v H' ι' d S' _ g r1 p1 h1 => ?_⟩
  cases d with
  | bl k =>
    cases p1
    refine ⟨k, rfl, ?_⟩
    cases k with
    | false => exact iteF ⟨δ, S', ι', r.mono g r1, h1⟩
    | true => exact iteT (h1 _ H' ι' .refl r1 (.bl true))
  | _ => exact h1.elim
theorem se_not (ha : SE X W a m) : SE X W (.UnaryOp .Not a pos) (notV m) := by
  refine pe_imp (pe_not ha) fun σ H Q h => ?_
  obtain ⟨δ, S, ι, r, h⟩ := h
  refine ⟨δ, S, ι, r, PostE.seq h fun v H' ι' d S' _ g r1 p1 h1 => ?_⟩
  cases d with
  | bl k => cases p1; exact ⟨k, rfl, h1 _ H' ι' .refl r1 (.bl _)⟩
  | _ => exact h1.elim
theorem se_ifExp {c : Expr} (hc : ST X W c tA) (ha : SE X W a m) (hb : SE X W b m') : SE X W (.IfExp c a b pos) (ifM tA m m') := by
  refine pe_imp (pe_ifExp hc ha hb) fun σ H Q h => ?_
  obtain ⟨δ, S, ι, r, h⟩ := h
  refine ⟨δ, S, ι, r, PostT.seqE h fun H' ι' d S' _ g r1 h1 => ?_⟩
  cases d with
  | true => exact iteT ⟨δ, S', ι', r.mono g r1, h1⟩
  | false => exact iteF ⟨δ, S', ι', r.mono g r1, h1⟩
end
end Dl

end

section
set_option linter.all false
set_option Elab.async false
set_option maxRecDepth 100000
set_option Elab.async false
set_option linter.all false
set_option maxRecDepth 100000
set_option maxHeartbeats 4000000
namespace Dl
open PySem PySem.Spec PyProof.Rows L2

section
variable {K : PySem.W.Frag} {mg : Str → Option Value} {H H' : Hp} {ι ι' : List Addr} {S : Store}
/-! ### reading the store -/
theorem RS.lst (r : RS K mg H ι S) {n : Nat} {a : Addr} {xs : List D} (hn : ι[n]? = some a) (e : S[n]? = some (.lst xs)) : ∃ vs, H a = some (.lst vs) ∧ Rps K mg H ι vs xs := r.at_ n _ a e hn
theorem RS.lstAt (r : RS K mg H ι S) {n : Nat} {a : Addr} {xs : List D} (hn : ι[n]? = some a) (e : lstAt S n = some xs) : ∃ vs, SqL K H a vs ∧ Rps K mg H ι vs xs := by
  unfold Dl.lstAt at e
  split at e
  · rename_i ys e1; cases e
    obtain ⟨vs, h1, h2⟩ := r.at_ n _ a e1 hn
    exact ⟨vs, .inl (.inl h1), h2⟩
  · cases e
/-- a tracked list written -/
theorem RS.put (r : RS K mg H ι S) {n : Nat} {a : Addr} {vs ws : List V} {ys : List D} (hn : ι[n]? = some a) (h : H a = some (.lst vs)) (q : Rps K mg H ι ws ys) :
    Grow K H ι (upd H a (.lst ws)) ι ∧ RS K mg (upd H a (.lst ws)) ι (S.set n (.lst ys)) := by
  have g : Grow K H ι (upd H a (.lst ws)) ι := Grow.write h (fun _ z => by cases z) (fun _ _ z => by cases z)
  exact ⟨g, r.write hn g ⟨ws, upd_same, q.mono g⟩⟩
/-- a new list -/
theorem RS.newL (r : RS K mg H ι S) {p : Addr} {ws : List V} {ys : List D} (hp : H p = none) (q : Rps K mg H ι ws ys) :
    Grow K H ι (upd H p (.lst ws)) (ι ++ [p]) ∧ RS K mg (upd H p (.lst ws)) (ι ++ [p]) (S ++ [.lst ys]) ∧ Rp K mg (upd H p (.lst ws)) (ι ++ [p]) (.ref p) (.ref S.length) := by
  have g : Grow K H ι (upd H p (.lst ws)) (ι ++ [p]) := Grow.alloc hp
  refine ⟨g, r.alloc hp ⟨ws, upd_same, q.mono g⟩, .ref ?_⟩
  rw [← r.len]; simp
/-- a new tuple -/
theorem RS.mkT (r : RS K mg H ι S) {p : Addr} {ws : List V} {ys : List D} (hp : H p = none) (hl : ws.length ≤ sizeLine) (q : Rps K mg H ι ws ys) :
    Grow K H ι (upd H p (.tup ws)) ι ∧ RS K mg (upd H p (.tup ws)) ι S ∧ Rp K mg (upd H p (.tup ws)) ι (.ref p) (.tup ys) := by
  have g : Grow K H ι (upd H p (.tup ws)) ι := Grow.new hp
  exact ⟨g, r.new hp, .tup (.inl (.inl upd_same)) hl (q.mono g)⟩
theorem Rps.one {vs : List V} {d : D} (h : Rps K mg H ι vs [d]) : ∃ v, vs = [v] ∧ Rp K mg H ι v d := by
  cases h with
  | cons h1 h2 => cases h2; exact ⟨_, rfl, h1⟩
theorem Rps.two {vs : List V} {d e : D} (h : Rps K mg H ι vs [d, e]) : ∃ v u, vs = [v, u] ∧ Rp K mg H ι v d ∧ Rp K mg H ι u e := by
  cases h with
  | cons h1 h2 =>
    obtain ⟨u, rfl, h3⟩ := h2.one
    exact ⟨_, _, rfl, h1, h3⟩
theorem Rp.ref_inv {v : V} {n : Nat} (h : Rp K mg H ι v (.ref n)) : ∃ a, v = .ref a ∧ ι[n]? = some a := by
  cases h with
  | ref h => exact ⟨_, rfl, h⟩
theorem Rp.lit_inv {v : V} {xs : List D} (h : Rp K mg H ι v (.lit xs)) : ∃ a vs, v = .ref a ∧ SqL K H a vs ∧ vs.length ≤ sizeLine ∧ Rps K mg H ι vs xs := by
  cases h with
  | lit h1 h2 h3 => exact ⟨_, _, rfl, h1.sql, h2, h3⟩
theorem Rp.tup_inv {v : V} {xs : List D} (h : Rp K mg H ι v (.tup xs)) : ∃ a vs, v = .ref a ∧ SqT K H a vs ∧ vs.length ≤ sizeLine ∧ Rps K mg H ι vs xs := by
  cases h with
  | tup h1 h2 h3 => exact ⟨_, _, rfl, h1, h2, h3⟩
end

section
variable {X : Cx} {W : WX} {e a b c : Expr} {es : List Expr} {m m' : EM} {ms : List EM} {pos : Pos}
theorem ite_ok {p : Prop} [Decidable p] {α : Type} {a d : α} {S S' : Store} (h : (if p then Res.ok a S else Res.stuck) = Res.ok d S') : p ∧ a = d ∧ S = S' := by
  split at h
  · rename_i q; cases h; exact ⟨q, rfl, rfl⟩
  · cases h
theorem ite_exc {p : Prop} [Decidable p] {α : Type} {a : α} {S S' : Store} {x : Exc} : (if p then Res.ok a S else Res.stuck) ≠ Res.exc x S' := by
  split <;> exact fun z => by cases z

/-! ### tuples, lists -/
theorem sim_tup {K : PySem.W.Frag} {mg : Str → Option Value} : SimN K mg (fun xs H Q => xs.length ≤ sizeLine ∧ ∀ p, H p = none → Q (.ref p) (upd H p (.tup xs))) tupP where
  run := fun xs ds H S ι d S' Q r q e h => by
    obtain ⟨hl, rfl, rfl⟩ := ite_ok e
    rw [LIM_eq, ← q.length] at hl
    refine ⟨hl, fun p hp => ?_⟩
    obtain ⟨g, r', q'⟩ := r.mkT hp hl q
    exact h _ _ _ g r' q'
  nox := fun _ _ _ _ => ite_exc
theorem se_tup {k} (h : SA X W es ms) : SE X W (.Tuple es k pos) (callM tupP ms) := pe_imp (pe_tup h) fun _ _ _ q => callN sim_tup q
theorem sim_lst {K : PySem.W.Frag} {mg : Str → Option Value} : SimN K mg (fun xs H Q => xs.length ≤ sizeLine ∧ ∀ p, H p = none → Q (.ref p) (upd H p (.lst xs))) lstP where
  run := fun xs ds H S ι d S' Q r q e h => by
    obtain ⟨hl, rfl, rfl⟩ := ite_ok e
    rw [LIM_eq, ← q.length] at hl
    refine ⟨hl, fun p hp => ?_⟩
    obtain ⟨g, r', q'⟩ := r.newL hp q
    exact h _ _ _ g r' q'
  nox := fun _ _ _ _ => ite_exc
theorem se_lst (h : SA X W es ms) : SE X W (.List es pos) (callM lstP ms) := pe_imp (pe_lst h) fun _ _ _ q => callN sim_lst q

/-! ### arithmetic -/
def rAddA (K : PySem.W.Frag) : R2 := fun x y H Q => (rI0 fun i j => .int (i + j)) x y H Q ∨ (∃ i j, x = .str i ∧ y = .str j ∧ i.length + j.length ≤ sizeLine ∧ Q (.str (i ++ j)) H) ∨ rCatA K x y H Q ∨ rCat x y H Q
theorem op_addA : OpR X (binaryOp .Add) (rAddA X.K) := op_add.or (op_add_str.or (op_catA.or op_cat))
theorem sim_add {K : PySem.W.Frag} {mg : Str → Option Value} : Sim2 K mg (rAddA K) addP where
  run := fun x y dx dy H S ι d S' Q r px py e h => by
    unfold addP at e
    split at e
    · rename_i i j q
      cases q; cases e; cases px; cases py
      exact .inl ⟨_, _, rfl, rfl, h _ H ι .refl r (.int _)⟩
    · rename_i i j q
      cases q
      obtain ⟨hl, rfl, rfl⟩ := ite_ok e
      cases px; cases py
      refine .inr (.inl ⟨_, _, rfl, rfl, ?_, ?_⟩)
      · rw [toS_length, toS_length, ← LIM_eq]; exact hl
      · rw [toS_append]; exact h _ H ι .refl r (.str _)
    · rename_i xs ys q
      cases q
      obtain ⟨hl, rfl, rfl⟩ := ite_ok e
      obtain ⟨a, vs, rfl, h1, h2, h3⟩ := px.tup_inv
      obtain ⟨b, ws, rfl, k1, k2, k3⟩ := py.tup_inv
      have hl' : vs.length + ws.length ≤ sizeLine := by rw [← LIM_eq, h3.length, k3.length]; exact hl
      refine .inr (.inr (.inl ⟨a, b, vs, ws, rfl, rfl, h1, k1, hl', fun z => ?_, fun z1 z2 => ?_, fun _ _ p hp => ?_⟩))
      · subst z; cases h3; exact h _ H ι .refl r (.tup k1 k2 k3)
      · subst z2; cases k3; rw [List.append_nil] at h; exact h _ H ι .refl r (.tup h1 h2 h3)
      · obtain ⟨g, r', q'⟩ := r.mkT hp (ws := vs ++ ws) (by simpa using hl') (h3.append k3)
        exact h _ _ _ g r' q'
    · rename_i n m q
      cases q
      split at e
      · rename_i xs ys e1 e2
        obtain ⟨hl, rfl, rfl⟩ := ite_ok e
        obtain ⟨a, rfl, ha⟩ := px.ref_inv
        obtain ⟨b, rfl, hb⟩ := py.ref_inv
        obtain ⟨vs, h1, h2⟩ := r.lst ha e1
        obtain ⟨ws, k1, k2⟩ := r.lst hb e2
        refine .inr (.inr (.inr ⟨a, b, vs, ws, rfl, rfl, h1, k1, ?_, fun p hp => ?_⟩))
        · rw [← LIM_eq, h2.length, k2.length]; exact hl
        · obtain ⟨g, r', q'⟩ := r.newL hp (h2.append k2)
          exact h _ _ _ g r' q'
      · cases e
    · cases e
  nox := fun ds S x S' z => by
    unfold addP at z
    split at z <;> first | cases z | exact ite_exc z | (split at z <;> first | cases z | exact ite_exc z)
theorem se_add (ha : SE X W a m) (hb : SE X W b m') : SE X W (.BinOp a .Add b pos) (callM addP [m, m']) := se_op op_addA sim_add ha hb
theorem sim_sub {K : PySem.W.Frag} {mg : Str → Option Value} : Sim2 K mg (rI0 fun i j => .int (i - j)) subP where
  run := fun x y dx dy H S ι d S' Q r px py e h => by
    unfold subP at e
    split at e
    · rename_i i j q
      cases q; cases e; cases px; cases py
      exact ⟨_, _, rfl, rfl, h _ H ι .refl r (.int _)⟩
    · cases e
  nox := fun ds S x S' z => by
    unfold subP at z
    split at z <;> cases z
theorem se_sub (ha : SE X W a m) (hb : SE X W b m') : SE X W (.BinOp a .Sub b pos) (callM subP [m, m']) := se_op op_sub sim_sub ha hb
/-- s * n, 0 ≤ n -/
theorem op_mul_str : OpR X (binaryOp .Mult) (fun x y H Q => ∃ z i, x = .str z ∧ y = .int i ∧ 0 ≤ i ∧ i ≤ (sizeLine : Int) ∧ z.length * i.toNat ≤ sizeLine ∧ Q (.str ⟨(List.replicate i.toNat z.cps.toList).flatten.toArray⟩) H) := by
  intro pins s σ H x y v u Q I rx ry h
  obtain ⟨z, i, rfl, rfl, h0, h1, hz, q⟩ := h
  obtain ⟨t, rfl⟩ := rx
  obtain ⟨t', rfl⟩ := ry
  have e : Txt.mul z i = ⟨(List.replicate i.toNat z.cps.toList).flatten.toArray⟩ := by
    unfold Txt.mul
    by_cases hi0 : i < 1
    · rw [if_pos hi0]
      have : i = 0 := by omega
      subst this
      rfl
    rw [if_neg hi0]
    split
    · rename_i hc
      cases z with
      | mk cps =>
      rcases Bool.or_eq_true _ _ ▸ hc with c | c
      · have : i = 1 := by simpa using c
        subst this
        simp
      · have : cps.size = 0 := by simpa [Str.length] using c
        have e0 : cps = #[] := Array.eq_empty_of_size_eq_zero this
        subst e0
        simp
    · cases z with
      | mk cps =>
      have : ∀ (n : Nat) (acc : Array Nat), (List.replicate n cps).foldl (· ++ ·) acc = acc ++ (List.replicate n cps.toList).flatten.toArray := by
        intro n
        induction n with
        | zero => intro acc; simp
        | succ n ih => intro acc; rw [List.replicate_succ, List.foldl_cons, ih, List.replicate_succ, List.flatten_cons]; rw [Array.append_assoc]; congr 1; apply Array.toList_inj.mp; simp
      rw [this]
      simp
  have hs := sizeLine_eq
  refine SB.mul (x := z) (n := i) ⟨?_, fun _ _ => ?_, fun _ _ => ?_⟩ fun t'' k => ⟨.str ⟨(List.replicate i.toNat z.cps.toList).flatten.toArray⟩, H, I.tok _, ⟨t'', by rw [e]⟩, q⟩
  · rw [Bool.or_eq_false_iff]
    exact ⟨decide_eq_false (by omega), decide_eq_false (by omega)⟩
  · rename_i hi1 _
    have h0 : 0 < i := by omega
    have h2 : z.length ≤ sizeLine := by
      have : z.length * 1 ≤ z.length * i.toNat := Nat.mul_le_mul_left _ (by omega)
      omega
    have hs' : (sizeLine : Int) = 16777216 := by rw [hs]; rfl
    have h3 : (sizeLine : Int) * i ≤ 2 ^ 63 - 1 := by
      rw [hs'] at h1 ⊢
      omega
    have : (sizeLine : Int) ≤ (2 ^ 63 - 1) / i := (Int.le_ediv_iff_mul_le h0).mpr h3
    omega
  · unfold Builtin.Str.tooLong
    simpa using hz
def rMulA : R2 := fun x y H Q => (rI CMul fun i j => .int (i * j)) x y H Q ∨ (∃ z i, x = .str z ∧ y = .int i ∧ 0 ≤ i ∧ i ≤ (sizeLine : Int) ∧ z.length * i.toNat ≤ sizeLine ∧ Q (.str ⟨(List.replicate i.toNat z.cps.toList).flatten.toArray⟩) H)
theorem sim_mul {K : PySem.W.Frag} {mg : Str → Option Value} : Sim2 K mg rMulA mulP where
  run := fun x y dx dy H S ι d S' Q r px py e h => by
    unfold mulP at e
    split at e
    · rename_i i j q
      cases q
      obtain ⟨hc, rfl, rfl⟩ := ite_ok e
      cases px; cases py
      refine .inl ⟨_, _, rfl, rfl, ?_, h _ H ι .refl r (.int _)⟩
      simp only [small64, Bool.or_eq_true, Bool.and_eq_true, decide_eq_true_eq] at hc
      exact hc
    · rename_i i j q
      cases q
      obtain ⟨⟨h0, h1, h2⟩, rfl, rfl⟩ := ite_ok e
      cases px; cases py
      refine .inr ⟨_, _, rfl, rfl, h0, by rw [← LIM_eq]; exact h2, by rw [← LIM_eq, toS_length]; exact h1, ?_⟩
      rw [toS_list]
      exact h _ H ι .refl r (.str _)
    · cases e
  nox := fun ds S x S' z => by
    unfold mulP at z
    split at z <;> first | cases z | exact ite_exc z
theorem se_mul (ha : SE X W a m) (hb : SE X W b m') : SE X W (.BinOp a .Mult b pos) (callM mulP [m, m']) := se_op (op_mul.or op_mul_str) sim_mul ha hb
theorem sim_mod {K : PySem.W.Frag} {mg : Str → Option Value} : Sim2 K mg (rI (fun _ j => 0 < j) fun i j => .int (i % j)) modP where
  run := fun x y dx dy H S ι d S' Q r px py e h => by
    unfold modP at e
    split at e
    · rename_i i j q
      cases q
      obtain ⟨hc, rfl, rfl⟩ := ite_ok e
      cases px; cases py
      exact ⟨_, _, rfl, rfl, hc, h _ H ι .refl r (.int _)⟩
    · cases e
  nox := fun ds S x S' z => by
    unfold modP at z
    split at z <;> first | cases z | exact ite_exc z
theorem se_mod (ha : SE X W a m) (hb : SE X W b m') : SE X W (.BinOp a .Mod b pos) (callM modP [m, m']) := se_op op_mod sim_mod ha hb
theorem sim_fdiv {K : PySem.W.Frag} {mg : Str → Option Value} : Sim2 K mg (rI CDiv fun i j => .int (i / j)) fdivP where
  run := fun x y dx dy H S ι d S' Q r px py e h => by
    unfold fdivP at e
    split at e
    · rename_i i j q
      cases q
      obtain ⟨hc, rfl, rfl⟩ := ite_ok e
      cases px; cases py
      exact ⟨_, _, rfl, rfl, hc, h _ H ι .refl r (.int _)⟩
    · cases e
  nox := fun ds S x S' z => by
    unfold fdivP at z
    split at z <;> first | cases z | exact ite_exc z
theorem se_fdiv (ha : SE X W a m) (hb : SE X W b m') : SE X W (.BinOp a .FloorDiv b pos) (callM fdivP [m, m']) := se_op op_fdiv sim_fdiv ha hb
theorem sim_pow {K : PySem.W.Frag} {mg : Str → Option Value} : Sim2 K mg (rI CPow fun i j => .int (i ^ j.toNat)) powP where
  run := fun x y dx dy H S ι d S' Q r px py e h => by
    unfold powP at e
    split at e
    · rename_i i j q
      cases q
      obtain ⟨hc, rfl, rfl⟩ := ite_ok e
      cases px; cases py
      exact ⟨_, _, rfl, rfl, hc, h _ H ι .refl r (.int _)⟩
    · cases e
  nox := fun ds S x S' z => by
    unfold powP at z
    split at z <;> first | cases z | exact ite_exc z
theorem se_pow (ha : SE X W a m) (hb : SE X W b m') : SE X W (.BinOp a .Pow b pos) (callM powP [m, m']) := se_op op_pow sim_pow ha hb
theorem se_neg (ha : SE X W a m) : SE X W (.UnaryOp .USub a pos) (callM negP [m]) := by
  refine pe_imp (pe_un un_neg ha) fun σ H Q h => ?_
  obtain ⟨δ, S, ι, r, h⟩ := h
  refine ⟨δ, S, ι, r, ?_⟩
  have h : PostE X.K X.mg W σ H ι (((m δ S).bind fun d S1 => .ok [d] S1).bind negP) Q := h
  cases e1 : m δ S with
  | ok d S1 =>
    rw [e1] at h
    intro v H' ι' g r1 p1
    cases d with
    | int i => cases p1; exact ⟨i, rfl, h _ H' ι' g r1 (.int _)⟩
    | _ => exact h.elim
  | exc x S1 => rw [e1] at h; exact h
  | stuck => rw [e1] at h; exact h

/-! ### comparisons -/
theorem sim_lt {K : PySem.W.Frag} {mg : Str → Option Value} : Sim2 K mg (fun x y H Q => (rI0 fun i j => .bl (decide (i < j))) x y H Q ∨ (∃ i j, x = .str i ∧ y = .str j ∧ Q (.bl (decide (i.cps.toList < j.cps.toList))) H)) ltP := by
  refine ⟨fun x y dx dy H S ι d S' Q r px py e h => ?_, fun ds S x S' z => ?_⟩
  · unfold ltP at e
    split at e
    · rename_i i j q
      cases q; cases e; cases px; cases py
      exact .inl ⟨_, _, rfl, rfl, h _ H ι .refl r (.bl _)⟩
    · rename_i i j q
      cases q; cases e; cases px; cases py
      refine .inr ⟨_, _, rfl, rfl, ?_⟩
      rw [toS_list, toS_list]
      exact h _ H ι .refl r (.bl _)
    · cases e
  · unfold ltP at z
    split at z <;> cases z
end
end Dl

end

section
set_option linter.all false
set_option Elab.async false
set_option maxRecDepth 100000
set_option Elab.async false
set_option linter.all false
set_option maxRecDepth 100000
set_option maxHeartbeats 4000000
namespace Dl
open PySem PySem.Spec PyProof.Rows L2

/-! ### data as the library's -/
mutual
def D.py : D → PyData
  | .non => .none
  | .bl b => .bool b
  | .int i => .int i
  | .str x => .str (toS x)
  | .tup xs => .tuple (D.pys xs)
  | .ref _ => .none
  | .fn _ => .none
  | .lit _ => .none
def D.pys : List D → List PyData
  | [] => []
  | d :: r => D.py d :: D.pys r
end
theorem toS_beq (x y : Cs) : (toS x == toS y) = (x == y) := by
  rw [Bool.eq_iff_iff, beq_iff_eq, beq_iff_eq, toS_inj]
mutual
theorem D.eqv_py : ∀ (n m : Nat) (x y : D), D.flat n x = true → D.flat m y = true → PyData.eqv (D.py x) (D.py y) = D.eqv x y
  | n, m, .non, y, hx, hy => by cases y <;> simp_all [D.py, PyData.eqv, D.eqv, D.flat]
  | n, m, .bl _, y, hx, hy => by cases y <;> simp_all [D.py, PyData.eqv, D.eqv, D.flat, b2i]
  | n, m, .int _, y, hx, hy => by cases y <;> simp_all [D.py, PyData.eqv, D.eqv, D.flat, b2i]
  | n, m, .str _, y, hx, hy => by cases y <;> simp_all [D.py, PyData.eqv, D.eqv, D.flat, toS_beq]
  | n, m, .tup xs, y, hx, hy => by
    cases y with
    | tup ys =>
      cases n with
      | zero => simp [D.flat] at hx
      | succ n =>
        cases m with
        | zero => simp [D.flat] at hy
        | succ m =>
          simp only [D.flat] at hx hy
          simp only [D.py, PyData.eqv, D.eqv]
          exact D.eqvs_py n m xs ys hx hy
    | _ => simp_all [D.py, PyData.eqv, D.eqv, D.flat]
  | n, m, .ref _, y, hx, hy => by simp [D.flat] at hx
  | n, m, .fn _, y, hx, hy => by simp [D.flat] at hx
  | n, m, .lit _, y, hx, hy => by simp [D.flat] at hx
theorem D.eqvs_py : ∀ (n m : Nat) (x y : List D), D.flats n x = true → D.flats m y = true → PyData.eqvAll (D.pys x) (D.pys y) = D.eqvs x y
  | n, m, [], y, hx, hy => by cases y <;> simp_all [D.pys, PyData.eqvAll, D.eqvs]
  | n, m, a :: r, y, hx, hy => by
    cases y with
    | nil => simp_all [D.pys, PyData.eqvAll, D.eqvs]
    | cons b s =>
      simp only [D.flats, Bool.and_eq_true] at hx hy
      simp only [D.pys, PyData.eqvAll, D.eqvs, D.eqv_py n m a b hx.1 hy.1, D.eqvs_py n m r s hx.2 hy.2]
end
mutual
theorem D.lay_py : ∀ (n : Nat) (x : D), D.flat n x = true → (D.py x).canLay0 = true ∧ (D.py x).depth ≤ n
  | n, .non, hx => by simp [D.py, PyData.canLay0, PyData.depth]
  | n, .bl _, hx => by simp [D.py, PyData.canLay0, PyData.depth]
  | n, .int _, hx => by simp [D.py, PyData.canLay0, PyData.depth]
  | n, .str x, hx => by
    simp only [D.flat] at hx
    simp only [D.py, PyData.canLay0, PyData.depth]
    refine ⟨?_, Nat.zero_le _⟩
    unfold PyData.strOk toS
    simpa using hx
  | n, .tup xs, hx => by
    cases n with
    | zero => simp [D.flat] at hx
    | succ n =>
      simp only [D.flat] at hx
      obtain ⟨h1, h2⟩ := D.lays_py n xs hx
      simp only [D.py, PyData.canLay0, PyData.depth]
      exact ⟨h1, by omega⟩
  | n, .ref _, hx => by simp [D.flat] at hx
  | n, .fn _, hx => by simp [D.flat] at hx
  | n, .lit _, hx => by simp [D.flat] at hx
theorem D.lays_py : ∀ (n : Nat) (x : List D), D.flats n x = true → PyData.canLayAll0 (D.pys x) = true ∧ PyData.depthAll (D.pys x) ≤ n
  | n, [], hx => by simp [D.pys, PyData.canLayAll0, PyData.depthAll]
  | n, a :: r, hx => by
    simp only [D.flats, Bool.and_eq_true] at hx
    obtain ⟨h1, h2⟩ := D.lay_py n a hx.1
    obtain ⟨h3, h4⟩ := D.lays_py n r hx.2
    simp only [D.pys, PyData.canLayAll0, PyData.depthAll, h1, h3]
    exact ⟨rfl, by omega⟩
end
theorem D.shaped_py {n : Nat} {x : D} (h : D.flat n x = true) (hn : n ≤ 64) : SeqAt.shaped (D.py x) = true := by
  obtain ⟨h1, h2⟩ := D.lay_py n x h
  show ((D.py x).canLay0 && decide ((D.py x).depth ≤ 64)) = true
  rw [h1, decide_eq_true (by omega)]; rfl
theorem D.shaped_pys {n : Nat} {x : List D} (h : D.flats n x = true) (hn : n < 64) : SeqAt.shaped (.list (D.pys x)) = true := by
  obtain ⟨h1, h2⟩ := D.lays_py n x h
  show (PyData.canLay0 (.list (D.pys x)) && decide (PyData.depth (.list (D.pys x)) ≤ 64)) = true
  have h3 : PyData.depth (.list (D.pys x)) ≤ 64 := by
    simp only [PyData.depth]
    omega
  rw [decide_eq_true h3, Bool.and_true]
  simp only [PyData.canLay0, h1]
section
variable {K : PySem.W.Frag} {mg : Str → Option Value} {H H' : Hp} {ι ι' : List Addr} {S : Store}
mutual
theorem Rp.dp : ∀ {n : Nat} {v : V} {d : D}, Rp K mg H ι v d → D.flat n d = true → Dp K H v (D.py d)
  | _, _, .non, h, _ => by cases h; exact .non
  | _, _, .bl _, h, _ => by cases h; exact .bl _
  | _, _, .int _, h, _ => by cases h; exact .int _
  | _, _, .str _, h, _ => by cases h; exact .str _
  | n, _, .tup xs, h, f => by
    cases n with
    | zero => simp [D.flat] at f
    | succ n =>
      simp only [D.flat] at f
      cases h with
      | tup h1 h2 h3 => exact .tup h1 (Rps.dp h3 f)
  | _, _, .ref _, _, f => by simp [D.flat] at f
  | _, _, .fn _, _, f => by simp [D.flat] at f
  | _, _, .lit _, _, f => by simp [D.flat] at f
theorem Rps.dp : ∀ {n : Nat} {v : List V} {d : List D}, Rps K mg H ι v d → D.flats n d = true → DpAll K H v (D.pys d)
  | _, _, [], h, _ => by cases h; exact .nil
  | _, _, _ :: _, h, f => by
    simp only [D.flats, Bool.and_eq_true] at f
    cases h with
    | cons h1 h2 => exact .cons (Rp.dp h1 f.1) (Rps.dp h2 f.2)
end
theorem RS.listDp (r : RS K mg H ι S) {v : V} {n : Nat} {xs : List D} {k : Nat} (p : Rp K mg H ι v (.ref n)) (e : Dl.lstAt S n = some xs) (f : D.flats k xs = true) : Dp K H v (.list (D.pys xs)) := by
  obtain ⟨a, rfl, ha⟩ := p.ref_inv
  obtain ⟨vs, h1, h2⟩ := r.lstAt ha e
  exact .lst h1 (h2.dp f)
theorem Rp.sc_eq {x y : V} {dx dy : D} (px : Rp K mg H ι x dx) (py : Rp K mg H ι y dy) (h : D.scal dx dy = true) : scal x y = true ∧ decide (x = y) = decide (dx = dy) := by
  cases dx <;> cases dy <;> first
    | (exfalso; exact Bool.false_ne_true h)
    | (cases px; cases py; refine ⟨rfl, ?_⟩; simp [toS_inj])
theorem Rp.scV {x : V} {d : D} (p : Rp K mg H ι x d) (h : d.sc = true) : flatV x = true := by
  cases d <;> first | (exfalso; exact Bool.false_ne_true h) | (cases p; rfl)
theorem Rps.scV : ∀ {xs : List V} {ds : List D}, Rps K mg H ι xs ds → ds.all D.sc = true → xs.all flatV = true
  | _, [], h, _ => by cases h; rfl
  | _, d :: ds, h, f => by
    simp only [List.all_cons, Bool.and_eq_true] at f
    cases h with
    | cons h1 h2 => simp only [List.all_cons, h1.scV f.1, Rps.scV h2 f.2, Bool.and_self]
theorem Rp.eqV {x y : V} {dx dy : D} (px : Rp K mg H ι x dx) (py : Rp K mg H ι y dy) (h1 : dx.sc = true) (h2 : dy.sc = true) : eqV x y = D.eqv dx dy := by
  cases dx <;> cases dy <;> first
    | (exfalso; exact Bool.false_ne_true h1)
    | (exfalso; exact Bool.false_ne_true h2)
    | (cases px; cases py; simp [L2.eqV, D.eqv, b2i, toS_beq])
theorem Rps.inV {x : V} {d : D} (p : Rp K mg H ι x d) (hx : d.sc = true) : ∀ {xs : List V} {ds : List D}, Rps K mg H ι xs ds → ds.all D.sc = true → inV x xs = ds.any fun z => D.eqv z d
  | _, [], h, _ => by cases h; rfl
  | _, e :: ds, h, f => by
    simp only [List.all_cons, Bool.and_eq_true] at f
    cases h with
    | cons h1 h2 =>
      have := Rps.inV p hx h2 f.2
      unfold L2.inV at this ⊢
      simp only [List.any_cons, this, h1.eqV p f.1 hx]
theorem pys_any {d : D} {n : Nat} (hd : D.flat n d = true) {k : Nat} : ∀ {ds : List D}, D.flats k ds = true → ((D.pys ds).any fun z => PyData.eqv z (D.py d)) = ds.any fun z => D.eqv z d
  | [], _ => rfl
  | e :: ds, f => by
    simp only [D.flats, Bool.and_eq_true] at f
    simp only [D.pys, List.any_cons, pys_any hd f.2, D.eqv_py k n e d f.1 hd]
end
section
variable {X : Cx} {W : WX} {e a b c : Expr} {es : List Expr} {m m' : EM} {ms : List EM} {pos : Pos}
def rEqA (K : PySem.W.Frag) : R2 := fun x y H Q => rEq x y H Q ∨ rEqD K x y H Q
theorem op_eqA (hu : X.A.units + 64 < cLine) : OpR X (compareOp .Eq) (rEqA X.K) := op_eq.or (op_eqD hu)
def rNeA (K : PySem.W.Frag) : R2 := fun x y H Q => rNe x y H Q ∨ rNeD K x y H Q
theorem op_neA (hu : X.A.units + 64 < cLine) : OpR X (compareOp .NotEq) (rNeA X.K) := op_ne.or (op_neD hu)
/-- what eqP tells: its bool, the store is kept -/
theorem eqP_cases {K : PySem.W.Frag} {mg : Str → Option Value} {H : Hp} {ι : List Addr} {S S' : Store} {x y : V} {dx dy d : D} (r : RS K mg H ι S) (px : Rp K mg H ι x dx) (py : Rp K mg H ι y dy) (e : eqP [dx, dy] S = .ok d S') :
    S' = S ∧ ∃ b, d = .bl b ∧ ((scal x y = true ∧ decide (x = y) = b) ∨ ∃ p q, Dp K H x p ∧ Dp K H y q ∧ SeqAt.shaped p = true ∧ SeqAt.shaped q = true ∧ PyData.eqv p q = b) := by
  unfold eqP at e
  simp only at e
  split at e
  · rename_i h
    cases e
    obtain ⟨h1, h2⟩ := px.sc_eq py h
    exact ⟨rfl, _, rfl, .inl ⟨h1, h2⟩⟩
  · split at e
    · rename_i n m _
      split at e
      · rename_i xs ys e1 e2
        obtain ⟨hc, rfl, rfl⟩ := ite_ok e
        rw [Bool.and_eq_true] at hc
        refine ⟨rfl, _, rfl, .inr ⟨_, _, r.listDp px e1 hc.1, r.listDp py e2 hc.2, D.shaped_pys hc.1 (by decide), D.shaped_pys hc.2 (by decide), ?_⟩⟩
        simp only [PyData.eqv]
        exact D.eqvs_py _ _ _ _ hc.1 hc.2
      · cases e
    · obtain ⟨hc, rfl, rfl⟩ := ite_ok e
      rw [Bool.and_eq_true] at hc
      exact ⟨rfl, _, rfl, .inr ⟨_, _, px.dp hc.1, py.dp hc.2, D.shaped_py hc.1 (by decide), D.shaped_py hc.2 (by decide), D.eqv_py _ _ _ _ hc.1 hc.2⟩⟩
theorem eqP_nox (ds : List D) (S : Store) (x : Exc) (S' : Store) : eqP ds S ≠ .exc x S' := fun z => by
  unfold eqP at z
  repeat (first | cases z | exact ite_exc z | split at z)
theorem sim_eq {K : PySem.W.Frag} {mg : Str → Option Value} : Sim2 K mg (rEqA K) eqP where
  run := fun x y dx dy H S ι d S' Q r px py e h => by
    obtain ⟨rfl, b, rfl, q⟩ := eqP_cases r px py e
    have hb := h _ H ι .refl r (.bl b)
    rcases q with ⟨h1, h2⟩ | ⟨p, q, h1, h2, h3, h4, h5⟩
    · exact .inl ⟨h1, by rw [h2]; exact hb⟩
    · exact .inr ⟨p, q, h1, h2, h3, h4, by rw [h5]; exact hb⟩
  nox := eqP_nox
theorem sim_ne {K : PySem.W.Frag} {mg : Str → Option Value} : Sim2 K mg (rNeA K) neP where
  run := fun x y dx dy H S ι d S' Q r px py e h => by
    obtain ⟨d1, S1, e1, e2⟩ := bind_inv e
    obtain ⟨rfl, b, rfl, q⟩ := eqP_cases r px py e1
    cases e2
    have hb := h _ H ι .refl r (.bl (!b))
    rcases q with ⟨h1, h2⟩ | ⟨p, q, h1, h2, h3, h4, h5⟩
    · exact .inl ⟨h1, by rw [h2]; exact hb⟩
    · exact .inr ⟨p, q, h1, h2, h3, h4, by rw [h5]; exact hb⟩
  nox := fun ds S x S' z => by
    unfold neP notR at z
    cases e : eqP ds S with
    | ok d S1 =>
      rw [e] at z
      simp only [Res.bind_ok] at z
      split at z <;> cases z
    | exc y S1 => exact eqP_nox _ _ _ _ e
    | stuck => rw [e] at z; cases z
/-! in -/
def rInA (K : PySem.W.Frag) : R2 := fun x y H Q => rIn K false x y H Q ∨ rInD K x y H Q ∨ (∃ c z, x = .str ⟨#[c]⟩ ∧ y = .str z ∧ Q (.bl (decide (c ∈ z.cps.toList))) H)
def rNotInA (K : PySem.W.Frag) : R2 := fun x y H Q => rIn K true x y H Q ∨ rNotInD K x y H Q ∨ (∃ c z, x = .str ⟨#[c]⟩ ∧ y = .str z ∧ Q (.bl (!decide (c ∈ z.cps.toList))) H)
theorem inP_cases {K : PySem.W.Frag} {mg : Str → Option Value} {H : Hp} {ι : List Addr} {S S' : Store} {x y : V} {dx dy d : D} (r : RS K mg H ι S) (px : Rp K mg H ι x dx) (py : Rp K mg H ι y dy) (e : inP [dx, dy] S = .ok d S') :
    S' = S ∧ ∃ b, d = .bl b ∧ ((∃ p xs, y = .ref p ∧ (SqL K H p xs ∨ SqT K H p xs) ∧ flatV x = true ∧ xs.all flatV = true ∧ inV x xs = b) ∨
      (∃ p q, Dp K H x p ∧ Dp K H y (.list q) ∧ SeqAt.shaped p = true ∧ SeqAt.shaped (.list q) = true ∧ (q.any fun z => PyData.eqv z p) = b) ∨ ∃ c z, x = .str ⟨#[c]⟩ ∧ y = .str z ∧ decide (c ∈ z.cps.toList) = b) := by
  unfold inP at e
  split at e
  · rename_i x' n q
    cases q
    split at e
    · rename_i ys e1
      obtain ⟨hc, rfl, rfl⟩ := ite_ok e
      refine ⟨rfl, _, rfl, ?_⟩
      obtain ⟨a, rfl, ha⟩ := py.ref_inv
      obtain ⟨vs, h1, h2⟩ := r.lstAt ha e1
      rcases Bool.or_eq_true _ _ ▸ hc with hc | hc
      · rw [Bool.and_eq_true] at hc
        exact .inl ⟨a, vs, rfl, .inl h1, px.scV hc.1, h2.scV hc.2, Rps.inV px hc.1 h2 hc.2⟩
      · rw [Bool.and_eq_true] at hc
        exact .inr (.inl ⟨_, _, px.dp hc.1, .lst h1 (h2.dp hc.2), D.shaped_py hc.1 (by decide), D.shaped_pys hc.2 (by decide), pys_any hc.1 hc.2⟩)
    · cases e
  · rename_i x' ys q
    cases q
    obtain ⟨hc, rfl, rfl⟩ := ite_ok e
    rw [Bool.and_eq_true] at hc
    obtain ⟨a, vs, rfl, h1, _, h2⟩ := py.tup_inv
    exact ⟨rfl, _, rfl, .inl ⟨a, vs, rfl, .inr h1, px.scV hc.1, h2.scV hc.2, Rps.inV px hc.1 h2 hc.2⟩⟩
  · rename_i c ys q
    cases q; cases e; cases px; cases py
    exact ⟨rfl, _, rfl, .inr (.inr ⟨c, _, rfl, rfl, by rw [toS_list]⟩)⟩
  · cases e
theorem inP_nox (ds : List D) (S : Store) (x : Exc) (S' : Store) : inP ds S ≠ .exc x S' := fun z => by
  unfold inP at z
  repeat (first | cases z | exact ite_exc z | split at z)
theorem op_in1 : OpR X (compareOp .In) (fun x y H Q => ∃ c z, x = .str ⟨#[c]⟩ ∧ y = .str z ∧ Q (.bl (decide (c ∈ z.cps.toList))) H) := by
  intro pins s σ H x y v u Q I rx ry h
  obtain ⟨c, z, rfl, rfl, q⟩ := h
  exact op_in_sign pins s σ H _ _ v u Q I rx ry ⟨c, z, rfl, rfl, q⟩
theorem op_notIn1 : OpR X (compareOp .NotIn) (fun x y H Q => ∃ c z, x = .str ⟨#[c]⟩ ∧ y = .str z ∧ Q (.bl (!decide (c ∈ z.cps.toList))) H) := by
  intro pins s σ H x y v u Q I rx ry h
  obtain ⟨c, z, rfl, rfl, q⟩ := h
  exact op_notIn_sign pins s σ H _ _ v u Q I rx ry ⟨c, z, rfl, rfl, q⟩
theorem op_inA (hu : X.A.units + 65 < cLine) : OpR X (compareOp .In) (rInA X.K) := op_in_seq.or ((op_inD hu).or op_in1)
theorem op_notInA (hu : X.A.units + 65 < cLine) : OpR X (compareOp .NotIn) (rNotInA X.K) := op_notIn_seq.or ((op_notInD hu).or op_notIn1)
theorem sim_in {K : PySem.W.Frag} {mg : Str → Option Value} : Sim2 K mg (rInA K) inP where
  run := fun x y dx dy H S ι d S' Q r px py e h => by
    obtain ⟨rfl, b, rfl, q⟩ := inP_cases r px py e
    have hb := h _ H ι .refl r (.bl b)
    rcases q with ⟨p, xs, h1, h2, h3, h4, h5⟩ | ⟨p, q, h1, h2, h3, h4, h5⟩ | ⟨c, z, h1, h2, h3⟩
    · exact .inl ⟨p, xs, h1, h2, h3, h4, by rw [h5]; exact hb⟩
    · exact .inr (.inl ⟨p, q, h1, h2, h3, h4, by rw [h5]; exact hb⟩)
    · exact .inr (.inr ⟨c, z, h1, h2, by rw [h3]; exact hb⟩)
  nox := inP_nox
theorem sim_notIn {K : PySem.W.Frag} {mg : Str → Option Value} : Sim2 K mg (rNotInA K) notInP where
  run := fun x y dx dy H S ι d S' Q r px py e h => by
    obtain ⟨d1, S1, e1, e2⟩ := bind_inv e
    obtain ⟨rfl, b, rfl, q⟩ := inP_cases r px py e1
    cases e2
    have hb := h _ H ι .refl r (.bl (!b))
    rcases q with ⟨p, xs, h1, h2, h3, h4, h5⟩ | ⟨p, q, h1, h2, h3, h4, h5⟩ | ⟨c, z, h1, h2, h3⟩
    · exact .inl ⟨p, xs, h1, h2, h3, h4, by simp only [if_true]; rw [h5]; exact hb⟩
    · exact .inr (.inl ⟨p, q, h1, h2, h3, h4, by rw [h5]; exact hb⟩)
    · exact .inr (.inr ⟨c, z, h1, h2, by rw [h3]; exact hb⟩)
  nox := fun ds S x S' z => by
    unfold notInP notR at z
    cases e : inP ds S with
    | ok d S1 =>
      rw [e] at z
      simp only [Res.bind_ok] at z
      split at z <;> cases z
    | exc y S1 => exact inP_nox _ _ _ _ e
    | stuck => rw [e] at z; cases z
/-! the other orders -/
theorem sim_gt {K : PySem.W.Frag} {mg : Str → Option Value} : Sim2 K mg (fun x y H Q => (rI0 fun i j => .bl (decide (j < i))) x y H Q ∨ (∃ i j, x = .str i ∧ y = .str j ∧ Q (.bl (decide (j.cps.toList < i.cps.toList))) H)) gtP := by
  refine ⟨fun x y dx dy H S ι d S' Q r px py e h => ?_, fun ds S x S' z => ?_⟩
  · unfold gtP at e
    split at e
    · rename_i i j q
      cases q; cases e; cases px; cases py
      exact .inl ⟨_, _, rfl, rfl, h _ H ι .refl r (.bl _)⟩
    · rename_i i j q
      cases q; cases e; cases px; cases py
      refine .inr ⟨_, _, rfl, rfl, ?_⟩
      rw [toS_list, toS_list]
      exact h _ H ι .refl r (.bl _)
    · cases e
  · unfold gtP at z
    split at z <;> cases z
theorem sim_ge {K : PySem.W.Frag} {mg : Str → Option Value} : Sim2 K mg (fun x y H Q => (rI0 fun i j => .bl (decide (j ≤ i))) x y H Q ∨ (∃ i j, x = .str i ∧ y = .str j ∧ Q (.bl (!decide (i.cps.toList < j.cps.toList))) H)) geP := by
  refine ⟨fun x y dx dy H S ι d S' Q r px py e h => ?_, fun ds S x S' z => ?_⟩
  · unfold geP at e
    split at e
    · rename_i i j q
      cases q; cases e; cases px; cases py
      exact .inl ⟨_, _, rfl, rfl, h _ H ι .refl r (.bl _)⟩
    · rename_i i j q
      cases q; cases e; cases px; cases py
      refine .inr ⟨_, _, rfl, rfl, ?_⟩
      rw [toS_list, toS_list]
      exact h _ H ι .refl r (.bl _)
    · cases e
  · unfold geP at z
    split at z <;> cases z
theorem sim_le {K : PySem.W.Frag} {mg : Str → Option Value} : Sim2 K mg (fun x y H Q => (rI0 fun i j => .bl (decide (i ≤ j))) x y H Q ∨ (∃ i j, x = .str i ∧ y = .str j ∧ Q (.bl (!decide (j.cps.toList < i.cps.toList))) H)) leP := by
  refine ⟨fun x y dx dy H S ι d S' Q r px py e h => ?_, fun ds S x S' z => ?_⟩
  · unfold leP at e
    split at e
    · rename_i i j q
      cases q; cases e; cases px; cases py
      exact .inl ⟨_, _, rfl, rfl, h _ H ι .refl r (.bl _)⟩
    · rename_i i j q
      cases q; cases e; cases px; cases py
      refine .inr ⟨_, _, rfl, rfl, ?_⟩
      rw [toS_list, toS_list]
      exact h _ H ι .refl r (.bl _)
    · cases e
  · unfold leP at z
    split at z <;> cases z
end
end Dl

end

section
set_option linter.all false
set_option Elab.async false
set_option maxRecDepth 100000
set_option Elab.async false
set_option linter.all false
set_option maxRecDepth 100000
set_option maxHeartbeats 4000000
namespace Dl
open PySem PySem.Spec PyProof.Rows L2

section
variable {X : Cx} {W : WX} {e a b c : Expr} {es : List Expr} {m m' : EM} {ms : List EM} {pos : Pos} {k : Nat}
theorem hu64 (hr : Room k X.A) : X.A.units + 64 < cLine := hr.units
theorem hu65 (hr : Room k X.A) : X.A.units + 65 < cLine := by have := hr.un; omega
theorem se_eq (hr : Room k X.A) (ha : SE X W a m) (hb : SE X W b m') : SE X W (.Compare a [.Eq] [b] pos) (callM eqP [m, m']) := se_cmp (op_eqA (hu64 hr)) sim_eq ha hb (nomark _)
theorem st_eq (hr : Room k X.A) (ha : SE X W a m) (hb : SE X W b m') : ST X W (.Compare a [.Eq] [b] pos) (tbM (callM eqP [m, m'])) := st_cmp (op_eqA (hu64 hr)) sim_eq ha hb (nomark _)
theorem se_ne (hr : Room k X.A) (ha : SE X W a m) (hb : SE X W b m') : SE X W (.Compare a [.NotEq] [b] pos) (callM neP [m, m']) := se_cmp (op_neA (hu64 hr)) sim_ne ha hb (nomark _)
theorem st_ne (hr : Room k X.A) (ha : SE X W a m) (hb : SE X W b m') : ST X W (.Compare a [.NotEq] [b] pos) (tbM (callM neP [m, m'])) := st_cmp (op_neA (hu64 hr)) sim_ne ha hb (nomark _)
theorem se_in (hr : Room k X.A) (ha : SE X W a m) (hb : SE X W b m') (hm : behindInMarks .In b = false := by rfl) : SE X W (.Compare a [.In] [b] pos) (callM inP [m, m']) := se_cmp (op_inA (hu65 hr)) sim_in ha hb hm
theorem st_in (hr : Room k X.A) (ha : SE X W a m) (hb : SE X W b m') (hm : behindInMarks .In b = false := by rfl) : ST X W (.Compare a [.In] [b] pos) (tbM (callM inP [m, m'])) := st_cmp (op_inA (hu65 hr)) sim_in ha hb hm
theorem se_notIn (hr : Room k X.A) (ha : SE X W a m) (hb : SE X W b m') (hm : behindInMarks .NotIn b = false := by rfl) : SE X W (.Compare a [.NotIn] [b] pos) (callM notInP [m, m']) := se_cmp (op_notInA (hu65 hr)) sim_notIn ha hb hm
theorem st_notIn (hr : Room k X.A) (ha : SE X W a m) (hb : SE X W b m') (hm : behindInMarks .NotIn b = false := by rfl) : ST X W (.Compare a [.NotIn] [b] pos) (tbM (callM notInP [m, m'])) := st_cmp (op_notInA (hu65 hr)) sim_notIn ha hb hm
theorem se_lt (ha : SE X W a m) (hb : SE X W b m') : SE X W (.Compare a [.Lt] [b] pos) (callM ltP [m, m']) := se_cmp (op_lt.or op_lt_str) sim_lt ha hb (nomark _)
theorem st_lt (ha : SE X W a m) (hb : SE X W b m') : ST X W (.Compare a [.Lt] [b] pos) (tbM (callM ltP [m, m'])) := st_cmp (op_lt.or op_lt_str) sim_lt ha hb (nomark _)
theorem se_le (ha : SE X W a m) (hb : SE X W b m') : SE X W (.Compare a [.LtE] [b] pos) (callM leP [m, m']) := se_cmp (op_le.or op_le_str) sim_le ha hb (nomark _)
theorem st_le (ha : SE X W a m) (hb : SE X W b m') : ST X W (.Compare a [.LtE] [b] pos) (tbM (callM leP [m, m'])) := st_cmp (op_le.or op_le_str) sim_le ha hb (nomark _)
theorem se_gt (ha : SE X W a m) (hb : SE X W b m') : SE X W (.Compare a [.Gt] [b] pos) (callM gtP [m, m']) := se_cmp (op_gt.or op_gt_str) sim_gt ha hb (nomark _)
theorem st_gt (ha : SE X W a m) (hb : SE X W b m') : ST X W (.Compare a [.Gt] [b] pos) (tbM (callM gtP [m, m'])) := st_cmp (op_gt.or op_gt_str) sim_gt ha hb (nomark _)
theorem se_ge (ha : SE X W a m) (hb : SE X W b m') : SE X W (.Compare a [.GtE] [b] pos) (callM geP [m, m']) := se_cmp (op_ge.or op_ge_str) sim_ge ha hb (nomark _)
theorem st_ge (ha : SE X W a m) (hb : SE X W b m') : ST X W (.Compare a [.GtE] [b] pos) (tbM (callM geP [m, m'])) := st_cmp (op_ge.or op_ge_str) sim_ge ha hb (nomark _)
theorem Rp.non_iff {K : PySem.W.Frag} {mg : Str → Option Value} {H : Hp} {ι : List Addr} {v : V} {d : D} (p : Rp K mg H ι v d) : decide (v = .non) = decide (d = .non) := by
  cases p <;> simp
theorem call1 {K : PySem.W.Frag} {mg : Str → Option Value} {σ : L2.St} {H : Hp} {Q : VK} {p : FM} (h : cE K mg W (callM p [m]) σ H Q) (r : V → Hp → VK → Prop)
    (s : ∀ v d H ι S Q, RS K mg H ι S → Rp K mg H ι v d → PostE K mg W σ H ι (p [d] S) Q → r v H Q) : cE K mg W m σ H (fun v H1 => r v H1 Q) := by
  obtain ⟨δ, S, ι, rl, h⟩ := h
  refine ⟨δ, S, ι, rl, ?_⟩
  have h : PostE K mg W σ H ι (((m δ S).bind fun d S1 => .ok [d] S1).bind p) Q := h
  cases e1 : m δ S with
  | ok d S1 =>
    rw [e1] at h
    intro v H' ι' g r1 p1
    exact s v d H' ι' S1 Q r1 p1 (PostE.back g h)
  | exc x S1 => rw [e1] at h; exact h
  | stuck => rw [e1] at h; exact h
theorem se_isN {j pos'} (ha : SE X W a m) : SE X W (.Compare a [.Is] [.Constant .none j pos'] pos) (callM isNonP [m]) :=
  pe_imp (pe_cmp (pc_isN ha)) fun σ H Q h => call1 h (fun v H Q => Q (.bl (decide (v = .non))) H) fun v d H ι S Q r p h => by
    rw [p.non_iff]
    exact h _ H ι .refl r (.bl _)
theorem se_notN {j pos'} (ha : SE X W a m) : SE X W (.Compare a [.IsNot] [.Constant .none j pos'] pos) (callM notNonP [m]) :=
  pe_imp (pe_cmp (pc_notN ha)) fun σ H Q h => call1 h (fun v H Q => Q (.bl (!decide (v = .non))) H) fun v d H ι S Q r p h => by
    rw [p.non_iff]
    exact h _ H ι .refl r (.bl _)
theorem st_isN {j pos'} (ha : SE X W a m) : ST X W (.Compare a [.Is] [.Constant .none j pos'] pos) (tbM (callM isNonP [m])) := by
  refine pt_imp (pt_cmp (pc_isN ha)) fun σ H Q h => tbT (fun h => ?_) h
  exact call1 h (fun v H Q => Q (.bl (decide (v = .non))) H) fun v d H ι S Q r p h => by
    rw [p.non_iff]
    exact h _ H ι .refl r (.bl _)
theorem st_notN {j pos'} (ha : SE X W a m) : ST X W (.Compare a [.IsNot] [.Constant .none j pos'] pos) (tbM (callM notNonP [m])) := by
  refine pt_imp (pt_cmp (pc_notN ha)) fun σ H Q h => tbT (fun h => ?_) h
  exact call1 h (fun v H Q => Q (.bl (!decide (v = .non))) H) fun v d H ι S Q r p h => by
    rw [p.non_iff]
    exact h _ H ι .refl r (.bl _)

/-! ### items -/
theorem Rps.atI {K : PySem.W.Frag} {mg : Str → Option Value} {H : Hp} {ι : List Addr} {vs : List V} {ds : List D} {i : Int} {d : D} (h : Rps K mg H ι vs ds) (e : Dl.atI ds i = some d) : ∃ v, L2.atI vs i = some v ∧ Rp K mg H ι v d := by
  unfold Dl.atI at e
  cases e1 : Dl.ixN ds.length i with
  | none => rw [e1] at e; cases e
  | some j =>
    rw [e1] at e
    obtain ⟨v, q1, q2⟩ := h.get (i := j) (d := d) e
    refine ⟨v, ?_, q2⟩
    unfold L2.atI
    have : L2.ixN vs.length i = some j := by rw [h.length]; exact e1
    rw [this]; exact q1
theorem sim_ix {K : PySem.W.Frag} {mg : Str → Option Value} : Sim2 K mg (rIx K) ixP where
  run := fun x y dx dy H S ι d S' Q r px py e h => by
    unfold ixP at e
    split at e
    · rename_i n i q
      cases q
      split at e
      · rename_i xs e1
        split at e
        · rename_i z e2
          cases e
          obtain ⟨a, rfl, ha⟩ := px.ref_inv
          obtain ⟨vs, h1, h2⟩ := r.lstAt ha e1
          obtain ⟨v, h3, h4⟩ := h2.atI e2
          cases py
          exact .inl ⟨a, vs, i, v, rfl, rfl, h1, h3, h v H ι .refl r h4⟩
        · cases e
      · cases e
    · rename_i xs i q
      cases q
      split at e
      · rename_i z e2
        cases e
        obtain ⟨a, vs, rfl, h1, _, h2⟩ := px.tup_inv
        obtain ⟨v, h3, h4⟩ := h2.atI e2
        cases py
        exact .inr (.inl ⟨a, vs, i, v, rfl, rfl, h1, h3, h v H ι .refl r h4⟩)
      · cases e
    · rename_i xs i q
      cases q
      split at e
      · rename_i z e2
        cases e
        obtain ⟨a, vs, rfl, h1, _, h2⟩ := px.lit_inv
        obtain ⟨v, h3, h4⟩ := h2.atI e2
        cases py
        exact .inl ⟨a, vs, i, v, rfl, rfl, h1, h3, h v H ι .refl r h4⟩
      · cases e
    · rename_i xs i q
      cases q
      split at e
      · rename_i hl
        split at e
        · rename_i z e2
          cases e; cases px; cases py
          refine .inr (.inr ⟨_, i, z, rfl, rfl, by rw [toS_length, ← LIM_eq]; exact hl, ?_, h _ H ι .refl r (.str [z])⟩)
          rw [toS_list]; exact e2
        · cases e
      · cases e
    · cases e
  nox := fun ds S x S' z => by
    unfold ixP at z
    repeat (first | cases z | exact ite_exc z | split at z)
theorem se_ix (ha : SE X W a m) (hb : SE X W b m') (hs : PlainIx b := by exact fun _ _ => rfl) : SE X W (.Subscript a b pos) (callM ixP [m, m']) :=
  pe_imp (pe_ix ix_seq ha hb hs) fun _ _ _ h => opN sim_ix h

/-! ### slices -/
theorem Rps.cut {K : PySem.W.Frag} {mg : Str → Option Value} {H : Hp} {ι : List Addr} {vs : List V} {ds : List D} (lo hi : Option Int) (h : Rps K mg H ι vs ds) : Rps K mg H ι (cutV vs lo hi) (Dl.cut ds lo hi) := by
  unfold cutV Dl.cut
  rw [h.length]
  exact (h.drop _).take _
abbrev SO (X : Cx) (W : WX) (e : Option Expr) (m : Option EM) : Prop := PO X e (fun σ H Q => ∃ δ S ι, Rel X.K X.mg H ι σ δ S ∧ match optI m δ S with
  | .ok o S' => ∀ H' ι', Grow X.K H ι H' ι' → RS X.K X.mg H' ι' S' → Q o H'
  | .exc e S' => ∀ cls dx H' ι', Grow X.K H ι H' ι' → RS X.K X.mg H' ι' S' → RX X.K X.mg H' ι' e cls dx → W cls dx σ H'
  | .stuck => False)
theorem po_imp {e : Option Expr} {t t' : TO} (h : PO X e t) (i : ∀ σ H Q, t' σ H Q → t σ H Q) : PO X e t' := ⟨fun pins s σ H Q I hw => h.run pins s σ H Q I (i _ _ _ hw)⟩
theorem so_none : SO X W none none := po_imp po_none fun σ H Q h => by
  obtain ⟨δ, S, ι, r, h⟩ := h
  exact h H ι .refl r.sto
theorem so_some (h : SE X W e m) : SO X W (some e) (some m) := po_imp (po_some h) fun σ H Q h => by
  obtain ⟨δ, S, ι, r, h⟩ := h
  refine ⟨δ, S, ι, r, ?_⟩
  unfold optI at h
  cases e1 : m δ S with
  | ok d S1 =>
    simp only [e1, Res.bind_ok] at h
    intro v H' ι' g r1 p1
    cases d with
    | int i => cases p1; exact ⟨i, rfl, h H' ι' g r1⟩
    | _ => exact h.elim
  | exc x S1 => simp only [e1, Res.bind_exc] at h; exact h
  | stuck => simp only [e1, Res.bind_stuck] at h
def rSlAll (K : PySem.W.Frag) : V → Option Int → Option Int → Hp → VK → Prop := fun x lo hi H Q => rSlL K x lo hi H Q ∨ rSlA K x lo hi H Q ∨ rSlS x lo hi H Q
theorem sl_all : SlR X (rSlAll X.K) := sl_list.or (sl_tupA.or sl_str)
theorem cut_whole {ds : List D} {lo hi : Option Int} (h : HT.sIx ds.length 0 lo = 0 ∧ HT.sIx ds.length ds.length hi = ds.length) : Dl.cut ds lo hi = ds := by
  have h1 : Dl.sIx ds.length 0 lo = 0 := h.1
  have h2 : Dl.sIx ds.length ds.length hi = ds.length := h.2
  unfold Dl.cut
  rw [h1, h2]; simp
theorem se_slice {lo hi : Option Expr} {ml mh : Option EM} {p2} (he : SE X W e m) (hl : SO X W lo ml) (hu : SO X W hi mh) : SE X W (.Subscript e (.Slice lo hi none p2) pos) (sliceM m ml mh) := by
  refine pe_imp (pe_slice sl_all he hl hu) fun σ H Q h => ?_
  obtain ⟨δ, S, ι, rl, h⟩ := h
  refine ⟨δ, S, ι, rl, PostE.seq h fun v H1 ι1 d S1 _ g1 r1 p1 h1 => ?_⟩
  refine ⟨δ, S1, ι1, rl.mono g1 r1, ?_⟩
  cases e1 : optI ml δ S1 with
  | stuck => rw [e1] at h1; exact h1
  | exc x S2 => rw [e1] at h1; exact h1
  | ok l S2 =>
    rw [e1] at h1
    intro H2 ι2 g2 r2
    refine ⟨δ, S2, ι2, rl.mono (g1.trans g2) r2, ?_⟩
    have h1 := PostE.back g2 h1
    simp only [Res.bind_ok] at h1
    cases e2 : optI mh δ S2 with
    | stuck => rw [e2] at h1; exact h1
    | exc x S3 => rw [e2] at h1; exact h1
    | ok u S3 =>
      rw [e2] at h1
      intro H3 ι3 g3 r3
      have h1 := PostE.back g3 h1
      simp only [Res.bind_ok] at h1
      have p3 := p1.mono (g2.trans g3)
      unfold sliceP at h1
      split at h1
      · rename_i n
        split at h1
        · rename_i xs e3
          obtain ⟨a, rfl, ha⟩ := p3.ref_inv
          obtain ⟨vs, q1, q2⟩ := r3.lstAt ha e3
          refine .inl ⟨a, vs, rfl, q1, fun p hp => ?_⟩
          obtain ⟨g, r', q'⟩ := r3.newL hp (q2.cut l u)
          exact h1 _ _ _ g r' q'
        · exact h1.elim
      · rename_i xs
        obtain ⟨a, vs, rfl, q1, q2, q3⟩ := p3.tup_inv
        refine .inr (.inl ⟨a, vs, rfl, q1, fun hw => ?_, fun _ p hp => ?_⟩)
        · rw [q3.length] at hw
          rw [cut_whole hw] at h1
          exact h1 _ H3 ι3 .refl r3 (.tup q1 q2 q3)
        · obtain ⟨g, r', q'⟩ := r3.mkT hp (ws := cutV vs l u) (Nat.le_trans (cutV_length vs l u) q2) (q3.cut l u)
          exact h1 _ _ _ g r' q'
      · rename_i xs
        obtain ⟨a, vs, rfl, q1, q2, q3⟩ := p3.lit_inv
        refine .inl ⟨a, vs, rfl, q1, fun p hp => ?_⟩
        obtain ⟨g, r', q'⟩ := r3.newL hp (q3.cut l u)
        exact h1 _ _ _ g r' q'
      · rename_i xs _ _ _
        split at h1
        · rename_i hz
          cases p3
          refine .inr (.inr ⟨_, rfl, by rw [toS_length, ← LIM_eq]; exact hz, ?_⟩)
          have : cutS (toS xs) l u = toS (Dl.cut xs l u) := by
            unfold cutS Dl.cut
            rw [toS_list, toS_length]; rfl
          rw [this]
          exact h1 _ H3 ι3 .refl r3 (.str _)
        · exact h1.elim
      · exact h1.elim
end
end Dl

end

section
set_option linter.all false
set_option Elab.async false
set_option maxRecDepth 100000
set_option Elab.async false
set_option linter.all false
set_option maxRecDepth 100000
set_option maxHeartbeats 4000000
namespace Dl
open PySem PySem.Spec PyProof.Rows L2

/-! ### defs -/
def PostC (K : PySem.W.Frag) (mg : Str → Option Value) (H : Hp) (ι : List Addr) (r : Res D) (Q : VK) (E : XK) : Prop := match r with
  | .ok d S' => ∀ v H' ι', Grow K H ι H' ι' → RS K mg H' ι' S' → Rp K mg H' ι' v d → Q v H'
  | .exc e S' => ∀ cls dx H' ι', Grow K H ι H' ι' → RS K mg H' ι' S' → RX K mg H' ι' e cls dx → E cls dx H'
  | .stuck => False
/-- what a def that does as F promises -/
def spOf (K : PySem.W.Frag) (mg : Str → Option Value) (F : FM) (n : Nat) : Sp := fun vs H Q E => vs.length = n ∧ ∃ ds S ι, RS K mg H ι S ∧ Rps K mg H ι vs ds ∧ PostC K mg H ι (F ds S) Q E
/-- the def x of the module does as F, at most lv calls deep -/
structure FT (P : Program) (w : World) (K : PySem.W.Frag) (mg : Str → Option Value) (base : Heap) (lv : Nat) (x : String) (F : FM) (n : Nat) : Prop where
  ex : ∃ (f : Addr) (fd : FuncData) (ps : List Str), FnOk P w K mg base (L2.CX P w) lv f fd ps (spOf K mg F n) ∧ mg (Str.ofString x) = some (.ref f) ∧ PySem.W.keepIn K (.ref f) = true ∧ Binds K fd ps []
section
variable {X : Cx} {W : WX} {e o a b c : Expr} {es : List Expr} {m m' : EM} {ms : List EM} {p pos apos : Pos} {k n lv : Nat} {F : FM} {x : Str}
theorem callF {K : PySem.W.Frag} {mg : Str → Option Value} {σ : L2.St} {H : Hp} {Q : VK} (hn : ms.length = n) (h : cE K mg W (callM F ms) σ H Q) : tCallS (spOf K mg F n) (WE W) (cA K mg W (argsM ms)) σ H Q := by
  obtain ⟨δ, S, ι, rl, h⟩ := h
  refine ⟨δ, S, ι, rl, ?_⟩
  have h : PostE K mg W σ H ι ((argsM ms δ S).bind F) Q := h
  have ln : ∀ (ms : List EM) (S : Store) (ds : List D) (S1 : Store), argsM ms δ S = .ok ds S1 → ds.length = ms.length := by
    intro ms
    induction ms with
    | nil => intro S ds S1 e; cases e; rfl
    | cons m ms ih =>
      intro S ds S1 e
      obtain ⟨d, S2, e1, e2⟩ := bind_inv e
      obtain ⟨ds', S3, e3, e4⟩ := bind_inv e2
      cases e4
      simp [ih _ _ _ e3]
  refine PostA.seq h fun v H' ι' ds S1 e g r1 q hp => ⟨by rw [q.length, ln _ _ _ _ e, hn], ds, S1, ι', r1, q, ?_⟩
  cases e2 : F ds S1 with
  | ok d S' => rw [e2] at hp; exact hp
  | exc x S' => rw [e2] at hp; exact hp
  | stuck => rw [e2] at hp; exact hp.elim
theorem se_call (hr : Room k X.A) (tk : Takes X W) {y : String} (T : FT X.prog X.w X.K X.mg X.base lv y F n) (hk : lv ≤ k) (hx : x = Str.ofString y) (hg : Gl X x) (ha : SA X W (e :: es) ms) (hn : ms.length = n := by rfl) (hdb : (x == ("__debug__" : Str)) = false := by decide)
    (he : starEach (e :: es) X.env = (false, eval e X.env) :: starEach es X.env := by rfl) (hpl : (backTo pos (starEach es X.env)).any (·.1) = false := by rfl) : SE X W (.Call (.Name x p) (e :: es) [] pos) (callM F ms) := by
  subst hx
  obtain ⟨f, fd, ps, G, hm, hkp, hb⟩ := T.ex
  exact pe_imp (pe_callS G (hr.mono hk) hg hm hkp hb (fun σ => passAt tk σ) ha hdb he hpl) fun _ _ _ h => callF hn h
theorem se_call0 (hr : Room k X.A) (tk : Takes X W) {y : String} (T : FT X.prog X.w X.K X.mg X.base lv y F 0) (hk : lv ≤ k) (hx : x = Str.ofString y) (hg : Gl X x) (hdb : (x == ("__debug__" : Str)) = false := by decide) :
    SE X W (.Call (.Name x p) [] [] pos) (callM F []) := by
  subst hx
  obtain ⟨f, fd, ps, G, hm, hkp, hb⟩ := T.ex
  refine pe_imp (t := tCallS (spOf X.K X.mg F 0) (WE W) tNil) ⟨fun pins s σ H Q I h => ?_⟩ fun σ H Q h => ?_
  · refine wpAny_Call_Name_kw (ld_glob I hg hm ?_ hdb)
    exact PySem.W.callWith_K0 I.kIn hkp (run_fnS (us := []) G (hr.mono hk) hb (passAt tk σ) I .nil h)
  · obtain ⟨δ, S, ι, r, q⟩ := callF (n := 0) rfl h
    exact q [] H ι .refl r.sto .nil
/-- a def's body -/
theorem fn_core {P : Program} {w : World} {K : PySem.W.Frag} {mg : Str → Option Value} {base : Heap} {f : Addr} {fd : FuncData} {N ps : List Str} {st : Stmt} {x qual : Str} {body : SM} {slots : Nat}
    (G : Fun K x qual st f fd) (S : FnScope N ps (defScope st)) (hN : N.length = slots) (hn : ps.length = n)
    (hbody : ∀ (cdv : Value) (A : Around) (outer : List PySem.Env) (s : Shared) (H : Hp) (E : XK), Room lv (A.deeper (envOfC qual (defScope st) s.heap.objs.size f cdv)) →
      Takes (cxOf (L2.CX P w) P w K mg base N qual (defScope st) f cdv A outer s H E) (fun cls dx _ H => E cls dx H) →
      PassesOwn (model P w) (A.deeper (envOfC qual (defScope st) s.heap.objs.size f cdv)) (envOfC qual (defScope st) s.heap.objs.size f cdv) (cxOf (L2.CX P w) P w K mg base N qual (defScope st) f cdv A outer s H E).xe →
      SSs (cxOf (L2.CX P w) P w K mg base N qual (defScope st) f cdv A outer s H E) (fun cls dx _ H => E cls dx H) (defBody st) body) : FnOk P w K mg base (L2.CX P w) (lv + 1) f fd ps (spOf K mg (defM n slots body) n) := by
  refine Fun.okX G S (fun vs H Q E h => by rw [hn]; exact h.1) fun cdv A outer s H vs Q E hr h => ?_
  refine ⟨_, hbody cdv A outer s H E hr (takes_of rfl rfl rfl rfl) (passes_of (X := cxOf (L2.CX P w) P w K mg base N qual (defScope st) f cdv A outer s H E) rfl), ?_⟩
  obtain ⟨hl, ds, St, ι, r, q, h⟩ := h
  have hd : ds.length = n := by rw [← q.length]; exact hl
  refine ⟨ds.map some ++ List.replicate (slots - n) none, St, ι, ⟨?_, fun i d e => ?_, r⟩, ?_⟩
  · unfold L2.start
    simp [hN, hd, hl]
  · have hi : i < ds.length := by
      by_cases hi : i < ds.length
      · exact hi
      · rw [List.getElem?_append_right (by simpa using hi), List.getElem?_replicate] at e
        split at e <;> cases e
    rw [List.getElem?_append_left (by simpa using hi), List.getElem?_map] at e
    have e' : ds[i]? = some d := by
      cases e2 : ds[i]? with
      | none => rw [e2] at e; cases e
      | some z => rw [e2] at e; cases e; rfl
    obtain ⟨v, e1, e2⟩ := q.get e'
    refine ⟨v, ?_, e2⟩
    unfold L2.start
    rw [List.getElem?_append_left (by simpa [q.length] using hi), List.getElem?_map, e1]; rfl
  · unfold defM at h
    rw [if_pos hd] at h
    cases e1 : body (ds.map some ++ List.replicate (slots - n) none) St with
    | stuck => rw [e1] at h; exact h.elim
    | exc x S1 =>
      rw [e1] at h
      exact h.elim
    | ok fl S1 =>
      rw [e1] at h
      cases fl with
      | nx δ' => exact fun σ' H' ι' g rl => h .non H' ι' g rl.sto .non
      | rt d => exact h
      | bk δ' => exact h.elim
      | ct δ' => exact h.elim
      | ex x δ' => exact fun cls dx σ' H' ι' g rl z => h cls dx H' ι' g rl.sto z
end
/-- a def of the module -/
theorem ft_of {P : Program} {w : World} {K : PySem.W.Frag} {mg : Str → Option Value} {base : Heap} {f : Addr} {fd : FuncData} {ps : List Str} {y : String} {F : FM} {n lv : Nat}
    (G : FnOk P w K mg base (L2.CX P w) lv f fd ps (spOf K mg F n)) (hm : mg (Str.ofString y) = some (.ref f)) (hk : PySem.W.keepIn K (.ref f) = true) (hb : Binds K fd ps []) : FT P w K mg base lv y F n := ⟨f, fd, ps, G, hm, hk, hb⟩
theorem FT.mono {P : Program} {w : World} {K : PySem.W.Frag} {mg : Str → Option Value} {base : Heap} {y : String} {F : FM} {n lv lv' : Nat} (T : FT P w K mg base lv y F n) (h : lv ≤ lv') : FT P w K mg base lv' y F n := by
  obtain ⟨f, fd, ps, G, h1, h2, h3⟩ := T.ex
  exact ⟨f, fd, ps, G.mono h, h1, h2, h3⟩
/-- what the law's own def is to promise -/
def spLaw (K : PySem.W.Frag) : Sp := fun vs H Q _ => ∃ (a : Addr) (ns : List Int), vs = [.ref a] ∧ SqL K H a (ns.map V.int) ∧ Only H ∧ ns.length ≤ 63 ∧ ∀ H', Q (.bl true) H'
theorem law_imp {P : Program} {w : World} {K : PySem.W.Frag} {mg : Str → Option Value} {base : Heap} {f : Addr} {fd : FuncData} {ps : List Str} {F : FM} {lv : Nat} (G : FnOk P w K mg base (L2.CX P w) lv f fd ps (spOf K mg F 1))
    (h : ∀ ns : List Int, ns.length ≤ 63 → ∃ S', F [.lit (ns.map D.int)] [] = .ok (.bl true) S') : FnOk P w K mg base (L2.CX P w) lv f fd ps (spLaw K) := by
  refine G.imp fun vs H Q E q => ?_
  obtain ⟨a, ns, rfl, hs, hO, hl, q⟩ := q
  obtain ⟨S', e⟩ := h ns hl
  have hints : ∀ l : List Int, Rps K mg H [] (l.map V.int) (l.map D.int) := by
    intro l
    induction l with
    | nil => exact .nil
    | cons x l ih => exact .cons (.int x) ih
  have hK : SqK K H a (ns.map V.int) := by
    rcases hs with (hs | hs) | hs
    · rcases hO a with z | ⟨o, xs, z⟩
      · rw [z] at hs; cases hs
      · rw [z] at hs; cases hs
    · exact .inl hs
    · exact .inr (.inr hs)
  refine ⟨rfl, [.lit (ns.map D.int)], [], [], ⟨rfl, List.nodup_nil, fun n o a e _ => by simp at e⟩, .cons (.lit hK (by simp; rw [sizeLine_eq]; omega) (hints ns)) .nil, ?_⟩
  rw [e]
  intro v H' ι' _ _ p
  cases p
  exact q H'
theorem cx_none {P : Program} {w : World} {H : Hp} {s : Shared} {e : Value} {s' : Shared} (h : L2.CX P w [] H s (fun _ _ _ => False) e s') : False := by
  obtain ⟨_, _, _, _, _, _, _, _, _, _, _, _, z⟩ := h
  exact z
end Dl

end

section
set_option linter.all false
set_option Elab.async false
set_option maxRecDepth 100000
set_option Elab.async false
set_option linter.all false
set_option maxRecDepth 100000
set_option maxHeartbeats 4000000
namespace Dl
open PySem PySem.Spec PyProof.Rows L2

section
variable {K : PySem.W.Frag} {mg : Str → Option Value} {W : WX} {σ : L2.St} {δ : Dl.Env} {H : Hp} {ι : List Addr} {S : Store}
theorem PostS.seqE {r : Res D} {f : D → Store → Res Flow} {D : Ends} (rl : Rel K mg H ι σ δ S) (h : PostS K mg W D H ι (r.thenS δ f))
    {Q' : VK} (q : ∀ v H' ι' d S', r = .ok d S' → Grow K H ι H' ι' → RS K mg H' ι' S' → Rp K mg H' ι' v d → PostS K mg W D H' ι' (f d S') → Q' v H') : PostE K mg W σ H ι r Q' := by
  cases r with
  | ok d S => exact fun v H' ι' a b c => q v H' ι' d S rfl a b c (h.back a)
  | exc e S => exact fun c dx H' ι' g q z => h c dx σ H' ι' g (rl.mono g q) z
  | stuck => exact h
theorem PostS.seqT {r : Res Bool} {f : Bool → Store → Res Flow} {D : Ends} (rl : Rel K mg H ι σ δ S) (h : PostS K mg W D H ι (r.thenS δ f))
    {Q' : Bool → Hp → Prop} (q : ∀ H' ι' d S', r = .ok d S' → Grow K H ι H' ι' → RS K mg H' ι' S' → PostS K mg W D H' ι' (f d S') → Q' d H') : PostT K mg W σ H ι r Q' := by
  cases r with
  | ok d S => exact fun H' ι' a b => q H' ι' d S rfl a b (h.back a)
  | exc e S => exact fun c dx H' ι' g q z => h c dx σ H' ι' g (rl.mono g q) z
  | stuck => exact h
theorem PostS.imp {r : Res Flow} {D D' : Ends} (h : PostS K mg W D H ι r) (h1 : ∀ σ H, D.nx σ H → D'.nx σ H) (h2 : ∀ v H, D.rt v H → D'.rt v H) (h3 : ∀ σ H, D.bk σ H → D'.bk σ H) (h4 : ∀ σ H, D.ct σ H → D'.ct σ H) : PostS K mg W D' H ι r := by
  cases r with
  | ok f S =>
    cases f with
    | nx δ => exact fun σ' H' ι' a b => h1 _ _ (h σ' H' ι' a b)
    | bk δ => exact fun σ' H' ι' a b => h3 _ _ (h σ' H' ι' a b)
    | ct δ => exact fun σ' H' ι' a b => h4 _ _ (h σ' H' ι' a b)
    | rt d => exact fun v H' ι' a b c => h2 _ _ (h v H' ι' a b c)
    | ex e δ => exact h
  | exc e S => exact h
  | stuck => exact h
end

section
variable {X : Cx} {W : WX} {e o a b c : Expr} {es : List Expr} {m m' : EM} {ms : List EM} {p pos apos : Pos} {k n lv : Nat} {x : Str}
variable {st : Stmt} {sts rest : List Stmt} {s s' : SM} {ss : List SM} {t : TM}
/-! ### blocks -/
theorem ss_nil : SSs X W [] (blkS []) := pss_imp pss_nil fun D σ H h => by
  obtain ⟨δ, S, ι, r, h⟩ := h
  exact h σ H ι .refl r
theorem ss_one (h : SS X W st s) : SSs X W [st] (blkS [s]) := pss_one h
theorem ss_cons {s2 : SM} (h : SS X W st s) (h2 : SSs X W rest (blkS (s2 :: ss))) : SSs X W (st :: rest) (blkS (s :: s2 :: ss)) := by
  refine pss_imp (pss_cons h h2) fun D σ H q => ?_
  obtain ⟨δ, S, ι, r, q⟩ := q
  refine ⟨δ, S, ι, r, ?_⟩
  have q : PostS X.K X.mg W D H ι ((s δ S).bind fun f S1 => match f with | .nx δ1 => blkS (s2 :: ss) δ1 S1 | _ => .ok f S1) := q
  cases e1 : s δ S with
  | stuck => rw [e1] at q; exact q
  | exc x S1 => rw [e1] at q; exact q
  | ok f S1 =>
    rw [e1] at q
    cases f with
    | nx δ1 => exact fun σ' H' ι' g r1 => ⟨δ1, S1, ι', r1, PostS.back g q⟩
    | bk δ1 => exact q
    | ct δ1 => exact q
    | rt d => exact q
    | ex y δ1 => exact q
/-! ### small statements -/
theorem ss_pass : SS X W (.Pass pos) nilS := ps_imp ps_pass fun D σ H h => by
  obtain ⟨δ, S, ι, r, h⟩ := h
  exact h σ H ι .refl r
theorem ss_brk : SS X W (.Break pos) brkS := ps_imp ps_break fun D σ H h => by
  obtain ⟨δ, S, ι, r, h⟩ := h
  exact h σ H ι .refl r
theorem ss_cnt : SS X W (.Continue pos) cntS := ps_imp ps_continue fun D σ H h => by
  obtain ⟨δ, S, ι, r, h⟩ := h
  exact h σ H ι .refl r
theorem ss_never : SS X W st neverS := ps_imp ps_never fun D σ H h => by
  obtain ⟨δ, S, ι, r, h⟩ := h
  exact h.elim
theorem ss_expr (h : SE X W e m) (hs : swapsWith e none pos.line X.env = pure false := by rfl) : SS X W (.Expr e pos) (exprS m) := ps_imp (ps_expr h hs) fun D σ H q => by
  obtain ⟨δ, S, ι, r, q⟩ := q
  exact ⟨δ, S, ι, r, PostS.seqE r q fun v H' ι' d S' _ g r1 _ q1 => q1 σ H' ι' .refl (r.mono g r1)⟩
theorem ss_ret (h : SE X W e m) : SS X W (.Return (some e) pos) (retS m) := ps_imp (ps_ret h) fun D σ H q => by
  obtain ⟨δ, S, ι, r, q⟩ := q
  exact ⟨δ, S, ι, r, PostS.seqE r q fun v H' ι' d S' _ g r1 p1 q1 => q1 v H' ι' .refl r1 p1⟩
theorem ss_retN : SS X W (.Return none pos) retN := ps_imp ps_retN fun D σ H q => by
  obtain ⟨δ, S, ι, r, q⟩ := q
  exact q .non H ι .refl r.sto .non
theorem ss_if {sa sb : List Stmt} {s1 s2 : SM} (hc : ST X W c t) (ha : SSs X W sa s1) (hb : SSs X W sb s2) : SS X W (.If c sa sb pos) (ifS t s1 s2) := ps_imp (ps_if hc ha hb) fun D σ H q => by
  obtain ⟨δ, S, ι, r, q⟩ := q
  refine ⟨δ, S, ι, r, PostS.seqT r q fun H' ι' d S' _ g r1 q1 => ?_⟩
  cases d with
  | true => exact iteT ⟨δ, S', ι', r.mono g r1, q1⟩
  | false => exact iteF ⟨δ, S', ι', r.mono g r1, q1⟩

/-! ### targets -/
def Tgt.names : Tgt → List Nat
  | .nm i => [i]
  | .tp is => is
def gNames : List Nat → TGs
  | [] => gNil
  | i :: is => gCons (gName i) (gNames is)
def Tgt.g (K : PySem.W.Frag) : Tgt → TG
  | .nm i => gName i
  | .tp is => gTup K is.length (gNames is)
def setAllV : List Nat → List V → L2.St → L2.St
  | i :: is, v :: vs, σ => setAllV is vs (σ.set i (some v))
  | _, _, σ => σ
theorem gNames_run {Q : L2.St → Hp → Prop} {H : Hp} : ∀ {is : List Nat} {vs : List V} {σ : L2.St}, vs.length = is.length → Q (setAllV is vs σ) H → gNames is vs σ H Q
  | [], [], σ, _, q => ⟨rfl, q⟩
  | i :: is, v :: vs, σ, hl, q => ⟨v, vs, rfl, gNames_run (by simpa using hl) q⟩
  | [], _ :: _, _, hl, _ => by simp at hl
  | _ :: _, [], _, hl, _ => by simp at hl
theorem Rel.setAll {K : PySem.W.Frag} {mg : Str → Option Value} {H : Hp} {ι : List Addr} {S : Store} : ∀ {is : List Nat} {vs : List V} {ds : List D} {σ : L2.St} {δ : Dl.Env}, Rel K mg H ι σ δ S → Rps K mg H ι vs ds → Rel K mg H ι (setAllV is vs σ) (Dl.setAll is ds δ) S
  | [], _, _, _, _, r, _ => by simpa [setAllV, Dl.setAll] using r
  | _ :: _, _, [], _, _, r, h => by cases h; simpa [setAllV, Dl.setAll] using r
  | i :: is, _, d :: ds, _, _, r, h => by
    cases h with
    | cons h1 h2 => exact Rel.setAll (is := is) (Rel.set (i := i) r h1) h2
/-- what a target's store does with the slots -/
def Tgt.putV : Tgt → V → List V → L2.St → L2.St
  | .nm i, v, _, σ => σ.set i (some v)
  | .tp is, _, vs, σ => setAllV is vs σ
theorem Tgt.run {K : PySem.W.Frag} {mg : Str → Option Value} {H : Hp} {ι : List Addr} {S : Store} {tg : Tgt} {v : V} {d : D} {σ : L2.St} {δ δ' : Dl.Env} {Q : L2.St → Hp → Prop} (r : Rel K mg H ι σ δ S) (p : Rp K mg H ι v d) (e : tg.put d δ = some δ')
    (h : ∀ vs, Rel K mg H ι (tg.putV v vs σ) δ' S → Q (tg.putV v vs σ) H) : tg.g K v σ H Q := by
  cases tg with
  | nm i =>
    cases e
    exact h [] (r.set p)
  | tp is =>
    cases d with
    | tup ds =>
      obtain ⟨a, vs, rfl, h1, _, h2⟩ := p.tup_inv
      unfold Tgt.put at e
      simp only at e
      split at e
      · rename_i hl
        cases e
        refine ⟨a, vs, rfl, h1, by rw [h2.length, hl], gNames_run (by rw [h2.length, hl]) (h vs (Rel.setAll r h2))⟩
      · cases e
    | _ => cases e
/-- a target as it stands in the text -/
abbrev SG (X : Cx) (e : Expr) (tg : Tgt) : Prop := PG X e (tg.g X.K)
theorem sg_nm (i : Nat) (hN : X.N.Nodup) (hi : X.N[i]? = some x := by rfl) (hx : Loc X.env.scope x := by first | exact .inl rfl | exact .inr rfl) (hf : X.fn x = true ∨ X.env.scope.names.lookup x = some .local := by first | exact .inl rfl | exact .inr rfl | assumption) : SG X (.Name x pos) (.nm i) := pg_name hN hi hx hf
abbrev SGs (X : Cx) (es : List Expr) (is : List Nat) : Prop := PGs X es (gNames is)
theorem sgs_nil : SGs X [] [] := pgs_nil
theorem sgs_cons {i : Nat} {is : List Nat} (h1 : SG X e (.nm i)) (h2 : SGs X es is) (hs : (assignEach (e :: es) X.env).map (·.2) = assign e X.env :: (assignEach es X.env).map (·.2) := by rfl) : SGs X (e :: es) (i :: is) := pgs_cons h1 h2 hs
theorem sg_tp {j : Nat} {is : List Nat} (hc : X.calm = true) (h : SGs X es is) (hn : (assignEach es X.env).length = is.length := by rfl) (hst : (assignEach es X.env).findIdx? (·.1) = none := by rfl) : SG X (.Tuple es j pos) (.tp is) := pg_tup hc h hn hst
theorem asg_run {K : PySem.W.Frag} {mg : Str → Option Value} {D : Ends} {σ : L2.St} {H : Hp} {tg : Tgt} {te : TE} (i : ∀ {Q}, cE K mg W m σ H Q → te σ H Q) (q : cS K mg W (setS tg m) D σ H) : tAsg te (tg.g K) D σ H := by
  obtain ⟨δ, S, ι, r, q⟩ := q
  refine i ⟨δ, S, ι, r, PostS.seqE r q fun v H' ι' d S' _ g r1 p1 q1 => ?_⟩
  cases e : tg.put d δ with
  | none => rw [e] at q1; exact q1.elim
  | some δ' =>
    rw [e] at q1
    exact Tgt.run (r.mono g r1) p1 e fun vs r2 => q1 _ H' ι' .refl r2
theorem ss_set (i : Nat) {pos' : Pos} (hN : X.N.Nodup) (he : SE X W e m) (hi : X.N[i]? = some x := by rfl) (hx : Loc X.env.scope x := by first | exact .inl rfl | exact .inr rfl) (hs : swapsWith e (some (.Name x pos')) pos.line X.env = pure false := by rfl)
    (hf : X.fn x = true ∨ X.env.scope.names.lookup x = some .local := by first | exact .inl rfl | exact .inr rfl | assumption) : SS X W (.Assign [.Name x pos'] e pos) (setS (.nm i) m) :=
  ps_imp (ps_set (i := i) hN hi hx he hs hf) fun D σ H q => asg_run (tg := .nm i) (fun h => h) q
theorem ss_asg {tge : Expr} {tg : Tgt} (he : SE X W e m) (hg : SG X tge tg) (hs : swapsWithSole [tge] e pos.line X.env = pure false := by rfl) (hw : swappedStores [tge] e X.env = pure none := by rfl)
    (h1 : (assignEach [tge] X.env).map (·.2) = [assign tge X.env] := by rfl) : SS X W (.Assign [tge] e pos) (setS tg m) :=
  ps_imp (ps_asg he hg hs hw h1) fun D σ H q => asg_run (tg := tg) (fun h => h) q
/-- name op= e -/
theorem ss_aug (i : Nat) {op : Operator} {r : R2} {f : FM} {pos' : Pos} (ho : OpR X (inplaceOp op) r) (sm : Sim2 X.K X.mg r f) (hN : X.N.Nodup) (he : SE X W e m) (hi : X.N[i]? = some x := by rfl) (hx : Loc X.env.scope x := by first | exact .inl rfl | exact .inr rfl)
    (hf : X.fn x = true ∨ X.env.scope.names.lookup x = some .local := by first | exact .inl rfl | exact .inr rfl | assumption) : SS X W (.AugAssign (.Name x pos') op e pos) (augS i f m) := by
  refine ps_imp (ps_aug (i := i) hN hi hx he (fun pins s σ H x y v u Q I rx ry h => ho pins s σ H x y v u Q I rx ry h) hf) fun D σ H q => ?_
  obtain ⟨δ, S, ι, rl, q⟩ := q
  unfold augS at q
  split at q
  · rename_i dx e1
    obtain ⟨v, e2, p0⟩ := rl.env i dx e1
    refine ⟨v, e2, δ, S, ι, rl, PostS.seqE rl q fun w H1 ι1 dy S1 _ g r1 p1 q1 => ?_⟩
    cases e3 : f [dx, dy] S1 with
    | stuck => rw [e3] at q1; exact q1.elim
    | exc y S2 => exact (sm.nox _ _ _ _ e3).elim
    | ok z S2 =>
      rw [e3] at q1
      refine sm.run v w dx dy H1 S1 ι1 z S2 _ r1 (p0.mono g) p1 e3 fun u H2 ι2 g2 r2 p2 => ?_
      exact q1 _ H2 ι2 g2 ((rl.mono (g.trans g2) r2).set p2)
  · exact q.elim

/-! ### loops -/
/-- what is walked: its items at each turn -/
def PostI (K : PySem.W.Frag) (mg : Str → Option Value) (W : WX) (σ : L2.St) (H : Hp) (ι : List Addr) (r : Res Src) (R : It → Hp → Prop) : Prop := match r with
  | .ok s S' => ∀ J H' ι', Grow K H ι H' ι' → RS K mg H' ι' S' →
      (∀ i d H2 ι2 S2, Grow K H' ι' H2 ι2 → RS K mg H2 ι2 S2 → s.still S2 = true → s.items[i]? = some d → J.go i H2 ∧ ∀ x H3, J.yld i H2 x H3 → ∃ ι3, Grow K H2 ι2 H3 ι3 ∧ RS K mg H3 ι3 S2 ∧ Rp K mg H3 ι3 x d) →
      (∀ H2 ι2 S2, Grow K H' ι' H2 ι2 → RS K mg H2 ι2 S2 → s.still S2 = true → J.stop s.items.length H2) → R J H'
  | .exc e S' => ∀ cls dx H' ι', Grow K H ι H' ι' → RS K mg H' ι' S' → RX K mg H' ι' e cls dx → W cls dx σ H'
  | .stuck => False
def cI (K : PySem.W.Frag) (mg : Str → Option Value) (W : WX) (m : IM) : TI := fun σ H R => ∃ δ S ι, Rel K mg H ι σ δ S ∧ PostI K mg W σ H ι (m δ S) R
abbrev SI (X : Cx) (W : WX) (tg e : Expr) (m : IM) : Prop := PI X tg e (cI X.K X.mg W m)
theorem pi_imp {tg e : Expr} {t t' : TI} (h : PI X tg e t) (i : ∀ σ H R, t' σ H R → t σ H R) : PI X tg e t' := ⟨fun pins s σ H R I hw => h.run pins s σ H R I (i _ _ _ hw)⟩
theorem PI.or {tg e : Expr} {t' : TI} (h : ∀ σ H R, t' σ H R → ∃ t, PI X tg e t ∧ t σ H R) : PI X tg e t' := ⟨fun pins s σ H R I hw => by
  obtain ⟨t, h1, h2⟩ := h σ H R hw
  exact h1.run pins s σ H R I h2⟩
theorem forGo {K : PySem.W.Frag} {mg : Str → Option Value} {tg : Tgt} {tb : TS} {D : Ends} {s : Src} {body : SM} {J : It} {H0 : Hp} {ι0 : List Addr} {σ : L2.St} {δ : Dl.Env} {S : Store} (hb : ∀ D σ H, cS K mg W body D σ H → tb D σ H)
    (hgo : ∀ i d H2 ι2 S2, Grow K H0 ι0 H2 ι2 → RS K mg H2 ι2 S2 → s.still S2 = true → s.items[i]? = some d → J.go i H2 ∧ ∀ x H3, J.yld i H2 x H3 → ∃ ι3, Grow K H2 ι2 H3 ι3 ∧ RS K mg H3 ι3 S2 ∧ Rp K mg H3 ι3 x d)
    (hst : ∀ H2 ι2 S2, Grow K H0 ι0 H2 ι2 → RS K mg H2 ι2 S2 → s.still S2 = true → J.stop s.items.length H2)
    (rl : Rel K mg H0 ι0 σ δ S) (h : PostS K mg W D H0 ι0 (forLoop s.still tg body s.items δ S)) :
    ∃ W : Nat → Nat → L2.St → Hp → Prop, (∃ m, W 0 m σ H0) ∧ ∀ i m σ H, W i m σ H →
      (J.stop i H ∧ D.nx σ H) ∨ (J.go i H ∧ ∃ N : L2.St → Hp → Prop, (∀ σ' H', N σ' H' → ∃ m', m' < m ∧ W (i + 1) m' σ' H') ∧ ∀ x H', J.yld i H x H' → tg.g K x σ H' fun σ2 H2 => tb { D with nx := N, ct := N, bk := D.nx } σ2 H2) := by
  refine ⟨fun i m σ H => ∃ δ S ι, i + m = s.items.length ∧ Grow K H0 ι0 H ι ∧ Rel K mg H ι σ δ S ∧ PostS K mg W D H ι (forLoop s.still tg body (s.items.drop i) δ S), ⟨s.items.length, δ, S, ι0, by simp, .refl, rl, by simpa using h⟩, ?_⟩
  rintro i m σ H ⟨δ, S, ι, hm, g, rl, h⟩
  by_cases hi : i < s.items.length
  · have hd : s.items.drop i = s.items[i] :: s.items.drop (i + 1) := List.drop_eq_getElem_cons hi
    rw [hd] at h
    unfold forLoop at h
    split at h
    · rename_i hstill
      obtain ⟨h1, h2⟩ := hgo i s.items[i] H ι S g rl.sto hstill (List.getElem?_eq_getElem hi)
      refine .inr ⟨h1, fun σ' H' => ∃ δ S ι, i + 1 + (m - 1) = s.items.length ∧ Grow K H0 ι0 H' ι ∧ Rel K mg H' ι σ' δ S ∧ PostS K mg W D H' ι (forLoop s.still tg body (s.items.drop (i + 1)) δ S), fun σ' H' hN => ⟨m - 1, by omega, hN⟩, fun x H' hy => ?_⟩
      obtain ⟨ι3, g3, r3, p3⟩ := h2 x H' hy
      cases e : tg.put s.items[i] δ with
      | none => rw [e] at h; exact h.elim
      | some δ1 =>
        rw [e] at h
        refine Tgt.run (rl.mono g3 r3) p3 e fun vs r4 => hb _ _ _ ⟨δ1, S, ι3, r4, ?_⟩
        have h := PostS.back g3 h
        cases e1 : body δ1 S with
        | stuck => simp only [e1] at h; exact h
        | exc y S1 => simp only [e1] at h; exact h
        | ok f S1 =>
          simp only [e1, Res.bind_ok] at h
          cases f with
          | nx δ2 => exact fun σ' H2 ι2 g2 r2 => ⟨δ2, S1, ι2, by omega, (g.trans g3).trans g2, r2, PostS.back g2 h⟩
          | ct δ2 => exact fun σ' H2 ι2 g2 r2 => ⟨δ2, S1, ι2, by omega, (g.trans g3).trans g2, r2, PostS.back g2 h⟩
          | bk δ2 => exact h
          | rt d => exact h
          | ex y δ2 => exact h
    · exact h.elim
  · have e : i = s.items.length := by omega
    subst e
    rw [List.drop_length] at h
    unfold forLoop at h
    split at h
    · rename_i hstill
      exact .inl ⟨hst H ι S g rl.sto hstill, h σ H ι .refl rl⟩
    · exact h.elim
theorem ss_for {tge iter : Expr} {tg : Tgt} {body : List Stmt} {im : IM} (hp : PassesOwn (model X.prog X.w) X.A X.env X.xe) (hc : X.calm = true) (hi : SI X W tge iter im) (hg : SG X tge tg) (hb : SSs X W body s)
    (hs : ∀ x, foldedSetIterable iter X.env x = pure x := by intro _; rfl) : SS X W (.For tge iter body [] pos) (forS im tg s) := by
  refine ps_imp (ps_for hp hc hi hg hb hs) fun D σ H q => ?_
  obtain ⟨δ, S, ι, r, q⟩ := q
  refine ⟨δ, S, ι, r, ?_⟩
  have q : PostS X.K X.mg W D H ι ((im δ S).thenS δ fun s1 S1 => forLoop s1.still tg s s1.items δ S1) := q
  cases e1 : im δ S with
  | stuck => rw [e1] at q; exact q
  | exc y S1 => rw [e1] at q; exact fun c dx H' ι' g q1 z => q c dx σ H' ι' g (r.mono g q1) z
  | ok s1 S1 =>
    rw [e1] at q
    intro J H1 ι1 g1 r1 hgo hst
    exact forGo (fun D σ H h => h) hgo hst (r.mono g1 r1) (PostS.back g1 q)
theorem ss_while {body : List Stmt} (hp : PassesOwn (model X.prog X.w) X.A X.env X.xe) (hc : ST X W c t) (hb : SSs X W body s) : SS X W (.While c body [] pos) (whileS t s) := by
  refine ps_imp (ps_while hp hc hb) fun D σ H q => ?_
  obtain ⟨δ, S, ι, r, q⟩ := q
  refine ⟨fun m σ H => ∃ δ S ι, Rel X.K X.mg H ι σ δ S ∧ PostS X.K X.mg W D H ι (whileLoop t s m δ S), ⟨FUEL, δ, S, ι, r, q⟩, ?_⟩
  rintro m σ H ⟨δ, S, ι, r, q⟩
  refine ⟨δ, S, ι, r, ?_⟩
  cases m with
  | zero => exact q.elim
  | succ m =>
    refine PostS.seqT r q fun H' ι' d S' _ g r1 q1 => ?_
    cases d with
    | false => exact iteF (q1 σ H' ι' .refl (r.mono g r1))
    | true =>
      refine iteT ⟨fun σ' H' => ∃ δ S ι, Rel X.K X.mg H' ι σ' δ S ∧ PostS X.K X.mg W D H' ι (whileLoop t s m δ S), fun σ' H' hN => ⟨m, Nat.lt_succ_self m, hN⟩, δ, S', ι', r.mono g r1, ?_⟩
      have q1 : PostS X.K X.mg W D H' ι' ((s δ S').bind fun f S2 => (match f with
        | .nx δ2 => whileLoop t s m δ2 S2
        | .ct δ2 => whileLoop t s m δ2 S2
        | .bk δ2 => .ok (.nx δ2) S2
        | .rt d => .ok (.rt d) S2
        | .ex e δ2 => .ok (.ex e δ2) S2)) := q1
      cases e1 : s δ S' with
      | stuck => rw [e1] at q1; exact q1
      | exc y S1 => rw [e1] at q1; exact q1
      | ok f S1 =>
        rw [e1] at q1
        cases f with
        | nx δ2 => exact fun σ' H2 ι2 g2 r2 => ⟨δ2, S1, ι2, r2, PostS.back g2 q1⟩
        | ct δ2 => exact fun σ' H2 ι2 g2 r2 => ⟨δ2, S1, ι2, r2, PostS.back g2 q1⟩
        | bk δ2 => exact q1
        | rt d => exact q1
        | ex y δ2 => exact q1
/-! what is walked -/
theorem si_seq {tg : Expr} (he : SE X W e m) : SI X W tg e (seqI m) := by
  refine PI.or fun σ H R h => ?_
  obtain ⟨δ, S, ι, r, h⟩ := h
  have h : PostI X.K X.mg W σ H ι ((m δ S).bind fun d S1 => match d with
    | .ref n => (match lstAt S1 n with | some xs => .ok ⟨xs, isLst n xs⟩ S1 | none => .stuck)
    | .tup xs => .ok ⟨xs, always⟩ S1
    | .lit xs => .ok ⟨xs, always⟩ S1
    | _ => .stuck) R := h
  have go : ∀ (R' : VK), (∀ v H' ι' d S', m δ S = .ok d S' → Grow X.K H ι H' ι' → RS X.K X.mg H' ι' S' → Rp X.K X.mg H' ι' v d → R' v H') → cE X.K X.mg W m σ H R' := fun R' q => by
    refine ⟨δ, S, ι, r, ?_⟩
    cases e1 : m δ S with
    | ok d S1 => exact fun v H' ι' g r1 p1 => q v H' ι' d S1 e1 g r1 p1
    | exc y S1 => rw [e1] at h; exact h
    | stuck => rw [e1] at h; exact h
  cases e1 : m δ S with
  | stuck => rw [e1] at h; exact h.elim
  | exc y S1 => exact ⟨_, pi_tup he, go _ fun v H' ι' d S' e => by rw [e1] at e; cases e⟩
  | ok d S1 =>
    rw [e1] at h
    cases d with
    | ref n =>
      simp only [Res.bind_ok] at h
      cases e2 : lstAt S1 n with
      | none => rw [e2] at h; exact h.elim
      | some xs =>
        rw [e2] at h
        refine ⟨_, pi_list he, go _ fun v H' ι' d S' e g r1 p1 => ?_⟩
        rw [e1] at e; cases e
        obtain ⟨a, rfl, ha⟩ := p1.ref_inv
        obtain ⟨vs, k1, k2⟩ := r1.lstAt ha e2
        refine ⟨a, rfl, ⟨vs, k1⟩, h (Itl X.K a) H' ι' g r1 (fun i d H2 ι2 S2 g2 r2 hs hd => ?_) fun H2 ι2 S2 g2 r2 hs => ?_⟩
        · have hs : lstAt S2 n = some xs := of_decide_eq_true hs
          obtain ⟨ws, q1, q2⟩ := r2.lstAt (pre_get g2.pre ha) hs
          obtain ⟨w, q3, q4⟩ := q2.get hd
          refine ⟨⟨ws, w, q1, q3⟩, fun x H3 hy => ?_⟩
          obtain ⟨rfl, hy⟩ := hy
          have : w = x := Option.some.inj (q3.symm.trans (hy ws q1))
          exact ⟨ι2, .refl, r2, this ▸ q4⟩
        · have hs : lstAt S2 n = some xs := of_decide_eq_true hs
          obtain ⟨ws, q1, q2⟩ := r2.lstAt (pre_get g2.pre ha) hs
          exact ⟨ws, q1, by rw [q2.length]; exact Nat.le_refl _⟩
    | tup xs =>
      refine ⟨_, pi_tup he, go _ fun v H' ι' d S' e g r1 p1 => ?_⟩
      rw [e1] at e; cases e
      obtain ⟨a, vs, rfl, k1, _, k2⟩ := p1.tup_inv
      refine ⟨a, rfl, ⟨vs, k1⟩, h (Itt X.K a) H' ι' g r1 (fun i d H2 ι2 S2 g2 r2 hs hd => ?_) fun H2 ι2 S2 g2 r2 hs => ?_⟩
      · have q1 := g2.tup a vs k1
        obtain ⟨w, q3, q4⟩ := (k2.mono g2).get hd
        refine ⟨⟨vs, w, q1, q3⟩, fun x H3 hy => ?_⟩
        obtain ⟨rfl, hy⟩ := hy
        have : w = x := Option.some.inj (q3.symm.trans (hy vs q1))
        exact ⟨ι2, .refl, r2, this ▸ q4⟩
      · exact ⟨vs, g2.tup a vs k1, by rw [k2.length]; exact Nat.le_refl _⟩
    | lit xs =>
      refine ⟨_, pi_list he, go _ fun v H' ι' d S' e g r1 p1 => ?_⟩
      rw [e1] at e; cases e
      cases p1 with
      | lit k1 kl k2 =>
      rename_i a vs
      have kk : ∀ {H2 ι2}, Grow X.K H' ι' H2 ι2 → SqL X.K H2 a vs := fun {H2 ι2} g2 => SqK.sql (k1.elim (fun ⟨o, z⟩ => .inl ⟨o, g2.frz _ _ _ z⟩) .inr)
      refine ⟨a, rfl, ⟨vs, k1.sql⟩, h (Itl X.K a) H' ι' g r1 (fun i d H2 ι2 S2 g2 r2 hs hd => ?_) fun H2 ι2 S2 g2 r2 hs => ?_⟩
      · obtain ⟨w, q3, q4⟩ := (k2.mono g2).get hd
        refine ⟨⟨vs, w, kk g2, q3⟩, fun x H3 hy => ?_⟩
        obtain ⟨rfl, hy⟩ := hy
        have : w = x := Option.some.inj (q3.symm.trans (hy vs (kk g2)))
        exact ⟨ι2, .refl, r2, this ▸ q4⟩
      · exact ⟨vs, kk g2, by rw [k2.length]; exact Nat.le_refl _⟩
    | _ => exact h.elim
theorem rangeL_get {lo hi : Int} {i : Nat} {d : D} (h : (rangeL lo hi)[i]? = some d) : i < (hi - lo).toNat ∧ d = .int (lo + i) := by
  unfold rangeL at h
  rw [List.getElem?_map] at h
  cases e : (List.range (hi - lo).toNat)[i]? with
  | none => rw [e] at h; cases h
  | some j =>
    rw [e] at h
    obtain ⟨h1, h2⟩ := List.getElem?_eq_some_iff.mp e
    rw [List.length_range] at h1
    rw [List.getElem_range] at h2
    subst h2
    cases h
    exact ⟨h1, rfl⟩
theorem rangeL_length (lo hi : Int) : (rangeL lo hi).length = (hi - lo).toNat := by simp [rangeL]
theorem range_go {K : PySem.W.Frag} {mg : Str → Option Value} {lo hi : Int} {H : Hp} {ι : List Addr} {S : Store} {R : It → Hp → Prop} {H' : Hp} {ι' : List Addr} (g : Grow K H ι H' ι') (r : RS K mg H' ι' S) {n : Nat} (hn : n = (hi - lo).toNat) {W : WX} {σ : L2.St}
    (h : PostI K mg W σ H ι (.ok ⟨rangeL lo hi, always⟩ S) R) : R (Itr lo n) H' := by
  subst hn
  refine h (Itr lo (hi - lo).toNat) H' ι' g r (fun i d H2 ι2 S2 g2 r2 _ hd => ?_) fun H2 ι2 S2 g2 r2 _ => ?_
  · obtain ⟨h1, rfl⟩ := rangeL_get hd
    refine ⟨h1, fun x H3 hy => ?_⟩
    obtain ⟨rfl, rfl⟩ := hy
    exact ⟨ι2, .refl, r2, .int _⟩
  · show (hi - lo).toNat ≤ (rangeL lo hi).length
    rw [rangeL_length]; exact Nat.le_refl _
theorem si_range1 {tg : Expr} (hg : Gl X "range") (hm : X.mg "range" = none) (ha : SA X W [a] [m]) (hs : starEach [a] X.env = [(false, eval a X.env)] := by rfl) : SI X W tg (.Call (.Name "range" p) [a] [] pos) (rangeI [m]) := by
  refine pi_imp (pi_range1 hg hm ha hs) fun σ H R h => ?_
  obtain ⟨δ, S, ι, r, h⟩ := h
  refine ⟨δ, S, ι, r, ?_⟩
  unfold rangeI at h
  cases e1 : argsM [m] δ S with
  | stuck => simp only [e1] at h; exact h
  | exc y S1 => simp only [e1] at h; exact h
  | ok ds S1 =>
    simp only [e1, Res.bind_ok] at h
    intro vs H' ι' g r1 q1
    split at h
    · rename_i j
      obtain ⟨v, rfl, p⟩ := q1.one
      cases p
      split at h
      · rename_i hj
        unfold inRange at hj
        rw [Bool.and_eq_true, decide_eq_true_eq, decide_eq_true_eq] at hj
        exact ⟨j, rfl, hj.1, hj.2, range_go g r1 (by simp) h⟩
      · exact h.elim
    · rename_i i j
      have := q1.length
      unfold argsM at e1
      obtain ⟨d, S2, e2, e3⟩ := bind_inv e1
      obtain ⟨d', S3, e4, e5⟩ := bind_inv e3
      cases e4; cases e5
    · exact h.elim
theorem si_range2 {tg : Expr} (hg : Gl X "range") (hm : X.mg "range" = none) (ha : SA X W [a, b] [m, m']) (hs : starEach [a, b] X.env = [(false, eval a X.env), (false, eval b X.env)] := by rfl) (hs2 : starEach [b] X.env = [(false, eval b X.env)] := by rfl) : SI X W tg (.Call (.Name "range" p) [a, b] [] pos) (rangeI [m, m']) := by
  refine pi_imp (pi_range2 hg hm ha hs hs2) fun σ H R h => ?_
  obtain ⟨δ, S, ι, r, h⟩ := h
  refine ⟨δ, S, ι, r, ?_⟩
  unfold rangeI at h
  cases e1 : argsM [m, m'] δ S with
  | stuck => simp only [e1] at h; exact h
  | exc y S1 => simp only [e1] at h; exact h
  | ok ds S1 =>
    simp only [e1, Res.bind_ok] at h
    intro vs H' ι' g r1 q1
    split at h
    · rename_i j
      unfold argsM at e1
      obtain ⟨d, S2, e2, e3⟩ := bind_inv e1
      obtain ⟨d', S3, e4, e5⟩ := bind_inv e3
      unfold argsM at e4
      obtain ⟨d2, S4, e6, e7⟩ := bind_inv e4
      obtain ⟨d3, S5, e8, e9⟩ := bind_inv e7
      cases e9; cases e5
    · rename_i i j
      obtain ⟨v, u, rfl, p1, p2⟩ := q1.two
      cases p1; cases p2
      split at h
      · rename_i hj
        unfold inRange at hj
        simp only [Bool.and_eq_true, decide_eq_true_eq] at hj
        exact ⟨i, j, rfl, ⟨hj.1.1, hj.1.2, hj.2.1, hj.2.2⟩, range_go g r1 rfl h⟩
      · exact h.elim
    · exact h.elim
end
end Dl

end

section
set_option linter.all false
set_option Elab.async false
set_option maxRecDepth 100000
set_option Elab.async false
set_option linter.all false
set_option maxRecDepth 100000
set_option maxHeartbeats 4000000
namespace Dl
open PySem PySem.Spec PyProof.Rows L2

abbrev W0 : WX := fun _ _ _ _ => False
section
variable {X : Cx} {W : WX} {e o a b c elt tge iter : Expr} {es ifs : List Expr} {m m' : EM} {ms : List EM} {p pos apos : Pos} {k n lv : Nat} {x : Str}
abbrev STs (X : Cx) (W : WX) (e : List Expr) (m : TM) : Prop := PTs X e (cT X.K X.mg W m)
theorem sts_nil : STs X W [] yesT := ⟨fun pins s σ H Q I h => by
  obtain ⟨δ, S, ι, r, h⟩ := h
  exact pts_nil.run pins s σ H Q I (h H ι .refl r.sto)⟩
theorem sts_one {t : TM} (h : ST X W c t) : STs X W [c] t := pts_one h
theorem wipe_set {σ : L2.St} {i : Nat} {v : Option V} : ∀ {vs : List Nat}, i ∈ vs → L2.wipe (σ.set i v) vs = L2.wipe σ vs
  | [], h => by cases h
  | j :: vs, h => by
    unfold L2.wipe
    by_cases hj : i ∈ vs
    · rw [wipe_set hj]
    · have e : i = j := by
        rcases List.mem_cons.mp h with e | e
        · exact e
        · exact absurd e hj
      subst e
      have : ∀ (us : List Nat) (σ : L2.St), i ∉ us → L2.wipe (σ.set i v) us = (L2.wipe σ us).set i v := by
        intro us
        induction us with
        | nil => intro σ _; rfl
        | cons u us ih =>
          intro σ hu
          unfold L2.wipe
          simp only [List.mem_cons, not_or] at hu
          rw [ih σ hu.2, List.set_comm _ _ hu.1]
      rw [this vs σ hj, List.set_set]
theorem wipe_setAllV {vs : List Nat} : ∀ {is : List Nat} {ws : List V} {σ : L2.St}, (∀ i ∈ is, i ∈ vs) → L2.wipe (setAllV is ws σ) vs = L2.wipe σ vs
  | [], _, σ, _ => by simp [setAllV]
  | _ :: _, [], σ, _ => by simp [setAllV]
  | i :: is, w :: ws, σ, h => by
    unfold setAllV
    rw [wipe_setAllV (is := is) fun j hj => h j (List.mem_cons_of_mem _ hj), wipe_set (h i List.mem_cons_self)]
theorem wipe_putV {vs : List Nat} {tg : Tgt} {v : V} {ws : List V} {σ : L2.St} (h : ∀ i ∈ tg.names, i ∈ vs) : L2.wipe (tg.putV v ws σ) vs = L2.wipe σ vs := by
  cases tg with
  | nm i => exact wipe_set (h i (by simp [Tgt.names]))
  | tp is => exact wipe_setAllV h
theorem wipe_wipe {σ : L2.St} : ∀ {vs : List Nat}, L2.wipe (L2.wipe σ vs) vs = L2.wipe σ vs := fun {vs} => by
  have : ∀ (us : List Nat), (∀ u ∈ us, u ∈ vs) → L2.wipe (L2.wipe σ us) vs = L2.wipe σ vs := by
    intro us
    induction us with
    | nil => intro _; rfl
    | cons u us ih =>
      intro h
      show L2.wipe ((L2.wipe σ us).set u none) vs = _
      rw [wipe_set (h u List.mem_cons_self), ih fun z hz => h z (List.mem_cons_of_mem _ hz)]
  exact this vs fun _ h => h
theorem Rel.wipe {K : PySem.W.Frag} {mg : Str → Option Value} {H : Hp} {ι : List Addr} {S : Store} {σ : L2.St} {δ : Dl.Env} (r : Rel K mg H ι σ δ S) : ∀ vs : List Nat, Rel K mg H ι (L2.wipe σ vs) (Dl.wipe δ vs) S
  | [] => r
  | v :: vs => by
    have q := Rel.wipe r vs
    refine ⟨by simp [L2.wipe, Dl.wipe, q.len], fun i d e => ?_, q.sto⟩
    unfold Dl.wipe at e
    by_cases h : i = v
    · subst h
      rw [List.getElem?_set] at e
      simp at e
    · rw [List.getElem?_set_ne (Ne.symm h)] at e
      obtain ⟨w, e1, e2⟩ := q.env i d e
      exact ⟨w, by unfold L2.wipe; rw [List.getElem?_set_ne (Ne.symm h)]; exact e1, e2⟩
/-- [elt for tg in iter if ..] -/
theorem lc_run {K : PySem.W.Frag} {mg : Str → Option Value} {tg : Tgt} {own : List Nat} {im : IM} {tt : TM} {σ : L2.St} {H : Hp} {Q : VK} (hown : ∀ i ∈ tg.names, i ∈ own) (h : cE K mg W (lcM own im tg tt m) σ H Q) :
    tLc (cI K mg W im) (tg.g K) (cT K mg W0 tt) (cE K mg W0 m) own σ H Q := by
  obtain ⟨δ, S, ι, r, h⟩ := h
  refine ⟨δ, S, ι, r, ?_⟩
  have h : PostE K mg W σ H ι ((im δ S).bind fun s S1 => (lcLoop s.still S1.length (Dl.wipe δ own) tg tt m s.items (S1 ++ [.lst []])).bind fun _ S2 => .ok (.ref S1.length) S2) Q := h
  cases e1 : im δ S with
  | stuck => rw [e1] at h; exact h
  | exc y S1 => rw [e1] at h; exact h
  | ok s S1 =>
    rw [e1] at h
    intro J H1 ι1 g1 r1 hgo hst A hA
    have h := PostE.back g1 h
    simp only [Res.bind_ok] at h
    obtain ⟨g2, r2, p2⟩ := RS.newL r1 (ws := []) (ys := []) hA .nil
    have hn2 : (ι1 ++ [A])[S1.length]? = some A := by
      obtain ⟨_, q, q2⟩ := p2.ref_inv
      cases q; exact q2
    refine ⟨fun i m' H' => ∃ S' ι', i + m' = s.items.length ∧ Grow K H1 ι1 H' ι' ∧ Grow K (upd H1 A (.lst [])) (ι1 ++ [A]) H' ι' ∧ RS K mg H' ι' S' ∧ PostE K mg W σ H' ι' ((lcLoop s.still S1.length (Dl.wipe δ own) tg tt m (s.items.drop i) S').bind fun _ S2 => .ok (.ref S1.length) S2) Q,
      ⟨s.items.length, _, _, by simp, g2, .refl, r2, by simpa using PostE.back g2 h⟩, ?_⟩
    rintro i m' H' ⟨S', ι', hm, g, ga, rs, h⟩
    by_cases hi : i < s.items.length
    · have hd : s.items.drop i = s.items[i] :: s.items.drop (i + 1) := List.drop_eq_getElem_cons hi
      rw [hd] at h
      unfold lcLoop at h
      split at h
      · rename_i hstill
        obtain ⟨h1, h2⟩ := hgo i s.items[i] H' ι' S' g rs hstill (List.getElem?_eq_getElem hi)
        refine .inr ⟨h1, fun H' => ∃ S' ι', i + 1 + (m' - 1) = s.items.length ∧ Grow K H1 ι1 H' ι' ∧ Grow K (upd H1 A (.lst [])) (ι1 ++ [A]) H' ι' ∧ RS K mg H' ι' S' ∧ PostE K mg W σ H' ι' ((lcLoop s.still S1.length (Dl.wipe δ own) tg tt m (s.items.drop (i + 1)) S').bind fun _ S2 => .ok (.ref S1.length) S2) Q,
          fun H' hN => ⟨m' - 1, by omega, hN⟩, fun x H3 hy => ?_⟩
        obtain ⟨ι3, g3, r3, p3⟩ := h2 x H3 hy
        cases e : tg.put s.items[i] (Dl.wipe δ own) with
        | none => rw [e] at h; exact h.elim
        | some δ1 =>
          rw [e] at h
          have rl : Rel K mg H3 ι3 (L2.wipe σ own) (Dl.wipe δ own) S' := (Rel.wipe r own).mono (g1.trans (g.trans g3)) r3
          refine Tgt.run rl p3 e fun vs r4 => ⟨by rw [wipe_putV hown, wipe_wipe], δ1, S', ι3, r4, ?_⟩
          have h := PostE.back g3 h
          cases e2 : tt δ1 S' with
          | stuck => simp only [e2] at h; exact h
          | exc y S2 => simp only [e2] at h; exact h.elim
          | ok bb S2 =>
            simp only [e2, Res.nox_ok, Res.bind_ok] at h
            intro H4 ι4 g4 r5
            have h := PostE.back g4 h
            cases bb with
            | false => exact iteF ⟨S2, ι4, by omega, (g.trans g3).trans g4, (ga.trans g3).trans g4, r5, h⟩
            | true =>
              refine iteT ⟨δ1, S2, ι4, r4.mono g4 r5, ?_⟩
              simp only [if_true] at h
              cases e3 : m δ1 S2 with
              | stuck => simp only [e3] at h; exact h
              | exc y S3 => simp only [e3] at h; exact h.elim
              | ok d S3 =>
                simp only [e3, Res.nox_ok, Res.bind_ok] at h
                intro v H5 ι5 g5 r6 p6
                have h := PostE.back g5 h
                split at h
                · rename_i acc e4
                  split at h
                  · rename_i hl
                    have gA : Grow K (upd H1 A (.lst [])) (ι1 ++ [A]) H5 ι5 := ((ga.trans g3).trans g4).trans g5
                    have hA5 : ι5[S1.length]? = some A := pre_get gA.pre hn2
                    obtain ⟨ws, q1, q2⟩ := r6.lst hA5 e4
                    obtain ⟨g7, r7⟩ := r6.put (ws := ws ++ [v]) (ys := acc ++ [d]) hA5 q1 (q2.append (.cons p6 .nil))
                    refine ⟨ws, q1, by rw [q2.length, ← LIM_eq]; exact hl, ?_⟩
                    exact ⟨_, ι5, by omega, (((g.trans g3).trans g4).trans g5).trans g7, gA.trans g7, r7, PostE.back g7 h⟩
                  · exact h.elim
                · exact h.elim
      · exact h.elim
    · have e : i = s.items.length := by omega
      subst e
      rw [List.drop_length] at h
      unfold lcLoop at h
      split at h
      · rename_i hstill
        refine .inl ⟨hst H' ι' S' g rs hstill, ?_⟩
        exact h _ H' ι' .refl rs (.ref (pre_get ga.pre hn2))
      · exact h.elim
variable {scope : Scope} {own : List (Str × Nat)} {tg : Tgt} {im : IM} {tt : TM}
theorem se_lc (hc : X.calm = true) (hN : X.N.Nodup) (hi : SI X W tge iter im) (ok : blkC X.N X.env.scope scope own = true)
    (hg : ∀ (s : Shared) (H : Hp) (C : Addr) (cl : List (Str × Addr)) (fp : List Addr), SG (X.blk s H scope (compEnvC scope cl C X.env) fp) tge tg)
    (ht : ∀ (s : Shared) (H : Hp) (C : Addr) (cl : List (Str × Addr)) (fp : List Addr), STs (X.blk s H scope (compEnvC scope cl C X.env) fp) W0 ifs tt)
    (he : ∀ (s : Shared) (H : Hp) (C : Addr) (cl : List (Str × Addr)) (fp : List Addr), SE (X.blk s H scope (compEnvC scope cl C X.env) fp) W0 elt m)
    (hown : (tg.names.all fun i => (own.map (·.2)).contains i) = true := by rfl) (hs : ∀ x, foldedSetIterable iter X.env x = pure x := by intro _; rfl) :
    SE X W (.ListComp elt [⟨tge, iter, ifs, 0⟩] scope pos) (lcM (own.map (·.2)) im tg tt m) :=
  pe_imp (pe_lc hc hN hi (blkOk_by ok) hg ht he hs) fun σ H Q h => lc_run (fun i hi => by simpa using List.all_eq_true.mp hown i hi) h
/-- name = [..] where the name is stored within -/
theorem ss_setLc (i : Nat) {y : Str} {py spos : Pos} (hc : X.calm = true) (hN : X.N.Nodup) (hsw : swapsWith (.ListComp elt [⟨tge, iter, ifs, 0⟩] scope pos) (some (.Name y py)) spos.line X.env = pure true) (hi : SI X W tge iter im) (ok : blkC X.N X.env.scope scope own = true)
    (hg : ∀ (s : Shared) (H : Hp) (C : Addr) (cl : List (Str × Addr)) (fp : List Addr), SG (X.blk s H scope (compEnvC scope cl C X.env) fp) tge tg)
    (ht : ∀ (s : Shared) (H : Hp) (C : Addr) (cl : List (Str × Addr)) (fp : List Addr), STs (X.blk s H scope (compEnvC scope cl C X.env) fp) W0 ifs tt)
    (he : ∀ (s : Shared) (H : Hp) (C : Addr) (cl : List (Str × Addr)) (fp : List Addr), SE (X.blk s H scope (compEnvC scope cl C X.env) fp) W0 elt m)
    (hy : X.N[i]? = some y := by rfl) (hyl : X.env.scope.names.lookup y = some .local := by rfl)
    (hown : (tg.names.all fun i => (own.map (·.2)).contains i) = true := by rfl) (hs : ∀ x, foldedSetIterable iter X.env x = pure x := by intro _; rfl) :
    SS X W (.Assign [.Name y py] (.ListComp elt [⟨tge, iter, ifs, 0⟩] scope pos) spos) (setS (.nm i) (lcM (own.map (·.2)) im tg tt m)) :=
  ps_imp (ps_setLc hc hN hy hyl hsw hi (blkOk_by ok) hg ht he hs) fun D σ H q => asg_run (tg := .nm i) (fun h => lc_run (fun i hi => by simpa using List.all_eq_true.mp hown i hi) h) q
end
end Dl

end

section
set_option linter.all false
set_option Elab.async false
set_option maxRecDepth 100000
set_option Elab.async false
set_option linter.all false
set_option maxRecDepth 100000
set_option maxHeartbeats 4000000
namespace Dl
open PySem PySem.Spec PyProof.Rows L2

section
variable {X : Cx} {W : WX} {e o a b c elt tge iter : Expr} {es ifs : List Expr} {m m' : EM} {ms : List EM} {p pos apos : Pos} {k n lv : Nat} {x : Str} {f : FM} {id T : String} {r : List V → Hp → VK → Prop}
/-! ### built-ins by name -/
theorem se_callB (hc : CallR X (.builtin id) r) (s : SimN X.K X.mg r f) (hg : Gl X x) (hm : X.mg x = none) (hv : bootBuiltins x = some (.builtin id)) (ha : SA X W (e :: es) ms) (hn : x ≠ "__name__" := by decide) (hdb : (x == ("__debug__" : Str)) = false := by decide)
    (he : starEach (e :: es) X.env = (false, eval e X.env) :: starEach es X.env := by rfl) (hpl : (backTo pos (starEach es X.env)).any (·.1) = false := by rfl) : SE X W (.Call (.Name x p) (e :: es) [] pos) (callM f ms) :=
  pe_imp (pe_callB hc hg hm hv ha hn hdb he hpl) fun _ _ _ h => callN s h
theorem se_callTy (hc : CallR X (.type T) r) (s : SimN X.K X.mg r f) (hg : Gl X x) (hm : X.mg x = none) (hv : bootBuiltins x = some (.type T)) (ha : SA X W (e :: es) ms) (hn : x ≠ "__name__" := by decide) (hdb : (x == ("__debug__" : Str)) = false := by decide)
    (he : starEach (e :: es) X.env = (false, eval e X.env) :: starEach es X.env := by rfl) (hpl : (backTo pos (starEach es X.env)).any (·.1) = false := by rfl) : SE X W (.Call (.Name x p) (e :: es) [] pos) (callM f ms) :=
  pe_imp (pe_callTy hc hg hm hv ha hn hdb he hpl) fun _ _ _ h => callN s h
theorem Rkv.length {K : PySem.W.Frag} {mg : Str → Option Value} {H : Hp} {ι : List Addr} : ∀ {vs : List (Key × V)} {ds : List (D × D)}, Rkv K mg H ι vs ds → vs.length = ds.length
  | _, _, .nil => rfl
  | _, _, .cons _ h => by simp [Rkv.length h]
def rLenA (K : PySem.W.Frag) : List V → Hp → VK → Prop := fun xs H Q => (∃ p ys, xs = [.ref p] ∧ (SqL K H p ys ∨ SqT K H p ys) ∧ Q (.int ys.length) H) ∨ (∃ z, xs = [.str z] ∧ z.length ≤ sizeLine ∧ Q (.int z.length) H) ∨ (∃ d kvs, xs = [.ref d] ∧ H d = some (.dK kvs) ∧ Q (.int kvs.length) H)
theorem sim_len {K : PySem.W.Frag} {mg : Str → Option Value} : SimN K mg (rLenA K) lenP where
  run := fun xs ds H S ι d S' Q r q e h => by
    unfold lenP at e
    split at e
    · obtain ⟨hl, rfl, rfl⟩ := ite_ok e
      obtain ⟨v, rfl, p⟩ := q.one
      cases p
      refine .inr (.inl ⟨_, rfl, by rw [toS_length, ← LIM_eq]; exact hl, ?_⟩)
      rw [toS_length]
      exact h _ H ι .refl r (.int _)
    · cases e
      obtain ⟨v, rfl, p⟩ := q.one
      obtain ⟨a, vs, rfl, h1, _, h2⟩ := p.tup_inv
      exact .inl ⟨a, vs, rfl, .inr h1, by rw [h2.length]; exact h _ H ι .refl r (.int _)⟩
    · cases e
      obtain ⟨v, rfl, p⟩ := q.one
      obtain ⟨a, vs, rfl, h1, _, h2⟩ := p.lit_inv
      exact .inl ⟨a, vs, rfl, .inl h1, by rw [h2.length]; exact h _ H ι .refl r (.int _)⟩
    · rename_i n
      obtain ⟨v, rfl, p⟩ := q.one
      obtain ⟨a, rfl, ha⟩ := p.ref_inv
      split at e
      · rename_i ys e1
        cases e
        obtain ⟨vs, h1, h2⟩ := r.lst ha e1
        exact .inl ⟨a, vs, rfl, .inl (.inl (.inl h1)), by rw [h2.length]; exact h _ H ι .refl r (.int _)⟩
      · rename_i ys e1
        cases e
        obtain ⟨vs, h1, h2⟩ := r.at_ n _ a e1 ha
        exact .inr (.inr ⟨a, vs, rfl, h1, by rw [h2.length]; exact h _ H ι .refl r (.int _)⟩)
      · cases e
    · cases e
  nox := fun ds S x S' z => by
    unfold lenP at z
    repeat (first | cases z | exact ite_exc z | split at z)
theorem se_len (hg : Gl X "len") (hm : X.mg "len" = none) (ha : SA X W [e] [m]) (he : starEach [e] X.env = (false, eval e X.env) :: starEach [] X.env := by rfl) : SE X W (.Call (.Name "len" p) [e] [] pos) (callM lenP [m]) :=
  se_callB (call_len_seq.or (call_len_str.or call_lenD)) sim_len hg hm PySem.boot_len ha (he := he)
theorem csInt_text {x : Cs} {n : Int} (h : csInt x = some n) (hl : x.length ≤ 640) : PySem.intText? (toS x) = some n := by
  have all : ∀ {r : Cs}, r.all isDigit = true → NumText.AllDigits r := fun {r} h c hc => by
    have := List.all_eq_true.mp h c hc
    simpa [isDigit] using this
  unfold csInt at h
  split at h
  · cases h
  · rename_i r
    split at h
    · rename_i hc
      cases h
      have := intText_neg (x := toS (45 :: r)) (cs := r) (toS_list _) (all hc.2) hc.1 (by rw [toS_length]; omega)
      exact this
    · cases h
  · rename_i c r _
    split at h
    · rename_i hc
      cases h
      have := intText_digits (x := toS (c :: r)) (by rw [toS_list]; exact all hc) (by rw [toS_list]; simp) (by rw [toS_length]; omega)
      rw [toS_list] at this
      exact this
    · cases h
theorem sim_int {K : PySem.W.Frag} {mg : Str → Option Value} : SimN K mg (fun xs H Q => ((∃ i, xs = [.int i] ∧ Q (.int i) H) ∨ ∃ k, xs = [.bl k] ∧ Q (.int (if k then 1 else 0)) H) ∨ ∃ a n, xs = [.str a] ∧ PySem.intText? a = some n ∧ a.length ≤ 640 ∧ Q (.int n) H) intP where
  run := fun xs ds H S ι d S' Q r q e h => by
    unfold intP at e
    split at e
    · split at e
      · rename_i hl
        split at e
        · rename_i n e1
          cases e
          obtain ⟨v, rfl, p⟩ := q.one
          cases p
          exact .inr ⟨_, n, rfl, csInt_text e1 hl, by rw [toS_length]; exact hl, h _ H ι .refl r (.int _)⟩
        · cases e
      · cases e
    · cases e
      obtain ⟨v, rfl, p⟩ := q.one
      cases p
      exact .inl (.inl ⟨_, rfl, h _ H ι .refl r (.int _)⟩)
    · cases e
      obtain ⟨v, rfl, p⟩ := q.one
      cases p
      exact .inl (.inr ⟨_, rfl, h _ H ι .refl r (.int _)⟩)
    · cases e
  nox := fun ds S x S' z => by
    unfold intP at z
    repeat (first | cases z | exact ite_exc z | split at z)
theorem se_intP (hg : Gl X "int") (hm : X.mg "int" = none) (ha : SA X W [e] [m]) (he : starEach [e] X.env = (false, eval e X.env) :: starEach [] X.env := by rfl) : SE X W (.Call (.Name "int" p) [e] [] pos) (callM intP [m]) :=
  se_callTy (call_int1.or call_int_str) sim_int hg hm boot_int ha (he := he)
theorem intCs_toS (i : Int) : Str.ofString (toString i) = toS (intCs i) := by
  rw [Str.ofString_eq_toList]
  unfold toS intCs natCs
  congr 1
  cases i with
  | ofNat n =>
    have h : ¬ (Int.ofNat n < 0) := by simp
    rw [if_neg h]
    have : (toString (Int.ofNat n)).toList = Nat.toDigits 10 n := by
      show (toString n).toList = _
      rw [Nat.toString_eq_repr, Nat.repr]; simp
    rw [this]; rfl
  | negSucc n =>
    have h : Int.negSucc n < 0 := Int.negSucc_lt_zero n
    rw [if_pos h]
    have : (toString (Int.negSucc n)).toList = '-' :: Nat.toDigits 10 (n + 1) := by
      show ("-" ++ toString (n + 1)).toList = _
      rw [String.toList_append, Nat.toString_eq_repr, Nat.repr]; simp
    rw [this]; rfl
theorem log_small {n : Nat} (h : n < 2 ^ 1900) : n.log2 < 1920 := by
  by_cases h0 : n = 0
  · subst h0; decide
  · have := (Nat.log2_lt h0).mpr h
    omega
theorem sim_str {K : PySem.W.Frag} {mg : Str → Option Value} : SimN K mg (fun xs H Q => ∃ i, xs = [.int i] ∧ i.natAbs.log2 < 1920 ∧ Q (.str (toString i)) H) strP where
  run := fun xs ds H S ι d S' Q r q e h => by
    unfold strP at e
    split at e
    · rename_i i
      obtain ⟨hl, rfl, rfl⟩ := ite_ok e
      obtain ⟨v, rfl, p⟩ := q.one
      cases p
      refine ⟨_, rfl, log_small hl, ?_⟩
      show Q (.str (Str.ofString (toString i))) H
      rw [intCs_toS]
      exact h _ H ι .refl r (.str _)
    · cases e
  nox := fun ds S x S' z => by
    unfold strP at z
    repeat (first | cases z | exact ite_exc z | split at z)
theorem se_str' (hg : Gl X "str") (hm : X.mg "str" = none) (ha : SA X W [e] [m]) (he : starEach [e] X.env = (false, eval e X.env) :: starEach [] X.env := by rfl) : SE X W (.Call (.Name "str" p) [e] [] pos) (callM strP [m]) :=
  se_callTy call_str_int sim_str hg hm (by decide +kernel) ha (he := he)
theorem sim_list {K : PySem.W.Frag} {mg : Str → Option Value} : SimN K mg (fun xs H Q => ∃ p ys, xs = [.ref p] ∧ (SqL K H p ys ∨ SqT K H p ys) ∧ ∀ l, H l = none → Q (.ref l) (upd H l (.lst ys))) listP where
  run := fun xs ds H S ι d S' Q r q e h => by
    unfold listP at e
    split at e
    · obtain ⟨v, rfl, p⟩ := q.one
      obtain ⟨a, rfl, ha⟩ := p.ref_inv
      split at e
      · rename_i ys e1
        cases e
        obtain ⟨vs, h1, h2⟩ := r.lstAt ha e1
        refine ⟨a, vs, rfl, .inl h1, fun l hl => ?_⟩
        obtain ⟨g, r', q'⟩ := r.newL hl h2
        exact h _ _ _ g r' q'
      · cases e
    · cases e
      obtain ⟨v, rfl, p⟩ := q.one
      obtain ⟨a, vs, rfl, h1, _, h2⟩ := p.tup_inv
      refine ⟨a, vs, rfl, .inr h1, fun l hl => ?_⟩
      obtain ⟨g, r', q'⟩ := r.newL hl h2
      exact h _ _ _ g r' q'
    · cases e
      obtain ⟨v, rfl, p⟩ := q.one
      obtain ⟨a, vs, rfl, h1, _, h2⟩ := p.lit_inv
      refine ⟨a, vs, rfl, .inl h1, fun l hl => ?_⟩
      obtain ⟨g, r', q'⟩ := r.newL hl h2
      exact h _ _ _ g r' q'
    · cases e
  nox := fun ds S x S' z => by
    unfold listP at z
    repeat (first | cases z | exact ite_exc z | split at z)
theorem se_list (hg : Gl X "list") (hm : X.mg "list" = none) (ha : SA X W [e] [m]) (he : starEach [e] X.env = (false, eval e X.env) :: starEach [] X.env := by rfl) : SE X W (.Call (.Name "list" p) [e] [] pos) (callM listP [m]) :=
  se_callTy call_list_of sim_list hg hm boot_list ha (he := he)
theorem SqL.len {K : PySem.W.Frag} {H : Hp} {a : Addr} {xs : List V} : True := trivial
/-- tuple(list): the model's own bound on lengths is asked -/
theorem call_tuple_ofL : CallR X (.type "tuple") (fun xs H Q => ∃ p ys, xs = [.ref p] ∧ ((SqL X.K H p ys ∧ (ys.length ≤ sizeLine → ∀ l, H l = none → Q (.ref l) (upd H l (.tup ys)))) ∨ (SqT X.K H p ys ∧ Q (.ref p) H))) := by
  intro pins s σ H xs us Q I r h
  obtain ⟨p, ys, rfl, h⟩ := h
  rcases h with ⟨h1, h2⟩ | h
  · obtain ⟨_, _, _, hz⟩ := I.list h1
    exact call_tuple_of pins s σ H _ us Q I r ⟨p, ys, rfl, .inl ⟨h1, h2 hz⟩⟩
  · exact call_tuple_of pins s σ H _ us Q I r ⟨p, ys, rfl, .inr h⟩
theorem sim_tuple {K : PySem.W.Frag} {mg : Str → Option Value} : SimN K mg (fun xs H Q => ∃ p ys, xs = [.ref p] ∧ ((SqL K H p ys ∧ (ys.length ≤ sizeLine → ∀ l, H l = none → Q (.ref l) (upd H l (.tup ys)))) ∨ (SqT K H p ys ∧ Q (.ref p) H))) tupleP where
  run := fun xs ds H S ι d S' Q r q e h => by
    unfold tupleP at e
    split at e
    · obtain ⟨v, rfl, p⟩ := q.one
      obtain ⟨a, rfl, ha⟩ := p.ref_inv
      split at e
      · rename_i ys e1
        cases e
        obtain ⟨vs, h1, h2⟩ := r.lstAt ha e1
        refine ⟨a, vs, rfl, .inl ⟨h1, fun hz l hl => ?_⟩⟩
        obtain ⟨g, r', q'⟩ := r.mkT hl hz h2
        exact h _ _ _ g r' q'
      · cases e
    · cases e
      obtain ⟨v, rfl, p⟩ := q.one
      obtain ⟨a, vs, rfl, h1, h2, h3⟩ := p.tup_inv
      exact ⟨a, vs, rfl, .inr ⟨h1, h _ H ι .refl r (.tup h1 h2 h3)⟩⟩
    · cases e
  nox := fun ds S x S' z => by
    unfold tupleP at z
    repeat (first | cases z | exact ite_exc z | split at z)
theorem se_tuple (hg : Gl X "tuple") (hm : X.mg "tuple" = none) (ha : SA X W [e] [m]) (he : starEach [e] X.env = (false, eval e X.env) :: starEach [] X.env := by rfl) : SE X W (.Call (.Name "tuple" p) [e] [] pos) (callM tupleP [m]) :=
  se_callTy call_tuple_ofL sim_tuple hg hm boot_tuple ha (he := he)

/-! ### methods of built-in types -/
structure SimM (K : PySem.W.Frag) (mg : Str → Option Value) (r : V → List V → Hp → VK → Prop) (f : FM) : Prop where
  run : ∀ (x : V) (xs : List V) (dx : D) (ds : List D) (H : Hp) (S : Store) (ι : List Addr) (d : D) (S' : Store) (Q : VK), RS K mg H ι S → Rp K mg H ι x dx → Rps K mg H ι xs ds → f (dx :: ds) S = .ok d S' →
    (∀ v H' ι', Grow K H ι H' ι' → RS K mg H' ι' S' → Rp K mg H' ι' v d → Q v H') → r x xs H Q
  nox : ∀ ds S e S', f ds S ≠ .exc e S'
theorem tyV_of {K : PySem.W.Frag} {mg : Str → Option Value} {H : Hp} {ι : List Addr} {S : Store} {v : V} {d : D} {T : String} (r : RS K mg H ι S) (p : Rp K mg H ι v d) (e : tyN d S = some T) (hT : T = "list" ∨ T = "str") : tyV K T v H := by
  cases d with
  | str x => cases p; cases e; rfl
  | ref n =>
    obtain ⟨a, rfl, ha⟩ := p.ref_inv
    unfold tyN at e
    simp only at e
    split at e
    · rename_i xs e1; cases e
      obtain ⟨vs, h1, _⟩ := r.lst ha e1
      exact .inl ⟨rfl, vs, .inl (.inl h1)⟩
    · cases e
      rcases hT with h | h <;> exact absurd h (by decide)
    · cases e
  | lit xs =>
    obtain ⟨a, vs, rfl, h1, _, _⟩ := p.lit_inv
    cases e
    exact .inl ⟨rfl, vs, h1⟩
  | _ => cases e <;> (rcases hT with h | h <;> exact absurd h (by decide))
theorem meth_run {K : PySem.W.Frag} {mg : Str → Option Value} {σ : L2.St} {H : Hp} {Q : VK} {r : V → List V → Hp → VK → Prop} (s : SimM K mg r f) (hT : T = "list" ∨ T = "str") (h : cE K mg W (methM T f m ms) σ H Q) : tBM K T r (cE K mg W m) (cA K mg W (argsM ms)) σ H Q := by
  obtain ⟨δ, S, ι, rl, h⟩ := h
  refine ⟨δ, S, ι, rl, ?_⟩
  have h : PostE K mg W σ H ι ((m δ S).bind fun d S1 => if tyN d S1 = some T then (argsM ms δ S1).bind fun ds S2 => f (d :: ds) S2 else .stuck) Q := h
  refine PostE.seq h fun v H1 ι1 d S1 _ g1 r1 p1 h1 => ?_
  split at h1
  · rename_i ht
    refine ⟨tyV_of r1 p1 ht hT, δ, S1, ι1, rl.mono g1 r1, PostA.seq h1 fun vs H2 ι2 ds S2 _ g2 r2 q2 h2 => ?_⟩
    cases e : f (d :: ds) S2 with
    | stuck => rw [e] at h2; exact h2.elim
    | exc y S3 => exact (s.nox _ _ _ _ e).elim
    | ok z S3 => rw [e] at h2; exact s.run v vs d ds H2 S2 ι2 z S3 Q r2 (p1.mono g2) q2 e h2
  · exact h1.elim
theorem meth_run0 {K : PySem.W.Frag} {mg : Str → Option Value} {σ : L2.St} {H : Hp} {Q : VK} {r : V → List V → Hp → VK → Prop} (s : SimM K mg r f) (hT : T = "list" ∨ T = "str") (h : cE K mg W (methM T f m []) σ H Q) : tBM0 K T r (cE K mg W m) σ H Q := by
  obtain ⟨δ, S, ι, rl, h⟩ := meth_run s hT h
  refine ⟨δ, S, ι, rl, PostE.imp h fun v H' q => ⟨q.1, ?_⟩⟩
  obtain ⟨δ', S', ι', rl', q'⟩ := q.2
  exact q' [] H' ι' .refl rl'.sto .nil
/-- o.name(e, ..), o.name(): a method of a built-in type -/
theorem se_bm {name : Str} {apos : Pos} {r : V → List V → Hp → VK → Prop} (pa : PlainAttrs T) (slot : Slot T name id) (hty : typeOf (.builtin id) = pure (.type "method_descriptor")) (hm : MtR X id r) (s : SimM X.K X.mg r f) (hT : T = "list" ∨ T = "str") (ho : SE X W o m) (ha : SA X W (e :: es) ms)
    (hbase : attributeBase o name X.env (eval o X.env) = eval o X.env := by rfl)
    (hfew : ((backTo pos (starEach (e :: es) X.env)).all (fun x => !x.1) && (backToKw pos (keywordEach [] X.env)).all (fun x => x.1.isSome)
      && decide ((e :: es).length + ([] : List Keyword).length + (if ([] : List Keyword).isEmpty then 0 else 1) < 30)) = true := by rfl)
    (hline : (apos.endLine == pos.line) = true := by rfl) (hs : starEach (e :: es) X.env = (false, eval e X.env) :: starEach es X.env := by rfl) (hplain : (backTo pos (starEach es X.env)).any (·.1) = false := by rfl) :
    SE X W (.Call (.Attribute o name apos) (e :: es) [] pos) (methM T f m ms) :=
  pe_imp (pe_bm pa slot hty hm ho ha hbase hfew hline hs hplain) fun _ _ _ h => meth_run s hT h
theorem se_bm0 {name : Str} {apos : Pos} {r : V → List V → Hp → VK → Prop} (pa : PlainAttrs T) (slot : Slot T name id) (hty : typeOf (.builtin id) = pure (.type "method_descriptor")) (hm : MtR X id r) (s : SimM X.K X.mg r f) (hT : T = "list" ∨ T = "str") (ho : SE X W o m)
    (hbase : attributeBase o name X.env (eval o X.env) = eval o X.env := by rfl) (hline : (apos.endLine == pos.line) = true := by rfl) :
    SE X W (.Call (.Attribute o name apos) [] [] pos) (methM T f m []) :=
  pe_imp (pe_bm0 pa slot hty hm ho hbase hline) fun _ _ _ h => meth_run0 s hT h
theorem sim_append {K : PySem.W.Frag} {mg : Str → Option Value} : SimM K mg rAppend appendP where
  run := fun x xs dx ds H S ι d S' Q r px q e h => by
    unfold appendP at e
    split at e
    · rename_i n z e0
      cases e0
      split at e
      · rename_i ys e1
        obtain ⟨hl, rfl, rfl⟩ := ite_ok e
        obtain ⟨v, rfl, p⟩ := q.one
        obtain ⟨a, rfl, ha⟩ := px.ref_inv
        obtain ⟨vs, h1, h2⟩ := r.lst ha e1
        obtain ⟨g, r'⟩ := r.put ha h1 (h2.append (.cons p .nil))
        exact ⟨a, vs, v, rfl, rfl, h1, by rw [h2.length, ← LIM_eq]; exact hl, h _ _ ι g r' .non⟩
      · cases e
    · cases e
  nox := fun ds S x S' z => by
    unfold appendP at z
    repeat (first | cases z | exact ite_exc z | split at z)
theorem sim_insert {K : PySem.W.Frag} {mg : Str → Option Value} : SimM K mg (fun x vs H Q => ∃ (l : Addr) (xs : List V) (i : Int) (y : V), x = .ref l ∧ vs = [.int i, y] ∧ H l = some (.lst xs) ∧ xs.length < sizeLine ∧ 0 ≤ i ∧ i < 2 ^ 63 ∧
    Q .non (upd H l (.lst (xs.take i.toNat ++ [y] ++ xs.drop i.toNat)))) insertP where
  run := fun x xs dx ds H S ι d S' Q r px q e h => by
    unfold insertP at e
    split at e
    · rename_i n i z e0
      cases e0
      split at e
      · rename_i ys e1
        obtain ⟨⟨hl, h0, hi⟩, rfl, rfl⟩ := ite_ok e
        obtain ⟨v, u, rfl, p, p'⟩ := q.two
        cases p
        obtain ⟨a, rfl, ha⟩ := px.ref_inv
        obtain ⟨vs, h1, h2⟩ := r.lst ha e1
        obtain ⟨g, r'⟩ := r.put ha h1 (((h2.take i.toNat).append (.cons p' .nil)).append (h2.drop i.toNat))
        exact ⟨a, vs, i, u, rfl, rfl, h1, by rw [h2.length, ← LIM_eq]; exact hl, h0, by omega, h _ _ ι g r' .non⟩
      · cases e
    · cases e
  nox := fun ds S x S' z => by
    unfold insertP at z
    repeat (first | cases z | exact ite_exc z | split at z)
theorem sim_pop {K : PySem.W.Frag} {mg : Str → Option Value} : SimM K mg rPop popP where
  run := fun x xs dx ds H S ι d S' Q r px q e h => by
    unfold popP at e
    split at e
    · rename_i n e0
      cases e0
      cases q
      split at e
      · rename_i ys e1
        split at e
        · rename_i z e2
          cases e
          obtain ⟨a, rfl, ha⟩ := px.ref_inv
          obtain ⟨vs, h1, h2⟩ := r.lst ha e1
          obtain ⟨v, q1, q2⟩ := h2.get e2
          obtain ⟨g, r'⟩ := r.put ha h1 h2.dropLast
          exact ⟨a, vs, v, rfl, rfl, h1, by rw [h2.length]; exact q1, h _ _ ι g r' (q2.mono g)⟩
        · cases e
      · cases e
    · cases e
  nox := fun ds S x S' z => by
    unfold popP at z
    repeat (first | cases z | exact ite_exc z | split at z)
theorem sim_reverse {K : PySem.W.Frag} {mg : Str → Option Value} : SimM K mg rReverse reverseP where
  run := fun x xs dx ds H S ι d S' Q r px q e h => by
    unfold reverseP at e
    split at e
    · rename_i n e0
      cases e0
      cases q
      split at e
      · rename_i ys e1
        cases e
        obtain ⟨a, rfl, ha⟩ := px.ref_inv
        obtain ⟨vs, h1, h2⟩ := r.lst ha e1
        obtain ⟨g, r'⟩ := r.put ha h1 h2.reverse
        exact ⟨a, vs, rfl, rfl, h1, h _ _ ι g r' .non⟩
      · cases e
    · cases e
  nox := fun ds S x S' z => by
    unfold reverseP at z
    repeat (first | cases z | exact ite_exc z | split at z)
end
end Dl

end

section
set_option linter.all false
set_option Elab.async false
set_option maxRecDepth 100000
set_option Elab.async false
set_option linter.all false
set_option maxRecDepth 100000
set_option maxHeartbeats 4000000
namespace Dl
open PySem PySem.Spec PyProof.Rows L2

def tyNames : List String := ["NoneType", "bool", "int", "str", "tuple", "list", "dict"]
def tyAsk : List String := ["bool", "int", "str", "tuple", "list", "dict"]
theorem kit_table : ∀ t ∈ tyNames, ∀ T ∈ tyAsk, kitB t T = some (isTy t T) := by decide +kernel
theorem tyN_mem {d : D} {S : Store} {t : String} (h : tyN d S = some t) : t ∈ tyNames := by
  unfold tyN at h
  split at h <;> first
    | (cases h; decide)
    | (split at h <;> first | (cases h; decide) | cases h)
    | cases h
section
variable {X : Cx} {W : WX} {e o a b c elt tge iter : Expr} {es ifs : List Expr} {m m' : EM} {ms : List EM} {p pos apos : Pos} {k n lv : Nat} {x : Str} {f : FM} {id T : String} {r : List V → Hp → VK → Prop}
theorem tyX_of {K : PySem.W.Frag} {mg : Str → Option Value} {H : Hp} {ι : List Addr} {S : Store} {v : V} {d : D} {t : String} (r : RS K mg H ι S) (p : Rp K mg H ι v d) (h : tyN d S = some t) : TyX K H v (.type t) := by
  cases d with
  | non => cases p; cases h; exact .base .non
  | bl b => cases p; cases h; exact .base (.bl b)
  | int b => cases p; cases h; exact .base (.int b)
  | str b => cases p; cases h; exact .base (.str _)
  | tup xs =>
    obtain ⟨a, vs, rfl, h1, _, _⟩ := p.tup_inv
    cases h
    rcases h1 with (h1 | ⟨u, h1⟩) | ⟨o, its, nn, h1, h2, _⟩
    · exact .base (.tup h1)
    · exact .fTuple h1
    · exact .kTuple h1 h2
  | ref n =>
    obtain ⟨a, rfl, ha⟩ := p.ref_inv
    unfold tyN at h
    simp only at h
    split at h
    · rename_i xs e1; cases h
      obtain ⟨vs, h1, _⟩ := r.lst ha e1
      exact .base (.lst h1)
    · rename_i xs e1; cases h
      obtain ⟨vs, h1, _⟩ := r.at_ n _ a e1 ha
      exact .base (.dK h1)
    · cases h
  | fn x => cases h
  | lit xs =>
    cases h
    cases p with
    | lit h1 _ _ =>
    rcases h1 with ⟨o, h1⟩ | ((h1 | ⟨_, h1⟩) | ⟨o, its, nn, h1, h2, _⟩)
    · exact .base (.frz h1)
    · cases h1
    · cases h1
    · exact .kList h1 h2
theorem isP_inv {Ts : List String} {d z : D} {S S' : Store} (e : isP Ts [d] S = .ok z S') : ∃ t, tyN d S = some t ∧ z = .bl (Ts.any fun T => isTy t T) ∧ S' = S := by
  unfold isP at e
  simp only at e
  split at e
  · rename_i t ht; cases e; exact ⟨t, ht, rfl, rfl⟩
  · cases e
theorem isP_nox {Ts : List String} (ds : List D) (S : Store) (x : Exc) (S' : Store) : isP Ts ds S ≠ .exc x S' := fun z => by
  unfold isP at z
  repeat (first | cases z | split at z)
theorem se_is (T : String) {xT : Str} (hT : T ∈ tyAsk) (hg : Gl X "isinstance") (hm : X.mg "isinstance" = none) (hgT : Gl X xT) (hmT : X.mg xT = none) (hv : bootBuiltins xT = some (.type T)) (ha : SE X W e m) {pT : Pos}
    (hn : xT ≠ "__name__" := by decide) (hd : (xT == ("__debug__" : Str)) = false := by decide)
    (he : starEach [e, .Name xT pT] X.env = (false, eval e X.env) :: starEach [.Name xT pT] X.env := by rfl) (he2 : starEach [.Name xT pT] X.env = (false, eval (.Name xT pT) X.env) :: starEach [] X.env := by rfl) (hpl : (backTo pos (starEach [.Name xT pT] X.env)).any (·.1) = false := by rfl) :
    SE X W (.Call (.Name "isinstance" p) [e, .Name xT pT] [] pos) (callM (isP [T]) [m]) := by
  refine pe_imp (pe_callB call_isi hg hm (by decide +kernel) (pa_cons ha (pa_cons (pe_bltn (v := .ty T) hgT hmT hv rfl hn hd) pa_nil (hs := he2)) (hs := he)) (he := he) (hpl := hpl)) fun σ H Q h => ?_
  refine call1 h (fun v H Q => rIsi X.K [v, .ty T] H Q) fun v d H ι S Q r p h => ?_
  cases e1 : isP [T] [d] S with
  | stuck => rw [e1] at h; exact h.elim
  | exc y S1 => exact (isP_nox _ _ _ _ e1).elim
  | ok z S1 =>
    rw [e1] at h
    obtain ⟨t, ht, rfl, rfl⟩ := isP_inv e1
    have hk := kit_table t (tyN_mem ht) T hT
    refine ⟨v, .ty T, .type t, .type T, isTy t T, rfl, .ty T, tyX_of r p ht, kit_ty hk, ?_⟩
    have := h (.bl (isTy t T)) H ι .refl r
    simp only [List.any_cons, List.any_nil, Bool.or_false] at this
    exact this (.bl _)
/-- isinstance(e, (T, U)) -/
theorem se_is2 (T U : String) {xT xU : Str} (hT : T ∈ tyAsk) (hU : U ∈ tyAsk) (hg : Gl X "isinstance") (hm : X.mg "isinstance" = none) (hgT : Gl X xT) (hmT : X.mg xT = none) (hv : bootBuiltins xT = some (.type T)) (hgU : Gl X xU) (hmU : X.mg xU = none) (hvU : bootBuiltins xU = some (.type U)) (ha : SE X W e m) {pT pU pos2 : Pos} {kk}
    (hn : xT ≠ "__name__" := by decide) (hd : (xT == ("__debug__" : Str)) = false := by decide) (hnU : xU ≠ "__name__" := by decide) (hdU : (xU == ("__debug__" : Str)) = false := by decide)
    (he : starEach [e, .Tuple [.Name xT pT, .Name xU pU] kk pos2] X.env = (false, eval e X.env) :: starEach [.Tuple [.Name xT pT, .Name xU pU] kk pos2] X.env := by rfl)
    (he2 : starEach [.Tuple [.Name xT pT, .Name xU pU] kk pos2] X.env = (false, eval (.Tuple [.Name xT pT, .Name xU pU] kk pos2) X.env) :: starEach [] X.env := by rfl)
    (he3 : starEach [.Name xT pT, .Name xU pU] X.env = (false, eval (.Name xT pT) X.env) :: starEach [.Name xU pU] X.env := by rfl)
    (he4 : starEach [.Name xU pU] X.env = (false, eval (.Name xU pU) X.env) :: starEach [] X.env := by rfl)
    (hpl : (backTo pos (starEach [.Tuple [.Name xT pT, .Name xU pU] kk pos2] X.env)).any (·.1) = false := by rfl) :
    SE X W (.Call (.Name "isinstance" p) [e, .Tuple [.Name xT pT, .Name xU pU] kk pos2] [] pos) (callM (isP [T, U]) [m]) := by
  refine pe_imp (pe_callB call_isiT hg hm (by decide +kernel) (pa_cons ha (pa_cons (pe_tup (pa_cons (pe_bltn (v := .ty T) hgT hmT hv rfl hn hd) (pa_cons (pe_bltn (v := .ty U) hgU hmU hvU rfl hnU hdU) pa_nil (hs := he4)) (hs := he3))) pa_nil (hs := he2)) (hs := he)) (he := he) (hpl := hpl)) fun σ H Q h => ?_
  refine call1 h (fun v H Q => [V.ty T, V.ty U].length ≤ sizeLine ∧ ∀ pp, H pp = none → rIsiT X.K [v, .ref pp] (upd H pp (.tup [.ty T, .ty U])) Q) fun v d H ι S Q r p h => ?_
  cases e1 : isP [T, U] [d] S with
  | stuck => rw [e1] at h; exact h.elim
  | exc y S1 => exact (isP_nox _ _ _ _ e1).elim
  | ok z S1 =>
    rw [e1] at h
    obtain ⟨t, ht, rfl, rfl⟩ := isP_inv e1
    have hk := kit_table t (tyN_mem ht) T hT
    have hk2 := kit_table t (tyN_mem ht) U hU
    refine ⟨by show 2 ≤ sizeLine; decide, fun pp hp => ?_⟩
    have g : Grow X.K H ι (upd H pp (.tup [.ty T, .ty U])) ι := Grow.new hp
    refine ⟨v, pp, [.ty T, .ty U], .type t, [.type T, .type U], isTy t T || isTy t U, rfl, upd_same, .cons (.ty T) (.cons (.ty U) .nil), tyX_of (r.new hp) (p.mono g) ht, ?_, ?_⟩
    · refine kitAny_cons (kit_ty hk) (fun hb => kitAny_cons (r := isTy t T || isTy t U) (kit_ty hk2) (fun hb2 => ?_) fun hb2 => ?_) fun hb => by rw [hb]; rfl
      · rw [hb, hb2]; rfl
      · rw [hb, hb2]; rfl
    · have := h (.bl (isTy t T || isTy t U)) _ ι g (r.new hp)
      simp only [List.any_cons, List.any_nil, Bool.or_false] at this
      exact this (.bl _)

/-! ### texts, sorted, max -/
theorem strsOf_map : ∀ {ds : List D} {xs : List Cs}, strsOf ds = some xs → ds = xs.map D.str
  | [], _, h => by cases h; rfl
  | .str x :: r, _, h => by
    unfold strsOf at h
    cases e : strsOf r with
    | none => rw [e] at h; cases h
    | some ys => rw [e] at h; cases h; rw [strsOf_map e]; rfl
  | .non :: _, _, h => by cases h
  | .bl _ :: _, _, h => by cases h
  | .int _ :: _, _, h => by cases h
  | .tup _ :: _, _, h => by cases h
  | .ref _ :: _, _, h => by cases h
  | .fn _ :: _, _, h => by cases h
  | .lit _ :: _, _, h => by cases h
theorem intsOf_map : ∀ {ds : List D} {xs : List Int}, intsOf ds = some xs → ds = xs.map D.int
  | [], _, h => by cases h; rfl
  | .int x :: r, _, h => by
    unfold intsOf at h
    cases e : intsOf r with
    | none => rw [e] at h; cases h
    | some ys => rw [e] at h; cases h; rw [intsOf_map e]; rfl
  | .non :: _, _, h => by cases h
  | .bl _ :: _, _, h => by cases h
  | .str _ :: _, _, h => by cases h
  | .tup _ :: _, _, h => by cases h
  | .ref _ :: _, _, h => by cases h
  | .fn _ :: _, _, h => by cases h
  | .lit _ :: _, _, h => by cases h
theorem Rps.strs {K : PySem.W.Frag} {mg : Str → Option Value} {H : Hp} {ι : List Addr} : ∀ {xs : List Cs} {vs : List V}, Rps K mg H ι vs (xs.map D.str) → vs = (xs.map toS).map V.str
  | [], _, h => by cases h; rfl
  | x :: xs, _, h => by
    cases h with
    | cons h1 h2 => cases h1; rw [Rps.strs h2]; rfl
theorem Rps.ofStrs {K : PySem.W.Frag} {mg : Str → Option Value} {H : Hp} {ι : List Addr} : ∀ {xs : List Cs}, Rps K mg H ι ((xs.map toS).map V.str) (xs.map D.str)
  | [] => .nil
  | x :: xs => .cons (.str x) Rps.ofStrs
theorem Rps.ints {K : PySem.W.Frag} {mg : Str → Option Value} {H : Hp} {ι : List Addr} : ∀ {xs : List Int} {vs : List V}, Rps K mg H ι vs (xs.map D.int) → vs = xs.map V.int
  | [], _, h => by cases h; rfl
  | x :: xs, _, h => by
    cases h with
    | cons h1 h2 => cases h1; rw [Rps.ints h2]; rfl
theorem join_toS (sep : Cs) : ∀ ys : List Cs, Txt.join (toS sep) (ys.map toS) = toS (joinCs sep ys) := by
  have key : ∀ (r : List Cs) (acc : Cs), (r.map toS).foldl (fun acc p => acc ++ (toS sep).cps ++ p.cps) acc.toArray = (acc ++ (r.map fun y => sep ++ y).flatten).toArray := by
    intro r
    induction r with
    | nil => intro acc; simp
    | cons y r ih =>
      intro acc
      rw [List.map_cons, List.foldl_cons]
      have : acc.toArray ++ (toS sep).cps ++ (toS y).cps = (acc ++ sep ++ y).toArray := by simp [toS]
      rw [this, ih]
      simp
  have j2 : ∀ (r : List Cs) (x : Cs), joinCs sep (x :: r) = x ++ (r.map fun y => sep ++ y).flatten := by
    intro r
    induction r with
    | nil => intro x; simp [joinCs]
    | cons y r ih => intro x; rw [joinCs, ih]; simp
  intro ys
  cases ys with
  | nil => rfl
  | cons x r =>
    show Str.mk _ = _
    rw [j2]
    have := key r x
    simp only [List.map_cons, List.drop_succ_cons, List.drop_zero, List.headD_cons]
    show Str.mk (List.foldl _ (toS x).cps _) = _
    rw [show (toS x).cps = x.toArray from rfl, this]; rfl
theorem sim_join {K : PySem.W.Frag} {mg : Str → Option Value} : SimM K mg (fun x xs H Q => ∃ a p, ∃ ys : List Str, x = .str a ∧ xs = [.ref p] ∧ (SqL K H p (ys.map V.str) ∨ SqT K H p (ys.map V.str)) ∧
    (ys.map (·.length)).sum + ys.length * a.length ≤ 16777216 ∧ Q (.str (Txt.join a ys)) H) joinP where
  run := fun x xs dx ds H S ι d S' Q r px q e h => by
    unfold joinP at e
    split at e
    · rename_i sep z e0
      cases e0
      cases px
      obtain ⟨v, rfl, p⟩ := q.one
      split at e
      · rename_i ys e1
        split at e
        · rename_i zs e2
          obtain ⟨hl, rfl, rfl⟩ := ite_ok e
          have := strsOf_map e2
          subst this
          have hlen : ((zs.map toS).map (·.length)).sum + (zs.map toS).length * (toS sep).length ≤ 16777216 := by
            rw [List.map_map, List.length_map, toS_length]
            have : ((fun x : Str => x.length) ∘ toS) = List.length := by funext c; exact toS_length c
            rw [this]; exact hl
          have hq := h (.str (toS (joinCs sep zs))) H ι .refl r (.str _)
          rw [← join_toS] at hq
          cases z with
          | ref n =>
            obtain ⟨a, rfl, ha⟩ := p.ref_inv
            obtain ⟨vs, h1, h2⟩ := r.lstAt ha e1
            have := h2.strs
            subst this
            exact ⟨_, a, zs.map toS, rfl, rfl, .inl h1, hlen, hq⟩
          | tup xs =>
            cases e1
            obtain ⟨a, vs, rfl, h1, _, h2⟩ := p.tup_inv
            have := h2.strs
            subst this
            exact ⟨_, a, zs.map toS, rfl, rfl, .inr h1, hlen, hq⟩
          | _ => cases e1
        · cases e
      · cases e
    · cases e
  nox := fun ds S x S' z => by
    unfold joinP at z
    repeat (first | cases z | exact ite_exc z | split at z)
theorem se_join {apos : Pos} (ho : SE X W o m) (he : SE X W e m') (hs : starEach [e] X.env = [(false, eval e X.env)] := by rfl) (hbase : attributeBase o "join" X.env (eval o X.env) = eval o X.env := by rfl) (hline : (apos.endLine == pos.line) = true := by rfl) :
    SE X W (.Call (.Attribute o "join" apos) [e] [] pos) (methM "str" joinP m [m']) :=
  pe_imp (pe_join ho he hs hbase hline) fun σ H Q h => by
    obtain ⟨δ, S, ι, rl, h⟩ := h
    refine ⟨δ, S, ι, rl, ?_⟩
    have h : PostE X.K X.mg W σ H ι ((m δ S).bind fun d S1 => if tyN d S1 = some "str" then ((m' δ S1).bind fun d2 S2 => (Res.ok [d2] S2 : Res (List D))).bind fun ds S2 => joinP (d :: ds) S2 else .stuck) Q := h
    refine PostE.seq h fun v H1 ι1 d S1 _ g1 r1 p1 h1 => ?_
    split at h1
    · rename_i ht
      refine ⟨?_, δ, S1, ι1, rl.mono g1 r1, ?_⟩
      · cases d with
        | str x => cases p1; exact ⟨_, rfl⟩
        | ref n =>
          unfold tyN at ht
          simp only at ht
          split at ht <;> first | exact absurd ht (by decide) | cases ht
        | _ => simp [tyN] at ht
      · cases e2 : m' δ S1 with
        | stuck => rw [e2] at h1; exact h1
        | exc y S2 => rw [e2] at h1; exact h1
        | ok d2 S2 =>
          rw [e2] at h1
          intro u H2 ι2 g2 r2 p2
          have h1 : PostE X.K X.mg W σ H1 ι1 (joinP [d, d2] S2) Q := h1
          cases e3 : joinP [d, d2] S2 with
          | stuck => rw [e3] at h1; exact h1.elim
          | exc y S3 => exact (sim_join.nox (K := X.K) (mg := X.mg) _ _ _ _ e3).elim
          | ok z S3 =>
            rw [e3] at h1
            exact sim_join.run v [u] d [d2] H2 S2 ι2 z S3 Q r2 (p1.mono g2) (.cons p2 .nil) e3 (PostE.back g2 h1)
    · exact h1.elim

/-! sorted of texts -/
theorem csLe_trans {a b c : Cs} (h1 : csLe a b = true) (h2 : csLe b c = true) : csLe a c = true := by
  simp only [csLe, Bool.not_eq_true', decide_eq_false_iff_not, List.not_lt] at *
  exact List.le_trans h1 h2
theorem csLe_antisymm {a b : Cs} (h1 : csLe a b = true) (h2 : csLe b a = true) : a = b := by
  simp only [csLe, Bool.not_eq_true', decide_eq_false_iff_not, List.not_lt] at *
  exact List.le_antisymm h1 h2
theorem csLe_total (a b : Cs) : (csLe a b || csLe b a) = true := by
  simp only [csLe, Bool.or_eq_true, Bool.not_eq_true', decide_eq_false_iff_not, List.not_lt]
  exact List.le_total a b
theorem risingS_pair : ∀ {r : List Str} {p : Str}, risingS p r = true → ((p :: r).map fun z => z.cps.toList).Pairwise (fun a b => csLe a b = true)
  | [], p, _ => by simp
  | x :: r, p, h => by
    have h : (!ltCps x.cps.toList p.cps.toList && risingS x r) = true := h
    rw [Bool.and_eq_true, ltCps_eq] at h
    have ih := risingS_pair h.2
    rw [List.map_cons, List.pairwise_cons]
    refine ⟨fun z hz => ?_, ih⟩
    rw [List.map_cons] at hz ih
    rcases List.mem_cons.mp hz with rfl | hz
    · exact h.1
    · exact csLe_trans h.1 ((List.pairwise_cons.mp ih).1 z hz)
theorem sortedS_unique {ys : List Str} {xs : List Cs} (hp : ys.Perm (xs.map toS)) (hs : sortedS ys = true) : ys = (xs.mergeSort csLe).map toS := by
  have h1 : (ys.map fun z => z.cps.toList).Pairwise (fun a b => csLe a b = true) := by
    cases ys with
    | nil => simp
    | cons y r => exact risingS_pair hs
  have h2 : (xs.mergeSort csLe).Pairwise (fun a b => csLe a b = true) := List.pairwise_mergeSort (le := csLe) (fun a b c => csLe_trans) csLe_total xs
  have hp2 : (ys.map fun z => z.cps.toList).Perm (xs.mergeSort csLe) := by
    have := hp.map fun z : Str => z.cps.toList
    rw [List.map_map] at this
    have e : ((fun z : Str => z.cps.toList) ∘ toS) = id := by funext c; exact toS_list c
    rw [e, List.map_id] at this
    exact this.trans (List.mergeSort_perm xs csLe).symm
  have e := List.Perm.eq_of_pairwise (le := fun a b => csLe a b = true) (fun a b _ _ => csLe_antisymm) h1 h2 hp2
  rw [← e, List.map_map]
  have : (toS ∘ fun z : Str => z.cps.toList) = id := by funext c; exact toS_of c
  rw [this, List.map_id]
theorem sim_sortedS {K : PySem.W.Frag} {mg : Str → Option Value} : SimN K mg (rSortedS K) sortedSP where
  run := fun xs ds H S ι d S' Q r q e h => by
    unfold sortedSP at e
    split at e
    · obtain ⟨v, rfl, p⟩ := q.one
      obtain ⟨a, rfl, ha⟩ := p.ref_inv
      split at e
      · rename_i ys e1
        split at e
        · rename_i zs e2
          obtain ⟨hl, rfl, rfl⟩ := ite_ok e
          have := strsOf_map e2
          subst this
          obtain ⟨vs, h1, h2⟩ := r.lstAt ha e1
          have := h2.strs
          subst this
          refine ⟨a, zs.map toS, rfl, h1, by rw [List.length_map]; exact hl, fun ws pp hp hs hn => ?_⟩
          rw [sortedS_unique hp hs]
          obtain ⟨g, r', q'⟩ := r.newL hn (Rps.ofStrs (K := K) (mg := mg) (H := H) (ι := ι) (xs := zs.mergeSort csLe))
          exact h _ _ _ g r' q'
        · cases e
      · cases e
    · cases e
  nox := fun ds S x S' z => by
    unfold sortedSP at z
    repeat (first | cases z | exact ite_exc z | split at z)
theorem se_sortedS (hg : Gl X "sorted") (hm : X.mg "sorted" = none) (ha : SA X W [e] [m]) (he : starEach [e] X.env = (false, eval e X.env) :: starEach [] X.env := by rfl) : SE X W (.Call (.Name "sorted" p) [e] [] pos) (callM sortedSP [m]) :=
  se_callB cr_sortedS sim_sortedS hg hm (by decide +kernel) ha (he := he)
theorem maxL_spec : ∀ (r : List Int) (a : Int), maxL a r ∈ a :: r ∧ ∀ y ∈ a :: r, y ≤ maxL a r
  | [], a => by simp [maxL]
  | b :: r, a => by
    unfold maxL
    obtain ⟨h1, h2⟩ := maxL_spec r (if b > a then b else a)
    refine ⟨?_, fun y hy => ?_⟩
    · rcases List.mem_cons.mp h1 with h | h
      · split at h
        · rename_i hb
          rw [if_pos hb, h]; simp
        · rename_i hb
          rw [if_neg hb, h]; simp
      · exact List.mem_cons_of_mem _ (List.mem_cons_of_mem _ h)
    · have h3 := h2 _ List.mem_cons_self
      rcases List.mem_cons.mp hy with rfl | hy
      · split at h3 <;> rename_i hb <;> simp only [hb, if_true, if_false] <;> omega
      · rcases List.mem_cons.mp hy with rfl | hy
        · split at h3 <;> rename_i hb <;> simp only [hb, if_true, if_false] <;> omega
        · exact h2 y (List.mem_cons_of_mem _ hy)
theorem sim_max {K : PySem.W.Frag} {mg : Str → Option Value} : SimN K mg (fun xs H Q => rMax K xs H Q ∨ (∃ i j, xs = [.int i, .int j] ∧ Q (.int (if j > i then j else i)) H)) maxP where
  run := fun xs ds H S ι d S' Q r q e h => by
    unfold maxP at e
    split at e
    · obtain ⟨v, rfl, p⟩ := q.one
      obtain ⟨a, rfl, ha⟩ := p.ref_inv
      split at e
      · rename_i ys e1
        split at e
        · rename_i z zs e2
          cases e
          have := intsOf_map e2
          subst this
          obtain ⟨vs, h1, h2⟩ := r.lstAt ha e1
          have := h2.ints
          subst this
          refine .inl ⟨a, z :: zs, rfl, h1, by simp, fun mm hm hall => ?_⟩
          obtain ⟨k1, k2⟩ := maxL_spec zs z
          have : mm = maxL z zs := Int.le_antisymm (k2 _ hm) (hall _ k1)
          rw [this]
          exact h _ H ι .refl r (.int _)
        · cases e
      · cases e
    · cases e
      obtain ⟨v, u, rfl, p1, p2⟩ := q.two
      cases p1; cases p2
      exact .inr ⟨_, _, rfl, h _ H ι .refl r (.int _)⟩
    · cases e
  nox := fun ds S x S' z => by
    unfold maxP at z
    repeat (first | cases z | exact ite_exc z | split at z)
theorem se_max (hc : X.calm = true) (hg : Gl X "max") (hm : X.mg "max" = none) (ha : SA X W (e :: es) ms) (he : starEach (e :: es) X.env = (false, eval e X.env) :: starEach es X.env := by rfl) (hpl : (backTo pos (starEach es X.env)).any (·.1) = false := by rfl) : SE X W (.Call (.Name "max" p) (e :: es) [] pos) (callM maxP ms) :=
  se_callB ((cr_max hc).or (call_max2 hc)) sim_max hg hm (by decide +kernel) ha (he := he) (hpl := hpl)
theorem sim_abs {K : PySem.W.Frag} {mg : Str → Option Value} : SimN K mg (fun xs H Q => ∃ i, xs = [.int i] ∧ Q (.int (if i < 0 then -i else i)) H) absP where
  run := fun xs ds H S ι d S' Q r q e h => by
    unfold absP at e
    split at e
    · cases e
      obtain ⟨v, rfl, p1⟩ := q.one
      cases p1
      exact ⟨_, rfl, h _ H ι .refl r (.int _)⟩
    · cases e
  nox := fun ds S x S' z => by
    unfold absP at z
    repeat (first | cases z | exact ite_exc z | split at z)
theorem se_abs (hg : Gl X "abs") (hm : X.mg "abs" = none) (ha : SA X W (e :: es) ms) (he : starEach (e :: es) X.env = (false, eval e X.env) :: starEach es X.env := by rfl) (hpl : (backTo pos (starEach es X.env)).any (·.1) = false := by rfl) : SE X W (.Call (.Name "abs" p) (e :: es) [] pos) (callM absP ms) :=
  se_callB call_abs sim_abs hg hm (by decide +kernel) ha (he := he) (hpl := hpl)
theorem sim_min {K : PySem.W.Frag} {mg : Str → Option Value} : SimN K mg (fun xs H Q => ∃ i j, xs = [.int i, .int j] ∧ Q (.int (if j < i then j else i)) H) minP where
  run := fun xs ds H S ι d S' Q r q e h => by
    unfold minP at e
    split at e
    · cases e
      obtain ⟨v, u, rfl, p1, p2⟩ := q.two
      cases p1; cases p2
      exact ⟨_, _, rfl, h _ H ι .refl r (.int _)⟩
    · cases e
  nox := fun ds S x S' z => by
    unfold minP at z
    repeat (first | cases z | exact ite_exc z | split at z)
theorem se_min (hc : X.calm = true) (hg : Gl X "min") (hm : X.mg "min" = none) (ha : SA X W (e :: es) ms) (he : starEach (e :: es) X.env = (false, eval e X.env) :: starEach es X.env := by rfl) (hpl : (backTo pos (starEach es X.env)).any (·.1) = false := by rfl) : SE X W (.Call (.Name "min" p) (e :: es) [] pos) (callM minP ms) :=
  se_callB (call_min2 hc) sim_min hg hm (by decide +kernel) ha (he := he) (hpl := hpl)

/-! ### stores -/
theorem ss_putL (ho : SE X W o m) (hi : SE X W b m') {v : Expr} {mv : EM} (hv : SE X W v mv) (hs : swapsWithSole [.Subscript o b apos] v pos.line X.env = pure false := by rfl) (hw : swappedStores [.Subscript o b apos] v X.env = pure none := by rfl)
    (h1 : (assignEach [.Subscript o b apos] X.env).map (·.2) = [assign (.Subscript o b apos) X.env] := by rfl) (ha : ∀ v, assign (.Subscript o b apos) X.env v = (do
      let ov ← holding [v] (eval o X.env)
      let iv ← holding [v, ov] (eval b X.env)
      standAt apos
      holding [v, ov, iv] (setItem ov iv v)
      release [v, ov, iv] []) := by intro _; rfl) : SS X W (.Assign [.Subscript o b apos] v pos) (exprS (callM putLP [mv, m, m'])) := by
  refine ps_imp (ps_asg hv (pg_sub ho hi set_list ha) hs hw h1) fun D' σ H q => ?_
  obtain ⟨δ, S, ι, r, q⟩ := q
  refine ⟨δ, S, ι, r, ?_⟩
  have q : PostS X.K X.mg W D' H ι (((mv δ S).bind fun d S1 => ((m δ S1).bind fun d2 S2 => ((m' δ S2).bind fun d3 S3 => (Res.ok [d3] S3 : Res (List D))).bind fun ds S4 => .ok (d2 :: ds) S4).bind fun ds S5 => .ok (d :: ds) S5).bind putLP |>.thenS δ fun _ S1 => .ok (.nx δ) S1) := q
  cases e1 : mv δ S with
  | stuck => rw [e1] at q; exact q
  | exc y S1 => rw [e1] at q; exact fun c dx H' ι' g q1 z => q c dx σ H' ι' g (r.mono g q1) z
  | ok d1 S1 =>
    rw [e1] at q
    intro v1 H1 ι1 g1 r1 p1
    refine ⟨δ, S1, ι1, r.mono g1 r1, ?_⟩
    have q := PostS.back g1 q
    cases e2 : m δ S1 with
    | stuck => simp only [Res.bind_ok, e2] at q; exact q
    | exc y S2 => simp only [Res.bind_ok, e2] at q; exact fun c dx H' ι' g q1 z => q c dx σ H' ι' g (r.mono (g1.trans g) q1) z
    | ok d2 S2 =>
      simp only [Res.bind_ok, e2] at q
      intro v2 H2 ι2 g2 r2 p2
      refine ⟨δ, S2, ι2, r.mono (g1.trans g2) r2, ?_⟩
      have q := PostS.back g2 q
      cases e3 : m' δ S2 with
      | stuck => simp only [e3] at q; exact q
      | exc y S3 => simp only [e3] at q; exact fun c dx H' ι' g q1 z => q c dx σ H' ι' g (r.mono ((g1.trans g2).trans g) q1) z
      | ok d3 S3 =>
        simp only [Res.bind_ok, e3] at q
        intro v3 H3 ι3 g3 r3 p3
        have q := PostS.back g3 q
        have p2 := p2.mono g3
        have p1 := p1.mono (g2.trans g3)
        cases e4 : putLP [d1, d2, d3] S3 with
        | stuck => rw [e4] at q; exact q.elim
        | exc y S4 =>
          unfold putLP at e4
          repeat (first | cases e4 | split at e4)
        | ok z S4 =>
          rw [e4] at q
          unfold putLP at e4
          split at e4
          · rename_i v n kk e0
            cases e0
            split at e4
            · rename_i xs e5
              split at e4
              · rename_i j e6
                cases e4
                obtain ⟨a, rfl, hA⟩ := p2.ref_inv
                cases p3
                obtain ⟨vs, h1, h2⟩ := r3.lst hA e5
                obtain ⟨g4, r4⟩ := r3.put hA h1 (h2.set p1 j)
                refine ⟨a, vs, kk, j, rfl, rfl, h1, by rw [h2.length]; exact e6, ?_⟩
                exact q σ _ ι3 g4 (r.mono (((g1.trans g2).trans g3).trans g4) r4)
              · cases e4
            · cases e4
          · cases e4
end
end Dl

end

section
set_option linter.all false
set_option Elab.async false
set_option maxRecDepth 100000
set_option Elab.async false
set_option linter.all false
set_option maxRecDepth 100000
set_option maxHeartbeats 4000000
namespace Dl
open PySem PySem.Spec PyProof.Rows L2

theorem ofString_inj {a b : String} (h : Str.ofString a = Str.ofString b) : a = b := by
  rw [Str.ofString_eq_toList, Str.ofString_eq_toList] at h
  have h1 := congrArg (fun z : Str => z.cps.toList) h
  simp only at h1
  have : a.toList = b.toList := by
    have inj : ∀ (x y : List Char), x.map Char.toNat = y.map Char.toNat → x = y := by
      intro x
      induction x with
      | nil => intro y hy; cases y <;> simp_all
      | cons c x ih =>
        intro y hy
        cases y with
        | nil => simp at hy
        | cons d y =>
          simp only [List.map_cons, List.cons.injEq] at hy
          have hc : c = d := by
            have : c.val.toNat = d.val.toNat := hy.1
            exact Char.ext (UInt32.toNat_inj.mp this)
          rw [hc, ih y hy.2]
    exact inj _ _ h1
  exact String.toList_inj.mp this

/-! ### f-strings -/
section
variable {X : Cx} {W : WX} {e o a b c elt tge iter : Expr} {es ifs : List Expr} {m m' : EM} {ms : List EM} {p pos apos : Pos} {k n lv : Nat} {x : Str} {f : FM}
theorem se_fmt (he : SE X W e m) : SE X W (.FormattedValue e (-1) none pos) (callM fmtP [m]) := by
  refine pe_imp (pe_fmt he) fun σ H Q h => call1 h (fun x H1 Q => (∃ y : Str, x = .str y ∧ y.length ≤ sizeLine ∧ Q (.str y) H1) ∨ ∃ i : Int, x = .int i ∧ i.natAbs.log2 < 1920 ∧ Q (.str (toString i)) H1) fun v d H ι S Q r p h => ?_
  cases e1 : fmtP [d] S with
  | stuck => rw [e1] at h; exact h.elim
  | exc y S1 =>
    unfold fmtP at e1
    repeat (first | cases e1 | split at e1)
  | ok z S1 =>
    rw [e1] at h
    unfold fmtP at e1
    split at e1
    · rename_i i q
      cases q
      obtain ⟨hl, rfl, rfl⟩ := ite_ok e1
      cases p
      refine .inr ⟨_, rfl, log_small hl, ?_⟩
      show Q (.str (Str.ofString (toString i))) H
      rw [intCs_toS]
      exact h _ H ι .refl r (.str _)
    · rename_i i q
      cases q
      obtain ⟨hl, rfl, rfl⟩ := ite_ok e1
      cases p
      exact .inl ⟨_, rfl, by rw [toS_length, ← LIM_eq]; exact hl, h _ H ι .refl r (.str _)⟩
    · cases e1
inductive SJ (X : Cx) (W : WX) : List Expr → List EM → Prop where
  | nil : SJ X W [] []
  | cons {e : Expr} {m : EM} {es : List Expr} {ms : List EM} (h : SE X W e m) (r : SJ X W es ms) : SJ X W (e :: es) (m :: ms)
theorem SJ.pj (h : SJ X W es ms) : PJ X es (ms.map (cE X.K X.mg W)) := by
  induction h with
  | nil => exact .nil
  | cons h r ih => exact .cons h ih
theorem cat_run {K : PySem.W.Frag} {mg : Str → Option Value} : ∀ {ms : List EM} {acc : Cs} {σ : L2.St} {H : Hp} {Q : VK}, cE K mg W (catM acc ms) σ H Q → tJs (ms.map (cE K mg W)) (toS acc) σ H fun out H1 => Q (.str out) H1
  | [], acc, σ, H, Q, h => by
    obtain ⟨δ, S, ι, r, h⟩ := h
    exact h _ H ι .refl r.sto (.str _)
  | m :: ms, acc, σ, H, Q, h => by
    obtain ⟨δ, S, ι, r, h⟩ := h
    refine ⟨δ, S, ι, r, ?_⟩
    have h : PostE K mg W σ H ι ((m δ S).bind fun d S1 => match d with
      | .str y => if acc.length + y.length ≤ LIM then catM (acc ++ y) ms δ S1 else .stuck
      | _ => .stuck) Q := h
    refine PostE.seq h fun v H' ι' d S' _ g r1 p1 h1 => ?_
    split at h1
    · rename_i y
      split at h1
      · rename_i hl
        cases p1
        refine ⟨_, rfl, by rw [toS_append, toS_length, ← LIM_eq]; simpa using hl, ?_⟩
        rw [toS_append]
        exact cat_run ⟨δ, S', ι', r.mono g r1, h1⟩
      · exact h1.elim
    · exact h1.elim
theorem se_joined {v1 v2 : Expr} {rest : List Expr} (h : SJ X W (v1 :: v2 :: rest) ms) : SE X W (.JoinedStr (v1 :: v2 :: rest) pos) (catM [] ms) :=
  pe_imp (pe_joined h.pj) fun σ H Q q => cat_run q

/-! ### classes -/
/-- a class of the text: its address, its fields -/
structure CT (K : PySem.W.Frag) (mg : Str → Option Value) (C : String) (flds : List String) : Prop where
  ex : ∃ c, mg (Str.ofString C) = some (.ref c) ∧ Cls K c ∧ ∀ f ∈ flds, NoAttr K c (Str.ofString f)
/-- a method of it -/
structure MT (P : Program) (w : World) (K : PySem.W.Frag) (mg : Str → Option Value) (base : Heap) (lv : Nat) (C m : String) (F : FM) (n : Nat) : Prop where
  ex : ∃ (c f : Addr) (fd : FuncData) (ps : List Str), mg (Str.ofString C) = some (.ref c) ∧ Cls K c ∧ Meth K c (Str.ofString m) f ∧ FnOk P w K mg base (L2.CX P w) lv f fd ps (spOf K mg F n) ∧ Binds K fd ps []
/-- its making -/
structure KT (P : Program) (w : World) (K : PySem.W.Frag) (mg : Str → Option Value) (base : Heap) (lv : Nat) (C : String) (F : FM) (n : Nat) : Prop where
  ex : ∃ (c f : Addr) (fd : FuncData) (ps : List Str), mg (Str.ofString C) = some (.ref c) ∧ Mk K c f ∧ FnOk P w K mg base (L2.CX P w) lv f fd ps (spOf K mg F n) ∧ Binds K fd ps []
theorem Rfs.lookup {K : PySem.W.Frag} {mg : Str → Option Value} {H : Hp} {ι : List Addr} {f : String} : ∀ {vs : List (Str × V)} {fs : List (String × D)}, Rfs K mg H ι vs fs →
    (∀ d, getF f fs = some d → ∃ v, vs.lookup (Str.ofString f) = some v ∧ Rp K mg H ι v d) ∧ (getF f fs = none → vs.lookup (Str.ofString f) = none)
  | _, _, .nil => ⟨fun d h => (by cases h), fun _ => rfl⟩
  | _, _, .cons (k := k) (v := v) (vs := vs) (d := d) (ds := ds) h1 h2 => by
    have ih := Rfs.lookup (f := f) h2
    unfold getF
    simp only
    by_cases hk : k = f
    · subst hk
      rw [if_pos rfl]
      refine ⟨fun d' h => ?_, fun h => by cases h⟩
      cases h
      exact ⟨v, by simp [List.lookup], h1⟩
    · rw [if_neg hk]
      have hb : (Str.ofString f == Str.ofString k) = false := beq_eq_false_iff_ne.mpr fun z => hk (ofString_inj z).symm
      simp only [List.lookup, hb]
      exact ih
theorem Rfs.put {K : PySem.W.Frag} {mg : Str → Option Value} {H : Hp} {ι : List Addr} {f : String} {v : V} {d : D} (p : Rp K mg H ι v d) : ∀ {vs : List (Str × V)} {fs : List (String × D)}, Rfs K mg H ι vs fs →
    Rfs K mg H ι (L2.putF (Str.ofString f) v vs) (Dl.putF f d fs)
  | _, _, .nil => .cons p .nil
  | _, _, .cons (k := k) (v := w) (vs := vs) (d := e) (ds := ds) h1 h2 => by
    unfold L2.putF Dl.putF
    simp only
    by_cases hk : k = f
    · subst hk
      rw [if_pos rfl, if_pos rfl]
      exact .cons p h2
    · rw [if_neg hk, if_neg fun z => hk (ofString_inj z)]
      exact .cons h1 (Rfs.put p h2)
theorem Rfs.length {K : PySem.W.Frag} {mg : Str → Option Value} {H : Hp} {ι : List Addr} : ∀ {vs : List (Str × V)} {fs : List (String × D)}, Rfs K mg H ι vs fs → vs.length = fs.length
  | _, _, .nil => rfl
  | _, _, .cons _ h => by simp [Rfs.length h]
theorem RS.ins {K : PySem.W.Frag} {mg : Str → Option Value} {H : Hp} {ι : List Addr} {S : Store} {n : Nat} {a : Addr} {C : String} {fs : List (String × D)} (r : RS K mg H ι S) (ha : ι[n]? = some a) (e : insAt S n C = some fs) :
    ∃ c dx vs, mg (Str.ofString C) = some (.ref c) ∧ H a = some (.ins c dx vs) ∧ Rfs K mg H ι vs fs := by
  unfold insAt at e
  split at e
  · rename_i C' fs' e1
    split at e
    · rename_i hC
      subst hC
      cases e
      exact r.at_ n _ a e1 ha
    · cases e
  · cases e
theorem RS.putIns {K : PySem.W.Frag} {mg : Str → Option Value} {H : Hp} {ι : List Addr} {S : Store} {n : Nat} {a c dx : Addr} {C : String} {vs ws : List (Str × V)} {fs : List (String × D)} (r : RS K mg H ι S) (ha : ι[n]? = some a)
    (hC : mg (Str.ofString C) = some (.ref c)) (e : H a = some (.ins c dx vs)) (q : Rfs K mg H ι ws fs) : Grow K H ι (upd H a (.ins c dx ws)) ι ∧ RS K mg (upd H a (.ins c dx ws)) ι (S.set n (.ins C fs)) := by
  have g : Grow K H ι (upd H a (.ins c dx ws)) ι := Grow.write e (fun _ z => by cases z) (fun _ _ z => by cases z)
  exact ⟨g, r.write ha g ⟨c, dx, ws, hC, upd_same, q.mono g⟩⟩
theorem se_fld {C f : String} {flds : List String} {x : Str} (T : CT X.K X.mg C flds) (hf : f ∈ flds) (he : SE X W e m) (hx : x = Str.ofString f := by rfl) (hb : attributeBase e x X.env (eval e X.env) = eval e X.env := by rfl) : SE X W (.Attribute e x pos) (callM (fldP C f) [m]) := by
  subst hx
  refine pe_imp (pe_fld he hb) fun σ H Q h => call1 h (fun x H1 Q => ∃ a C dx fs v, x = .ref a ∧ H1 a = some (.ins C dx fs) ∧ Cls X.K C ∧ NoAttr X.K C (Str.ofString f) ∧ fs.lookup (Str.ofString f) = some v ∧ Q v H1) fun v d H ι S Q r p h => ?_
  cases d with
  | ref n =>
    unfold fldP at h
    simp only at h
    split at h
    · rename_i fs e1
      split at h
      · rename_i d e2
        obtain ⟨a, rfl, ha⟩ := p.ref_inv
        obtain ⟨c, dx, vs, h1, h2, h3⟩ := r.ins ha e1
        obtain ⟨c', k1, k2, k3⟩ := T.ex
        rw [h1] at k1; cases k1
        obtain ⟨v, q1, q2⟩ := (h3.lookup (f := f)).1 d e2
        exact ⟨a, c, dx, vs, v, rfl, h2, k2, k3 f hf, q1, h v H ι .refl r q2⟩
      · exact h.elim
    · exact h.elim
  | _ => exact h.elim
theorem ss_fld {C f : String} {flds : List String} {x : Str} {pos' : Pos} {v : Expr} {mv : EM} (T : CT X.K X.mg C flds) (hf : f ∈ flds) (ho : SE X W o m) (hv : SE X W v mv) (hx : x = Str.ofString f := by rfl) (hs : swapsWith v (some (.Attribute o x pos')) pos.line X.env = pure false := by rfl) :
    SS X W (.Assign [.Attribute o x pos'] v pos) (exprS (callM (putFP C f) [mv, m])) := by
  subst hx
  refine ps_imp (ps_fld ho hv hs) fun D' σ H q => ?_
  obtain ⟨δ, S, ι, r, q⟩ := q
  refine ⟨δ, S, ι, r, ?_⟩
  have q : PostS X.K X.mg W D' H ι (((mv δ S).bind fun d S1 => ((m δ S1).bind fun d2 S2 => (Res.ok [d2] S2 : Res (List D))).bind fun ds S5 => .ok (d :: ds) S5).bind (putFP C f) |>.thenS δ fun _ S1 => .ok (.nx δ) S1) := q
  cases e1 : mv δ S with
  | stuck => rw [e1] at q; exact q
  | exc y S1 => rw [e1] at q; exact fun c dx H' ι' g q1 z => q c dx σ H' ι' g (r.mono g q1) z
  | ok d1 S1 =>
    rw [e1] at q
    intro v1 H1 ι1 g1 r1 p1
    refine ⟨δ, S1, ι1, r.mono g1 r1, ?_⟩
    have q := PostS.back g1 q
    cases e2 : m δ S1 with
    | stuck => simp only [Res.bind_ok, e2] at q; exact q
    | exc y S2 => simp only [Res.bind_ok, e2] at q; exact fun c dx H' ι' g q1 z => q c dx σ H' ι' g (r.mono (g1.trans g) q1) z
    | ok d2 S2 =>
      simp only [Res.bind_ok, e2] at q
      intro v2 H2 ι2 g2 r2 p2
      have q := PostS.back g2 q
      have p1 := p1.mono g2
      cases e4 : putFP C f [d1, d2] S2 with
      | stuck => rw [e4] at q; exact q.elim
      | exc y S4 =>
        unfold putFP at e4
        repeat (first | cases e4 | split at e4)
      | ok z S4 =>
        rw [e4] at q
        unfold putFP at e4
        split at e4
        · rename_i vv n e0
          cases e0
          split at e4
          · rename_i fs e5
            obtain ⟨hl, rfl, rfl⟩ := ite_ok e4
            obtain ⟨a, rfl, ha⟩ := p2.ref_inv
            obtain ⟨c, dx, vs, h1, h2, h3⟩ := r2.ins ha e5
            obtain ⟨c', k1, k2, k3⟩ := T.ex
            rw [h1] at k1; cases k1
            obtain ⟨g3, r3⟩ := r2.putIns ha h1 h2 (h3.put (f := f) p1)
            refine ⟨a, c, dx, vs, rfl, h2, k2, k3 f hf, by rw [h3.length]; omega, ?_⟩
            exact q σ _ ι2 g3 (r.mono ((g1.trans g2).trans g3) r3)
          · cases e4
        · cases e4
/-- the added thing is a written int -/
theorem ss_fldinc {C f : String} {flds : List String} {x : Str} {tpos : Pos} {j : Int} {kk jpos} (T : CT X.K X.mg C flds) (hf : f ∈ flds) (ho : SE X W o m) (hx : x = Str.ofString f := by rfl) :
    SS X W (.AugAssign (.Attribute o x tpos) .Add (.Constant (.int j) kk jpos) pos) (exprS (callM (augFP C f) [m, conM (.int j)])) := by
  subst hx
  refine ps_imp (ps_fldaug ho (pe_int (X := X) (i := j) (j := kk) (pos := jpos)) in_add) fun D' σ H q => ?_
  obtain ⟨δ, S, ι, r, q⟩ := q
  refine ⟨δ, S, ι, r, ?_⟩
  have q : PostS X.K X.mg W D' H ι (((m δ S).bind fun d S1 => (Res.ok [d, .int j] S1 : Res (List D))).bind (augFP C f) |>.thenS δ fun _ S1 => .ok (.nx δ) S1) := q
  cases e1 : m δ S with
  | stuck => rw [e1] at q; exact q
  | exc y S1 => rw [e1] at q; exact fun c dx H' ι' g q1 z => q c dx σ H' ι' g (r.mono g q1) z
  | ok d1 S1 =>
    rw [e1] at q
    intro v1 H1 ι1 g1 r1 p1
    have q := PostS.back g1 q
    simp only [Res.bind_ok] at q
    cases e4 : augFP C f [d1, .int j] S1 with
    | stuck => rw [e4] at q; exact q.elim
    | exc y S4 =>
      unfold augFP at e4
      repeat (first | cases e4 | split at e4)
    | ok z S4 =>
      rw [e4] at q
      unfold augFP at e4
      split at e4
      · rename_i n jj e0
        cases e0
        split at e4
        · rename_i fs e5
          split at e4
          · rename_i i e6
            obtain ⟨hl, rfl, rfl⟩ := ite_ok e4
            obtain ⟨a, rfl, ha⟩ := p1.ref_inv
            obtain ⟨c, dx, vs, h1, h2, h3⟩ := r1.ins ha e5
            obtain ⟨c', k1, k2, k3⟩ := T.ex
            rw [h1] at k1; cases k1
            obtain ⟨w, q1, q2⟩ := (h3.lookup (f := f)).1 _ e6
            cases q2
            obtain ⟨g3, r3⟩ := r1.putIns ha h1 h2 (h3.put (f := f) (.int (i + j)))
            refine ⟨a, c, dx, vs, .int i, rfl, h2, k2, k3 f hf, q1, i, j, rfl, rfl, dx, vs, h2, by rw [h3.length]; omega, ?_⟩
            exact q σ _ ι1 g3 (r.mono (g1.trans g3) r3)
          · cases e4
        · cases e4
      · cases e4
/-- o.m(..) -/
theorem metI {K : PySem.W.Frag} {mg : Str → Option Value} {σ : L2.St} {H : Hp} {Q : VK} {C mm : String} {F : FM} {c : Addr} (hC : mg (Str.ofString C) = some (.ref c)) (hn : ms.length + 1 = n) (h : cE K mg W (methI C mm F m ms) σ H Q) :
    cE K mg W m σ H fun x H1 => ∃ a dx fs, x = .ref a ∧ H1 a = some (.ins c dx fs) ∧ fs.lookup (Str.ofString mm) = none ∧ cA K mg W (argsM ms) σ H1 fun vs H2 => spOf K mg F n (x :: vs) H2 Q (WE W σ) := by
  obtain ⟨δ, S, ι, rl, h⟩ := h
  refine ⟨δ, S, ι, rl, ?_⟩
  have h : PostE K mg W σ H ι ((m δ S).bind fun d S1 => match d with
    | .ref n => (match insAt S1 n C with
      | some fs => if getF mm fs = none then (argsM ms δ S1).bind fun ds S2 => F (d :: ds) S2 else .stuck
      | none => .stuck)
    | _ => .stuck) Q := by
    unfold methI at h
    cases e1 : m δ S with
    | stuck => rw [e1] at h; exact h
    | exc y S1 => rw [e1] at h; exact h
    | ok d S1 => rw [e1] at h; cases d <;> exact h
  refine PostE.seq h fun v H1 ι1 d S1 _ g1 r1 p1 h1 => ?_
  split at h1
  · rename_i nn _
    split at h1
    · rename_i fs e1
      split at h1
      · rename_i hl
        obtain ⟨a, rfl, ha⟩ := p1.ref_inv
        obtain ⟨c', dx, vs, k1, k2, k3⟩ := r1.ins ha e1
        rw [hC] at k1; cases k1
        refine ⟨a, dx, vs, rfl, k2, (k3.lookup (f := mm)).2 hl, δ, S1, ι1, rl.mono g1 r1, PostA.seq h1 fun us H2 ι2 ds S2 e2 g2 r2 q2 h2 => ?_⟩
        refine ⟨?_, .ref nn :: ds, S2, ι2, r2, .cons (p1.mono g2) q2, ?_⟩
        · have ln : ∀ (ms : List EM) (S : Store) (ds : List D) (S1 : Store), argsM ms δ S = .ok ds S1 → ds.length = ms.length := by
            intro ms
            induction ms with
            | nil => intro S ds S1 e; cases e; rfl
            | cons m ms ih =>
              intro S ds S1 e
              obtain ⟨d, S2, e1, e2⟩ := bind_inv e
              obtain ⟨ds', S3, e3, e4⟩ := bind_inv e2
              cases e4
              simp [ih _ _ _ e3]
          rw [List.length_cons, q2.length, ln _ _ _ _ e2, hn]
        · cases e3 : F (.ref nn :: ds) S2 with
          | ok d S' => rw [e3] at h2; exact h2
          | exc x S' => rw [e3] at h2; exact h2
          | stuck => rw [e3] at h2; exact h2.elim
      · exact h1.elim
    · exact h1.elim
  · exact h1.elim
theorem se_meth {C mm : String} {F : FM} {pl : Sem Bool} {x : Str} (hr : Room k X.A) (tk : Takes X W) (T : MT X.prog X.w X.K X.mg X.base lv C mm F n) (hk : lv ≤ k) (ho : SE X W o m) (ha : SA X W (e :: es) ms) (hx : x = Str.ofString mm := by rfl) (hn : ms.length + 1 = n := by rfl)
    (hst : starEach (e :: es) X.env = (false, eval e X.env) :: starEach es X.env := by rfl) (hpl : (backTo pos (starEach es X.env)).any (·.1) = false := by rfl)
    (ht : eval (.Call (.Attribute o x apos) (e :: es) [] pos) X.env = (do
      let ov ← eval o X.env
      standAt apos.atName
      let (f, first) ← holding [ov] (getMethod ov x pl)
      callWith pos f first (backTo pos (starEach (e :: es) X.env)) (backToKw pos (keywordEach [] X.env))) := by rfl) : SE X W (.Call (.Attribute o x apos) (e :: es) [] pos) (methI C mm F m ms) := by
  subst hx
  obtain ⟨c, f, fd, ps, h1, h2, h3, h4, h5⟩ := T.ex
  refine pe_imp (t := fun σ H Q => cE X.K X.mg W m σ H fun x H1 => ∃ a dx fs, x = .ref a ∧ H1 a = some (.ins c dx fs) ∧ fs.lookup (Str.ofString mm) = none ∧ cA X.K X.mg W (argsM ms) σ H1 fun vs H2 => spOf X.K X.mg F n (x :: vs) H2 Q (WE W σ)) ⟨fun pins s σ H Q I h => ?_⟩ fun σ H Q h => metI h1 hn h
  refine PySem.W.methodCall_KW (pl := pl) (thn (ho.run pins s σ H _ I h) fun u s1 ⟨x, H1, I1, rx, a, dx, fs, ex, ea, l, q⟩ => ?_) ht
  subst ex
  obtain rfl : u = Value.ref a := rx
  refine getmeth_ok I1 ea h2 h3 l ?_
  refine PySem.W.callWith_K (first := [.ref a]) (h₀ := X.base) I.ok.mod.kin h3.kp (thn (ha.run pos pins s1 σ H1 _ I1 q) fun us s2 ⟨vs, H2, I2, r, q2⟩ => ⟨I2.kIn, ?_⟩) hst hpl
  exact run_fnS (us := .ref a :: us) (vs := .ref a :: vs) h4 (hr.mono hk) h5 (passAt tk σ) I2 (.cons rfl r) q2
theorem se_meth0 {C mm : String} {F : FM} {pl : Sem Bool} {x : Str} (hr : Room k X.A) (tk : Takes X W) (T : MT X.prog X.w X.K X.mg X.base lv C mm F 1) (hk : lv ≤ k) (ho : SE X W o m) (hx : x = Str.ofString mm := by rfl)
    (ht : eval (.Call (.Attribute o x apos) [] [] pos) X.env = (do
      let ov ← eval o X.env
      standAt apos.atName
      let (f, first) ← holding [ov] (getMethod ov x pl)
      callWith pos f first (backTo pos (starEach [] X.env)) (backToKw pos (keywordEach [] X.env))) := by rfl) : SE X W (.Call (.Attribute o x apos) [] [] pos) (methI C mm F m []) := by
  subst hx
  obtain ⟨c, f, fd, ps, h1, h2, h3, h4, h5⟩ := T.ex
  refine pe_imp (t := fun σ H Q => cE X.K X.mg W m σ H fun x H1 => ∃ a dx fs, x = .ref a ∧ H1 a = some (.ins c dx fs) ∧ fs.lookup (Str.ofString mm) = none ∧ spOf X.K X.mg F 1 [x] H1 Q (WE W σ)) ⟨fun pins s σ H Q I h => ?_⟩ fun σ H Q h => ?_
  · refine PySem.W.methodCall_KW (pl := pl) (thn (ho.run pins s σ H _ I h) fun u s1 ⟨x, H1, I1, rx, a, dx, fs, ex, ea, l, q⟩ => ?_) ht
    subst ex
    obtain rfl : u = Value.ref a := rx
    refine getmeth_ok I1 ea h2 h3 l ?_
    exact PySem.W.callWith_K0 (first := [.ref a]) I1.kIn h3.kp (run_fnS (us := [.ref a]) (vs := [.ref a]) h4 (hr.mono hk) h5 (passAt tk σ) I1 (.cons rfl .nil) q)
  · obtain ⟨δ, S, ι, r, q⟩ := metI (ms := []) (n := 1) h1 rfl h
    refine ⟨δ, S, ι, r, PostE.imp q fun v H' z => ?_⟩
    obtain ⟨a, dx, fs, z1, z2, z3, δ', S', ι', r', z4⟩ := z
    exact ⟨a, dx, fs, z1, z2, z3, z4 [] H' ι' .refl r'.sto .nil⟩
/-- C(..) -/
theorem se_make {C : String} {F : FM} {x : Str} (hr : Room k X.A) (tk : Takes X W) (T : KT X.prog X.w X.K X.mg X.base lv C F n) (hk : lv + 1 ≤ k) (hx : x = Str.ofString C) (hg : Gl X x) (ha : SA X W (e :: es) ms) (hn : ms.length + 1 = n := by rfl) (hdb : (x == ("__debug__" : Str)) = false := by decide)
    (he : starEach (e :: es) X.env = (false, eval e X.env) :: starEach es X.env := by rfl) (hpl : (backTo pos (starEach es X.env)).any (·.1) = false := by rfl) : SE X W (.Call (.Name x p) (e :: es) [] pos) (makeM C F ms) := by
  subst hx
  obtain ⟨c, f, fd, ps, h1, h2, h3, h4⟩ := T.ex
  have hx : ∀ σ, Passes (L2.CX X.prog X.w) { X with xe := X.xe } (WE W σ) → True := fun _ _ => trivial
  refine pe_imp (t := fun σ H Q => cA X.K X.mg W (argsM ms) σ H fun vs H1 => ∀ x dx, H1 x = none → H1 dx = none → dx ≠ x → spOf X.K X.mg F n (.ref x :: vs) (upd (upd H1 dx (.own x)) x (.ins c dx [])) (fun v H2 => v = .non ∧ Q (.ref x) H2) (WE W σ)) ⟨fun pins s σ H Q I h => ?_⟩ fun σ H Q h => ?_
  · refine wpAny_Call_Name_kw (ld_glob I hg h1 ?_ hdb)
    refine PySem.W.callWith_K (h₀ := X.base) I.ok.mod.kin h2.kp (thn (ha.run pos pins s σ H _ I h) fun us s1 ⟨vs, H1, I1, r, q⟩ => ⟨I1.kIn, ?_⟩) he hpl
    have hq := q (s1.heap.objs.size + 1) s1.heap.objs.size (I1.hok.fresh (Nat.le_succ _)) (I1.hok.fresh (Nat.le_refl _)) (Nat.ne_of_lt (Nat.lt_succ_self _))
    have I2 := Inv.made (C := c) I1
    have r2 : Vals (V.ref (s1.heap.objs.size + 1) :: vs) (Value.ref (s1.heap.objs.size + 1) :: us) := .cons rfl r
    have hl : (Value.ref (s1.heap.objs.size + 1) :: us ++ []).length = ps.length := by
      have z := r2.length
      rw [h3.len _ _ _ _ hq] at z
      rw [List.append_nil]; exact z.symm
    have hb := h4 ⟨_, _, _, _, _⟩ (Value.ref (s1.heap.objs.size + 1) :: us) I2.kIn hl
    rw [List.append_nil] at hb
    refine wpAny_call (make_map (f := f) I1.kIn h2.makes h2.init (beq_iff_eq.mp h2.fn) (codeAny_mono (h3.run _ X.stack _ _ ⟨Value.ref (s1.heap.objs.size + 1) :: us, []⟩ (Value.ref (s1.heap.objs.size + 1) :: us) _ _ (WE W σ) ((hr.mono hk).make c us [])
      (I2.env0.make c us []) hb r2 hq) fun rr s' hq' => ?_))
    cases rr with
    | error ee => exact passAt tk σ pins _ _ ee s' I2 hq'
    | ok fl =>
      cases fl with
      | ret u =>
        obtain ⟨v, H', I3, rv, ev, q3⟩ := I2.after hq'
        subst ev
        exact ⟨rv, ⟨V.ref (s1.heap.objs.size + 1), H', I3, rfl, q3⟩⟩
      | next => exact False.elim hq'
      | brk => exact False.elim hq'
      | cont => exact False.elim hq'
  · obtain ⟨δ, S, ι, r, h⟩ := h
    refine ⟨δ, S, ι, r, ?_⟩
    have h : PostE X.K X.mg W σ H ι ((argsM ms δ S).bind fun ds S1 => (F (.ref S1.length :: ds) (S1 ++ [.ins C []])).bind fun r S2 => if r = .non then .ok (.ref S1.length) S2 else .stuck) Q := h
    refine PostA.seq h fun vs H1 ι1 ds S1 e1 g1 r1 q1 h' => fun y dy hy hdy hne => ?_
    have g2 : Grow X.K H1 ι1 (upd H1 dy (.own y)) ι1 := Grow.new hdy
    have r2 := r1.new (o := .own y) hdy
    have hy2 : (upd H1 dy (.own y)) y = none := by rw [upd_ne (Ne.symm hne)]; exact hy
    have g3 : Grow X.K (upd H1 dy (.own y)) ι1 (upd (upd H1 dy (.own y)) y (.ins c dy [])) (ι1 ++ [y]) := Grow.alloc hy2
    have r3 : RS X.K X.mg (upd (upd H1 dy (.own y)) y (.ins c dy [])) (ι1 ++ [y]) (S1 ++ [.ins C []]) := r2.alloc hy2 ⟨c, dy, [], h1, upd_same, .nil⟩
    have hy3 : (ι1 ++ [y])[S1.length]? = some y := by rw [← r1.len]; simp
    refine ⟨?_, .ref S1.length :: ds, _, _, r3, .cons (.ref hy3) (q1.mono (g2.trans g3)), ?_⟩
    · have ln : ∀ (ms : List EM) (S : Store) (ds : List D) (S1 : Store), argsM ms δ S = .ok ds S1 → ds.length = ms.length := by
        intro ms
        induction ms with
        | nil => intro S ds S1 e; cases e; rfl
        | cons m ms ih =>
          intro S ds S1 e
          obtain ⟨d, S2, e1, e2⟩ := bind_inv e
          obtain ⟨ds', S3, e3, e4⟩ := bind_inv e2
          cases e4
          simp [ih _ _ _ e3]
      rw [List.length_cons, q1.length, ln _ _ _ _ e1, hn]
    · have h' := PostE.back (g2.trans g3) h'
      cases e3 : F (.ref S1.length :: ds) (S1 ++ [.ins C []]) with
      | stuck => rw [e3] at h'; exact h'.elim
      | exc x S' => rw [e3] at h'; exact h'
      | ok d S' =>
        rw [e3] at h'
        simp only [Res.bind_ok] at h'
        intro v H' ι' g4 r4 p4
        split at h'
        · rename_i hd
          subst hd
          cases p4
          exact ⟨rfl, h' _ H' ι' g4 r4 (.ref (pre_get g4.pre hy3))⟩
        · exact h'.elim
/-- a call of the def that a slot holds -/
theorem se_callV (i : Nat) {Fs : List (String × FM)} (hr : Room k X.A) (tk : Takes X W) (hF : ∀ y F, Fs.lookup y = some F → ∃ lv, lv ≤ k ∧ FT X.prog X.w X.K X.mg X.base lv y F n) (ha : SA X W (e :: es) ms) (hN : X.N[i]? = some x := by rfl) (hv : Vis X.env.scope x := by first | exact Or.inl rfl | exact Or.inr (Or.inl rfl) | exact Or.inr (Or.inr rfl)) (hn : ms.length = n := by rfl)
    (hdb : (x == ("__debug__" : Str)) = false := by decide) (hcd : (x == ("__classdict__" : Str)) = false := by decide)
    (he : starEach (e :: es) X.env = (false, eval e X.env) :: starEach es X.env := by rfl) (hpl : (backTo pos (starEach es X.env)).any (·.1) = false := by rfl) : SE X W (.Call (.Name x p) (e :: es) [] pos) (callV i Fs ms) := by
  refine ⟨fun pins s σ H Q I h => ?_⟩
  obtain ⟨δ, S, ι, rl, h⟩ := h
  unfold callV at h
  split at h
  · rename_i y e1
    split at h
    · rename_i F e2
      obtain ⟨v, e3, p3⟩ := rl.env i _ e1
      obtain ⟨lv, hk, T⟩ := hF y F e2
      obtain ⟨f, fd, ps, G, hm, hkp, hb⟩ := T.ex
      cases p3 with
      | fn hm' =>
        rw [hm] at hm'; cases hm'
        refine wpAny_Call_Name_kw (thn ((pe_var (pos := p) hN hv hdb hcd).run pins s σ H (fun v H1 => v = .ref f ∧ H1 = H) I ⟨.ref f, e3, rfl, rfl⟩) fun u s1 ⟨v, H1, I1, r1, q1⟩ => ?_)
        obtain ⟨rfl, rfl⟩ := q1
        cases r1
        have q := callF (K := X.K) (mg := X.mg) (W := W) (σ := σ) (Q := Q) hn (show cE X.K X.mg W (callM F ms) σ _ Q from ⟨δ, S, ι, rl, h⟩)
        refine PySem.W.callWith_K (h₀ := X.base) I.ok.mod.kin hkp (thn (ha.run pos pins s1 σ _ _ I1 q) fun us s2 ⟨vs, H2, I2, r, q⟩ => ⟨I2.kIn, ?_⟩) he hpl
        exact run_fnS G (hr.mono hk) hb (passAt tk σ) I2 r q
    · exact h.elim
  · exact h.elim
end
end Dl

end

section
set_option linter.all false
set_option Elab.async false
set_option maxRecDepth 100000
set_option Elab.async false
set_option linter.all false
set_option maxRecDepth 100000
set_option maxHeartbeats 4000000
namespace Dl
open PySem PySem.Spec PyProof.Rows L2

/-- a name of the module that holds data -/
structure GD (K : PySem.W.Frag) (mg : Str → Option Value) (x : String) (d : D) : Prop where
  ex : ∃ v u, mg (Str.ofString x) = some u ∧ RelV v u ∧ ∀ H ι, Rp K mg H ι v d
theorem gd_str {K : PySem.W.Frag} {mg : Str → Option Value} {x : String} {s : Str} {t : Tok} {c : Cs} (h : mg (Str.ofString x) = some (.str s t)) (e : s = toS c := by decide +kernel) : GD K mg x (.str c) := by
  subst e
  exact ⟨.str (toS c), _, h, ⟨t, rfl⟩, fun _ _ => .str c⟩
/-- texts in a tuple that the top has made -/
inductive StrVals : List Value → List Cs → Prop
  | nil : StrVals [] []
  | cons {s : Str} {t : Tok} {r : List Value} {c : Cs} {cs : List Cs} (e : s = toS c) (h : StrVals r cs) : StrVals (.str s t :: r) (c :: cs)
theorem StrVals.vals {us : List Value} {cs : List Cs} (h : StrVals us cs) : Vals (cs.map fun c => V.str (toS c)) us := by
  induction h with
  | nil => exact .nil
  | cons e h ih => subst e; exact .cons ⟨_, rfl⟩ ih
theorem gd_tup {K : PySem.W.Frag} {mg : Str → Option Value} {x : String} {a : Addr} {od : Option Addr} {its : List Value} {n : Nat} {sl : Array (Option Value)} {cs : List Cs} (h : mg (Str.ofString x) = some (.ref a)) (l : K.lookup a = some ⟨.type "tuple", od, .seq its.toArray n, sl⟩)
    (hv : StrVals its cs) (hl : cs.length ≤ 1000) : GD K mg x (.tup (cs.map D.str)) := by
  have e := hv.vals.length
  rw [List.length_map] at e
  refine ⟨.ref a, _, h, rfl, fun H ι => .tup (.inr ⟨_, its.toArray, n, l, rfl, rfl, ?_, hv.vals⟩) ?_ ?_⟩
  · rw [sizeLine_eq]
    simp
    omega
  · rw [sizeLine_eq, List.length_map]
    omega
  · clear hv hl l e
    induction cs with
    | nil => exact .nil
    | cons c cs ih => exact .cons (.str c) ih
section
variable {X : Cx} {W : WX} {e o a b c elt tge iter : Expr} {es ifs : List Expr} {m m' : EM} {ms : List EM} {p pos apos : Pos} {k n lv : Nat} {x : Str} {f : FM}
theorem se_glob {y : String} {d : D} (T : GD X.K X.mg y d) (hg : Gl X x) (hx : x = Str.ofString y) (hd : (x == ("__debug__" : Str)) = false := by decide) : SE X W (.Name x pos) (conM d) := by
  subst hx
  obtain ⟨v, u, h1, h2, h3⟩ := T.ex
  exact se_con (pe_glob hg h1 h2 hd) h3
theorem se_fnT {y : String} {F : FM} (T : FT X.prog X.w X.K X.mg X.base lv y F n) (hx : x = Str.ofString y) (hg : Gl X x) (hd : (x == ("__debug__" : Str)) = false := by decide) : SE X W (.Name x pos) (conM (.fn y)) := by
  obtain ⟨f, fd, ps, _, h, _, _⟩ := T.ex
  exact se_fn y hg hx (by rw [hx]; exact h) hd
theorem sim_addIS {K : PySem.W.Frag} {mg : Str → Option Value} : Sim2 K mg (fun x y H Q => (rI0 fun i j => .int (i + j)) x y H Q ∨ (∃ i j, x = .str i ∧ y = .str j ∧ i.length + j.length ≤ sizeLine ∧ Q (.str (i ++ j)) H)) addIS where
  run := fun x y dx dy H S ι d S' Q r px py e h => by
    unfold addIS at e
    split at e
    · rename_i i j q
      cases q; cases e; cases px; cases py
      exact .inl ⟨_, _, rfl, rfl, h _ H ι .refl r (.int _)⟩
    · rename_i i j q
      cases q
      obtain ⟨hl, rfl, rfl⟩ := ite_ok e
      cases px; cases py
      refine .inr ⟨_, _, rfl, rfl, ?_, ?_⟩
      · rw [toS_length, toS_length, ← LIM_eq]; exact hl
      · rw [toS_append]; exact h _ H ι .refl r (.str _)
    · cases e
  nox := fun ds S x S' z => by
    unfold addIS at z
    repeat (first | cases z | exact ite_exc z | split at z)
theorem ss_augAdd (i : Nat) {pos' : Pos} (hN : X.N.Nodup) (he : SE X W e m) (hi : X.N[i]? = some x := by rfl) (hx : Loc X.env.scope x := by first | exact .inl rfl | exact .inr rfl)
    (hf : X.fn x = true ∨ X.env.scope.names.lookup x = some .local := by first | exact .inl rfl | exact .inr rfl | assumption) : SS X W (.AugAssign (.Name x pos') .Add e pos) (augS i addIS m) :=
  ss_aug i (iop_add.or iop_add_str) sim_addIS hN he hi hx hf
/-- a try whose body raises nothing -/
theorem ss_thru {body : List Stmt} {h₀ : ExceptHandler} {hs : List ExceptHandler} {s : SM} (hb : SSs X.nox W0 body s) : SS X W (.Try body (h₀ :: hs) [] [] pos) (noxS s) := by
  refine ps_imp (ps_try_thru0 hb) fun D σ H q => ?_
  obtain ⟨δ, S, ι, r, q⟩ := q
  refine ⟨δ, S, ι, r, ?_⟩
  have q : PostS X.K X.mg W D H ι ((s δ S).bind fun f S1 => match f with | .ex _ _ => .stuck | _ => .ok f S1) := q
  cases e1 : s δ S with
  | stuck => rw [e1] at q; exact q.elim
  | exc y S1 => rw [e1] at q; exact q.elim
  | ok f S1 =>
    rw [e1] at q
    cases f with
    | nx δ' => exact q
    | bk δ' => exact q
    | ct δ' => exact q
    | rt d => exact q
    | ex y δ' => exact q.elim
end
/-- the names that a def may hold -/
theorem held_nil {P : Program} {w : World} {K : PySem.W.Frag} {mg : Str → Option Value} {base : Heap} {k n : Nat} : ∀ (y : String) (F : FM), ([] : List (String × FM)).lookup y = some F → ∃ lv, lv ≤ k ∧ FT P w K mg base lv y F n := fun _ _ e => by cases e
theorem held_cons {P : Program} {w : World} {K : PySem.W.Frag} {mg : Str → Option Value} {base : Heap} {k n lv0 : Nat} {y0 : String} {F0 : FM} {r : List (String × FM)} (T : FT P w K mg base lv0 y0 F0 n) (hk : lv0 ≤ k) (h : ∀ (y : String) (F : FM), r.lookup y = some F → ∃ lv, lv ≤ k ∧ FT P w K mg base lv y F n) :
    ∀ (y : String) (F : FM), ((y0, F0) :: r).lookup y = some F → ∃ lv, lv ≤ k ∧ FT P w K mg base lv y F n := fun y F e => by
  rw [List.lookup_cons] at e
  split at e
  · rename_i c
    cases beq_iff_eq.mp c
    cases e
    exact ⟨lv0, hk, T⟩
  · exact h y F e
theorem fn_stuck {P : Program} {w : World} {K : PySem.W.Frag} {mg : Str → Option Value} {base : Heap} {f : Addr} {fd : FuncData} {ps : List Str} {lv n : Nat} : FnOk P w K mg base (L2.CX P w) lv f fd ps (spOf K mg (fun _ _ => .stuck) n) := by
  refine ⟨fun vs H Q E h => ?_, fun A outer s H args us vs Q E _ _ _ _ h => ?_⟩
  · obtain ⟨_, ds, S, ι, _, _, h⟩ := h
    exact h.elim
  · obtain ⟨_, ds, S, ι, _, _, h⟩ := h
    exact h.elim
end Dl

end

section
set_option linter.all false
set_option Elab.async false
set_option maxRecDepth 100000
set_option Elab.async false
set_option linter.all false
set_option maxRecDepth 100000
set_option maxHeartbeats 4000000
/-! DlSup: an own error class behind others over ValueError, whose __init__ says super().__init__('..') and stores its parameters. -/
namespace Dl
open PySem PySem.Spec PyProof.Rows L2

section
variable {prog : Program} {w : World} {A : Around} {E : Value → Shared → Prop} {h : Heap} {g : Array GenState} {d : Drawn} {t : Nat} {os : OsState}
variable {nm q : Str} {C N : Addr} {bs bm : List Value} {hdct : Bool} {sn : List Str} {sub : List Value} {ab : Bool} {col : Option Bool} {dd : Option Addr} {k0 k1 k2 k3 k5 : Option Value}
/-- the bound ValueError.__init__ called -/
theorem sup_call {u e t0 : Addr} {rest : List Value} {Q : Value → Shared → Prop}
    (hC : h.get? C = some (excClassObj nm q C N bs bm hdct sn sub ab col dd k0 k1 k2 k3 k5 "ValueError.__new__")) (he : h.get? e = some (PySem.HandSPX.excO C t0)) (hu : h.get? u = some (PySem.W.kxs_mw "ValueError.__init__" e)) (hrest : rest.length ≤ sizeLine)
    (hq : ∀ h' t1, (∀ b o, b ≠ e → h.get? b = some o → h'.get? b = some o) → h'.get? e = some (PySem.HandSPX.excO C t1) → Q .none ⟨h', g, d, t, os⟩) :
    wpAny (model prog w) A (call (.ref u) rest) Q E ⟨h, g, d, t, os⟩ := by
  refine wpAny_call (codeAny_of_tree ?_)
  show wpAny _ A.in1 (callAny (.ref u) ⟨rest, []⟩) _ _ _
  simp only [callAny]
  refine wpAny_bind (wpAny_load hu ?_)
  simp only [PySem.W.kxs_mw, show (Value.type "method-wrapper" == Value.type "method" || Value.type "method-wrapper" == Value.type "builtin_function_or_method" || Value.type "method-wrapper" == Value.type "method-wrapper") = true by decide, if_true]
  refine W.KFB.if_so (by decide) ?_
  refine wpAny_bind (PySem.W.check_bound_init F.excBase_ValueError.toExcCallFacts hC he rfl ?_)
  refine wpAny_bind (wpAny_pure (wpAny_pure ?_))
  refine ⟨Code.quiet_builtin _ (by decide +kernel), codeAny_builtin F.excBase_ValueError.initEntry ?_⟩
  rw [Around.under_plainId F.excBase_ValueError.init.plain _]
  wp_walk
  refine hq _ h.objs.size (fun b o hb ho => ?_) ?_
  · rw [Heap.get?_update_other _ _ (Ne.symm hb)]
    exact Heap.get?_push_of_some _ ho
  · rw [Heap.get?_update_self _ (Heap.get?_push_of_some _ he) rfl]
    rfl
end

/-- what is to be known of the class C, and of its __init__ at f with the cell cc -/
structure SupC (K : PySem.W.Frag) (mg : Str → Option Value) (prog : Program) (C cda cc : Addr) : Prop where
  T : OexC K C
  hsuper : mg "super" = none
  htop : (prog.main.scope.names.lookup ("super" : Str)).isSome = false
  third : PySem.W.nsIn K cStatics "thirdparty.any" = some none
  hm : PySem.W.ks_superIn K C C "__init__" = some (some (.builtin "ValueError.__init__"))
  hB : PySem.W.subIn K (.ref C) (.type "ValueError") = some true
  hsub : PySem.W.mroIn K C (.ref C) = some true
  code : ∃ ccl cdd vs ccs file tf, K.lookup cda = some ⟨ccl, cdd, .fields vs, ccs⟩ ∧ vs[2]? = some (.str file tf) ∧ ((prog.main.file : Str) == file) = true
  cell : ∃ cl cld csl, K.lookup cc = some ⟨cl, cld, .cell (some (.ref C)), csl⟩

/-- super().__init__('..') where self is the error that is being made -/
theorem sup_stmt {X : Cx} {pins : List (Addr × Obj)} {σ : L2.St} {H : Hp} {s : Shared} {E : Value → Shared → Prop} {C cda cc f a : Addr} {fd : FuncData} {oc : Value} {od : Option Addr} {osl : Array (Option Value)} {ar : Arg} {m : Str} {j} {p0 p1 p2 p3 p4 p5 : Pos} {body : List Stmt}
    (S : SupC X.K X.mg X.prog C cda cc) (I : Inv X pins σ H s) (hx : X.ex = []) (hks : X.env.kindOf "super" = some .globalImplicit) (hkc : X.env.kindOf "__class__" = some .free) (hfu : X.env.func = some f) (hf : X.K.lookup f = some ⟨oc, od, .func fd, osl⟩)
    (hp : (fd.params.posonlyargs ++ fd.params.args).head? = some ar) (hN : X.N[0]? = some ar.arg) (hka : X.env.kindOf ar.arg = some .local) (hco : X.env.code = .ref cda) (hcc : X.env.cells.lookup ("__class__" : Str) = some cc)
    (h0 : σ[0]? = some (some (.ref a))) (ha : H a = some (exo a C none)) (hin : interactive X.env = false)
    (hsw : swapsWith (.Call (.Attribute (.Call (.Name "super" p0) [] [] p1) "__init__" p2) [.Constant (.str m) j p3] [] p4) none p5.line X.env = pure false := by rfl)
    {pl : Sem Bool} (hev : eval (.Call (.Attribute (.Call (.Name "super" p0) [] [] p1) "__init__" p2) [.Constant (.str m) j p3] [] p4) X.env = (do
      let ov ← attributeBase (.Call (.Name "super" p0) [] [] p1) "__init__" X.env (eval (.Call (.Name "super" p0) [] [] p1) X.env)
      standAt p2.atName
      let (f, first) ← holding [ov] (getMethod ov "__init__" pl)
      callWith p4 f first (backTo p4 (starEach [.Constant (.str m) j p3] X.env)) []) := by rfl) :
    _root_.PySem.wpAt (model X.prog X.w) X.A (.func body X.env) (exec (.Expr (.Call (.Attribute (.Call (.Name "super" p0) [] [] p1) "__init__" p2) [.Constant (.str m) j p3] [] p4) p5) X.env) (fun fl s' => fl = .next ∧ Inv X pins σ H s') E s := by
  obtain ⟨ccl, cdd, vs, ccs, file, tf, hcode, hvs, hfile⟩ := S.code
  obtain ⟨cl, cld, csl, hcell⟩ := S.cell
  obtain ⟨nm, q, N, bs, bm, sn, sub, ab, col, dd, k0, k1, k2, k3, k5, hC, hbm⟩ := S.T.cls
  have hcl : PySem.W.clsIn X.K C = some { name := nm, bases := bs, mro := .ref C :: bm, ns := N, qualname := q, hasDict := true, slotNames := sn, subclasses := sub, abstract := ab, collection := col, hasDel := false } := by unfold PySem.W.clsIn; rw [hC] <;> rfl
  refine ks_wpAt_Expr_any ?_ hin hsw
  refine ks_wpAt_MethodCall (pl := pl) ?_ hev
  obtain ⟨hp0, g, d, t, os⟩ := s
  refine ks_wpAt_super_base hks hkc (by decide) hfu (I.kIn _ _ hf) rfl hp hco (I.kIn _ _ hcode) rfl hvs hfile S.htop ?_
  obtain ⟨mb, hb1, hb2⟩ := I.mod.blt
  refine PySem.W.ks_loadName_global I.ok.kind hks (Calls.loadGlobal_builtin (by rw [I.ok.glob]; exact I.mod.glob.keeps I.bk) S.hsuper (by rw [I.ok.blt]; exact hb1.keeps I.bk) ((hb2 "super" (by decide)).trans (show bootBuiltins "super" = some (.type "super") by decide +kernel)) ⟨rfl, ?_⟩)
  refine wpAny_loadName_free I.ok.kind hkc hcc ⟨_, I.kIn _ _ hcell, rfl⟩ ?_
  obtain ⟨mm, hns, hloc⟩ := I.loc
  obtain ⟨u, ru, lk⟩ := hloc 0 ar.arg (.ref a) hN h0 (.inl hka)
  obtain rfl : u = Value.ref a := ru
  have hmv : mm ar.arg = some (Value.ref a) := by
    rcases lk with ⟨_, z⟩ | ⟨z, _⟩
    · exact z
    · rw [hka] at z
      rcases z with z | z <;> cases z
  refine wpAny_loadName_local I.ok.kind hka hns hmv ?_
  have hCh := I.kIn _ _ hC
  obtain ⟨t1, hea⟩ := exo_at I.hok ha
  refine ks_wpAny_isType_cls hCh rfl ⟨rfl, ?_⟩
  refine ks_wpAny_call_super hCh rfl hea rfl (fun c z => by cases z) (PySem.W.looks_mroIn I.kIn S.hsub) fun h1 hso k1' => ?_
  have I1 : Inv X pins σ H ⟨h1, g, d, t, os⟩ := I.kept (t' := t) k1'
  obtain ⟨t2, hea1⟩ := exo_at I1.hok ha
  have hne : a ≠ C := fun z => by
    rw [z] at hea1
    rw [k1' _ _ hCh] at hea1
    cases hea1
  have LI : PySem.W.Looks (model X.prog X.w) h1 (isInstance (.ref a) (.type "ValueError")) true := by
    have IA : PySem.W.InstAt h1 a { cls := .ref C, dict := none, data := .fields #[.ref t2, .none, .none, .none, .bool false, .none] } C none := ⟨hea1, rfl, rfl, trivial⟩
    exact IA.type.andThen (PySem.W.looks_subIn I1.kIn S.hB)
  have hmm := S.hm
  unfold PySem.W.ks_superIn at hmm
  rw [hcl] at hmm
  have hmm : PySem.W.alongIn X.K "__init__" (((Value.ref C :: bm).dropWhile (· != .ref C)).drop 1) = some (some (.builtin "ValueError.__init__")) := hmm
  refine PySem.W.kxs_getMethod PySem.W.kxs_ValueError hso (PySem.W.looks_opaque I1.kIn S.third) (l₀ := .ref C :: bm) (l := ((Value.ref C :: bm).dropWhile (· != .ref C)).drop 1) ?_ rfl I1.kIn hmm LI hne (by decide) ?_
  · exact fun A Q E s k q => wpAny_bind ((PySem.W.looks_clsIn I1.kIn hcl) A _ E s k (wpAny_pure q))
  have k2' : ∀ b o, h1.get? b = some o → (h1.push (PySem.W.kxs_mw "ValueError.__init__" a)).get? b = some o := fun b o e => Heap.get?_push_of_some _ e
  have I2 : Inv X pins σ H ⟨h1.push (PySem.W.kxs_mw "ValueError.__init__" a), g, d, t + 1, os⟩ := I1.kept (t' := t + 1) k2'
  have hu : (h1.push (PySem.W.kxs_mw "ValueError.__init__" a)).get? h1.objs.size = some (PySem.W.kxs_mw "ValueError.__init__" a) := Heap.get?_push_at rfl rfl
  have I3 : Inv X ((h1.objs.size, PySem.W.kxs_mw "ValueError.__init__" a) :: pins) σ H ⟨h1.push (PySem.W.kxs_mw "ValueError.__init__" a), g, d, t + 1, os⟩ := by
    refine I2.pins_of fun p hp => ?_
    rcases List.mem_cons.mp hp with rfl | hp
    · refine ⟨hu, I1.hok.fresh (Nat.le_refl _), fun z => ?_, fun hm => ?_, fun v z => by cases z⟩
      · have z' : h1.objs.size = X.env.locals := z
        have := I1.lt
        rw [← z'] at this
        exact Nat.lt_irrefl _ this
      · obtain ⟨_, o, e, _⟩ := I1.ok.funs.mem hm
        obtain ⟨o', e'⟩ := I1.base.there _ o e (by rw [hx]; simp)
        exact absurd (Heap.lt_size e') (Nat.lt_irrefl _)
    · exact I2.pin p (List.mem_append_right _ hp)
  refine PySem.W.kxs_callWith (i := "ValueError.__init__") (x := a) (by rfl) ?_
  refine Calls.evalArgs_plain ?_
  have ha' : PA X [.Constant (.str m) j p3] (tCons (tC (.str m)) tNil) := pa_cons pe_str pa_nil
  refine thn (ha'.run p4 _ _ σ H (fun vs H1 => vs = [V.str m] ∧ H1 = H) I3 ⟨rfl, rfl⟩) fun us s3 hh => ?_
  obtain ⟨vs', H3, I4, r4, ev, eH⟩ := hh
  subst ev
  subst eH
  obtain ⟨hu4, _⟩ := I4.pin (h1.objs.size, PySem.W.kxs_mw "ValueError.__init__" a) (List.mem_append_right _ List.mem_cons_self)
  refine ⟨hu4, ?_⟩
  cases r4 with
  | cons ru rn =>
    cases rn
    obtain ⟨hp4, g4, d4, t4, os4⟩ := s3
    obtain ⟨t5, hea4⟩ := exo_at I4.hok ha
    refine sup_call (I4.kIn _ _ hC) hea4 hu4 (by show 1 ≤ sizeLine; rw [sizeLine_eq]; omega) fun h' t6 k hx' => ?_
    have J := I4.write (t' := t4) (x := a) (e := a) (o := exo a C none) (by rw [ha]; exact True.intro) (.inl rfl) k ⟨_, hx'⟩ (exo_ok hx')
    have eu : upd H3 a (exo a C none) = H3 := by
      funext b
      by_cases hb : b = a
      · rw [hb, upd_same, ha]
      · rw [upd_ne hb]
    rw [eu] at J
    exact ⟨rfl, J.pins_of fun p hp => J.pin p (List.mem_append_right _ (List.mem_cons_of_mem _ hp))⟩

/-! ### such an __init__ as a def -/
structure SupScope (N P : List Str) (sc : Scope) : Prop where
  kind : sc.kind = .function
  co : sc.isCoroutine = false
  gen : sc.isGenerator = false
  nd : N.Nodup
  pre : N.take P.length = P
  par : ∀ x ∈ P, sc.names.lookup x = some .local
  nocell : ∀ y ∈ sc.names, y.2 ≠ .cell
  free : ∀ y ∈ sc.names, y.2 = .free → y.1 = "__class__"
/-- the context of its body -/
def cxS (CX : CXT) (P : Program) (w : World) (K : PySem.W.Frag) (mg : Str → Option Value) (base : Heap) (N : List Str) (qual : Str) (scope : Scope) (f : Addr) (cd : Value) (cc : Addr) (A : Around) (outer : List PySem.Env) (s : Shared) (H : Hp) (E : XK) : Cx where
  prog := P
  w := w
  K := K
  mg := mg
  base := base
  A := A.deeper (PySem.W.ksEnv qual scope s.heap.objs.size f cd cc)
  N := N
  s_0 := s
  H_0 := H
  env := PySem.W.ksEnv qual scope s.heap.objs.size f cd cc
  outer := outer
  stack := PySem.W.ksEnv qual scope s.heap.objs.size f cd cc :: outer
  ex := []
  calm := true
  fn := fun x => !(x == "__class__")
  pn := []
  xe := fun e s' => wpAny (model P w) (A.deeper (PySem.W.ksEnv qual scope s.heap.objs.size f cd cc)) (leaving (PySem.W.ksEnv qual scope s.heap.objs.size f cd cc) e) (fun _ s'' => CX outer H s E e s'') (fun e' s'' => CX outer H s E e' s'') s'
theorem lookup_keys {y : Str} {u : Value} : ∀ {l : List (Str × Value)}, (l.map Prod.fst).Nodup → (y, u) ∈ l → l.lookup y = some u
  | [], _, h => by cases h
  | (z, v) :: l, nd, h => by
    rw [List.map_cons, List.nodup_cons] at nd
    rcases List.mem_cons.mp h with e | h'
    · cases e; simp [List.lookup]
    · have hz : y ≠ z := fun e => nd.1 (by subst e; exact List.mem_map.mpr ⟨(y, u), h', rfl⟩)
      have hb : (y == z) = false := beq_eq_false_iff_ne.mpr hz
      simp only [List.lookup, hb]
      exact lookup_keys nd.2 h'
theorem zip_keys : ∀ {ps : List Str} {us : List Value}, ps.Nodup → ((ps.zip us).map Prod.fst).Nodup
  | [], _, _ => by simp
  | _ :: _, [], _ => by simp
  | p :: ps, u :: us, h => by
    rw [List.nodup_cons] at h
    rw [List.zip_cons_cons, List.map_cons, List.nodup_cons]
    refine ⟨fun hm => ?_, zip_keys h.2⟩
    obtain ⟨⟨a, b⟩, h1, h2⟩ := List.mem_map.mp hm
    have h2 : a = p := h2
    subst h2
    exact h.1 (List.of_mem_zip h1).1
theorem zip_get : ∀ {ps : List Str} {us : List Value} {i : Nat} {y : Str} {u : Value}, ps[i]? = some y → us[i]? = some u → (y, u) ∈ ps.zip us
  | _ :: _, _ :: _, 0, _, _, h1, h2 => by simp at h1 h2; subst h1; subst h2; exact List.mem_cons_self
  | _ :: _, _ :: _, i + 1, _, _, h1, h2 => by
    rw [List.zip_cons_cons]
    exact List.mem_cons_of_mem _ (zip_get (i := i) (by simpa using h1) (by simpa using h2))
  | [], _, _, _, _, h1, _ => by simp at h1
  | _ :: _, [], _, _, _, _, h2 => by simp at h2
theorem zip_rev_get {ps : List Str} {us : List Value} {i : Nat} {y : Str} {u : Value} (nd : ps.Nodup) (h1 : ps[i]? = some y) (h2 : us[i]? = some u) : (ps.zip us).reverse.lookup y = some u := by
  refine lookup_keys ?_ (List.mem_reverse.mpr (zip_get h1 h2))
  rw [List.map_reverse]
  exact (List.reverse_perm _).nodup_iff.mpr (zip_keys nd)
theorem inv_startS {CX : CXT} {P : Program} {w : World} {K : PySem.W.Frag} {mg : Str → Option Value} {base : Heap} {N ps : List Str} {qual : Str} {scope : Scope} {f : Addr} {cd : Value} {cc : Addr} {A : Around} {outer : List PySem.Env} {s : Shared} {h1 : Heap} {tk : Nat} {H : Hp} {E : XK} {us : List Value} {vs : List V}
    (S : SupScope N ps scope) (hd : A.handled = none) (e0 : Env0 P w K mg base A outer s H) (hl : vs.length = ps.length) (r : Vals vs us) (hcell : ∃ o v, K.lookup cc = some o ∧ o.data = .cell v)
    (hns : h1.Ns s.heap.objs.size (fun x => (ps.zip us).reverse.lookup x)) (hk : ∀ b o, s.heap.get? b = some o → h1.get? b = some o) :
    Inv (cxS CX P w K mg base N qual scope f cd cc A outer s H E) [] (L2.start N vs) H { s with heap := h1, toks := tk } := by
  have hpl : ps.length ≤ N.length := by have := congrArg List.length S.pre; rw [List.length_take] at this; omega
  have noA : ∀ b : Addr, b ∉ (cxS CX P w K mg base N qual scope f cd cc A outer s H E).ex := fun b z => absurd (show b ∈ ([] : List Addr) from z) (by simp)
  have hcl : ∀ x c, ([(("__class__" : Str), cc)] : List (Str × Addr)).lookup x = some c → x = "__class__" ∧ c = cc := fun x c h => by
    by_cases hx : x = "__class__"
    · subst hx; simp [List.lookup] at h; exact ⟨rfl, h.symm⟩
    · have hb : (x == ("__class__" : Str)) = false := beq_eq_false_iff_ne.mpr hx
      simp only [List.lookup, hb] at h; cases h
  have KX : K.In s.heap := e0.mod.kin.keeps fun b o e => (e0.bs b o e).1
  obtain ⟨oc, vc, hc1, hc2⟩ := hcell
  refine ⟨⟨e0.mod, S.kind, rfl, rfl, Nat.le_refl _, fun y z c h1 h2 => ?_, fun y hy => ?_, fun y c hf h => ?_, fun _ => hd, Around.frames_deeper e0.frames, .inr ⟨rfl, rfl⟩, fun b z => absurd z (noA b), e0.bs, e0.bsz, fun b _ _ => noA b, fun b z => absurd z (noA b), e0.funs, e0.frf⟩,
    rfl, e0.bare, Un.kept hk, ⟨_, hns, fun i y v h1 h2 h3 => ?_⟩, fun y c h => ?_, e0.hok.fresh (Nat.le_refl _), fun y c h => ?_, fun p hp => absurd (show p ∈ ([] : List (Addr × Obj)) from hp) (by simp), e0.hok.kept hk, ?_⟩
  · rw [(hcl y c h1).1, (hcl z c h2).1]
  · have hy : scope.names.lookup y = some .cell ∨ scope.names.lookup y = some .free := hy
    rcases hy with hy | hy
    · exact absurd rfl (S.nocell _ (PySem.mem_of_lookup hy))
    · have := S.free _ (PySem.mem_of_lookup hy) rfl
      have e : y = "__class__" := this
      subst e
      exact ⟨cc, by show ([(("__class__" : Str), cc)] : List (Str × Addr)).lookup ("__class__" : Str) = some cc; simp [List.lookup]⟩
  · have e := (hcl y c h).1
    have hf : (!(y == ("__class__" : Str))) = true := hf
    rw [e] at hf
    exact absurd hf (by simp)
  · have hi : i < vs.length := by
      unfold L2.start at h2
      by_cases hi : i < vs.length
      · exact hi
      · rw [List.getElem?_append_right (by simpa using hi)] at h2
        rw [List.getElem?_replicate] at h2
        split at h2 <;> cases h2
    have ha : vs[i]? = some v := by
      unfold L2.start at h2
      rw [List.getElem?_append_left (by simpa using hi), List.getElem?_map] at h2
      cases e : vs[i]? with
      | none => rw [e] at h2; cases h2
      | some a => rw [e] at h2; cases h2; rfl
    obtain ⟨u, hu, rv⟩ := r.get ha
    have hp : ps[i]? = some y := by
      rw [← S.pre, List.getElem?_take_of_lt (by omega)]; exact h1
    have ndP : ps.Nodup := by rw [← S.pre]; exact S.nd.sublist (List.take_sublist _ _)
    exact ⟨u, rv, .inl ⟨S.par y (List.mem_of_getElem? hp), zip_rev_get ndP hp hu⟩⟩
  · have e := (hcl y c h).2
    subst e
    exact ⟨vc, _, hk _ _ (KX _ _ hc1), hc2⟩
  · have e := (hcl y c h).2
    subst e
    exact (e0.bs _ _ (e0.mod.kin _ _ hc1)).2
  · unfold L2.start
    show _ = N.length
    rw [List.length_append, List.length_map, List.length_replicate]
    omega
/-- the rule: the __init__ whose first statement is super().__init__('..') -/
theorem fn_sup {CX : CXT} {P : Program} {w : World} {K : PySem.W.Frag} {mg : Str → Option Value} {base : Heap} {k : Nat} {f C cda cc : Addr} {name qual : Str} {params : Arguments} {rest : List Stmt} {scope : Scope} {dV kV doc pm ct oc : Value} {an od : Option Addr}
    {osl : Array (Option Value)} {N ps : List Str} {sp : Sp} {ar : Arg} {m : Str} {j} {p0 p1 p2 p3 p4 p5 : Pos}
    (lk : K.lookup f = some ⟨oc, od, .func (PySem.W.ksFn name qual params (.Expr (.Call (.Attribute (.Call (.Name "super" p0) [] [] p1) "__init__" p2) [.Constant (.str m) j p3] [] p4) p5 :: rest) scope dV kV doc pm an (.ref cda) ct cc), osl⟩)
    (hcd : PySem.W.codeIn K (.ref cda) qual = true) (S : SupScope N ps scope) (SC : SupC K mg P C cda cc) (hp : (params.posonlyargs ++ params.args).head? = some ar) (hN : N[0]? = some ar.arg) (hP : ps[0]? = some ar.arg)
    (hks : scope.names.lookup ("super" : Str) = some .globalImplicit) (hkc : scope.names.lookup ("__class__" : Str) = some .free)
    (len : ∀ vs H Q E, sp vs H Q E → vs.length = ps.length) (hself : ∀ vs H Q E, sp vs H Q E → ∃ a ws, vs = .ref a :: ws ∧ H a = some (exo a C none))
    (hbody : ∀ (A : Around) (outer : List PySem.Env) (s : Shared) (H : Hp) (vs : List V) (Q : VK) (E : XK), sp vs H Q E →
      ∃ t, PSs (cxS CX P w K mg base N qual scope f (.ref cda) cc A outer s H E) rest t ∧ t { nx := fun _ H' => Q .non H', rt := Q } (L2.start N vs) H)
    (hin : ∀ L, interactive (PySem.W.ksEnv qual scope L f (.ref cda) cc) = false := by intro _; rfl)
    (hsw : ∀ L, swapsWith (.Call (.Attribute (.Call (.Name "super" p0) [] [] p1) "__init__" p2) [.Constant (.str m) j p3] [] p4) none p5.line (PySem.W.ksEnv qual scope L f (.ref cda) cc) = pure false := by intro _; rfl)
    {pl : Addr → Sem Bool} (hev : ∀ L, eval (.Call (.Attribute (.Call (.Name "super" p0) [] [] p1) "__init__" p2) [.Constant (.str m) j p3] [] p4) (PySem.W.ksEnv qual scope L f (.ref cda) cc) = (do
      let ov ← attributeBase (.Call (.Name "super" p0) [] [] p1) "__init__" (PySem.W.ksEnv qual scope L f (.ref cda) cc) (eval (.Call (.Name "super" p0) [] [] p1) (PySem.W.ksEnv qual scope L f (.ref cda) cc))
      standAt p2.atName
      let (g, first) ← holding [ov] (getMethod ov "__init__" (pl L))
      callWith p4 g first (backTo p4 (starEach [.Constant (.str m) j p3] (PySem.W.ksEnv qual scope L f (.ref cda) cc))) []) := by intro _; rfl) :
    FnOk P w K mg base CX (k + 1) f (PySem.W.ksFn name qual params (.Expr (.Call (.Attribute (.Call (.Name "super" p0) [] [] p1) "__init__" p2) [.Constant (.str m) j p3] [] p4) p5 :: rest) scope dV kV doc pm an (.ref cda) ct cc) ps sp := by
  refine ⟨len, fun A outer s H args us vs Q E hr e0 hb r hsp => ?_⟩
  have hl := len _ _ _ _ hsp
  have KX : K.In s.heap := e0.mod.kin.keeps fun b o e => (e0.bs b o e).1
  have lim : s.heap.NoLimit := e0.mod.nolimit.keeps fun b o e => (e0.bs b o e).1
  have hloc : ∀ y ∈ ps.zip us, scope.names.lookup y.1 = some .local := fun ⟨n, v⟩ hy => S.par n (List.of_mem_zip hy).1
  obtain ⟨a, ws, ev, ha⟩ := hself _ _ _ _ hsp
  obtain ⟨cl, cld, csl, hcell⟩ := SC.cell
  refine ks_codeAny_call_defAt (binds := ps.zip us) hr.depth (KX _ _ lk) rfl lim (PySem.W.codeRec_of KX hcd) rfl hb S.nocell hloc (fun h₀ hns hk => ?_) S.co S.gen S.kind
  have I : Inv (cxS CX P w K mg base N qual scope f (.ref cda) cc A outer s H E) [] (L2.start N vs) H { s with heap := h₀, toks := s.toks + (ps.zip us).length } := inv_startS S hr.hd e0 hl r ⟨_, _, hcell, rfl⟩ hns hk
  obtain ⟨t, ht, hq⟩ := hbody A outer s H vs Q E hsp
  have h00 : (L2.start N vs)[0]? = some (some (.ref a)) := by
    subst ev
    unfold L2.start
    rfl
  have hka : scope.names.lookup ar.arg = some .local := S.par _ (List.mem_of_getElem? hP)
  have fin : ∀ {σ' : L2.St} {H' : Hp} {v : V} {u : Value} {s' : Shared}, Inv (cxS CX P w K mg base N qual scope f (.ref cda) cc A outer s H E) [] σ' H' s' → RelV v u → Q v H' → CE outer P w H s Q u s' :=
    fun {σ' H' v u s'} J rv q => ⟨v, H', J.os, J.bare, J.base, J.hok, rv, q⟩
  refine ks_wpAt_execs_cons (ks_wpAt_mono (sup_stmt (X := cxS CX P w K mg base N qual scope f (.ref cda) cc A outer s H E) (pl := pl s.heap.objs.size) SC I rfl hks hkc rfl lk hp hN hka rfl (by show ([(("__class__" : Str), cc)] : List (Str × Addr)).lookup ("__class__" : Str) = some cc; simp [List.lookup]) h00 ha (hin _) (hsw _) (hev _)) (fun fl s' hs => ?_) fun _ _ z => z)
  obtain ⟨rfl, J⟩ := hs
  refine _root_.PySem.wpAt_of_wpAny (wpAny_mono (ht.run [] s' (L2.start N vs) H _ J hq) (fun fl s2 hs => ?_) fun e s' hs => hs)
  cases fl with
  | ret u =>
    obtain ⟨v, σ', H', J, rv, q⟩ := hs
    exact fin J rv q
  | next =>
    obtain ⟨σ', H', J, q⟩ := hs
    exact fin (v := V.non) (u := Value.none) J rfl q
  | brk =>
    obtain ⟨_, _, _, q⟩ := hs
    exact False.elim q
  | cont =>
    obtain ⟨_, _, _, q⟩ := hs
    exact False.elim q
end Dl

end

section
set_option linter.all false
set_option Elab.async false
set_option maxRecDepth 100000
set_option Elab.async false
set_option linter.all false
set_option maxRecDepth 100000
set_option maxHeartbeats 4000000
/-! DlExc: raise of an own error, try with except C as e. -/
namespace Dl
open PySem PySem.Spec PyProof.Rows L2

/-! ### the fields that __init__ stores -/
def tFlds (K : PySem.W.Frag) : Nat → List Str → TS
  | _, [] => tNext
  | i, f :: fl => tSeq (tOst K f (tVar 0) (tVar i)) (tFlds K (i + 1) fl)
inductive FldStmts (X : Cx) : Nat → List Str → List Stmt → Prop where
  | nil (i : Nat) : FldStmts X i [] []
  | cons {i : Nat} {f : Str} {fl : List Str} {st : Stmt} {rest : List Stmt} (h : PS X st (tOst X.K f (tVar 0) (tVar i))) (r : FldStmts X (i + 1) fl rest) : FldStmts X i (f :: fl) (st :: rest)
theorem FldStmts.pss {X : Cx} {i : Nat} {fl : List Str} {sts : List Stmt} (h : FldStmts X i fl sts) : PSs X sts (tFlds X.K i fl) := by
  induction h with
  | nil => exact pss_nil
  | cons h r ih => exact pss_cons h ih
theorem upd2 {H : Hp} {a d : Addr} {o1 o2 u : HO} (h : d ≠ a) : upd (upd (upd H d o1) a u) d o2 = upd (upd H d o2) a u := by
  funext b
  by_cases hb : b = d
  · subst hb
    rw [upd_same, upd_ne h, upd_same]
  · rw [upd_ne hb]
    by_cases hb2 : b = a
    · subst hb2; rw [upd_same, upd_same]
    · rw [upd_ne hb2, upd_ne hb2, upd_ne hb, upd_ne hb]
theorem flds_more {K : PySem.W.Frag} {σ : L2.St} {H : Hp} {D : Ends} {a C d : Addr} (T : OexC K C) (hd : d ≠ a) (h0 : σ[0]? = some (some (.ref a))) : ∀ {fl : List Str} {ws : List V} {i : Nat} {fs : List (Str × V)}, (∀ f ∈ fl, PySem.W.findIn K (.ref C) f = some none) →
    (∀ k w, ws[k]? = some w → σ[i + k]? = some (some w)) → ws.length = fl.length → fs.length + fl.length ≤ 900 → D.nx σ (upd (upd H d (exd d ((fl.zip ws).reverse ++ fs))) a (exo a C (some d))) → tFlds K i fl D σ (upd (upd H d (exd d fs)) a (exo a C (some d)))
  | [], ws, i, fs, _, _, _, _, q => by
    have q' : D.nx σ (upd (upd H d (exd d fs)) a (exo a C (some d))) := by simpa using q
    exact q'
  | f :: fl, [], i, fs, _, _, hl, _, _ => by simp at hl
  | f :: fl, w :: ws, i, fs, hno, hw, hl, hn, q => by
    refine ⟨w, by simpa using hw 0 w rfl, .ref a, h0, a, C, rfl, T, hno f List.mem_cons_self, .inr ⟨d, fs, upd_same, by rw [upd_ne hd, upd_same], by omega, ?_⟩⟩
    rw [upd2 hd]
    refine flds_more T hd h0 (fun g hg => hno g (List.mem_cons_of_mem _ hg)) (fun k v hk => ?_) (by simpa using hl) (by simp at hn ⊢; omega) ?_
    · rw [Nat.add_assoc, Nat.add_comm 1 k]
      exact hw (k + 1) v (by simpa using hk)
    · rw [List.zip_cons_cons, List.reverse_cons, List.append_assoc] at q
      exact q
theorem flds_all {K : PySem.W.Frag} {σ : L2.St} {H : Hp} {D : Ends} {a C : Addr} (T : OexC K C) (h0 : σ[0]? = some (some (.ref a))) (ha : H a = some (exo a C none)) {fl : List Str} {ws : List V} (hne : fl ≠ []) (hno : ∀ f ∈ fl, PySem.W.findIn K (.ref C) f = some none)
    (hw : ∀ k w, ws[k]? = some w → σ[1 + k]? = some (some w)) (hl : ws.length = fl.length) (hn : fl.length ≤ 800) (q : ∀ d, H d = none → d ≠ a → D.nx σ (upd (upd H d (exd d ((fl.zip ws).reverse))) a (exo a C (some d)))) : tFlds K 1 fl D σ H := by
  cases fl with
  | nil => exact absurd rfl hne
  | cons f fl =>
    cases ws with
    | nil => simp at hl
    | cons w ws =>
      refine ⟨w, by simpa using hw 0 w rfl, .ref a, h0, a, C, rfl, T, hno f List.mem_cons_self, .inl ⟨ha, fun dx n ne => ?_⟩⟩
      refine flds_more T ne h0 (fun g hg => hno g (List.mem_cons_of_mem _ hg)) (fun k v hk => ?_) (by simpa using hl) (by simp at hn ⊢; omega) ?_
      · rw [Nat.add_assoc, Nat.add_comm 1 k]
        exact hw (k + 1) v (by simpa using hk)
      · have := q dx n ne
        rw [List.zip_cons_cons, List.reverse_cons] at this
        exact this
/-- what the __init__ of the class at C promises -/
def spX (C : Addr) (fl : List Str) : Sp := fun vs H Q _ => ∃ a ws, vs = .ref a :: ws ∧ ws.length = fl.length ∧ H a = some (exo a C none) ∧ ∀ d, H d = none → d ≠ a → Q .non (upd (upd H d (exd d ((fl.zip ws).reverse))) a (exo a C (some d)))
/-- an error class of the text with its own __init__, and its fields -/
structure XT (P : Program) (w : World) (K : PySem.W.Frag) (mg : Str → Option Value) (base : Heap) (lv : Nat) (C : String) (fl : List String) : Prop where
  ex : ∃ (c f : Addr) (fd : FuncData) (ps : List Str), mg (Str.ofString C) = some (.ref c) ∧ OexC K c ∧ PySem.W.findIn K (.ref c) "__init__" = some (some (.ref f)) ∧ PySem.W.typeIn K (.ref f) = some (.type "function") ∧ FnOk P w K mg base (L2.CX P w) lv f fd ps (spX c (fl.map Str.ofString)) ∧ Binds K fd ps []
theorem fn_flds {P : Program} {w : World} {K : PySem.W.Frag} {mg : Str → Option Value} {base : Heap} {k : Nat} {f C cda cc : Addr} {name qual : Str} {params : Arguments} {rest : List Stmt} {scope : Scope} {dV kV doc pm ct oc : Value} {an od : Option Addr}
    {osl : Array (Option Value)} {N ps fl : List Str} {ar : Arg} {m : Str} {j} {p0 p1 p2 p3 p4 p5 : Pos}
    (lk : K.lookup f = some ⟨oc, od, .func (PySem.W.ksFn name qual params (.Expr (.Call (.Attribute (.Call (.Name "super" p0) [] [] p1) "__init__" p2) [.Constant (.str m) j p3] [] p4) p5 :: rest) scope dV kV doc pm an (.ref cda) ct cc), osl⟩)
    (hcd : PySem.W.codeIn K (.ref cda) qual = true) (S : SupScope N ps scope) (SC : SupC K mg P C cda cc) (hp : (params.posonlyargs ++ params.args).head? = some ar) (hN : N[0]? = some ar.arg) (hP : ps[0]? = some ar.arg)
    (hks : scope.names.lookup ("super" : Str) = some .globalImplicit) (hkc : scope.names.lookup ("__class__" : Str) = some .free)
    (hne : fl ≠ []) (hlen : ps.length = fl.length + 1) (hn : fl.length ≤ 800) (hno : ∀ f ∈ fl, PySem.W.findIn K (.ref C) f = some none)
    (hbody : ∀ (A : Around) (outer : List PySem.Env) (s : Shared) (H : Hp) (E : XK), FldStmts (cxS (L2.CX P w) P w K mg base N qual scope f (.ref cda) cc A outer s H E) 1 fl rest)
    (hin : ∀ L, interactive (PySem.W.ksEnv qual scope L f (.ref cda) cc) = false := by intro _; rfl)
    (hsw : ∀ L, swapsWith (.Call (.Attribute (.Call (.Name "super" p0) [] [] p1) "__init__" p2) [.Constant (.str m) j p3] [] p4) none p5.line (PySem.W.ksEnv qual scope L f (.ref cda) cc) = pure false := by intro _; rfl)
    {pl : Addr → Sem Bool} (hev : ∀ L, eval (.Call (.Attribute (.Call (.Name "super" p0) [] [] p1) "__init__" p2) [.Constant (.str m) j p3] [] p4) (PySem.W.ksEnv qual scope L f (.ref cda) cc) = (do
      let ov ← attributeBase (.Call (.Name "super" p0) [] [] p1) "__init__" (PySem.W.ksEnv qual scope L f (.ref cda) cc) (eval (.Call (.Name "super" p0) [] [] p1) (PySem.W.ksEnv qual scope L f (.ref cda) cc))
      standAt p2.atName
      let (g, first) ← holding [ov] (getMethod ov "__init__" (pl L))
      callWith p4 g first (backTo p4 (starEach [.Constant (.str m) j p3] (PySem.W.ksEnv qual scope L f (.ref cda) cc))) []) := by intro _; rfl) :
    FnOk P w K mg base (L2.CX P w) (k + 1) f (PySem.W.ksFn name qual params (.Expr (.Call (.Attribute (.Call (.Name "super" p0) [] [] p1) "__init__" p2) [.Constant (.str m) j p3] [] p4) p5 :: rest) scope dV kV doc pm an (.ref cda) ct cc) ps (spX C fl) := by
  refine fn_sup lk hcd S SC hp hN hP hks hkc (fun vs H Q E h => ?_) (fun vs H Q E h => ?_) (fun A outer s H vs Q E h => ?_) hin hsw hev
  · obtain ⟨a, ws, rfl, hl, _⟩ := h
    rw [List.length_cons, hl, hlen]
  · obtain ⟨a, ws, rfl, _, ha, _⟩ := h
    exact ⟨a, ws, rfl, ha⟩
  · obtain ⟨a, ws, rfl, hl, ha, q⟩ := h
    refine ⟨_, (hbody A outer s H E).pss, ?_⟩
    refine flds_all SC.T (a := a) (C := C) (ws := ws) ?_ ha hne hno (fun k v hk => ?_) hl hn q
    · unfold L2.start; rfl
    · unfold L2.start
      have hk' : k < ws.length := (List.getElem?_eq_some_iff.mp hk).1
      rw [Nat.add_comm, List.getElem?_append_left (by simp; omega)]
      simp [hk]

/-! ### raise -/
theorem Rfs.append {K : PySem.W.Frag} {mg : Str → Option Value} {H : Hp} {ι : List Addr} : ∀ {vs ws : List (Str × V)} {ds es : List (String × D)}, Rfs K mg H ι vs ds → Rfs K mg H ι ws es → Rfs K mg H ι (vs ++ ws) (ds ++ es)
  | _, _, _, _, .nil, h => h
  | _, _, _, _, .cons p r, h => .cons p (Rfs.append r h)
theorem Rfs.zipRev {K : PySem.W.Frag} {mg : Str → Option Value} {H : Hp} {ι : List Addr} : ∀ {vs : List V} {ds : List D} {fl : List String}, Rps K mg H ι vs ds → Rfs K mg H ι ((fl.map Str.ofString).zip vs).reverse (fl.zip ds).reverse
  | _, _, [], _ => .nil
  | _, _, _ :: _, .nil => .nil
  | _, _, f :: fl, .cons p r => by
    rw [List.map_cons, List.zip_cons_cons, List.zip_cons_cons, List.reverse_cons, List.reverse_cons]
    exact Rfs.append (Rfs.zipRev r) (.cons p .nil)
theorem PostS.seqA {K : PySem.W.Frag} {mg : Str → Option Value} {W : WX} {σ : L2.St} {δ : Dl.Env} {H : Hp} {ι : List Addr} {S : Store} {r : Res (List D)} {f : List D → Store → Res Flow} {D : Ends} (rl : Rel K mg H ι σ δ S) (h : PostS K mg W D H ι (r.thenS δ f))
    {Q' : List V → Hp → Prop} (q : ∀ v H' ι' d S', r = .ok d S' → Grow K H ι H' ι' → RS K mg H' ι' S' → Rps K mg H' ι' v d → PostS K mg W D H' ι' (f d S') → Q' v H') : PostA K mg W σ H ι r Q' := by
  cases r with
  | ok d S => exact fun v H' ι' a b c => q v H' ι' d S rfl a b c (h.back a)
  | exc e S => exact fun c dx H' ι' g q z => h c dx σ H' ι' g (rl.mono g q) z
  | stuck => exact h
section
variable {X : Cx} {W : WX} {e o a b c : Expr} {es : List Expr} {m m' : EM} {ms : List EM} {p pos pos' apos : Pos} {k n lv : Nat} {x : Str}
theorem ss_raise {C : String} {fl : List String} (hc : X.calm = true) (hr : Room (k + 1) X.A) (tk : Takes X W) (T : XT X.prog X.w X.K X.mg X.base lv C fl) (hk : lv ≤ k) (hg : Gl X x) (hx : x = Str.ofString C) (ha : SA X W (e :: es) ms) (hn : fl.length ≤ 800)
    (hdb : (x == ("__debug__" : Str)) = false := by decide) (he : starEach (e :: es) X.env = (false, eval e X.env) :: starEach es X.env := by rfl) (hpl : (backTo pos (starEach es X.env)).any (·.1) = false := by rfl) :
    SS X W (.Raise (some (.Call (.Name x p) (e :: es) [] pos)) none pos') (raiseS C fl ms) := by
  subst hx
  obtain ⟨c, f, fd, ps, h1, h2, h3, h4, h5, h6⟩ := T.ex
  refine ps_imp (ps_raise hc tk (pmk_oex (ds := []) (dvs := []) (k := k) h2 h3 h4 (h5.mono hk) hr h6 .nil passL hg h1 ha hdb he hpl)) fun D σ H q => ?_
  obtain ⟨δ, S, ι, rl, q⟩ := q
  refine ⟨δ, S, ι, rl, ?_⟩
  refine PostS.seqA (f := fun ds S1 => if ds.length = fl.length then .ok (.ex ⟨C, (fl.zip ds).reverse⟩ δ) S1 else .stuck) rl q fun vs H1 ι1 ds S1 _ g1 r1 q1 q2 => ?_
  split at q2
  · rename_i hl
    have hvl : vs.length = fl.length := by rw [q1.length]; exact hl
    refine ⟨by rw [hvl]; omega, fun a ha => ?_⟩
    refine ⟨a, vs ++ [], rfl, by simp [hvl], upd_same, fun d hd hda => ⟨rfl, d, _, upd_same, by rw [upd_ne hda, upd_same], by rw [upd_ne hda] at hd; exact hd, ?_⟩⟩
    have hd1 : H1 d = none := by rw [upd_ne hda] at hd; exact hd
    have eH : ∀ (u w : HO) fs, upd (del (upd (upd (upd H1 a u) d (exd d fs)) a w) a) d (.xd fs) = upd H1 d (.xd fs) := fun u w fs => by
      funext b
      by_cases hb : b = d
      · subst hb; rw [upd_same, upd_same]
      · rw [upd_ne hb, upd_ne hb]
        by_cases hb2 : b = a
        · subst hb2; rw [del_same, ha]
        · rw [del_ne hb2, upd_ne hb2, upd_ne hb, upd_ne hb2]
    rw [eH, List.append_nil]
    have g2 : Grow X.K H1 ι1 (upd H1 d (.xd (((fl.map Str.ofString).zip vs).reverse))) ι1 := Grow.new hd1
    exact q2 _ _ _ _ _ g2 (rl.mono (g1.trans g2) (r1.new hd1)) ⟨c, rfl, h1, _, upd_same, Rfs.zipRev (q1.mono g2)⟩
  · exact q2.elim
end
end Dl

end

section
set_option linter.all false
set_option Elab.async false
set_option maxRecDepth 100000
set_option Elab.async false
set_option linter.all false
set_option maxRecDepth 100000
set_option maxHeartbeats 4000000
/-! DlTry: try: .. except C as e: <suite>, the suite a row of ifs whose branches return. -/
namespace Dl
open PySem PySem.Spec PyProof.Rows L2

/-- the exception e that the suite holds at slot i -/
def tHT (K : PySem.W.Frag) (mg : Str → Option Value) (i : Nat) (a : Addr) (cls : Value) (d : Option Addr) (p : Exc → Option Bool) : TT := fun σ H Q => σ[i]? = some (some (.ref a)) ∧ ∃ e ι S, RS K mg H ι S ∧ RX K mg H ι e cls d ∧ ∃ b, p e = some b ∧ ∀ H', Grow K H ι H' ι → RS K mg H' ι S → RX K mg H' ι e cls d → Q b H'
def tHE (K : PySem.W.Frag) (mg : Str → Option Value) (i : Nat) (a : Addr) (cls : Value) (d : Option Addr) (h : Exc → Option D) : TE := fun σ H Q => σ[i]? = some (some (.ref a)) ∧ ∃ e ι S, RS K mg H ι S ∧ RX K mg H ι e cls d ∧ ∃ dv, h e = some dv ∧ ∀ v, Rp K mg H ι v dv → Q v H
def tHA (K : PySem.W.Frag) (mg : Str → Option Value) (i : Nat) (a : Addr) (cls : Value) (d : Option Addr) (h : Exc → Option (List D)) : TA := fun σ H Q => σ[i]? = some (some (.ref a)) ∧ ∃ e ι S, RS K mg H ι S ∧ RX K mg H ι e cls d ∧ ∃ dv, h e = some dv ∧ ∀ v, Rps K mg H ι v dv → Q v H
def tHS (K : PySem.W.Frag) (mg : Str → Option Value) (i : Nat) (a : Addr) (cls : Value) (d : Option Addr) (h : Exc → Option D) : TS := fun D σ H => σ[i]? = some (some (.ref a)) ∧ ∃ e ι S, RS K mg H ι S ∧ RX K mg H ι e cls d ∧ ∃ dv, h e = some dv ∧ ∀ v H' ι', Grow K H ι H' ι' → RS K mg H' ι' S → Rp K mg H' ι' v dv → D.rt v H'
section
variable {X : Cx} {i : Nat} {e c : Expr} {es : List Expr} {pos p pos' : Pos} {x : Str}
/-- in every suite -/
def InS (P : Addr → Obj → Value → Option Addr → List (Addr × Obj) → Prop) : Prop := ∀ (a : Addr) (oe : Obj) (cls : Value) (d : Option Addr) (pn : List (Addr × Obj)), Zc cls d oe → (∃ vs, oe.data = .fields vs) → P a oe cls d pn
abbrev SHT (X : Cx) (i : Nat) (e : Expr) (p : Exc → Option Bool) : Prop := InS fun a oe cls d pn => PT (X.suite a ((a, oe) :: pn)) e (tHT X.K X.mg i a cls d p)
abbrev SHE (X : Cx) (i : Nat) (e : Expr) (h : Exc → Option D) : Prop := InS fun a oe cls d pn => PE (X.suite a ((a, oe) :: pn)) e (tHE X.K X.mg i a cls d h)
abbrev SHA (X : Cx) (i : Nat) (es : List Expr) (h : Exc → Option (List D)) : Prop := InS fun a oe cls d pn => PA (X.suite a ((a, oe) :: pn)) es (tHA X.K X.mg i a cls d h)
abbrev SHS (X : Cx) (i : Nat) (sts : List Stmt) (h : Exc → Option D) : Prop := InS fun a oe cls d pn => PSs (X.suite a ((a, oe) :: pn)) sts (tHS X.K X.mg i a cls d h)

theorem sha_nil : SHA X i [] hNil := fun a oe cls d pn hz hf => pa_imp pa_nil fun σ H Q ⟨h1, e, ι, S, r, rx, dv, h, q⟩ => by
  cases h; exact q [] .nil
theorem sha_cons {h : Exc → Option D} {r : Exc → Option (List D)} (he : SHE X i e h) (hr : SHA X i es r) (hs : starEach (e :: es) X.env = (false, eval e X.env) :: starEach es X.env := by rfl) : SHA X i (e :: es) (hCons h r) := fun a oe cls d pn hz hf =>
  pa_imp (pa_cons (he a oe cls d pn hz hf) (hr a oe cls d pn hz hf) hs) fun σ H Q ⟨h1, x, ι, S, rs, rx, dv, hh, q⟩ => by
    unfold hCons at hh
    cases e1 : h x with
    | none => rw [e1] at hh; cases hh
    | some d1 =>
      rw [e1] at hh
      cases e2 : r x with
      | none => rw [Option.bind_some, e2] at hh; cases hh
      | some ds =>
        rw [Option.bind_some, e2] at hh
        cases hh
        exact ⟨h1, x, ι, S, rs, rx, d1, e1, fun v pv => ⟨h1, x, ι, S, rs, rx, ds, e2, fun vs pvs => q _ (.cons pv pvs)⟩⟩
theorem she_str (y : Cs) {m : Str} {j} (hm : m = toS y := by decide +kernel) : SHE X i (.Constant (.str m) j pos) (hCon (.str y)) := fun a oe cls d pn hz hf => pe_imp pe_str fun σ H Q ⟨h1, x, ι, S, rs, rx, dv, hh, q⟩ => by
  cases hh; subst hm; exact q _ (.str y)
/-- the error's classes whose fields may be asked for -/
structure XF (K : PySem.W.Frag) (mg : Str → Option Value) (C : String) (fl : List String) : Prop where
  ex : ∃ c, mg (Str.ofString C) = some (.ref c) ∧ XfC K c ∧ ∀ f ∈ fl, PySem.W.findIn K (.ref c) (Str.ofString f) = some none
theorem she_fld {C f : String} {fl : List String} {n y : Str} (T : XF X.K X.mg C fl) (hf : f ∈ fl) (hN : X.N[i]? = some y := by rfl) (hv : Vis X.env.scope y := by first | exact Or.inl rfl | exact Or.inr (Or.inl rfl) | exact Or.inr (Or.inr rfl)) (hn : n = Str.ofString f := by rfl) (hd : (y == ("__debug__" : Str)) = false := by decide) (hcd : (y == ("__classdict__" : Str)) = false := by decide)
    (hb : attributeBase (.Name y p) n X.env (eval (.Name y p) X.env) = eval (.Name y p) X.env := by rfl) : SHE X i (.Attribute (.Name y p) n pos) (hFld C f) := fun a oe cls d pn hz hfs => by
  subst hn
  obtain ⟨c, h1, h2, h3⟩ := T.ex
  refine pe_imp (pe_xf (C := c) (cls := cls) (d := d) (te := tVar i) h2 (h3 f hf) hz hfs (pe_var hN hv hd hcd) hb) fun σ H Q ⟨h0, x, ι, S, rs, rx, dv, hh, q⟩ => ?_
  unfold hFld at hh
  split at hh
  · rename_i hC
    obtain ⟨c', e1, e2, e3⟩ := rx
    rw [hC, h1] at e2
    cases e2
    subst e1
    cases d with
    | none =>
      have e3 : x.fs = [] := e3
      rw [e3] at hh; cases hh
    | some dd =>
      obtain ⟨fs, g1, g2⟩ := e3
      obtain ⟨v, q1, q2⟩ := (g2.lookup (f := f)).1 dv hh
      exact ⟨.ref a, h0, rfl, rfl, dd, fs, v, rfl, g1, q1, q v q2⟩
  · cases hh
theorem shs_ret {h : Exc → Option (List D)} {k} (ha : SHA X i es h) : SHS X i [.Return (some (.Tuple es k p)) pos] (hRet h) := fun a oe cls d pn hz hf =>
  pss_imp (pss_one (ps_ret (pe_tup (ha a oe cls d pn hz hf)))) fun D σ H ⟨h1, x, ι, S, rs, rx, dv, hh, q⟩ => by
    unfold hRet at hh
    cases e1 : h x with
    | none => rw [e1] at hh; cases hh
    | some ds =>
      rw [e1, Option.bind_some] at hh
      split at hh
      · rename_i hl
        cases hh
        refine ⟨h1, x, ι, S, rs, rx, ds, e1, fun vs pvs => ⟨by rw [pvs.length, ← LIM_eq]; exact hl, fun pp hp => ?_⟩⟩
        have g : Grow X.K H ι (upd H pp (.tup vs)) ι := Grow.new hp
        exact q _ _ ι g (rs.new hp) (.tup (.inl (.inl upd_same)) (by rw [pvs.length, ← LIM_eq]; exact hl) (pvs.mono g))
      · cases hh
theorem shs_if {t : Expr} {b rest : List Stmt} {pt : Exc → Option Bool} {ha hb : Exc → Option D} (ht : SHT X i t pt) (h1 : SHS X i b ha) (h2 : SHS X i rest hb) : SHS X i (.If t b [] pos :: rest) (hIf pt ha hb) := fun a oe cls d pn hz hf =>
  pss_imp (pss_cons (ps_if (ht a oe cls d pn hz hf) (h1 a oe cls d pn hz hf) pss_nil) (h2 a oe cls d pn hz hf)) fun D σ H ⟨h0, x, ι, S, rs, rx, dv, hh, q⟩ => by
    unfold hIf at hh
    cases e1 : pt x with
    | none => rw [e1] at hh; cases hh
    | some b =>
      rw [e1, Option.bind_some] at hh
      refine ⟨h0, x, ι, S, rs, rx, b, e1, fun H' g rs' rx' => ?_⟩
      cases b with
      | true => exact iteT ⟨h0, x, ι, S, rs', rx', dv, by simpa using hh, fun v H2 ι2 g2 r2 p2 => q v H2 ι2 (g.trans g2) r2 p2⟩
      | false => exact iteF ⟨h0, x, ι, S, rs', rx', dv, by simpa using hh, fun v H2 ι2 g2 r2 p2 => q v H2 ι2 (g.trans g2) r2 p2⟩
theorem sht_not {pt : Exc → Option Bool} (h : SHT X i e pt) : SHT X i (.UnaryOp .Not e pos) (hNot pt) := fun a oe cls d pn hz hf =>
  pt_imp (pt_not (h a oe cls d pn hz hf)) fun σ H Q ⟨h0, x, ι, S, rs, rx, b, hh, q⟩ => by
    unfold hNot at hh
    cases e1 : pt x with
    | none => rw [e1] at hh; cases hh
    | some b1 => rw [e1] at hh; cases hh; exact ⟨h0, x, ι, S, rs, rx, b1, e1, q⟩
theorem sht_or {pa pb : Exc → Option Bool} {e1 e2 : Expr} (h1 : SHT X i e1 pa) (h2 : SHT X i e2 pb) : SHT X i (.BoolOp .Or [e1, e2] pos) (hOr pa pb) := fun a oe cls d pn hz hf =>
  pt_imp (pw_or (h1 a oe cls d pn hz hf) (pw_or1 (h2 a oe cls d pn hz hf))).pt fun σ H Q ⟨h0, x, ι, S, rs, rx, b, hh, q⟩ => by
    unfold hOr at hh
    cases e1 : pa x with
    | none => rw [e1] at hh; cases hh
    | some b1 =>
      rw [e1, Option.bind_some] at hh
      refine ⟨h0, x, ι, S, rs, rx, b1, e1, fun H' g rs' rx' => ?_⟩
      cases b1 with
      | true =>
        have hh : some true = some b := by simpa using hh
        cases hh
        exact iteT (q H' g rs' rx')
      | false => exact iteF ⟨h0, x, ι, S, rs', rx', b, by simpa using hh, fun H2 g2 r2 x2 => q H2 (g.trans g2) r2 x2⟩

/-! ### isinstance of the error -/
/-- the error classes that are spoken of: each with its address, and T tells which stands below which -/
structure XI (K : PySem.W.Frag) (mg : Str → Option Value) (T : String → String → Option Bool) : Prop where
  own : ∀ C D b, T C D = some b → ∃ c dd, mg (Str.ofString C) = some (.ref c) ∧ mg (Str.ofString D) = some (.ref dd) ∧ ExcC K c ∧ PySem.W.kitOne K (.ref c) (.ref dd) = some b
theorem excC_kit {K : PySem.W.Frag} {c x : Addr} {ox : Obj} {od : Option Obj} (C : ExcC K c) : PySem.W.KitX K (.ref x) (.ref c) (fun h => PySem.W.InstAt h x ox c od) :=
  PySem.W.kitx_exc (by obtain ⟨cd, h, _⟩ := PySem.W.any_some C.hd; rw [h]; rfl) C.hg C.hk C.hs C.ha C.hn C.ht C.hm
theorem inst_of {X : Cx} {a c : Addr} {oe : Obj} {d : Option Addr} {pn pins : List (Addr × Obj)} {σ : L2.St} {H : Hp} {s : Shared} {ι : List Addr} {e : Exc} (I : Inv (X.suite a ((a, oe) :: pn)) pins σ H s) (hz : Zc (.ref c) d oe) (hf : ∃ vs, oe.data = .fields vs) (rx : RX X.K X.mg H ι e (.ref c) d) :
    ∃ od, PySem.W.InstAt s.heap a oe c od := by
  obtain ⟨hget, _⟩ := I.pin (a, oe) (List.mem_append.mpr (.inl List.mem_cons_self))
  obtain ⟨vs, hv⟩ := hf
  have nc : PySem.W.notCls oe = true := by unfold PySem.W.notCls; rw [hv] <;> rfl
  cases d with
  | none => exact ⟨none, hget, hz.1, nc, by rw [hz.2]; exact True.intro⟩
  | some dd =>
    obtain ⟨_, _, _, fs, ed, _⟩ := rx
    have hx : ObjOk X.prog X.w H s.heap dd (.xd fs) := I.hok dd _ ed
    obtain ⟨mA, hns, hr⟩ := hx
    obtain ⟨od, ho, hl⟩ := lookIn_ns hns
    exact ⟨some od, hget, hz.1, nc, by rw [hz.2]; exact ho⟩
theorem hIs_any {K : PySem.W.Frag} {mg : Str → Option Value} {T : String → String → Option Bool} (XX : XI K mg T) {C : String} {c : Addr} (hc : mg (Str.ofString C) = some (.ref c)) : ∀ {Cs : List String} {us : List Value} {b : Bool}, (∀ (k : Nat) (D : String), Cs[k]? = some D → ∃ dd : Addr, us[k]? = some (Value.ref dd) ∧ mg (Str.ofString D) = some (.ref dd)) → us.length = Cs.length →
    Cs.foldr (fun C' r => (T C C').bind fun b => if b = true then some true else r) (some false) = some b → PySem.W.kitAny K (.ref c) us = some b
  | [], [], b, _, _, h => by cases h; rfl
  | [], _ :: _, _, _, hl, _ => by simp at hl
  | _ :: _, [], _, _, hl, _ => by simp at hl
  | D :: Cs, u :: us, b, hu, hl, h => by
    rw [List.foldr_cons] at h
    obtain ⟨dd, e1, e2⟩ := hu 0 D rfl
    have e1 : u = .ref dd := by simpa using e1
    subst e1
    cases eT : T C D with
    | none => rw [eT] at h; cases h
    | some b1 =>
      rw [eT, Option.bind_some] at h
      obtain ⟨c', dd', k1, k2, _, k3⟩ := XX.own C D b1 eT
      rw [hc] at k1; cases k1
      rw [e2] at k2; cases k2
      refine kitAny_cons k3 (fun hb => ?_) fun hb => ?_
      · subst hb
        exact hIs_any XX hc (fun k D' hk => by simpa using hu (k + 1) D' (by simpa using hk)) (by simpa using hl) (by simpa using h)
      · subst hb
        have h : some true = some b := by simpa using h
        exact (Option.some.inj h).symm
theorem sht_is {T : String → String → Option Bool} {D : String} {y xD : Str} {pD : Pos} (XX : XI X.K X.mg T) (hE : ∀ C b, T C D = some b → True) (hg : Gl X "isinstance") (hm : X.mg "isinstance" = none) (hgD : Gl X xD) {dd : Addr} (hD : X.mg (Str.ofString D) = some (.ref dd)) (hx : xD = Str.ofString D := by rfl)
    (hN : X.N[i]? = some y := by rfl) (hv : Vis X.env.scope y := by first | exact Or.inl rfl | exact Or.inr (Or.inl rfl) | exact Or.inr (Or.inr rfl)) (hd : (y == ("__debug__" : Str)) = false := by decide) (hcd : (y == ("__classdict__" : Str)) = false := by decide) (hdD : (xD == ("__debug__" : Str)) = false := by decide)
    (he : starEach [.Name y p, .Name xD pD] X.env = (false, eval (.Name y p) X.env) :: starEach [.Name xD pD] X.env := by rfl) (he2 : starEach [.Name xD pD] X.env = (false, eval (.Name xD pD) X.env) :: starEach [] X.env := by rfl) (hpl : (backTo pos (starEach [.Name xD pD] X.env)).any (·.1) = false := by rfl) :
    SHT X i (.Call (.Name "isinstance" pos') [.Name y p, .Name xD pD] [] pos) (hIs T [D]) := fun a oe cls d pn hz hf => by
  subst hx
  refine pt_imp (t := tHT X.K X.mg i a cls d (hIs T [D])) (pt_imp (pt_val (X := X.suite a ((a, oe) :: pn)) (t := fun σ H Q => σ[i]? = some (some (.ref a)) ∧ ∃ e ι S, RS X.K X.mg H ι S ∧ RX X.K X.mg H ι e cls d ∧ ∃ b, hIs T [D] e = some b ∧ Q (.bl b) H) ⟨fun pins s σ H Q I h => ?_⟩) fun σ H Q h => ?_) fun σ H Q h => h
  · obtain ⟨h0, x, ι, S, rs, rx, b, hh, q⟩ := h
    obtain ⟨c, rfl, hc, rx'⟩ := id rx
    have hr : CallR (X.suite a ((a, oe) :: pn)) (.builtin "isinstance") (fun xs H' Q => xs = [V.ref a, V.ref dd] ∧ H' = H ∧ Q (V.bl b) H) := by
      intro pins1 s1 σ1 H1 xs us Q1 I1 r hq
      obtain ⟨rfl, eH, q⟩ := hq
      obtain ⟨u1, u2, rfl, r1, r2⟩ := vals2 r
      cases (show u1 = Value.ref a from r1)
      cases (show u2 = Value.ref dd from r2)
      have rx1 : RX X.K X.mg H1 ι x (.ref c) d := by rw [eH]; exact rx
      obtain ⟨od, J⟩ := inst_of I1 hz hf rx1
      unfold hIs at hh
      rw [List.foldr_cons, List.foldr_nil] at hh
      cases eT : T x.cls D with
      | none => rw [eT] at hh; cases hh
      | some b1 =>
        rw [eT, Option.bind_some] at hh
        obtain ⟨c', dd', k1, k2, kC, k3⟩ := XX.own _ _ b1 eT
        rw [hc] at k1; cases k1
        rw [hD] at k2; cases k2
        have hb : b1 = b := by cases b1 <;> simpa using hh
        subst hb
        exact PySem.W.kia_one (excC_kit kC) I1.kIn J k3 (fun z => nomatch z) fun tk => ⟨.bl b1, H1, I1.tok tk, rfl, by rw [eH]; exact q⟩
    refine (pe_callB hr hg hm (by decide +kernel) (pa_cons (pe_var hN hv hd hcd) (pa_cons (pe_glob (v := .ref dd) hgD hD rfl hdD) pa_nil (hs := he2)) (hs := he)) (he := he) (hpl := hpl)).run pins s σ H Q I ⟨.ref a, h0, rfl, rfl, q⟩
  · obtain ⟨h0, x, ι, S, rs, rx, b, hh, q⟩ := h
    exact ⟨h0, x, ι, S, rs, rx, b, hh, b, rfl, q H .refl rs rx⟩
/-- names of error classes in a row -/
inductive ClsRow (X : Cx) : List Expr → List String → List Addr → Prop where
  | nil : ClsRow X [] [] []
  | cons {xD : Str} {pD : Pos} {D : String} {dd : Addr} {es : List Expr} {Cs : List String} {as : List Addr} (hg : Gl X xD) (hx : xD = Str.ofString D) (hD : X.mg (Str.ofString D) = some (.ref dd)) (hdb : (xD == ("__debug__" : Str)) = false)
    (hs : starEach (.Name xD pD :: es) X.env = (false, eval (.Name xD pD) X.env) :: starEach es X.env) (r : ClsRow X es Cs as) : ClsRow X (.Name xD pD :: es) (D :: Cs) (dd :: as)
theorem ClsRow.pa {a : Addr} {pn : List (Addr × Obj)} {Cs : List String} {as : List Addr} (h : ClsRow X es Cs as) : PA (X.suite a pn) es (fun _ H Q => Q (as.map V.ref) H) := by
  induction h with
  | nil => exact pa_imp pa_nil fun σ H Q h => h
  | @cons xD pD D dd es Cs as hg hx hD hdb hs r ih =>
    subst hx
    refine pa_imp (pa_cons (X := X.suite a pn) (pe_glob (X := X.suite a pn) (v := .ref dd) hg hD rfl hdb) ih hs) fun σ H Q h => h
theorem ClsRow.len {Cs : List String} {as : List Addr} (h : ClsRow X es Cs as) : as.length = Cs.length := by
  induction h with
  | nil => rfl
  | cons _ _ _ _ _ _ ih => simp [ih]
theorem ClsRow.at_ {Cs : List String} {as : List Addr} (h : ClsRow X es Cs as) : ∀ (k : Nat) (D : String), Cs[k]? = some D → ∃ dd : Addr, (as.map Value.ref)[k]? = some (Value.ref dd) ∧ X.mg (Str.ofString D) = some (.ref dd) := by
  induction h with
  | nil => intro k D h; simp at h
  | @cons xD pD D dd es Cs as hg hx hD hdb hs r ih =>
    intro k D' h
    cases k with
    | zero => simp at h; subst h; exact ⟨dd, rfl, hD⟩
    | succ k => simpa using ih k D' (by simpa using h)
theorem clsV_refs : ∀ (as : List Addr), Paired ClsV (as.map V.ref) (as.map Value.ref)
  | [] => .nil
  | a :: as => .cons (.own a) (clsV_refs as)
/-- isinstance(e, (C, D, ..)) -/
theorem sht_isT {T : String → String → Option Bool} {y : Str} {ts : List Expr} {kk} {pT : Pos} {Cs : List String} {as : List Addr} (XX : XI X.K X.mg T) (hg : Gl X "isinstance") (hm : X.mg "isinstance" = none) (hR : ClsRow X ts Cs as) (hne0 : Cs ≠ []) (hlen : Cs.length ≤ 1000)
    (hN : X.N[i]? = some y := by rfl) (hv : Vis X.env.scope y := by first | exact Or.inl rfl | exact Or.inr (Or.inl rfl) | exact Or.inr (Or.inr rfl)) (hd : (y == ("__debug__" : Str)) = false := by decide) (hcd : (y == ("__classdict__" : Str)) = false := by decide)
    (he : starEach [.Name y p, .Tuple ts kk pT] X.env = (false, eval (.Name y p) X.env) :: starEach [.Tuple ts kk pT] X.env := by rfl) (he2 : starEach [.Tuple ts kk pT] X.env = (false, eval (.Tuple ts kk pT) X.env) :: starEach [] X.env := by rfl) (hpl : (backTo pos (starEach [.Tuple ts kk pT] X.env)).any (·.1) = false := by rfl) :
    SHT X i (.Call (.Name "isinstance" pos') [.Name y p, .Tuple ts kk pT] [] pos) (hIs T Cs) := fun a oe cls d pn hz hf => by
  refine pt_imp (pt_val (X := X.suite a ((a, oe) :: pn)) (t := fun σ H Q => σ[i]? = some (some (.ref a)) ∧ ∃ e ι S, RS X.K X.mg H ι S ∧ RX X.K X.mg H ι e cls d ∧ ∃ b, hIs T Cs e = some b ∧ ∀ H', Grow X.K H ι H' ι → RS X.K X.mg H' ι S → RX X.K X.mg H' ι e cls d → Q (.bl b) H') ⟨fun pins s σ H Q I h => ?_⟩) fun σ H Q h => ?_
  · obtain ⟨h0, x, ι, S, rs, rx, b, hh, q⟩ := h
    obtain ⟨c, rfl, hc, rx'⟩ := id rx
    have hl : (as.map V.ref).length ≤ sizeLine := by rw [List.length_map, hR.len, sizeLine_eq]; omega
    have gx : ∀ pp, H pp = none → RX X.K X.mg (upd H pp (.tup (as.map V.ref))) ι x (.ref c) d := fun pp hp => by
      refine ⟨c, rfl, hc, ?_⟩
      cases d with
      | none => exact rx'
      | some dd =>
        obtain ⟨fs, g1, g2⟩ := rx'
        exact ⟨fs, by rw [upd_ne (ne_of_none g1 hp)]; exact g1, g2.mono (Grow.new hp)⟩
    have hr : CallR (X.suite a ((a, oe) :: pn)) (.builtin "isinstance") (fun xs H' Q => ∃ pp : Addr, xs = [V.ref a, V.ref pp] ∧ H pp = none ∧ H' = upd H pp (.tup (as.map V.ref)) ∧ Q (V.bl b) H') := by
      intro pins1 s1 σ1 H1 xs us Q1 I1 r hq
      obtain ⟨pp, rfl, hp, rfl, q⟩ := hq
      obtain ⟨u1, u2, rfl, r1, r2⟩ := vals2 r
      cases (show u1 = Value.ref a from r1)
      cases (show u2 = Value.ref pp from r2)
      obtain ⟨od, J⟩ := inst_of I1 hz hf (gx pp hp)
      have kC : ExcC X.K c ∨ Cs = [] := by
        cases Cs with
        | nil => exact .inr rfl
        | cons D Cs =>
          left
          unfold hIs at hh
          rw [List.foldr_cons] at hh
          cases eT : T x.cls D with
          | none => rw [eT] at hh; cases hh
          | some b1 =>
            obtain ⟨c', dd', k1, k2, kC, k3⟩ := XX.own _ _ b1 eT
            rw [hc] at k1; cases k1
            exact kC
      obtain ⟨_, its, rv, o, h1, h2, n, h3⟩ := (show ObjOk X.prog X.w (upd H pp (.tup (as.map V.ref))) s1.heap pp (.tup (as.map V.ref)) from I1.hok pp _ upd_same)
      have e3 := ClsV.all (clsV_refs as) rv
      subst e3
      obtain ⟨oc, od2, dt, sl⟩ := o
      simp only at h2 h3
      subst h2 h3
      have hk : PySem.W.kitAny X.K (.ref c) (as.map Value.ref) = some b := hIs_any XX hc hR.at_ (by rw [List.length_map, hR.len]) hh
      rcases kC with kC | rfl
      · exact PySem.W.kia_tup (excC_kit kC) I1.kIn J h1 hk (fun z => nomatch z) fun tk => ⟨.bl b, _, I1.tok tk, rfl, q⟩
      · exact absurd hne0 (by simp)
    refine (pe_callB hr hg hm (by decide +kernel) (pa_cons (pe_var hN hv hd hcd) (pa_cons (pe_tup hR.pa) pa_nil (hs := he2)) (hs := he)) (he := he) (hpl := hpl)).run pins s σ H Q I ⟨.ref a, h0, hl, fun pp hp => ⟨pp, rfl, hp, rfl, q _ (Grow.new hp) (rs.new hp) (gx pp hp)⟩⟩
  · obtain ⟨h0, x, ι, S, rs, rx, b, hh, q⟩ := h
    exact ⟨h0, x, ι, S, rs, rx, b, hh, fun H' g r' x' => ⟨b, rfl, q H' g r' x'⟩⟩
end

/-! ### the try -/
section
variable {X : Cx} {W : WX} {i : Nat} {body suite : List Stmt} {b₀ : Stmt} {np pos pos' : Pos} {x n : Str} {s : SM}
theorem ss_try {Cn : String} {cc : Addr} {cf : Exc → Option Bool} {h : Exc → Option D} (hs : X.stack = X.env :: X.outer) (hf : X.env.frame = some X.env.locals) (hN : X.N.Nodup) (hi : X.N[i]? = some n) (hln : X.env.kindOf n = some .local) (hg : Gl X x) (hC : X.mg (Str.ofString Cn) = some (.ref cc)) (hx : x = Str.ofString Cn) (hdb : (x == ("__debug__" : Str)) = false)
    (tk : Takes X W) (hcf : ∀ e b c, cf e = some b → X.mg (Str.ofString e.cls) = some (.ref c) → PySem.W.exmOne X.K (.ref c) (.ref cc) = some b)
    (hb : ∀ (W : WX) (pn : List (Addr × Obj)) (xe : Value → Shared → Prop), Takes (X.tr pn xe) W → PassesOwn (model X.prog X.w) X.A X.env xe → SSs (X.tr pn xe) W body s)
    (hsu : SHS X i (b₀ :: suite) h) : SS X W (.Try body [.ExceptHandler (some (.Name x np)) (some n) (b₀ :: suite) pos'] [] [] pos) (tryS i cf h s) := by
  subst hx
  refine ps_imp (ps_try_as (tb := fun W => cS X.K X.mg W s) (c := .ref cc) hs hf hN hi hln ⟨hg, hdb, .inl hC⟩ tk hb hsu) fun D σ H q => ?_
  obtain ⟨δ, S, ι, rl, q⟩ := q
  refine ⟨δ, S, ι, rl, ?_⟩
  have q : PostS X.K X.mg W D H ι ((s δ S).bind fun f S1 => match f with
    | .ex e δ1 => if i < δ1.length then (match cf e with
      | some true => (match h e with | some d => .ok (.rt d) S1 | none => .stuck)
      | some false => .ok (.ex e δ1) S1
      | none => .stuck) else .stuck
    | f => .ok f S1) := q
  cases e1 : s δ S with
  | stuck => rw [e1] at q; exact q.elim
  | exc y S1 => rw [e1] at q; exact q.elim
  | ok f S1 =>
    rw [e1] at q
    cases f with
    | nx δ1 => exact q
    | bk δ1 => exact q
    | ct δ1 => exact q
    | rt d => exact q
    | ex y δ1 =>
      have q : PostS X.K X.mg W D H ι (if i < δ1.length then (match cf y with
        | some true => (match h y with | some d => .ok (.rt d) S1 | none => .stuck)
        | some false => .ok (.ex y δ1) S1
        | none => .stuck) else .stuck) := q
      intro cls dx σ' H' ι' g rl' rx
      split at q
      · rename_i hlt
        obtain ⟨c, rfl, hc, rx'⟩ := id rx
        cases e2 : cf y with
        | none => rw [e2] at q; exact q.elim
        | some b =>
          rw [e2] at q
          refine ⟨b, hcf y b c e2 hc, fun hb a na => ?_, fun hb => ?_⟩
          · subst hb
            simp only at q
            cases e3 : h y with
            | none => rw [e3] at q; exact q.elim
            | some d =>
              rw [e3] at q
              refine ⟨by rw [List.getElem?_set_self (by rw [← rl'.len]; exact hlt)], y, ι', S1, rl'.sto, rx, d, e3, fun v H2 ι2 g2 r2 p2 => q v H2 ι2 (g.trans g2) r2 p2⟩
          · subst hb
            exact q (.ref c) dx σ' H' ι' g rl' rx
      · exact q.elim
end
end Dl

end

section
set_option linter.all false
set_option Elab.async false
set_option maxRecDepth 100000
set_option Elab.async false
set_option linter.all false
set_option maxRecDepth 100000
set_option maxHeartbeats 4000000
/-! DlErr: what the top has written of the error classes. -/
namespace Dl
open PySem PySem.Spec PyProof.Rows L2

/-- C is caught by except D -/
structure XC (K : PySem.W.Frag) (mg : Str → Option Value) (T : String → String → Option Bool) (D : String) : Prop where
  ex : ∃ dd, mg (Str.ofString D) = some (.ref dd) ∧ ∀ C b c, T C D = some b → mg (Str.ofString C) = some (.ref c) → PySem.W.exmOne K (.ref c) (.ref dd) = some b
theorem XC.run {K : PySem.W.Frag} {mg : Str → Option Value} {T : String → String → Option Bool} {D : String} {dd : Addr} (X : XC K mg T D) (hD : mg (Str.ofString D) = some (.ref dd)) : ∀ (e : Exc) (b : Bool) (c : Addr), T e.cls D = some b → mg (Str.ofString e.cls) = some (.ref c) → PySem.W.exmOne K (.ref c) (.ref dd) = some b := fun e b c h1 h2 => by
  obtain ⟨d', h3, h4⟩ := X.ex
  rw [hD] at h3; cases h3
  exact h4 _ _ _ h1 h2
theorem tabT_mem {tab : List (String × String × Bool)} {C D : String} {b : Bool} (h : tabT tab C D = some b) : (C, D, b) ∈ tab := by
  unfold tabT at h
  cases e : tab.find? fun p => decide (p.1 = C ∧ p.2.1 = D) with
  | none => rw [e] at h; cases h
  | some p =>
    rw [e] at h
    have h1 := List.find?_some e
    have h2 := List.mem_of_find?_eq_some e
    simp only [decide_eq_true_eq] at h1
    have h3 : p.2.2 = b := by simpa using h
    obtain ⟨p1, p2, p3⟩ := p
    simp only at h1 h3
    rw [← h1.1, ← h1.2, ← h3]
    exact h2
/-- the rows of the table, each by itself -/
def XIr (K : PySem.W.Frag) (mg : Str → Option Value) (p : String × String × Bool) : Prop := ∃ c dd, mg (Str.ofString p.1) = some (.ref c) ∧ mg (Str.ofString p.2.1) = some (.ref dd) ∧ ExcC K c ∧ PySem.W.kitOne K (.ref c) (.ref dd) = some p.2.2
theorem xi_of {K : PySem.W.Frag} {mg : Str → Option Value} {tab : List (String × String × Bool)} (h : ∀ p ∈ tab, XIr K mg p) : XI K mg (tabT tab) := ⟨fun C D b e => h _ (tabT_mem e)⟩
theorem rows_nil {P : String × String × Bool → Prop} : ∀ p ∈ ([] : List (String × String × Bool)), P p := fun _ h => by cases h
theorem rows_cons {P : String × String × Bool → Prop} {a : String × String × Bool} {l : List (String × String × Bool)} (h : P a) (r : ∀ p ∈ l, P p) : ∀ p ∈ a :: l, P p := fun p hp => by
  rcases List.mem_cons.mp hp with e | hp
  · rw [e]; exact h
  · exact r p hp
theorem kit_self {K : PySem.W.Frag} {c : Addr} : PySem.W.kitOne K (.ref c) (.ref c) = some true := by
  unfold PySem.W.kitOne
  rw [if_pos (by simp)]
theorem kit_ref {K : PySem.W.Frag} {c d : Addr} {b : Bool} (hne : (Value.ref c == Value.ref d) = false) (hd : PySem.W.hasDictIn K d = true) (ht : PySem.W.typeIn K (.ref d) = some (.type "type")) (h : PySem.W.subIn K (.ref c) (.ref d) = some b) : PySem.W.kitOne K (.ref c) (.ref d) = some b := by
  unfold PySem.W.kitOne
  rw [if_neg (by rw [hne]; decide)]
  obtain ⟨cd, hc, _⟩ := PySem.W.any_some hd
  have e2 : ((PySem.W.clsIn K d).isSome && PySem.W.typeIn K (.ref d) == some (.type "type")) = true := by rw [hc, ht] <;> rfl
  show (if ((PySem.W.clsIn K d).isSome && PySem.W.typeIn K (.ref d) == some (.type "type")) = true then PySem.W.subIn K (.ref c) (.ref d) else none) = some b
  rw [if_pos e2]
  exact h
theorem xir_self {K : PySem.W.Frag} {mg : Str → Option Value} {C : String} {c : Addr} (g : mg (Str.ofString C) = some (.ref c)) (x : ExcC K c) : XIr K mg (C, C, true) := ⟨c, c, g, g, x, kit_self⟩
theorem xir_ref {K : PySem.W.Frag} {mg : Str → Option Value} {C D : String} {c d : Addr} {b : Bool} (g : mg (Str.ofString C) = some (.ref c)) (x : ExcC K c) (gD : mg (Str.ofString D) = some (.ref d)) (hne : (Value.ref c == Value.ref d) = false) (hd : PySem.W.hasDictIn K d = true) (ht : PySem.W.typeIn K (.ref d) = some (.type "type"))
    (h : PySem.W.subIn K (.ref c) (.ref d) = some b) : XIr K mg (C, D, b) := ⟨c, d, g, gD, x, kit_ref hne hd ht h⟩
/-- the table's rows for except D -/
def XCr (K : PySem.W.Frag) (mg : Str → Option Value) (D : String) (dd : Addr) (p : String × String × Bool) : Prop := p.2.1 = D → ∃ c, mg (Str.ofString p.1) = some (.ref c) ∧ PySem.W.exmOne K (.ref c) (.ref dd) = some p.2.2
theorem xc_of {K : PySem.W.Frag} {mg : Str → Option Value} {tab : List (String × String × Bool)} {D : String} {dd : Addr} (hD : mg (Str.ofString D) = some (.ref dd)) (h : ∀ p ∈ tab, XCr K mg D dd p) : XC K mg (tabT tab) D := ⟨dd, hD, fun C b c e hc => by
  obtain ⟨c', h1, h2⟩ := h _ (tabT_mem e) rfl
  rw [hc] at h1; cases h1
  exact h2⟩
theorem xcr_no {K : PySem.W.Frag} {mg : Str → Option Value} {D D' C : String} {dd : Addr} {b : Bool} (h : D' ≠ D) : XCr K mg D dd (C, D', b) := fun e => absurd e h
theorem xcr_yes {K : PySem.W.Frag} {mg : Str → Option Value} {C D : String} {c dd : Addr} {b : Bool} (g : mg (Str.ofString C) = some (.ref c)) (h1 : PySem.W.subIn K (.ref dd) (.type "BaseException") = some true) (hd : PySem.W.hasDictIn K dd = true) (ht : PySem.W.typeIn K (.ref dd) = some (.type "type"))
    (h : PySem.W.subIn K (.ref c) (.ref dd) = some b) : XCr K mg D dd (C, D, b) := fun _ => ⟨c, g, PySem.W.exm_ref h1 hd ht h⟩
/-- super()'s way from C to ValueError, one own class D between -/
theorem super_mid {K : PySem.W.Frag} {C D : Addr} {nm q : Str} {N : Addr} {bs bm : List Value} {sn : List Str} {sub : List Value} {ab : Bool} {col : Option Bool} {dd odD : Option Addr} {k0 k1 k2 k3 k5 : Option Value} {n : String} {ocD : Value} {cdD : ClassData} {slD : Array (Option Value)}
    (lC : K.lookup C = some (excClassObj nm q C N bs bm true sn sub ab col dd k0 k1 k2 k3 k5 n)) (lD : K.lookup D = some ⟨ocD, odD, .cls cdD, slD⟩) (hm : cdD.mro = bm) (h : PySem.W.findIn K (.ref D) "__init__" = some (some (.builtin "ValueError.__init__"))) :
    PySem.W.ks_superIn K C C "__init__" = some (some (.builtin "ValueError.__init__")) := by
  have hcl : PySem.W.clsIn K C = some { name := nm, bases := bs, mro := .ref C :: bm, ns := N, qualname := q, hasDict := true, slotNames := sn, subclasses := sub, abstract := ab, collection := col, hasDel := false } := by unfold PySem.W.clsIn; rw [lC] <;> rfl
  unfold PySem.W.ks_superIn
  rw [hcl, Option.bind_some]
  show PySem.W.alongIn K "__init__" (((Value.ref C :: bm).dropWhile (· != .ref C)).drop 1) = _
  have ed : ((Value.ref C :: bm).dropWhile (· != .ref C)).drop 1 = bm := by simp [List.dropWhile_cons]
  rw [ed]
  unfold PySem.W.findIn at h
  simp only [lD] at h
  rw [← hm]
  exact h
end Dl

end

section
set_option linter.all false
set_option Elab.async false
set_option maxRecDepth 100000
set_option linter.all false
set_option Elab.async false
set_option maxRecDepth 100000
set_option maxHeartbeats 4000000
/-! each def does as its reading says, printed by gen.py -/
namespace LW
open PySem PySem.Spec PyProof.Rows L2 Dl
def topS (i : Nat) : Stmt := PySem.Challenge.pw_doubtbook_k82_rows_with_a_fault.main.body.getD i (.Pass ⟨0, 0, 0, 0⟩)
/-- these built-ins have their own names -/
structure Z (mg : Str → Option Value) : Prop where
  len : mg "len" = none
  int : mg "int" = none
  range : mg "range" = none
  tuple : mg "tuple" = none
  list : mg "list" = none
  isinstance : mg "isinstance" = none
  bool : mg "bool" = none
  str : mg "str" = none
  max : mg "max" = none
  sorted : mg "sorted" = none
  min : mg "min" = none
section
variable {P : Program} {w : World} {K : PySem.W.Frag} {mg : Str → Option Value} {base : Heap}
abbrev s_XBadText : Stmt := inClass (topS 12) 0
theorem sc_XBadText : SupScope ["self", "line", "at"] ["self", "line", "at"] (defScope s_XBadText) := ⟨rfl, rfl, rfl, by decide +kernel, rfl, by decide +kernel, by decide +kernel, by decide +kernel⟩
theorem w_XBadText {c f cda cc : Addr} {oc kV doc pm ct : Value} {od an : Option Addr} {osl : Array (Option Value)} (gC : mg (Str.ofString "BadText") = some (.ref c)) (SC : SupC K mg P c cda cc) (iC : PySem.W.findIn K (.ref c) "__init__" = some (some (.ref f))) (tf : PySem.W.typeIn K (.ref f) = some (.type "function"))
    (lk : K.lookup f = some ⟨oc, od, .func (PySem.W.ksFn "__init__" "BadText.__init__" (defArgs s_XBadText) (defBody s_XBadText) (defScope s_XBadText) .none kV doc pm an (.ref cda) ct cc), osl⟩) (hcd : PySem.W.codeIn K (.ref cda) "BadText.__init__" = true) (hno : ∀ f ∈ ["line", "at"], PySem.W.findIn K (.ref c) (Str.ofString f) = some none) :
    XT P w K mg base 1 "BadText" ["line", "at"] := by
  have hno2 : ∀ f ∈ (["line", "at"] : List String).map Str.ofString, PySem.W.findIn K (.ref c) f = some none := fun f hf => by
    obtain ⟨g, hg, e⟩ := List.mem_map.mp hf
    exact e ▸ hno g hg
  exact ⟨c, f, _, ["self", "line", "at"], gC, SC.T, iC, tf, fn_flds (k := 0) (fl := (["line", "at"] : List String).map Str.ofString) lk hcd sc_XBadText SC rfl rfl rfl (by rfl) (by rfl) (by decide) rfl (by decide) hno2 (fun A outer s H E => (.cons (ps_ost (pe_var (i := 0) rfl (.inl rfl)) (pe_var (i := 1) rfl (.inl rfl))) (.cons (ps_ost (pe_var (i := 0) rfl (.inl rfl)) (pe_var (i := 2) rfl (.inl rfl))) (.nil _)))), .all fun us hl => match us, hl with | [_, _, _], _ => rfl⟩
abbrev s_F_table_of : Stmt := topS 14
theorem sc_F_table_of : FnScope ["schema", "name", "table"] ["schema", "name"] (defScope s_F_table_of) := ⟨rfl, rfl, rfl, by decide +kernel, rfl, by decide +kernel, by decide +kernel⟩
theorem w_F_table_of {fa : Addr} {fd : FuncData} (G : Fun K "table_of" "table_of" s_F_table_of fa fd) (hm : mg (Str.ofString "table_of") = some (.ref fa)) (hb : Binds K fd ["schema", "name"] []) (z : Z mg) : FT P w K mg base 1 "table_of" F_table_of 2 :=
  ft_of (fn_core (lv := 0) G sc_F_table_of rfl rfl fun cdv A outer s H E hr tk po => 
      (ss_cons (ss_for (tg := (.nm 2)) po rfl (si_seq (se_var 0)) (sg_nm 2 sc_F_table_of.nd) (ss_one (ss_if (st_eq hr (se_ix (se_var 2) se_int) (se_var 1)) (ss_one (ss_ret (se_var 2))) ss_nil)))
      (ss_one (ss_ret se_non)))) hm G.kp hb
abbrev s_F_run_end : Stmt := topS 19
theorem sc_F_run_end : FnScope ["line", "at", "chars", "end"] ["line", "at", "chars"] (defScope s_F_run_end) := ⟨rfl, rfl, rfl, by decide +kernel, rfl, by decide +kernel, by decide +kernel⟩
theorem w_F_run_end {fa : Addr} {fd : FuncData} (G : Fun K "run_end" "run_end" s_F_run_end fa fd) (hm : mg (Str.ofString "run_end") = some (.ref fa)) (hb : Binds K fd ["line", "at", "chars"] []) (z : Z mg) : FT P w K mg base 1 "run_end" F_run_end 3 :=
  ft_of (fn_core (lv := 0) G sc_F_run_end rfl rfl fun cdv A outer s H E hr tk po => 
      (ss_cons (ss_set 3 sc_F_run_end.nd (se_var 1))
      (ss_cons (ss_while po (st_w (sw_and (st_lt (se_var 3) (se_len (by rfl) z.len (sa_cons (se_var 0) sa_nil))) (sw_and1 (st_in hr (se_ix (se_var 0) (se_var 3)) (se_var 2))))) (ss_one (ss_augAdd 3 sc_F_run_end.nd se_int)))
      (ss_one (ss_ret (se_var 3)))))) hm G.kp hb
abbrev s_F_integer_at : Stmt := topS 20
theorem sc_F_integer_at : FnScope ["line", "at", "first", "end"] ["line", "at"] (defScope s_F_integer_at) := ⟨rfl, rfl, rfl, by decide +kernel, rfl, by decide +kernel, by decide +kernel⟩
theorem w_F_integer_at {fa : Addr} {fd : FuncData} (G : Fun K "integer_at" "integer_at" s_F_integer_at fa fd) (hm : mg (Str.ofString "integer_at") = some (.ref fa)) (hb : Binds K fd ["line", "at"] []) (z : Z mg) (gd_DIGITS : GD K mg "DIGITS" d_DIGITS) (t_run_end : FT P w K mg base 1 "run_end" F_run_end 3) : FT P w K mg base 2 "integer_at" F_integer_at 2 :=
  ft_of (fn_core (lv := 1) G sc_F_integer_at rfl rfl fun cdv A outer s H E hr tk po => 
      (ss_cons (ss_set 2 sc_F_integer_at.nd (se_ifExp (st_eq hr (se_ix (se_var 0) (se_var 1)) (se_str [45])) (se_add (se_var 1) se_int) (se_var 1)))
      (ss_cons (ss_set 3 sc_F_integer_at.nd (se_call hr tk t_run_end (by decide) rfl (by rfl) (sa_cons (se_var 0) (sa_cons (se_var 2) (sa_cons (se_glob gd_DIGITS (by rfl) rfl) sa_nil)))))
      (ss_cons (ss_if (st_w (sw_or (st_eq hr (se_var 2) (se_var 3)) (sw_or1 (st_w (sw_and (st_eq hr (se_ix (se_var 0) (se_var 2)) (se_str [48])) (sw_and1 (st_gt (se_sub (se_var 3) (se_var 1)) se_int))))))) (ss_one (ss_ret (se_tup (sa_cons (se_str []) (sa_cons se_int (sa_cons (se_var 1) sa_nil)))))) ss_nil)
      (ss_one (ss_ret (se_tup (sa_cons (se_str [105, 110, 116, 101, 103, 101, 114]) (sa_cons (se_intP (by rfl) z.int (sa_cons (se_slice (se_var 0) (so_some (se_var 1)) (so_some (se_var 3))) sa_nil)) (sa_cons (se_var 3) sa_nil)))))))))) hm G.kp hb
abbrev s_F_token_at : Stmt := topS 21
theorem sc_F_token_at : FnScope ["line", "at", "char", "end"] ["line", "at"] (defScope s_F_token_at) := ⟨rfl, rfl, rfl, by decide +kernel, rfl, by decide +kernel, by decide +kernel⟩
theorem w_F_token_at {fa : Addr} {fd : FuncData} (G : Fun K "token_at" "token_at" s_F_token_at fa fd) (hm : mg (Str.ofString "token_at") = some (.ref fa)) (hb : Binds K fd ["line", "at"] []) (z : Z mg) (gd_SIGNS : GD K mg "SIGNS" d_SIGNS) (gd_LETTERS : GD K mg "LETTERS" d_LETTERS) (t_run_end : FT P w K mg base 1 "run_end" F_run_end 3) (t_integer_at : FT P w K mg base 2 "integer_at" F_integer_at 2) : FT P w K mg base 3 "token_at" F_token_at 2 :=
  ft_of (fn_core (lv := 2) G sc_F_token_at rfl rfl fun cdv A outer s H E hr tk po => 
      (ss_cons (ss_set 2 sc_F_token_at.nd (se_ix (se_var 0) (se_var 1)))
      (ss_cons (ss_if (st_in hr (se_var 2) (se_glob gd_SIGNS (by rfl) rfl)) (ss_one (ss_ret (se_tup (sa_cons (se_var 2) (sa_cons (se_var 2) (sa_cons (se_add (se_var 1) se_int) sa_nil)))))) ss_nil)
      (ss_cons (ss_if (st_in hr (se_var 2) (se_glob gd_LETTERS (by rfl) rfl)) (ss_cons (ss_set 3 sc_F_token_at.nd (se_call hr tk t_run_end (by decide) rfl (by rfl) (sa_cons (se_var 0) (sa_cons (se_var 1) (sa_cons (se_glob gd_LETTERS (by rfl) rfl) sa_nil)))))
      (ss_one (ss_ret (se_tup (sa_cons (se_str [119, 111, 114, 100]) (sa_cons (se_slice (se_var 0) (so_some (se_var 1)) (so_some (se_var 3))) (sa_cons (se_var 3) sa_nil))))))) ss_nil)
      (ss_cons (ss_if (st_ne hr (se_var 2) (se_str [34])) (ss_one (ss_ret (se_call hr tk t_integer_at (by decide) rfl (by rfl) (sa_cons (se_var 0) (sa_cons (se_var 1) sa_nil))))) ss_nil)
      (ss_cons (ss_set 3 sc_F_token_at.nd (se_call hr tk t_run_end (by decide) rfl (by rfl) (sa_cons (se_var 0) (sa_cons (se_add (se_var 1) se_int) (sa_cons (se_glob gd_LETTERS (by rfl) rfl) sa_nil)))))
      (ss_cons (ss_if (st_w (sw_or (st_eq hr (se_var 3) (se_add (se_var 1) se_int)) (sw_or1 (st_ne hr (se_slice (se_var 0) (so_some (se_var 3)) (so_some (se_add (se_var 3) se_int))) (se_str [34]))))) (ss_one (ss_ret (se_tup (sa_cons (se_str []) (sa_cons se_int (sa_cons (se_var 1) sa_nil)))))) ss_nil)
      (ss_one (ss_ret (se_tup (sa_cons (se_str [113, 117, 111, 116, 101, 100]) (sa_cons (se_slice (se_var 0) (so_some (se_add (se_var 1) se_int)) (so_some (se_var 3))) (sa_cons (se_add (se_var 3) se_int) sa_nil))))))))))))) hm G.kp hb
abbrev s_F_tokens_of : Stmt := topS 22
theorem sc_F_tokens_of : FnScope ["line", "tokens", "at", "kind", "value", "end"] ["line"] (defScope s_F_tokens_of) := ⟨rfl, rfl, rfl, by decide +kernel, rfl, by decide +kernel, by decide +kernel⟩
theorem w_F_tokens_of {fa : Addr} {fd : FuncData} (G : Fun K "tokens_of" "tokens_of" s_F_tokens_of fa fd) (hm : mg (Str.ofString "tokens_of") = some (.ref fa)) (hb : Binds K fd ["line"] []) (z : Z mg) (t_run_end : FT P w K mg base 1 "run_end" F_run_end 3) (t_token_at : FT P w K mg base 3 "token_at" F_token_at 2) : FT P w K mg base 4 "tokens_of" F_tokens_of 1 :=
  ft_of (fn_core (lv := 3) G sc_F_tokens_of rfl rfl fun cdv A outer s H E hr tk po => 
      (ss_cons (ss_set 1 sc_F_tokens_of.nd (se_lst sa_nil))
      (ss_cons (ss_set 2 sc_F_tokens_of.nd (se_call hr tk t_run_end (by decide) rfl (by rfl) (sa_cons (se_var 0) (sa_cons se_int (sa_cons (se_str [32]) sa_nil)))))
      (ss_cons (ss_while po (st_lt (se_var 2) (se_len (by rfl) z.len (sa_cons (se_var 0) sa_nil))) (ss_cons (ss_asg (tg := (.tp [3, 4, 5])) (se_call hr tk t_token_at (by decide) rfl (by rfl) (sa_cons (se_var 0) (sa_cons (se_var 2) sa_nil))) (sg_tp rfl (sgs_cons (sg_nm 3 sc_F_tokens_of.nd) (sgs_cons (sg_nm 4 sc_F_tokens_of.nd) (sgs_cons (sg_nm 5 sc_F_tokens_of.nd) sgs_nil)))))
      (ss_cons (ss_expr (se_bm PySem.F.plainAttrs_list PySem.F.slot_list_append PySem.F.type_list_append mt_append sim_append (.inl rfl) (se_var 1) (sa_cons (se_tup (sa_cons (se_var 2) (sa_cons (se_var 3) (sa_cons (se_var 4) sa_nil)))) sa_nil)))
      (ss_cons (ss_if (st_eq hr (se_var 3) (se_str [])) (ss_one (ss_ret (se_var 1))) ss_nil)
      (ss_one (ss_set 2 sc_F_tokens_of.nd (se_call hr tk t_run_end (by decide) rfl (by rfl) (sa_cons (se_var 0) (sa_cons (se_var 5) (sa_cons (se_str [32]) sa_nil))))))))))
      (ss_cons (ss_expr (se_bm PySem.F.plainAttrs_list PySem.F.slot_list_append PySem.F.type_list_append mt_append sim_append (.inl rfl) (se_var 1) (sa_cons (se_tup (sa_cons (se_len (by rfl) z.len (sa_cons (se_var 0) sa_nil)) (sa_cons (se_str [101, 110, 100]) (sa_cons se_int sa_nil)))) sa_nil)))
      (ss_one (ss_ret (se_var 1)))))))) hm G.kp hb
abbrev s_F_Line___init__ : Stmt := inClass (topS 23) 0
theorem sc_F_Line___init__ : FnScope ["self", "text", "number"] ["self", "text", "number"] (defScope s_F_Line___init__) := ⟨rfl, rfl, rfl, by decide +kernel, rfl, by decide +kernel, by decide +kernel⟩
theorem w_F_Line___init__ {C : Addr} {fa : Addr} {fd : FuncData} (G : Fun K "__init__" "Line.__init__" s_F_Line___init__ fa fd) (hC : mg (Str.ofString "Line") = some (.ref C)) (mk : Mk K C fa) (hb : Binds K fd ["self", "text", "number"] []) (z : Z mg) (ct_Line : CT K mg "Line" ["number", "tokens", "many"]) (t_tokens_of : FT P w K mg base 4 "tokens_of" F_tokens_of 1) : KT P w K mg base 5 "Line" F_Line___init__ 3 :=
  ⟨C, fa, fd, _, hC, mk, fn_core (lv := 4) G sc_F_Line___init__ rfl rfl fun cdv A outer s H E hr tk po => 
      (ss_cons (ss_fld ct_Line (by decide) (se_var 0) (se_var 2))
      (ss_cons (ss_fld ct_Line (by decide) (se_var 0) (se_call hr tk t_tokens_of (by decide) rfl (by rfl) (sa_cons (se_var 1) sa_nil)))
      (ss_one (ss_fld ct_Line (by decide) (se_var 0) se_int)))), hb⟩
abbrev s_F_Line_kind : Stmt := inClass (topS 23) 1
theorem sc_F_Line_kind : FnScope ["self"] ["self"] (defScope s_F_Line_kind) := ⟨rfl, rfl, rfl, by decide +kernel, rfl, by decide +kernel, by decide +kernel⟩
theorem w_F_Line_kind {C : Addr} {fa : Addr} {fd : FuncData} (G : Fun K "kind" "Line.kind" s_F_Line_kind fa fd) (hC : mg (Str.ofString "Line") = some (.ref C)) (cl : Cls K C) (me : Meth K C (Str.ofString "kind") fa) (hb : Binds K fd ["self"] []) (z : Z mg) (ct_Line : CT K mg "Line" ["number", "tokens", "many"]) : MT P w K mg base 1 "Line" "kind" F_Line_kind 1 :=
  ⟨C, fa, fd, _, hC, cl, me, fn_core (lv := 0) G sc_F_Line_kind rfl rfl fun cdv A outer s H E hr tk po => 
      (ss_one (ss_ret (se_ix (se_ix (se_fld ct_Line (by decide) (se_var 0)) (se_fld ct_Line (by decide) (se_var 0))) se_int))), hb⟩
abbrev s_F_Line_value : Stmt := inClass (topS 23) 2
theorem sc_F_Line_value : FnScope ["self"] ["self"] (defScope s_F_Line_value) := ⟨rfl, rfl, rfl, by decide +kernel, rfl, by decide +kernel, by decide +kernel⟩
theorem w_F_Line_value {C : Addr} {fa : Addr} {fd : FuncData} (G : Fun K "value" "Line.value" s_F_Line_value fa fd) (hC : mg (Str.ofString "Line") = some (.ref C)) (cl : Cls K C) (me : Meth K C (Str.ofString "value") fa) (hb : Binds K fd ["self"] []) (z : Z mg) (ct_Line : CT K mg "Line" ["number", "tokens", "many"]) : MT P w K mg base 1 "Line" "value" F_Line_value 1 :=
  ⟨C, fa, fd, _, hC, cl, me, fn_core (lv := 0) G sc_F_Line_value rfl rfl fun cdv A outer s H E hr tk po => 
      (ss_one (ss_ret (se_ix (se_ix (se_fld ct_Line (by decide) (se_var 0)) (se_fld ct_Line (by decide) (se_var 0))) se_int))), hb⟩
abbrev s_F_Line_word : Stmt := inClass (topS 23) 3
theorem sc_F_Line_word : FnScope ["self"] ["self"] (defScope s_F_Line_word) := ⟨rfl, rfl, rfl, by decide +kernel, rfl, by decide +kernel, by decide +kernel⟩
theorem w_F_Line_word {C : Addr} {fa : Addr} {fd : FuncData} (G : Fun K "word" "Line.word" s_F_Line_word fa fd) (hC : mg (Str.ofString "Line") = some (.ref C)) (cl : Cls K C) (me : Meth K C (Str.ofString "word") fa) (hb : Binds K fd ["self"] []) (z : Z mg) (mt_Line_kind : MT P w K mg base 1 "Line" "kind" F_Line_kind 1) (mt_Line_value : MT P w K mg base 1 "Line" "value" F_Line_value 1) : MT P w K mg base 2 "Line" "word" F_Line_word 1 :=
  ⟨C, fa, fd, _, hC, cl, me, fn_core (lv := 1) G sc_F_Line_word rfl rfl fun cdv A outer s H E hr tk po => 
      (ss_cons (ss_if (st_eq hr (se_meth0 hr tk mt_Line_kind (by decide) (se_var 0)) (se_str [119, 111, 114, 100])) (ss_one (ss_ret (se_meth0 hr tk mt_Line_value (by decide) (se_var 0)))) ss_nil)
      (ss_one (ss_ret (se_str [])))), hb⟩
abbrev s_F_Line_refuse : Stmt := inClass (topS 23) 5
theorem sc_F_Line_refuse : FnScope ["self"] ["self"] (defScope s_F_Line_refuse) := ⟨rfl, rfl, rfl, by decide +kernel, rfl, by decide +kernel, by decide +kernel⟩
theorem w_F_Line_refuse {C : Addr} {fa : Addr} {fd : FuncData} (G : Fun K "refuse" "Line.refuse" s_F_Line_refuse fa fd) (hC : mg (Str.ofString "Line") = some (.ref C)) (cl : Cls K C) (me : Meth K C (Str.ofString "refuse") fa) (hb : Binds K fd ["self"] []) (z : Z mg) (ct_Line : CT K mg "Line" ["number", "tokens", "many"]) (x_BadText : XT P w K mg base 1 "BadText" ["line", "at"]) : MT P w K mg base 3 "Line" "refuse" F_Line_refuse 1 :=
  ⟨C, fa, fd, _, hC, cl, me, fn_core (lv := 2) G sc_F_Line_refuse rfl rfl fun cdv A outer s H E hr tk po => 
      (ss_one (ss_raise rfl hr tk x_BadText (by decide) (by rfl) rfl (sa_cons (se_fld ct_Line (by decide) (se_var 0)) (sa_cons (se_ix (se_ix (se_fld ct_Line (by decide) (se_var 0)) (se_fld ct_Line (by decide) (se_var 0))) se_int) sa_nil)) (by decide))), hb⟩
abbrev s_F_Line_take : Stmt := inClass (topS 23) 6
theorem sc_F_Line_take : FnScope ["self", "kind", "value"] ["self", "kind"] (defScope s_F_Line_take) := ⟨rfl, rfl, rfl, by decide +kernel, rfl, by decide +kernel, by decide +kernel⟩
theorem w_F_Line_take {C : Addr} {fa : Addr} {fd : FuncData} (G : Fun K "take" "Line.take" s_F_Line_take fa fd) (hC : mg (Str.ofString "Line") = some (.ref C)) (cl : Cls K C) (me : Meth K C (Str.ofString "take") fa) (hb : Binds K fd ["self", "kind"] []) (z : Z mg) (ct_Line : CT K mg "Line" ["number", "tokens", "many"]) (mt_Line_kind : MT P w K mg base 1 "Line" "kind" F_Line_kind 1) (mt_Line_refuse : MT P w K mg base 3 "Line" "refuse" F_Line_refuse 1) (mt_Line_value : MT P w K mg base 1 "Line" "value" F_Line_value 1) : MT P w K mg base 4 "Line" "take" F_Line_take 2 :=
  ⟨C, fa, fd, _, hC, cl, me, fn_core (lv := 3) G sc_F_Line_take rfl rfl fun cdv A outer s H E hr tk po => 
      (ss_cons (ss_if (st_ne hr (se_meth0 hr tk mt_Line_kind (by decide) (se_var 0)) (se_var 1)) (ss_one (ss_expr (se_meth0 hr tk mt_Line_refuse (by decide) (se_var 0)))) ss_nil)
      (ss_cons (ss_set 2 sc_F_Line_take.nd (se_meth0 hr tk mt_Line_value (by decide) (se_var 0)))
      (ss_cons (ss_fldinc ct_Line (by decide) (se_var 0))
      (ss_one (ss_ret (se_var 2)))))), hb⟩
abbrev s_F_Line_take_value : Stmt := inClass (topS 23) 9
theorem sc_F_Line_take_value : FnScope ["self"] ["self"] (defScope s_F_Line_take_value) := ⟨rfl, rfl, rfl, by decide +kernel, rfl, by decide +kernel, by decide +kernel⟩
theorem w_F_Line_take_value {C : Addr} {fa : Addr} {fd : FuncData} (G : Fun K "take_value" "Line.take_value" s_F_Line_take_value fa fd) (hC : mg (Str.ofString "Line") = some (.ref C)) (cl : Cls K C) (me : Meth K C (Str.ofString "take_value") fa) (hb : Binds K fd ["self"] []) (z : Z mg) (mt_Line_kind : MT P w K mg base 1 "Line" "kind" F_Line_kind 1) (mt_Line_refuse : MT P w K mg base 3 "Line" "refuse" F_Line_refuse 1) (mt_Line_take : MT P w K mg base 4 "Line" "take" F_Line_take 2) : MT P w K mg base 5 "Line" "take_value" F_Line_take_value 1 :=
  ⟨C, fa, fd, _, hC, cl, me, fn_core (lv := 4) G sc_F_Line_take_value rfl rfl fun cdv A outer s H E hr tk po => 
      (ss_cons (ss_if (st_notIn hr (se_meth0 hr tk mt_Line_kind (by decide) (se_var 0)) (se_tup (sa_cons (se_str [105, 110, 116, 101, 103, 101, 114]) (sa_cons (se_str [113, 117, 111, 116, 101, 100]) sa_nil)))) (ss_one (ss_expr (se_meth0 hr tk mt_Line_refuse (by decide) (se_var 0)))) ss_nil)
      (ss_one (ss_ret (se_meth hr tk mt_Line_take (by decide) (se_var 0) (sa_cons (se_meth0 hr tk mt_Line_kind (by decide) (se_var 0)) sa_nil))))), hb⟩
abbrev s_F_take_value : Stmt := topS 25
theorem sc_F_take_value : FnScope ["line"] ["line"] (defScope s_F_take_value) := ⟨rfl, rfl, rfl, by decide +kernel, rfl, by decide +kernel, by decide +kernel⟩
theorem w_F_take_value {fa : Addr} {fd : FuncData} (G : Fun K "take_value" "take_value" s_F_take_value fa fd) (hm : mg (Str.ofString "take_value") = some (.ref fa)) (hb : Binds K fd ["line"] []) (z : Z mg) (mt_Line_take_value : MT P w K mg base 5 "Line" "take_value" F_Line_take_value 1) : FT P w K mg base 6 "take_value" F_take_value 1 :=
  ft_of (fn_core (lv := 5) G sc_F_take_value rfl rfl fun cdv A outer s H E hr tk po => 
      (ss_one (ss_ret (se_meth0 hr tk mt_Line_take_value (by decide) (se_var 0))))) hm G.kp hb
abbrev s_F_take_places : Stmt := topS 26
theorem sc_F_take_places : FnScope ["line", "count", "take_place", "places", "at"] ["line", "count", "take_place"] (defScope s_F_take_places) := ⟨rfl, rfl, rfl, by decide +kernel, rfl, by decide +kernel, by decide +kernel⟩
theorem w_F_take_places {fa : Addr} {fd : FuncData} (G : Fun K "take_places" "take_places" s_F_take_places fa fd) (hm : mg (Str.ofString "take_places") = some (.ref fa)) (hb : Binds K fd ["line", "count", "take_place"] []) (z : Z mg) (t_take_value : FT P w K mg base 6 "take_value" F_take_value 1) (mt_Line_take : MT P w K mg base 4 "Line" "take" F_Line_take 2) (hh_F_take_places : ∀ y F, hs_F_take_places.lookup y = some F → ∃ lv, lv ≤ 6 ∧ FT P w K mg base lv y F 1) : FT P w K mg base 7 "take_places" F_take_places 3 :=
  ft_of (fn_core (lv := 6) G sc_F_take_places rfl rfl fun cdv A outer s H E hr tk po => 
      (ss_cons (ss_set 3 sc_F_take_places.nd (se_lst sa_nil))
      (ss_cons (ss_for (tg := (.nm 4)) po rfl (si_range1 (by rfl) z.range (sa_cons (se_var 1) sa_nil)) (sg_nm 4 sc_F_take_places.nd) (ss_cons (ss_if (st_gt (se_var 4) se_int) (ss_one (ss_expr (se_meth hr tk mt_Line_take (by decide) (se_var 0) (sa_cons (se_str [44]) sa_nil)))) ss_nil)
      (ss_one (ss_expr (se_bm PySem.F.plainAttrs_list PySem.F.slot_list_append PySem.F.type_list_append mt_append sim_append (.inl rfl) (se_var 3) (sa_cons (se_callV 2 hr tk hh_F_take_places (sa_cons (se_var 0) sa_nil)) sa_nil))))))
      (ss_one (ss_ret (se_var 3)))))) hm G.kp hb
abbrev s_F_take_cells : Stmt := topS 27
theorem sc_F_take_cells : FnScope ["line", "table", "take_place", "key", "others"] ["line", "table", "take_place"] (defScope s_F_take_cells) := ⟨rfl, rfl, rfl, by decide +kernel, rfl, by decide +kernel, by decide +kernel⟩
theorem w_F_take_cells {fa : Addr} {fd : FuncData} (G : Fun K "take_cells" "take_cells" s_F_take_cells fa fd) (hm : mg (Str.ofString "take_cells") = some (.ref fa)) (hb : Binds K fd ["line", "table", "take_place"] []) (z : Z mg) (t_take_places : FT P w K mg base 7 "take_places" F_take_places 3) (mt_Line_take : MT P w K mg base 4 "Line" "take" F_Line_take 2) : FT P w K mg base 8 "take_cells" F_take_cells 3 :=
  ft_of (fn_core (lv := 7) G sc_F_take_cells rfl rfl fun cdv A outer s H E hr tk po => 
      (ss_cons (ss_expr (se_meth hr tk mt_Line_take (by decide) (se_var 0) (sa_cons (se_str [40]) sa_nil)))
      (ss_cons (ss_set 3 sc_F_take_cells.nd (se_call hr tk t_take_places (by decide) rfl (by rfl) (sa_cons (se_var 0) (sa_cons (se_ix (se_var 1) se_int) (sa_cons (se_var 2) sa_nil)))))
      (ss_cons (ss_expr (se_meth hr tk mt_Line_take (by decide) (se_var 0) (sa_cons (se_str [124]) sa_nil)))
      (ss_cons (ss_set 4 sc_F_take_cells.nd (se_call hr tk t_take_places (by decide) rfl (by rfl) (sa_cons (se_var 0) (sa_cons (se_ix (se_var 1) se_int) (sa_cons (se_var 2) sa_nil)))))
      (ss_cons (ss_expr (se_meth hr tk mt_Line_take (by decide) (se_var 0) (sa_cons (se_str [41]) sa_nil)))
      (ss_one (ss_ret (se_tuple (by rfl) z.tuple (sa_cons (se_add (se_var 3) (se_var 4)) sa_nil)))))))))) hm G.kp hb
abbrev s_F_take_row : Stmt := topS 28
theorem sc_F_take_row : FnScope ["line", "schema", "table"] ["line", "schema"] (defScope s_F_take_row) := ⟨rfl, rfl, rfl, by decide +kernel, rfl, by decide +kernel, by decide +kernel⟩
theorem w_F_take_row {fa : Addr} {fd : FuncData} (G : Fun K "take_row" "take_row" s_F_take_row fa fd) (hm : mg (Str.ofString "take_row") = some (.ref fa)) (hb : Binds K fd ["line", "schema"] []) (z : Z mg) (t_table_of : FT P w K mg base 1 "table_of" F_table_of 2) (t_take_value : FT P w K mg base 6 "take_value" F_take_value 1) (t_take_cells : FT P w K mg base 8 "take_cells" F_take_cells 3) (mt_Line_word : MT P w K mg base 2 "Line" "word" F_Line_word 1) (mt_Line_refuse : MT P w K mg base 3 "Line" "refuse" F_Line_refuse 1) (mt_Line_take : MT P w K mg base 4 "Line" "take" F_Line_take 2) : FT P w K mg base 9 "take_row" F_take_row 2 :=
  ft_of (fn_core (lv := 8) G sc_F_take_row rfl rfl fun cdv A outer s H E hr tk po => 
      (ss_cons (ss_set 2 sc_F_take_row.nd (se_call hr tk t_table_of (by decide) rfl (by rfl) (sa_cons (se_var 1) (sa_cons (se_meth0 hr tk mt_Line_word (by decide) (se_var 0)) sa_nil))))
      (ss_cons (ss_if (st_isN (se_var 2)) (ss_one (ss_expr (se_meth0 hr tk mt_Line_refuse (by decide) (se_var 0)))) ss_nil)
      (ss_cons (ss_expr (se_meth hr tk mt_Line_take (by decide) (se_var 0) (sa_cons (se_str [119, 111, 114, 100]) sa_nil)))
      (ss_one (ss_ret (se_tup (sa_cons (se_ix (se_var 2) se_int) (sa_cons (se_call hr tk t_take_cells (by decide) rfl (by rfl) (sa_cons (se_var 0) (sa_cons (se_var 2) (sa_cons (se_fnT t_take_value rfl (by rfl)) sa_nil)))) sa_nil))))))))) hm G.kp hb
abbrev s_F_read_row : Stmt := topS 29
theorem sc_F_read_row : FnScope ["schema", "text", "line", "pair"] ["schema", "text"] (defScope s_F_read_row) := ⟨rfl, rfl, rfl, by decide +kernel, rfl, by decide +kernel, by decide +kernel⟩
theorem w_F_read_row {fa : Addr} {fd : FuncData} (G : Fun K "read_row" "read_row" s_F_read_row fa fd) (hm : mg (Str.ofString "read_row") = some (.ref fa)) (hb : Binds K fd ["schema", "text"] []) (z : Z mg) (t_take_row : FT P w K mg base 9 "take_row" F_take_row 2) (mt_Line_take : MT P w K mg base 4 "Line" "take" F_Line_take 2) (kt_Line : KT P w K mg base 5 "Line" F_Line___init__ 3) : FT P w K mg base 10 "read_row" F_read_row 2 :=
  ft_of (fn_core (lv := 9) G sc_F_read_row rfl rfl fun cdv A outer s H E hr tk po => 
      (ss_cons (ss_set 2 sc_F_read_row.nd (se_make hr tk kt_Line (by decide) rfl (by rfl) (sa_cons (se_var 1) (sa_cons se_int sa_nil))))
      (ss_cons (ss_set 3 sc_F_read_row.nd (se_call hr tk t_take_row (by decide) rfl (by rfl) (sa_cons (se_var 2) (sa_cons (se_var 0) sa_nil))))
      (ss_cons (ss_expr (se_meth hr tk mt_Line_take (by decide) (se_var 2) (sa_cons (se_str [101, 110, 100]) sa_nil)))
      (ss_one (ss_ret (se_var 3))))))) hm G.kp hb
abbrev s_F__law_draws : Stmt := topS 31
theorem sc_F__law_draws : FnScope ["script", "many", "cells", "left", "draws", "k", "place", "mixed", "cell"] ["script", "many"] (defScope s_F__law_draws) := ⟨rfl, rfl, rfl, by decide +kernel, rfl, by decide +kernel, by decide +kernel⟩
theorem w_F__law_draws {fa : Addr} {fd : FuncData} (G : Fun K "_law_draws" "_law_draws" s_F__law_draws fa fd) (hm : mg (Str.ofString "_law_draws") = some (.ref fa)) (hb : Binds K fd ["script", "many"] []) (z : Z mg) : FT P w K mg base 1 "_law_draws" F__law_draws 2 :=
  ft_of (fn_core (lv := 0) G sc_F__law_draws rfl rfl fun cdv A outer s H E hr tk po => 
      (ss_cons (ss_setLc 2 (own := [("cell", 8)]) (tg := (.nm 8)) rfl sc_F__law_draws.nd (sw_true rfl rfl rfl (by decide +kernel)) (si_seq (se_var 0)) (by show blkC ["script", "many", "cells", "left", "draws", "k", "place", "mixed", "cell"] (defScope s_F__law_draws) _ _ = true; decide +kernel) (fun _ _ _ _ _ => (sg_nm 8 sc_F__law_draws.nd)) (fun _ _ _ _ _ => sts_nil) (fun _ _ _ _ _ => (se_intP (by rfl) z.int (sa_cons (se_var 8) sa_nil))))
      (ss_cons (ss_if (st_eq hr (se_len (by rfl) z.len (sa_cons (se_var 2) sa_nil)) se_int) (ss_one (ss_expr (se_bm PySem.F.plainAttrs_list PySem.F.slot_list_append PySem.F.type_list_append mt_append sim_append (.inl rfl) (se_var 2) (sa_cons se_int sa_nil)))) ss_nil)
      (ss_cons (ss_set 3 sc_F__law_draws.nd (se_list (by rfl) z.list (sa_cons (se_var 2) sa_nil)))
      (ss_cons (ss_set 4 sc_F__law_draws.nd (se_lst sa_nil))
      (ss_cons (ss_for (tg := (.nm 5)) po rfl (si_range1 (by rfl) z.range (sa_cons (se_var 1) sa_nil)) (sg_nm 5 sc_F__law_draws.nd) (ss_cons (ss_set 6 sc_F__law_draws.nd (se_mod (se_var 5) (se_len (by rfl) z.len (sa_cons (se_var 2) sa_nil))))
      (ss_one (ss_if (st_ge (se_ix (se_var 2) (se_var 6)) (se_pow se_int se_int)) (ss_cons (ss_expr (se_bm PySem.F.plainAttrs_list PySem.F.slot_list_append PySem.F.type_list_append mt_append sim_append (.inl rfl) (se_var 4) (sa_cons (se_mod (se_intP (by rfl) z.int (sa_cons (se_ix (se_var 3) (se_var 6)) sa_nil)) se_int) sa_nil)))
      (ss_one (ss_putL (se_var 3) (se_var 6) (se_fdiv (se_ix (se_var 3) (se_var 6)) se_int)))) (ss_cons (ss_set 7 sc_F__law_draws.nd (se_mod (se_intP (by rfl) z.int (sa_cons (se_add (se_add (se_mul (se_ix (se_var 2) (se_var 6)) se_int) (se_mul (se_var 5) se_int)) se_int) sa_nil)) se_int))
      (ss_one (ss_expr (se_bm PySem.F.plainAttrs_list PySem.F.slot_list_append PySem.F.type_list_append mt_append sim_append (.inl rfl) (se_var 4) (sa_cons (se_mod (se_intP (by rfl) z.int (sa_cons (se_add (se_add (se_mul (se_var 7) (se_var 7)) (se_mul se_int (se_var 7))) (se_var 5)) sa_nil)) se_int) sa_nil)))))))))
      (ss_cons (ss_expr (se_bm0 PySem.F.plainAttrs_list PySem.F.slot_list_reverse PySem.F.type_list_reverse mt_reverse sim_reverse (.inl rfl) (se_var 4)))
      (ss_one (ss_ret (se_var 4)))))))))) hm G.kp hb
abbrev s_F__law_take : Stmt := topS 32
theorem sc_F__law_take : FnScope ["draws", "many"] ["draws", "many"] (defScope s_F__law_take) := ⟨rfl, rfl, rfl, by decide +kernel, rfl, by decide +kernel, by decide +kernel⟩
theorem w_F__law_take {fa : Addr} {fd : FuncData} (G : Fun K "_law_take" "_law_take" s_F__law_take fa fd) (hm : mg (Str.ofString "_law_take") = some (.ref fa)) (hb : Binds K fd ["draws", "many"] []) (z : Z mg) : FT P w K mg base 1 "_law_take" F__law_take 2 :=
  ft_of (fn_core (lv := 0) G sc_F__law_take rfl rfl fun cdv A outer s H E hr tk po => 
      (ss_cons (ss_if (st_eq hr (se_len (by rfl) z.len (sa_cons (se_var 0) sa_nil)) se_int) (ss_one (ss_ret se_int)) ss_nil)
      (ss_one (ss_ret (se_mod (se_intP (by rfl) z.int (sa_cons (se_bm0 PySem.F.plainAttrs_list PySem.F.slot_list_pop PySem.F.type_list_pop mt_pop sim_pop (.inl rfl) (se_var 0)) sa_nil)) (se_var 1)))))) hm G.kp hb
abbrev s_F__law_pick : Stmt := topS 33
theorem sc_F__law_pick : FnScope ["draws", "row"] ["draws", "row"] (defScope s_F__law_pick) := ⟨rfl, rfl, rfl, by decide +kernel, rfl, by decide +kernel, by decide +kernel⟩
theorem w_F__law_pick {fa : Addr} {fd : FuncData} (G : Fun K "_law_pick" "_law_pick" s_F__law_pick fa fd) (hm : mg (Str.ofString "_law_pick") = some (.ref fa)) (hb : Binds K fd ["draws", "row"] []) (z : Z mg) (t__law_take : FT P w K mg base 1 "_law_take" F__law_take 2) : FT P w K mg base 2 "_law_pick" F__law_pick 2 :=
  ft_of (fn_core (lv := 1) G sc_F__law_pick rfl rfl fun cdv A outer s H E hr tk po => 
      (ss_one (ss_ret (se_ix (se_var 1) (se_call hr tk t__law_take (by decide) rfl (by rfl) (sa_cons (se_var 0) (sa_cons (se_len (by rfl) z.len (sa_cons (se_var 1) sa_nil)) sa_nil))))))) hm G.kp hb
abbrev s_F__law_same : Stmt := topS 34
theorem sc_F__law_same : FnScope ["actual", "due", "k"] ["actual", "due"] (defScope s_F__law_same) := ⟨rfl, rfl, rfl, by decide +kernel, rfl, by decide +kernel, by decide +kernel⟩
theorem w_F__law_same {fa : Addr} {fd : FuncData} (G : Fun K "_law_same" "_law_same" s_F__law_same fa fd) (hm : mg (Str.ofString "_law_same") = some (.ref fa)) (hb : Binds K fd ["actual", "due"] []) (z : Z mg) : ∀ n : Nat, FT P w K mg base (n + 0) "_law_same" (F__law_same n) 2
  | 0 => ft_of fn_stuck hm G.kp hb
  | n + 1 => by
    have t__law_same := w_F__law_same G hm hb z n
    have e : n + 1 + 0 = n + 0 + 1 := by omega
    rw [e]
    exact ft_of (fn_core (lv := n + 0) G sc_F__law_same rfl rfl fun cdv A outer s H E hr tk po => 
      (ss_cons (ss_if (st_val (se_is2 "tuple" "list" (by decide) (by decide) (by rfl) z.isinstance (by rfl) z.tuple (by decide +kernel) (by rfl) z.list (by decide +kernel) (se_var 1))) (ss_cons (ss_if (st_w (sw_or (st_ne hr (se_is "tuple" (by decide) (by rfl) z.isinstance (by rfl) z.tuple (by decide +kernel) (se_var 0)) (se_is "tuple" (by decide) (by rfl) z.isinstance (by rfl) z.tuple (by decide +kernel) (se_var 1))) (sw_or1 (st_ne hr (se_is "list" (by decide) (by rfl) z.isinstance (by rfl) z.list (by decide +kernel) (se_var 0)) (se_is "list" (by decide) (by rfl) z.isinstance (by rfl) z.list (by decide +kernel) (se_var 1)))))) (ss_one (ss_ret se_bl)) ss_nil)
      (ss_cons (ss_if (st_ne hr (se_len (by rfl) z.len (sa_cons (se_var 0) sa_nil)) (se_len (by rfl) z.len (sa_cons (se_var 1) sa_nil))) (ss_one (ss_ret se_bl)) ss_nil)
      (ss_one (ss_ret (se_notIn hr se_bl (se_lc (own := [("k", 2)]) (tg := (.nm 2)) rfl sc_F__law_same.nd (si_range1 (by rfl) z.range (sa_cons (se_len (by rfl) z.len (sa_cons (se_var 1) sa_nil)) sa_nil)) (by show blkC ["actual", "due", "k"] (defScope s_F__law_same) _ _ = true; decide +kernel) (fun _ _ _ _ _ => (sg_nm 2 sc_F__law_same.nd)) (fun _ _ _ _ _ => sts_nil) (fun _ _ _ _ _ => (se_call hr takes0 t__law_same (Nat.le_refl _) rfl (by rfl) (sa_cons (se_ix (se_var 0) (se_var 2)) (sa_cons (se_ix (se_var 1) (se_var 2)) sa_nil)))))))))) ss_nil)
      (ss_cons (ss_if (st_w (sw_or (st_ne hr (se_is "bool" (by decide) (by rfl) z.isinstance (by rfl) z.bool (by decide +kernel) (se_var 0)) (se_is "bool" (by decide) (by rfl) z.isinstance (by rfl) z.bool (by decide +kernel) (se_var 1))) (sw_or1 (st_ne hr (se_is "int" (by decide) (by rfl) z.isinstance (by rfl) z.int (by decide +kernel) (se_var 0)) (se_is "int" (by decide) (by rfl) z.isinstance (by rfl) z.int (by decide +kernel) (se_var 1)))))) (ss_one (ss_ret se_bl)) ss_nil)
      (ss_cons (ss_if (st_w (sw_or (st_ne hr (se_is "str" (by decide) (by rfl) z.isinstance (by rfl) z.str (by decide +kernel) (se_var 0)) (se_is "str" (by decide) (by rfl) z.isinstance (by rfl) z.str (by decide +kernel) (se_var 1))) (sw_or1 (st_ne hr (se_isN (se_var 0)) (se_isN (se_var 1)))))) (ss_one (ss_ret se_bl)) ss_nil)
      (ss_one (ss_ret (se_eq hr (se_var 0) (se_var 1)))))))) hm G.kp hb
abbrev s_F__law_words : Stmt := topS 35
theorem sc_F__law_words : FnScope ["draws", "many", "words", "k", "size", "word", "j", "other"] ["draws", "many"] (defScope s_F__law_words) := ⟨rfl, rfl, rfl, by decide +kernel, rfl, by decide +kernel, by decide +kernel⟩
theorem w_F__law_words {fa : Addr} {fd : FuncData} (G : Fun K "_law_words" "_law_words" s_F__law_words fa fd) (hm : mg (Str.ofString "_law_words") = some (.ref fa)) (hb : Binds K fd ["draws", "many"] []) (z : Z mg) (t__law_take : FT P w K mg base 1 "_law_take" F__law_take 2) : FT P w K mg base 2 "_law_words" F__law_words 2 :=
  ft_of (fn_core (lv := 1) G sc_F__law_words rfl rfl fun cdv A outer s H E hr tk po => 
      (ss_cons (ss_set 2 sc_F__law_words.nd (se_lst sa_nil))
      (ss_cons (ss_for (tg := (.nm 3)) po rfl (si_range1 (by rfl) z.range (sa_cons (se_var 1) sa_nil)) (sg_nm 3 sc_F__law_words.nd) (ss_cons (ss_set 4 sc_F__law_words.nd (se_add se_int (se_call hr tk t__law_take (by decide) rfl (by rfl) (sa_cons (se_var 0) (sa_cons se_int sa_nil)))))
      (ss_cons (ss_if (st_eq hr (se_call hr tk t__law_take (by decide) rfl (by rfl) (sa_cons (se_var 0) (sa_cons se_int sa_nil))) se_int) (ss_one (ss_set 4 sc_F__law_words.nd (se_add (se_add (se_var 4) se_int) (se_call hr tk t__law_take (by decide) rfl (by rfl) (sa_cons (se_var 0) (sa_cons se_int sa_nil)))))) ss_nil)
      (ss_cons (ss_set 5 sc_F__law_words.nd (se_join (se_str []) (se_lc (own := [("j", 6)]) (tg := (.nm 6)) rfl sc_F__law_words.nd (si_range1 (by rfl) z.range (sa_cons (se_var 4) sa_nil)) (by show blkC ["draws", "many", "words", "k", "size", "word", "j", "other"] (defScope s_F__law_words) _ _ = true; decide +kernel) (fun _ _ _ _ _ => (sg_nm 6 sc_F__law_words.nd)) (fun _ _ _ _ _ => sts_nil) (fun _ _ _ _ _ => (se_ix (se_str [97, 98, 99, 100, 101, 102, 103, 104, 105, 106, 107, 108, 109, 110, 111, 112, 113, 114, 115, 116, 117, 118, 119, 120, 121, 122]) (se_call hr takes0 t__law_take (by decide) rfl (by rfl) (sa_cons (se_var 0) (sa_cons se_int sa_nil))))))))
      (ss_cons (ss_if (st_in hr (se_var 5) (se_var 2)) (ss_one (ss_set 5 sc_F__law_words.nd (se_mul (se_str [122]) (se_add se_int (se_max rfl (by rfl) z.max (sa_cons (se_lc (own := [("other", 7)]) (tg := (.nm 7)) rfl sc_F__law_words.nd (si_seq (se_var 2)) (by show blkC ["draws", "many", "words", "k", "size", "word", "j", "other"] (defScope s_F__law_words) _ _ = true; decide +kernel) (fun _ _ _ _ _ => (sg_nm 7 sc_F__law_words.nd)) (fun _ _ _ _ _ => sts_nil) (fun _ _ _ _ _ => (se_len (by rfl) z.len (sa_cons (se_var 7) sa_nil)))) sa_nil)))))) ss_nil)
      (ss_one (ss_expr (se_bm PySem.F.plainAttrs_list PySem.F.slot_list_append PySem.F.type_list_append mt_append sim_append (.inl rfl) (se_var 2) (sa_cons (se_var 5) sa_nil)))))))))
      (ss_one (ss_ret (se_var 2)))))) hm G.kp hb
abbrev s_F__law_great_number : Stmt := topS 36
theorem sc_F__law_great_number : FnScope ["draws", "number", "k"] ["draws"] (defScope s_F__law_great_number) := ⟨rfl, rfl, rfl, by decide +kernel, rfl, by decide +kernel, by decide +kernel⟩
theorem w_F__law_great_number {fa : Addr} {fd : FuncData} (G : Fun K "_law_great_number" "_law_great_number" s_F__law_great_number fa fd) (hm : mg (Str.ofString "_law_great_number") = some (.ref fa)) (hb : Binds K fd ["draws"] []) (z : Z mg) (t__law_take : FT P w K mg base 1 "_law_take" F__law_take 2) : FT P w K mg base 2 "_law_great_number" F__law_great_number 1 :=
  ft_of (fn_core (lv := 1) G sc_F__law_great_number rfl rfl fun cdv A outer s H E hr tk po => 
      (ss_cons (ss_set 1 sc_F__law_great_number.nd se_int)
      (ss_cons (ss_for (tg := (.nm 2)) po rfl (si_range1 (by rfl) z.range (sa_cons (se_ix (se_lst (sa_cons se_int (sa_cons se_int (sa_cons se_int (sa_cons se_int sa_nil))))) (se_call hr tk t__law_take (by decide) rfl (by rfl) (sa_cons (se_var 0) (sa_cons se_int sa_nil)))) sa_nil)) (sg_nm 2 sc_F__law_great_number.nd) (ss_one (ss_set 1 sc_F__law_great_number.nd (se_add (se_mul (se_var 1) se_int) (se_call hr tk t__law_take (by decide) rfl (by rfl) (sa_cons (se_var 0) (sa_cons se_int sa_nil)))))))
      (ss_cons (ss_if (st_eq hr (se_call hr tk t__law_take (by decide) rfl (by rfl) (sa_cons (se_var 0) (sa_cons se_int sa_nil))) se_int) (ss_one (ss_ret (se_sub se_int (se_var 1)))) ss_nil)
      (ss_one (ss_ret (se_var 1))))))) hm G.kp hb
abbrev s_F__law_text_value : Stmt := topS 37
theorem sc_F__law_text_value : FnScope ["draws", "words"] ["draws", "words"] (defScope s_F__law_text_value) := ⟨rfl, rfl, rfl, by decide +kernel, rfl, by decide +kernel, by decide +kernel⟩
theorem w_F__law_text_value {fa : Addr} {fd : FuncData} (G : Fun K "_law_text_value" "_law_text_value" s_F__law_text_value fa fd) (hm : mg (Str.ofString "_law_text_value") = some (.ref fa)) (hb : Binds K fd ["draws", "words"] []) (z : Z mg) (t__law_take : FT P w K mg base 1 "_law_take" F__law_take 2) (t__law_pick : FT P w K mg base 2 "_law_pick" F__law_pick 2) (t__law_great_number : FT P w K mg base 2 "_law_great_number" F__law_great_number 1) : FT P w K mg base 3 "_law_text_value" F__law_text_value 2 :=
  ft_of (fn_core (lv := 2) G sc_F__law_text_value rfl rfl fun cdv A outer s H E hr tk po => 
      (ss_cons (ss_if (st_eq hr (se_call hr tk t__law_take (by decide) rfl (by rfl) (sa_cons (se_var 0) (sa_cons se_int sa_nil))) se_int) (ss_one (ss_ret (se_call hr tk t__law_pick (by decide) rfl (by rfl) (sa_cons (se_var 0) (sa_cons (se_var 1) sa_nil))))) ss_nil)
      (ss_one (ss_ret (se_call hr tk t__law_great_number (by decide) rfl (by rfl) (sa_cons (se_var 0) sa_nil)))))) hm G.kp hb
abbrev s_F__law_value_text : Stmt := topS 38
theorem sc_F__law_value_text : FnScope ["value"] ["value"] (defScope s_F__law_value_text) := ⟨rfl, rfl, rfl, by decide +kernel, rfl, by decide +kernel, by decide +kernel⟩
theorem w_F__law_value_text {fa : Addr} {fd : FuncData} (G : Fun K "_law_value_text" "_law_value_text" s_F__law_value_text fa fd) (hm : mg (Str.ofString "_law_value_text") = some (.ref fa)) (hb : Binds K fd ["value"] []) (z : Z mg) : FT P w K mg base 1 "_law_value_text" F__law_value_text 1 :=
  ft_of (fn_core (lv := 0) G sc_F__law_value_text rfl rfl fun cdv A outer s H E hr tk po => 
      (ss_cons (ss_if (st_val (se_is "str" (by decide) (by rfl) z.isinstance (by rfl) z.str (by decide +kernel) (se_var 0))) (ss_one (ss_ret (se_add (se_add (se_str [34]) (se_var 0)) (se_str [34])))) ss_nil)
      (ss_one (ss_ret (se_str' (by rfl) z.str (sa_cons (se_var 0) sa_nil)))))) hm G.kp hb
abbrev s_F__law_between : Stmt := topS 39
theorem sc_F__law_between : FnScope ["texts", "sign", "found", "k"] ["texts", "sign"] (defScope s_F__law_between) := ⟨rfl, rfl, rfl, by decide +kernel, rfl, by decide +kernel, by decide +kernel⟩
theorem w_F__law_between {fa : Addr} {fd : FuncData} (G : Fun K "_law_between" "_law_between" s_F__law_between fa fd) (hm : mg (Str.ofString "_law_between") = some (.ref fa)) (hb : Binds K fd ["texts", "sign"] []) (z : Z mg) : FT P w K mg base 1 "_law_between" F__law_between 2 :=
  ft_of (fn_core (lv := 0) G sc_F__law_between rfl rfl fun cdv A outer s H E hr tk po => 
      (ss_cons (ss_set 2 sc_F__law_between.nd (se_lst sa_nil))
      (ss_cons (ss_for (tg := (.nm 3)) po rfl (si_range1 (by rfl) z.range (sa_cons (se_len (by rfl) z.len (sa_cons (se_var 0) sa_nil)) sa_nil)) (sg_nm 3 sc_F__law_between.nd) (ss_cons (ss_if (st_gt (se_var 3) se_int) (ss_one (ss_expr (se_bm PySem.F.plainAttrs_list PySem.F.slot_list_append PySem.F.type_list_append mt_append sim_append (.inl rfl) (se_var 2) (sa_cons (se_var 1) sa_nil)))) ss_nil)
      (ss_one (ss_expr (se_bm PySem.F.plainAttrs_list PySem.F.slot_list_append PySem.F.type_list_append mt_append sim_append (.inl rfl) (se_var 2) (sa_cons (se_ix (se_var 0) (se_var 3)) sa_nil))))))
      (ss_one (ss_ret (se_var 2)))))) hm G.kp hb
abbrev s_F__law_cells_texts : Stmt := topS 40
theorem sc_F__law_cells_texts : FnScope ["name", "cells", "key", "found"] ["name", "cells", "key"] (defScope s_F__law_cells_texts) := ⟨rfl, rfl, rfl, by decide +kernel, rfl, by decide +kernel, by decide +kernel⟩
theorem w_F__law_cells_texts {fa : Addr} {fd : FuncData} (G : Fun K "_law_cells_texts" "_law_cells_texts" s_F__law_cells_texts fa fd) (hm : mg (Str.ofString "_law_cells_texts") = some (.ref fa)) (hb : Binds K fd ["name", "cells", "key"] []) (z : Z mg) (t__law_between : FT P w K mg base 1 "_law_between" F__law_between 2) : FT P w K mg base 2 "_law_cells_texts" F__law_cells_texts 3 :=
  ft_of (fn_core (lv := 1) G sc_F__law_cells_texts rfl rfl fun cdv A outer s H E hr tk po => 
      (ss_cons (ss_if (st_lt (se_var 2) se_int) (ss_one (ss_ret (se_add (se_add (se_lst (sa_cons (se_var 0) (sa_cons (se_str [40]) sa_nil))) (se_call hr tk t__law_between (by decide) rfl (by rfl) (sa_cons (se_var 1) (sa_cons (se_str [44]) sa_nil)))) (se_lst (sa_cons (se_str [41]) sa_nil))))) ss_nil)
      (ss_cons (ss_set 3 sc_F__law_cells_texts.nd (se_add (se_add (se_lst (sa_cons (se_var 0) (sa_cons (se_str [40]) sa_nil))) (se_call hr tk t__law_between (by decide) rfl (by rfl) (sa_cons (se_slice (se_var 1) so_none (so_some (se_var 2))) (sa_cons (se_str [44]) sa_nil)))) (se_lst (sa_cons (se_str [124]) sa_nil))))
      (ss_one (ss_ret (se_add (se_add (se_var 3) (se_call hr tk t__law_between (by decide) rfl (by rfl) (sa_cons (se_slice (se_var 1) (so_some (se_var 2)) so_none) (sa_cons (se_str [44]) sa_nil)))) (se_lst (sa_cons (se_str [41]) sa_nil)))))))) hm G.kp hb
abbrev s_F__law_run : Stmt := topS 41
theorem sc_F__law_run : FnScope ["line", "at", "chars", "k"] ["line", "at", "chars"] (defScope s_F__law_run) := ⟨rfl, rfl, rfl, by decide +kernel, rfl, by decide +kernel, by decide +kernel⟩
theorem w_F__law_run {fa : Addr} {fd : FuncData} (G : Fun K "_law_run" "_law_run" s_F__law_run fa fd) (hm : mg (Str.ofString "_law_run") = some (.ref fa)) (hb : Binds K fd ["line", "at", "chars"] []) (z : Z mg) : FT P w K mg base 1 "_law_run" F__law_run 3 :=
  ft_of (fn_core (lv := 0) G sc_F__law_run rfl rfl fun cdv A outer s H E hr tk po => 
      (ss_cons (ss_for (tg := (.nm 3)) po rfl (si_range2 (by rfl) z.range (sa_cons (se_var 1) (sa_cons (se_len (by rfl) z.len (sa_cons (se_var 0) sa_nil)) sa_nil))) (sg_nm 3 sc_F__law_run.nd) (ss_one (ss_if (st_notIn hr (se_ix (se_var 0) (se_var 3)) (se_var 2)) (ss_one (ss_ret (se_var 3))) ss_nil)))
      (ss_one (ss_ret (se_len (by rfl) z.len (sa_cons (se_var 0) sa_nil)))))) hm G.kp hb
abbrev s_F__law_token_end : Stmt := topS 42
theorem sc_F__law_token_end : FnScope ["line", "at", "letters", "end", "first", "digits"] ["line", "at"] (defScope s_F__law_token_end) := ⟨rfl, rfl, rfl, by decide +kernel, rfl, by decide +kernel, by decide +kernel⟩
theorem w_F__law_token_end {fa : Addr} {fd : FuncData} (G : Fun K "_law_token_end" "_law_token_end" s_F__law_token_end fa fd) (hm : mg (Str.ofString "_law_token_end") = some (.ref fa)) (hb : Binds K fd ["line", "at"] []) (z : Z mg) (t__law_run : FT P w K mg base 1 "_law_run" F__law_run 3) : FT P w K mg base 2 "_law_token_end" F__law_token_end 2 :=
  ft_of (fn_core (lv := 1) G sc_F__law_token_end rfl rfl fun cdv A outer s H E hr tk po => 
      (ss_cons (ss_set 2 sc_F__law_token_end.nd (se_str [97, 98, 99, 100, 101, 102, 103, 104, 105, 106, 107, 108, 109, 110, 111, 112, 113, 114, 115, 116, 117, 118, 119, 120, 121, 122]))
      (ss_cons (ss_if (st_in hr (se_ix (se_var 0) (se_var 1)) (se_str [40, 41, 44, 124])) (ss_one (ss_ret (se_add (se_var 1) se_int))) ss_nil)
      (ss_cons (ss_if (st_in hr (se_ix (se_var 0) (se_var 1)) (se_var 2)) (ss_one (ss_ret (se_call hr tk t__law_run (by decide) rfl (by rfl) (sa_cons (se_var 0) (sa_cons (se_var 1) (sa_cons (se_var 2) sa_nil)))))) ss_nil)
      (ss_cons (ss_if (st_eq hr (se_ix (se_var 0) (se_var 1)) (se_str [34])) (ss_cons (ss_set 3 sc_F__law_token_end.nd (se_call hr tk t__law_run (by decide) rfl (by rfl) (sa_cons (se_var 0) (sa_cons (se_add (se_var 1) se_int) (sa_cons (se_var 2) sa_nil)))))
      (ss_cons (ss_if (st_w (sw_and (st_gt (se_var 3) (se_add (se_var 1) se_int)) (sw_and1 (st_eq hr (se_slice (se_var 0) (so_some (se_var 3)) (so_some (se_add (se_var 3) se_int))) (se_str [34]))))) (ss_one (ss_ret (se_add (se_var 3) se_int))) ss_nil)
      (ss_one (ss_ret (se_var 1))))) ss_nil)
      (ss_cons (ss_set 4 sc_F__law_token_end.nd (se_add (se_var 1) (se_intP (by rfl) z.int (sa_cons (se_eq hr (se_ix (se_var 0) (se_var 1)) (se_str [45])) sa_nil))))
      (ss_cons (ss_set 3 sc_F__law_token_end.nd (se_call hr tk t__law_run (by decide) rfl (by rfl) (sa_cons (se_var 0) (sa_cons (se_var 4) (sa_cons (se_str [48, 49, 50, 51, 52, 53, 54, 55, 56, 57]) sa_nil)))))
      (ss_cons (ss_set 5 sc_F__law_token_end.nd (se_slice (se_var 0) (so_some (se_var 4)) (so_some (se_var 3))))
      (ss_cons (ss_if (st_w (sw_or (st_eq hr (se_var 5) (se_str [])) (sw_or1 (st_w (sw_and (st_eq hr (se_ix (se_var 5) se_int) (se_str [48])) (sw_and1 (st_ne hr (se_slice (se_var 0) (so_some (se_var 1)) (so_some (se_var 3))) (se_str [48])))))))) (ss_one (ss_ret (se_var 1))) ss_nil)
      (ss_one (ss_ret (se_var 3)))))))))))) hm G.kp hb
abbrev s_F__law_tokens : Stmt := topS 43
theorem sc_F__law_tokens : FnScope ["line", "found", "at", "k", "end"] ["line"] (defScope s_F__law_tokens) := ⟨rfl, rfl, rfl, by decide +kernel, rfl, by decide +kernel, by decide +kernel⟩
theorem w_F__law_tokens {fa : Addr} {fd : FuncData} (G : Fun K "_law_tokens" "_law_tokens" s_F__law_tokens fa fd) (hm : mg (Str.ofString "_law_tokens") = some (.ref fa)) (hb : Binds K fd ["line"] []) (z : Z mg) (t__law_run : FT P w K mg base 1 "_law_run" F__law_run 3) (t__law_token_end : FT P w K mg base 2 "_law_token_end" F__law_token_end 2) : FT P w K mg base 3 "_law_tokens" F__law_tokens 1 :=
  ft_of (fn_core (lv := 2) G sc_F__law_tokens rfl rfl fun cdv A outer s H E hr tk po => 
      (ss_cons (ss_set 1 sc_F__law_tokens.nd (se_lst sa_nil))
      (ss_cons (ss_set 2 sc_F__law_tokens.nd (se_call hr tk t__law_run (by decide) rfl (by rfl) (sa_cons (se_var 0) (sa_cons se_int (sa_cons (se_str [32]) sa_nil)))))
      (ss_cons (ss_for (tg := (.nm 3)) po rfl (si_range1 (by rfl) z.range (sa_cons (se_len (by rfl) z.len (sa_cons (se_var 0) sa_nil)) sa_nil)) (sg_nm 3 sc_F__law_tokens.nd) (ss_cons (ss_if (st_eq hr (se_var 2) (se_len (by rfl) z.len (sa_cons (se_var 0) sa_nil))) (ss_one ss_brk) ss_nil)
      (ss_cons (ss_set 4 sc_F__law_tokens.nd (se_call hr tk t__law_token_end (by decide) rfl (by rfl) (sa_cons (se_var 0) (sa_cons (se_var 2) sa_nil))))
      (ss_cons (ss_if (st_eq hr (se_var 4) (se_var 2)) (ss_one (ss_ret (se_add (se_var 1) (se_lst (sa_cons (se_tup (sa_cons (se_var 2) (sa_cons (se_str [32]) sa_nil))) sa_nil))))) ss_nil)
      (ss_cons (ss_expr (se_bm PySem.F.plainAttrs_list PySem.F.slot_list_append PySem.F.type_list_append mt_append sim_append (.inl rfl) (se_var 1) (sa_cons (se_tup (sa_cons (se_var 2) (sa_cons (se_slice (se_var 0) (so_some (se_var 2)) (so_some (se_var 4))) sa_nil))) sa_nil)))
      (ss_one (ss_set 2 sc_F__law_tokens.nd (se_call hr tk t__law_run (by decide) rfl (by rfl) (sa_cons (se_var 0) (sa_cons (se_var 4) (sa_cons (se_str [32]) sa_nil)))))))))))
      (ss_one (ss_ret (se_add (se_var 1) (se_lst (sa_cons (se_tup (sa_cons (se_len (by rfl) z.len (sa_cons (se_var 0) sa_nil)) (sa_cons (se_str []) sa_nil))) sa_nil))))))))) hm G.kp hb
abbrev s_F__law_loose : Stmt := topS 44
theorem sc_F__law_loose : FnScope ["draws", "texts", "line", "k", "gap", "apart", "pair"] ["draws", "texts"] (defScope s_F__law_loose) := ⟨rfl, rfl, rfl, by decide +kernel, rfl, by decide +kernel, by decide +kernel⟩
theorem w_F__law_loose {fa : Addr} {fd : FuncData} (G : Fun K "_law_loose" "_law_loose" s_F__law_loose fa fd) (hm : mg (Str.ofString "_law_loose") = some (.ref fa)) (hb : Binds K fd ["draws", "texts"] []) (z : Z mg) (t__law_take : FT P w K mg base 1 "_law_take" F__law_take 2) (t__law_tokens : FT P w K mg base 3 "_law_tokens" F__law_tokens 1) : FT P w K mg base 4 "_law_loose" F__law_loose 2 :=
  ft_of (fn_core (lv := 3) G sc_F__law_loose rfl rfl fun cdv A outer s H E hr tk po => 
      (ss_cons (ss_set 2 sc_F__law_loose.nd (se_ix (se_lst (sa_cons (se_str []) (sa_cons (se_str [32]) (sa_cons (se_str []) (sa_cons (se_str [32, 32, 32]) sa_nil))))) (se_call hr tk t__law_take (by decide) rfl (by rfl) (sa_cons (se_var 0) (sa_cons se_int sa_nil)))))
      (ss_cons (ss_for (tg := (.nm 3)) po rfl (si_range1 (by rfl) z.range (sa_cons (se_len (by rfl) z.len (sa_cons (se_var 1) sa_nil)) sa_nil)) (sg_nm 3 sc_F__law_loose.nd) (ss_cons (ss_set 4 sc_F__law_loose.nd (se_ix (se_lst (sa_cons (se_str []) (sa_cons (se_str [32]) (sa_cons (se_str []) (sa_cons (se_str [32, 32]) (sa_cons (se_str [32]) sa_nil)))))) (se_call hr tk t__law_take (by decide) rfl (by rfl) (sa_cons (se_var 0) (sa_cons se_int sa_nil)))))
      (ss_cons (ss_if (st_w (sw_and (st_gt (se_var 3) se_int) (sw_and1 (st_eq hr (se_var 4) (se_str []))))) (ss_cons (ss_setLc 5 (own := [("pair", 6)]) (tg := (.nm 6)) rfl sc_F__law_loose.nd (sw_true rfl rfl rfl (by decide +kernel)) (si_seq (se_call hr tk t__law_tokens (by decide) rfl (by rfl) (sa_cons (se_add (se_ix (se_var 1) (se_sub (se_var 3) se_int)) (se_ix (se_var 1) (se_var 3))) sa_nil))) (by show blkC ["draws", "texts", "line", "k", "gap", "apart", "pair"] (defScope s_F__law_loose) _ _ = true; decide +kernel) (fun _ _ _ _ _ => (sg_nm 6 sc_F__law_loose.nd)) (fun _ _ _ _ _ => sts_nil) (fun _ _ _ _ _ => (se_ix (se_var 6) se_int)))
      (ss_one (ss_if (st_ne hr (se_var 5) (se_lst (sa_cons (se_ix (se_var 1) (se_sub (se_var 3) se_int)) (sa_cons (se_ix (se_var 1) (se_var 3)) (sa_cons (se_str []) sa_nil))))) (ss_one (ss_set 4 sc_F__law_loose.nd (se_str [32]))) ss_nil))) ss_nil)
      (ss_cons (ss_if (st_gt (se_var 3) se_int) (ss_one (ss_set 2 sc_F__law_loose.nd (se_add (se_var 2) (se_var 4)))) ss_nil)
      (ss_one (ss_set 2 sc_F__law_loose.nd (se_add (se_var 2) (se_ix (se_var 1) (se_var 3)))))))))
      (ss_one (ss_ret (se_add (se_var 2) (se_ix (se_lst (sa_cons (se_str []) (sa_cons (se_str [32]) (sa_cons (se_str []) (sa_cons (se_str [32, 32]) sa_nil))))) (se_call hr tk t__law_take (by decide) rfl (by rfl) (sa_cons (se_var 0) (sa_cons se_int sa_nil)))))))))) hm G.kp hb
abbrev s_F__law_text_words : Stmt := topS 45
theorem sc_F__law_text_words : FnScope ["draws", "many", "words", "keys", "k", "word"] ["draws", "many"] (defScope s_F__law_text_words) := ⟨rfl, rfl, rfl, by decide +kernel, rfl, by decide +kernel, by decide +kernel⟩
theorem w_F__law_text_words {fa : Addr} {fd : FuncData} (G : Fun K "_law_text_words" "_law_text_words" s_F__law_text_words fa fd) (hm : mg (Str.ofString "_law_text_words") = some (.ref fa)) (hb : Binds K fd ["draws", "many"] []) (z : Z mg) (t__law_words : FT P w K mg base 2 "_law_words" F__law_words 2) (t__law_pick : FT P w K mg base 2 "_law_pick" F__law_pick 2) (t__law_take : FT P w K mg base 1 "_law_take" F__law_take 2) : FT P w K mg base 3 "_law_text_words" F__law_text_words 2 :=
  ft_of (fn_core (lv := 2) G sc_F__law_text_words rfl rfl fun cdv A outer s H E hr tk po => 
      (ss_cons (ss_set 2 sc_F__law_text_words.nd (se_call hr tk t__law_words (by decide) rfl (by rfl) (sa_cons (se_var 0) (sa_cons (se_var 1) sa_nil))))
      (ss_cons (ss_set 3 sc_F__law_text_words.nd (se_lst (sa_cons (se_str [116, 111]) (sa_cons (se_str [111, 110]) (sa_cons (se_str [110, 101, 118, 101, 114]) (sa_cons (se_str [116, 114, 117, 101]) (sa_cons (se_str [105, 102]) (sa_cons (se_str [108, 101, 115, 115]) (sa_cons (se_str [117, 110, 108, 105, 107, 101]) (sa_cons (se_str [111, 110, 99, 101]) (sa_cons (se_str [101, 118, 101, 114]) (sa_cons (se_str [97, 108, 119, 97, 121, 115]) (sa_cons (se_str [116, 97, 98, 108, 101]) (sa_cons (se_str [116, 111, 108, 100]) (sa_cons (se_str [97, 103, 111]) sa_nil)))))))))))))))
      (ss_cons (ss_for (tg := (.nm 4)) po rfl (si_range1 (by rfl) z.range (sa_cons se_int sa_nil)) (sg_nm 4 sc_F__law_text_words.nd) (ss_cons (ss_set 5 sc_F__law_text_words.nd (se_call hr tk t__law_pick (by decide) rfl (by rfl) (sa_cons (se_var 0) (sa_cons (se_var 3) sa_nil))))
      (ss_one (ss_if (st_w (sw_and (st_notIn hr (se_var 5) (se_var 2)) (sw_and1 (st_eq hr (se_call hr tk t__law_take (by decide) rfl (by rfl) (sa_cons (se_var 0) (sa_cons se_int sa_nil))) se_int)))) (ss_one (ss_putL (se_var 2) (se_call hr tk t__law_take (by decide) rfl (by rfl) (sa_cons (se_var 0) (sa_cons (se_var 1) sa_nil))) (se_var 5))) ss_nil))))
      (ss_one (ss_ret (se_var 2))))))) hm G.kp hb
abbrev s_F__law_text_schema : Stmt := topS 46
theorem sc_F__law_text_schema : FnScope ["draws", "names", "tables", "name", "key", "others"] ["draws", "names"] (defScope s_F__law_text_schema) := ⟨rfl, rfl, rfl, by decide +kernel, rfl, by decide +kernel, by decide +kernel⟩
theorem w_F__law_text_schema {fa : Addr} {fd : FuncData} (G : Fun K "_law_text_schema" "_law_text_schema" s_F__law_text_schema fa fd) (hm : mg (Str.ofString "_law_text_schema") = some (.ref fa)) (hb : Binds K fd ["draws", "names"] []) (z : Z mg) (t__law_take : FT P w K mg base 1 "_law_take" F__law_take 2) : FT P w K mg base 2 "_law_text_schema" F__law_text_schema 2 :=
  ft_of (fn_core (lv := 1) G sc_F__law_text_schema rfl rfl fun cdv A outer s H E hr tk po => 
      (ss_cons (ss_set 2 sc_F__law_text_schema.nd (se_lst sa_nil))
      (ss_cons (ss_for (tg := (.nm 3)) po rfl (si_seq (se_sortedS (by rfl) z.sorted (sa_cons (se_var 1) sa_nil))) (sg_nm 3 sc_F__law_text_schema.nd) (ss_cons (ss_set 4 sc_F__law_text_schema.nd (se_ix (se_lst (sa_cons se_int (sa_cons se_int (sa_cons se_int (sa_cons se_int (sa_cons se_int (sa_cons se_int (sa_cons se_int sa_nil)))))))) (se_call hr tk t__law_take (by decide) rfl (by rfl) (sa_cons (se_var 0) (sa_cons se_int sa_nil)))))
      (ss_cons (ss_set 5 sc_F__law_text_schema.nd (se_ix (se_lst (sa_cons se_int (sa_cons se_int (sa_cons se_int (sa_cons se_int (sa_cons se_int (sa_cons se_int (sa_cons se_int sa_nil)))))))) (se_call hr tk t__law_take (by decide) rfl (by rfl) (sa_cons (se_var 0) (sa_cons se_int sa_nil)))))
      (ss_one (ss_expr (se_bm PySem.F.plainAttrs_list PySem.F.slot_list_append PySem.F.type_list_append mt_append sim_append (.inl rfl) (se_var 2) (sa_cons (se_tup (sa_cons (se_var 3) (sa_cons (se_var 4) (sa_cons (se_min rfl (by rfl) z.min (sa_cons (se_var 5) (sa_cons (se_sub se_int (se_var 4)) sa_nil))) sa_nil)))) sa_nil)))))))
      (ss_one (ss_ret (se_tuple (by rfl) z.tuple (sa_cons (se_var 2) sa_nil))))))) hm G.kp hb
abbrev s_F__law_is_whole : Stmt := topS 47
theorem sc_F__law_is_whole : FnScope ["token"] ["token"] (defScope s_F__law_is_whole) := ⟨rfl, rfl, rfl, by decide +kernel, rfl, by decide +kernel, by decide +kernel⟩
theorem w_F__law_is_whole {fa : Addr} {fd : FuncData} (G : Fun K "_law_is_whole" "_law_is_whole" s_F__law_is_whole fa fd) (hm : mg (Str.ofString "_law_is_whole") = some (.ref fa)) (hb : Binds K fd ["token"] []) (z : Z mg) : FT P w K mg base 1 "_law_is_whole" F__law_is_whole 1 :=
  ft_of (fn_core (lv := 0) G sc_F__law_is_whole rfl rfl fun cdv A outer s H E hr tk po => 
      (ss_one (ss_ret (se_and (se_ne hr (se_var 0) (se_str [])) (se_one (se_or (se_in hr (se_ix (se_var 0) se_int) (se_str [48, 49, 50, 51, 52, 53, 54, 55, 56, 57])) (se_one (se_and (se_eq hr (se_ix (se_var 0) se_int) (se_str [45])) (se_one (se_gt (se_len (by rfl) z.len (sa_cons (se_var 0) sa_nil)) se_int)))))))))) hm G.kp hb
abbrev s_F__law_is_value : Stmt := topS 48
theorem sc_F__law_is_value : FnScope ["token"] ["token"] (defScope s_F__law_is_value) := ⟨rfl, rfl, rfl, by decide +kernel, rfl, by decide +kernel, by decide +kernel⟩
theorem w_F__law_is_value {fa : Addr} {fd : FuncData} (G : Fun K "_law_is_value" "_law_is_value" s_F__law_is_value fa fd) (hm : mg (Str.ofString "_law_is_value") = some (.ref fa)) (hb : Binds K fd ["token"] []) (z : Z mg) (t__law_is_whole : FT P w K mg base 1 "_law_is_whole" F__law_is_whole 1) : FT P w K mg base 2 "_law_is_value" F__law_is_value 1 :=
  ft_of (fn_core (lv := 1) G sc_F__law_is_value rfl rfl fun cdv A outer s H E hr tk po => 
      (ss_one (ss_ret (se_or (se_call hr tk t__law_is_whole (by decide) rfl (by rfl) (sa_cons (se_var 0) sa_nil)) (se_one (se_eq hr (se_slice (se_var 0) so_none (so_some se_int)) (se_str [34]))))))) hm G.kp hb
abbrev s_F__law_is_name : Stmt := topS 49
theorem sc_F__law_is_name : FnScope ["token"] ["token"] (defScope s_F__law_is_name) := ⟨rfl, rfl, rfl, by decide +kernel, rfl, by decide +kernel, by decide +kernel⟩
theorem w_F__law_is_name {fa : Addr} {fd : FuncData} (G : Fun K "_law_is_name" "_law_is_name" s_F__law_is_name fa fd) (hm : mg (Str.ofString "_law_is_name") = some (.ref fa)) (hb : Binds K fd ["token"] []) (z : Z mg) : FT P w K mg base 1 "_law_is_name" F__law_is_name 1 :=
  ft_of (fn_core (lv := 0) G sc_F__law_is_name rfl rfl fun cdv A outer s H E hr tk po => 
      (ss_one (ss_ret (se_and (se_ne hr (se_var 0) (se_str [])) (se_one (se_in hr (se_ix (se_var 0) se_int) (se_str [97, 98, 99, 100, 101, 102, 103, 104, 105, 106, 107, 108, 109, 110, 111, 112, 113, 114, 115, 116, 117, 118, 119, 120, 121, 122]))))))) hm G.kp hb
abbrev s_F__law_value_of : Stmt := topS 50
theorem sc_F__law_value_of : FnScope ["token"] ["token"] (defScope s_F__law_value_of) := ⟨rfl, rfl, rfl, by decide +kernel, rfl, by decide +kernel, by decide +kernel⟩
theorem w_F__law_value_of {fa : Addr} {fd : FuncData} (G : Fun K "_law_value_of" "_law_value_of" s_F__law_value_of fa fd) (hm : mg (Str.ofString "_law_value_of") = some (.ref fa)) (hb : Binds K fd ["token"] []) (z : Z mg) : FT P w K mg base 1 "_law_value_of" F__law_value_of 1 :=
  ft_of (fn_core (lv := 0) G sc_F__law_value_of rfl rfl fun cdv A outer s H E hr tk po => 
      (ss_cons (ss_if (st_eq hr (se_ix (se_var 0) se_int) (se_str [34])) (ss_one (ss_ret (se_slice (se_var 0) (so_some se_int) (so_some (se_neg se_int))))) ss_nil)
      (ss_one (ss_ret (se_intP (by rfl) z.int (sa_cons (se_var 0) sa_nil)))))) hm G.kp hb
abbrev s_F__law_next : Stmt := topS 51
theorem sc_F__law_next : FnScope ["state"] ["state"] (defScope s_F__law_next) := ⟨rfl, rfl, rfl, by decide +kernel, rfl, by decide +kernel, by decide +kernel⟩
theorem w_F__law_next {fa : Addr} {fd : FuncData} (G : Fun K "_law_next" "_law_next" s_F__law_next fa fd) (hm : mg (Str.ofString "_law_next") = some (.ref fa)) (hb : Binds K fd ["state"] []) (z : Z mg) : FT P w K mg base 1 "_law_next" F__law_next 1 :=
  ft_of (fn_core (lv := 0) G sc_F__law_next rfl rfl fun cdv A outer s H E hr tk po => 
      (ss_one (ss_ret (se_ix (se_ix (se_ix (se_var 0) se_int) (se_ix (se_var 0) se_int)) se_int)))) hm G.kp hb
abbrev s_F__law_takes : Stmt := topS 52
theorem sc_F__law_takes : FnScope ["state", "fits", "token"] ["state", "fits"] (defScope s_F__law_takes) := ⟨rfl, rfl, rfl, by decide +kernel, rfl, by decide +kernel, by decide +kernel⟩
theorem w_F__law_takes {fa : Addr} {fd : FuncData} (G : Fun K "_law_takes" "_law_takes" s_F__law_takes fa fd) (hm : mg (Str.ofString "_law_takes") = some (.ref fa)) (hb : Binds K fd ["state", "fits"] []) (z : Z mg) (t__law_next : FT P w K mg base 1 "_law_next" F__law_next 1) : FT P w K mg base 2 "_law_takes" F__law_takes 2 :=
  ft_of (fn_core (lv := 1) G sc_F__law_takes rfl rfl fun cdv A outer s H E hr tk po => 
      (ss_cons (ss_set 2 sc_F__law_takes.nd (se_call hr tk t__law_next (by decide) rfl (by rfl) (sa_cons (se_var 0) sa_nil)))
      (ss_cons (ss_if (st_ge (se_ix (se_var 0) se_int) se_int) (ss_one (ss_ret (se_str []))) ss_nil)
      (ss_cons (ss_if (st_w (sw_or (st_not (st_val (se_var 1))) (sw_or1 (st_in hr (se_var 2) (se_lst (sa_cons (se_str []) (sa_cons (se_str [32]) sa_nil))))))) (ss_cons (ss_putL (se_var 0) se_int (se_ix (se_ix (se_ix (se_var 0) se_int) (se_ix (se_var 0) se_int)) se_int))
      (ss_one (ss_ret (se_str [])))) ss_nil)
      (ss_cons (ss_putL (se_var 0) se_int (se_add (se_ix (se_var 0) se_int) se_int))
      (ss_one (ss_ret (se_var 2)))))))) hm G.kp hb
abbrev s_F__law_ends : Stmt := topS 53
theorem sc_F__law_ends : FnScope ["state"] ["state"] (defScope s_F__law_ends) := ⟨rfl, rfl, rfl, by decide +kernel, rfl, by decide +kernel, by decide +kernel⟩
theorem w_F__law_ends {fa : Addr} {fd : FuncData} (G : Fun K "_law_ends" "_law_ends" s_F__law_ends fa fd) (hm : mg (Str.ofString "_law_ends") = some (.ref fa)) (hb : Binds K fd ["state"] []) (z : Z mg) (t__law_next : FT P w K mg base 1 "_law_next" F__law_next 1) : FT P w K mg base 2 "_law_ends" F__law_ends 1 :=
  ft_of (fn_core (lv := 1) G sc_F__law_ends rfl rfl fun cdv A outer s H E hr tk po => 
      (ss_one (ss_if (st_w (sw_and (st_lt (se_ix (se_var 0) se_int) se_int) (sw_and1 (st_ne hr (se_call hr tk t__law_next (by decide) rfl (by rfl) (sa_cons (se_var 0) sa_nil)) (se_str []))))) (ss_one (ss_putL (se_var 0) se_int (se_ix (se_ix (se_ix (se_var 0) se_int) (se_ix (se_var 0) se_int)) se_int))) ss_nil))) hm G.kp hb
abbrev s_F__law_reads_cells : Stmt := topS 54
theorem sc_F__law_reads_cells : FnScope ["state", "key", "many", "terms", "cells", "k", "token", "sign"] ["state", "key", "many", "terms"] (defScope s_F__law_reads_cells) := ⟨rfl, rfl, rfl, by decide +kernel, rfl, by decide +kernel, by decide +kernel⟩
theorem w_F__law_reads_cells {fa : Addr} {fd : FuncData} (G : Fun K "_law_reads_cells" "_law_reads_cells" s_F__law_reads_cells fa fd) (hm : mg (Str.ofString "_law_reads_cells") = some (.ref fa)) (hb : Binds K fd ["state", "key", "many", "terms"] []) (z : Z mg) (t__law_next : FT P w K mg base 1 "_law_next" F__law_next 1) (t__law_takes : FT P w K mg base 2 "_law_takes" F__law_takes 2) (t__law_is_value : FT P w K mg base 2 "_law_is_value" F__law_is_value 1) (t__law_is_name : FT P w K mg base 1 "_law_is_name" F__law_is_name 1) (t__law_value_of : FT P w K mg base 1 "_law_value_of" F__law_value_of 1) : FT P w K mg base 3 "_law_reads_cells" F__law_reads_cells 4 :=
  ft_of (fn_core (lv := 2) G sc_F__law_reads_cells rfl rfl fun cdv A outer s H E hr tk po => 
      (ss_cons (ss_expr (se_call hr tk t__law_takes (by decide) rfl (by rfl) (sa_cons (se_var 0) (sa_cons (se_eq hr (se_call hr tk t__law_next (by decide) rfl (by rfl) (sa_cons (se_var 0) sa_nil)) (se_str [40])) sa_nil))))
      (ss_cons (ss_set 4 sc_F__law_reads_cells.nd (se_lst sa_nil))
      (ss_cons (ss_for (tg := (.nm 5)) po rfl (si_range1 (by rfl) z.range (sa_cons (se_len (by rfl) z.len (sa_cons (se_ix (se_var 0) se_int) sa_nil)) sa_nil)) (sg_nm 5 sc_F__law_reads_cells.nd) (ss_cons (ss_if (st_w (sw_or (st_w (sw_and (st_lt (se_var 1) se_int) (sw_and (st_eq hr (se_var 5) se_int) (sw_and1 (st_eq hr (se_call hr tk t__law_next (by decide) rfl (by rfl) (sa_cons (se_var 0) sa_nil)) (se_str [41])))))) (sw_or1 (st_w (sw_and (st_eq hr (se_var 5) (se_var 2)) (sw_and1 (st_ge (se_var 1) se_int))))))) (ss_one ss_brk) ss_nil)
      (ss_cons (ss_if (st_eq hr (se_var 5) (se_var 1)) (ss_one (ss_expr (se_call hr tk t__law_takes (by decide) rfl (by rfl) (sa_cons (se_var 0) (sa_cons (se_eq hr (se_call hr tk t__law_next (by decide) rfl (by rfl) (sa_cons (se_var 0) sa_nil)) (se_str [124])) sa_nil))))) (ss_one (ss_if (st_gt (se_var 5) se_int) (ss_cons (ss_set 7 sc_F__law_reads_cells.nd (se_call hr tk t__law_takes (by decide) rfl (by rfl) (sa_cons (se_var 0) (sa_cons (se_or (se_eq hr (se_call hr tk t__law_next (by decide) rfl (by rfl) (sa_cons (se_var 0) sa_nil)) (se_str [44])) (se_one (se_and (se_lt (se_var 1) se_int) (se_one (se_eq hr (se_call hr tk t__law_next (by decide) rfl (by rfl) (sa_cons (se_var 0) sa_nil)) (se_str [41])))))) sa_nil))))
      (ss_one (ss_if (st_eq hr (se_var 7) (se_str [41])) (ss_one (ss_ret (se_var 4))) ss_nil))) ss_nil)))
      (ss_cons (ss_set 6 sc_F__law_reads_cells.nd (se_call hr tk t__law_takes (by decide) rfl (by rfl) (sa_cons (se_var 0) (sa_cons (se_or (se_call hr tk t__law_is_value (by decide) rfl (by rfl) (sa_cons (se_call hr tk t__law_next (by decide) rfl (by rfl) (sa_cons (se_var 0) sa_nil)) sa_nil)) (se_one (se_and (se_var 3) (se_one (se_call hr tk t__law_is_name (by decide) rfl (by rfl) (sa_cons (se_call hr tk t__law_next (by decide) rfl (by rfl) (sa_cons (se_var 0) sa_nil)) sa_nil)))))) sa_nil))))
      (ss_cons (ss_if (st_eq hr (se_var 6) (se_str [])) (ss_one (ss_ret (se_lst sa_nil))) ss_nil)
      (ss_one (ss_if (st_not (st_val (se_var 3))) (ss_one (ss_expr (se_bm PySem.F.plainAttrs_list PySem.F.slot_list_append PySem.F.type_list_append mt_append sim_append (.inl rfl) (se_var 4) (sa_cons (se_call hr tk t__law_value_of (by decide) rfl (by rfl) (sa_cons (se_var 6) sa_nil)) sa_nil)))) (ss_one (ss_if (st_val (se_call hr tk t__law_is_name (by decide) rfl (by rfl) (sa_cons (se_var 6) sa_nil))) (ss_one (ss_expr (se_bm PySem.F.plainAttrs_list PySem.F.slot_list_append PySem.F.type_list_append mt_append sim_append (.inl rfl) (se_var 4) (sa_cons (se_tup (sa_cons (se_str [118, 97, 114]) (sa_cons (se_var 6) sa_nil))) sa_nil)))) (ss_one (ss_expr (se_bm PySem.F.plainAttrs_list PySem.F.slot_list_append PySem.F.type_list_append mt_append sim_append (.inl rfl) (se_var 4) (sa_cons (se_tup (sa_cons (se_str [118, 97, 108, 117, 101]) (sa_cons (se_call hr tk t__law_value_of (by decide) rfl (by rfl) (sa_cons (se_var 6) sa_nil)) sa_nil))) sa_nil)))))))))))))
      (ss_cons (ss_if (st_eq hr (se_var 1) (se_var 2)) (ss_one (ss_expr (se_call hr tk t__law_takes (by decide) rfl (by rfl) (sa_cons (se_var 0) (sa_cons (se_eq hr (se_call hr tk t__law_next (by decide) rfl (by rfl) (sa_cons (se_var 0) sa_nil)) (se_str [124])) sa_nil))))) ss_nil)
      (ss_cons (ss_expr (se_call hr tk t__law_takes (by decide) rfl (by rfl) (sa_cons (se_var 0) (sa_cons (se_eq hr (se_call hr tk t__law_next (by decide) rfl (by rfl) (sa_cons (se_var 0) sa_nil)) (se_str [41])) sa_nil))))
      (ss_one (ss_ret (se_var 4))))))))) hm G.kp hb
abbrev s_F__law_table : Stmt := topS 55
theorem sc_F__law_table : FnScope ["schema", "name", "table"] ["schema", "name"] (defScope s_F__law_table) := ⟨rfl, rfl, rfl, by decide +kernel, rfl, by decide +kernel, by decide +kernel⟩
theorem w_F__law_table {fa : Addr} {fd : FuncData} (G : Fun K "_law_table" "_law_table" s_F__law_table fa fd) (hm : mg (Str.ofString "_law_table") = some (.ref fa)) (hb : Binds K fd ["schema", "name"] []) (z : Z mg) : FT P w K mg base 1 "_law_table" F__law_table 2 :=
  ft_of (fn_core (lv := 0) G sc_F__law_table rfl rfl fun cdv A outer s H E hr tk po => 
      (ss_cons (ss_for (tg := (.nm 2)) po rfl (si_seq (se_var 0)) (sg_nm 2 sc_F__law_table.nd) (ss_one (ss_if (st_eq hr (se_ix (se_var 2) se_int) (se_var 1)) (ss_one (ss_ret (se_var 2))) ss_nil)))
      (ss_one (ss_ret se_non)))) hm G.kp hb
abbrev s_F__law_reads_row : Stmt := topS 56
theorem sc_F__law_reads_row : FnScope ["state", "schema", "name", "table"] ["state", "schema"] (defScope s_F__law_reads_row) := ⟨rfl, rfl, rfl, by decide +kernel, rfl, by decide +kernel, by decide +kernel⟩
theorem w_F__law_reads_row {fa : Addr} {fd : FuncData} (G : Fun K "_law_reads_row" "_law_reads_row" s_F__law_reads_row fa fd) (hm : mg (Str.ofString "_law_reads_row") = some (.ref fa)) (hb : Binds K fd ["state", "schema"] []) (z : Z mg) (t__law_next : FT P w K mg base 1 "_law_next" F__law_next 1) (t__law_table : FT P w K mg base 1 "_law_table" F__law_table 2) (t__law_takes : FT P w K mg base 2 "_law_takes" F__law_takes 2) (t__law_reads_cells : FT P w K mg base 3 "_law_reads_cells" F__law_reads_cells 4) : FT P w K mg base 4 "_law_reads_row" F__law_reads_row 2 :=
  ft_of (fn_core (lv := 3) G sc_F__law_reads_row rfl rfl fun cdv A outer s H E hr tk po => 
      (ss_cons (ss_set 2 sc_F__law_reads_row.nd (se_call hr tk t__law_takes (by decide) rfl (by rfl) (sa_cons (se_var 0) (sa_cons (se_notN (se_call hr tk t__law_table (by decide) rfl (by rfl) (sa_cons (se_var 1) (sa_cons (se_call hr tk t__law_next (by decide) rfl (by rfl) (sa_cons (se_var 0) sa_nil)) sa_nil)))) sa_nil))))
      (ss_cons (ss_if (st_eq hr (se_var 2) (se_str [])) (ss_one (ss_ret (se_tup (sa_cons (se_str []) (sa_cons (se_tup sa_nil) sa_nil))))) ss_nil)
      (ss_cons (ss_set 3 sc_F__law_reads_row.nd (se_call hr tk t__law_table (by decide) rfl (by rfl) (sa_cons (se_var 1) (sa_cons (se_var 2) sa_nil))))
      (ss_one (ss_ret (se_tup (sa_cons (se_var 2) (sa_cons (se_tuple (by rfl) z.tuple (sa_cons (se_call hr tk t__law_reads_cells (by decide) rfl (by rfl) (sa_cons (se_var 0) (sa_cons (se_ix (se_var 3) se_int) (sa_cons (se_add (se_ix (se_var 3) se_int) (se_ix (se_var 3) se_int)) (sa_cons se_bl sa_nil))))) sa_nil)) sa_nil))))))))) hm G.kp hb
abbrev s_F__law_spoilt : Stmt := topS 57
theorem sc_F__law_spoilt : FnScope ["draws", "tokens", "pool", "found", "kind", "at"] ["draws", "tokens", "pool"] (defScope s_F__law_spoilt) := ⟨rfl, rfl, rfl, by decide +kernel, rfl, by decide +kernel, by decide +kernel⟩
theorem w_F__law_spoilt {fa : Addr} {fd : FuncData} (G : Fun K "_law_spoilt" "_law_spoilt" s_F__law_spoilt fa fd) (hm : mg (Str.ofString "_law_spoilt") = some (.ref fa)) (hb : Binds K fd ["draws", "tokens", "pool"] []) (z : Z mg) (t__law_take : FT P w K mg base 1 "_law_take" F__law_take 2) (t__law_pick : FT P w K mg base 2 "_law_pick" F__law_pick 2) : FT P w K mg base 3 "_law_spoilt" F__law_spoilt 3 :=
  ft_of (fn_core (lv := 2) G sc_F__law_spoilt rfl rfl fun cdv A outer s H E hr tk po => 
      (ss_cons (ss_set 3 sc_F__law_spoilt.nd (se_list (by rfl) z.list (sa_cons (se_var 1) sa_nil)))
      (ss_cons (ss_set 4 sc_F__law_spoilt.nd (se_call hr tk t__law_take (by decide) rfl (by rfl) (sa_cons (se_var 0) (sa_cons se_int sa_nil))))
      (ss_cons (ss_set 5 sc_F__law_spoilt.nd (se_call hr tk t__law_take (by decide) rfl (by rfl) (sa_cons (se_var 0) (sa_cons (se_add (se_len (by rfl) z.len (sa_cons (se_var 3) sa_nil)) se_int) sa_nil))))
      (ss_cons (ss_if (st_w (sw_or (st_eq hr (se_var 4) se_int) (sw_or1 (st_eq hr (se_var 5) (se_len (by rfl) z.len (sa_cons (se_var 3) sa_nil)))))) (ss_one (ss_ret (se_add (se_add (se_slice (se_var 3) so_none (so_some (se_var 5))) (se_lst (sa_cons (se_call hr tk t__law_pick (by decide) rfl (by rfl) (sa_cons (se_var 0) (sa_cons (se_var 2) sa_nil))) sa_nil))) (se_slice (se_var 3) (so_some (se_var 5)) so_none)))) ss_nil)
      (ss_cons (ss_if (st_eq hr (se_var 4) se_int) (ss_one (ss_ret (se_add (se_slice (se_var 3) so_none (so_some (se_var 5))) (se_slice (se_var 3) (so_some (se_add (se_var 5) se_int)) so_none)))) ss_nil)
      (ss_cons (ss_if (st_eq hr (se_var 4) se_int) (ss_one (ss_ret (se_add (se_slice (se_var 3) so_none (so_some (se_add (se_var 5) se_int))) (se_slice (se_var 3) (so_some (se_var 5)) so_none)))) ss_nil)
      (ss_cons (ss_if (st_eq hr (se_var 4) se_int) (ss_one (ss_ret (se_slice (se_var 3) so_none (so_some (se_var 5))))) ss_nil)
      (ss_cons (ss_if (st_w (sw_and (st_eq hr (se_var 4) se_int) (sw_and1 (st_lt (se_add (se_var 5) se_int) (se_len (by rfl) z.len (sa_cons (se_var 3) sa_nil)))))) (ss_one (ss_ret (se_add (se_add (se_slice (se_var 3) so_none (so_some (se_var 5))) (se_lst (sa_cons (se_ix (se_var 3) (se_add (se_var 5) se_int)) (sa_cons (se_ix (se_var 3) (se_var 5)) sa_nil)))) (se_slice (se_var 3) (so_some (se_add (se_var 5) se_int)) so_none)))) ss_nil)
      (ss_cons (ss_putL (se_var 3) (se_var 5) (se_call hr tk t__law_pick (by decide) rfl (by rfl) (sa_cons (se_var 0) (sa_cons (se_var 2) sa_nil))))
      (ss_one (ss_ret (se_var 3))))))))))))) hm G.kp hb
abbrev s_F__law_odd : Stmt := topS 58
theorem sc_F__law_odd : FnScope ["draws", "line", "at", "sign"] ["draws", "line"] (defScope s_F__law_odd) := ⟨rfl, rfl, rfl, by decide +kernel, rfl, by decide +kernel, by decide +kernel⟩
theorem w_F__law_odd {fa : Addr} {fd : FuncData} (G : Fun K "_law_odd" "_law_odd" s_F__law_odd fa fd) (hm : mg (Str.ofString "_law_odd") = some (.ref fa)) (hb : Binds K fd ["draws", "line"] []) (z : Z mg) (t__law_take : FT P w K mg base 1 "_law_take" F__law_take 2) (t__law_pick : FT P w K mg base 2 "_law_pick" F__law_pick 2) : FT P w K mg base 3 "_law_odd" F__law_odd 2 :=
  ft_of (fn_core (lv := 2) G sc_F__law_odd rfl rfl fun cdv A outer s H E hr tk po => 
      (ss_cons (ss_if (st_eq hr (se_call hr tk t__law_take (by decide) rfl (by rfl) (sa_cons (se_var 0) (sa_cons se_int sa_nil))) se_int) (ss_one (ss_ret (se_var 1))) ss_nil)
      (ss_cons (ss_set 2 sc_F__law_odd.nd (se_call hr tk t__law_take (by decide) rfl (by rfl) (sa_cons (se_var 0) (sa_cons (se_add (se_len (by rfl) z.len (sa_cons (se_var 1) sa_nil)) se_int) sa_nil))))
      (ss_cons (ss_set 3 sc_F__law_odd.nd (se_call hr tk t__law_pick (by decide) rfl (by rfl) (sa_cons (se_var 0) (sa_cons (se_lst (sa_cons (se_str [45]) (sa_cons (se_str [65]) (sa_cons (se_str [10]) (sa_cons (se_str [34]) (sa_cons (se_str [46]) (sa_cons (se_str [48]) (sa_cons (se_str [9]) (sa_cons (se_str [95]) (sa_cons (se_str [120]) (sa_cons (se_str [32]) (sa_cons (se_str [55]) (sa_cons (se_str [43]) (sa_cons (se_str [58]) sa_nil)))))))))))))) sa_nil))))
      (ss_one (ss_ret (se_add (se_add (se_slice (se_var 1) so_none (so_some (se_var 2))) (se_var 3)) (se_slice (se_var 1) (so_some (se_var 2)) so_none)))))))) hm G.kp hb
abbrev s_F__law_result : Stmt := topS 59
theorem sc_F__law_result : FnScope ["schema", "text", "e"] ["schema", "text"] (defScope s_F__law_result) := ⟨rfl, rfl, rfl, by decide +kernel, rfl, by decide +kernel, by decide +kernel⟩
theorem w_F__law_result {fa : Addr} {fd : FuncData} (G : Fun K "_law_result" "_law_result" s_F__law_result fa fd) (hm : mg (Str.ofString "_law_result") = some (.ref fa)) (hb : Binds K fd ["schema", "text"] []) {k_NoGuard : Addr} {k_NoKept : Addr} {k_NoTrust : Addr} {k_NoReport : Addr} {k_NoSchema : Addr} {k_NoRules : Addr} {k_NoVerdict : Addr} {k_NoNumber : Addr} {k_Forbidden : Addr} {k_BadText : Addr} {k_DoubtError : Addr} (z : Z mg) (t_read_row : FT P w K mg base 10 "read_row" F_read_row 2) (g_DoubtError : mg (Str.ofString "DoubtError") = some (.ref k_DoubtError)) (g_BadText : mg (Str.ofString "BadText") = some (.ref k_BadText)) (g_Forbidden : mg (Str.ofString "Forbidden") = some (.ref k_Forbidden)) (g_NoNumber : mg (Str.ofString "NoNumber") = some (.ref k_NoNumber)) (g_NoVerdict : mg (Str.ofString "NoVerdict") = some (.ref k_NoVerdict)) (g_NoRules : mg (Str.ofString "NoRules") = some (.ref k_NoRules)) (g_NoSchema : mg (Str.ofString "NoSchema") = some (.ref k_NoSchema)) (g_NoReport : mg (Str.ofString "NoReport") = some (.ref k_NoReport)) (g_NoTrust : mg (Str.ofString "NoTrust") = some (.ref k_NoTrust)) (g_NoKept : mg (Str.ofString "NoKept") = some (.ref k_NoKept)) (g_NoGuard : mg (Str.ofString "NoGuard") = some (.ref k_NoGuard)) (xi : XI K mg xT) (xc_DoubtError : XC K mg xT "DoubtError") (xf_BadText : XF K mg "BadText" ["line", "at"]) : FT P w K mg base 11 "_law_result" F__law_result 2 :=
  ft_of (fn_core (lv := 10) G sc_F__law_result rfl rfl fun cdv A outer s H E hr tk po => 
      (ss_one (ss_try (i := 2) (n := "e") rfl rfl sc_F__law_result.nd rfl rfl (by rfl) g_DoubtError rfl (by decide) tk (xc_DoubtError.run g_DoubtError) (fun W pn xe tk po => (ss_one (ss_ret (se_tup (sa_cons (se_str [103, 111, 111, 100]) (sa_cons (se_call hr tk t_read_row (by decide) rfl (by rfl) (sa_cons (se_var 0) (sa_cons (se_var 1) sa_nil))) sa_nil))))))
      (shs_if (sht_or (sht_not (sht_is xi (fun _ _ _ => trivial) (by rfl) z.isinstance (by rfl) g_BadText)) (sht_isT xi (by rfl) z.isinstance (.cons (by rfl) rfl g_NoReport (by decide) (by rfl) (.cons (by rfl) rfl g_NoSchema (by decide) (by rfl) (.cons (by rfl) rfl g_NoRules (by decide) (by rfl) (.cons (by rfl) rfl g_NoVerdict (by decide) (by rfl) (.cons (by rfl) rfl g_NoNumber (by decide) (by rfl) (.cons (by rfl) rfl g_Forbidden (by decide) (by rfl) .nil)))))) (by simp) (by decide))) (shs_ret (sha_cons (she_str [111, 116, 104, 101, 114]) sha_nil)) (shs_if (sht_isT xi (by rfl) z.isinstance (.cons (by rfl) rfl g_NoGuard (by decide) (by rfl) (.cons (by rfl) rfl g_NoKept (by decide) (by rfl) (.cons (by rfl) rfl g_NoTrust (by decide) (by rfl) .nil))) (by simp) (by decide)) (shs_ret (sha_cons (she_str [111, 116, 104, 101, 114]) sha_nil)) (shs_ret (sha_cons (she_str [98, 97, 100]) (sha_cons (she_fld xf_BadText (by decide)) (sha_cons (she_fld xf_BadText (by decide)) sha_nil))))))))) hm G.kp hb
abbrev s_F__law_due : Stmt := topS 60
theorem sc_F__law_due : FnScope ["schema", "text", "state", "pair"] ["schema", "text"] (defScope s_F__law_due) := ⟨rfl, rfl, rfl, by decide +kernel, rfl, by decide +kernel, by decide +kernel⟩
theorem w_F__law_due {fa : Addr} {fd : FuncData} (G : Fun K "_law_due" "_law_due" s_F__law_due fa fd) (hm : mg (Str.ofString "_law_due") = some (.ref fa)) (hb : Binds K fd ["schema", "text"] []) (z : Z mg) (t__law_tokens : FT P w K mg base 3 "_law_tokens" F__law_tokens 1) (t__law_reads_row : FT P w K mg base 4 "_law_reads_row" F__law_reads_row 2) (t__law_ends : FT P w K mg base 2 "_law_ends" F__law_ends 1) : FT P w K mg base 5 "_law_due" F__law_due 2 :=
  ft_of (fn_core (lv := 4) G sc_F__law_due rfl rfl fun cdv A outer s H E hr tk po => 
      (ss_cons (ss_set 2 sc_F__law_due.nd (se_lst (sa_cons (se_call hr tk t__law_tokens (by decide) rfl (by rfl) (sa_cons (se_var 1) sa_nil)) (sa_cons se_int (sa_cons (se_neg se_int) sa_nil)))))
      (ss_cons (ss_set 3 sc_F__law_due.nd (se_call hr tk t__law_reads_row (by decide) rfl (by rfl) (sa_cons (se_var 2) (sa_cons (se_var 0) sa_nil))))
      (ss_cons (ss_expr (se_call hr tk t__law_ends (by decide) rfl (by rfl) (sa_cons (se_var 2) sa_nil)))
      (ss_cons (ss_if (st_ge (se_ix (se_var 2) se_int) se_int) (ss_one (ss_ret (se_tup (sa_cons (se_str [98, 97, 100]) (sa_cons se_int (sa_cons (se_ix (se_var 2) se_int) sa_nil)))))) ss_nil)
      (ss_one (ss_ret (se_tup (sa_cons (se_str [103, 111, 111, 100]) (sa_cons (se_var 3) sa_nil)))))))))) hm G.kp hb
abbrev s_F_law : Stmt := topS 61
theorem sc_F_law : FnScope ["script", "draws", "words", "tables", "schema", "turn", "table", "cells", "good", "pool", "text", "right", "form", "k"] ["script"] (defScope s_F_law) := ⟨rfl, rfl, rfl, by decide +kernel, rfl, by decide +kernel, by decide +kernel⟩
theorem w_F_law {fa : Addr} {fd : FuncData} (G : Fun K "law" "law" s_F_law fa fd) (z : Z mg) (t__law_draws : FT P w K mg base 1 "_law_draws" F__law_draws 2) (t__law_text_words : FT P w K mg base 3 "_law_text_words" F__law_text_words 2) (t__law_text_schema : FT P w K mg base 2 "_law_text_schema" F__law_text_schema 2) (t__law_take : FT P w K mg base 1 "_law_take" F__law_take 2) (t__law_text_value : FT P w K mg base 3 "_law_text_value" F__law_text_value 2) (t__law_value_text : FT P w K mg base 1 "_law_value_text" F__law_value_text 1) (t__law_cells_texts : FT P w K mg base 2 "_law_cells_texts" F__law_cells_texts 3) (t__law_spoilt : FT P w K mg base 3 "_law_spoilt" F__law_spoilt 3) (t__law_loose : FT P w K mg base 4 "_law_loose" F__law_loose 2) (t__law_odd : FT P w K mg base 3 "_law_odd" F__law_odd 2) (t__law_pick : FT P w K mg base 2 "_law_pick" F__law_pick 2) (t__law_result : FT P w K mg base 11 "_law_result" F__law_result 2) (t__law_due : FT P w K mg base 5 "_law_due" F__law_due 2) (t__law_same : FT P w K mg base 8 "_law_same" (F__law_same 8) 2) : FnOk P w K mg base (L2.CX P w) 12 fa fd ["script"] (spOf K mg F_law 1) :=
  fn_core (lv := 11) G sc_F_law rfl rfl fun cdv A outer s H E hr tk po => 
      (ss_cons (ss_set 1 sc_F_law.nd (se_call hr tk t__law_draws (by decide) rfl (by rfl) (sa_cons (se_var 0) (sa_cons se_int sa_nil))))
      (ss_cons (ss_set 2 sc_F_law.nd (se_call hr tk t__law_text_words (by decide) rfl (by rfl) (sa_cons (se_var 1) (sa_cons se_int sa_nil))))
      (ss_cons (ss_set 3 sc_F_law.nd (se_call hr tk t__law_text_schema (by decide) rfl (by rfl) (sa_cons (se_var 1) (sa_cons (se_slice (se_var 2) so_none (so_some se_int)) sa_nil))))
      (ss_cons (ss_set 4 sc_F_law.nd (se_slice (se_var 3) so_none (so_some (se_ix (se_lst (sa_cons se_int (sa_cons se_int (sa_cons se_int (sa_cons se_int (sa_cons se_int (sa_cons se_int sa_nil))))))) (se_call hr tk t__law_take (by decide) rfl (by rfl) (sa_cons (se_var 1) (sa_cons se_int sa_nil)))))))
      (ss_cons (ss_for (tg := (.nm 5)) po rfl (si_range1 (by rfl) z.range (sa_cons se_int sa_nil)) (sg_nm 5 sc_F_law.nd) (ss_cons (ss_set 6 sc_F_law.nd (se_ix (se_var 3) (se_call hr tk t__law_take (by decide) rfl (by rfl) (sa_cons (se_var 1) (sa_cons (se_max rfl (by rfl) z.max (sa_cons se_int (sa_cons (se_len (by rfl) z.len (sa_cons (se_var 4) sa_nil)) sa_nil))) sa_nil)))))
      (ss_cons (ss_if (st_eq hr (se_call hr tk t__law_take (by decide) rfl (by rfl) (sa_cons (se_var 1) (sa_cons se_int sa_nil))) se_int) (ss_one (ss_set 6 sc_F_law.nd (se_ix (se_var 3) se_int))) ss_nil)
      (ss_cons (ss_setLc 7 (own := [("k", 13)]) (tg := (.nm 13)) rfl sc_F_law.nd (sw_true rfl rfl rfl (by decide +kernel)) (si_range1 (by rfl) z.range (sa_cons (se_add (se_ix (se_var 6) se_int) (se_ix (se_var 6) se_int)) sa_nil)) (by show blkC ["script", "draws", "words", "tables", "schema", "turn", "table", "cells", "good", "pool", "text", "right", "form", "k"] (defScope s_F_law) _ _ = true; decide +kernel) (fun _ _ _ _ _ => (sg_nm 13 sc_F_law.nd)) (fun _ _ _ _ _ => sts_nil) (fun _ _ _ _ _ => (se_call hr takes0 t__law_value_text (by decide) rfl (by rfl) (sa_cons (se_call hr takes0 t__law_text_value (by decide) rfl (by rfl) (sa_cons (se_var 1) (sa_cons (se_var 2) sa_nil))) sa_nil))))
      (ss_cons (ss_set 8 sc_F_law.nd (se_call hr tk t__law_cells_texts (by decide) rfl (by rfl) (sa_cons (se_ix (se_var 6) se_int) (sa_cons (se_var 7) (sa_cons (se_ix (se_var 6) se_int) sa_nil)))))
      (ss_cons (ss_set 9 sc_F_law.nd (se_lst (sa_cons (se_str [40]) (sa_cons (se_str [41]) (sa_cons (se_str [44]) (sa_cons (se_str [124]) (sa_cons (se_str [55]) (sa_cons (se_str [45, 49]) (sa_cons (se_str [34, 111, 110, 34]) (sa_cons (se_ix (se_var 2) se_int) (sa_cons (se_add (se_add (se_str [34]) (se_ix (se_var 2) se_int)) (se_str [34])) (sa_cons (se_ix (se_var 6) se_int) (sa_cons (se_str [116, 111]) sa_nil)))))))))))))
      (ss_cons (ss_set 10 sc_F_law.nd (se_call hr tk t__law_odd (by decide) rfl (by rfl) (sa_cons (se_var 1) (sa_cons (se_call hr tk t__law_loose (by decide) rfl (by rfl) (sa_cons (se_var 1) (sa_cons (se_call hr tk t__law_spoilt (by decide) rfl (by rfl) (sa_cons (se_var 1) (sa_cons (se_var 8) (sa_cons (se_var 9) sa_nil)))) sa_nil))) sa_nil))))
      (ss_cons (ss_set 11 sc_F_law.nd (se_call hr tk t__law_loose (by decide) rfl (by rfl) (sa_cons (se_var 1) (sa_cons (se_var 8) sa_nil))))
      (ss_one (ss_for (tg := (.nm 12)) po rfl (si_seq (se_lst (sa_cons (se_var 10) (sa_cons (se_var 11) (sa_cons (se_add (se_var 11) (se_call hr tk t__law_pick (by decide) rfl (by rfl) (sa_cons (se_var 1) (sa_cons (se_var 9) sa_nil)))) (sa_cons (se_var 10) sa_nil)))))) (sg_nm 12 sc_F_law.nd) (ss_one (ss_if (st_not (st_val (se_call hr tk t__law_same (by decide) rfl (by rfl) (sa_cons (se_call hr tk t__law_result (by decide) rfl (by rfl) (sa_cons (se_var 4) (sa_cons (se_var 12) sa_nil))) (sa_cons (se_call hr tk t__law_due (by decide) rfl (by rfl) (sa_cons (se_var 4) (sa_cons (se_var 12) sa_nil))) sa_nil))))) (ss_one (ss_ret se_bl)) ss_nil))))))))))))
      (ss_cons (ss_for (tg := (.nm 12)) po rfl (si_seq (se_lst (sa_cons (se_str []) (sa_cons (se_mul (se_str [32]) (se_call hr tk t__law_take (by decide) rfl (by rfl) (sa_cons (se_var 1) (sa_cons se_int sa_nil)))) (sa_cons (se_str [41]) (sa_cons (se_ix (se_var 2) se_int) (sa_cons (se_add (se_ix (se_var 2) se_int) (se_str [40])) (sa_cons (se_add (se_ix (se_var 2) se_int) (se_str [40, 124])) sa_nil)))))))) (sg_nm 12 sc_F_law.nd) (ss_one (ss_if (st_not (st_val (se_call hr tk t__law_same (by decide) rfl (by rfl) (sa_cons (se_call hr tk t__law_result (by decide) rfl (by rfl) (sa_cons (se_var 4) (sa_cons (se_var 12) sa_nil))) (sa_cons (se_call hr tk t__law_due (by decide) rfl (by rfl) (sa_cons (se_var 4) (sa_cons (se_var 12) sa_nil))) sa_nil))))) (ss_one (ss_ret se_bl)) ss_nil)))
      (ss_one (ss_ret se_bl))))))))
end
end LW

end

section
set_option linter.all false
set_option Elab.async false
set_option maxRecDepth 100000
set_option linter.all false
set_option Elab.async false
set_option maxRecDepth 100000
set_option maxHeartbeats 0
/-! what the top has written, and the end, printed by gen.py -/
namespace LW
open PySem PySem.Spec PyProof.Rows L2 Dl
theorem all_mk {l : PySem.W.OpenLaw} {w : World} {K : PySem.W.Frag} {h : Heap} {mg : Str → Option Value} {fa : Addr} {EDoubtError EBadText EForbidden ENoNumber ENoVerdict ENoRules ENoSchema ENoReport ENoTrust ENoKept ENoGuard CLine f0 f1 f2 f3 f4 f5 f6 f7 f8 f9 f10 f11 f12 f13 f14 f15 f16 f17 f18 f19 f20 f21 f22 f23 f24 f25 f26 f27 f28 f29 f30 f31 f32 f33 f34 f35 f36 f37 f38 f39 f40 f41 f42 f43 f44 f45 f46 f47 : Addr} {enmBadText : Str} {eqBadText : Str} {eNBadText : Addr} {ebsBadText : List Value} {ebmBadText : List Value} {esnBadText : List Str} {esubBadText : List Value} {eabBadText : Bool} {ecolBadText : Option Bool} {eddBadText : Option Addr} {ekaBadText : Option Value} {ekbBadText : Option Value} {ekcBadText' : Option Value} {ekdBadText : Option Value} {ekeBadText : Option Value} {eoDBadText : Value} {eodDBadText : Option Addr} {ecdDBadText : ClassData} {eslDBadText : Array (Option Value)} {efiBadText : Addr} {ecdaBadText : Addr} {eccBadText : Addr} {eocBadText : Value} {ekVBadText : Value} {edocBadText : Value} {epmBadText : Value} {ectBadText : Value} {eodBadText : Option Addr} {eanBadText : Option Addr} {eoslBadText : Array (Option Value)} {ecclBadText : Value} {ecddBadText : Option Addr} {evsBadText : Array Value} {eccsBadText : Array (Option Value)} {efilBadText : Str} {etfBadText' : PySem.Tok} {eclBadText : Value} {ecldBadText : Option Addr} {ecslBadText : Array (Option Value)} {tDIGITS : PySem.Tok} {tSIGNS : PySem.Tok} {tLETTERS : PySem.Tok}
    {od0 an0 od1 an1 od2 an2 od3 an3 od4 an4 od5 an5 od6 an6 od7 an7 od8 an8 od9 an9 od10 an10 od11 an11 od12 an12 od13 an13 od14 an14 od15 an15 od16 an16 od17 an17 od18 an18 od19 an19 od20 an20 od21 an21 od22 an22 od23 an23 od24 an24 od25 an25 od26 an26 od27 an27 od28 an28 od29 an29 od30 an30 od31 an31 od32 an32 od33 an33 od34 an34 od35 an35 od36 an36 od37 an37 od38 an38 od39 an39 od40 an40 od41 an41 od42 an42 od43 an43 od44 an44 od45 an45 od46 an46 od47 an47 : Option Addr}
    {sl0 sl1 sl2 sl3 sl4 sl5 sl6 sl7 sl8 sl9 sl10 sl11 sl12 sl13 sl14 sl15 sl16 sl17 sl18 sl19 sl20 sl21 sl22 sl23 sl24 sl25 sl26 sl27 sl28 sl29 sl30 sl31 sl32 sl33 sl34 sl35 sl36 sl37 sl38 sl39 sl40 sl41 sl42 sl43 sl44 sl45 sl46 sl47 : Array (Option Value)}
    {oc0 kV0 dc0 pm0 cd0 ct0 oc1 kV1 dc1 pm1 cd1 ct1 oc2 kV2 dc2 pm2 cd2 ct2 oc3 kV3 dc3 pm3 cd3 ct3 oc4 kV4 dc4 pm4 cd4 ct4 oc5 kV5 dc5 pm5 cd5 ct5 oc6 kV6 dc6 pm6 cd6 ct6 oc7 kV7 dc7 pm7 cd7 ct7 oc8 kV8 dc8 pm8 cd8 ct8 oc9 kV9 dc9 pm9 cd9 ct9 oc10 kV10 dc10 pm10 cd10 ct10 oc11 kV11 dc11 pm11 cd11 ct11 oc12 kV12 dc12 pm12 cd12 ct12 oc13 kV13 dc13 pm13 cd13 ct13 oc14 kV14 dc14 pm14 cd14 ct14 oc15 kV15 dc15 pm15 cd15 ct15 oc16 kV16 dc16 pm16 cd16 ct16 oc17 kV17 dc17 pm17 cd17 ct17 oc18 kV18 dc18 pm18 cd18 ct18 oc19 kV19 dc19 pm19 cd19 ct19 oc20 kV20 dc20 pm20 cd20 ct20 oc21 kV21 dc21 pm21 cd21 ct21 oc22 kV22 dc22 pm22 cd22 ct22 oc23 kV23 dc23 pm23 cd23 ct23 oc24 kV24 dc24 pm24 cd24 ct24 oc25 kV25 dc25 pm25 cd25 ct25 oc26 kV26 dc26 pm26 cd26 ct26 oc27 kV27 dc27 pm27 cd27 ct27 oc28 kV28 dc28 pm28 cd28 ct28 oc29 kV29 dc29 pm29 cd29 ct29 oc30 kV30 dc30 pm30 cd30 ct30 oc31 kV31 dc31 pm31 cd31 ct31 oc32 kV32 dc32 pm32 cd32 ct32 oc33 kV33 dc33 pm33 cd33 ct33 oc34 kV34 dc34 pm34 cd34 ct34 oc35 kV35 dc35 pm35 cd35 ct35 oc36 kV36 dc36 pm36 cd36 ct36 oc37 kV37 dc37 pm37 cd37 ct37 oc38 kV38 dc38 pm38 cd38 ct38 oc39 kV39 dc39 pm39 cd39 ct39 oc40 kV40 dc40 pm40 cd40 ct40 oc41 kV41 dc41 pm41 cd41 ct41 oc42 kV42 dc42 pm42 cd42 ct42 oc43 kV43 dc43 pm43 cd43 ct43 oc44 kV44 dc44 pm44 cd44 ct44 oc45 kV45 dc45 pm45 cd45 ct45 oc46 kV46 dc46 pm46 cd46 ct46 oc47 kV47 dc47 pm47 cd47 ct47 : Value}
    (X : K.In h) (G : h.Ns mainGlobals mg) (hfa : mg "law" = some (.ref fa))
    (eaDoubtError : PySem.W.nsIn K mainGlobals "DoubtError" = some (some (.ref EDoubtError)))
    (etyDoubtError : PySem.W.typeIn K (.ref EDoubtError) = some (.type "type"))
    (ehdDoubtError : PySem.W.hasDictIn K EDoubtError = true)
    (eaBadText : PySem.W.nsIn K mainGlobals "BadText" = some (some (.ref EBadText)))
    (etyBadText : PySem.W.typeIn K (.ref EBadText) = some (.type "type"))
    (ehdBadText : PySem.W.hasDictIn K EBadText = true)
    (eaForbidden : PySem.W.nsIn K mainGlobals "Forbidden" = some (some (.ref EForbidden)))
    (etyForbidden : PySem.W.typeIn K (.ref EForbidden) = some (.type "type"))
    (ehdForbidden : PySem.W.hasDictIn K EForbidden = true)
    (eaNoNumber : PySem.W.nsIn K mainGlobals "NoNumber" = some (some (.ref ENoNumber)))
    (etyNoNumber : PySem.W.typeIn K (.ref ENoNumber) = some (.type "type"))
    (ehdNoNumber : PySem.W.hasDictIn K ENoNumber = true)
    (eaNoVerdict : PySem.W.nsIn K mainGlobals "NoVerdict" = some (some (.ref ENoVerdict)))
    (etyNoVerdict : PySem.W.typeIn K (.ref ENoVerdict) = some (.type "type"))
    (ehdNoVerdict : PySem.W.hasDictIn K ENoVerdict = true)
    (eaNoRules : PySem.W.nsIn K mainGlobals "NoRules" = some (some (.ref ENoRules)))
    (etyNoRules : PySem.W.typeIn K (.ref ENoRules) = some (.type "type"))
    (ehdNoRules : PySem.W.hasDictIn K ENoRules = true)
    (eaNoSchema : PySem.W.nsIn K mainGlobals "NoSchema" = some (some (.ref ENoSchema)))
    (etyNoSchema : PySem.W.typeIn K (.ref ENoSchema) = some (.type "type"))
    (ehdNoSchema : PySem.W.hasDictIn K ENoSchema = true)
    (eaNoReport : PySem.W.nsIn K mainGlobals "NoReport" = some (some (.ref ENoReport)))
    (etyNoReport : PySem.W.typeIn K (.ref ENoReport) = some (.type "type"))
    (ehdNoReport : PySem.W.hasDictIn K ENoReport = true)
    (eaNoTrust : PySem.W.nsIn K mainGlobals "NoTrust" = some (some (.ref ENoTrust)))
    (etyNoTrust : PySem.W.typeIn K (.ref ENoTrust) = some (.type "type"))
    (ehdNoTrust : PySem.W.hasDictIn K ENoTrust = true)
    (eaNoKept : PySem.W.nsIn K mainGlobals "NoKept" = some (some (.ref ENoKept)))
    (etyNoKept : PySem.W.typeIn K (.ref ENoKept) = some (.type "type"))
    (ehdNoKept : PySem.W.hasDictIn K ENoKept = true)
    (eaNoGuard : PySem.W.nsIn K mainGlobals "NoGuard" = some (some (.ref ENoGuard)))
    (etyNoGuard : PySem.W.typeIn K (.ref ENoGuard) = some (.type "type"))
    (ehdNoGuard : PySem.W.hasDictIn K ENoGuard = true)
    (ebxDoubtError : PySem.W.subIn K (.ref EDoubtError) (.type "BaseException") = some true)
    (ethird : PySem.W.nsIn K cStatics "thirdparty.any" = some none)
    (esuper : PySem.W.nsIn K mainGlobals "super" = some none)
    (etop : (l.prog.main.scope.names.lookup ("super" : Str)).isSome = false)
    (ecn : PySem.W.specialIn K (.builtin "object.__class__") "__get__" = some (some (.builtin "getset_descriptor.__get__")))
    (ect : PySem.W.takesIn K (.builtin "object.__class__") = some true)
    (egBadText : PySem.W.findIn K (.ref EBadText) "__getattribute__" = some (some (.builtin "BaseException.__getattribute__")))
    (ekBadText : PySem.W.findIn K (.ref EBadText) "__getattr__" = some none)
    (ebBadText : PySem.W.subIn K (.ref EBadText) (.type "BaseException") = some true)
    (ecBadText : PySem.W.findIn K (.ref EBadText) "__class__" = some (some (.builtin "object.__class__")))
    (emBadText : PySem.W.mroIn K EBadText (.type "object") = some true)
    (esBadText : PySem.W.findIn K (.ref EBadText) "__setattr__" = some (some (.builtin "object.__setattr__")))
    (ekcBadText : PySem.W.keepIn K (.ref EBadText) = true)
    (elBadText : K.lookup EBadText = some (excClassObj enmBadText eqBadText EBadText eNBadText ebsBadText ebmBadText true esnBadText esubBadText eabBadText ecolBadText eddBadText ekaBadText ekbBadText ekcBadText' ekdBadText ekeBadText "ValueError.__new__"))
    (erBadText : PySem.HandSPX.refsVE ebmBadText = true)
    (evBadText : PySem.W.subIn K (.ref EBadText) (.type "ValueError") = some true)
    (euBadText : PySem.W.mroIn K EBadText (.ref EBadText) = some true)
    (eldBadText : K.lookup EDoubtError = some ⟨eoDBadText, eodDBadText, .cls ecdDBadText, eslDBadText⟩)
    (emrBadText : ecdDBadText.mro = ebmBadText)
    (eidBadText : PySem.W.findIn K (.ref EDoubtError) "__init__" = some (some (.builtin "ValueError.__init__")))
    (eicBadText : PySem.W.findIn K (.ref EBadText) "__init__" = some (some (.ref efiBadText)))
    (etfBadText : PySem.W.typeIn K (.ref efiBadText) = some (.type "function"))
    (elfBadText : K.lookup efiBadText = some ⟨eocBadText, eodBadText, .func (PySem.W.ksFn "__init__" "BadText.__init__" (defArgs s_XBadText) (defBody s_XBadText) (defScope s_XBadText) .none ekVBadText edocBadText epmBadText eanBadText (.ref ecdaBadText) ectBadText eccBadText), eoslBadText⟩)
    (ecdBadText : PySem.W.codeIn K (.ref ecdaBadText) "BadText.__init__" = true)
    (elcBadText : K.lookup ecdaBadText = some ⟨ecclBadText, ecddBadText, .fields evsBadText, eccsBadText⟩)
    (ev2BadText : evsBadText[2]? = some (.str efilBadText etfBadText'))
    (eflBadText : ((l.prog.main.file : Str) == efilBadText) = true)
    (ellBadText : K.lookup eccBadText = some ⟨eclBadText, ecldBadText, .cell (some (.ref EBadText)), ecslBadText⟩)
    (enBadText_line : PySem.W.findIn K (.ref EBadText) "line" = some none)
    (enBadText_at : PySem.W.findIn K (.ref EBadText) "at" = some none)
    (eneBadText_DoubtError : (Value.ref EBadText == Value.ref EDoubtError) = false)
    (esbBadText_DoubtError : PySem.W.subIn K (.ref EBadText) (.ref EDoubtError) = some true)
    (esbBadText_BadText : PySem.W.subIn K (.ref EBadText) (.ref EBadText) = some true)
    (eneBadText_Forbidden : (Value.ref EBadText == Value.ref EForbidden) = false)
    (esbBadText_Forbidden : PySem.W.subIn K (.ref EBadText) (.ref EForbidden) = some false)
    (eneBadText_NoNumber : (Value.ref EBadText == Value.ref ENoNumber) = false)
    (esbBadText_NoNumber : PySem.W.subIn K (.ref EBadText) (.ref ENoNumber) = some false)
    (eneBadText_NoVerdict : (Value.ref EBadText == Value.ref ENoVerdict) = false)
    (esbBadText_NoVerdict : PySem.W.subIn K (.ref EBadText) (.ref ENoVerdict) = some false)
    (eneBadText_NoRules : (Value.ref EBadText == Value.ref ENoRules) = false)
    (esbBadText_NoRules : PySem.W.subIn K (.ref EBadText) (.ref ENoRules) = some false)
    (eneBadText_NoSchema : (Value.ref EBadText == Value.ref ENoSchema) = false)
    (esbBadText_NoSchema : PySem.W.subIn K (.ref EBadText) (.ref ENoSchema) = some false)
    (eneBadText_NoReport : (Value.ref EBadText == Value.ref ENoReport) = false)
    (esbBadText_NoReport : PySem.W.subIn K (.ref EBadText) (.ref ENoReport) = some false)
    (eneBadText_NoTrust : (Value.ref EBadText == Value.ref ENoTrust) = false)
    (esbBadText_NoTrust : PySem.W.subIn K (.ref EBadText) (.ref ENoTrust) = some false)
    (eneBadText_NoKept : (Value.ref EBadText == Value.ref ENoKept) = false)
    (esbBadText_NoKept : PySem.W.subIn K (.ref EBadText) (.ref ENoKept) = some false)
    (eneBadText_NoGuard : (Value.ref EBadText == Value.ref ENoGuard) = false)
    (esbBadText_NoGuard : PySem.W.subIn K (.ref EBadText) (.ref ENoGuard) = some false)
    (aLine : PySem.W.nsIn K mainGlobals "Line" = some (some (.ref CLine)))
    (pgLine : PySem.W.plainGet K CLine Str.empty = true)
    (hdLine : PySem.W.hasDictIn K CLine = true)
    (poLine : PySem.W.plainOver K CLine = true)
    (saLine : PySem.W.findIn K (.ref CLine) "__setattr__" = some (some (.builtin "object.__setattr__")))
    (kcLine : PySem.W.keepIn K (.ref CLine) = true)
    (mkLine : PySem.W.makesIn K CLine = true)
    (nLine_number : PySem.W.findIn K (.ref CLine) "number" = some none)
    (nLine_tokens : PySem.W.findIn K (.ref CLine) "tokens" = some none)
    (nLine_many : PySem.W.findIn K (.ref CLine) "many" = some none)
    (aDIGITS : PySem.W.nsIn K mainGlobals "DIGITS" = some (some (.str (Str.ofString "0123456789") tDIGITS)))
    (aSIGNS : PySem.W.nsIn K mainGlobals "SIGNS" = some (some (.str (Str.ofString "(),|") tSIGNS)))
    (aLETTERS : PySem.W.nsIn K mainGlobals "LETTERS" = some (some (.str (Str.ofString "abcdefghijklmnopqrstuvwxyz") tLETTERS)))
    (zlen : PySem.W.nsIn K mainGlobals "len" = some none)
    (zint : PySem.W.nsIn K mainGlobals "int" = some none)
    (zrange : PySem.W.nsIn K mainGlobals "range" = some none)
    (ztuple : PySem.W.nsIn K mainGlobals "tuple" = some none)
    (zlist : PySem.W.nsIn K mainGlobals "list" = some none)
    (zisinstance : PySem.W.nsIn K mainGlobals "isinstance" = some none)
    (zbool : PySem.W.nsIn K mainGlobals "bool" = some none)
    (zstr : PySem.W.nsIn K mainGlobals "str" = some none)
    (zmax : PySem.W.nsIn K mainGlobals "max" = some none)
    (zsorted : PySem.W.nsIn K mainGlobals "sorted" = some none)
    (zmin : PySem.W.nsIn K mainGlobals "min" = some none)
    (a0 : PySem.W.nsIn K mainGlobals "table_of" = some (some (.ref f0)))
    (l0 : K.lookup f0 = some ⟨oc0, od0, .func (PySem.W.fnOf "table_of" "table_of" (defArgs s_F_table_of) (defBody s_F_table_of) (defScope s_F_table_of) .none kV0 dc0 pm0 an0 cd0 ct0), sl0⟩)
    (c0 : PySem.W.codeIn K cd0 "table_of" = true)
    (k0 : PySem.W.keepIn K (.ref f0) = true)
    (a1 : PySem.W.nsIn K mainGlobals "run_end" = some (some (.ref f1)))
    (l1 : K.lookup f1 = some ⟨oc1, od1, .func (PySem.W.fnOf "run_end" "run_end" (defArgs s_F_run_end) (defBody s_F_run_end) (defScope s_F_run_end) .none kV1 dc1 pm1 an1 cd1 ct1), sl1⟩)
    (c1 : PySem.W.codeIn K cd1 "run_end" = true)
    (k1 : PySem.W.keepIn K (.ref f1) = true)
    (a2 : PySem.W.nsIn K mainGlobals "integer_at" = some (some (.ref f2)))
    (l2 : K.lookup f2 = some ⟨oc2, od2, .func (PySem.W.fnOf "integer_at" "integer_at" (defArgs s_F_integer_at) (defBody s_F_integer_at) (defScope s_F_integer_at) .none kV2 dc2 pm2 an2 cd2 ct2), sl2⟩)
    (c2 : PySem.W.codeIn K cd2 "integer_at" = true)
    (k2 : PySem.W.keepIn K (.ref f2) = true)
    (a3 : PySem.W.nsIn K mainGlobals "token_at" = some (some (.ref f3)))
    (l3 : K.lookup f3 = some ⟨oc3, od3, .func (PySem.W.fnOf "token_at" "token_at" (defArgs s_F_token_at) (defBody s_F_token_at) (defScope s_F_token_at) .none kV3 dc3 pm3 an3 cd3 ct3), sl3⟩)
    (c3 : PySem.W.codeIn K cd3 "token_at" = true)
    (k3 : PySem.W.keepIn K (.ref f3) = true)
    (a4 : PySem.W.nsIn K mainGlobals "tokens_of" = some (some (.ref f4)))
    (l4 : K.lookup f4 = some ⟨oc4, od4, .func (PySem.W.fnOf "tokens_of" "tokens_of" (defArgs s_F_tokens_of) (defBody s_F_tokens_of) (defScope s_F_tokens_of) .none kV4 dc4 pm4 an4 cd4 ct4), sl4⟩)
    (c4 : PySem.W.codeIn K cd4 "tokens_of" = true)
    (k4 : PySem.W.keepIn K (.ref f4) = true)
    (a5 : PySem.W.findIn K (.ref CLine) "__init__" = some (some (.ref f5)))
    (i5 : PySem.W.isFn K (.ref f5) = true)
    (l5 : K.lookup f5 = some ⟨oc5, od5, .func (PySem.W.fnOf "__init__" "Line.__init__" (defArgs s_F_Line___init__) (defBody s_F_Line___init__) (defScope s_F_Line___init__) .none kV5 dc5 pm5 an5 cd5 ct5), sl5⟩)
    (c5 : PySem.W.codeIn K cd5 "Line.__init__" = true)
    (k5 : PySem.W.keepIn K (.ref f5) = true)
    (a6 : PySem.W.findIn K (.ref CLine) "kind" = some (some (.ref f6)))
    (i6 : PySem.W.isFn K (.ref f6) = true)
    (l6 : K.lookup f6 = some ⟨oc6, od6, .func (PySem.W.fnOf "kind" "Line.kind" (defArgs s_F_Line_kind) (defBody s_F_Line_kind) (defScope s_F_Line_kind) .none kV6 dc6 pm6 an6 cd6 ct6), sl6⟩)
    (c6 : PySem.W.codeIn K cd6 "Line.kind" = true)
    (k6 : PySem.W.keepIn K (.ref f6) = true)
    (a7 : PySem.W.findIn K (.ref CLine) "value" = some (some (.ref f7)))
    (i7 : PySem.W.isFn K (.ref f7) = true)
    (l7 : K.lookup f7 = some ⟨oc7, od7, .func (PySem.W.fnOf "value" "Line.value" (defArgs s_F_Line_value) (defBody s_F_Line_value) (defScope s_F_Line_value) .none kV7 dc7 pm7 an7 cd7 ct7), sl7⟩)
    (c7 : PySem.W.codeIn K cd7 "Line.value" = true)
    (k7 : PySem.W.keepIn K (.ref f7) = true)
    (a8 : PySem.W.findIn K (.ref CLine) "word" = some (some (.ref f8)))
    (i8 : PySem.W.isFn K (.ref f8) = true)
    (l8 : K.lookup f8 = some ⟨oc8, od8, .func (PySem.W.fnOf "word" "Line.word" (defArgs s_F_Line_word) (defBody s_F_Line_word) (defScope s_F_Line_word) .none kV8 dc8 pm8 an8 cd8 ct8), sl8⟩)
    (c8 : PySem.W.codeIn K cd8 "Line.word" = true)
    (k8 : PySem.W.keepIn K (.ref f8) = true)
    (a9 : PySem.W.findIn K (.ref CLine) "refuse" = some (some (.ref f9)))
    (i9 : PySem.W.isFn K (.ref f9) = true)
    (l9 : K.lookup f9 = some ⟨oc9, od9, .func (PySem.W.fnOf "refuse" "Line.refuse" (defArgs s_F_Line_refuse) (defBody s_F_Line_refuse) (defScope s_F_Line_refuse) .none kV9 dc9 pm9 an9 cd9 ct9), sl9⟩)
    (c9 : PySem.W.codeIn K cd9 "Line.refuse" = true)
    (k9 : PySem.W.keepIn K (.ref f9) = true)
    (a10 : PySem.W.findIn K (.ref CLine) "take" = some (some (.ref f10)))
    (i10 : PySem.W.isFn K (.ref f10) = true)
    (l10 : K.lookup f10 = some ⟨oc10, od10, .func (PySem.W.fnOf "take" "Line.take" (defArgs s_F_Line_take) (defBody s_F_Line_take) (defScope s_F_Line_take) .none kV10 dc10 pm10 an10 cd10 ct10), sl10⟩)
    (c10 : PySem.W.codeIn K cd10 "Line.take" = true)
    (k10 : PySem.W.keepIn K (.ref f10) = true)
    (a11 : PySem.W.findIn K (.ref CLine) "take_value" = some (some (.ref f11)))
    (i11 : PySem.W.isFn K (.ref f11) = true)
    (l11 : K.lookup f11 = some ⟨oc11, od11, .func (PySem.W.fnOf "take_value" "Line.take_value" (defArgs s_F_Line_take_value) (defBody s_F_Line_take_value) (defScope s_F_Line_take_value) .none kV11 dc11 pm11 an11 cd11 ct11), sl11⟩)
    (c11 : PySem.W.codeIn K cd11 "Line.take_value" = true)
    (k11 : PySem.W.keepIn K (.ref f11) = true)
    (a12 : PySem.W.nsIn K mainGlobals "take_value" = some (some (.ref f12)))
    (l12 : K.lookup f12 = some ⟨oc12, od12, .func (PySem.W.fnOf "take_value" "take_value" (defArgs s_F_take_value) (defBody s_F_take_value) (defScope s_F_take_value) .none kV12 dc12 pm12 an12 cd12 ct12), sl12⟩)
    (c12 : PySem.W.codeIn K cd12 "take_value" = true)
    (k12 : PySem.W.keepIn K (.ref f12) = true)
    (a13 : PySem.W.nsIn K mainGlobals "take_places" = some (some (.ref f13)))
    (l13 : K.lookup f13 = some ⟨oc13, od13, .func (PySem.W.fnOf "take_places" "take_places" (defArgs s_F_take_places) (defBody s_F_take_places) (defScope s_F_take_places) .none kV13 dc13 pm13 an13 cd13 ct13), sl13⟩)
    (c13 : PySem.W.codeIn K cd13 "take_places" = true)
    (k13 : PySem.W.keepIn K (.ref f13) = true)
    (a14 : PySem.W.nsIn K mainGlobals "take_cells" = some (some (.ref f14)))
    (l14 : K.lookup f14 = some ⟨oc14, od14, .func (PySem.W.fnOf "take_cells" "take_cells" (defArgs s_F_take_cells) (defBody s_F_take_cells) (defScope s_F_take_cells) .none kV14 dc14 pm14 an14 cd14 ct14), sl14⟩)
    (c14 : PySem.W.codeIn K cd14 "take_cells" = true)
    (k14 : PySem.W.keepIn K (.ref f14) = true)
    (a15 : PySem.W.nsIn K mainGlobals "take_row" = some (some (.ref f15)))
    (l15 : K.lookup f15 = some ⟨oc15, od15, .func (PySem.W.fnOf "take_row" "take_row" (defArgs s_F_take_row) (defBody s_F_take_row) (defScope s_F_take_row) .none kV15 dc15 pm15 an15 cd15 ct15), sl15⟩)
    (c15 : PySem.W.codeIn K cd15 "take_row" = true)
    (k15 : PySem.W.keepIn K (.ref f15) = true)
    (a16 : PySem.W.nsIn K mainGlobals "read_row" = some (some (.ref f16)))
    (l16 : K.lookup f16 = some ⟨oc16, od16, .func (PySem.W.fnOf "read_row" "read_row" (defArgs s_F_read_row) (defBody s_F_read_row) (defScope s_F_read_row) .none kV16 dc16 pm16 an16 cd16 ct16), sl16⟩)
    (c16 : PySem.W.codeIn K cd16 "read_row" = true)
    (k16 : PySem.W.keepIn K (.ref f16) = true)
    (a17 : PySem.W.nsIn K mainGlobals "_law_draws" = some (some (.ref f17)))
    (l17 : K.lookup f17 = some ⟨oc17, od17, .func (PySem.W.fnOf "_law_draws" "_law_draws" (defArgs s_F__law_draws) (defBody s_F__law_draws) (defScope s_F__law_draws) .none kV17 dc17 pm17 an17 cd17 ct17), sl17⟩)
    (c17 : PySem.W.codeIn K cd17 "_law_draws" = true)
    (k17 : PySem.W.keepIn K (.ref f17) = true)
    (a18 : PySem.W.nsIn K mainGlobals "_law_take" = some (some (.ref f18)))
    (l18 : K.lookup f18 = some ⟨oc18, od18, .func (PySem.W.fnOf "_law_take" "_law_take" (defArgs s_F__law_take) (defBody s_F__law_take) (defScope s_F__law_take) .none kV18 dc18 pm18 an18 cd18 ct18), sl18⟩)
    (c18 : PySem.W.codeIn K cd18 "_law_take" = true)
    (k18 : PySem.W.keepIn K (.ref f18) = true)
    (a19 : PySem.W.nsIn K mainGlobals "_law_pick" = some (some (.ref f19)))
    (l19 : K.lookup f19 = some ⟨oc19, od19, .func (PySem.W.fnOf "_law_pick" "_law_pick" (defArgs s_F__law_pick) (defBody s_F__law_pick) (defScope s_F__law_pick) .none kV19 dc19 pm19 an19 cd19 ct19), sl19⟩)
    (c19 : PySem.W.codeIn K cd19 "_law_pick" = true)
    (k19 : PySem.W.keepIn K (.ref f19) = true)
    (a20 : PySem.W.nsIn K mainGlobals "_law_same" = some (some (.ref f20)))
    (l20 : K.lookup f20 = some ⟨oc20, od20, .func (PySem.W.fnOf "_law_same" "_law_same" (defArgs s_F__law_same) (defBody s_F__law_same) (defScope s_F__law_same) .none kV20 dc20 pm20 an20 cd20 ct20), sl20⟩)
    (c20 : PySem.W.codeIn K cd20 "_law_same" = true)
    (k20 : PySem.W.keepIn K (.ref f20) = true)
    (a21 : PySem.W.nsIn K mainGlobals "_law_words" = some (some (.ref f21)))
    (l21 : K.lookup f21 = some ⟨oc21, od21, .func (PySem.W.fnOf "_law_words" "_law_words" (defArgs s_F__law_words) (defBody s_F__law_words) (defScope s_F__law_words) .none kV21 dc21 pm21 an21 cd21 ct21), sl21⟩)
    (c21 : PySem.W.codeIn K cd21 "_law_words" = true)
    (k21 : PySem.W.keepIn K (.ref f21) = true)
    (a22 : PySem.W.nsIn K mainGlobals "_law_great_number" = some (some (.ref f22)))
    (l22 : K.lookup f22 = some ⟨oc22, od22, .func (PySem.W.fnOf "_law_great_number" "_law_great_number" (defArgs s_F__law_great_number) (defBody s_F__law_great_number) (defScope s_F__law_great_number) .none kV22 dc22 pm22 an22 cd22 ct22), sl22⟩)
    (c22 : PySem.W.codeIn K cd22 "_law_great_number" = true)
    (k22 : PySem.W.keepIn K (.ref f22) = true)
    (a23 : PySem.W.nsIn K mainGlobals "_law_text_value" = some (some (.ref f23)))
    (l23 : K.lookup f23 = some ⟨oc23, od23, .func (PySem.W.fnOf "_law_text_value" "_law_text_value" (defArgs s_F__law_text_value) (defBody s_F__law_text_value) (defScope s_F__law_text_value) .none kV23 dc23 pm23 an23 cd23 ct23), sl23⟩)
    (c23 : PySem.W.codeIn K cd23 "_law_text_value" = true)
    (k23 : PySem.W.keepIn K (.ref f23) = true)
    (a24 : PySem.W.nsIn K mainGlobals "_law_value_text" = some (some (.ref f24)))
    (l24 : K.lookup f24 = some ⟨oc24, od24, .func (PySem.W.fnOf "_law_value_text" "_law_value_text" (defArgs s_F__law_value_text) (defBody s_F__law_value_text) (defScope s_F__law_value_text) .none kV24 dc24 pm24 an24 cd24 ct24), sl24⟩)
    (c24 : PySem.W.codeIn K cd24 "_law_value_text" = true)
    (k24 : PySem.W.keepIn K (.ref f24) = true)
    (a25 : PySem.W.nsIn K mainGlobals "_law_between" = some (some (.ref f25)))
    (l25 : K.lookup f25 = some ⟨oc25, od25, .func (PySem.W.fnOf "_law_between" "_law_between" (defArgs s_F__law_between) (defBody s_F__law_between) (defScope s_F__law_between) .none kV25 dc25 pm25 an25 cd25 ct25), sl25⟩)
    (c25 : PySem.W.codeIn K cd25 "_law_between" = true)
    (k25 : PySem.W.keepIn K (.ref f25) = true)
    (a26 : PySem.W.nsIn K mainGlobals "_law_cells_texts" = some (some (.ref f26)))
    (l26 : K.lookup f26 = some ⟨oc26, od26, .func (PySem.W.fnOf "_law_cells_texts" "_law_cells_texts" (defArgs s_F__law_cells_texts) (defBody s_F__law_cells_texts) (defScope s_F__law_cells_texts) .none kV26 dc26 pm26 an26 cd26 ct26), sl26⟩)
    (c26 : PySem.W.codeIn K cd26 "_law_cells_texts" = true)
    (k26 : PySem.W.keepIn K (.ref f26) = true)
    (a27 : PySem.W.nsIn K mainGlobals "_law_run" = some (some (.ref f27)))
    (l27 : K.lookup f27 = some ⟨oc27, od27, .func (PySem.W.fnOf "_law_run" "_law_run" (defArgs s_F__law_run) (defBody s_F__law_run) (defScope s_F__law_run) .none kV27 dc27 pm27 an27 cd27 ct27), sl27⟩)
    (c27 : PySem.W.codeIn K cd27 "_law_run" = true)
    (k27 : PySem.W.keepIn K (.ref f27) = true)
    (a28 : PySem.W.nsIn K mainGlobals "_law_token_end" = some (some (.ref f28)))
    (l28 : K.lookup f28 = some ⟨oc28, od28, .func (PySem.W.fnOf "_law_token_end" "_law_token_end" (defArgs s_F__law_token_end) (defBody s_F__law_token_end) (defScope s_F__law_token_end) .none kV28 dc28 pm28 an28 cd28 ct28), sl28⟩)
    (c28 : PySem.W.codeIn K cd28 "_law_token_end" = true)
    (k28 : PySem.W.keepIn K (.ref f28) = true)
    (a29 : PySem.W.nsIn K mainGlobals "_law_tokens" = some (some (.ref f29)))
    (l29 : K.lookup f29 = some ⟨oc29, od29, .func (PySem.W.fnOf "_law_tokens" "_law_tokens" (defArgs s_F__law_tokens) (defBody s_F__law_tokens) (defScope s_F__law_tokens) .none kV29 dc29 pm29 an29 cd29 ct29), sl29⟩)
    (c29 : PySem.W.codeIn K cd29 "_law_tokens" = true)
    (k29 : PySem.W.keepIn K (.ref f29) = true)
    (a30 : PySem.W.nsIn K mainGlobals "_law_loose" = some (some (.ref f30)))
    (l30 : K.lookup f30 = some ⟨oc30, od30, .func (PySem.W.fnOf "_law_loose" "_law_loose" (defArgs s_F__law_loose) (defBody s_F__law_loose) (defScope s_F__law_loose) .none kV30 dc30 pm30 an30 cd30 ct30), sl30⟩)
    (c30 : PySem.W.codeIn K cd30 "_law_loose" = true)
    (k30 : PySem.W.keepIn K (.ref f30) = true)
    (a31 : PySem.W.nsIn K mainGlobals "_law_text_words" = some (some (.ref f31)))
    (l31 : K.lookup f31 = some ⟨oc31, od31, .func (PySem.W.fnOf "_law_text_words" "_law_text_words" (defArgs s_F__law_text_words) (defBody s_F__law_text_words) (defScope s_F__law_text_words) .none kV31 dc31 pm31 an31 cd31 ct31), sl31⟩)
    (c31 : PySem.W.codeIn K cd31 "_law_text_words" = true)
    (k31 : PySem.W.keepIn K (.ref f31) = true)
    (a32 : PySem.W.nsIn K mainGlobals "_law_text_schema" = some (some (.ref f32)))
    (l32 : K.lookup f32 = some ⟨oc32, od32, .func (PySem.W.fnOf "_law_text_schema" "_law_text_schema" (defArgs s_F__law_text_schema) (defBody s_F__law_text_schema) (defScope s_F__law_text_schema) .none kV32 dc32 pm32 an32 cd32 ct32), sl32⟩)
    (c32 : PySem.W.codeIn K cd32 "_law_text_schema" = true)
    (k32 : PySem.W.keepIn K (.ref f32) = true)
    (a33 : PySem.W.nsIn K mainGlobals "_law_is_whole" = some (some (.ref f33)))
    (l33 : K.lookup f33 = some ⟨oc33, od33, .func (PySem.W.fnOf "_law_is_whole" "_law_is_whole" (defArgs s_F__law_is_whole) (defBody s_F__law_is_whole) (defScope s_F__law_is_whole) .none kV33 dc33 pm33 an33 cd33 ct33), sl33⟩)
    (c33 : PySem.W.codeIn K cd33 "_law_is_whole" = true)
    (k33 : PySem.W.keepIn K (.ref f33) = true)
    (a34 : PySem.W.nsIn K mainGlobals "_law_is_value" = some (some (.ref f34)))
    (l34 : K.lookup f34 = some ⟨oc34, od34, .func (PySem.W.fnOf "_law_is_value" "_law_is_value" (defArgs s_F__law_is_value) (defBody s_F__law_is_value) (defScope s_F__law_is_value) .none kV34 dc34 pm34 an34 cd34 ct34), sl34⟩)
    (c34 : PySem.W.codeIn K cd34 "_law_is_value" = true)
    (k34 : PySem.W.keepIn K (.ref f34) = true)
    (a35 : PySem.W.nsIn K mainGlobals "_law_is_name" = some (some (.ref f35)))
    (l35 : K.lookup f35 = some ⟨oc35, od35, .func (PySem.W.fnOf "_law_is_name" "_law_is_name" (defArgs s_F__law_is_name) (defBody s_F__law_is_name) (defScope s_F__law_is_name) .none kV35 dc35 pm35 an35 cd35 ct35), sl35⟩)
    (c35 : PySem.W.codeIn K cd35 "_law_is_name" = true)
    (k35 : PySem.W.keepIn K (.ref f35) = true)
    (a36 : PySem.W.nsIn K mainGlobals "_law_value_of" = some (some (.ref f36)))
    (l36 : K.lookup f36 = some ⟨oc36, od36, .func (PySem.W.fnOf "_law_value_of" "_law_value_of" (defArgs s_F__law_value_of) (defBody s_F__law_value_of) (defScope s_F__law_value_of) .none kV36 dc36 pm36 an36 cd36 ct36), sl36⟩)
    (c36 : PySem.W.codeIn K cd36 "_law_value_of" = true)
    (k36 : PySem.W.keepIn K (.ref f36) = true)
    (a37 : PySem.W.nsIn K mainGlobals "_law_next" = some (some (.ref f37)))
    (l37 : K.lookup f37 = some ⟨oc37, od37, .func (PySem.W.fnOf "_law_next" "_law_next" (defArgs s_F__law_next) (defBody s_F__law_next) (defScope s_F__law_next) .none kV37 dc37 pm37 an37 cd37 ct37), sl37⟩)
    (c37 : PySem.W.codeIn K cd37 "_law_next" = true)
    (k37 : PySem.W.keepIn K (.ref f37) = true)
    (a38 : PySem.W.nsIn K mainGlobals "_law_takes" = some (some (.ref f38)))
    (l38 : K.lookup f38 = some ⟨oc38, od38, .func (PySem.W.fnOf "_law_takes" "_law_takes" (defArgs s_F__law_takes) (defBody s_F__law_takes) (defScope s_F__law_takes) .none kV38 dc38 pm38 an38 cd38 ct38), sl38⟩)
    (c38 : PySem.W.codeIn K cd38 "_law_takes" = true)
    (k38 : PySem.W.keepIn K (.ref f38) = true)
    (a39 : PySem.W.nsIn K mainGlobals "_law_ends" = some (some (.ref f39)))
    (l39 : K.lookup f39 = some ⟨oc39, od39, .func (PySem.W.fnOf "_law_ends" "_law_ends" (defArgs s_F__law_ends) (defBody s_F__law_ends) (defScope s_F__law_ends) .none kV39 dc39 pm39 an39 cd39 ct39), sl39⟩)
    (c39 : PySem.W.codeIn K cd39 "_law_ends" = true)
    (k39 : PySem.W.keepIn K (.ref f39) = true)
    (a40 : PySem.W.nsIn K mainGlobals "_law_reads_cells" = some (some (.ref f40)))
    (l40 : K.lookup f40 = some ⟨oc40, od40, .func (PySem.W.fnOf "_law_reads_cells" "_law_reads_cells" (defArgs s_F__law_reads_cells) (defBody s_F__law_reads_cells) (defScope s_F__law_reads_cells) .none kV40 dc40 pm40 an40 cd40 ct40), sl40⟩)
    (c40 : PySem.W.codeIn K cd40 "_law_reads_cells" = true)
    (k40 : PySem.W.keepIn K (.ref f40) = true)
    (a41 : PySem.W.nsIn K mainGlobals "_law_table" = some (some (.ref f41)))
    (l41 : K.lookup f41 = some ⟨oc41, od41, .func (PySem.W.fnOf "_law_table" "_law_table" (defArgs s_F__law_table) (defBody s_F__law_table) (defScope s_F__law_table) .none kV41 dc41 pm41 an41 cd41 ct41), sl41⟩)
    (c41 : PySem.W.codeIn K cd41 "_law_table" = true)
    (k41 : PySem.W.keepIn K (.ref f41) = true)
    (a42 : PySem.W.nsIn K mainGlobals "_law_reads_row" = some (some (.ref f42)))
    (l42 : K.lookup f42 = some ⟨oc42, od42, .func (PySem.W.fnOf "_law_reads_row" "_law_reads_row" (defArgs s_F__law_reads_row) (defBody s_F__law_reads_row) (defScope s_F__law_reads_row) .none kV42 dc42 pm42 an42 cd42 ct42), sl42⟩)
    (c42 : PySem.W.codeIn K cd42 "_law_reads_row" = true)
    (k42 : PySem.W.keepIn K (.ref f42) = true)
    (a43 : PySem.W.nsIn K mainGlobals "_law_spoilt" = some (some (.ref f43)))
    (l43 : K.lookup f43 = some ⟨oc43, od43, .func (PySem.W.fnOf "_law_spoilt" "_law_spoilt" (defArgs s_F__law_spoilt) (defBody s_F__law_spoilt) (defScope s_F__law_spoilt) .none kV43 dc43 pm43 an43 cd43 ct43), sl43⟩)
    (c43 : PySem.W.codeIn K cd43 "_law_spoilt" = true)
    (k43 : PySem.W.keepIn K (.ref f43) = true)
    (a44 : PySem.W.nsIn K mainGlobals "_law_odd" = some (some (.ref f44)))
    (l44 : K.lookup f44 = some ⟨oc44, od44, .func (PySem.W.fnOf "_law_odd" "_law_odd" (defArgs s_F__law_odd) (defBody s_F__law_odd) (defScope s_F__law_odd) .none kV44 dc44 pm44 an44 cd44 ct44), sl44⟩)
    (c44 : PySem.W.codeIn K cd44 "_law_odd" = true)
    (k44 : PySem.W.keepIn K (.ref f44) = true)
    (a45 : PySem.W.nsIn K mainGlobals "_law_result" = some (some (.ref f45)))
    (l45 : K.lookup f45 = some ⟨oc45, od45, .func (PySem.W.fnOf "_law_result" "_law_result" (defArgs s_F__law_result) (defBody s_F__law_result) (defScope s_F__law_result) .none kV45 dc45 pm45 an45 cd45 ct45), sl45⟩)
    (c45 : PySem.W.codeIn K cd45 "_law_result" = true)
    (k45 : PySem.W.keepIn K (.ref f45) = true)
    (a46 : PySem.W.nsIn K mainGlobals "_law_due" = some (some (.ref f46)))
    (l46 : K.lookup f46 = some ⟨oc46, od46, .func (PySem.W.fnOf "_law_due" "_law_due" (defArgs s_F__law_due) (defBody s_F__law_due) (defScope s_F__law_due) .none kV46 dc46 pm46 an46 cd46 ct46), sl46⟩)
    (c46 : PySem.W.codeIn K cd46 "_law_due" = true)
    (k46 : PySem.W.keepIn K (.ref f46) = true)
    (a47 : PySem.W.nsIn K mainGlobals "law" = some (some (.ref f47)))
    (l47 : K.lookup f47 = some ⟨oc47, od47, .func (PySem.W.fnOf "law" "law" (defArgs s_F_law) (defBody s_F_law) (defScope s_F_law) .none kV47 dc47 pm47 an47 cd47 ct47), sl47⟩)
    (c47 : PySem.W.codeIn K cd47 "law" = true)
    (k47 : PySem.W.keepIn K (.ref f47) = true) :
    ∃ fd : FuncData, (∀ (s : Shared) (v : Value), BindsTo s fd ⟨[v], []⟩ [("script", v)]) ∧ ∀ base : Heap, K.In base → base.Ns mainGlobals mg → FnOk l.prog w K mg base (L2.CX l.prog w) 12 fa fd ["script"] (spLaw K) := by
  have e := hfa.symm.trans (PySem.W.mg_of X G a47)
  cases e
  have g_DoubtError := PySem.W.mg_of X G eaDoubtError
  have g_BadText := PySem.W.mg_of X G eaBadText
  have g_Forbidden := PySem.W.mg_of X G eaForbidden
  have g_NoNumber := PySem.W.mg_of X G eaNoNumber
  have g_NoVerdict := PySem.W.mg_of X G eaNoVerdict
  have g_NoRules := PySem.W.mg_of X G eaNoRules
  have g_NoSchema := PySem.W.mg_of X G eaNoSchema
  have g_NoReport := PySem.W.mg_of X G eaNoReport
  have g_NoTrust := PySem.W.mg_of X G eaNoTrust
  have g_NoKept := PySem.W.mg_of X G eaNoKept
  have g_NoGuard := PySem.W.mg_of X G eaNoGuard
  have ex_BadText : ExcC K EBadText := ⟨egBadText, ekBadText, ebBadText, ehdBadText, ecBadText, ecn, ect, emBadText⟩
  have xf_BadText : XF K mg "BadText" ["line", "at"] := ⟨_, g_BadText, ⟨egBadText, ekBadText, ebBadText, ehdBadText⟩, by intro f hf; rcases List.mem_cons.mp hf with rfl | hf; exact enBadText_line; rcases List.mem_cons.mp hf with rfl | hf; exact enBadText_at; cases hf⟩
  have eT_BadText : OexC K EBadText := ⟨⟨_, _, _, _, _, _, _, _, _, _, _, _, _, _, _, elBadText, erBadText⟩, esBadText, ebBadText, etyBadText, ekcBadText⟩
  have eS_BadText : SupC K mg l.prog EBadText ecdaBadText eccBadText := ⟨eT_BadText, PySem.W.mg_none_of X G esuper, etop, ethird, super_mid elBadText eldBadText emrBadText eidBadText, evBadText, euBadText, ⟨_, _, _, _, _, _, elcBadText, ev2BadText, eflBadText⟩, ⟨_, _, _, ellBadText⟩⟩
  have xi : XI K mg xT := xi_of (rows_cons (xir_ref g_BadText ex_BadText g_DoubtError eneBadText_DoubtError ehdDoubtError etyDoubtError esbBadText_DoubtError) (rows_cons (xir_self g_BadText ex_BadText) (rows_cons (xir_ref g_BadText ex_BadText g_Forbidden eneBadText_Forbidden ehdForbidden etyForbidden esbBadText_Forbidden) (rows_cons (xir_ref g_BadText ex_BadText g_NoNumber eneBadText_NoNumber ehdNoNumber etyNoNumber esbBadText_NoNumber) (rows_cons (xir_ref g_BadText ex_BadText g_NoVerdict eneBadText_NoVerdict ehdNoVerdict etyNoVerdict esbBadText_NoVerdict) (rows_cons (xir_ref g_BadText ex_BadText g_NoRules eneBadText_NoRules ehdNoRules etyNoRules esbBadText_NoRules) (rows_cons (xir_ref g_BadText ex_BadText g_NoSchema eneBadText_NoSchema ehdNoSchema etyNoSchema esbBadText_NoSchema) (rows_cons (xir_ref g_BadText ex_BadText g_NoReport eneBadText_NoReport ehdNoReport etyNoReport esbBadText_NoReport) (rows_cons (xir_ref g_BadText ex_BadText g_NoTrust eneBadText_NoTrust ehdNoTrust etyNoTrust esbBadText_NoTrust) (rows_cons (xir_ref g_BadText ex_BadText g_NoKept eneBadText_NoKept ehdNoKept etyNoKept esbBadText_NoKept) (rows_cons (xir_ref g_BadText ex_BadText g_NoGuard eneBadText_NoGuard ehdNoGuard etyNoGuard esbBadText_NoGuard) rows_nil)))))))))))
  have xc_DoubtError : XC K mg xT "DoubtError" := xc_of g_DoubtError (rows_cons (xcr_yes g_BadText ebxDoubtError ehdDoubtError etyDoubtError esbBadText_DoubtError) (rows_cons (xcr_no (by decide)) (rows_cons (xcr_no (by decide)) (rows_cons (xcr_no (by decide)) (rows_cons (xcr_no (by decide)) (rows_cons (xcr_no (by decide)) (rows_cons (xcr_no (by decide)) (rows_cons (xcr_no (by decide)) (rows_cons (xcr_no (by decide)) (rows_cons (xcr_no (by decide)) (rows_cons (xcr_no (by decide)) rows_nil)))))))))))
  have gLine := PySem.W.mg_of X G aLine
  have clLine : Cls K CLine := ⟨pgLine, hdLine, poLine, saLine⟩
  have ct_Line : CT K mg "Line" ["number", "tokens", "many"] := ⟨_, gLine, clLine, by intro f hf; rcases List.mem_cons.mp hf with rfl | hf; exact nLine_number; rcases List.mem_cons.mp hf with rfl | hf; exact nLine_tokens; rcases List.mem_cons.mp hf with rfl | hf; exact nLine_many; cases hf⟩
  have gd_DIGITS : GD K mg "DIGITS" d_DIGITS := gd_str (PySem.W.mg_of X G aDIGITS)
  have gd_SIGNS : GD K mg "SIGNS" d_SIGNS := gd_str (PySem.W.mg_of X G aSIGNS)
  have gd_LETTERS : GD K mg "LETTERS" d_LETTERS := gd_str (PySem.W.mg_of X G aLETTERS)
  have z : Z mg := ⟨PySem.W.mg_none_of X G zlen, PySem.W.mg_none_of X G zint, PySem.W.mg_none_of X G zrange, PySem.W.mg_none_of X G ztuple, PySem.W.mg_none_of X G zlist, PySem.W.mg_none_of X G zisinstance, PySem.W.mg_none_of X G zbool, PySem.W.mg_none_of X G zstr, PySem.W.mg_none_of X G zmax, PySem.W.mg_none_of X G zsorted, PySem.W.mg_none_of X G zmin⟩
  refine ⟨PySem.W.fnOf "law" "law" (defArgs s_F_law) (defBody s_F_law) (defScope s_F_law) .none kV47 dc47 pm47 an47 cd47 ct47, fun s v => .of_eq rfl, fun base _ _ => ?_⟩
  have x_BadText := w_XBadText (P := l.prog) (w := w) (base := base) g_BadText eS_BadText eicBadText etfBadText elfBadText ecdBadText (by intro f hf; rcases List.mem_cons.mp hf with rfl | hf; exact enBadText_line; rcases List.mem_cons.mp hf with rfl | hf; exact enBadText_at; cases hf)
  have G0 := fun_mk (st := s_F_table_of) l0 c0 k0
  have b0 := G0.binds (ps := ["schema", "name"]) fun _ _ _ _ _ _ us hl => match us, hl with | [_, _], _ => rfl
  have t_table_of := w_F_table_of (P := l.prog) (w := w) (base := base) G0 (PySem.W.mg_of X G a0) b0 z
  have G1 := fun_mk (st := s_F_run_end) l1 c1 k1
  have b1 := G1.binds (ps := ["line", "at", "chars"]) fun _ _ _ _ _ _ us hl => match us, hl with | [_, _, _], _ => rfl
  have t_run_end := w_F_run_end (P := l.prog) (w := w) (base := base) G1 (PySem.W.mg_of X G a1) b1 z
  have G2 := fun_mk (st := s_F_integer_at) l2 c2 k2
  have b2 := G2.binds (ps := ["line", "at"]) fun _ _ _ _ _ _ us hl => match us, hl with | [_, _], _ => rfl
  have t_integer_at := w_F_integer_at (P := l.prog) (w := w) (base := base) G2 (PySem.W.mg_of X G a2) b2 z gd_DIGITS t_run_end
  have G3 := fun_mk (st := s_F_token_at) l3 c3 k3
  have b3 := G3.binds (ps := ["line", "at"]) fun _ _ _ _ _ _ us hl => match us, hl with | [_, _], _ => rfl
  have t_token_at := w_F_token_at (P := l.prog) (w := w) (base := base) G3 (PySem.W.mg_of X G a3) b3 z gd_SIGNS gd_LETTERS t_run_end t_integer_at
  have G4 := fun_mk (st := s_F_tokens_of) l4 c4 k4
  have b4 := G4.binds (ps := ["line"]) fun _ _ _ _ _ _ us hl => match us, hl with | [_], _ => rfl
  have t_tokens_of := w_F_tokens_of (P := l.prog) (w := w) (base := base) G4 (PySem.W.mg_of X G a4) b4 z t_run_end t_token_at
  have G5 := fun_mk (st := s_F_Line___init__) l5 c5 k5
  have b5 := G5.binds (ps := ["self", "text", "number"]) fun _ _ _ _ _ _ us hl => match us, hl with | [_, _, _], _ => rfl
  have kt_Line := w_F_Line___init__ (P := l.prog) (w := w) (base := base) G5 gLine ⟨mkLine, a5, i5, kcLine⟩ b5 z ct_Line t_tokens_of
  have G6 := fun_mk (st := s_F_Line_kind) l6 c6 k6
  have b6 := G6.binds (ps := ["self"]) fun _ _ _ _ _ _ us hl => match us, hl with | [_], _ => rfl
  have mt_Line_kind := w_F_Line_kind (P := l.prog) (w := w) (base := base) G6 gLine clLine ⟨a6, i6, k6⟩ b6 z ct_Line
  have G7 := fun_mk (st := s_F_Line_value) l7 c7 k7
  have b7 := G7.binds (ps := ["self"]) fun _ _ _ _ _ _ us hl => match us, hl with | [_], _ => rfl
  have mt_Line_value := w_F_Line_value (P := l.prog) (w := w) (base := base) G7 gLine clLine ⟨a7, i7, k7⟩ b7 z ct_Line
  have G8 := fun_mk (st := s_F_Line_word) l8 c8 k8
  have b8 := G8.binds (ps := ["self"]) fun _ _ _ _ _ _ us hl => match us, hl with | [_], _ => rfl
  have mt_Line_word := w_F_Line_word (P := l.prog) (w := w) (base := base) G8 gLine clLine ⟨a8, i8, k8⟩ b8 z mt_Line_kind mt_Line_value
  have G9 := fun_mk (st := s_F_Line_refuse) l9 c9 k9
  have b9 := G9.binds (ps := ["self"]) fun _ _ _ _ _ _ us hl => match us, hl with | [_], _ => rfl
  have mt_Line_refuse := w_F_Line_refuse (P := l.prog) (w := w) (base := base) G9 gLine clLine ⟨a9, i9, k9⟩ b9 z ct_Line x_BadText
  have G10 := fun_mk (st := s_F_Line_take) l10 c10 k10
  have b10 := G10.binds (ps := ["self", "kind"]) fun _ _ _ _ _ _ us hl => match us, hl with | [_, _], _ => rfl
  have mt_Line_take := w_F_Line_take (P := l.prog) (w := w) (base := base) G10 gLine clLine ⟨a10, i10, k10⟩ b10 z ct_Line mt_Line_kind mt_Line_refuse mt_Line_value
  have G11 := fun_mk (st := s_F_Line_take_value) l11 c11 k11
  have b11 := G11.binds (ps := ["self"]) fun _ _ _ _ _ _ us hl => match us, hl with | [_], _ => rfl
  have mt_Line_take_value := w_F_Line_take_value (P := l.prog) (w := w) (base := base) G11 gLine clLine ⟨a11, i11, k11⟩ b11 z mt_Line_kind mt_Line_refuse mt_Line_take
  have G12 := fun_mk (st := s_F_take_value) l12 c12 k12
  have b12 := G12.binds (ps := ["line"]) fun _ _ _ _ _ _ us hl => match us, hl with | [_], _ => rfl
  have t_take_value := w_F_take_value (P := l.prog) (w := w) (base := base) G12 (PySem.W.mg_of X G a12) b12 z mt_Line_take_value
  have G13 := fun_mk (st := s_F_take_places) l13 c13 k13
  have b13 := G13.binds (ps := ["line", "count", "take_place"]) fun _ _ _ _ _ _ us hl => match us, hl with | [_, _, _], _ => rfl
  have t_take_places := w_F_take_places (P := l.prog) (w := w) (base := base) G13 (PySem.W.mg_of X G a13) b13 z t_take_value mt_Line_take (held_cons t_take_value (by decide) held_nil)
  have G14 := fun_mk (st := s_F_take_cells) l14 c14 k14
  have b14 := G14.binds (ps := ["line", "table", "take_place"]) fun _ _ _ _ _ _ us hl => match us, hl with | [_, _, _], _ => rfl
  have t_take_cells := w_F_take_cells (P := l.prog) (w := w) (base := base) G14 (PySem.W.mg_of X G a14) b14 z t_take_places mt_Line_take
  have G15 := fun_mk (st := s_F_take_row) l15 c15 k15
  have b15 := G15.binds (ps := ["line", "schema"]) fun _ _ _ _ _ _ us hl => match us, hl with | [_, _], _ => rfl
  have t_take_row := w_F_take_row (P := l.prog) (w := w) (base := base) G15 (PySem.W.mg_of X G a15) b15 z t_table_of t_take_value t_take_cells mt_Line_word mt_Line_refuse mt_Line_take
  have G16 := fun_mk (st := s_F_read_row) l16 c16 k16
  have b16 := G16.binds (ps := ["schema", "text"]) fun _ _ _ _ _ _ us hl => match us, hl with | [_, _], _ => rfl
  have t_read_row := w_F_read_row (P := l.prog) (w := w) (base := base) G16 (PySem.W.mg_of X G a16) b16 z t_take_row mt_Line_take kt_Line
  have G17 := fun_mk (st := s_F__law_draws) l17 c17 k17
  have b17 := G17.binds (ps := ["script", "many"]) fun _ _ _ _ _ _ us hl => match us, hl with | [_, _], _ => rfl
  have t__law_draws := w_F__law_draws (P := l.prog) (w := w) (base := base) G17 (PySem.W.mg_of X G a17) b17 z
  have G18 := fun_mk (st := s_F__law_take) l18 c18 k18
  have b18 := G18.binds (ps := ["draws", "many"]) fun _ _ _ _ _ _ us hl => match us, hl with | [_, _], _ => rfl
  have t__law_take := w_F__law_take (P := l.prog) (w := w) (base := base) G18 (PySem.W.mg_of X G a18) b18 z
  have G19 := fun_mk (st := s_F__law_pick) l19 c19 k19
  have b19 := G19.binds (ps := ["draws", "row"]) fun _ _ _ _ _ _ us hl => match us, hl with | [_, _], _ => rfl
  have t__law_pick := w_F__law_pick (P := l.prog) (w := w) (base := base) G19 (PySem.W.mg_of X G a19) b19 z t__law_take
  have G20 := fun_mk (st := s_F__law_same) l20 c20 k20
  have b20 := G20.binds (ps := ["actual", "due"]) fun _ _ _ _ _ _ us hl => match us, hl with | [_, _], _ => rfl
  have t__law_same := w_F__law_same (P := l.prog) (w := w) (base := base) G20 (PySem.W.mg_of X G a20) b20 z 8
  have G21 := fun_mk (st := s_F__law_words) l21 c21 k21
  have b21 := G21.binds (ps := ["draws", "many"]) fun _ _ _ _ _ _ us hl => match us, hl with | [_, _], _ => rfl
  have t__law_words := w_F__law_words (P := l.prog) (w := w) (base := base) G21 (PySem.W.mg_of X G a21) b21 z t__law_take
  have G22 := fun_mk (st := s_F__law_great_number) l22 c22 k22
  have b22 := G22.binds (ps := ["draws"]) fun _ _ _ _ _ _ us hl => match us, hl with | [_], _ => rfl
  have t__law_great_number := w_F__law_great_number (P := l.prog) (w := w) (base := base) G22 (PySem.W.mg_of X G a22) b22 z t__law_take
  have G23 := fun_mk (st := s_F__law_text_value) l23 c23 k23
  have b23 := G23.binds (ps := ["draws", "words"]) fun _ _ _ _ _ _ us hl => match us, hl with | [_, _], _ => rfl
  have t__law_text_value := w_F__law_text_value (P := l.prog) (w := w) (base := base) G23 (PySem.W.mg_of X G a23) b23 z t__law_take t__law_pick t__law_great_number
  have G24 := fun_mk (st := s_F__law_value_text) l24 c24 k24
  have b24 := G24.binds (ps := ["value"]) fun _ _ _ _ _ _ us hl => match us, hl with | [_], _ => rfl
  have t__law_value_text := w_F__law_value_text (P := l.prog) (w := w) (base := base) G24 (PySem.W.mg_of X G a24) b24 z
  have G25 := fun_mk (st := s_F__law_between) l25 c25 k25
  have b25 := G25.binds (ps := ["texts", "sign"]) fun _ _ _ _ _ _ us hl => match us, hl with | [_, _], _ => rfl
  have t__law_between := w_F__law_between (P := l.prog) (w := w) (base := base) G25 (PySem.W.mg_of X G a25) b25 z
  have G26 := fun_mk (st := s_F__law_cells_texts) l26 c26 k26
  have b26 := G26.binds (ps := ["name", "cells", "key"]) fun _ _ _ _ _ _ us hl => match us, hl with | [_, _, _], _ => rfl
  have t__law_cells_texts := w_F__law_cells_texts (P := l.prog) (w := w) (base := base) G26 (PySem.W.mg_of X G a26) b26 z t__law_between
  have G27 := fun_mk (st := s_F__law_run) l27 c27 k27
  have b27 := G27.binds (ps := ["line", "at", "chars"]) fun _ _ _ _ _ _ us hl => match us, hl with | [_, _, _], _ => rfl
  have t__law_run := w_F__law_run (P := l.prog) (w := w) (base := base) G27 (PySem.W.mg_of X G a27) b27 z
  have G28 := fun_mk (st := s_F__law_token_end) l28 c28 k28
  have b28 := G28.binds (ps := ["line", "at"]) fun _ _ _ _ _ _ us hl => match us, hl with | [_, _], _ => rfl
  have t__law_token_end := w_F__law_token_end (P := l.prog) (w := w) (base := base) G28 (PySem.W.mg_of X G a28) b28 z t__law_run
  have G29 := fun_mk (st := s_F__law_tokens) l29 c29 k29
  have b29 := G29.binds (ps := ["line"]) fun _ _ _ _ _ _ us hl => match us, hl with | [_], _ => rfl
  have t__law_tokens := w_F__law_tokens (P := l.prog) (w := w) (base := base) G29 (PySem.W.mg_of X G a29) b29 z t__law_run t__law_token_end
  have G30 := fun_mk (st := s_F__law_loose) l30 c30 k30
  have b30 := G30.binds (ps := ["draws", "texts"]) fun _ _ _ _ _ _ us hl => match us, hl with | [_, _], _ => rfl
  have t__law_loose := w_F__law_loose (P := l.prog) (w := w) (base := base) G30 (PySem.W.mg_of X G a30) b30 z t__law_take t__law_tokens
  have G31 := fun_mk (st := s_F__law_text_words) l31 c31 k31
  have b31 := G31.binds (ps := ["draws", "many"]) fun _ _ _ _ _ _ us hl => match us, hl with | [_, _], _ => rfl
  have t__law_text_words := w_F__law_text_words (P := l.prog) (w := w) (base := base) G31 (PySem.W.mg_of X G a31) b31 z t__law_words t__law_pick t__law_take
  have G32 := fun_mk (st := s_F__law_text_schema) l32 c32 k32
  have b32 := G32.binds (ps := ["draws", "names"]) fun _ _ _ _ _ _ us hl => match us, hl with | [_, _], _ => rfl
  have t__law_text_schema := w_F__law_text_schema (P := l.prog) (w := w) (base := base) G32 (PySem.W.mg_of X G a32) b32 z t__law_take
  have G33 := fun_mk (st := s_F__law_is_whole) l33 c33 k33
  have b33 := G33.binds (ps := ["token"]) fun _ _ _ _ _ _ us hl => match us, hl with | [_], _ => rfl
  have t__law_is_whole := w_F__law_is_whole (P := l.prog) (w := w) (base := base) G33 (PySem.W.mg_of X G a33) b33 z
  have G34 := fun_mk (st := s_F__law_is_value) l34 c34 k34
  have b34 := G34.binds (ps := ["token"]) fun _ _ _ _ _ _ us hl => match us, hl with | [_], _ => rfl
  have t__law_is_value := w_F__law_is_value (P := l.prog) (w := w) (base := base) G34 (PySem.W.mg_of X G a34) b34 z t__law_is_whole
  have G35 := fun_mk (st := s_F__law_is_name) l35 c35 k35
  have b35 := G35.binds (ps := ["token"]) fun _ _ _ _ _ _ us hl => match us, hl with | [_], _ => rfl
  have t__law_is_name := w_F__law_is_name (P := l.prog) (w := w) (base := base) G35 (PySem.W.mg_of X G a35) b35 z
  have G36 := fun_mk (st := s_F__law_value_of) l36 c36 k36
  have b36 := G36.binds (ps := ["token"]) fun _ _ _ _ _ _ us hl => match us, hl with | [_], _ => rfl
  have t__law_value_of := w_F__law_value_of (P := l.prog) (w := w) (base := base) G36 (PySem.W.mg_of X G a36) b36 z
  have G37 := fun_mk (st := s_F__law_next) l37 c37 k37
  have b37 := G37.binds (ps := ["state"]) fun _ _ _ _ _ _ us hl => match us, hl with | [_], _ => rfl
  have t__law_next := w_F__law_next (P := l.prog) (w := w) (base := base) G37 (PySem.W.mg_of X G a37) b37 z
  have G38 := fun_mk (st := s_F__law_takes) l38 c38 k38
  have b38 := G38.binds (ps := ["state", "fits"]) fun _ _ _ _ _ _ us hl => match us, hl with | [_, _], _ => rfl
  have t__law_takes := w_F__law_takes (P := l.prog) (w := w) (base := base) G38 (PySem.W.mg_of X G a38) b38 z t__law_next
  have G39 := fun_mk (st := s_F__law_ends) l39 c39 k39
  have b39 := G39.binds (ps := ["state"]) fun _ _ _ _ _ _ us hl => match us, hl with | [_], _ => rfl
  have t__law_ends := w_F__law_ends (P := l.prog) (w := w) (base := base) G39 (PySem.W.mg_of X G a39) b39 z t__law_next
  have G40 := fun_mk (st := s_F__law_reads_cells) l40 c40 k40
  have b40 := G40.binds (ps := ["state", "key", "many", "terms"]) fun _ _ _ _ _ _ us hl => match us, hl with | [_, _, _, _], _ => rfl
  have t__law_reads_cells := w_F__law_reads_cells (P := l.prog) (w := w) (base := base) G40 (PySem.W.mg_of X G a40) b40 z t__law_next t__law_takes t__law_is_value t__law_is_name t__law_value_of
  have G41 := fun_mk (st := s_F__law_table) l41 c41 k41
  have b41 := G41.binds (ps := ["schema", "name"]) fun _ _ _ _ _ _ us hl => match us, hl with | [_, _], _ => rfl
  have t__law_table := w_F__law_table (P := l.prog) (w := w) (base := base) G41 (PySem.W.mg_of X G a41) b41 z
  have G42 := fun_mk (st := s_F__law_reads_row) l42 c42 k42
  have b42 := G42.binds (ps := ["state", "schema"]) fun _ _ _ _ _ _ us hl => match us, hl with | [_, _], _ => rfl
  have t__law_reads_row := w_F__law_reads_row (P := l.prog) (w := w) (base := base) G42 (PySem.W.mg_of X G a42) b42 z t__law_next t__law_table t__law_takes t__law_reads_cells
  have G43 := fun_mk (st := s_F__law_spoilt) l43 c43 k43
  have b43 := G43.binds (ps := ["draws", "tokens", "pool"]) fun _ _ _ _ _ _ us hl => match us, hl with | [_, _, _], _ => rfl
  have t__law_spoilt := w_F__law_spoilt (P := l.prog) (w := w) (base := base) G43 (PySem.W.mg_of X G a43) b43 z t__law_take t__law_pick
  have G44 := fun_mk (st := s_F__law_odd) l44 c44 k44
  have b44 := G44.binds (ps := ["draws", "line"]) fun _ _ _ _ _ _ us hl => match us, hl with | [_, _], _ => rfl
  have t__law_odd := w_F__law_odd (P := l.prog) (w := w) (base := base) G44 (PySem.W.mg_of X G a44) b44 z t__law_take t__law_pick
  have G45 := fun_mk (st := s_F__law_result) l45 c45 k45
  have b45 := G45.binds (ps := ["schema", "text"]) fun _ _ _ _ _ _ us hl => match us, hl with | [_, _], _ => rfl
  have t__law_result := w_F__law_result (P := l.prog) (w := w) (base := base) G45 (PySem.W.mg_of X G a45) b45 z t_read_row g_DoubtError g_BadText g_Forbidden g_NoNumber g_NoVerdict g_NoRules g_NoSchema g_NoReport g_NoTrust g_NoKept g_NoGuard xi xc_DoubtError xf_BadText
  have G46 := fun_mk (st := s_F__law_due) l46 c46 k46
  have b46 := G46.binds (ps := ["schema", "text"]) fun _ _ _ _ _ _ us hl => match us, hl with | [_, _], _ => rfl
  have t__law_due := w_F__law_due (P := l.prog) (w := w) (base := base) G46 (PySem.W.mg_of X G a46) b46 z t__law_tokens t__law_reads_row t__law_ends
  have G47 := fun_mk (st := s_F_law) l47 c47 k47
  have b47 := G47.binds (ps := ["script"]) fun _ _ _ _ _ _ us hl => match us, hl with | [_], _ => rfl
  exact law_imp (w_F_law (P := l.prog) (w := w) (base := base) G47 z t__law_draws t__law_text_words t__law_text_schema t__law_take t__law_text_value t__law_value_text t__law_cells_texts t__law_spoilt t__law_loose t__law_odd t__law_pick t__law_result t__law_due t__law_same) LW.plain
end LW
open PySem PySem.W PyProof.Rows
theorem PySem.Challenge.cw_doubtbook_k82_rows_with_a_fault_holds : PySem.Challenge.rw_doubtbook_k82_rows_with_a_fault.Holds := by
  w_on; o_law; k_head; (case hw => w_witness2)
  k_fill
  refine L2.walk_of (l := PySem.Challenge.rw_doubtbook_k82_rows_with_a_fault) (n := 63) (k := 12) (x := "script") (CX := fun w => L2.CX PySem.Challenge.rw_doubtbook_k82_rows_with_a_fault.prog w) (sp := fun w => Dl.spLaw _) rfl (by decide) rfl ⟨rfl, by decide, by decide⟩ (fun w h Y => PySem.W.kIn_of Y) ?F (fun _ _ a ns hl hO hS => ⟨a, ns, rfl, hS, hO, hl, fun _ => rfl⟩) (fun _ _ _ _ _ h => Dl.cx_none h)
  case F =>
    intro w mg fa h KX G hmg
    refine' LW.all_mk KX G hmg ?eaDoubtError ?etyDoubtError ?ehdDoubtError ?eaBadText ?etyBadText ?ehdBadText ?eaForbidden ?etyForbidden ?ehdForbidden ?eaNoNumber ?etyNoNumber ?ehdNoNumber ?eaNoVerdict ?etyNoVerdict ?ehdNoVerdict ?eaNoRules ?etyNoRules ?ehdNoRules ?eaNoSchema ?etyNoSchema ?ehdNoSchema ?eaNoReport ?etyNoReport ?ehdNoReport ?eaNoTrust ?etyNoTrust ?ehdNoTrust ?eaNoKept ?etyNoKept ?ehdNoKept ?eaNoGuard ?etyNoGuard ?ehdNoGuard ?ebxDoubtError ?ethird ?esuper ?etop ?ecn ?ect ?egBadText ?ekBadText ?ebBadText ?ecBadText ?emBadText ?esBadText ?ekcBadText ?elBadText ?erBadText ?evBadText ?euBadText ?eldBadText ?emrBadText ?eidBadText ?eicBadText ?etfBadText ?elfBadText ?ecdBadText ?elcBadText ?ev2BadText ?eflBadText ?ellBadText ?enBadText_line ?enBadText_at ?eneBadText_DoubtError ?esbBadText_DoubtError ?esbBadText_BadText ?eneBadText_Forbidden ?esbBadText_Forbidden ?eneBadText_NoNumber ?esbBadText_NoNumber ?eneBadText_NoVerdict ?esbBadText_NoVerdict ?eneBadText_NoRules ?esbBadText_NoRules ?eneBadText_NoSchema ?esbBadText_NoSchema ?eneBadText_NoReport ?esbBadText_NoReport ?eneBadText_NoTrust ?esbBadText_NoTrust ?eneBadText_NoKept ?esbBadText_NoKept ?eneBadText_NoGuard ?esbBadText_NoGuard ?aLine ?pgLine ?hdLine ?poLine ?saLine ?kcLine ?mkLine ?nLine_number ?nLine_tokens ?nLine_many ?aDIGITS ?aSIGNS ?aLETTERS ?zlen ?zint ?zrange ?ztuple ?zlist ?zisinstance ?zbool ?zstr ?zmax ?zsorted ?zmin ?a0 ?l0 ?c0 ?k0 ?a1 ?l1 ?c1 ?k1 ?a2 ?l2 ?c2 ?k2 ?a3 ?l3 ?c3 ?k3 ?a4 ?l4 ?c4 ?k4 ?a5 ?i5 ?l5 ?c5 ?k5 ?a6 ?i6 ?l6 ?c6 ?k6 ?a7 ?i7 ?l7 ?c7 ?k7 ?a8 ?i8 ?l8 ?c8 ?k8 ?a9 ?i9 ?l9 ?c9 ?k9 ?a10 ?i10 ?l10 ?c10 ?k10 ?a11 ?i11 ?l11 ?c11 ?k11 ?a12 ?l12 ?c12 ?k12 ?a13 ?l13 ?c13 ?k13 ?a14 ?l14 ?c14 ?k14 ?a15 ?l15 ?c15 ?k15 ?a16 ?l16 ?c16 ?k16 ?a17 ?l17 ?c17 ?k17 ?a18 ?l18 ?c18 ?k18 ?a19 ?l19 ?c19 ?k19 ?a20 ?l20 ?c20 ?k20 ?a21 ?l21 ?c21 ?k21 ?a22 ?l22 ?c22 ?k22 ?a23 ?l23 ?c23 ?k23 ?a24 ?l24 ?c24 ?k24 ?a25 ?l25 ?c25 ?k25 ?a26 ?l26 ?c26 ?k26 ?a27 ?l27 ?c27 ?k27 ?a28 ?l28 ?c28 ?k28 ?a29 ?l29 ?c29 ?k29 ?a30 ?l30 ?c30 ?k30 ?a31 ?l31 ?c31 ?k31 ?a32 ?l32 ?c32 ?k32 ?a33 ?l33 ?c33 ?k33 ?a34 ?l34 ?c34 ?k34 ?a35 ?l35 ?c35 ?k35 ?a36 ?l36 ?c36 ?k36 ?a37 ?l37 ?c37 ?k37 ?a38 ?l38 ?c38 ?k38 ?a39 ?l39 ?c39 ?k39 ?a40 ?l40 ?c40 ?k40 ?a41 ?l41 ?c41 ?k41 ?a42 ?l42 ?c42 ?k42 ?a43 ?l43 ?c43 ?k43 ?a44 ?l44 ?c44 ?k44 ?a45 ?l45 ?c45 ?k45 ?a46 ?l46 ?c46 ?k46 ?a47 ?l47 ?c47 ?k47
    (case eaDoubtError => k_is)
    (case etyDoubtError => k_is)
    (case ehdDoubtError => k_is)
    (case eaBadText => k_is)
    (case etyBadText => k_is)
    (case ehdBadText => k_is)
    (case eaForbidden => k_is)
    (case etyForbidden => k_is)
    (case ehdForbidden => k_is)
    (case eaNoNumber => k_is)
    (case etyNoNumber => k_is)
    (case ehdNoNumber => k_is)
    (case eaNoVerdict => k_is)
    (case etyNoVerdict => k_is)
    (case ehdNoVerdict => k_is)
    (case eaNoRules => k_is)
    (case etyNoRules => k_is)
    (case ehdNoRules => k_is)
    (case eaNoSchema => k_is)
    (case etyNoSchema => k_is)
    (case ehdNoSchema => k_is)
    (case eaNoReport => k_is)
    (case etyNoReport => k_is)
    (case ehdNoReport => k_is)
    (case eaNoTrust => k_is)
    (case etyNoTrust => k_is)
    (case ehdNoTrust => k_is)
    (case eaNoKept => k_is)
    (case etyNoKept => k_is)
    (case ehdNoKept => k_is)
    (case eaNoGuard => k_is)
    (case etyNoGuard => k_is)
    (case ehdNoGuard => k_is)
    (case ebxDoubtError => k_is)
    (case ethird => k_is)
    (case esuper => k_is)
    (case etop => decide +kernel)
    (case ecn => k_is)
    (case ect => k_is)
    (case egBadText => k_is)
    (case ekBadText => k_is)
    (case ebBadText => k_is)
    (case ecBadText => k_is)
    (case emBadText => k_is)
    (case esBadText => k_is)
    (case ekcBadText => k_is)
    (case elBadText => k_is)
    (case erBadText => decide +kernel)
    (case evBadText => k_is)
    (case euBadText => k_is)
    (case eldBadText => k_is)
    (case emrBadText => rfl)
    (case eidBadText => k_is)
    (case eicBadText => k_is)
    (case etfBadText => k_is)
    (case elfBadText => k_is)
    (case ecdBadText => k_is)
    (case elcBadText => k_is)
    (case ev2BadText => rfl)
    (case eflBadText => decide +kernel)
    (case ellBadText => k_is)
    (case enBadText_line => k_is)
    (case enBadText_at => k_is)
    (case eneBadText_DoubtError => decide +kernel)
    (case esbBadText_DoubtError => k_is)
    (case esbBadText_BadText => k_is)
    (case eneBadText_Forbidden => decide +kernel)
    (case esbBadText_Forbidden => k_is)
    (case eneBadText_NoNumber => decide +kernel)
    (case esbBadText_NoNumber => k_is)
    (case eneBadText_NoVerdict => decide +kernel)
    (case esbBadText_NoVerdict => k_is)
    (case eneBadText_NoRules => decide +kernel)
    (case esbBadText_NoRules => k_is)
    (case eneBadText_NoSchema => decide +kernel)
    (case esbBadText_NoSchema => k_is)
    (case eneBadText_NoReport => decide +kernel)
    (case esbBadText_NoReport => k_is)
    (case eneBadText_NoTrust => decide +kernel)
    (case esbBadText_NoTrust => k_is)
    (case eneBadText_NoKept => decide +kernel)
    (case esbBadText_NoKept => k_is)
    (case eneBadText_NoGuard => decide +kernel)
    (case esbBadText_NoGuard => k_is)
    (case aLine => k_is)
    (case pgLine => k_is)
    (case hdLine => k_is)
    (case poLine => k_is)
    (case saLine => k_is)
    (case kcLine => k_is)
    (case mkLine => k_is)
    (case nLine_number => k_is)
    (case nLine_tokens => k_is)
    (case nLine_many => k_is)
    (case aDIGITS => k_is)
    (case aSIGNS => k_is)
    (case aLETTERS => k_is)
    (case zlen => k_is)
    (case zint => k_is)
    (case zrange => k_is)
    (case ztuple => k_is)
    (case zlist => k_is)
    (case zisinstance => k_is)
    (case zbool => k_is)
    (case zstr => k_is)
    (case zmax => k_is)
    (case zsorted => k_is)
    (case zmin => k_is)
    (case a0 => k_is)
    (case l0 => k_is)
    (case c0 => k_is)
    (case k0 => k_is)
    (case a1 => k_is)
    (case l1 => k_is)
    (case c1 => k_is)
    (case k1 => k_is)
    (case a2 => k_is)
    (case l2 => k_is)
    (case c2 => k_is)
    (case k2 => k_is)
    (case a3 => k_is)
    (case l3 => k_is)
    (case c3 => k_is)
    (case k3 => k_is)
    (case a4 => k_is)
    (case l4 => k_is)
    (case c4 => k_is)
    (case k4 => k_is)
    (case a5 => k_is)
    (case i5 => k_is)
    (case l5 => k_is)
    (case c5 => k_is)
    (case k5 => k_is)
    (case a6 => k_is)
    (case i6 => k_is)
    (case l6 => k_is)
    (case c6 => k_is)
    (case k6 => k_is)
    (case a7 => k_is)
    (case i7 => k_is)
    (case l7 => k_is)
    (case c7 => k_is)
    (case k7 => k_is)
    (case a8 => k_is)
    (case i8 => k_is)
    (case l8 => k_is)
    (case c8 => k_is)
    (case k8 => k_is)
    (case a9 => k_is)
    (case i9 => k_is)
    (case l9 => k_is)
    (case c9 => k_is)
    (case k9 => k_is)
    (case a10 => k_is)
    (case i10 => k_is)
    (case l10 => k_is)
    (case c10 => k_is)
    (case k10 => k_is)
    (case a11 => k_is)
    (case i11 => k_is)
    (case l11 => k_is)
    (case c11 => k_is)
    (case k11 => k_is)
    (case a12 => k_is)
    (case l12 => k_is)
    (case c12 => k_is)
    (case k12 => k_is)
    (case a13 => k_is)
    (case l13 => k_is)
    (case c13 => k_is)
    (case k13 => k_is)
    (case a14 => k_is)
    (case l14 => k_is)
    (case c14 => k_is)
    (case k14 => k_is)
    (case a15 => k_is)
    (case l15 => k_is)
    (case c15 => k_is)
    (case k15 => k_is)
    (case a16 => k_is)
    (case l16 => k_is)
    (case c16 => k_is)
    (case k16 => k_is)
    (case a17 => k_is)
    (case l17 => k_is)
    (case c17 => k_is)
    (case k17 => k_is)
    (case a18 => k_is)
    (case l18 => k_is)
    (case c18 => k_is)
    (case k18 => k_is)
    (case a19 => k_is)
    (case l19 => k_is)
    (case c19 => k_is)
    (case k19 => k_is)
    (case a20 => k_is)
    (case l20 => k_is)
    (case c20 => k_is)
    (case k20 => k_is)
    (case a21 => k_is)
    (case l21 => k_is)
    (case c21 => k_is)
    (case k21 => k_is)
    (case a22 => k_is)
    (case l22 => k_is)
    (case c22 => k_is)
    (case k22 => k_is)
    (case a23 => k_is)
    (case l23 => k_is)
    (case c23 => k_is)
    (case k23 => k_is)
    (case a24 => k_is)
    (case l24 => k_is)
    (case c24 => k_is)
    (case k24 => k_is)
    (case a25 => k_is)
    (case l25 => k_is)
    (case c25 => k_is)
    (case k25 => k_is)
    (case a26 => k_is)
    (case l26 => k_is)
    (case c26 => k_is)
    (case k26 => k_is)
    (case a27 => k_is)
    (case l27 => k_is)
    (case c27 => k_is)
    (case k27 => k_is)
    (case a28 => k_is)
    (case l28 => k_is)
    (case c28 => k_is)
    (case k28 => k_is)
    (case a29 => k_is)
    (case l29 => k_is)
    (case c29 => k_is)
    (case k29 => k_is)
    (case a30 => k_is)
    (case l30 => k_is)
    (case c30 => k_is)
    (case k30 => k_is)
    (case a31 => k_is)
    (case l31 => k_is)
    (case c31 => k_is)
    (case k31 => k_is)
    (case a32 => k_is)
    (case l32 => k_is)
    (case c32 => k_is)
    (case k32 => k_is)
    (case a33 => k_is)
    (case l33 => k_is)
    (case c33 => k_is)
    (case k33 => k_is)
    (case a34 => k_is)
    (case l34 => k_is)
    (case c34 => k_is)
    (case k34 => k_is)
    (case a35 => k_is)
    (case l35 => k_is)
    (case c35 => k_is)
    (case k35 => k_is)
    (case a36 => k_is)
    (case l36 => k_is)
    (case c36 => k_is)
    (case k36 => k_is)
    (case a37 => k_is)
    (case l37 => k_is)
    (case c37 => k_is)
    (case k37 => k_is)
    (case a38 => k_is)
    (case l38 => k_is)
    (case c38 => k_is)
    (case k38 => k_is)
    (case a39 => k_is)
    (case l39 => k_is)
    (case c39 => k_is)
    (case k39 => k_is)
    (case a40 => k_is)
    (case l40 => k_is)
    (case c40 => k_is)
    (case k40 => k_is)
    (case a41 => k_is)
    (case l41 => k_is)
    (case c41 => k_is)
    (case k41 => k_is)
    (case a42 => k_is)
    (case l42 => k_is)
    (case c42 => k_is)
    (case k42 => k_is)
    (case a43 => k_is)
    (case l43 => k_is)
    (case c43 => k_is)
    (case k43 => k_is)
    (case a44 => k_is)
    (case l44 => k_is)
    (case c44 => k_is)
    (case k44 => k_is)
    (case a45 => k_is)
    (case l45 => k_is)
    (case c45 => k_is)
    (case k45 => k_is)
    (case a46 => k_is)
    (case l46 => k_is)
    (case c46 => k_is)
    (case k46 => k_is)
    (case a47 => k_is)
    (case l47 => k_is)
    (case c47 => k_is)
    (case k47 => k_is)

end

