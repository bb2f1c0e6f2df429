import PyProof.Rows.All
import Wide.All
import OpenK.AllK
import Wide.FinOn
import HandS.ForMost
import HandS.Exc
import HandS.TryOnly
import HandS.WordsExc
import HandS.Deep
import HandS.TupAny
import HandS.IsInst
import HandS.ExcOwn
import HandS.More
import HandS.Text
import HandS.Iter
import HandS.FStr
import PySem.Challenge.RW_doubtbook_k83_rules_read_back
section
set_option linter.all false
set_option Elab.async false
set_option maxRecDepth 100000
/-! DlCore: a small functional reading of Python over plain data: values D (tuples by value, lists, dicts, instances by
reference), stores, results, and one combinator for each construct. Plain Lean: no program, no machine. -/
set_option linter.all false
set_option Elab.async false
namespace Dl

abbrev Cs := List Nat

inductive D where
  | non | bl (b : Bool) | int (i : Int) | str (x : Cs) | tup (xs : List D) | ref (n : Nat) | fn (x : String)
  /-- a list that is never changed (the script) -/
  | lit (xs : List D)
  deriving Inhabited, Repr

mutual
def D.beq : D → D → Bool
  | .non, .non => true
  | .bl a, .bl b => a == b
  | .int a, .int b => a == b
  | .str a, .str b => a == b
  | .tup a, .tup b => D.beqs a b
  | .ref a, .ref b => a == b
  | .fn a, .fn b => a == b
  | .lit a, .lit b => D.beqs a b
  | _, _ => false
def D.beqs : List D → List D → Bool
  | [], [] => true
  | a :: r, b :: s => D.beq a b && D.beqs r s
  | _, _ => false
end
mutual
theorem D.beq_iff : ∀ a b : D, D.beq a b = true ↔ a = b
  | .non, b => by cases b <;> simp [D.beq]
  | .bl _, b => by cases b <;> simp [D.beq]
  | .int _, b => by cases b <;> simp [D.beq]
  | .str _, b => by cases b <;> simp [D.beq]
  | .tup xs, b => by
    cases b <;> simp [D.beq]
    exact D.beqs_iff xs _
  | .ref _, b => by cases b <;> simp [D.beq]
  | .fn _, b => by cases b <;> simp [D.beq]
  | .lit xs, b => by
    cases b <;> simp [D.beq]
    exact D.beqs_iff xs _
theorem D.beqs_iff : ∀ a b : List D, D.beqs a b = true ↔ a = b
  | [], b => by cases b <;> simp [D.beqs]
  | x :: r, b => by
    cases b with
    | nil => simp [D.beqs]
    | cons y s => simp [D.beqs, D.beq_iff x y, D.beqs_iff r s]
end
instance : DecidableEq D := fun a b => decidable_of_iff (D.beq a b = true) (D.beq_iff a b)

/-- what stands in the store -/
inductive MO where
  | lst (xs : List D)
  | dct (kvs : List (D × D))
  /-- a dict while it is walked -/
  | lck (kvs : List (D × D))
  | set (xs : List D)
  | ins (C : String) (fs : List (String × D))
  deriving DecidableEq, Inhabited, Repr

abbrev Store := List MO
abbrev Env := List (Option D)

/-- an exception: its class, its attributes -/
structure Exc where
  cls : String
  fs : List (String × D)
  deriving DecidableEq, Inhabited, Repr

inductive Res (α : Type) where
  | ok (a : α) (S : Store)
  | exc (e : Exc) (S : Store)
  | stuck
  deriving Repr

def Res.bind {α β : Type} (r : Res α) (f : α → Store → Res β) : Res β :=
  match r with
  | .ok a S => f a S
  | .exc e S => .exc e S
  | .stuck => .stuck
@[simp] theorem Res.bind_ok {α β : Type} (a : α) (S : Store) (f : α → Store → Res β) : (Res.ok a S).bind f = f a S := id rfl
@[simp] theorem Res.bind_exc {α β : Type} (e : Exc) (S : Store) (f : α → Store → Res β) : (Res.exc e S : Res α).bind f = .exc e S := id rfl
@[simp] theorem Res.bind_stuck {α β : Type} (f : α → Store → Res β) : (Res.stuck : Res α).bind f = .stuck := id rfl

/-- the result is a good one of which Q holds, or an exception of which E holds -/
@[irreducible] def Res.sat {α : Type} (r : Res α) (Q : α → Store → Prop) (E : Exc → Store → Prop := fun _ _ => False) : Prop :=
  match r with
  | .ok a S => Q a S
  | .exc e S => E e S
  | .stuck => False
@[simp] theorem Res.sat_ok {α : Type} (a : α) (S : Store) (Q : α → Store → Prop) (E : Exc → Store → Prop) : (Res.ok a S).sat Q E ↔ Q a S := by unfold Res.sat; exact Iff.rfl
@[simp] theorem Res.sat_exc {α : Type} (e : Exc) (S : Store) (Q : α → Store → Prop) (E : Exc → Store → Prop) : (Res.exc e S : Res α).sat Q E ↔ E e S := by unfold Res.sat; exact Iff.rfl
@[simp] theorem Res.sat_stuck {α : Type} (Q : α → Store → Prop) (E : Exc → Store → Prop) : (Res.stuck : Res α).sat Q E ↔ False := by unfold Res.sat; exact Iff.rfl
@[simp] theorem Res.sat_bind {α β : Type} (r : Res α) (f : α → Store → Res β) (Q : β → Store → Prop) (E : Exc → Store → Prop) :
    (r.bind f).sat Q E ↔ r.sat (fun a S => (f a S).sat Q E) E := by
  cases r <;> simp [Res.bind]
theorem Res.sat.imp {α : Type} {r : Res α} {Q Q' : α → Store → Prop} {E E' : Exc → Store → Prop} (h : r.sat Q E) (hQ : ∀ a S, Q a S → Q' a S) (hE : ∀ e S, E e S → E' e S) : r.sat Q' E' := by
  cases r with
  | ok a S => rw [Res.sat_ok] at h ⊢; exact hQ _ _ h
  | exc e S => rw [Res.sat_exc] at h ⊢; exact hE _ _ h
  | stuck => rw [Res.sat_stuck] at h; exact h.elim
theorem Res.sat.mono {α : Type} {r : Res α} {Q Q' : α → Store → Prop} {E : Exc → Store → Prop} (h : r.sat Q E) (hQ : ∀ a S, Q a S → Q' a S) : r.sat Q' E := h.imp hQ fun _ _ h => h
theorem Res.sat_iff {α : Type} {r : Res α} {Q : α → Store → Prop} : r.sat Q ↔ ∃ a S, r = .ok a S ∧ Q a S := by
  cases r with
  | ok a S => rw [Res.sat_ok]; exact ⟨fun h => ⟨a, S, rfl, h⟩, fun ⟨_, _, e, h⟩ => by cases e; exact h⟩
  | exc e S => rw [Res.sat_exc]; exact ⟨fun h => h.elim, fun ⟨_, _, e, h⟩ => by cases e⟩
  | stuck => rw [Res.sat_stuck]; exact ⟨fun h => h.elim, fun ⟨_, _, e, h⟩ => by cases e⟩

/-- sizeLine of the model -/
def LIM : Nat := 16777216
/-- a while's most turns -/
def FUEL : Nat := 1000000000

abbrev EM := Env → Store → Res D
abbrev TM := Env → Store → Res Bool
abbrev AM := Env → Store → Res (List D)
/-- a def, a built-in, an operator -/
abbrev FM := List D → Store → Res D
inductive Flow where
  | nx (δ : Env) | rt (d : D) | bk (δ : Env) | ct (δ : Env) | ex (e : Exc) (δ : Env)
  deriving Repr
/-- an expression within a statement: an exception becomes a flow -/
def Res.thenS {α : Type} (r : Res α) (δ : Env) (f : α → Store → Res Flow) : Res Flow := match r with
  | .ok a S => f a S
  | .exc e S => .ok (.ex e δ) S
  | .stuck => .stuck
@[simp] theorem Res.thenS_ok {α : Type} (a : α) (S : Store) (δ : Env) (f : α → Store → Res Flow) : (Res.ok a S).thenS δ f = f a S := id rfl
@[simp] theorem Res.thenS_exc {α : Type} (e : Exc) (S : Store) (δ : Env) (f : α → Store → Res Flow) : (Res.exc e S : Res α).thenS δ f = .ok (.ex e δ) S := id rfl
@[simp] theorem Res.thenS_stuck {α : Type} (δ : Env) (f : α → Store → Res Flow) : (Res.stuck : Res α).thenS δ f = .stuck := id rfl
@[simp] theorem Res.sat_thenS {α : Type} (r : Res α) (δ : Env) (f : α → Store → Res Flow) (Q : Flow → Store → Prop) (E : Exc → Store → Prop) :
    (r.thenS δ f).sat Q E ↔ r.sat (fun a S => (f a S).sat Q E) (fun e S => Q (.ex e δ) S) := by
  cases r <;> simp
abbrev SM := Env → Store → Res Flow

/-! ### expressions -/
def varM (i : Nat) : EM := fun δ S => match δ[i]? with | some (some d) => .ok d S | _ => .stuck
def conM (d : D) : EM := fun _ S => .ok d S
def argsM : List EM → AM
  | [] => fun _ S => .ok [] S
  | e :: es => fun δ S => (e δ S).bind fun d S1 => (argsM es δ S1).bind fun ds S2 => .ok (d :: ds) S2
def callM (f : FM) (es : List EM) : EM := fun δ S => (argsM es δ S).bind f
def tupP : FM := fun ds S => if ds.length ≤ LIM then .ok (.tup ds) S else .stuck
def lstP : FM := fun ds S => if ds.length ≤ LIM then .ok (.ref S.length) (S ++ [.lst ds]) else .stuck
def dctP : FM := fun ds S => match ds with | [] => .ok (.ref S.length) (S ++ [.dct []]) | _ => .stuck

/-! ### data, equality, truth -/
mutual
/-- no references within, nested at most n deep -/
def D.flat : Nat → D → Bool
  | n, .tup xs => match n with | 0 => false | n + 1 => D.flats n xs
  | _, .ref _ => false
  | _, .fn _ => false
  | _, .lit _ => false
  | _, .str x => x.all fun c => decide (c < 0x110000)
  | _, _ => true
def D.flats : Nat → List D → Bool
  | _, [] => true
  | n, d :: r => D.flat n d && D.flats n r
end
def b2i (b : Bool) : Int := if b then 1 else 0
mutual
/-- Python's == on data -/
def D.eqv : D → D → Bool
  | .non, .non => true
  | .bl a, .bl b => a == b
  | .bl a, .int b => b2i a == b
  | .int a, .bl b => a == b2i b
  | .int a, .int b => a == b
  | .str a, .str b => a == b
  | .tup a, .tup b => D.eqvs a b
  | _, _ => false
def D.eqvs : List D → List D → Bool
  | [], [] => true
  | a :: r, b :: s => D.eqv a b && D.eqvs r s
  | _, _ => false
end
def DEP : Nat := 60
def lstAt (S : Store) (n : Nat) : Option (List D) := match S[n]? with | some (.lst xs) => some xs | _ => none
def dctAt (S : Store) (n : Nat) : Option (List (D × D)) := match S[n]? with | some (.dct xs) => some xs | some (.lck xs) => some xs | _ => none
/-- none, a bool, an int, a text -/
def D.sc : D → Bool
  | .non => true | .bl _ => true | .int _ => true | .str _ => true | _ => false
/-- scalars that == tells apart as data does -/
def D.scal : D → D → Bool
  | .non, .non => true | .non, .int _ => true | .int _, .non => true | .non, .bl _ => true | .bl _, .non => true | .non, .str _ => true | .str _, .non => true
  | .int _, .int _ => true | .bl _, .bl _ => true | .str _, .str _ => true
  | .int _, .str _ => true | .str _, .int _ => true | .bl _, .str _ => true | .str _, .bl _ => true
  | _, _ => false
def eqP : FM := fun ds S => match ds with
  | [x, y] => if D.scal x y then .ok (.bl (decide (x = y))) S else (match x, y with
    | .ref n, .ref m => (match lstAt S n, lstAt S m with
      | some xs, some ys => if D.flats (DEP - 1) xs && D.flats (DEP - 1) ys then .ok (.bl (D.eqvs xs ys)) S else .stuck
      | _, _ => .stuck)
    | x, y => if D.flat DEP x && D.flat DEP y then .ok (.bl (D.eqv x y)) S else .stuck)
  | _ => .stuck
def notR (r : Res D) : Res D := r.bind fun d S => match d with | .bl b => .ok (.bl (!b)) S | _ => .stuck
def neP : FM := fun ds S => notR (eqP ds S)
def inP : FM := fun ds S => match ds with
  | [x, .ref n] => (match lstAt S n with
    | some ys => if (x.sc && ys.all D.sc) || (D.flat (DEP - 1) x && D.flats (DEP - 1) ys) then .ok (.bl (ys.any fun z => D.eqv z x)) S else .stuck
    | none => .stuck)
  | [x, .tup ys] => if x.sc && ys.all D.sc then .ok (.bl (ys.any fun z => D.eqv z x)) S else .stuck
  | [.str [c], .str ys] => .ok (.bl (decide (c ∈ ys))) S
  | _ => .stuck
def notInP : FM := fun ds S => notR (inP ds S)
def isNonP : FM := fun ds S => match ds with | [d] => .ok (.bl (decide (d = .non))) S | _ => .stuck
def notNonP : FM := fun ds S => match ds with | [d] => .ok (.bl (!decide (d = .non))) S | _ => .stuck
def truth (d : D) (S : Store) : Option Bool := match d with
  | .non => some false
  | .bl b => some b
  | .int i => some (i != 0)
  | .str x => if x.length ≤ LIM then some (x.length != 0) else none
  | .tup xs => some (!xs.isEmpty)
  | .ref n => (match S[n]? with | some (.lst xs) => some (!xs.isEmpty) | some (.dct xs) => some (!xs.isEmpty) | _ => none)
  | .lit xs => some (!xs.isEmpty)
  | .fn _ => none

/-! ### operators -/
def small64 (i : Int) : Bool := decide (-(2 ^ 64) < i) && decide (i < 2 ^ 64)
def addP : FM := fun ds S => match ds with
  | [.int i, .int j] => .ok (.int (i + j)) S
  | [.str x, .str y] => if x.length + y.length ≤ LIM then .ok (.str (x ++ y)) S else .stuck
  | [.tup x, .tup y] => if x.length + y.length ≤ LIM then .ok (.tup (x ++ y)) S else .stuck
  | [.ref n, .ref m] => (match S[n]?, S[m]? with
    | some (.lst xs), some (.lst ys) => if xs.length + ys.length ≤ LIM then .ok (.ref S.length) (S ++ [.lst (xs ++ ys)]) else .stuck
    | _, _ => .stuck)
  | _ => .stuck
def subP : FM := fun ds S => match ds with | [.int i, .int j] => .ok (.int (i - j)) S | _ => .stuck
def mulP : FM := fun ds S => match ds with
  | [.int i, .int j] => if small64 i || small64 j then .ok (.int (i * j)) S else .stuck
  | [.str x, .int j] => if 0 < j ∧ x.length * j.toNat ≤ LIM ∧ j ≤ (LIM : Int) then .ok (.str (List.replicate j.toNat x).flatten) S else .stuck
  | _ => .stuck
def modP : FM := fun ds S => match ds with | [.int i, .int j] => if 0 < j then .ok (.int (i % j)) S else .stuck | _ => .stuck
def fdivP : FM := fun ds S => match ds with | [.int i, .int j] => if 0 < j ∧ j < 1073741824 then .ok (.int (i / j)) S else .stuck | _ => .stuck
def powP : FM := fun ds S => match ds with | [.int i, .int j] => if 0 ≤ j ∧ j ≤ 1000000 ∧ i.natAbs < 2 ^ 64 then .ok (.int (i ^ j.toNat)) S else .stuck | _ => .stuck
def negP : FM := fun ds S => match ds with | [.int i] => .ok (.int (-i)) S | _ => .stuck
/-- lists of codes in order -/
def csLt : Cs → Cs → Bool
  | _, [] => false
  | [], _ :: _ => true
  | a :: r, b :: s => if a = b then csLt r s else decide (a < b)
def ltP : FM := fun ds S => match ds with
  | [.int i, .int j] => .ok (.bl (decide (i < j))) S
  | [.str x, .str y] => .ok (.bl (decide (x < y))) S
  | _ => .stuck
def leP : FM := fun ds S => match ds with
  | [.int i, .int j] => .ok (.bl (decide (i ≤ j))) S
  | [.str x, .str y] => .ok (.bl (!decide (y < x))) S
  | _ => .stuck
def gtP : FM := fun ds S => match ds with
  | [.int i, .int j] => .ok (.bl (decide (j < i))) S
  | [.str x, .str y] => .ok (.bl (decide (y < x))) S
  | _ => .stuck
def geP : FM := fun ds S => match ds with
  | [.int i, .int j] => .ok (.bl (decide (j ≤ i))) S
  | [.str x, .str y] => .ok (.bl (!decide (x < y))) S
  | _ => .stuck

/-! ### tests -/
def tvM (m : EM) : TM := fun δ S => (m δ S).bind fun d S1 => match truth d S1 with | some b => .ok b S1 | none => .stuck
/-- a test whose value is a bool -/
def tbM (m : EM) : TM := fun δ S => (m δ S).bind fun d S1 => match d with | .bl b => .ok b S1 | _ => .stuck
def andT (a b : TM) : TM := fun δ S => (a δ S).bind fun c S1 => if c = true then b δ S1 else .ok false S1
def orT (a b : TM) : TM := fun δ S => (a δ S).bind fun c S1 => if c = true then .ok true S1 else b δ S1
def notT (a : TM) : TM := fun δ S => (a δ S).bind fun c S1 => .ok (!c) S1
def yesT : TM := fun _ S => .ok true S
def ifM (t : TM) (a b : EM) : EM := fun δ S => (t δ S).bind fun c S1 => if c = true then a δ S1 else b δ S1
/-- a and b, a or b, not a as values; a a bool -/
def andV (a b : EM) : EM := fun δ S => (a δ S).bind fun d S1 => match d with | .bl c => if c = true then b δ S1 else .ok (.bl false) S1 | _ => .stuck
def orV (a b : EM) : EM := fun δ S => (a δ S).bind fun d S1 => match d with | .bl c => if c = true then .ok (.bl true) S1 else b δ S1 | _ => .stuck
def notV (a : EM) : EM := fun δ S => (a δ S).bind fun d S1 => match d with | .bl c => .ok (.bl (!c)) S1 | _ => .stuck

/-! ### items and slices -/
def ixN (n : Nat) (i : Int) : Option Nat := if 0 ≤ i then (if i < n then some i.toNat else none) else if -(n : Int) ≤ i then some (i + n).toNat else none
def atI {α : Type} (xs : List α) (i : Int) : Option α := (ixN xs.length i).bind fun j => xs[j]?
def ixP : FM := fun ds S => match ds with
  | [.ref n, .int i] => (match lstAt S n with | some xs => (match atI xs i with | some d => .ok d S | none => .stuck) | none => .stuck)
  | [.tup xs, .int i] => (match atI xs i with | some d => .ok d S | none => .stuck)
  | [.lit xs, .int i] => (match atI xs i with | some d => .ok d S | none => .stuck)
  | [.str x, .int i] => if x.length ≤ LIM then (match atI x i with | some c => .ok (.str [c]) S | none => .stuck) else .stuck
  | _ => .stuck
def sIx (n d : Nat) : Option Int → Nat
  | none => d
  | some v => if v < 0 then (v + n).toNat else min v.toNat n
def cut {α : Type} (xs : List α) (lo hi : Option Int) : List α := (xs.drop (sIx xs.length 0 lo)).take (sIx xs.length xs.length hi - sIx xs.length 0 lo)
def optI : Option EM → Env → Store → Res (Option Int)
  | none => fun _ S => .ok none S
  | some e => fun δ S => (e δ S).bind fun d S1 => match d with | .int i => .ok (some i) S1 | _ => .stuck
def sliceP (d : D) (lo hi : Option Int) (S : Store) : Res D := match d with
  | .ref n => (match lstAt S n with | some xs => .ok (.ref S.length) (S ++ [.lst (cut xs lo hi)]) | none => .stuck)
  | .tup xs => .ok (.tup (cut xs lo hi)) S
  | .lit xs => .ok (.ref S.length) (S ++ [.lst (cut xs lo hi)])
  | .str x => if x.length ≤ LIM then .ok (.str (cut x lo hi)) S else .stuck
  | _ => .stuck
def sliceM (o : EM) (lo hi : Option EM) : EM := fun δ S => (o δ S).bind fun d S1 => (optI lo δ S1).bind fun l S2 => (optI hi δ S2).bind fun h S3 => sliceP d l h S3

/-! ### targets, what is walked, comprehensions -/
inductive Tgt where
  | nm (i : Nat)
  | tp (ts : List Nat)
def setAll : List Nat → List D → Env → Env
  | i :: is, d :: ds, δ => setAll is ds (δ.set i (some d))
  | _, _, δ => δ
def Tgt.put : Tgt → D → Env → Option Env
  | .nm i, d, δ => some (δ.set i (some d))
  | .tp is, .tup ds, δ => if ds.length = is.length then some (setAll is ds δ) else none
  | .tp _, _, _ => none
/-- the items, and that they are still so -/
structure Src where
  items : List D
  still : Store → Bool
abbrev IM := Env → Store → Res Src
def isLst (n : Nat) (xs : List D) (S : Store) : Bool := decide (lstAt S n = some xs)
def always (S : Store) : Bool := true
/-- a list or a tuple -/
def seqI (e : EM) : IM := fun δ S => (e δ S).bind fun d S1 => match d with
  | .ref n => (match lstAt S1 n with | some xs => .ok ⟨xs, isLst n xs⟩ S1 | none => .stuck)
  | .tup xs => .ok ⟨xs, always⟩ S1
  | .lit xs => .ok ⟨xs, always⟩ S1
  | _ => .stuck
def inRange (i : Int) : Bool := decide (-(2 ^ 62) ≤ i) && decide (i < 2 ^ 62)
def rangeL (lo hi : Int) : List D := (List.range (hi - lo).toNat).map fun k : Nat => D.int (lo + k)
def rangeI (es : List EM) : IM := fun δ S => (argsM es δ S).bind fun ds S1 => match ds with
  | [.int j] => if inRange j then .ok ⟨rangeL 0 j, always⟩ S1 else .stuck
  | [.int i, .int j] => if inRange i && inRange j then .ok ⟨rangeL i j, always⟩ S1 else .stuck
  | _ => .stuck
def wipe (δ : Env) : List Nat → Env
  | [] => δ
  | v :: vs => (wipe δ vs).set v none
/-- no exception leaves from here -/
def Res.nox {α : Type} (r : Res α) : Res α := match r with
  | .ok a S => .ok a S
  | _ => .stuck
@[simp] theorem Res.nox_ok {α : Type} (a : α) (S : Store) : (Res.ok a S).nox = .ok a S := id rfl
@[simp] theorem Res.sat_nox {α : Type} (r : Res α) (Q : α → Store → Prop) (E : Exc → Store → Prop) : r.nox.sat Q E ↔ r.sat Q := by
  cases r <;> simp [Res.nox]
theorem Res.nox_eq {α : Type} {r : Res α} {a : α} {S : Store} : r.nox = .ok a S ↔ r = .ok a S := by
  cases r <;> simp [Res.nox]
def lcLoop (still : Store → Bool) (D₀ : Nat) (δ : Env) (tg : Tgt) (tt : TM) (elt : EM) : List D → Store → Res Unit
  | [], S => if still S then .ok () S else .stuck
  | x :: r, S => if still S then (match tg.put x δ with
      | some δ2 => (tt δ2 S).nox.bind fun b S1 => if b = true then (elt δ2 S1).nox.bind fun y S2 => (match S2[D₀]? with
          | some (.lst acc) => if acc.length < LIM then lcLoop still D₀ δ tg tt elt r (S2.set D₀ (.lst (acc ++ [y]))) else .stuck
          | _ => .stuck) else lcLoop still D₀ δ tg tt elt r S1
      | none => .stuck) else .stuck
def lcM (own : List Nat) (src : IM) (tg : Tgt) (tt : TM) (elt : EM) : EM := fun δ S => (src δ S).bind fun s S1 =>
  (lcLoop s.still S1.length (wipe δ own) tg tt elt s.items (S1 ++ [.lst []])).bind fun _ S2 => .ok (.ref S1.length) S2

/-! ### instances of own classes -/
def getF (f : String) : List (String × D) → Option D
  | [] => none
  | p :: r => if p.1 = f then some p.2 else getF f r
def putF (f : String) (d : D) : List (String × D) → List (String × D)
  | [] => [(f, d)]
  | p :: r => if p.1 = f then (f, d) :: r else p :: putF f d r
def insAt (S : Store) (n : Nat) (C : String) : Option (List (String × D)) := match S[n]? with
  | some (.ins C' fs) => if C' = C then some fs else none
  | _ => none
def fldP (C f : String) : FM := fun ds S => match ds with
  | [.ref n] => (match insAt S n C with | some fs => (match getF f fs with | some d => .ok d S | none => .stuck) | none => .stuck)
  | _ => .stuck
/-- o.f = v: v, o -/
def putFP (C f : String) : FM := fun ds S => match ds with
  | [v, .ref n] => (match insAt S n C with | some fs => if fs.length < 100 then .ok .non (S.set n (.ins C (putF f v fs))) else .stuck | none => .stuck)
  | _ => .stuck
/-- o.f += e of ints: o, e -/
def augFP (C f : String) : FM := fun ds S => match ds with
  | [.ref n, .int j] => (match insAt S n C with | some fs => (match getF f fs with | some (.int i) => if fs.length < 100 then .ok .non (S.set n (.ins C (putF f (.int (i + j)) fs))) else .stuck | _ => .stuck) | none => .stuck)
  | _ => .stuck
/-- += of names: ints, texts -/
def addIS : FM := fun ds S => match ds with
  | [.int i, .int j] => .ok (.int (i + j)) S
  | [.str x, .str y] => if x.length + y.length ≤ LIM then .ok (.str (x ++ y)) S else .stuck
  | _ => .stuck
/-- o.m(..) -/
def methI (C m : String) (F : FM) (o : EM) (es : List EM) : EM := fun δ S => (o δ S).bind fun d S1 => match d with
  | .ref n => (match insAt S1 n C with
    | some fs => if getF m fs = none then (argsM es δ S1).bind fun ds S2 => F (d :: ds) S2 else .stuck
    | none => .stuck)
  | _ => .stuck
/-- C(..), F its __init__ -/
def makeM (C : String) (F : FM) (es : List EM) : EM := fun δ S => (argsM es δ S).bind fun ds S1 =>
  (F (.ref S1.length :: ds) (S1 ++ [.ins C []])).bind fun r S2 => if r = .non then .ok (.ref S1.length) S2 else .stuck
/-- a call of the def that a slot holds, one of some -/
def callV (i : Nat) (Fs : List (String × FM)) (es : List EM) : EM := fun δ S => match δ[i]? with
  | some (some (.fn x)) => (match Fs.lookup x with | some F => callM F es δ S | none => .stuck)
  | _ => .stuck

/-! ### statements -/
def noxS (s : SM) : SM := fun δ S => (s δ S).bind fun f S1 => match f with | .ex _ _ => .stuck | _ => .ok f S1
def nilS : SM := fun δ S => .ok (.nx δ) S
def seqS (a b : SM) : SM := fun δ S => (a δ S).bind fun f S1 => match f with | .nx δ1 => b δ1 S1 | _ => .ok f S1
def blkS : List SM → SM
  | [] => nilS
  | [a] => a
  | a :: b :: r => seqS a (blkS (b :: r))
def setS (tg : Tgt) (e : EM) : SM := fun δ S => (e δ S).thenS δ fun d S1 => match tg.put d δ with | some δ1 => .ok (.nx δ1) S1 | none => .stuck
def augS (i : Nat) (p : FM) (e : EM) : SM := fun δ S => match δ[i]? with
  | some (some x) => (e δ S).thenS δ fun y S1 => (p [x, y] S1).thenS δ fun z S2 => .ok (.nx (δ.set i (some z))) S2
  | _ => .stuck
def exprS (e : EM) : SM := fun δ S => (e δ S).thenS δ fun _ S1 => .ok (.nx δ) S1
def retS (e : EM) : SM := fun δ S => (e δ S).thenS δ fun d S1 => .ok (.rt d) S1
def retN : SM := fun _ S => .ok (.rt .non) S
def ifS (t : TM) (a b : SM) : SM := fun δ S => (t δ S).thenS δ fun c S1 => if c = true then a δ S1 else b δ S1
def brkS : SM := fun δ S => .ok (.bk δ) S
def cntS : SM := fun δ S => .ok (.ct δ) S
def neverS : SM := fun _ _ => .stuck
/-- o[i] = e: e, o, i -/
def putLP : FM := fun ds S => match ds with
  | [v, .ref n, .int k] => (match S[n]? with
    | some (.lst xs) => (match ixN xs.length k with | some j => .ok .non (S.set n (.lst (xs.set j v))) | none => .stuck)
    | _ => .stuck)
  | _ => .stuck
def forLoop (still : Store → Bool) (tg : Tgt) (body : SM) : List D → Env → Store → Res Flow
  | [], δ, S => if still S then .ok (.nx δ) S else .stuck
  | x :: r, δ, S => if still S then (match tg.put x δ with
      | some δ1 => (body δ1 S).bind fun f S1 => (match f with
        | .nx δ2 => forLoop still tg body r δ2 S1
        | .ct δ2 => forLoop still tg body r δ2 S1
        | .bk δ2 => .ok (.nx δ2) S1
        | .rt d => .ok (.rt d) S1
        | .ex e δ2 => .ok (.ex e δ2) S1)
      | none => .stuck) else .stuck
def forS (src : IM) (tg : Tgt) (body : SM) : SM := fun δ S => (src δ S).thenS δ fun s S1 => forLoop s.still tg body s.items δ S1
def whileLoop (t : TM) (body : SM) : Nat → Env → Store → Res Flow
  | 0, _, _ => .stuck
  | n + 1, δ, S => (t δ S).thenS δ fun c S1 => if c = true then (body δ S1).bind fun f S2 => (match f with
        | .nx δ2 => whileLoop t body n δ2 S2
        | .ct δ2 => whileLoop t body n δ2 S2
        | .bk δ2 => .ok (.nx δ2) S2
        | .rt d => .ok (.rt d) S2
        | .ex e δ2 => .ok (.ex e δ2) S2) else .ok (.nx δ) S1
def whileS (t : TM) (body : SM) : SM := whileLoop t body FUEL

/-! ### defs -/
/-- a def of so many parameters and slots -/
def defM (params slots : Nat) (body : SM) : FM := fun ds S => if ds.length = params then
    (body (ds.map some ++ List.replicate (slots - params) none) S).nox.bind fun f S1 => (match f with
      | .rt d => .ok d S1
      | .nx _ => .ok .non S1
      | .ex e _ => .exc e S1
      | _ => .stuck)
  else .stuck

/-! ### built-ins -/
def lenP : FM := fun ds S => match ds with
  | [.str x] => if x.length ≤ LIM then .ok (.int x.length) S else .stuck
  | [.tup xs] => .ok (.int xs.length) S
  | [.lit xs] => .ok (.int xs.length) S
  | [.ref n] => (match S[n]? with
    | some (.lst xs) => .ok (.int xs.length) S
    | some (.dct xs) => .ok (.int xs.length) S
    | _ => .stuck)
  | _ => .stuck
/-- the digits of a number, and what digits are worth -/
def natCs (n : Nat) : Cs := (Nat.toDigits 10 n).map Char.toNat
def intCs (i : Int) : Cs := if i < 0 then 45 :: natCs i.natAbs else natCs i.natAbs
def digV (cs : Cs) : Nat := cs.foldl (fun acc c => acc * 10 + (c - 48)) 0
def isDigit (c : Nat) : Bool := decide (48 ≤ c) && decide (c ≤ 57)
def csInt (cs : Cs) : Option Int := match cs with
  | [] => none
  | 45 :: r => if r ≠ [] ∧ r.all isDigit then some (-(digV r : Int)) else none
  | c :: r => if (c :: r).all isDigit then some (digV (c :: r) : Int) else none
def strP : FM := fun ds S => match ds with
  | [.int i] => if i.natAbs < 2 ^ 1900 then .ok (.str (intCs i)) S else .stuck
  | _ => .stuck
/-- {x} in an f-string -/
def fmtP : FM := fun ds S => match ds with
  | [.int i] => if i.natAbs < 2 ^ 1900 then .ok (.str (intCs i)) S else .stuck
  | [.str x] => if x.length ≤ LIM then .ok (.str x) S else .stuck
  | _ => .stuck
def catM : Cs → List EM → EM
  | acc, [] => fun _ S => .ok (.str acc) S
  | acc, e :: es => fun δ S => (e δ S).bind fun d S1 => match d with
    | .str y => if acc.length + y.length ≤ LIM then catM (acc ++ y) es δ S1 else .stuck
    | _ => .stuck
def intP : FM := fun ds S => match ds with
  | [.str x] => if x.length ≤ 640 then (match csInt x with | some n => .ok (.int n) S | none => .stuck) else .stuck
  | [.int i] => .ok (.int i) S
  | [.bl b] => .ok (.int (b2i b)) S
  | _ => .stuck
def listP : FM := fun ds S => match ds with
  | [.ref n] => (match lstAt S n with | some xs => .ok (.ref S.length) (S ++ [.lst xs]) | none => .stuck)
  | [.tup xs] => .ok (.ref S.length) (S ++ [.lst xs])
  | [.lit xs] => .ok (.ref S.length) (S ++ [.lst xs])
  | _ => .stuck
def tupleP : FM := fun ds S => match ds with
  | [.ref n] => (match lstAt S n with | some xs => .ok (.tup xs) S | none => .stuck)
  | [.tup xs] => .ok (.tup xs) S
  | _ => .stuck
/-- o.append and its like give the receiver's kind in the text; here the types of data -/
def tyN (d : D) (S : Store) : Option String := match d with
  | .non => some "NoneType"
  | .bl _ => some "bool"
  | .int _ => some "int"
  | .str _ => some "str"
  | .tup _ => some "tuple"
  | .ref n => (match S[n]? with | some (.lst _) => some "list" | some (.dct _) => some "dict" | _ => none)
  | .fn _ => none
  | .lit _ => some "list"
def appendP : FM := fun ds S => match ds with
  | [.ref n, d] => (match S[n]? with | some (.lst xs) => if xs.length < LIM then .ok .non (S.set n (.lst (xs ++ [d]))) else .stuck | _ => .stuck)
  | _ => .stuck
/-- a method of a built-in type: the receiver's type is looked at first -/
def methM (T : String) (p : FM) (o : EM) (es : List EM) : EM := fun δ S => (o δ S).bind fun d S1 => if tyN d S1 = some T then (argsM es δ S1).bind fun ds S2 => p (d :: ds) S2 else .stuck
def insertP : FM := fun ds S => match ds with
  | [.ref n, .int i, d] => (match S[n]? with | some (.lst xs) => if xs.length < LIM ∧ 0 ≤ i ∧ i < 2 ^ 62 then .ok .non (S.set n (.lst (xs.take i.toNat ++ [d] ++ xs.drop i.toNat))) else .stuck | _ => .stuck)
  | _ => .stuck
def popP : FM := fun ds S => match ds with
  | [.ref n] => (match S[n]? with | some (.lst xs) => (match xs[xs.length - 1]? with | some d => .ok d (S.set n (.lst xs.dropLast)) | none => .stuck) | _ => .stuck)
  | _ => .stuck
def reverseP : FM := fun ds S => match ds with
  | [.ref n] => (match S[n]? with | some (.lst xs) => .ok .non (S.set n (.lst xs.reverse)) | _ => .stuck)
  | _ => .stuck
def isTy (a b : String) : Bool := a == b || (a == "bool" && b == "int")
def isP (Ts : List String) : FM := fun ds S => match ds with
  | [d] => (match tyN d S with | some t => .ok (.bl (Ts.any fun T => isTy t T)) S | none => .stuck)
  | _ => .stuck
def strsOf : List D → Option (List Cs)
  | [] => some []
  | .str x :: r => (strsOf r).map fun xs => x :: xs
  | _ :: _ => none
def intsOf : List D → Option (List Int)
  | [] => some []
  | .int x :: r => (intsOf r).map fun xs => x :: xs
  | _ :: _ => none
def joinCs (sep : Cs) : List Cs → Cs
  | [] => []
  | [x] => x
  | x :: y :: r => x ++ sep ++ joinCs sep (y :: r)
def joinP : FM := fun ds S => match ds with
  | [.str sep, d] => (match (match d with | .ref n => lstAt S n | .tup xs => some xs | _ => none) with
    | some xs => (match strsOf xs with
      | some ys => if (ys.map List.length).sum + ys.length * sep.length ≤ LIM then .ok (.str (joinCs sep ys)) S else .stuck
      | none => .stuck)
    | none => .stuck)
  | _ => .stuck
def csLe (x y : Cs) : Bool := !decide (y < x)
/-- sorted of texts -/
def sortedSP : FM := fun ds S => match ds with
  | [.ref n] => (match lstAt S n with
    | some xs => (match strsOf xs with
      | some ys => if ys.length < 64 then .ok (.ref S.length) (S ++ [.lst ((ys.mergeSort csLe).map D.str)]) else .stuck
      | none => .stuck)
    | none => .stuck)
  | _ => .stuck
def maxL : Int → List Int → Int
  | a, [] => a
  | a, b :: r => maxL (if b > a then b else a) r
def maxP : FM := fun ds S => match ds with
  | [.ref n] => (match lstAt S n with
    | some xs => (match intsOf xs with
      | some (a :: r) => .ok (.int (maxL a r)) S
      | _ => .stuck)
    | none => .stuck)
  | [.int i, .int j] => .ok (.int (if j > i then j else i)) S
  | _ => .stuck
def absP : FM := fun ds S => match ds with | [.int i] => .ok (.int (if i < 0 then -i else i)) S | _ => .stuck
def minP : FM := fun ds S => match ds with
  | [.int i, .int j] => .ok (.int (if j < i then j else i)) S
  | _ => .stuck
end Dl

end

section
set_option linter.all false
set_option Elab.async false
set_option maxRecDepth 100000
set_option linter.all false
set_option Elab.async false
/-! DlEv: the combinators applied, for simp; loops by invariants; frames. Plain Lean. -/
namespace DlM
open Dl
section
variable {i : Nat} {δ : Env} {S : Store}
@[scoped simp] theorem varM_ap : varM i δ S = match δ[i]? with | some (some d) => .ok d S | _ => .stuck := id rfl
@[scoped simp] theorem conM_ap (d : D) : conM d δ S = .ok d S := id rfl
@[scoped simp] theorem argsM_nil : argsM [] δ S = .ok [] S := id rfl
@[scoped simp] theorem argsM_cons (e : EM) (es : List EM) : argsM (e :: es) δ S = (e δ S).bind fun d S1 => (argsM es δ S1).bind fun ds S2 => .ok (d :: ds) S2 := id rfl
@[scoped simp] theorem callM_ap (f : FM) (es : List EM) : callM f es δ S = (argsM es δ S).bind f := id rfl
@[scoped simp] theorem tvM_ap (m : EM) : tvM m δ S = (m δ S).bind fun d S1 => match truth d S1 with | some b => .ok b S1 | none => .stuck := id rfl
@[scoped simp] theorem tbM_ap (m : EM) : tbM m δ S = (m δ S).bind fun d S1 => match d with | .bl b => .ok b S1 | _ => .stuck := id rfl
@[scoped simp] theorem andT_ap (a b : TM) : andT a b δ S = (a δ S).bind fun c S1 => if c = true then b δ S1 else .ok false S1 := id rfl
@[scoped simp] theorem orT_ap (a b : TM) : orT a b δ S = (a δ S).bind fun c S1 => if c = true then .ok true S1 else b δ S1 := id rfl
@[scoped simp] theorem notT_ap (a : TM) : notT a δ S = (a δ S).bind fun c S1 => .ok (!c) S1 := id rfl
@[scoped simp] theorem yesT_ap : yesT δ S = .ok true S := id rfl
@[scoped simp] theorem ifM_ap (t : TM) (a b : EM) : ifM t a b δ S = (t δ S).bind fun c S1 => if c = true then a δ S1 else b δ S1 := id rfl
@[scoped simp] theorem andV_ap (a b : EM) : andV a b δ S = (a δ S).bind fun d S1 => match d with | .bl c => if c = true then b δ S1 else .ok (.bl false) S1 | _ => .stuck := id rfl
@[scoped simp] theorem orV_ap (a b : EM) : orV a b δ S = (a δ S).bind fun d S1 => match d with | .bl c => if c = true then .ok (.bl true) S1 else b δ S1 | _ => .stuck := id rfl
@[scoped simp] theorem notV_ap (a : EM) : notV a δ S = (a δ S).bind fun d S1 => match d with | .bl c => .ok (.bl (!c)) S1 | _ => .stuck := id rfl
@[scoped simp] theorem sliceM_ap (o : EM) (lo hi : Option EM) : sliceM o lo hi δ S = (o δ S).bind fun d S1 => (optI lo δ S1).bind fun l S2 => (optI hi δ S2).bind fun h S3 => sliceP d l h S3 := id rfl
@[scoped simp] theorem optI_none : optI none δ S = .ok none S := id rfl
@[scoped simp] theorem optI_some (e : EM) : optI (some e) δ S = (e δ S).bind fun d S1 => match d with | .int i => .ok (some i) S1 | _ => .stuck := id rfl
@[scoped simp] theorem seqI_ap (e : EM) : seqI e δ S = (e δ S).bind fun d S1 => match d with
  | .ref n => (match lstAt S1 n with | some xs => .ok ⟨xs, isLst n xs⟩ S1 | none => .stuck)
  | .tup xs => .ok ⟨xs, always⟩ S1
  | .lit xs => .ok ⟨xs, always⟩ S1
  | _ => .stuck := id rfl
@[scoped simp] theorem rangeI_ap (es : List EM) : rangeI es δ S = (argsM es δ S).bind fun ds S1 => match ds with
  | [.int j] => if inRange j then .ok ⟨rangeL 0 j, always⟩ S1 else .stuck
  | [.int i, .int j] => if inRange i && inRange j then .ok ⟨rangeL i j, always⟩ S1 else .stuck
  | _ => .stuck := id rfl
@[scoped simp] theorem methI_ap (C m : String) (F : FM) (o : EM) (es : List EM) : methI C m F o es δ S = (o δ S).bind fun d S1 => match d with
  | .ref n => (match insAt S1 n C with
    | some fs => if getF m fs = none then (argsM es δ S1).bind fun ds S2 => F (d :: ds) S2 else .stuck
    | none => .stuck)
  | _ => .stuck := id rfl
@[scoped simp] theorem makeM_ap (C : String) (F : FM) (es : List EM) : makeM C F es δ S = (argsM es δ S).bind fun ds S1 =>
  (F (.ref S1.length :: ds) (S1 ++ [.ins C []])).bind fun r S2 => if r = .non then .ok (.ref S1.length) S2 else .stuck := id rfl
@[scoped simp] theorem callV_ap (Fs : List (String × FM)) (es : List EM) : callV i Fs es δ S = match δ[i]? with
  | some (some (.fn x)) => (match Fs.lookup x with | some F => callM F es δ S | none => .stuck)
  | _ => .stuck := id rfl
@[scoped simp] theorem methM_ap (T : String) (p : FM) (o : EM) (es : List EM) : methM T p o es δ S = (o δ S).bind fun d S1 => if tyN d S1 = some T then (argsM es δ S1).bind fun ds S2 => p (d :: ds) S2 else .stuck := id rfl
@[scoped simp] theorem catM_nil (acc : Cs) : catM acc [] δ S = .ok (.str acc) S := id rfl
@[scoped simp] theorem catM_cons (acc : Cs) (e : EM) (es : List EM) : catM acc (e :: es) δ S = (e δ S).bind fun d S1 => match d with
    | .str y => if acc.length + y.length ≤ LIM then catM (acc ++ y) es δ S1 else .stuck
    | _ => .stuck := id rfl
/-! statements -/
@[scoped simp] theorem blkS_nil : blkS [] δ S = .ok (.nx δ) S := id rfl
@[scoped simp] theorem blkS_one (a : SM) : blkS [a] δ S = a δ S := id rfl
@[scoped simp] theorem blkS_cons (a b : SM) (r : List SM) : blkS (a :: b :: r) δ S = (a δ S).bind fun f S1 => match f with | .nx δ1 => blkS (b :: r) δ1 S1 | _ => .ok f S1 := id rfl
@[scoped simp] theorem setS_ap (tg : Tgt) (e : EM) : setS tg e δ S = (e δ S).thenS δ fun d S1 => match tg.put d δ with | some δ1 => .ok (.nx δ1) S1 | none => .stuck := id rfl
@[scoped simp] theorem augS_ap (p : FM) (e : EM) : augS i p e δ S = match δ[i]? with
  | some (some x) => (e δ S).thenS δ fun y S1 => (p [x, y] S1).thenS δ fun z S2 => .ok (.nx (δ.set i (some z))) S2
  | _ => .stuck := id rfl
@[scoped simp] theorem exprS_ap (e : EM) : exprS e δ S = (e δ S).thenS δ fun _ S1 => .ok (.nx δ) S1 := id rfl
@[scoped simp] theorem retS_ap (e : EM) : retS e δ S = (e δ S).thenS δ fun d S1 => .ok (.rt d) S1 := id rfl
@[scoped simp] theorem retN_ap : retN δ S = .ok (.rt .non) S := id rfl
@[scoped simp] theorem ifS_ap (t : TM) (a b : SM) : ifS t a b δ S = (t δ S).thenS δ fun c S1 => if c = true then a δ S1 else b δ S1 := id rfl
@[scoped simp] theorem brkS_ap : brkS δ S = .ok (.bk δ) S := id rfl
@[scoped simp] theorem cntS_ap : cntS δ S = .ok (.ct δ) S := id rfl
@[scoped simp] theorem neverS_ap : neverS δ S = .stuck := id rfl
@[scoped simp] theorem noxS_ap (s : SM) : noxS s δ S = (s δ S).bind fun f S1 => match f with | .ex _ _ => .stuck | _ => .ok f S1 := id rfl
@[scoped simp] theorem forS_ap (src : IM) (tg : Tgt) (body : SM) : forS src tg body δ S = (src δ S).thenS δ fun s S1 => forLoop s.still tg body s.items δ S1 := id rfl
@[scoped simp] theorem whileS_ap (t : TM) (body : SM) : whileS t body δ S = whileLoop t body FUEL δ S := id rfl
@[scoped simp] theorem put_nm (d : D) : (Tgt.nm i).put d δ = some (δ.set i (some d)) := id rfl
@[scoped simp] theorem put_tp (is : List Nat) (ds : List D) : (Tgt.tp is).put (.tup ds) δ = if ds.length = is.length then some (setAll is ds δ) else none := id rfl
@[scoped simp] theorem setAll_nil : setAll [] [] δ = δ := id rfl
@[scoped simp] theorem setAll_cons (is : List Nat) (d : D) (ds : List D) : setAll (i :: is) (d :: ds) δ = setAll is ds (δ.set i (some d)) := id rfl
@[scoped simp] theorem wipe_nil : wipe δ [] = δ := id rfl
@[scoped simp] theorem wipe_cons (v : Nat) (vs : List Nat) : wipe δ (v :: vs) = (wipe δ vs).set v none := id rfl
/-- a def's answer -/
theorem sat_defM {params slots : Nat} {body : SM} {ds : List D} {Q : D → Store → Prop} {E : Exc → Store → Prop} (hl : ds.length = params)
    (h : (body (ds.map some ++ List.replicate (slots - params) none) S).sat fun f S1 => match f with | .rt d => Q d S1 | .nx _ => Q .non S1 | .ex e _ => E e S1 | _ => False) : (defM params slots body ds S).sat Q E := by
  unfold defM
  rw [if_pos hl]
  rw [Res.sat_bind]
  cases e : body (ds.map some ++ List.replicate (slots - params) none) S with
  | stuck => rw [e, Res.sat_stuck] at h; exact h.elim
  | exc y S1 => rw [e, Res.sat_exc] at h; exact h.elim
  | ok f S1 =>
    rw [e, Res.sat_ok] at h
    simp only [Res.nox_ok, Res.sat_ok]
    cases f <;> simpa using h
end
/-! built-ins on shapes -/
section
variable {S : Store}
@[scoped simp] theorem eqP_int (i j : Int) : eqP [.int i, .int j] S = .ok (.bl (decide (i = j))) S := by simp [eqP, D.scal]
@[scoped simp] theorem eqP_str (i j : Cs) : eqP [.str i, .str j] S = .ok (.bl (decide (i = j))) S := by simp [eqP, D.scal]
@[scoped simp] theorem eqP_bl (i j : Bool) : eqP [.bl i, .bl j] S = .ok (.bl (decide (i = j))) S := by simp [eqP, D.scal]
@[scoped simp] theorem eqP_non : eqP [.non, .non] S = .ok (.bl true) S := by simp [eqP, D.scal]
@[scoped simp] theorem neP_ap (ds : List D) : neP ds S = (eqP ds S).bind fun d S => match d with | .bl b => .ok (.bl (!b)) S | _ => .stuck := id rfl
@[scoped simp] theorem notInP_ap (ds : List D) : notInP ds S = (inP ds S).bind fun d S => match d with | .bl b => .ok (.bl (!b)) S | _ => .stuck := id rfl
@[scoped simp] theorem inP_str (c : Nat) (ys : Cs) : inP [.str [c], .str ys] S = .ok (.bl (decide (c ∈ ys))) S := id rfl
@[scoped simp] theorem isNonP_ap (d : D) : isNonP [d] S = .ok (.bl (decide (d = .non))) S := id rfl
@[scoped simp] theorem notNonP_ap (d : D) : notNonP [d] S = .ok (.bl (!decide (d = .non))) S := id rfl
@[scoped simp] theorem addP_int (i j : Int) : addP [.int i, .int j] S = .ok (.int (i + j)) S := id rfl
@[scoped simp] theorem addP_str (i j : Cs) : addP [.str i, .str j] S = if i.length + j.length ≤ LIM then .ok (.str (i ++ j)) S else .stuck := id rfl
@[scoped simp] theorem addP_ref (n m : Nat) : addP [.ref n, .ref m] S = (match S[n]?, S[m]? with
    | some (.lst xs), some (.lst ys) => if xs.length + ys.length ≤ LIM then .ok (.ref S.length) (S ++ [.lst (xs ++ ys)]) else .stuck
    | _, _ => .stuck) := id rfl
@[scoped simp] theorem subP_int (i j : Int) : subP [.int i, .int j] S = .ok (.int (i - j)) S := id rfl
@[scoped simp] theorem mulP_int (i j : Int) : mulP [.int i, .int j] S = if small64 i || small64 j then .ok (.int (i * j)) S else .stuck := id rfl
@[scoped simp] theorem modP_int (i j : Int) : modP [.int i, .int j] S = if 0 < j then .ok (.int (i % j)) S else .stuck := id rfl
@[scoped simp] theorem fdivP_int (i j : Int) : fdivP [.int i, .int j] S = if 0 < j ∧ j < 1073741824 then .ok (.int (i / j)) S else .stuck := id rfl
@[scoped simp] theorem powP_int (i j : Int) : powP [.int i, .int j] S = if 0 ≤ j ∧ j ≤ 1000000 ∧ i.natAbs < 2 ^ 64 then .ok (.int (i ^ j.toNat)) S else .stuck := id rfl
@[scoped simp] theorem negP_int (i : Int) : negP [.int i] S = .ok (.int (-i)) S := id rfl
@[scoped simp] theorem ltP_int (i j : Int) : ltP [.int i, .int j] S = .ok (.bl (decide (i < j))) S := id rfl
@[scoped simp] theorem leP_int (i j : Int) : leP [.int i, .int j] S = .ok (.bl (decide (i ≤ j))) S := id rfl
@[scoped simp] theorem gtP_int (i j : Int) : gtP [.int i, .int j] S = .ok (.bl (decide (j < i))) S := id rfl
@[scoped simp] theorem geP_int (i j : Int) : geP [.int i, .int j] S = .ok (.bl (decide (j ≤ i))) S := id rfl
@[scoped simp] theorem ixP_ref (n : Nat) (i : Int) : ixP [.ref n, .int i] S = (match lstAt S n with | some xs => (match atI xs i with | some d => .ok d S | none => .stuck) | none => .stuck) := id rfl
@[scoped simp] theorem ixP_tup (xs : List D) (i : Int) : ixP [.tup xs, .int i] S = (match atI xs i with | some d => .ok d S | none => .stuck) := id rfl
@[scoped simp] theorem ixP_lit (xs : List D) (i : Int) : ixP [.lit xs, .int i] S = (match atI xs i with | some d => .ok d S | none => .stuck) := id rfl
@[scoped simp] theorem ixP_str (x : Cs) (i : Int) : ixP [.str x, .int i] S = if x.length ≤ LIM then (match atI x i with | some c => .ok (.str [c]) S | none => .stuck) else .stuck := id rfl
@[scoped simp] theorem sliceP_ref (n : Nat) (lo hi : Option Int) : sliceP (.ref n) lo hi S = (match lstAt S n with | some xs => .ok (.ref S.length) (S ++ [.lst (cut xs lo hi)]) | none => .stuck) := id rfl
@[scoped simp] theorem sliceP_tup (xs : List D) (lo hi : Option Int) : sliceP (.tup xs) lo hi S = .ok (.tup (cut xs lo hi)) S := id rfl
@[scoped simp] theorem sliceP_str (x : Cs) (lo hi : Option Int) : sliceP (.str x) lo hi S = if x.length ≤ LIM then .ok (.str (cut x lo hi)) S else .stuck := id rfl
@[scoped simp] theorem lenP_str (x : Cs) : lenP [.str x] S = if x.length ≤ LIM then .ok (.int x.length) S else .stuck := id rfl
@[scoped simp] theorem lenP_tup (x : List D) : lenP [.tup x] S = .ok (.int x.length) S := id rfl
@[scoped simp] theorem lenP_lit (x : List D) : lenP [.lit x] S = .ok (.int x.length) S := id rfl
@[scoped simp] theorem lenP_ref (n : Nat) : lenP [.ref n] S = (match S[n]? with
    | some (.lst xs) => .ok (.int xs.length) S
    | some (.dct xs) => .ok (.int xs.length) S
    | _ => .stuck) := id rfl
@[scoped simp] theorem strP_int (i : Int) : strP [.int i] S = if i.natAbs < 2 ^ 1900 then .ok (.str (intCs i)) S else .stuck := id rfl
@[scoped simp] theorem fmtP_int (i : Int) : fmtP [.int i] S = if i.natAbs < 2 ^ 1900 then .ok (.str (intCs i)) S else .stuck := id rfl
@[scoped simp] theorem fmtP_str (x : Cs) : fmtP [.str x] S = if x.length ≤ LIM then .ok (.str x) S else .stuck := id rfl
@[scoped simp] theorem intP_str (x : Cs) : intP [.str x] S = if x.length ≤ 640 then (match csInt x with | some n => .ok (.int n) S | none => .stuck) else .stuck := id rfl
@[scoped simp] theorem intP_int (i : Int) : intP [.int i] S = .ok (.int i) S := id rfl
@[scoped simp] theorem intP_bl (b : Bool) : intP [.bl b] S = .ok (.int (b2i b)) S := id rfl
@[scoped simp] theorem listP_ref (n : Nat) : listP [.ref n] S = (match lstAt S n with | some xs => .ok (.ref S.length) (S ++ [.lst xs]) | none => .stuck) := id rfl
@[scoped simp] theorem tupleP_ref (n : Nat) : tupleP [.ref n] S = (match lstAt S n with | some xs => .ok (.tup xs) S | none => .stuck) := id rfl
@[scoped simp] theorem appendP_ref (n : Nat) (d : D) : appendP [.ref n, d] S = (match S[n]? with | some (.lst xs) => if xs.length < LIM then .ok .non (S.set n (.lst (xs ++ [d]))) else .stuck | _ => .stuck) := id rfl
@[scoped simp] theorem popP_ref (n : Nat) : popP [.ref n] S = (match S[n]? with | some (.lst xs) => (match xs[xs.length - 1]? with | some d => .ok d (S.set n (.lst xs.dropLast)) | none => .stuck) | _ => .stuck) := id rfl
@[scoped simp] theorem reverseP_ref (n : Nat) : reverseP [.ref n] S = (match S[n]? with | some (.lst xs) => .ok .non (S.set n (.lst xs.reverse)) | _ => .stuck) := id rfl
@[scoped simp] theorem putLP_ref (v : D) (n : Nat) (k : Int) : putLP [v, .ref n, .int k] S = (match S[n]? with
    | some (.lst xs) => (match ixN xs.length k with | some j => .ok .non (S.set n (.lst (xs.set j v))) | none => .stuck)
    | _ => .stuck) := id rfl
@[scoped simp] theorem isP_ap (Ts : List String) (d : D) : isP Ts [d] S = (match tyN d S with | some t => .ok (.bl (Ts.any fun T => isTy t T)) S | none => .stuck) := id rfl
@[scoped simp] theorem tyN_non : tyN .non S = some "NoneType" := id rfl
@[scoped simp] theorem tyN_bl (b : Bool) : tyN (.bl b) S = some "bool" := id rfl
@[scoped simp] theorem tyN_int (i : Int) : tyN (.int i) S = some "int" := id rfl
@[scoped simp] theorem tyN_str (x : Cs) : tyN (.str x) S = some "str" := id rfl
@[scoped simp] theorem tyN_tup (x : List D) : tyN (.tup x) S = some "tuple" := id rfl
@[scoped simp] theorem tyN_lit (x : List D) : tyN (.lit x) S = some "list" := id rfl
@[scoped simp] theorem tyN_ref (n : Nat) : tyN (.ref n) S = (match S[n]? with | some (.lst _) => some "list" | some (.dct _) => some "dict" | _ => none) := id rfl
theorem tyN_lst {n : Nat} {xs : List D} (h : S[n]? = some (.lst xs)) : tyN (.ref n) S = some "list" := by simp [tyN, h]
theorem lstAt_of {n : Nat} {xs : List D} (h : S[n]? = some (.lst xs)) : lstAt S n = some xs := by simp [lstAt, h]
@[scoped simp] theorem lstP_ap (ds : List D) : lstP ds S = if ds.length ≤ LIM then .ok (.ref S.length) (S ++ [.lst ds]) else .stuck := id rfl
@[scoped simp] theorem tupP_ap (ds : List D) : tupP ds S = if ds.length ≤ LIM then .ok (.tup ds) S else .stuck := id rfl
@[scoped simp] theorem addIS_int (i j : Int) : addIS [.int i, .int j] S = .ok (.int (i + j)) S := id rfl
@[scoped simp] theorem addIS_str (i j : Cs) : addIS [.str i, .str j] S = if i.length + j.length ≤ LIM then .ok (.str (i ++ j)) S else .stuck := id rfl
@[scoped simp] theorem maxP_ref (n : Nat) : maxP [.ref n] S = (match lstAt S n with
    | some xs => (match intsOf xs with
      | some (a :: r) => .ok (.int (maxL a r)) S
      | _ => .stuck)
    | none => .stuck) := id rfl
@[scoped simp] theorem minP_int (i j : Int) : minP [.int i, .int j] S = .ok (.int (if j < i then j else i)) S := id rfl
@[scoped simp] theorem joinP_ref (sep : Cs) (n : Nat) : joinP [.str sep, .ref n] S = (match lstAt S n with
    | some xs => (match strsOf xs with
      | some ys => if (ys.map List.length).sum + ys.length * sep.length ≤ LIM then .ok (.str (joinCs sep ys)) S else .stuck
      | none => .stuck)
    | none => .stuck) := id rfl
end
theorem le_LIM {n : Nat} (h : n ≤ 1000000) : n ≤ LIM := Nat.le_trans h (by decide)
theorem lt_LIM {n : Nat} (h : n ≤ 1000000) : n < LIM := Nat.lt_of_le_of_lt h (by decide)
@[scoped simp] theorem lim_0 : 0 ≤ LIM := by decide
@[scoped simp] theorem lim_1 : 1 ≤ LIM := by decide
@[scoped simp] theorem lim_2 : 2 ≤ LIM := by decide
@[scoped simp] theorem lim_3 : 3 ≤ LIM := by decide
@[scoped simp] theorem lim_4 : 4 ≤ LIM := by decide
@[scoped simp] theorem lim_5 : 5 ≤ LIM := by decide
@[scoped simp] theorem lim_6 : 6 ≤ LIM := by decide
@[scoped simp] theorem lim_7 : 7 ≤ LIM := by decide
@[scoped simp] theorem lim_8 : 8 ≤ LIM := by decide
@[scoped simp] theorem lim_9 : 9 ≤ LIM := by decide
@[scoped simp] theorem lim_10 : 10 ≤ LIM := by decide
@[scoped simp] theorem lim_11 : 11 ≤ LIM := by decide
@[scoped simp] theorem lim_12 : 12 ≤ LIM := by decide
@[scoped simp] theorem lim_13 : 13 ≤ LIM := by decide
@[scoped simp] theorem lim_14 : 14 ≤ LIM := by decide
@[scoped simp] theorem lim_15 : 15 ≤ LIM := by decide
@[scoped simp] theorem limt_0 : 0 < LIM := by decide
@[scoped simp] theorem strsOf_map (xs : List Cs) : strsOf (xs.map D.str) = some xs := by
  induction xs with
  | nil => rfl
  | cons x r ih => simp [strsOf, ih]
@[scoped simp] theorem intsOf_map (xs : List Int) : intsOf (xs.map D.int) = some xs := by
  induction xs with
  | nil => rfl
  | cons x r ih => simp [intsOf, ih]
@[scoped simp] theorem strsOf_cons (x : Cs) (r : List D) : strsOf (.str x :: r) = (strsOf r).map fun xs => x :: xs := id rfl
@[scoped simp] theorem intsOf_cons (x : Int) (r : List D) : intsOf (.int x :: r) = (intsOf r).map fun xs => x :: xs := id rfl
@[scoped simp] theorem strsOf_nil : strsOf [] = some [] := id rfl
@[scoped simp] theorem intsOf_nil : intsOf [] = some [] := id rfl
theorem atI_nat {α : Type} {xs : List α} {k : Nat} {x : α} (h : xs[k]? = some x) : atI xs (k : Int) = some x := by
  have hk : k < xs.length := (List.getElem?_eq_some_iff.mp h).1
  unfold atI ixN
  rw [if_pos (by omega), if_pos (by omega)]
  simpa using h
theorem atI_int {α : Type} {xs : List α} {i : Int} (h0 : 0 ≤ i) (h : i < xs.length) : ∃ x, atI xs i = some x ∧ xs[i.toNat]? = some x := by
  have hk : i.toNat < xs.length := by omega
  refine ⟨xs[i.toNat], ?_, List.getElem?_eq_getElem hk⟩
  have := atI_nat (List.getElem?_eq_getElem hk)
  rwa [Int.toNat_of_nonneg h0] at this
@[scoped simp] theorem atI_zero {α : Type} {x : α} {xs : List α} : atI (x :: xs) 0 = some x := by simp [atI, ixN]
@[scoped simp] theorem atI_one {α : Type} {x y : α} {xs : List α} : atI (x :: y :: xs) 1 = some y := atI_nat (k := 1) rfl
@[scoped simp] theorem atI_two {α : Type} {x y z : α} {xs : List α} : atI (x :: y :: z :: xs) 2 = some z := atI_nat (k := 2) rfl
theorem atI_last {α : Type} {x : α} {xs : List α} : atI (xs ++ [x]) (-1) = some x := by
  unfold atI ixN
  rw [if_neg (by omega), if_pos (by simp; omega)]
  have e : ((-1 : Int) + ((xs ++ [x]).length : Nat)).toNat = xs.length := by rw [List.length_append]; simp only [List.length_singleton]; omega
  rw [e]
  simp
theorem ixN_last {α : Type} {x : α} {xs : List α} : ixN (xs ++ [x]).length (-1) = some xs.length := by
  unfold ixN
  rw [if_neg (by omega), if_pos (by simp; omega)]
  have e : ((-1 : Int) + ((xs ++ [x]).length : Nat)).toNat = xs.length := by rw [List.length_append]; simp only [List.length_singleton]; omega
  rw [e]
theorem ixN_nat {n k : Nat} (h : k < n) : ixN n (k : Int) = some k := by
  unfold ixN
  rw [if_pos (by omega), if_pos (by omega)]
  simp
theorem ixN_int {n : Nat} {i : Int} (h0 : 0 ≤ i) (h : i < n) : ixN n i = some i.toNat := by
  unfold ixN
  rw [if_pos h0, if_pos h]
theorem cut_nat {α : Type} (xs : List α) (a b : Nat) (hb : b ≤ xs.length) : cut xs (some (a : Int)) (some (b : Int)) = (xs.drop a).take (b - a) := by
  unfold cut sIx
  simp only []
  rw [if_neg (by omega), if_neg (by omega)]
  by_cases h : a ≤ xs.length
  · congr 1
    · omega
    · congr 1; omega
  · rw [List.drop_eq_nil_of_le (by omega), List.drop_eq_nil_of_le (by omega)]
    simp
theorem cut_to {α : Type} (xs : List α) (b : Nat) : cut xs none (some (b : Int)) = xs.take b := by
  unfold cut sIx
  simp only [List.drop_zero, Nat.sub_zero]
  rw [if_neg (by omega)]
  simp only [Int.toNat_natCast]
  by_cases h : b ≤ xs.length
  · rw [Nat.min_eq_left h]
  · rw [Nat.min_eq_right (by omega), List.take_of_length_le (by omega), List.take_of_length_le (by omega)]
theorem cut_from {α : Type} (xs : List α) (a : Nat) : cut xs (some (a : Int)) none = xs.drop a := by
  unfold cut sIx
  simp only []
  rw [if_neg (by omega)]
  simp only [Int.toNat_natCast]
  by_cases h : a ≤ xs.length
  · rw [Nat.min_eq_left h]
    exact List.take_of_length_le (by simp)
  · rw [List.drop_eq_nil_of_le (by omega), List.drop_eq_nil_of_le (show xs.length ≤ a by omega)]
    simp
@[scoped simp] theorem rangeL_length (n : Nat) : (rangeL 0 n).length = n := by simp [rangeL]
theorem inRange_nat {n : Nat} (h : n ≤ 1000000000) : inRange n = true := by
  unfold inRange
  simp only [Bool.and_eq_true, decide_eq_true_eq]
  omega
theorem rangeL_get {n k : Nat} (h : k < (rangeL 0 n).length) : (rangeL 0 n)[k] = .int k := by simp [rangeL]
theorem rangeL_get2 {a b : Int} {k : Nat} (h : k < (rangeL a b).length) : (rangeL a b)[k] = .int (a + k) := by simp [rangeL]
theorem rangeL_len2 (a b : Int) : (rangeL a b).length = (b - a).toNat := by simp [rangeL]

theorem sat_seq {a b : SM} {r : List SM} {δ : Env} {S : Store} {Q : Flow → Store → Prop} {E : Exc → Store → Prop} (R : Env → Store → Prop) (h1 : (a δ S).sat (fun f S1 => match f with | .nx δ1 => R δ1 S1 | f => Q f S1) E)
    (h2 : ∀ δ1 S1, R δ1 S1 → (blkS (b :: r) δ1 S1).sat Q E) : (blkS (a :: b :: r) δ S).sat Q E := by
  rw [blkS_cons, Res.sat_bind]
  refine h1.mono fun f S1 h => ?_
  cases f with
  | nx δ1 => exact h2 δ1 S1 h
  | rt d => simpa using h
  | bk d => simpa using h
  | ct d => simpa using h
  | ex e d => simpa using h
/-! loops -/
theorem for_inv {still : Store → Bool} {tg : Tgt} {body : SM} {xs : List D} {δ : Env} {S : Store} {Q : Flow → Store → Prop} {E : Exc → Store → Prop} (I : Nat → Env → Store → Prop) (h0 : I 0 δ S)
    (hs : ∀ k δ S, k ≤ xs.length → I k δ S → still S = true)
    (step : ∀ k (hk : k < xs.length) δ S, I k δ S → ∃ δ1, tg.put xs[k] δ = some δ1 ∧ (body δ1 S).sat (fun f S' => match f with
      | .nx δ' => I (k + 1) δ' S'
      | .ct δ' => I (k + 1) δ' S'
      | .bk δ' => Q (.nx δ') S'
      | .rt d => Q (.rt d) S'
      | .ex e δ' => Q (.ex e δ') S') E)
    (hend : ∀ δ S, I xs.length δ S → Q (.nx δ) S) : (forLoop still tg body xs δ S).sat Q E := by
  have main : ∀ (n k : Nat) (δ : Env) (S : Store), n + k = xs.length → I k δ S → (forLoop still tg body (xs.drop k) δ S).sat Q E := by
    intro n
    induction n with
    | zero =>
      intro k δ S hk hI
      have e : k = xs.length := by omega
      subst e
      rw [List.drop_length]
      unfold forLoop
      rw [if_pos (hs _ _ _ (Nat.le_refl _) hI)]
      rw [Res.sat_ok]
      exact hend _ _ hI
    | succ n ih =>
      intro k δ S hk hI
      have hlt : k < xs.length := by omega
      rw [List.drop_eq_getElem_cons hlt]
      unfold forLoop
      rw [if_pos (hs _ _ _ (by omega) hI)]
      obtain ⟨δ1, e1, h1⟩ := step k hlt δ S hI
      rw [e1]
      simp only [Res.sat_bind]
      refine h1.mono fun f S' h => ?_
      cases f with
      | nx δ' => exact ih (k + 1) δ' S' (by omega) h
      | ct δ' => exact ih (k + 1) δ' S' (by omega) h
      | bk δ' => simpa using h
      | rt d => simpa using h
      | ex e δ' => simpa using h
  have := main xs.length 0 δ S (by omega) h0
  simpa using this
theorem while_inv {t : TM} {body : SM} {Q : Flow → Store → Prop} {E : Exc → Store → Prop} (I : Nat → Env → Store → Prop)
    (step : ∀ n δ S, I n δ S → (t δ S).sat (fun c S1 => if c = true then (body δ S1).sat (fun f S' => match f with
      | .nx δ' => ∃ m, m < n ∧ I m δ' S'
      | .ct δ' => ∃ m, m < n ∧ I m δ' S'
      | .bk δ' => Q (.nx δ') S'
      | .rt d => Q (.rt d) S'
      | .ex e δ' => Q (.ex e δ') S') E else Q (.nx δ) S1) (fun e S1 => Q (.ex e δ) S1)) :
    ∀ (fuel n : Nat) (δ : Env) (S : Store), n < fuel → I n δ S → (whileLoop t body fuel δ S).sat Q E := by
  intro fuel
  induction fuel with
  | zero => intro n δ S h; omega
  | succ fuel ih =>
    intro n δ S hn hI
    unfold whileLoop
    rw [Res.sat_thenS]
    refine (step n δ S hI).mono fun c S1 h => ?_
    by_cases hc : c = true
    · rw [if_pos hc] at h ⊢
      rw [Res.sat_bind]
      refine h.mono fun f S' h => ?_
      cases f with
      | nx δ' => obtain ⟨m, hm, h⟩ := h; exact ih m δ' S' (by omega) h
      | ct δ' => obtain ⟨m, hm, h⟩ := h; exact ih m δ' S' (by omega) h
      | bk δ' => simpa using h
      | rt d => simpa using h
      | ex e δ' => simpa using h
    · rw [if_neg hc] at h ⊢
      simpa using h
theorem while_run {t : TM} {body : SM} {Q : Flow → Store → Prop} {E : Exc → Store → Prop} (I : Nat → Env → Store → Prop) (n : Nat) (hn : n ≤ 100000000) {δ : Env} {S : Store} (h0 : I n δ S)
    (step : ∀ n δ S, I n δ S → (t δ S).sat (fun c S1 => if c = true then (body δ S1).sat (fun f S' => match f with
      | .nx δ' => ∃ m, m < n ∧ I m δ' S'
      | .ct δ' => ∃ m, m < n ∧ I m δ' S'
      | .bk δ' => Q (.nx δ') S'
      | .rt d => Q (.rt d) S'
      | .ex e δ' => Q (.ex e δ') S') E else Q (.nx δ) S1) (fun e S1 => Q (.ex e δ) S1)) : (whileLoop t body FUEL δ S).sat Q E :=
  while_inv I step FUEL n δ S (Nat.lt_of_le_of_lt hn (by decide)) h0
/-- [elt for tg in xs] -/
theorem lc_inv {still : Store → Bool} {D₀ : Nat} {tg : Tgt} {tt : TM} {elt : EM} {xs : List D} {δ : Env} {S : Store} {Q : Unit → Store → Prop} (I : Nat → List D → Store → Prop)
    (h0 : I 0 [] S)
    (hs : ∀ k acc S, k ≤ xs.length → I k acc S → still S = true ∧ S[D₀]? = some (.lst acc) ∧ acc.length ≤ k) (hlen : xs.length ≤ LIM)
    (step : ∀ k (hk : k < xs.length) acc S, I k acc S → ∃ δ1, tg.put xs[k] δ = some δ1 ∧ (tt δ1 S).sat (fun b S1 => if b = true then (elt δ1 S1).sat (fun y S2 => S2[D₀]? = some (.lst acc) ∧ I (k + 1) (acc ++ [y]) (S2.set D₀ (.lst (acc ++ [y])))) else I (k + 1) acc S1))
    (hend : ∀ acc S, I xs.length acc S → Q () S) : (lcLoop still D₀ δ tg tt elt xs S).sat Q := by
  have main : ∀ (n k : Nat) (acc : List D) (S : Store), n + k = xs.length → I k acc S → (lcLoop still D₀ δ tg tt elt (xs.drop k) S).sat Q := by
    intro n
    induction n with
    | zero =>
      intro k acc S hk hI
      have e : k = xs.length := by omega
      subst e
      rw [List.drop_length]
      unfold lcLoop
      rw [if_pos (hs _ _ _ (Nat.le_refl _) hI).1]
      rw [Res.sat_ok]
      exact hend _ _ hI
    | succ n ih =>
      intro k acc S hk hI
      have hlt : k < xs.length := by omega
      rw [List.drop_eq_getElem_cons hlt]
      unfold lcLoop
      rw [if_pos (hs _ _ _ (by omega) hI).1]
      obtain ⟨δ1, e1, h1⟩ := step k hlt acc S hI
      rw [e1]
      simp only []
      rw [Res.sat_bind, Res.sat_nox]
      refine h1.mono fun b S1 h => ?_
      by_cases hb : b = true
      · rw [if_pos hb] at h ⊢
        rw [Res.sat_bind, Res.sat_nox]
        refine h.mono fun y S2 ⟨h2, h3⟩ => ?_
        rw [h2]
        simp only
        have hacc := (hs _ _ _ (by omega) hI).2.2
        rw [if_pos (by omega)]
        exact ih (k + 1) _ _ (by omega) h3
      · rw [if_neg hb] at h ⊢
        exact ih (k + 1) _ _ (by omega) h
  have := main xs.length 0 [] S (by omega) h0
  simpa using this
/-! frames -/
/-- but for what stands at xs, all is as it was -/
structure Fr (xs : List Nat) (S S' : Store) : Prop where
  le : S.length ≤ S'.length
  at_ : ∀ i, i < S.length → i ∉ xs → S'[i]? = S[i]?
theorem Fr.refl {xs : List Nat} {S : Store} : Fr xs S S := ⟨Nat.le_refl _, fun _ _ _ => rfl⟩
theorem Fr.trans {xs : List Nat} {S S1 S2 : Store} (a : Fr xs S S1) (b : Fr xs S1 S2) : Fr xs S S2 := ⟨Nat.le_trans a.le b.le, fun i h n => by rw [b.at_ i (Nat.lt_of_lt_of_le h a.le) n, a.at_ i h n]⟩
theorem Fr.mono {xs ys : List Nat} {S S' : Store} (a : Fr xs S S') (h : ∀ i ∈ xs, i ∈ ys) : Fr ys S S' := ⟨a.le, fun i hi n => a.at_ i hi fun z => n (h i z)⟩
theorem Fr.nil {ys : List Nat} {S S' : Store} (a : Fr [] S S') : Fr ys S S' := a.mono fun _ h => by cases h
/-- what was made within is of no account -/
theorem Fr.cut {xs ys : List Nat} {S S1 : Store} (a : Fr xs S S1) (h : ∀ i ∈ xs, i < S.length → i ∈ ys) : Fr ys S S1 := ⟨a.le, fun i hi n => a.at_ i hi fun z => n (h i z hi)⟩
theorem Fr.app {xs : List Nat} {S T : Store} : Fr xs S (S ++ T) := ⟨by simp, fun i h _ => by rw [List.getElem?_append_left h]⟩
theorem Fr.set {xs : List Nat} {S : Store} {i : Nat} {v : MO} (h : i ∈ xs) : Fr xs S (S.set i v) := ⟨by simp, fun j _ n => by rw [List.getElem?_set_ne (fun e : i = j => n (e ▸ h))]⟩
theorem Fr.get {xs : List Nat} {S S' : Store} {i : Nat} {v : MO} (a : Fr xs S S') (h : S[i]? = some v) (n : i ∉ xs) : S'[i]? = some v := by
  rw [a.at_ i (List.getElem?_eq_some_iff.mp h).1 n]; exact h
theorem Fr.set_new {xs : List Nat} {S S' : Store} {i : Nat} {v : MO} (a : Fr xs S S') (h : S.length ≤ i) : Fr xs S (S'.set i v) := ⟨by simpa using a.le, fun j hj n => by rw [List.getElem?_set_ne (by omega)]; exact a.at_ j hj n⟩
theorem Fr.push {xs : List Nat} {S S' T : Store} (a : Fr xs S S') : Fr xs S (S' ++ T) := a.trans .app
theorem lt_of_get {S : Store} {i : Nat} {v : MO} (h : S[i]? = some v) : i < S.length := (List.getElem?_eq_some_iff.mp h).1
@[scoped simp] theorem lcM_ap {own : List Nat} {src : IM} {tg : Tgt} {tt : TM} {elt : EM} {δ : Env} {S : Store} : lcM own src tg tt elt δ S = (src δ S).bind fun s S1 =>
  (lcLoop s.still S1.length (wipe δ own) tg tt elt s.items (S1 ++ [.lst []])).bind fun _ S2 => .ok (.ref S1.length) S2 := id rfl
/-- without an if -/
theorem lc_all {still : Store → Bool} {D₀ : Nat} {tg : Tgt} {elt : EM} {xs : List D} {δ : Env} {S : Store} {Q : Unit → Store → Prop} (J : Store → Prop) (P : Nat → D → Prop)
    (h0 : J S) (hD : S[D₀]? = some (.lst [])) (hJ : ∀ S v, J S → J (S.set D₀ v)) (hs : ∀ S, J S → still S = true) (hlen : xs.length ≤ LIM)
    (step : ∀ k (hk : k < xs.length) S acc, J S → S[D₀]? = some (.lst acc) → ∃ δ1, tg.put xs[k] δ = some δ1 ∧ (elt δ1 S).sat (fun y S2 => P k y ∧ J S2 ∧ S2[D₀]? = some (.lst acc)))
    (hend : ∀ (ys : List D) S, J S → S[D₀]? = some (.lst ys) → ys.length = xs.length → (∀ (k : Nat) (y : D), ys[k]? = some y → P k y) → Q () S) : (lcLoop still D₀ δ tg yesT elt xs S).sat Q := by
  refine lc_inv (fun k acc S => J S ∧ S[D₀]? = some (.lst acc) ∧ acc.length = k ∧ ∀ (k : Nat) (y : D), acc[k]? = some y → P k y) ⟨h0, hD, rfl, fun k y h => by simp at h⟩ ?_ hlen ?_ ?_
  · rintro k acc S _ ⟨h1, h2, h3, _⟩
    exact ⟨hs S h1, h2, by omega⟩
  · rintro k hk acc S ⟨h1, h2, h3, h4⟩
    obtain ⟨δ1, e1, h⟩ := step k hk S acc h1 h2
    refine ⟨δ1, e1, ?_⟩
    simp only [yesT_ap, Res.sat_ok, if_true]
    refine h.mono fun y S2 ⟨p, j, d⟩ => ⟨d, hJ _ _ j, ?_, by simp [h3], fun k' y' hy => ?_⟩
    · rw [List.getElem?_set_self (lt_of_get d)]
    · rw [List.getElem?_append] at hy
      split at hy
      · exact h4 k' y' hy
      · have e : k' = k := by
          by_cases z : k' - acc.length = 0
          · omega
          · rw [List.getElem?_eq_none (by simp; omega)] at hy
            cases hy
        subst e
        rw [h3, Nat.sub_self] at hy
        cases hy
        exact p
  · rintro acc S ⟨h1, h2, h3, h4⟩
    exact hend acc S h1 h2 h3 h4
theorem inP_strs {S : Store} {n : Nat} {x : Cs} {ws : List Cs} (h : S[n]? = some (.lst (ws.map D.str))) : inP [.str x, .ref n] S = .ok (.bl (decide (x ∈ ws))) S := by
  have e1 : ((ws.map D.str).all D.sc) = true := by simp [D.sc]
  have e2 : (D.str x).sc = true := rfl
  unfold inP
  simp only [lstAt_of h, e1, e2, Bool.and_self, Bool.true_or, if_true]
  congr 2
  rw [Bool.eq_iff_iff]
  simp [D.eqv]
theorem joinCs_nil (zs : List Cs) : joinCs [] zs = zs.flatten := by
  induction zs with
  | nil => rfl
  | cons x r ih =>
    cases r with
    | nil => simp [joinCs]
    | cons y r => simp [joinCs, ih]
theorem maxL_spec : ∀ (r : List Int) (a : Int), maxL a r ∈ a :: r ∧ ∀ x ∈ a :: r, x ≤ maxL a r := by
  intro r
  induction r with
  | nil => intro a; simp [maxL]
  | cons b r ih =>
    intro a
    unfold maxL
    obtain ⟨h1, h2⟩ := ih (if b > a then b else a)
    by_cases hb : b > a
    · rw [if_pos hb] at h1 h2 ⊢
      refine ⟨List.mem_cons_of_mem _ h1, fun x hx => ?_⟩
      rcases List.mem_cons.mp hx with rfl | hx
      · have := h2 b (by simp); omega
      · exact h2 x hx
    · rw [if_neg hb] at h1 h2 ⊢
      refine ⟨?_, fun x hx => ?_⟩
      · rcases List.mem_cons.mp h1 with h1 | h1
        · rw [h1]; simp
        · exact List.mem_cons_of_mem _ (List.mem_cons_of_mem _ h1)
      · rcases List.mem_cons.mp hx with rfl | hx
        · exact h2 x (by simp)
        · rcases List.mem_cons.mp hx with rfl | hx
          · have := h2 a (by simp); omega
          · exact h2 x (List.mem_cons_of_mem _ hx)
theorem ints_of {ys : List D} (h : ∀ (k : Nat) (y : D), ys[k]? = some y → ∃ z, y = D.int z) : ∃ zs : List Int, ys = zs.map D.int := by
  induction ys with
  | nil => exact ⟨[], rfl⟩
  | cons y r ih =>
    obtain ⟨z, rfl⟩ := h 0 y rfl
    obtain ⟨zs, rfl⟩ := ih fun k y hy => h (k + 1) y hy
    exact ⟨z :: zs, rfl⟩
theorem strs_of {P : Cs → Prop} {ys : List D} (h : ∀ (k : Nat) (y : D), ys[k]? = some y → ∃ z, y = D.str z ∧ P z) : ∃ zs : List Cs, ys = zs.map D.str ∧ ∀ z ∈ zs, P z := by
  induction ys with
  | nil => exact ⟨[], rfl, by simp⟩
  | cons y r ih =>
    obtain ⟨z, rfl, hz⟩ := h 0 y rfl
    obtain ⟨zs, rfl, hzs⟩ := ih fun k y hy => h (k + 1) y hy
    exact ⟨z :: zs, rfl, by simpa using ⟨hz, hzs⟩⟩
@[scoped simp] theorem always_ap {S : Store} : always S = true := id rfl
@[scoped simp] theorem isLst_ap {n : Nat} {xs : List D} {S : Store} : isLst n xs S = decide (lstAt S n = some xs) := id rfl
end DlM

end

section
set_option linter.all false
set_option Elab.async false
set_option maxRecDepth 100000
set_option linter.all false
set_option Elab.async false
/-! digits, slices, runs. Plain Lean. -/
namespace DlM
open Dl
theorem natCs_eq (n : Nat) : natCs n = if n < 10 then [48 + n] else natCs (n / 10) ++ [48 + n % 10] := by
  have dc : ∀ d, d < 10 → (Nat.digitChar d).toNat = 48 + d := by decide
  unfold natCs
  rw [Nat.toDigits_eq_if (by omega)]
  by_cases h : n < 10
  · rw [if_pos h, if_pos h]
    simp [dc n h]
  · rw [if_neg h, if_neg h]
    simp [dc (n % 10) (by omega)]
theorem natCs_digit (n : Nat) : ∀ c ∈ natCs n, 48 ≤ c ∧ c ≤ 57 := by
  induction n using Nat.strongRecOn with
  | _ n ih =>
    intro c hc
    rw [natCs_eq] at hc
    by_cases h : n < 10
    · rw [if_pos h] at hc
      rw [List.mem_singleton.mp hc]
      omega
    · rw [if_neg h] at hc
      rcases List.mem_append.mp hc with hc | hc
      · exact ih (n / 10) (by omega) c hc
      · rw [List.mem_singleton.mp hc]
        omega
theorem natCs_ne (n : Nat) : natCs n ≠ [] := by
  rw [natCs_eq]
  split <;> simp
theorem natCs_val (n : Nat) : digV (natCs n) = n := by
  induction n using Nat.strongRecOn with
  | _ n ih =>
    rw [natCs_eq]
    by_cases h : n < 10
    · rw [if_pos h]
      simp [digV]
    · rw [if_neg h]
      have e := ih (n / 10) (by omega)
      unfold digV at e ⊢
      rw [List.foldl_append, e]
      simp
      omega
theorem natCs_len {n k : Nat} (h0 : 0 < k) (h : n < 10 ^ k) : (natCs n).length ≤ k := by
  unfold natCs
  rw [List.length_map]
  exact (Nat.length_toDigits_le_iff (by omega) h0).mpr h
theorem natCs_head (n : Nat) (r : Cs) (h : natCs n = 48 :: r) : n = 0 := by
  induction n using Nat.strongRecOn generalizing r with
  | _ n ih =>
    rw [natCs_eq] at h
    by_cases h1 : n < 10
    · rw [if_pos h1] at h
      injection h with h2 h3
      omega
    · rw [if_neg h1] at h
      obtain ⟨c, t, e⟩ := List.exists_cons_of_ne_nil (natCs_ne (n / 10))
      rw [e] at h
      injection h with h2 h3
      have := ih (n / 10) (by omega) t (by rw [e, h2])
      omega
theorem natCs_zero : natCs 0 = [48] := by rw [natCs_eq]; rfl
theorem intCs_len {i : Int} {k : Nat} (h0 : 0 < k) (h : i.natAbs < 10 ^ k) : (intCs i).length ≤ k + 1 := by
  unfold intCs
  have := natCs_len h0 h
  split
  · simp; omega
  · omega
theorem csInt_intCs (i : Int) : csInt (intCs i) = some i := by
  have hd : (natCs i.natAbs).all isDigit = true := by
    rw [List.all_eq_true]
    intro c hc
    have := natCs_digit _ c hc
    simp [isDigit]
    omega
  unfold intCs
  by_cases h : i < 0
  · rw [if_pos h]
    unfold csInt
    simp only []
    rw [if_pos ⟨natCs_ne _, hd⟩, natCs_val]
    congr 1
    omega
  · rw [if_neg h]
    obtain ⟨c, t, e⟩ := List.exists_cons_of_ne_nil (natCs_ne i.natAbs)
    have hc := natCs_digit i.natAbs c (by rw [e]; simp)
    have e2 := natCs_val i.natAbs
    rw [e] at hd e2 ⊢
    unfold csInt
    split
    · rename_i z; cases z
    · rename_i z; injection z with z; omega
    · rename_i z
      injection z with z1 z2
      subst z1 z2
      rw [if_pos hd, e2]
      congr 1
      omega
theorem intCs_inj {i j : Int} (h : intCs i = intCs j) : i = j := by
  have := csInt_intCs i
  rw [h, csInt_intCs] at this
  exact (Option.some.inj this).symm
theorem intCs_ne (i : Int) : intCs i ≠ [] := by
  unfold intCs
  split
  · simp
  · exact natCs_ne _
/-! slices -/
theorem cut_is {α : Type} {x a b c : List α} {lo hi : Int} (hx : x = a ++ (b ++ c)) (hlo : lo = a.length) (hhi : hi = a.length + b.length) : cut x (some lo) (some hi) = b := by
  subst hx hlo
  have e : hi = ((a.length + b.length : Nat) : Int) := by omega
  rw [e, cut_nat _ _ _ (by simp)]
  simp
theorem atI_is {α : Type} {x a b : List α} {c : α} {i : Int} (hx : x = a ++ c :: b) (hi : i = a.length) : atI x i = some c := by
  subst hx hi
  exact atI_nat (by simp)
/-! runs -/
/-- so many at the beginning are of cs -/
def run (cs : Cs) : Cs → Nat
  | [] => 0
  | c :: r => if c ∈ cs then run cs r + 1 else 0
theorem run_le (cs : Cs) : ∀ y : Cs, run cs y ≤ y.length
  | [] => Nat.le_refl _
  | c :: r => by
    unfold run
    have := run_le cs r
    split
    · simp; omega
    · simp
theorem run_lt (cs : Cs) : ∀ (y : Cs) (j : Nat), j < run cs y → ∃ c, y[j]? = some c ∧ c ∈ cs
  | [], j, h => by simp [run] at h
  | c :: r, j, h => by
    unfold run at h
    by_cases hc : c ∈ cs
    · rw [if_pos hc] at h
      cases j with
      | zero => exact ⟨c, rfl, hc⟩
      | succ j =>
        obtain ⟨d, e1, e2⟩ := run_lt cs r j (by omega)
        exact ⟨d, by simpa using e1, e2⟩
    · rw [if_neg hc] at h
      omega
theorem run_stop (cs : Cs) : ∀ (y : Cs) (c : Nat), y[run cs y]? = some c → c ∉ cs
  | [], c, h => by simp at h
  | d :: r, c, h => by
    unfold run at h
    by_cases hc : d ∈ cs
    · rw [if_pos hc] at h
      exact run_stop cs r c (by simpa using h)
    · rw [if_neg hc] at h
      cases h
      exact hc
theorem run_app {cs w y : Cs} (hw : ∀ c ∈ w, c ∈ cs) (hy : ∀ c, y.head? = some c → c ∉ cs) : run cs (w ++ y) = w.length := by
  induction w with
  | nil =>
    cases y with
    | nil => rfl
    | cons c r =>
      show (if c ∈ cs then _ else _) = _
      rw [if_neg (hy c rfl)]
      rfl
  | cons c r ih =>
    show (if c ∈ cs then run cs (r ++ y) + 1 else 0) = _
    rw [if_pos (hw c (by simp)), ih fun d hd => hw d (List.mem_cons_of_mem _ hd)]
    rfl
theorem run_all {cs w y : Cs} (hw : ∀ c ∈ w, c ∈ cs) : run cs (w ++ y) = w.length + run cs y := by
  induction w with
  | nil => simp
  | cons c r ih =>
    show (if c ∈ cs then run cs (r ++ y) + 1 else 0) = _
    rw [if_pos (hw c (by simp)), ih fun d hd => hw d (List.mem_cons_of_mem _ hd)]
    simp; omega
theorem eq_of_sat {α : Type} {r : Res α} {v : α} {S : Store} (h : r.sat fun d S' => d = v ∧ S' = S) : r = .ok v S := by
  obtain ⟨a, S', e, h1, h2⟩ := Res.sat_iff.mp h
  rw [e, h1, h2]
end DlM

end

section
set_option linter.all false
set_option Elab.async false
set_option maxRecDepth 100000
set_option linter.all false
set_option Elab.async false
set_option maxRecDepth 100000
/-! the readings of the defs, printed by gen.py -/
namespace LW
open Dl
def d_DIGITS : D := .str [48, 49, 50, 51, 52, 53, 54, 55, 56, 57]
def d_SIGNS : D := .str [40, 41, 44, 124]
def d_LETTERS : D := .str [97, 98, 99, 100, 101, 102, 103, 104, 105, 106, 107, 108, 109, 110, 111, 112, 113, 114, 115, 116, 117, 118, 119, 120, 121, 122]
def d_HOWS : D := .tup [.str [97, 103, 111], .str [97, 104, 101, 97, 100], .str [111, 110, 99, 101], .str [115, 111, 111, 110], .str [97, 108, 119, 97, 121, 115], .str [104, 101, 110, 99, 101, 102, 111, 114, 116, 104]]
def d_BOUNDED : D := .tup [.str [97, 103, 111], .str [97, 104, 101, 97, 100]]
def d_TESTS : D := .tup [.str [108, 101, 115, 115], .str [117, 110, 108, 105, 107, 101]]
/-- slots: 0 schema, 1 name, 2 table -/
def F_table_of : FM := defM 2 3 (blkS [(forS (seqI (varM 0)) (.nm 2) (blkS [(ifS (tbM (callM eqP [(callM ixP [(varM 2), (conM (.int 0))]), (varM 1)])) (blkS [(retS (varM 2))]) (blkS []))])), (retS (conM .non))])
/-- slots: 0 line, 1 at, 2 chars, 3 end -/
def F_run_end : FM := defM 3 4 (blkS [(setS (.nm 3) (varM 1)), (whileS (andT (tbM (callM ltP [(varM 3), (callM lenP [(varM 0)])])) (tbM (callM inP [(callM ixP [(varM 0), (varM 3)]), (varM 2)]))) (blkS [(augS 3 addIS (conM (.int 1)))])), (retS (varM 3))])
/-- slots: 0 line, 1 at, 2 first, 3 end -/
def F_integer_at : FM := defM 2 4 (blkS [(setS (.nm 2) (ifM (tbM (callM eqP [(callM ixP [(varM 0), (varM 1)]), (conM (.str [45]))])) (callM addP [(varM 1), (conM (.int 1))]) (varM 1))), (setS (.nm 3) (callM F_run_end [(varM 0), (varM 2), (conM d_DIGITS)])), (ifS (orT (tbM (callM eqP [(varM 2), (varM 3)])) (andT (tbM (callM eqP [(callM ixP [(varM 0), (varM 2)]), (conM (.str [48]))])) (tbM (callM gtP [(callM subP [(varM 3), (varM 1)]), (conM (.int 1))])))) (blkS [(retS (callM tupP [(conM (.str [])), (conM (.int 0)), (varM 1)]))]) (blkS [])), (retS (callM tupP [(conM (.str [105, 110, 116, 101, 103, 101, 114])), (callM intP [(sliceM (varM 0) (some (varM 1)) (some (varM 3)))]), (varM 3)]))])
/-- slots: 0 line, 1 at, 2 char, 3 end -/
def F_token_at : FM := defM 2 4 (blkS [(setS (.nm 2) (callM ixP [(varM 0), (varM 1)])), (ifS (tbM (callM inP [(varM 2), (conM d_SIGNS)])) (blkS [(retS (callM tupP [(varM 2), (varM 2), (callM addP [(varM 1), (conM (.int 1))])]))]) (blkS [])), (ifS (tbM (callM inP [(varM 2), (conM d_LETTERS)])) (blkS [(setS (.nm 3) (callM F_run_end [(varM 0), (varM 1), (conM d_LETTERS)])), (retS (callM tupP [(conM (.str [119, 111, 114, 100])), (sliceM (varM 0) (some (varM 1)) (some (varM 3))), (varM 3)]))]) (blkS [])), (ifS (tbM (callM neP [(varM 2), (conM (.str [34]))])) (blkS [(retS (callM F_integer_at [(varM 0), (varM 1)]))]) (blkS [])), (setS (.nm 3) (callM F_run_end [(varM 0), (callM addP [(varM 1), (conM (.int 1))]), (conM d_LETTERS)])), (ifS (orT (tbM (callM eqP [(varM 3), (callM addP [(varM 1), (conM (.int 1))])])) (tbM (callM neP [(sliceM (varM 0) (some (varM 3)) (some (callM addP [(varM 3), (conM (.int 1))]))), (conM (.str [34]))]))) (blkS [(retS (callM tupP [(conM (.str [])), (conM (.int 0)), (varM 1)]))]) (blkS [])), (retS (callM tupP [(conM (.str [113, 117, 111, 116, 101, 100])), (sliceM (varM 0) (some (callM addP [(varM 1), (conM (.int 1))])) (some (varM 3))), (callM addP [(varM 3), (conM (.int 1))])]))])
/-- slots: 0 line, 1 tokens, 2 at, 3 kind, 4 value, 5 end -/
def F_tokens_of : FM := defM 1 6 (blkS [(setS (.nm 1) (callM lstP [])), (setS (.nm 2) (callM F_run_end [(varM 0), (conM (.int 0)), (conM (.str [32]))])), (whileS (tbM (callM ltP [(varM 2), (callM lenP [(varM 0)])])) (blkS [(setS (.tp [3, 4, 5]) (callM F_token_at [(varM 0), (varM 2)])), (exprS (methM "list" appendP (varM 1) [(callM tupP [(varM 2), (varM 3), (varM 4)])])), (ifS (tbM (callM eqP [(varM 3), (conM (.str []))])) (blkS [(retS (varM 1))]) (blkS [])), (setS (.nm 2) (callM F_run_end [(varM 0), (varM 5), (conM (.str [32]))]))])), (exprS (methM "list" appendP (varM 1) [(callM tupP [(callM lenP [(varM 0)]), (conM (.str [101, 110, 100])), (conM (.int 0))])])), (retS (varM 1))])
/-- slots: 0 self, 1 text, 2 number -/
def F_Line___init__ : FM := defM 3 3 (blkS [(exprS (callM (putFP "Line" "number") [(varM 2), (varM 0)])), (exprS (callM (putFP "Line" "tokens") [(callM F_tokens_of [(varM 1)]), (varM 0)])), (exprS (callM (putFP "Line" "many") [(conM (.int 0)), (varM 0)]))])
/-- slots: 0 self -/
def F_Line_kind : FM := defM 1 1 (blkS [(retS (callM ixP [(callM ixP [(callM (fldP "Line" "tokens") [(varM 0)]), (callM (fldP "Line" "many") [(varM 0)])]), (conM (.int 1))]))])
/-- slots: 0 self -/
def F_Line_value : FM := defM 1 1 (blkS [(retS (callM ixP [(callM ixP [(callM (fldP "Line" "tokens") [(varM 0)]), (callM (fldP "Line" "many") [(varM 0)])]), (conM (.int 2))]))])
/-- slots: 0 self -/
def F_Line_word : FM := defM 1 1 (blkS [(ifS (tbM (callM eqP [(methI "Line" "kind" F_Line_kind (varM 0) []), (conM (.str [119, 111, 114, 100]))])) (blkS [(retS (methI "Line" "value" F_Line_value (varM 0) []))]) (blkS [])), (retS (conM (.str [])))])
/-- slots: 0 self -/
def F_Line_behind : FM := defM 1 1 (blkS [(retS (sliceM (callM ixP [(callM (fldP "Line" "tokens") [(varM 0)]), (callM addP [(callM (fldP "Line" "many") [(varM 0)]), (conM (.int 1))])]) (some (conM (.int 1))) none))])
/-- slots: 0 self -/
def F_Line_refuse : FM := defM 1 1 (blkS [neverS])
/-- slots: 0 self, 1 kind, 2 value -/
def F_Line_take : FM := defM 2 3 (blkS [(ifS (tbM (callM neP [(methI "Line" "kind" F_Line_kind (varM 0) []), (varM 1)])) (blkS [(exprS (methI "Line" "refuse" F_Line_refuse (varM 0) []))]) (blkS [])), (setS (.nm 2) (methI "Line" "value" F_Line_value (varM 0) [])), (exprS (callM (augFP "Line" "many") [(varM 0), conM (.int 1)])), (retS (varM 2))])
/-- slots: 0 self, 1 words -/
def F_Line_take_one : FM := defM 2 2 (blkS [(ifS (tbM (callM notInP [(methI "Line" "word" F_Line_word (varM 0) []), (varM 1)])) (blkS [(exprS (methI "Line" "refuse" F_Line_refuse (varM 0) []))]) (blkS [])), (retS (methI "Line" "take" F_Line_take (varM 0) [(conM (.str [119, 111, 114, 100]))]))])
/-- slots: 0 self, 1 least -/
def F_Line_take_integer : FM := defM 2 2 (blkS [(ifS (andT (tbM (callM eqP [(methI "Line" "kind" F_Line_kind (varM 0) []), (conM (.str [105, 110, 116, 101, 103, 101, 114]))])) (tbM (callM ltP [(methI "Line" "value" F_Line_value (varM 0) []), (varM 1)]))) (blkS [(exprS (methI "Line" "refuse" F_Line_refuse (varM 0) []))]) (blkS [])), (retS (methI "Line" "take" F_Line_take (varM 0) [(conM (.str [105, 110, 116, 101, 103, 101, 114]))]))])
/-- slots: 0 self -/
def F_Line_take_value : FM := defM 1 1 (blkS [(ifS (tbM (callM notInP [(methI "Line" "kind" F_Line_kind (varM 0) []), (callM tupP [(conM (.str [105, 110, 116, 101, 103, 101, 114])), (conM (.str [113, 117, 111, 116, 101, 100]))])])) (blkS [(exprS (methI "Line" "refuse" F_Line_refuse (varM 0) []))]) (blkS [])), (retS (methI "Line" "take" F_Line_take (varM 0) [(methI "Line" "kind" F_Line_kind (varM 0) [])]))])
/-- slots: 0 self -/
def F_Line_take_term : FM := defM 1 1 (blkS [(ifS (tbM (callM eqP [(methI "Line" "kind" F_Line_kind (varM 0) []), (conM (.str [119, 111, 114, 100]))])) (blkS [(retS (callM tupP [(conM (.str [118, 97, 114])), (methI "Line" "take" F_Line_take (varM 0) [(conM (.str [119, 111, 114, 100]))])]))]) (blkS [])), (retS (callM tupP [(conM (.str [118, 97, 108, 117, 101])), (methI "Line" "take_value" F_Line_take_value (varM 0) [])]))])
/-- slots: 0 line -/
def F_take_term : FM := defM 1 1 (blkS [(retS (methI "Line" "take_term" F_Line_take_term (varM 0) []))])
def hs_F_take_places : List (String × FM) := [("take_term", F_take_term)]
/-- slots: 0 line, 1 count, 2 take_place, 3 places, 4 at -/
def F_take_places : FM := defM 3 5 (blkS [(setS (.nm 3) (callM lstP [])), (forS (rangeI [(varM 1)]) (.nm 4) (blkS [(ifS (tbM (callM gtP [(varM 4), (conM (.int 0))])) (blkS [(exprS (methI "Line" "take" F_Line_take (varM 0) [(conM (.str [44]))]))]) (blkS [])), (exprS (methM "list" appendP (varM 3) [(callV 2 hs_F_take_places [(varM 0)])]))])), (retS (varM 3))])
/-- slots: 0 line, 1 table, 2 take_place, 3 key, 4 others -/
def F_take_cells : FM := defM 3 5 (blkS [(exprS (methI "Line" "take" F_Line_take (varM 0) [(conM (.str [40]))])), (setS (.nm 3) (callM F_take_places [(varM 0), (callM ixP [(varM 1), (conM (.int 1))]), (varM 2)])), (exprS (methI "Line" "take" F_Line_take (varM 0) [(conM (.str [124]))])), (setS (.nm 4) (callM F_take_places [(varM 0), (callM ixP [(varM 1), (conM (.int 2))]), (varM 2)])), (exprS (methI "Line" "take" F_Line_take (varM 0) [(conM (.str [41]))])), (retS (callM tupleP [(callM addP [(varM 3), (varM 4)])]))])
/-- slots: 0 line, 1 terms -/
def F_take_plain : FM := defM 1 2 (blkS [(exprS (methI "Line" "take" F_Line_take (varM 0) [(conM (.str [40]))])), (setS (.nm 1) (callM lstP [])), (ifS (tbM (callM neP [(methI "Line" "kind" F_Line_kind (varM 0) []), (conM (.str [41]))])) (blkS [(exprS (methM "list" appendP (varM 1) [(methI "Line" "take_term" F_Line_take_term (varM 0) [])])), (whileS (tbM (callM eqP [(methI "Line" "kind" F_Line_kind (varM 0) []), (conM (.str [44]))])) (blkS [(exprS (methI "Line" "take" F_Line_take (varM 0) [(conM (.str [44]))])), (exprS (methM "list" appendP (varM 1) [(methI "Line" "take_term" F_Line_take_term (varM 0) [])]))]))]) (blkS [])), (exprS (methI "Line" "take" F_Line_take (varM 0) [(conM (.str [41]))])), (retS (callM tupleP [(varM 1)]))])
/-- slots: 0 line, 1 schema, 2 how, 3 name, 4 table -/
def F_take_atom : FM := defM 3 5 (blkS [(setS (.nm 3) (methI "Line" "take" F_Line_take (varM 0) [(conM (.str [119, 111, 114, 100]))])), (setS (.nm 4) (callM F_table_of [(varM 1), (varM 3)])), (ifS (tbM (callM isNonP [(varM 4)])) (blkS [(retS (callM tupP [(conM (.str [97, 116, 111, 109])), (varM 2), (varM 3), (callM F_take_plain [(varM 0)])]))]) (blkS [])), (retS (callM tupP [(conM (.str [97, 116, 111, 109])), (varM 2), (varM 3), (callM F_take_cells [(varM 0), (varM 4), (conM (.fn "take_term"))])]))])
/-- slots: 0 line, 1 word -/
def F_take_how : FM := defM 1 2 (blkS [(setS (.nm 1) (methI "Line" "take" F_Line_take (varM 0) [(conM (.str [119, 111, 114, 100]))])), (ifS (tbM (callM notInP [(varM 1), (conM d_HOWS)])) (blkS [(exprS (methI "Line" "refuse" F_Line_refuse (varM 0) []))]) (blkS [])), (ifS (tbM (callM eqP [(methI "Line" "kind" F_Line_kind (varM 0) []), (conM (.str [105, 110, 116, 101, 103, 101, 114]))])) (blkS [(retS (callM tupP [(varM 1), (methI "Line" "take_integer" F_Line_take_integer (varM 0) [(conM (.int 0))])]))]) (blkS [])), (ifS (tbM (callM inP [(varM 1), (conM d_BOUNDED)])) (blkS [(exprS (methI "Line" "refuse" F_Line_refuse (varM 0) []))]) (blkS [])), (exprS (methI "Line" "take" F_Line_take (varM 0) [(conM (.str [119, 111, 114, 100]))])), (retS (callM tupP [(varM 1), (conM .non)]))])
/-- slots: 0 line, 1 term, 2 kind -/
def F_take_test : FM := defM 1 3 (blkS [(setS (.nm 1) (methI "Line" "take_term" F_Line_take_term (varM 0) [])), (setS (.nm 2) (methI "Line" "take_one" F_Line_take_one (varM 0) [(conM d_TESTS)])), (retS (callM tupP [(varM 2), (varM 1), (methI "Line" "take_term" F_Line_take_term (varM 0) [])]))])
/-- slots: 0 line, 1 schema, 2 second, 3 how -/
def F_take_literal : FM := defM 2 4 (blkS [(ifS (tbM (callM neP [(methI "Line" "kind" F_Line_kind (varM 0) []), (conM (.str [119, 111, 114, 100]))])) (blkS [(retS (callM F_take_test [(varM 0)]))]) (blkS [])), (setS (.nm 2) (methI "Line" "behind" F_Line_behind (varM 0) [])), (ifS (tbM (callM eqP [(callM ixP [(varM 2), (conM (.int 0))]), (conM (.str [40]))])) (blkS [(retS (callM F_take_atom [(varM 0), (varM 1), (callM tupP [(conM (.str [110, 111, 119]))])]))]) (blkS [])), (ifS (orT (tbM (callM eqP [(callM ixP [(varM 2), (conM (.int 0))]), (conM (.str [105, 110, 116, 101, 103, 101, 114]))])) (tbM (callM eqP [(varM 2), (callM tupP [(conM (.str [119, 111, 114, 100])), (conM (.str [101, 118, 101, 114]))])]))) (blkS [(setS (.nm 3) (callM F_take_how [(varM 0)])), (retS (callM F_take_atom [(varM 0), (varM 1), (varM 3)]))]) (blkS [])), (retS (callM F_take_test [(varM 0)]))])
/-- slots: 0 line, 1 schema, 2 literals -/
def F_take_body : FM := defM 2 3 (blkS [(ifS (andT (tbM (callM eqP [(methI "Line" "word" F_Line_word (varM 0) []), (conM (.str [116, 114, 117, 101]))])) (tbM (callM eqP [(callM ixP [(methI "Line" "behind" F_Line_behind (varM 0) []), (conM (.int 0))]), (conM (.str [101, 110, 100]))]))) (blkS [(exprS (methI "Line" "take" F_Line_take (varM 0) [(conM (.str [119, 111, 114, 100]))])), (retS (callM tupP []))]) (blkS [])), (setS (.nm 2) (callM lstP [(callM F_take_literal [(varM 0), (varM 1)])])), (whileS (tbM (callM eqP [(methI "Line" "kind" F_Line_kind (varM 0) []), (conM (.str [44]))])) (blkS [(exprS (methI "Line" "take" F_Line_take (varM 0) [(conM (.str [44]))])), (exprS (methM "list" appendP (varM 2) [(callM F_take_literal [(varM 0), (varM 1)])]))])), (retS (callM tupleP [(varM 2)]))])
/-- slots: 0 line, 1 schema, 2 name, 3 terms -/
def F_take_rule : FM := defM 2 4 (blkS [(ifS (tbM (callM notNonP [(callM F_table_of [(varM 1), (methI "Line" "word" F_Line_word (varM 0) [])])])) (blkS [(exprS (methI "Line" "refuse" F_Line_refuse (varM 0) []))]) (blkS [])), (setS (.nm 2) (methI "Line" "take" F_Line_take (varM 0) [(conM (.str [119, 111, 114, 100]))])), (setS (.nm 3) (callM F_take_plain [(varM 0)])), (exprS (methI "Line" "take_one" F_Line_take_one (varM 0) [(callM tupP [(conM (.str [105, 102]))])])), (retS (callM tupP [(varM 2), (varM 3), (callM F_take_body [(varM 0), (varM 1)])]))])
/-- slots: 0 schema, 1 text, 2 line, 3 rule -/
def F_read_rule : FM := defM 2 4 (blkS [(setS (.nm 2) (makeM "Line" F_Line___init__ [(varM 1), (conM (.int 0))])), (setS (.nm 3) (callM F_take_rule [(varM 2), (varM 0)])), (exprS (methI "Line" "take" F_Line_take (varM 2) [(conM (.str [101, 110, 100]))])), (retS (varM 3))])
/-- slots: 0 value -/
def F_write_value : FM := defM 1 1 (blkS [(ifS (tbM (callM (isP ["int"]) [(varM 0)])) (blkS [(retS (callM strP [(varM 0)]))]) (blkS [])), (retS (callM addP [(callM addP [(conM (.str [34])), (varM 0)]), (conM (.str [34]))]))])
/-- slots: 0 name, 1 key, 2 others, 3 left, 4 right -/
def F_write_cells : FM := defM 3 5 (blkS [(setS (.nm 3) (methM "str" joinP (conM (.str [44, 32])) [(varM 1)])), (setS (.nm 4) (methM "str" joinP (conM (.str [44, 32])) [(varM 2)])), (ifS (tbM (callM gtP [(callM lenP [(varM 1)]), (conM (.int 0))])) (blkS [(setS (.nm 3) (callM addP [(varM 3), (conM (.str [32]))]))]) (blkS [])), (ifS (tbM (callM gtP [(callM lenP [(varM 2)]), (conM (.int 0))])) (blkS [(setS (.nm 4) (callM addP [(conM (.str [32])), (varM 4)]))]) (blkS [])), (retS (catM [] [(callM fmtP [(varM 0)]), (conM (.str [40])), (callM fmtP [(varM 3)]), (conM (.str [124])), (callM fmtP [(varM 4)]), (conM (.str [41]))]))])
/-- slots: 0 term, 1 kind, 2 worth -/
def F_write_term : FM := defM 1 3 (blkS [(setS (.tp [1, 2]) (varM 0)), (ifS (tbM (callM eqP [(varM 1), (conM (.str [118, 97, 114]))])) (blkS [(retS (varM 2))]) (blkS [])), (retS (callM F_write_value [(varM 2)]))])
/-- slots: 0 name, 1 terms, 2 inside, 3 term -/
def F_write_plain : FM := defM 2 4 (blkS [(setS (.nm 2) (methM "str" joinP (conM (.str [44, 32])) [(lcM [3] (seqI (varM 1)) (.nm 3) yesT (callM F_write_term [(varM 3)]))])), (retS (catM [] [(callM fmtP [(varM 0)]), (conM (.str [40])), (callM fmtP [(varM 2)]), (conM (.str [41]))]))])
/-- slots: 0 how, 1 word, 2 n -/
def F_write_how : FM := defM 1 3 (blkS [(ifS (tbM (callM eqP [(varM 0), (callM tupP [(conM (.str [110, 111, 119]))])])) (blkS [(retS (conM (.str [])))]) (blkS [])), (setS (.tp [1, 2]) (varM 0)), (ifS (tbM (callM isNonP [(varM 2)])) (blkS [(retS (catM [] [(callM fmtP [(varM 1)]), (conM (.str [32, 101, 118, 101, 114, 32]))]))]) (blkS [])), (retS (catM [] [(callM fmtP [(varM 1)]), (conM (.str [32])), (callM fmtP [(varM 2)]), (conM (.str [32]))]))])
/-- slots: 0 schema, 1 atom, 2 how, 3 name, 4 terms, 5 table, 6 texts, 7 term -/
def F_write_atom : FM := defM 2 8 (blkS [(setS (.tp [2, 3, 4]) (sliceM (varM 1) (some (conM (.int 1))) none)), (setS (.nm 5) (callM F_table_of [(varM 0), (varM 3)])), (ifS (tbM (callM isNonP [(varM 5)])) (blkS [(retS (callM addP [(callM F_write_how [(varM 2)]), (callM F_write_plain [(varM 3), (varM 4)])]))]) (blkS [])), (setS (.nm 6) (lcM [7] (seqI (varM 4)) (.nm 7) yesT (callM F_write_term [(varM 7)]))), (retS (callM addP [(callM F_write_how [(varM 2)]), (callM F_write_cells [(varM 3), (sliceM (varM 6) none (some (callM ixP [(varM 5), (conM (.int 1))]))), (sliceM (varM 6) (some (callM ixP [(varM 5), (conM (.int 1))])) none)])]))])
/-- slots: 0 schema, 1 literal, 2 kind, 3 term, 4 other -/
def F_write_literal : FM := defM 2 5 (blkS [(ifS (tbM (callM eqP [(callM ixP [(varM 1), (conM (.int 0))]), (conM (.str [97, 116, 111, 109]))])) (blkS [(retS (callM F_write_atom [(varM 0), (varM 1)]))]) (blkS [])), (setS (.tp [2, 3, 4]) (varM 1)), (retS (catM [] [(callM fmtP [(callM F_write_term [(varM 3)])]), (conM (.str [32])), (callM fmtP [(varM 2)]), (conM (.str [32])), (callM fmtP [(callM F_write_term [(varM 4)])])]))])
/-- slots: 0 schema, 1 rule, 2 name, 3 terms, 4 body, 5 inside, 6 literal -/
def F_write_rule : FM := defM 2 7 (blkS [(setS (.tp [2, 3, 4]) (varM 1)), (setS (.nm 5) (conM (.str [116, 114, 117, 101]))), (ifS (tbM (callM gtP [(callM lenP [(varM 4)]), (conM (.int 0))])) (blkS [(setS (.nm 5) (methM "str" joinP (conM (.str [44, 32])) [(lcM [6] (seqI (varM 4)) (.nm 6) yesT (callM F_write_literal [(varM 0), (varM 6)]))]))]) (blkS [])), (retS (catM [] [(callM fmtP [(callM F_write_plain [(varM 2), (varM 3)])]), (conM (.str [32, 105, 102, 32])), (callM fmtP [(varM 5)])]))])
/-- slots: 0 script, 1 many, 2 cells, 3 left, 4 draws, 5 k, 6 place, 7 mixed, 8 cell -/
def F__law_draws : FM := defM 2 9 (blkS [(setS (.nm 2) (lcM [8] (seqI (varM 0)) (.nm 8) yesT (callM intP [(varM 8)]))), (ifS (tbM (callM eqP [(callM lenP [(varM 2)]), (conM (.int 0))])) (blkS [(exprS (methM "list" appendP (varM 2) [(conM (.int 0))]))]) (blkS [])), (setS (.nm 3) (callM listP [(varM 2)])), (setS (.nm 4) (callM lstP [])), (forS (rangeI [(varM 1)]) (.nm 5) (blkS [(setS (.nm 6) (callM modP [(varM 5), (callM lenP [(varM 2)])])), (ifS (tbM (callM geP [(callM ixP [(varM 2), (varM 6)]), (callM powP [(conM (.int 10)), (conM (.int 18))])])) (blkS [(exprS (methM "list" appendP (varM 4) [(callM modP [(callM intP [(callM ixP [(varM 3), (varM 6)])]), (conM (.int 1000))])])), (exprS (callM putLP [(callM fdivP [(callM ixP [(varM 3), (varM 6)]), (conM (.int 1000))]), (varM 3), (varM 6)]))]) (blkS [(setS (.nm 7) (callM modP [(callM intP [(callM addP [(callM addP [(callM mulP [(callM ixP [(varM 2), (varM 6)]), (conM (.int 48271))]), (callM mulP [(varM 5), (conM (.int 69621))])]), (conM (.int 11))])]), (conM (.int 2147483647))])), (exprS (methM "list" appendP (varM 4) [(callM modP [(callM intP [(callM addP [(callM addP [(callM mulP [(varM 7), (varM 7)]), (callM mulP [(conM (.int 3)), (varM 7)])]), (varM 5)])]), (conM (.int 1000003))])]))]))])), (exprS (methM "list" reverseP (varM 4) [])), (retS (varM 4))])
/-- slots: 0 draws, 1 many -/
def F__law_take : FM := defM 2 2 (blkS [(ifS (tbM (callM eqP [(callM lenP [(varM 0)]), (conM (.int 0))])) (blkS [(retS (conM (.int 0)))]) (blkS [])), (retS (callM modP [(callM intP [(methM "list" popP (varM 0) [])]), (varM 1)]))])
/-- slots: 0 draws, 1 row -/
def F__law_pick : FM := defM 2 2 (blkS [(retS (callM ixP [(varM 1), (callM F__law_take [(varM 0), (callM lenP [(varM 1)])])]))])
/-- slots: 0 actual, 1 due, 2 k -/
def F__law_same : Nat → FM
  | 0 => fun _ _ => .stuck
  | n + 1 => defM 2 3 (blkS [(ifS (tbM (callM (isP ["tuple", "list"]) [(varM 1)])) (blkS [(ifS (orT (tbM (callM neP [(callM (isP ["tuple"]) [(varM 0)]), (callM (isP ["tuple"]) [(varM 1)])])) (tbM (callM neP [(callM (isP ["list"]) [(varM 0)]), (callM (isP ["list"]) [(varM 1)])]))) (blkS [(retS (conM (.bl false)))]) (blkS [])), (ifS (tbM (callM neP [(callM lenP [(varM 0)]), (callM lenP [(varM 1)])])) (blkS [(retS (conM (.bl false)))]) (blkS [])), (retS (callM notInP [(conM (.bl false)), (lcM [2] (rangeI [(callM lenP [(varM 1)])]) (.nm 2) yesT (callM (F__law_same n) [(callM ixP [(varM 0), (varM 2)]), (callM ixP [(varM 1), (varM 2)])]))]))]) (blkS [])), (ifS (orT (tbM (callM neP [(callM (isP ["bool"]) [(varM 0)]), (callM (isP ["bool"]) [(varM 1)])])) (tbM (callM neP [(callM (isP ["int"]) [(varM 0)]), (callM (isP ["int"]) [(varM 1)])]))) (blkS [(retS (conM (.bl false)))]) (blkS [])), (ifS (orT (tbM (callM neP [(callM (isP ["str"]) [(varM 0)]), (callM (isP ["str"]) [(varM 1)])])) (tbM (callM neP [(callM isNonP [(varM 0)]), (callM isNonP [(varM 1)])]))) (blkS [(retS (conM (.bl false)))]) (blkS [])), (retS (callM eqP [(varM 0), (varM 1)]))])
/-- slots: 0 draws, 1 many, 2 words, 3 k, 4 size, 5 word, 6 j, 7 other -/
def F__law_words : FM := defM 2 8 (blkS [(setS (.nm 2) (callM lstP [])), (forS (rangeI [(varM 1)]) (.nm 3) (blkS [(setS (.nm 4) (callM addP [(conM (.int 1)), (callM F__law_take [(varM 0), (conM (.int 3))])])), (ifS (tbM (callM eqP [(callM F__law_take [(varM 0), (conM (.int 9))]), (conM (.int 0))])) (blkS [(setS (.nm 4) (callM addP [(callM addP [(varM 4), (conM (.int 3))]), (callM F__law_take [(varM 0), (conM (.int 20))])]))]) (blkS [])), (setS (.nm 5) (methM "str" joinP (conM (.str [])) [(lcM [6] (rangeI [(varM 4)]) (.nm 6) yesT (callM ixP [(conM (.str [97, 98, 99, 100, 101, 102, 103, 104, 105, 106, 107, 108, 109, 110, 111, 112, 113, 114, 115, 116, 117, 118, 119, 120, 121, 122])), (callM F__law_take [(varM 0), (conM (.int 26))])]))])), (ifS (tbM (callM inP [(varM 5), (varM 2)])) (blkS [(setS (.nm 5) (callM mulP [(conM (.str [122])), (callM addP [(conM (.int 1)), (callM maxP [(lcM [7] (seqI (varM 2)) (.nm 7) yesT (callM lenP [(varM 7)]))])])]))]) (blkS [])), (exprS (methM "list" appendP (varM 2) [(varM 5)]))])), (retS (varM 2))])
/-- slots: 0 draws, 1 kind -/
def F__law_how : FM := defM 1 2 (blkS [(ifS (tbM (callM eqP [(callM F__law_take [(varM 0), (conM (.int 2))]), (conM (.int 0))])) (blkS [(retS (callM tupP [(conM (.str [110, 111, 119]))]))]) (blkS [])), (setS (.nm 1) (callM ixP [(callM lstP [(conM (.str [111, 110, 99, 101])), (conM (.str [97, 108, 119, 97, 121, 115])), (conM (.str [97, 103, 111])), (conM (.str [97, 104, 101, 97, 100])), (conM (.str [115, 111, 111, 110])), (conM (.str [104, 101, 110, 99, 101, 102, 111, 114, 116, 104]))]), (callM F__law_take [(varM 0), (conM (.int 6))])])), (ifS (andT (tbM (callM notInP [(varM 1), (callM lstP [(conM (.str [97, 103, 111])), (conM (.str [97, 104, 101, 97, 100]))])])) (tbM (callM eqP [(callM F__law_take [(varM 0), (conM (.int 5))]), (conM (.int 0))]))) (blkS [(retS (callM tupP [(varM 1), (conM .non)]))]) (blkS [])), (retS (callM tupP [(varM 1), (callM F__law_take [(varM 0), (conM (.int 4))])]))])
/-- slots: 0 draws, 1 variables, 2 values -/
def F__law_term : FM := defM 3 3 (blkS [(ifS (tbM (callM eqP [(callM F__law_take [(varM 0), (conM (.int 5))]), (conM (.int 0))])) (blkS [(retS (callM tupP [(conM (.str [118, 97, 108, 117, 101])), (callM F__law_pick [(varM 0), (varM 2)])]))]) (blkS [])), (retS (callM tupP [(conM (.str [118, 97, 114])), (callM F__law_pick [(varM 0), (varM 1)])]))])
/-- slots: 0 draws, 1 number, 2 k -/
def F__law_great_number : FM := defM 1 3 (blkS [(setS (.nm 1) (conM (.int 0))), (forS (rangeI [(callM ixP [(callM lstP [(conM (.int 1)), (conM (.int 2)), (conM (.int 6)), (conM (.int 19))]), (callM F__law_take [(varM 0), (conM (.int 4))])])]) (.nm 2) (blkS [(setS (.nm 1) (callM addP [(callM mulP [(varM 1), (conM (.int 1000))]), (callM F__law_take [(varM 0), (conM (.int 1000))])]))])), (ifS (tbM (callM eqP [(callM F__law_take [(varM 0), (conM (.int 3))]), (conM (.int 1))])) (blkS [(retS (callM subP [(conM (.int 0)), (varM 1)]))]) (blkS [])), (retS (varM 1))])
/-- slots: 0 draws, 1 words -/
def F__law_text_value : FM := defM 2 2 (blkS [(ifS (tbM (callM eqP [(callM F__law_take [(varM 0), (conM (.int 2))]), (conM (.int 0))])) (blkS [(retS (callM F__law_pick [(varM 0), (varM 1)]))]) (blkS [])), (retS (callM F__law_great_number [(varM 0)]))])
/-- slots: 0 value -/
def F__law_value_text : FM := defM 1 1 (blkS [(ifS (tbM (callM (isP ["str"]) [(varM 0)])) (blkS [(retS (callM addP [(callM addP [(conM (.str [34])), (varM 0)]), (conM (.str [34]))]))]) (blkS [])), (retS (callM strP [(varM 0)]))])
/-- slots: 0 texts, 1 sign, 2 found, 3 k -/
def F__law_between : FM := defM 2 4 (blkS [(setS (.nm 2) (callM lstP [])), (forS (rangeI [(callM lenP [(varM 0)])]) (.nm 3) (blkS [(ifS (tbM (callM gtP [(varM 3), (conM (.int 0))])) (blkS [(exprS (methM "list" appendP (varM 2) [(varM 1)]))]) (blkS [])), (exprS (methM "list" appendP (varM 2) [(callM ixP [(varM 0), (varM 3)])]))])), (retS (varM 2))])
/-- slots: 0 name, 1 cells, 2 key, 3 found -/
def F__law_cells_texts : FM := defM 3 4 (blkS [(ifS (tbM (callM ltP [(varM 2), (conM (.int 0))])) (blkS [(retS (callM addP [(callM addP [(callM lstP [(varM 0), (conM (.str [40]))]), (callM F__law_between [(varM 1), (conM (.str [44]))])]), (callM lstP [(conM (.str [41]))])]))]) (blkS [])), (setS (.nm 3) (callM addP [(callM addP [(callM lstP [(varM 0), (conM (.str [40]))]), (callM F__law_between [(sliceM (varM 1) none (some (varM 2))), (conM (.str [44]))])]), (callM lstP [(conM (.str [124]))])])), (retS (callM addP [(callM addP [(varM 3), (callM F__law_between [(sliceM (varM 1) (some (varM 2)) none), (conM (.str [44]))])]), (callM lstP [(conM (.str [41]))])]))])
/-- slots: 0 tokens, 1 line, 2 k, 3 tight -/
def F__law_line_text : FM := defM 1 4 (blkS [(setS (.nm 1) (conM (.str []))), (forS (rangeI [(callM lenP [(varM 0)])]) (.nm 2) (blkS [(setS (.nm 3) (orV (callM eqP [(varM 2), (conM (.int 0))]) (orV (callM inP [(callM ixP [(varM 0), (varM 2)]), (callM lstP [(conM (.str [44])), (conM (.str [41])), (conM (.str [40]))])]) (callM eqP [(callM ixP [(varM 0), (callM subP [(varM 2), (conM (.int 1))])]), (conM (.str [40]))])))), (ifS (notT (tbM (varM 3))) (blkS [(setS (.nm 1) (callM addP [(varM 1), (conM (.str [32]))]))]) (blkS [])), (setS (.nm 1) (callM addP [(varM 1), (callM ixP [(varM 0), (varM 2)])]))])), (retS (varM 1))])
/-- slots: 0 line, 1 at, 2 chars, 3 k -/
def F__law_run : FM := defM 3 4 (blkS [(forS (rangeI [(varM 1), (callM lenP [(varM 0)])]) (.nm 3) (blkS [(ifS (tbM (callM notInP [(callM ixP [(varM 0), (varM 3)]), (varM 2)])) (blkS [(retS (varM 3))]) (blkS []))])), (retS (callM lenP [(varM 0)]))])
/-- slots: 0 line, 1 at, 2 letters, 3 end, 4 first, 5 digits -/
def F__law_token_end : FM := defM 2 6 (blkS [(setS (.nm 2) (conM (.str [97, 98, 99, 100, 101, 102, 103, 104, 105, 106, 107, 108, 109, 110, 111, 112, 113, 114, 115, 116, 117, 118, 119, 120, 121, 122]))), (ifS (tbM (callM inP [(callM ixP [(varM 0), (varM 1)]), (conM (.str [40, 41, 44, 124]))])) (blkS [(retS (callM addP [(varM 1), (conM (.int 1))]))]) (blkS [])), (ifS (tbM (callM inP [(callM ixP [(varM 0), (varM 1)]), (varM 2)])) (blkS [(retS (callM F__law_run [(varM 0), (varM 1), (varM 2)]))]) (blkS [])), (ifS (tbM (callM eqP [(callM ixP [(varM 0), (varM 1)]), (conM (.str [34]))])) (blkS [(setS (.nm 3) (callM F__law_run [(varM 0), (callM addP [(varM 1), (conM (.int 1))]), (varM 2)])), (ifS (andT (tbM (callM gtP [(varM 3), (callM addP [(varM 1), (conM (.int 1))])])) (tbM (callM eqP [(sliceM (varM 0) (some (varM 3)) (some (callM addP [(varM 3), (conM (.int 1))]))), (conM (.str [34]))]))) (blkS [(retS (callM addP [(varM 3), (conM (.int 1))]))]) (blkS [])), (retS (varM 1))]) (blkS [])), (setS (.nm 4) (callM addP [(varM 1), (callM intP [(callM eqP [(callM ixP [(varM 0), (varM 1)]), (conM (.str [45]))])])])), (setS (.nm 3) (callM F__law_run [(varM 0), (varM 4), (conM (.str [48, 49, 50, 51, 52, 53, 54, 55, 56, 57]))])), (setS (.nm 5) (sliceM (varM 0) (some (varM 4)) (some (varM 3)))), (ifS (orT (tbM (callM eqP [(varM 5), (conM (.str []))])) (andT (tbM (callM eqP [(callM ixP [(varM 5), (conM (.int 0))]), (conM (.str [48]))])) (tbM (callM neP [(sliceM (varM 0) (some (varM 1)) (some (varM 3))), (conM (.str [48]))])))) (blkS [(retS (varM 1))]) (blkS [])), (retS (varM 3))])
/-- slots: 0 line, 1 found, 2 at, 3 k, 4 end -/
def F__law_tokens : FM := defM 1 5 (blkS [(setS (.nm 1) (callM lstP [])), (setS (.nm 2) (callM F__law_run [(varM 0), (conM (.int 0)), (conM (.str [32]))])), (forS (rangeI [(callM lenP [(varM 0)])]) (.nm 3) (blkS [(ifS (tbM (callM eqP [(varM 2), (callM lenP [(varM 0)])])) (blkS [brkS]) (blkS [])), (setS (.nm 4) (callM F__law_token_end [(varM 0), (varM 2)])), (ifS (tbM (callM eqP [(varM 4), (varM 2)])) (blkS [(retS (callM addP [(varM 1), (callM lstP [(callM tupP [(varM 2), (conM (.str [32]))])])]))]) (blkS [])), (exprS (methM "list" appendP (varM 1) [(callM tupP [(varM 2), (sliceM (varM 0) (some (varM 2)) (some (varM 4)))])])), (setS (.nm 2) (callM F__law_run [(varM 0), (varM 4), (conM (.str [32]))]))])), (retS (callM addP [(varM 1), (callM lstP [(callM tupP [(callM lenP [(varM 0)]), (conM (.str []))])])]))])
/-- slots: 0 draws, 1 texts, 2 line, 3 k, 4 gap, 5 apart, 6 pair -/
def F__law_loose : FM := defM 2 7 (blkS [(setS (.nm 2) (callM ixP [(callM lstP [(conM (.str [])), (conM (.str [32])), (conM (.str [])), (conM (.str [32, 32, 32]))]), (callM F__law_take [(varM 0), (conM (.int 4))])])), (forS (rangeI [(callM lenP [(varM 1)])]) (.nm 3) (blkS [(setS (.nm 4) (callM ixP [(callM lstP [(conM (.str [])), (conM (.str [32])), (conM (.str [])), (conM (.str [32, 32])), (conM (.str [32]))]), (callM F__law_take [(varM 0), (conM (.int 5))])])), (ifS (andT (tbM (callM gtP [(varM 3), (conM (.int 0))])) (tbM (callM eqP [(varM 4), (conM (.str []))]))) (blkS [(setS (.nm 5) (lcM [6] (seqI (callM F__law_tokens [(callM addP [(callM ixP [(varM 1), (callM subP [(varM 3), (conM (.int 1))])]), (callM ixP [(varM 1), (varM 3)])])])) (.nm 6) yesT (callM ixP [(varM 6), (conM (.int 1))]))), (ifS (tbM (callM neP [(varM 5), (callM lstP [(callM ixP [(varM 1), (callM subP [(varM 3), (conM (.int 1))])]), (callM ixP [(varM 1), (varM 3)]), (conM (.str []))])])) (blkS [(setS (.nm 4) (conM (.str [32])))]) (blkS []))]) (blkS [])), (ifS (tbM (callM gtP [(varM 3), (conM (.int 0))])) (blkS [(setS (.nm 2) (callM addP [(varM 2), (varM 4)]))]) (blkS [])), (setS (.nm 2) (callM addP [(varM 2), (callM ixP [(varM 1), (varM 3)])]))])), (retS (callM addP [(varM 2), (callM ixP [(callM lstP [(conM (.str [])), (conM (.str [32])), (conM (.str [])), (conM (.str [32, 32]))]), (callM F__law_take [(varM 0), (conM (.int 4))])])]))])
/-- slots: 0 draws, 1 many, 2 words, 3 keys, 4 k, 5 word -/
def F__law_text_words : FM := defM 2 6 (blkS [(setS (.nm 2) (callM F__law_words [(varM 0), (varM 1)])), (setS (.nm 3) (callM lstP [(conM (.str [116, 111])), (conM (.str [111, 110])), (conM (.str [110, 101, 118, 101, 114])), (conM (.str [116, 114, 117, 101])), (conM (.str [105, 102])), (conM (.str [108, 101, 115, 115])), (conM (.str [117, 110, 108, 105, 107, 101])), (conM (.str [111, 110, 99, 101])), (conM (.str [101, 118, 101, 114])), (conM (.str [97, 108, 119, 97, 121, 115])), (conM (.str [116, 97, 98, 108, 101])), (conM (.str [116, 111, 108, 100])), (conM (.str [97, 103, 111]))])), (forS (rangeI [(conM (.int 2))]) (.nm 4) (blkS [(setS (.nm 5) (callM F__law_pick [(varM 0), (varM 3)])), (ifS (andT (tbM (callM notInP [(varM 5), (varM 2)])) (tbM (callM eqP [(callM F__law_take [(varM 0), (conM (.int 2))]), (conM (.int 0))]))) (blkS [(exprS (callM putLP [(varM 5), (varM 2), (callM F__law_take [(varM 0), (varM 1)])]))]) (blkS []))])), (retS (varM 2))])
/-- slots: 0 draws, 1 names, 2 tables, 3 name, 4 key, 5 others -/
def F__law_text_schema : FM := defM 2 6 (blkS [(setS (.nm 2) (callM lstP [])), (forS (seqI (callM sortedSP [(varM 1)])) (.nm 3) (blkS [(setS (.nm 4) (callM ixP [(callM lstP [(conM (.int 1)), (conM (.int 0)), (conM (.int 2)), (conM (.int 1)), (conM (.int 8)), (conM (.int 3)), (conM (.int 0))]), (callM F__law_take [(varM 0), (conM (.int 7))])])), (setS (.nm 5) (callM ixP [(callM lstP [(conM (.int 1)), (conM (.int 0)), (conM (.int 2)), (conM (.int 0)), (conM (.int 3)), (conM (.int 1)), (conM (.int 8))]), (callM F__law_take [(varM 0), (conM (.int 7))])])), (exprS (methM "list" appendP (varM 2) [(callM tupP [(varM 3), (varM 4), (callM minP [(varM 5), (callM subP [(conM (.int 8)), (varM 4)])])])]))])), (retS (callM tupleP [(varM 2)]))])
/-- slots: 0 schema, 1 name, 2 table -/
def F__law_table : FM := defM 2 3 (blkS [(forS (seqI (varM 0)) (.nm 2) (blkS [(ifS (tbM (callM eqP [(callM ixP [(varM 2), (conM (.int 0))]), (varM 1)])) (blkS [(retS (varM 2))]) (blkS []))])), (retS (conM .non))])
/-- slots: 0 term -/
def F__law_term_text : FM := defM 1 1 (blkS [(ifS (tbM (callM eqP [(callM ixP [(varM 0), (conM (.int 0))]), (conM (.str [118, 97, 114]))])) (blkS [(retS (callM ixP [(varM 0), (conM (.int 1))]))]) (blkS [])), (retS (callM F__law_value_text [(callM ixP [(varM 0), (conM (.int 1))])]))])
/-- slots: 0 schema, 1 atom, 2 found, 3 cells, 4 table, 5 term -/
def F__law_atom_texts : FM := defM 2 6 (blkS [(setS (.nm 2) (callM lstP [])), (ifS (tbM (callM eqP [(callM lenP [(callM ixP [(varM 1), (conM (.int 1))])]), (conM (.int 2))])) (blkS [(setS (.nm 2) (callM lstP [(callM ixP [(callM ixP [(varM 1), (conM (.int 1))]), (conM (.int 0))]), (conM (.str [101, 118, 101, 114]))])), (ifS (tbM (callM notNonP [(callM ixP [(callM ixP [(varM 1), (conM (.int 1))]), (conM (.int 1))])])) (blkS [(exprS (callM putLP [(callM strP [(callM ixP [(callM ixP [(varM 1), (conM (.int 1))]), (conM (.int 1))])]), (varM 2), (conM (.int 1))]))]) (blkS []))]) (blkS [])), (setS (.nm 3) (lcM [5] (seqI (callM ixP [(varM 1), (conM (.int 3))])) (.nm 5) yesT (callM F__law_term_text [(varM 5)]))), (setS (.nm 4) (callM F__law_table [(varM 0), (callM ixP [(varM 1), (conM (.int 2))])])), (ifS (tbM (callM isNonP [(varM 4)])) (blkS [(retS (callM addP [(varM 2), (callM F__law_cells_texts [(callM ixP [(varM 1), (conM (.int 2))]), (varM 3), (callM negP [(conM (.int 1))])])]))]) (blkS [])), (retS (callM addP [(varM 2), (callM F__law_cells_texts [(callM ixP [(varM 1), (conM (.int 2))]), (varM 3), (callM ixP [(varM 4), (conM (.int 1))])])]))])
/-- slots: 0 schema, 1 rule, 2 found, 3 k, 4 literal, 5 term -/
def F__law_rule_texts : FM := defM 2 6 (blkS [(setS (.nm 2) (callM addP [(callM F__law_cells_texts [(callM ixP [(varM 1), (conM (.int 0))]), (lcM [5] (seqI (callM ixP [(varM 1), (conM (.int 1))])) (.nm 5) yesT (callM F__law_term_text [(varM 5)])), (callM negP [(conM (.int 1))])]), (callM lstP [(conM (.str [105, 102]))])])), (ifS (tbM (callM eqP [(callM lenP [(callM ixP [(varM 1), (conM (.int 2))])]), (conM (.int 0))])) (blkS [(retS (callM addP [(varM 2), (callM lstP [(conM (.str [116, 114, 117, 101]))])]))]) (blkS [])), (forS (rangeI [(callM lenP [(callM ixP [(varM 1), (conM (.int 2))])])]) (.nm 3) (blkS [(ifS (tbM (callM gtP [(varM 3), (conM (.int 0))])) (blkS [(exprS (methM "list" appendP (varM 2) [(conM (.str [44]))]))]) (blkS [])), (setS (.nm 4) (callM ixP [(callM ixP [(varM 1), (conM (.int 2))]), (varM 3)])), (ifS (tbM (callM eqP [(callM ixP [(varM 4), (conM (.int 0))]), (conM (.str [97, 116, 111, 109]))])) (blkS [(setS (.nm 2) (callM addP [(varM 2), (callM F__law_atom_texts [(varM 0), (varM 4)])]))]) (blkS [(setS (.nm 2) (callM addP [(varM 2), (callM lstP [(callM F__law_term_text [(callM ixP [(varM 4), (conM (.int 1))])]), (callM ixP [(varM 4), (conM (.int 0))]), (callM F__law_term_text [(callM ixP [(varM 4), (conM (.int 2))])])])]))]))])), (retS (varM 2))])
/-- slots: 0 draws, 1 how -/
def F__law_text_how : FM := defM 1 2 (blkS [(setS (.nm 1) (callM F__law_how [(varM 0)])), (ifS (andT (tbM (callM eqP [(callM lenP [(varM 1)]), (conM (.int 2))])) (andT (tbM (callM notNonP [(callM ixP [(varM 1), (conM (.int 1))])])) (tbM (callM eqP [(callM F__law_take [(varM 0), (conM (.int 3))]), (conM (.int 0))])))) (blkS [(retS (callM tupP [(callM ixP [(varM 1), (conM (.int 0))]), (callM absP [(callM F__law_great_number [(varM 0)])])]))]) (blkS [])), (retS (varM 1))])
/-- slots: 0 draws, 1 schema, 2 names, 3 words, 4 atoms, 5 variables, 6 values, 7 terms, 8 how, 9 table, 10 many, 11 k -/
def F__law_text_literal : FM := defM 5 12 (blkS [(setS (.nm 5) (callM lstP [(callM ixP [(varM 3), (conM (.int 0))]), (callM ixP [(varM 3), (conM (.int 1))]), (callM F__law_pick [(varM 0), (varM 3)])])), (setS (.nm 6) (lcM [11] (rangeI [(conM (.int 3))]) (.nm 11) yesT (callM F__law_text_value [(varM 0), (varM 3)]))), (setS (.nm 7) (lcM [11] (rangeI [(conM (.int 8))]) (.nm 11) yesT (callM F__law_term [(varM 0), (varM 5), (varM 6)]))), (ifS (orT (tbM (callM eqP [(varM 4), (conM (.int 0))])) (tbM (callM eqP [(callM F__law_take [(varM 0), (conM (.int 4))]), (conM (.int 0))]))) (blkS [(retS (callM tupP [(callM ixP [(callM lstP [(conM (.str [108, 101, 115, 115])), (conM (.str [117, 110, 108, 105, 107, 101]))]), (callM F__law_take [(varM 0), (conM (.int 2))])]), (callM ixP [(varM 7), (conM (.int 0))]), (callM ixP [(varM 7), (conM (.int 1))])]))]) (blkS [])), (setS (.nm 8) (callM F__law_text_how [(varM 0)])), (ifS (andT (tbM (callM gtP [(callM lenP [(varM 1)]), (conM (.int 0))])) (tbM (callM gtP [(callM F__law_take [(varM 0), (conM (.int 3))]), (conM (.int 0))]))) (blkS [(setS (.nm 9) (callM F__law_pick [(varM 0), (varM 1)])), (retS (callM tupP [(conM (.str [97, 116, 111, 109])), (varM 8), (callM ixP [(varM 9), (conM (.int 0))]), (callM tupleP [(sliceM (varM 7) none (some (callM addP [(callM ixP [(varM 9), (conM (.int 1))]), (callM ixP [(varM 9), (conM (.int 2))])])))])]))]) (blkS [])), (setS (.nm 10) (callM ixP [(callM lstP [(conM (.int 1)), (conM (.int 2)), (conM (.int 0)), (conM (.int 3)), (conM (.int 8))]), (callM F__law_take [(varM 0), (conM (.int 5))])])), (retS (callM tupP [(conM (.str [97, 116, 111, 109])), (varM 8), (callM F__law_pick [(varM 0), (varM 2)]), (callM tupleP [(sliceM (varM 7) none (some (varM 10)))])]))])
/-- slots: 0 draws, 1 schema, 2 names, 3 words, 4 most, 5 body, 6 k, 7 atoms, 8 variables, 9 values, 10 many, 11 literal -/
def F__law_text_rule : FM := defM 5 12 (blkS [(setS (.nm 5) (callM lstP [])), (forS (rangeI [(callM F__law_take [(varM 0), (callM addP [(varM 4), (conM (.int 1))])])]) (.nm 6) (blkS [(setS (.nm 7) (callM lenP [(lcM [11] (seqI (varM 5)) (.nm 11) (tbM (callM eqP [(callM ixP [(varM 11), (conM (.int 0))]), (conM (.str [97, 116, 111, 109]))])) (varM 11))])), (exprS (methM "list" appendP (varM 5) [(callM F__law_text_literal [(varM 0), (varM 1), (varM 2), (varM 3), (callM subP [(conM (.int 4)), (varM 7)])])]))])), (setS (.nm 8) (callM lstP [(callM ixP [(varM 3), (conM (.int 0))]), (callM ixP [(varM 3), (conM (.int 1))]), (callM F__law_pick [(varM 0), (varM 3)])])), (setS (.nm 9) (lcM [6] (rangeI [(conM (.int 2))]) (.nm 6) yesT (callM F__law_text_value [(varM 0), (varM 3)]))), (setS (.nm 10) (callM ixP [(callM lstP [(conM (.int 1)), (conM (.int 2)), (conM (.int 0)), (conM (.int 1)), (conM (.int 8))]), (callM F__law_take [(varM 0), (conM (.int 5))])])), (retS (callM tupP [(callM F__law_pick [(varM 0), (varM 2)]), (callM tupleP [(lcM [6] (rangeI [(varM 10)]) (.nm 6) yesT (callM F__law_term [(varM 0), (varM 8), (varM 9)]))]), (callM tupleP [(varM 5)])]))])
/-- slots: 0 schema, 1 text -/
def F__law_read : FM := defM 2 2 (blkS [(noxS (blkS [(retS (callM lstP [(callM F_read_rule [(varM 0), (varM 1)])]))]))])
/-- slots: 0 script, 1 draws, 2 words, 3 schema, 4 turn, 5 rule, 6 tokens, 7 text, 8 form -/
def F_law : FM := defM 1 9 (blkS [(setS (.nm 1) (callM F__law_draws [(varM 0), (conM (.int 620))])), (setS (.nm 2) (callM F__law_text_words [(varM 1), (conM (.int 10))])), (setS (.nm 3) (callM F__law_text_schema [(varM 1), (sliceM (varM 2) none (some (callM ixP [(callM lstP [(conM (.int 2)), (conM (.int 4)), (conM (.int 1)), (conM (.int 0)), (conM (.int 3))]), (callM F__law_take [(varM 1), (conM (.int 5))])])))])), (forS (rangeI [(conM (.int 3))]) (.nm 4) (blkS [(setS (.nm 5) (callM F__law_text_rule [(varM 1), (varM 3), (sliceM (varM 2) (some (conM (.int 4))) (some (conM (.int 7)))), (varM 2), (callM ixP [(callM lstP [(conM (.int 2)), (conM (.int 6)), (conM (.int 3))]), (varM 4)])])), (setS (.nm 6) (callM F__law_rule_texts [(varM 3), (varM 5)])), (setS (.nm 7) (callM F__law_line_text [(varM 6)])), (ifS (notT (tbM (callM (F__law_same 8) [(callM F_write_rule [(varM 3), (varM 5)]), (varM 7)]))) (blkS [(retS (conM (.bl false)))]) (blkS [])), (forS (seqI (callM lstP [(varM 7), (callM F__law_loose [(varM 1), (varM 6)]), (callM F__law_loose [(varM 1), (varM 6)]), (varM 7)])) (.nm 8) (blkS [(ifS (notT (tbM (callM (F__law_same 8) [(callM F__law_read [(varM 3), (varM 8)]), (callM lstP [(varM 5)])]))) (blkS [(retS (conM (.bl false)))]) (blkS []))]))])), (retS (conM (.bl true)))])
end LW

end

section
set_option linter.all false
set_option Elab.async false
set_option maxRecDepth 100000
namespace LW
open Dl DlM
/-- r holds whole numbers -/
def Ints (S : Store) (r : Nat) : Prop := ∃ xs : List Int, S[r]? = some (.lst (xs.map D.int))
/-- all but the draws is as it was -/
structure Dr (r : Nat) (S S' : Store) : Prop where
  fr : Fr [r] S S'
  whole : Ints S' r
theorem Dr.trans {r : Nat} {S S1 S2 : Store} (a : Dr r S S1) (b : Dr r S1 S2) : Dr r S S2 := ⟨a.fr.trans b.fr, b.whole⟩
theorem Dr.refl {r : Nat} {S : Store} (a : Ints S r) : Dr r S S := ⟨.refl, a⟩
theorem Ints.mono {r : Nat} {S S' : Store} (a : Ints S r) (f : Fr [] S S') : Ints S' r := by
  obtain ⟨xs, h⟩ := a
  exact ⟨xs, f.get h (by simp)⟩
theorem Ints.lt {r : Nat} {S : Store} (a : Ints S r) : r < S.length := by
  obtain ⟨xs, h⟩ := a
  exact lt_of_get h
theorem Dr.of {r : Nat} {S S' : Store} (a : Ints S r) (f : Fr [] S S') : Dr r S S' := ⟨f.nil, a.mono f⟩
theorem Dr.get {r : Nat} {S S' : Store} {i : Nat} {v : MO} (a : Dr r S S') (h : S[i]? = some v) (n : i ≠ r) : S'[i]? = some v := a.fr.get h (by simpa using n)
theorem Dr.le {r : Nat} {S S' : Store} (a : Dr r S S') : S.length ≤ S'.length := a.fr.le
theorem c_take {S : Store} {r : Nat} {m : Int} (h : Ints S r) (hm : 0 < m) : (F__law_take [.ref r, .int m] S).sat fun d S' => ∃ v : Int, d = .int v ∧ 0 ≤ v ∧ v < m ∧ Dr r S S' := by
  obtain ⟨xs, h⟩ := h
  refine sat_defM rfl ?_
  by_cases hx : xs = []
  · subst hx
    simp [h]
    exact ⟨hm, .refl ⟨[], h⟩⟩
  · have hl : (xs.length : Int) ≠ 0 := by
      intro z
      exact hx (List.length_eq_zero_iff.mp (by omega))
    have h1 : xs.length - 1 < xs.length := by
      have : xs.length ≠ 0 := by simpa using hx
      omega
    simp [h, hl, hx, tyN_lst h, h1, hm]
    refine ⟨Int.emod_nonneg _ (by omega), Int.emod_lt_of_pos _ hm, .set (by simp), xs.dropLast, ?_⟩
    rw [List.getElem?_set_self (lt_of_get h), List.map_dropLast]
theorem c_pick {S : Store} {r w : Nat} {row : List D} (h : Ints S r) (hw : S[w]? = some (.lst row)) (hne : row ≠ []) (hn : w ≠ r) : (F__law_pick [.ref r, .ref w] S).sat fun d S' => d ∈ row ∧ Dr r S S' := by
  refine sat_defM rfl ?_
  have hl : (0 : Int) < row.length := by
    have : row.length ≠ 0 := by simpa using hne
    omega
  simp [hw]
  refine (c_take h hl).mono ?_
  rintro d S1 ⟨v, rfl, h0, h1, hd⟩
  obtain ⟨x, e1, e2⟩ := atI_int (xs := row) h0 h1
  simp [lstAt_of (hd.get hw hn), e1]
  exact ⟨List.mem_of_getElem? e2, hd⟩
theorem c_draws (ns : List Int) (many : Nat) (hm : many ≤ 1000) (hl : ns.length ≤ 63) : (F__law_draws [.lit (ns.map D.int), .int many] []).sat fun d S' => ∃ r, d = .ref r ∧ Ints S' r := by
  refine sat_defM rfl ?_
  refine sat_seq (fun δ S => ∃ cs : List Int, cs.length ≤ 63 ∧ δ = [some (.lit (ns.map D.int)), some (.int many), some (.ref 0), none, none, none, none, none, none] ∧ S = [.lst (cs.map D.int)]) ?_ ?_
  · simp
    refine lc_all (fun S => S.length = 1) (fun _ y => ∃ z, y = D.int z) rfl rfl (by simp) (by simp) (le_LIM (by simp; omega)) ?_ ?_
    · intro k hk S acc h1 h2
      refine ⟨_, rfl, ?_⟩
      simp
      exact ⟨h1, h2⟩
    · intro ys S h1 h2 hy hP
      obtain ⟨zs, rfl⟩ := ints_of hP
      obtain ⟨o, rfl⟩ : ∃ o, S = [o] := List.length_eq_one_iff.mp h1
      simp at h2 hy
      subst h2
      simp
      exact ⟨zs, by omega, rfl⟩
  rintro δ S ⟨cs, hcs, rfl, rfl⟩
  refine sat_seq (fun δ S => ∃ cs : List Int, cs.length ≤ 63 ∧ cs.length ≠ 0 ∧ δ = [some (.lit (ns.map D.int)), some (.int many), some (.ref 0), none, none, none, none, none, none] ∧ S = [.lst (cs.map D.int)]) ?_ ?_
  · cases cs with
    | nil =>
      simp [tyN, lt_LIM]
      exact ⟨[0], by simp⟩
    | cons c cs =>
      have h0 : ((cs.length : Int) + 1 = 0) = False := by simp; omega
      simp [h0]
      exact ⟨c :: cs, hcs, by simp, rfl⟩
  rintro δ S ⟨cs, hcs, hne, rfl, rfl⟩
  simp [lstAt, le_LIM]
  rw [if_pos (inRange_nat (by omega))]
  simp
  refine for_inv (fun k δ S => ∃ a5 a6 a7 a8, ∃ ls ds : List Int, δ = [some (.lit (ns.map D.int)), some (.int many), some (.ref 0), some (.ref 1), some (.ref 2), a5, a6, a7, a8] ∧ S = [.lst (cs.map D.int), .lst (ls.map D.int), .lst (ds.map D.int)] ∧ ls.length = cs.length ∧ ds.length = k)
    ⟨none, none, none, none, cs, [], rfl, rfl, rfl, rfl⟩ (by simp) ?_ ?_
  · rintro k hk δ S ⟨a5, a6, a7, a8, ls, ds, rfl, rfl, hls, hds⟩
    refine ⟨_, rfl, ?_⟩
    have hc : 0 < cs.length := by omega
    simp at hk
    rw [rangeL_get]
    obtain ⟨p, hp, e1⟩ : ∃ p, p < cs.length ∧ (k : Int) % (cs.length : Int) = (p : Int) := ⟨k % cs.length, Nat.mod_lt _ (by omega), by simp⟩
    have hp2 : p < ls.length := by omega
    have e2 : atI (cs.map D.int) (p : Int) = some (.int cs[p]) := atI_nat (by simp [hp])
    have e3 : atI (ls.map D.int) (p : Int) = some (.int ls[p]) := atI_nat (by simp [hp2])
    have e4 : ixN ls.length (p : Int) = some p := ixN_nat hp2
    generalize cs[p] = c at e2
    generalize ls[p] = l at e3
    simp only [blkS_cons, blkS_one, setS_ap, callM_ap, argsM_cons, argsM_nil, varM_ap, Res.bind_ok, Res.thenS_ok]
    simp [hc, e1, lstAt, e2, e3, e4, powP, small64]
    have hb0 := Int.emod_nonneg (c * 48271 + k * 69621 + 11) (show (2147483647 : Int) ≠ 0 by omega)
    have hb1 := Int.emod_lt_of_pos (c * 48271 + k * 69621 + 11) (show (0 : Int) < 2147483647 by omega)
    generalize (c * 48271 + k * 69621 + 11) % 2147483647 = y at hb0 hb1
    by_cases hb : 1000000000000000000 ≤ c
    · simp [hb, lt_LIM (show ds.length ≤ 1000000 by omega), lstAt, e3, e4]
      refine ⟨ls.set p (l / 1000), ds ++ [l % 1000], by simp [List.map_set], by simp [hls], by simp [hds]⟩
    · simp [hb, lt_LIM (show ds.length ≤ 1000000 by omega), show -18446744073709551616 < y ∧ y < 18446744073709551616 by omega]
      refine ⟨ls, ds ++ [(y * y + 3 * y + k) % 1000003], by simp, by simp [hls], by simp [hds]⟩
  · rintro δ S ⟨a5, a6, a7, a8, ls, ds, rfl, rfl, hls, hds⟩
    simp
    exact ⟨ds.reverse, by simp⟩
end LW

end

section
set_option linter.all false
set_option Elab.async false
set_option maxRecDepth 100000
namespace LW
open Dl DlM
/-- data without references, so many deep -/
inductive Data : Nat → D → Prop
  | non {n : Nat} : Data n .non
  | bl {n : Nat} (b : Bool) : Data n (.bl b)
  | int {n : Nat} (i : Int) : Data n (.int i)
  | str {n : Nat} (x : Cs) : Data n (.str x)
  | tup {n : Nat} {xs : List D} (hl : xs.length ≤ 1000000) (h : ∀ x ∈ xs, Data n x) : Data (n + 1) (.tup xs)
theorem notIn_false {S : Store} {n : Nat} {ys : List D} (h : S[n]? = some (.lst ys)) (hy : ∀ (k : Nat) (y : D), ys[k]? = some y → y = .bl true) : inP [.bl false, .ref n] S = .ok (.bl false) S := by
  have hy' : ∀ y ∈ ys, y = .bl true := fun y hm => by
    obtain ⟨k, hk⟩ := List.getElem?_of_mem hm
    exact hy k y hk
  have e1 : ys.all D.sc = true := by
    rw [List.all_eq_true]
    intro y hm
    rw [hy' y hm]; rfl
  have e2 : (D.bl false).sc = true := rfl
  unfold inP
  simp only [lstAt_of h, e1, e2, Bool.and_self, Bool.true_or, if_true]
  congr 2
  rw [List.any_eq_false]
  intro y hm
  rw [hy' y hm]; decide
theorem c_same : ∀ (n : Nat) (d : D), Data n d → ∀ S : Store, (F__law_same (n + 1) [d, d] S).sat fun r S' => r = .bl true ∧ Fr [] S S' := by
  intro n
  induction n with
  | zero =>
    intro d hd S
    unfold F__law_same
    refine sat_defM rfl ?_
    cases hd <;> simp [isTy, Fr.refl]
  | succ n ih =>
    intro d hd S
    unfold F__law_same
    refine sat_defM rfl ?_
    cases hd with
    | non => simp [isTy, Fr.refl]
    | bl b => simp [isTy, Fr.refl]
    | int i => simp [isTy, Fr.refl]
    | str x => simp [isTy, Fr.refl]
    | tup hl h =>
      rename_i xs
      have hr : inRange (xs.length : Int) = true := inRange_nat (by omega)
      simp [isTy, hr]
      refine lc_all (fun S' => Fr [] S S' ∧ S.length < S'.length) (fun _ y => y = .bl true) ⟨.app, by simp⟩ (by simp) (fun S' v ⟨h1, h2⟩ => ⟨h1.set_new (Nat.le_refl _), by simpa using h2⟩) (fun _ _ => rfl) (by simpa using le_LIM hl) ?_ ?_
      · rintro k hk S' acc ⟨hf, hlt⟩ hacc
        refine ⟨_, rfl, ?_⟩
        rw [rangeL_get]
        simp at hk
        have e1 : atI xs (k : Int) = some xs[k] := atI_nat (List.getElem?_eq_getElem hk)
        simp [e1]
        refine (ih xs[k] (h _ (List.getElem_mem hk)) S').mono ?_
        rintro d S2 ⟨rfl, hf2⟩
        exact ⟨rfl, ⟨hf.trans hf2, Nat.lt_of_lt_of_le hlt hf2.le⟩, hf2.get hacc (by simp)⟩
      · rintro ys S' ⟨hf, hlt⟩ hys hl2 hP
        simp [notIn_false hys hP]
        exact hf
/-- two lists of the same data -/
theorem c_same_ref {n i j : Nat} {xs : List D} {S : Store} (hi : S[i]? = some (.lst xs)) (hj : S[j]? = some (.lst xs)) (hl : xs.length ≤ 1000000) (h : ∀ x ∈ xs, Data n x) : (F__law_same (n + 1 + 1) [.ref i, .ref j] S).sat fun r S' => r = .bl true ∧ Fr [] S S' := by
  unfold F__law_same
  refine sat_defM rfl ?_
  have hr : inRange (xs.length : Int) = true := inRange_nat (by omega)
  simp [isTy, hi, hj, hr]
  refine lc_all (fun S' => Fr [] S S' ∧ S.length < S'.length) (fun _ y => y = .bl true) ⟨.app, by simp⟩ (by simp) (fun S' v ⟨h1, h2⟩ => ⟨h1.set_new (Nat.le_refl _), by simpa using h2⟩) (fun _ _ => rfl) (by simpa using le_LIM hl) ?_ ?_
  · rintro k hk S' acc ⟨hf, hlt⟩ hacc
    refine ⟨_, rfl, ?_⟩
    rw [rangeL_get]
    simp at hk
    have e1 : atI xs (k : Int) = some xs[k] := atI_nat (List.getElem?_eq_getElem hk)
    simp [e1, lstAt_of (hf.get hi (by simp)), lstAt_of (hf.get hj (by simp))]
    refine (c_same n xs[k] (h _ (List.getElem_mem hk)) S').mono ?_
    rintro d S2 ⟨rfl, hf2⟩
    exact ⟨rfl, ⟨hf.trans hf2, Nat.lt_of_lt_of_le hlt hf2.le⟩, hf2.get hacc (by simp)⟩
  · rintro ys S' ⟨hf, hlt⟩ hys hl2 hP
    simp [notIn_false hys hP]
    exact hf
theorem Data.mono : ∀ {n : Nat} {d : D}, Data n d → ∀ {m : Nat}, n ≤ m → Data m d
  | _, _, .non, _, _ => .non
  | _, _, .bl b, _, _ => .bl b
  | _, _, .int b, _, _ => .int b
  | _, _, .str b, _, _ => .str b
  | _, _, .tup hl h, m, hm => by
    cases m with
    | zero => omega
    | succ m => exact .tup hl fun x hx => (h x hx).mono (by omega)
/-! words, numbers -/
def letter (c : Nat) : Prop := 97 ≤ c ∧ c ≤ 122
structure Word (w : Cs) : Prop where
  ne : w ≠ []
  all : ∀ c ∈ w, letter c
def letters : Cs := [97, 98, 99, 100, 101, 102, 103, 104, 105, 106, 107, 108, 109, 110, 111, 112, 113, 114, 115, 116, 117, 118, 119, 120, 121, 122]
theorem mem_letters {c : Nat} : c ∈ letters ↔ letter c := by
  simp only [letters, letter, List.mem_cons, List.not_mem_nil, or_false]
  omega
/-- what the words of a law are like -/
structure Words (b : Nat) (ws : List Cs) : Prop where
  word : ∀ w ∈ ws, Word w
  len : ∀ w ∈ ws, w.length ≤ b
  nodup : ws.Nodup
theorem Words.snoc {b c : Nat} {ws : List Cs} {w : Cs} (h : Words b ws) (hw : Word w) (hb : b ≤ c) (hl : w.length ≤ c) (hn : w ∉ ws) : Words c (ws ++ [w]) where
  word := fun x hx => by
    rcases List.mem_append.mp hx with hx | hx
    · exact h.word x hx
    · rw [List.mem_singleton.mp hx]; exact hw
  len := fun x hx => by
    rcases List.mem_append.mp hx with hx | hx
    · exact Nat.le_trans (h.len x hx) hb
    · rw [List.mem_singleton.mp hx]; exact hl
  nodup := by
    rw [List.nodup_append]
    refine ⟨h.nodup, by simp, fun a ha b hb e => ?_⟩
    rw [List.mem_singleton.mp hb] at e
    exact hn (e ▸ ha)
end LW

end

section
set_option linter.all false
set_option Elab.async false
set_option maxRecDepth 100000
namespace LW
open Dl DlM
theorem Dr.set_new {r i : Nat} {S S' : Store} {v : MO} (a : Dr r S S') (hr : r < S.length) (h : S.length ≤ i) : Dr r S (S'.set i v) := ⟨a.fr.set_new h, by
  obtain ⟨xs, hx⟩ := a.whole
  exact ⟨xs, by rw [List.getElem?_set_ne (by omega)]; exact hx⟩⟩
theorem Dr.push {r : Nat} {S S' T : Store} (a : Dr r S S') : Dr r S (S' ++ T) := a.trans (.of a.whole .app)
theorem flatten_len1 : ∀ {zs : List Cs}, (∀ z ∈ zs, ∃ c, z = [c] ∧ letter c) → (zs.flatten.length = zs.length ∧ (zs.map List.length).sum = zs.length ∧ ∀ c ∈ zs.flatten, letter c)
  | [], _ => by simp
  | z :: zs, h => by
    obtain ⟨c, rfl, hc⟩ := h z (by simp)
    obtain ⟨h1, h2, h3⟩ := flatten_len1 (zs := zs) fun z hz => h z (List.mem_cons_of_mem _ hz)
    refine ⟨by simp [h1], by simp [h2]; omega, fun c' hc' => ?_⟩
    rw [List.flatten_cons, List.mem_append] at hc'
    rcases hc' with hc' | hc'
    · rw [List.mem_singleton.mp hc']; exact hc
    · exact h3 c' hc'
theorem c_words {S : Store} {r : Nat} (h : Ints S r) (many : Nat) (hm : many ≤ 20) : (F__law_words [.ref r, .int many] S).sat fun d S' => ∃ w ws, d = .ref w ∧ S.length ≤ w ∧ S'[w]? = some (.lst (ws.map D.str)) ∧ ws.length = many ∧ Words 60 ws ∧ Dr r S S' := by
  have hr := h.lt
  refine sat_defM rfl ?_
  simp
  rw [if_pos (inRange_nat (by omega))]
  simp
  refine for_inv (fun k δ S' => ∃ a3 a4 a5 a6 a7, ∃ ws : List Cs, δ = [some (.ref r), some (.int many), some (.ref S.length), a3, a4, a5, a6, a7] ∧ S'[S.length]? = some (.lst (ws.map D.str)) ∧ ws.length = k ∧ Words (30 + k) ws ∧ Dr r S S')
    ⟨none, none, none, none, none, [], rfl, by simp, rfl, ⟨by simp, by simp, by simp⟩, .of h .app⟩ (by simp) ?_ ?_
  · rintro k hk δ S1 ⟨a3, a4, a5, a6, a7, ws, rfl, hw, hl, hws, hd⟩
    refine ⟨_, rfl, ?_⟩
    rw [rangeL_get]
    simp at hk
    -- the size
    refine sat_seq (fun δ S2 => ∃ v : Nat, v ≤ 2 ∧ δ = [some (.ref r), some (.int many), some (.ref S.length), some (.int k), some (.int (1 + v)), a5, a6, a7] ∧ Dr r S1 S2) ?_ ?_
    · simp
      refine (c_take hd.whole (by omega)).mono ?_
      rintro d S2 ⟨v, rfl, h0, h1, h2⟩
      simp
      exact ⟨v.toNat, by omega, by omega, h2⟩
    rintro δ S2 ⟨v, hv, rfl, h2⟩
    refine sat_seq (fun δ S3 => ∃ v : Nat, v ≤ 24 ∧ δ = [some (.ref r), some (.int many), some (.ref S.length), some (.int k), some (.int (1 + v)), a5, a6, a7] ∧ Dr r S1 S3) ?_ ?_
    · simp
      refine (c_take h2.whole (by omega)).mono ?_
      rintro d S3 ⟨u, rfl, h0, h1, h3⟩
      simp
      by_cases hu : u = 0
      · simp [hu]
        refine (c_take h3.whole (by omega)).mono ?_
        rintro d S4 ⟨u2, rfl, h0, h1, h4⟩
        simp
        exact ⟨v + 3 + u2.toNat, by omega, by omega, h2.trans (h3.trans h4)⟩
      · simp [hu]
        exact ⟨v, by omega, rfl, h2.trans h3⟩
    rintro δ S3 ⟨v, hv, rfl, h3⟩
    have hw3 : S3[S.length]? = some (.lst (ws.map D.str)) := h3.get hw (by omega)
    -- the word
    refine sat_seq (fun δ S4 => ∃ x : Cs, Word x ∧ x.length ≤ 25 ∧ δ = [some (.ref r), some (.int many), some (.ref S.length), some (.int k), some (.int (1 + v)), some (.str x), a6, a7] ∧ Dr r S1 S4) ?_ ?_
    · have e1 : ((1 : Int) + v) = ((1 + v : Nat) : Int) := by omega
      simp only [e1]
      simp only [setS_ap, methM_ap, conM_ap, Res.bind_ok, tyN_str, if_true, argsM_cons, argsM_nil, lcM_ap, rangeI_ap, varM_ap, List.getElem?_cons_succ, List.getElem?_cons_zero, inRange_nat (show 1 + v ≤ 1000000000 by omega), Res.sat_thenS, Res.sat_bind, Res.sat_ok]
      refine lc_all (fun S' => Dr r S1 S' ∧ S3.length < S'.length) (fun _ y => ∃ z, y = D.str z ∧ ∃ c, z = [c] ∧ letter c) ⟨h3.push, by simp⟩ (by simp) (fun S' w ⟨z1, z2⟩ => ⟨z1.set_new (by have := hd.le; omega) (by have := h3.le; omega), by simpa using z2⟩) (fun _ _ => rfl) (by rw [rangeL_len2]; exact le_LIM (by omega)) ?_ ?_
      · rintro j hj S' acc ⟨hd4, hlt⟩ hacc
        refine ⟨_, rfl, ?_⟩
        simp
        refine (c_take hd4.whole (by omega)).mono ?_
        rintro d S5 ⟨u, rfl, h0, h1, h5⟩
        obtain ⟨c, e1, e2⟩ := atI_int (xs := letters) h0 (by simpa [letters] using h1)
        have hc := mem_letters.mp (List.mem_of_getElem? e2)
        unfold letters at e1
        simp [e1, LIM]
        exact ⟨hc, ⟨hd4.trans h5, Nat.lt_of_lt_of_le hlt h5.le⟩, h5.get hacc (by have := h3.le; have := hd.le; omega)⟩
      · rintro ys S' ⟨hd4, hlt⟩ hys hl2 hP
        obtain ⟨zs, rfl, hz⟩ := strs_of hP
        obtain ⟨f1, f2, f3⟩ := flatten_len1 hz
        rw [rangeL_len2, List.length_map] at hl2
        simp [lstAt_of hys, f2, joinCs_nil, le_LIM (show zs.length ≤ 1000000 by omega)]
        exact ⟨_, ⟨fun e => by rw [e] at f1; simp at f1; omega, f3⟩, by omega, rfl, hd4⟩
    rintro δ S4 ⟨x, hx, hxl, rfl, h4⟩
    have hw4 : S4[S.length]? = some (.lst (ws.map D.str)) := h4.get hw (by omega)
    refine sat_seq (fun δ S4 => ∃ x : Cs, ∃ a7, Word x ∧ x.length ≤ 31 + k ∧ x ∉ ws ∧ δ = [some (.ref r), some (.int many), some (.ref S.length), some (.int k), some (.int (1 + v)), some (.str x), a6, a7] ∧ Dr r S1 S4) ?_ ?_
    · by_cases hin : x ∈ ws
      · simp [inP_strs hw4, hin, lstAt_of hw4]
        refine lc_all (fun S' => Fr [] S4 S' ∧ S4.length < S'.length) (fun k y => ∃ z, y = D.int z ∧ ∃ w, ws[k]? = some w ∧ z = w.length) ⟨.app, by simp⟩ (by simp) (fun S' w ⟨z1, z2⟩ => ⟨z1.set_new (Nat.le_refl _), by simpa using z2⟩) ?_ (by simp; exact le_LIM (by omega)) ?_ ?_
        · rintro S' ⟨z1, z2⟩
          simp [lstAt_of (z1.get hw4 (by simp))]
        · rintro j hj S' acc ⟨z1, z2⟩ hacc
          refine ⟨_, rfl, ?_⟩
          simp at hj
          have hw5 := hws.len _ (List.getElem_mem hj)
          simp [le_LIM (show (ws[j]).length ≤ 1000000 by omega), hj]
          exact ⟨⟨z1, z2⟩, hacc⟩
        · rintro ys S' ⟨z1, z2⟩ hys hl2 hP
          obtain ⟨zs, rfl⟩ := ints_of (ys := ys) fun k y hy => by
            obtain ⟨z, e, _⟩ := hP k y hy
            exact ⟨z, e⟩
          simp at hl2
          have hP' : ∀ (k : Nat) (z : Int), zs[k]? = some z → ∃ w, ws[k]? = some w ∧ z = w.length := by
            intro k z hz
            obtain ⟨z', e, w, e2, e3⟩ := hP k (.int z) (by simp [hz])
            cases e
            exact ⟨w, e2, e3⟩
          cases zs with
          | nil =>
            have : ws = [] := List.length_eq_zero_iff.mp hl2.symm
            rw [this] at hin
            cases hin
          | cons a zs =>
            simp [lstAt_of hys]
            obtain ⟨m1, m2⟩ := maxL_spec zs a
            obtain ⟨k1, hk1⟩ := List.getElem?_of_mem m1
            obtain ⟨w1, e1, e2⟩ := hP' k1 _ hk1
            have b1 := hws.len w1 (List.mem_of_getElem? e1)
            generalize maxL a zs = mx at m2 e2 ⊢
            have hmx : ∀ w ∈ ws, (w.length : Int) ≤ mx := fun w hw => by
              obtain ⟨k2, hk2⟩ := List.getElem?_of_mem hw
              have hk3 : k2 < (a :: zs).length := by
                have := (List.getElem?_eq_some_iff.mp hk2).1
                omega
              obtain ⟨w2, e3, e4⟩ := hP' k2 _ (List.getElem?_eq_getElem hk3)
              rw [hk2] at e3
              cases e3
              rw [← e4]
              exact m2 _ (List.getElem_mem hk3)
            have c1 : (0 : Int) < 1 + mx ∧ [122].length * (1 + mx).toNat ≤ LIM ∧ 1 + mx ≤ (LIM : Int) := by
              have : LIM = 16777216 := rfl
              rw [List.length_singleton]
              omega
            have c2 : (List.replicate (1 + mx).toNat [122]).flatten = List.replicate (1 + mx).toNat 122 := by
              induction (1 + mx).toNat with
              | zero => rfl
              | succ n ih => simp [List.replicate_succ, ih]
            have c3 : mulP [.str [122], .int (1 + mx)] S' = .ok (.str (List.replicate (1 + mx).toNat 122)) S' := by
              show (if _ then _ else _) = _
              rw [if_pos c1, c2]
            simp [c3]
            refine ⟨_, ⟨fun e => ?_, fun c hc => ?_⟩, by rw [List.length_replicate]; omega, fun hc => ?_, rfl, h4.trans (.of h4.whole z1)⟩
            · have := congrArg List.length e
              simp at this
              omega
            · rw [(List.mem_replicate.mp hc).2]
              exact ⟨by omega, by omega⟩
            · have := hmx _ hc
              simp at this
              omega
      · simp [inP_strs hw4, hin]
        exact ⟨x, hx, by omega, hin, rfl, h4⟩
    rintro δ S5 ⟨x, a7, hx, hxl, hn, rfl, h5⟩
    have hw5 : S5[S.length]? = some (.lst (ws.map D.str)) := h5.get hw (by omega)
    simp [hw5, lt_LIM (show ws.length ≤ 1000000 by omega)]
    refine ⟨ws ++ [x], ?_, by simp [hl], hws.snoc hx (by omega) (by omega) hn, (hd.trans h5).set_new hr (Nat.le_refl _)⟩
    rw [List.getElem?_set_self (lt_of_get hw5)]
    simp
  · rintro δ S1 ⟨a3, a4, a5, a6, a7, ws, rfl, hw, hl, hws, hd⟩
    rw [rangeL_len2] at hl hws
    simp
    exact ⟨ws, hw, by omega, ⟨hws.word, fun w hw => Nat.le_trans (hws.len w hw) (by omega), hws.nodup⟩, hd⟩
end LW

end

section
set_option linter.all false
set_option Elab.async false
set_option maxRecDepth 100000
namespace LW
open Dl DlM
def big : Nat := 10 ^ 60
def optD : Option Int → D
  | none => .non
  | some e => .int e
/-- a number that a law draws -/
def Num (i : Int) : Prop := i.natAbs < 1000 ^ 20
theorem c_great {S : Store} {r : Nat} (h : Ints S r) : (F__law_great_number [.ref r] S).sat fun d S' => ∃ i, d = .int i ∧ Num i ∧ Dr r S S' := by
  have hr := h.lt
  refine sat_defM rfl ?_
  refine sat_seq (fun δ S1 => δ = [some (.ref r), some (.int 0), none] ∧ Dr r S S1) (by simp; exact .refl h) ?_
  rintro δ S1 ⟨rfl, h1⟩
  refine sat_seq (fun δ S2 => ∃ (x : Int) (a : Option D), δ = [some (.ref r), some (.int x), a] ∧ 0 ≤ x ∧ x.natAbs < 1000 ^ 19 ∧ Dr r S S2) ?_ ?_
  · simp [LIM]
    refine (c_take (h1.push (T := [.lst [.int 1, .int 2, .int 6, .int 19]])).whole (by omega)).mono ?_
    rintro d S2 ⟨v, rfl, h0, hv, h2⟩
    have e0 : S2[S1.length]? = some (.lst [.int 1, .int 2, .int 6, .int 19]) := h2.get (by simp) (by have := h1.le; omega)
    have hd2 : Dr r S S2 := h1.push.trans h2
    obtain ⟨n, hn, e1⟩ : ∃ n : Nat, n ≤ 19 ∧ atI [D.int 1, .int 2, .int 6, .int 19] v = some (.int n) := by
      have : v = 0 ∨ v = 1 ∨ v = 2 ∨ v = 3 := by omega
      rcases this with rfl | rfl | rfl | rfl
      · exact ⟨1, by omega, rfl⟩
      · exact ⟨2, by omega, rfl⟩
      · exact ⟨6, by omega, rfl⟩
      · exact ⟨19, by omega, rfl⟩
    simp [lstAt_of e0, e1, inRange_nat (show n ≤ 1000000000 by omega)]
    refine for_inv (fun k δ S' => ∃ (x : Int) (a : Option D), δ = [some (.ref r), some (.int x), a] ∧ 0 ≤ x ∧ x.natAbs < 1000 ^ k ∧ Dr r S S') ⟨0, none, rfl, by omega, by simp, hd2⟩ (by simp) ?_ ?_
    · rintro k hk δ S3 ⟨x, a, rfl, hx, hxk, h3⟩
      refine ⟨_, rfl, ?_⟩
      rw [rangeL_get]
      simp [small64]
      refine (c_take h3.whole (by omega)).mono ?_
      rintro d S4 ⟨u, rfl, h0, hu, h4⟩
      simp
      refine ⟨by omega, ?_, h3.trans h4⟩
      rw [Nat.pow_succ]
      omega
    · rintro δ S3 ⟨x, a, rfl, hx, hxk, h3⟩
      rw [rangeL_length] at hxk
      have hp : (1000 : Nat) ^ n ≤ 1000 ^ 19 := Nat.pow_le_pow_right (by omega) hn
      exact ⟨x, ⟨a, rfl⟩, hx, Nat.lt_of_lt_of_le hxk (by simpa using hp), h3⟩
  rintro δ S2 ⟨x, a, rfl, hx, hxk, h2⟩
  simp
  refine (c_take h2.whole (by omega)).mono ?_
  rintro d S3 ⟨u, rfl, h0, hu, h3⟩
  have b : Num x ∧ Num (0 - x) := by
    unfold Num
    have : (1000 : Nat) ^ 20 = 1000 ^ 19 * 1000 := by decide
    omega
  by_cases c : u = 1
  · simp [c]
    exact ⟨by simpa using b.2, h2.trans h3⟩
  · simp [c]
    exact ⟨b.1, h2.trans h3⟩
inductive Val : D → Prop
  | num (i : Int) (h : Num i) : Val (.int i)
  | wrd (w : Cs) (h : Word w) (hl : w.length ≤ 60) : Val (.str w)
theorem c_value {S : Store} {r n : Nat} {ws : List Cs} (h : Ints S r) (hw : S[n]? = some (.lst (ws.map D.str))) (hws : Words 60 ws) (hne : ws ≠ []) (hn : n ≠ r) : (F__law_text_value [.ref r, .ref n] S).sat fun d S' => Val d ∧ Dr r S S' := by
  refine sat_defM rfl ?_
  simp
  refine (c_take h (by omega)).mono ?_
  rintro d S1 ⟨v, rfl, h0, h1, h2⟩
  simp
  by_cases hv : v = 0
  · simp [hv]
    refine (c_pick h2.whole (h2.get hw hn) (by simpa using hne) hn).mono ?_
    rintro d S2 ⟨hd, h3⟩
    obtain ⟨w, hw, rfl⟩ := List.mem_map.mp hd
    exact ⟨.wrd w (hws.word w hw) (hws.len w hw), h2.trans h3⟩
  · simp [hv]
    refine (c_great h2.whole).mono ?_
    rintro d S2 ⟨i, rfl, hi, h3⟩
    exact ⟨.num i hi, h2.trans h3⟩
theorem Words.set {b : Nat} {ws : List Cs} {w : Cs} {i : Nat} (h : Words b ws) (hw : Word w) (hl : w.length ≤ b) (hn : w ∉ ws) : Words b (ws.set i w) where
  word := fun x hx => by
    rcases List.mem_or_eq_of_mem_set hx with hx | rfl
    · exact h.word x hx
    · exact hw
  len := fun x hx => by
    rcases List.mem_or_eq_of_mem_set hx with hx | rfl
    · exact h.len x hx
    · exact hl
  nodup := by
    have hnd := h.nodup
    clear h
    induction ws generalizing i with
    | nil => simp
    | cons a r ih =>
      rw [List.nodup_cons] at hnd
      cases i with
      | zero =>
        rw [List.set_cons_zero, List.nodup_cons]
        exact ⟨fun z => hn (List.mem_cons_of_mem _ z), hnd.2⟩
      | succ i =>
        rw [List.set_cons_succ, List.nodup_cons]
        refine ⟨fun z => ?_, ih (fun z => hn (List.mem_cons_of_mem _ z)) hnd.2⟩
        rcases List.mem_or_eq_of_mem_set z with z | z
        · exact hnd.1 z
        · exact hn (by rw [← z]; simp)
def keyWords : List Cs := [[116, 111], [111, 110], [110, 101, 118, 101, 114], [116, 114, 117, 101], [105, 102], [108, 101, 115, 115], [117, 110, 108, 105, 107, 101], [111, 110, 99, 101], [101, 118, 101, 114], [97, 108, 119, 97, 121, 115], [116, 97, 98, 108, 101], [116, 111, 108, 100], [97, 103, 111]]
theorem keyWords_ok : ∀ w ∈ keyWords, Word w ∧ w.length ≤ 60 := by
  intro w hw
  have h1 : w ≠ [] := by
    rintro rfl
    revert hw
    decide
  have h2 : ∀ w ∈ keyWords, w.length ≤ 60 := by decide
  have h3 : ∀ w ∈ keyWords, ∀ c ∈ w, 97 ≤ c ∧ c ≤ 122 := by decide
  exact ⟨⟨h1, h3 w hw⟩, h2 w hw⟩
theorem c_text_words {S : Store} {r : Nat} (h : Ints S r) (many : Nat) (h1 : 0 < many) (hm : many ≤ 20) : (F__law_text_words [.ref r, .int many] S).sat fun d S' => ∃ w ws, d = .ref w ∧ S.length ≤ w ∧ S'[w]? = some (.lst (ws.map D.str)) ∧ ws.length = many ∧ Words 60 ws ∧ Dr r S S' := by
  have hr := h.lt
  refine sat_defM rfl ?_
  refine sat_seq (fun δ S1 => ∃ w ws, δ = [some (.ref r), some (.int many), some (.ref w), none, none, none] ∧ S.length ≤ w ∧ S1[w]? = some (.lst (ws.map D.str)) ∧ ws.length = many ∧ Words 60 ws ∧ Dr r S S1) ?_ ?_
  · simp
    refine (c_words h many hm).mono ?_
    rintro d S1 ⟨w, ws, rfl, hle, hw, hl, hws, hd⟩
    simp
    exact ⟨hle, ws, hw, hl, hws, hd⟩
  rintro δ S1 ⟨w, ws, rfl, hle, hw, hl, hws, hd⟩
  have hwl := lt_of_get hw
  have h2 := hd.push (T := [.lst (keyWords.map D.str)])
  simp [LIM]
  rw [if_pos (by rfl)]
  simp
  refine for_inv (fun k δ S' => ∃ a4 a5 ws, δ = [some (.ref r), some (.int many), some (.ref w), some (.ref S1.length), a4, a5] ∧ S'[w]? = some (.lst (ws.map D.str)) ∧ S'[S1.length]? = some (.lst (keyWords.map D.str)) ∧ ws.length = many ∧ Words 60 ws ∧ Dr r S S')
    ⟨none, none, ws, rfl, ?_, by simp [keyWords], hl, hws, h2⟩ (by simp) ?_ ?_
  · rw [List.getElem?_append_left hwl]; exact hw
  · rintro k hk δ S2 ⟨a4, a5, ws, rfl, hw, hkw, hl, hws, hd⟩
    refine ⟨_, rfl, ?_⟩
    simp
    refine (c_pick hd.whole hkw (by decide) (by omega)).mono ?_
    rintro d S3 ⟨hm3, h3⟩
    obtain ⟨x, hx, rfl⟩ := List.mem_map.mp hm3
    obtain ⟨hx1, hx2⟩ := keyWords_ok x hx
    have hw3 := h3.get hw (by omega)
    have hk3 := h3.get hkw (by omega)
    simp [inP_strs hw3]
    by_cases hin : x ∈ ws
    · simp [hin]
      exact ⟨ws, hw3, hk3, hl, hws, hd.trans h3⟩
    · simp [hin]
      refine (c_take h3.whole (by omega)).mono ?_
      rintro d S4 ⟨v, rfl, h0, hv, h4⟩
      have hw4 := h4.get hw3 (by omega)
      have hk4 := h4.get hk3 (by omega)
      simp
      by_cases hv0 : v = 0
      · simp [hv0]
        refine (c_take h4.whole (by omega)).mono ?_
        rintro d S5 ⟨u, rfl, h0, hu, h5⟩
        have hw5 := h5.get hw4 (by omega)
        have hk5 := h5.get hk4 (by omega)
        have e1 : ixN ws.length u = some u.toNat := ixN_int h0 (by omega)
        simp [hw5, e1]
        refine ⟨ws.set u.toNat x, ?_, ?_, by simpa using hl, hws.set hx1 hx2 hin, (hd.trans (h3.trans (h4.trans h5))).set_new hr hle⟩
        · rw [List.getElem?_set_self (lt_of_get hw5), List.map_set]
        · rw [List.getElem?_set_ne (by omega)]; exact hk5
      · simp [hv0]
        exact ⟨ws, hw4, hk4, hl, hws, hd.trans (h3.trans h4)⟩
  · rintro δ S2 ⟨a4, a5, ws, rfl, hw, hkw, hl, hws, hd⟩
    simp
    exact ⟨hle, ws, hw, hl, hws, hd⟩
end LW

end

section
set_option linter.all false
set_option Elab.async false
set_option maxRecDepth 100000
namespace LW
open Dl DlM
/-! schemas -/
structure Table where
  name : Cs
  key : Nat
  others : Nat
def tabD (t : Table) : D := .tup [.str t.name, .int t.key, .int t.others]
structure Schema (l : List Table) : Prop where
  word : ∀ t ∈ l, Word t.name ∧ t.name.length ≤ 60
  size : ∀ t ∈ l, t.key + t.others ≤ 8
  nodup : (l.map Table.name).Nodup
  len : l.length ≤ 20
theorem c_text_schema {S : Store} {r n : Nat} {ws : List Cs} (h : Ints S r) (hw : S[n]? = some (.lst (ws.map D.str))) (hws : Words 60 ws) (hl : ws.length ≤ 20) : (F__law_text_schema [.ref r, .ref n] S).sat fun d S' => ∃ l, d = .tup (l.map tabD) ∧ Schema l ∧ (∀ t ∈ l, t.name ∈ ws) ∧ Dr r S S' := by
  have hr := h.lt
  have hn := lt_of_get hw
  refine sat_defM rfl ?_
  refine sat_seq (fun δ S1 => δ = [some (.ref r), some (.ref n), some (.ref S.length), none, none, none] ∧ S1 = S ++ [.lst []]) (by simp) ?_
  rintro δ S1 ⟨rfl, rfl⟩
  have hw1 : (S ++ [.lst []])[n]? = some (.lst (ws.map D.str)) := by rw [List.getElem?_append_left hn]; exact hw
  have hs : (ws.mergeSort csLe).Perm ws := List.mergeSort_perm ws csLe
  have es : sortedSP [.ref n] (S ++ [.lst []]) = .ok (.ref (S.length + 1)) (S ++ [.lst []] ++ [.lst ((ws.mergeSort csLe).map D.str)]) := by
    unfold sortedSP
    simp only [lstAt_of hw1, strsOf_map]
    rw [if_pos (by omega)]
    simp
  have hsl : (ws.mergeSort csLe).length = ws.length := hs.length_eq
  have hsn : (ws.mergeSort csLe).Nodup := hs.nodup_iff.mpr hws.nodup
  have hsw : ∀ w ∈ ws.mergeSort csLe, Word w ∧ w.length ≤ 60 := fun w hw => ⟨hws.word w (hs.mem_iff.mp hw), hws.len w (hs.mem_iff.mp hw)⟩
  have hsm : ∀ w ∈ ws.mergeSort csLe, w ∈ ws := fun w hw => hs.mem_iff.mp hw
  generalize ws.mergeSort csLe = us at es hsl hsn hsw hsm
  simp [es]
  have hu : (S ++ [MO.lst [], .lst (us.map D.str)])[S.length + 1]? = some (.lst (us.map D.str)) := by
    rw [List.getElem?_append_right (by omega)]
    simp
  have hd0 : Dr r S (S ++ [MO.lst [], .lst (us.map D.str)]) := .of h .app
  simp [lstAt_of hu]
  refine for_inv (fun k δ S1 => ∃ l a3 a4 a5, δ = [some (.ref r), some (.ref n), some (.ref S.length), a3, a4, a5] ∧ S1[S.length]? = some (.lst (l.map tabD)) ∧ S1[S.length + 1]? = some (.lst (us.map D.str)) ∧ l.map Table.name = us.take k ∧ (∀ t ∈ l, t.key + t.others ≤ 8) ∧ Dr r S S1)
    ⟨[], none, none, none, rfl, by simp, hu, by simp, by simp, hd0⟩ ?_ ?_ ?_
  · rintro k δ S1 _ ⟨l, a3, a4, a5, rfl, h1, h2, h3, h4, h5⟩
    simp [lstAt_of h2]
  · rintro k hk δ S1 ⟨l, a3, a4, a5, rfl, h1, h2, h3, h4, h5⟩
    refine ⟨_, rfl, ?_⟩
    simp at hk
    have hlk : l.length = k := by
      have := congrArg List.length h3
      simp at this
      omega
    have pk : ∀ (T : Store) (xs : List Int), xs.length = 7 → Dr r S T → (F__law_take [.ref r, .int 7] (T ++ [.lst (xs.map D.int)])).sat fun d S' => ∃ v : Int, ∃ x ∈ xs, d = .int v ∧ atI (xs.map D.int) v = some (.int x) ∧ S'[T.length]? = some (.lst (xs.map D.int)) ∧ Dr r T S' := by
      intro T xs hx hT
      have hT1 : Dr r T (T ++ [.lst (xs.map D.int)]) := Dr.push (.refl hT.whole)
      refine (c_take hT1.whole (by omega)).mono ?_
      rintro d S2 ⟨v, rfl, h0, hv, h6⟩
      obtain ⟨y, e1, e2⟩ := atI_int (xs := xs.map D.int) h0 (by simp; omega)
      rw [List.getElem?_map] at e2
      cases e3 : xs[v.toNat]? with
      | none => rw [e3] at e2; cases e2
      | some x =>
        rw [e3] at e2
        cases e2
        exact ⟨v, x, List.mem_of_getElem? e3, rfl, e1, h6.get (by simp) (by have := hT.le; omega), hT1.trans h6⟩
    refine sat_seq (fun δ S2 => ∃ key : Nat, key ≤ 8 ∧ δ = [some (.ref r), some (.ref n), some (.ref S.length), some (.str us[k]), some (.int key), a5] ∧ Dr r S1 S2) ?_ ?_
    · simp [LIM]
      refine (pk S1 [1, 0, 2, 1, 8, 3, 0] rfl h5).mono ?_
      rintro d S2 ⟨v, x, hx, rfl, e1, e2, h6⟩
      simp at e1
      simp [lstAt_of e2, e1]
      obtain ⟨x, rfl⟩ : ∃ y : Nat, x = y := ⟨x.toNat, by revert hx; simp; omega⟩
      refine ⟨x, ?_, rfl, h6⟩
      revert hx; simp; omega
    rintro δ S2 ⟨key, hkey, rfl, h6⟩
    refine sat_seq (fun δ S3 => ∃ o : Nat, δ = [some (.ref r), some (.ref n), some (.ref S.length), some (.str us[k]), some (.int key), some (.int o)] ∧ Dr r S1 S3) ?_ ?_
    · simp [LIM]
      refine (pk S2 [1, 0, 2, 0, 3, 1, 8] rfl (h5.trans h6)).mono ?_
      rintro d S3 ⟨v, x, hx, rfl, e1, e2, h7⟩
      simp at e1
      simp [lstAt_of e2, e1]
      obtain ⟨x, rfl⟩ : ∃ y : Nat, x = y := ⟨x.toNat, by revert hx; simp; omega⟩
      exact ⟨⟨x, rfl⟩, h6.trans h7⟩
    rintro δ S3 ⟨o, rfl, h7⟩
    have h13 := h7.get h1 (by omega)
    have h23 := h7.get h2 (by omega)
    obtain ⟨o', ho1, ho2⟩ : ∃ o' : Nat, (if (8 : Int) - key < o then (8 : Int) - key else o) = o' ∧ key + o' ≤ 8 := by
      by_cases c : (8 : Int) - key < o
      · rw [if_pos c]
        exact ⟨8 - key, by omega, by omega⟩
      · rw [if_neg c]
        exact ⟨o, rfl, by omega⟩
    simp [h13, LIM, show l.length < 16777216 by omega, ho1]
    refine ⟨l ++ [⟨us[k], key, o'⟩], ?_, ?_, ?_, ?_, (h5.trans h7).set_new hr (Nat.le_refl _)⟩
    · rw [List.getElem?_set_self (lt_of_get h13)]
      simp [tabD]
    · exact h23
    · rw [List.map_append, h3, List.take_add_one, List.getElem?_eq_getElem hk]
      rfl
    · intro t ht
      rcases List.mem_append.mp ht with ht | ht
      · exact h4 t ht
      · rw [List.mem_singleton.mp ht]; exact ho2
  · rintro δ S1 ⟨l, a3, a4, a5, rfl, h1, h2, h3, h4, h5⟩
    simp [lstAt_of h1]
    rw [List.length_map, List.take_length] at h3
    have hl3 : l.length = us.length := by rw [← h3]; simp
    have hin : ∀ t ∈ l, t.name ∈ us := fun t ht => by
      rw [← h3]
      exact List.mem_map_of_mem ht
    exact ⟨l, rfl, ⟨fun t ht => hsw _ (hin t ht), h4, by rw [h3]; exact hsn, by omega⟩, fun t ht => hsm _ (hin t ht), h5⟩
end LW

end

section
set_option linter.all false
set_option Elab.async false
set_option maxRecDepth 100000
namespace LW
open Dl DlM
def digits : Cs := [48, 49, 50, 51, 52, 53, 54, 55, 56, 57]
def signs : Cs := [40, 41, 44, 124]
@[scoped simp] theorem d_LETTERS_eq : d_LETTERS = .str letters := id rfl
@[scoped simp] theorem d_DIGITS_eq : d_DIGITS = .str digits := id rfl
@[scoped simp] theorem d_SIGNS_eq : d_SIGNS = .str signs := id rfl
theorem mem_digits {c : Nat} : c ∈ digits ↔ 48 ≤ c ∧ c ≤ 57 := by
  simp only [digits, List.mem_cons, List.not_mem_nil, or_false]
  omega
theorem mem_signs {c : Nat} : c ∈ signs ↔ c = 40 ∨ c = 41 ∨ c = 44 ∨ c = 124 := by
  simp only [signs, List.mem_cons, List.not_mem_nil, or_false]
theorem c_run_end {S : Store} {x a y cs : Cs} {at_ : Int} (hx : x = a ++ y) (ha : at_ = a.length) (hl : x.length ≤ 1000000) : F_run_end [.str x, .int at_, .str cs] S = .ok (.int (at_ + run cs y)) S := by
  subst ha
  refine eq_of_sat (sat_defM rfl ?_)
  simp
  have hxl : x.length = a.length + y.length := by rw [hx, List.length_append]
  have hr := run_le cs y
  refine while_run (fun n δ S' => ∃ j, j + n = run cs y ∧ S' = S ∧ δ = [some (.str x), some (.int a.length), some (.str cs), some (.int (a.length + j))]) (run cs y) (by omega) ⟨0, by omega, rfl, by simp⟩ ?_
  rintro n δ S' ⟨j, hj, rfl, rfl⟩
  simp [le_LIM hl]
  by_cases h1 : j < y.length
  · obtain ⟨c, hc⟩ : ∃ c, y[j]? = some c := ⟨y[j], List.getElem?_eq_getElem h1⟩
    have e1 : atI x ((a.length : Int) + j) = some c := by
      have : ((a.length : Int) + j) = ((a.length + j : Nat) : Int) := by omega
      rw [this]
      refine atI_nat ?_
      rw [hx, List.getElem?_append_right (by omega)]
      simpa using hc
    simp [e1, hxl, h1]
    by_cases h2 : c ∈ cs
    · have h3 : j ≠ run cs y := fun e => run_stop cs y c (by rw [← e]; exact hc) h2
      simp [h2]
      exact ⟨n - 1, by omega, j + 1, by omega, by omega⟩
    · have h3 : ¬ j < run cs y := fun h => by
        obtain ⟨d, e3, e4⟩ := run_lt cs y j h
        rw [hc] at e3
        cases e3
        exact h2 e4
      simp [h2]
      omega
  · simp [hxl, h1]
    omega
inductive Token
  | wrd (w : Cs) | num (i : Int) | quo (w : Cs) | sg (c : Nat)
  deriving DecidableEq
def Token.txt : Token → Cs
  | .wrd w => w
  | .num i => intCs i
  | .quo w => 34 :: (w ++ [34])
  | .sg c => [c]
def Token.kind : Token → Cs
  | .wrd _ => [119, 111, 114, 100]
  | .num _ => [105, 110, 116, 101, 103, 101, 114]
  | .quo _ => [113, 117, 111, 116, 101, 100]
  | .sg c => [c]
def Token.val : Token → D
  | .wrd w => .str w
  | .num i => .int i
  | .quo w => .str w
  | .sg c => .str [c]
inductive Good : Token → Prop
  | wrd (w : Cs) (h : Word w) (hl : w.length ≤ 60) : Good (.wrd w)
  | num (i : Int) (h : i.natAbs < big) : Good (.num i)
  | quo (w : Cs) (h : Word w) (hl : w.length ≤ 60) : Good (.quo w)
  | sg (c : Nat) (h : c ∈ signs) : Good (.sg c)
/-- what stands behind t does not go on with it -/
def Delim : Token → Cs → Prop
  | .wrd _, y => ∀ c, y.head? = some c → c ∉ letters
  | .num _, y => ∀ c, y.head? = some c → c ∉ digits
  | _, _ => True
theorem num_len {i : Int} (h : i.natAbs < big) : (intCs i).length ≤ 61 := intCs_len (by omega) h
theorem c_integer_at {S : Store} {x a y : Cs} {i : Int} (h : i.natAbs < big) (hy : ∀ c, y.head? = some c → c ∉ digits) (hx : x = a ++ (intCs i ++ y)) (hl : x.length ≤ 1000000) :
    F_integer_at [.str x, .int a.length] S = .ok (.tup [.str [105, 110, 116, 101, 103, 101, 114], .int i, .int (a.length + (intCs i).length)]) S := by
  have hlen := num_len h
  have hcs := csInt_intCs i
  have hxl : x.length = a.length + ((intCs i).length + y.length) := by rw [hx]; simp
  have hcut : cut x (some (a.length : Int)) (some (a.length + (intCs i).length)) = intCs i := cut_is hx rfl rfl
  refine eq_of_sat (sat_defM rfl ?_)
  -- the digits begin at a ++ p
  obtain ⟨p, n, hp, hn0, e0⟩ : ∃ (p : Cs) (n : Nat), intCs i = p ++ natCs n ∧ (p = [] ∧ (n : Int) = i ∨ p = [45] ∧ -(n : Int) = i ∧ n ≠ 0) ∧ True := by
    by_cases hi : i < 0
    · exact ⟨[45], i.natAbs, by unfold intCs; rw [if_pos hi]; rfl, .inr ⟨rfl, by omega, by omega⟩, trivial⟩
    · exact ⟨[], i.natAbs, by unfold intCs; rw [if_neg hi]; rfl, .inl ⟨rfl, by omega⟩, trivial⟩
  obtain ⟨c, t, e⟩ := List.exists_cons_of_ne_nil (natCs_ne n)
  have hcd := natCs_digit n c (by rw [e]; simp)
  have hrun : run digits (natCs n ++ y) = (natCs n).length := run_app (fun c hc => mem_digits.mpr (natCs_digit n c hc)) hy
  have r1 : F_run_end [.str x, .int (a.length + p.length), .str digits] S = .ok (.int (a.length + p.length + (natCs n).length)) S := by
    rw [c_run_end (a := a ++ p) (y := natCs n ++ y) (by rw [hx, hp]; simp) (by simp) hl, hrun]
  have a1 : atI x ((a.length : Int) + p.length) = some c := atI_is (a := a ++ p) (b := t ++ y) (by rw [hx, hp, e]; simp) (by simp)
  have hl2 : (intCs i).length = p.length + (natCs n).length := by rw [hp]; simp
  have ht : (natCs n).length = t.length + 1 := by rw [e]; simp
  have hz : c = 48 → t = [] ∧ p = [] := by
    rintro rfl
    have z := natCs_head n t e
    subst z
    rw [natCs_zero] at e
    refine ⟨(List.cons.inj e).2.symm, ?_⟩
    rcases hn0 with ⟨q, _⟩ | ⟨_, _, q⟩
    · exact q
    · exact absurd rfl q
  have hne : ¬ ((a.length : Int) + p.length = a.length + p.length + (natCs n).length) := by omega
  have hc2 : ¬ (c = 48 ∧ (1 : Int) < a.length + p.length + (natCs n).length - a.length) := by
    rintro ⟨q1, q2⟩
    obtain ⟨q3, q4⟩ := hz q1
    rw [q3] at ht
    rw [q4] at q2
    simp at ht q2
    omega
  have hend : (a.length : Int) + p.length + (natCs n).length = a.length + (intCs i).length := by omega
  rw [hend] at r1 hne hc2
  refine sat_seq (fun δ S' => δ = [some (.str x), some (.int a.length), some (.int (a.length + p.length)), none] ∧ S = S') ?_ ?_
  · rcases hn0 with ⟨rfl, hi⟩ | ⟨rfl, hi, hi0⟩
    · have a2 : atI x (a.length : Int) = some c := by simpa using a1
      have hc45 : c ≠ 45 := by omega
      simp [le_LIM hl, a2, hc45]
    · have a2 : atI x (a.length : Int) = some 45 := atI_is (a := a) (b := natCs n ++ y) (by rw [hx, hp]; simp) rfl
      simp [le_LIM hl, a2]
  rintro δ S' ⟨rfl, rfl⟩
  refine sat_seq (fun δ S' => δ = [some (.str x), some (.int a.length), some (.int (a.length + p.length)), some (.int (a.length + (intCs i).length))] ∧ S = S') (by simp [r1]) ?_
  rintro δ S' ⟨rfl, rfl⟩
  refine sat_seq (fun δ S' => δ = [some (.str x), some (.int a.length), some (.int (a.length + p.length)), some (.int (a.length + (intCs i).length))] ∧ S = S') ?_ ?_
  · simp [le_LIM hl, a1]
    rw [if_neg (by omega)]
    by_cases h48 : c = 48
    · have : ¬ ((1 : Int) < a.length + (intCs i).length - a.length) := fun z => hc2 ⟨h48, z⟩
      simp [h48]
      rw [if_neg (by omega)]
      simp
    · simp [h48]
  rintro δ S' ⟨rfl, rfl⟩
  simp [le_LIM hl, hcut, hcs, show (intCs i).length ≤ 640 by omega]
theorem c_token_at {S : Store} {x a y : Cs} {t : Token} (hg : Good t) (hd : Delim t y) (hx : x = a ++ (t.txt ++ y)) (hl : x.length ≤ 1000000) :
    F_token_at [.str x, .int a.length] S = .ok (.tup [.str t.kind, t.val, .int (a.length + t.txt.length)]) S := by
  refine eq_of_sat (sat_defM rfl ?_)
  cases hg with
  | sg c h =>
    have a1 : atI x (a.length : Int) = some c := atI_is (b := y) hx rfl
    simp [le_LIM hl, a1, h, Token.kind, Token.val, Token.txt]
  | wrd w h hwl =>
    obtain ⟨c, u, rfl⟩ := List.exists_cons_of_ne_nil h.ne
    have hc := h.all c (by simp)
    have a1 : atI x (a.length : Int) = some c := atI_is (b := u ++ y) hx rfl
    have h1 : ¬ c ∈ signs := by rw [mem_signs]; unfold letter at hc; omega
    have h2 : c ∈ letters := mem_letters.mpr hc
    have hrun : run letters ((c :: u) ++ y) = (c :: u).length := run_app (fun d hd => mem_letters.mpr (h.all d hd)) hd
    have r1 : F_run_end [.str x, .int a.length, .str letters] S = .ok (.int (a.length + (c :: u).length)) S := by
      rw [c_run_end hx rfl hl]
      show _ = Res.ok (D.int (a.length + (c :: u).length)) S
      rw [← hrun]
      rfl
    have hcut : cut x (some (a.length : Int)) (some (a.length + (c :: u).length)) = c :: u := cut_is hx rfl rfl
    generalize hm : (c :: u) = w at *
    simp [le_LIM hl, a1, h1, h2, r1, hcut, Token.kind, Token.val, Token.txt]
  | quo w h hwl =>
    have a1 : atI x (a.length : Int) = some 34 := atI_is (b := w ++ [34] ++ y) (by rw [hx]; simp [Token.txt]) rfl
    have h1 : ¬ 34 ∈ signs := by decide
    have h2 : ¬ 34 ∈ letters := by decide
    have hrun : run letters (w ++ (34 :: y)) = w.length := run_app (fun d hd => mem_letters.mpr (h.all d hd)) (by
      intro c hc
      cases hc
      exact h2)
    have r1 : F_run_end [.str x, .int (a.length + 1), .str letters] S = .ok (.int (a.length + 1 + w.length)) S := by
      rw [c_run_end (a := a ++ [34]) (y := w ++ (34 :: y)) (by rw [hx]; simp [Token.txt]) (by simp) hl, hrun]
    have hw : w.length ≠ 0 := fun e => h.ne (List.length_eq_zero_iff.mp e)
    have hcut1 : cut x (some ((a.length : Int) + 1 + w.length)) (some (a.length + 1 + w.length + 1)) = [34] := cut_is (a := a ++ 34 :: w) (b := [34]) (c := y) (by rw [hx]; simp [Token.txt]) (by simp; omega) (by simp; omega)
    have hcut2 : cut x (some ((a.length : Int) + 1)) (some (a.length + 1 + w.length)) = w := cut_is (a := a ++ [34]) (b := w) (c := 34 :: y) (by rw [hx]; simp [Token.txt]) (by simp) (by simp)
    have hne : ¬ ((a.length : Int) + 1 + w.length = a.length + 1) := by omega
    simp [le_LIM hl, a1, h1, h2, r1, hcut1, hcut2, Token.kind, Token.val, Token.txt]
    rw [if_neg (by omega)]
    simp [le_LIM hl, hcut2]
    omega
  | num i h =>
    obtain ⟨c, u, e⟩ := List.exists_cons_of_ne_nil (intCs_ne i)
    have hc : c = 45 ∨ (48 ≤ c ∧ c ≤ 57) := by
      unfold intCs at e
      split at e
      · left; exact (List.cons.inj e).1.symm
      · right; exact natCs_digit _ c (by rw [e]; simp)
    have a1 : atI x (a.length : Int) = some c := atI_is (b := u ++ y) (by rw [hx]; simp [Token.txt, e]) rfl
    have h1 : ¬ c ∈ signs := by rw [mem_signs]; omega
    have h2 : ¬ c ∈ letters := by rw [mem_letters]; unfold letter; omega
    have h3 : ¬ c = 34 := by omega
    have r1 := c_integer_at (S := S) h hd hx hl
    simp [le_LIM hl, a1, h1, h2, h3, r1, Token.kind, Token.val, Token.txt]
end LW

end

section
set_option linter.all false
set_option Elab.async false
set_option maxRecDepth 100000
namespace LW
open Dl DlM
/-! lines -/
abbrev Gap := Nat × Token
/-- the tokens, each behind its blanks, and z blanks at the end -/
def asm : List Gap → Nat → Cs
  | [], z => List.replicate z 32
  | (g, t) :: r, z => List.replicate g 32 ++ (t.txt ++ asm r z)
/-- each token is told from what stands behind it -/
def Told : List Gap → Nat → Prop
  | [], _ => True
  | (_, t) :: r, z => Good t ∧ Delim t (asm r z) ∧ Told r z
def endD (p : Int) : D := .tup [.int p, .str [101, 110, 100], .int 0]
/-- the list of the tokens ts -/
def TokDs : List Token → List D → Prop
  | [], ds => ∃ p, ds = [endD p]
  | t :: ts, ds => ∃ p r, ds = .tup [.int p, .str t.kind, t.val] :: r ∧ TokDs ts r
theorem TokDs.app : ∀ {as bs : List D} {ts us : List Token}, (∀ (k : Nat) (t : Token), ts[k]? = some t → ∃ p, as[k]? = some (.tup [.int p, .str t.kind, t.val])) → as.length = ts.length → TokDs us bs → TokDs (ts ++ us) (as ++ bs)
  | [], bs, [], us, _, _, h => h
  | [], bs, t :: ts, us, _, h, _ => by simp at h
  | a :: as, bs, [], us, _, h, _ => by simp at h
  | a :: as, bs, t :: ts, us, h1, h2, h3 => by
    obtain ⟨p, e⟩ := h1 0 t rfl
    have e' : a = .tup [.int p, .str t.kind, t.val] := by simpa using e
    subst e'
    exact ⟨p, as ++ bs, rfl, TokDs.app (fun k t h => h1 (k + 1) t h) (by simpa using h2) h3⟩
theorem first_ne {t : Token} (h : Good t) : ∀ c, t.txt.head? = some c → c ≠ 32 := by
  intro c hc
  cases h with
  | sg c' h => cases hc; rw [mem_signs] at h; omega
  | quo w h => cases hc; omega
  | wrd w h =>
    obtain ⟨d, u, e⟩ := List.exists_cons_of_ne_nil h.ne
    subst e
    cases hc
    have := h.all c (by simp)
    unfold letter at this
    omega
  | num i h =>
    have hc' : (intCs i).head? = some c := hc
    unfold intCs at hc'
    split at hc'
    · cases hc'; omega
    · obtain ⟨d, u, e⟩ := List.exists_cons_of_ne_nil (natCs_ne i.natAbs)
      rw [e] at hc'
      cases hc'
      have := natCs_digit i.natAbs c (by rw [e]; simp)
      omega
theorem txt_ne {t : Token} (h : Good t) : t.txt ≠ [] := by
  cases h with
  | sg c' h => simp [Token.txt]
  | quo w h => simp [Token.txt]
  | wrd w h => exact h.ne
  | num i h => exact intCs_ne i
theorem kind_ne {t : Token} : t.kind ≠ [] := by
  cases t <;> simp [Token.kind]
theorem run_spaces {g : Nat} {t : Token} {y : Cs} (h : Good t) : run [32] (List.replicate g 32 ++ (t.txt ++ y)) = g := by
  rw [run_app]
  · simp
  · intro c hc
    rw [(List.mem_replicate.mp hc).2]
    simp
  · intro c hc
    obtain ⟨d, u, e⟩ := List.exists_cons_of_ne_nil (txt_ne h)
    have := first_ne h c (by rw [e] at hc ⊢; exact hc)
    simpa using this
theorem run_spaces_end {g : Nat} : run [32] (List.replicate g 32) = g := by
  have := run_app (cs := [32]) (w := List.replicate g 32) (y := []) (by
    intro c hc
    rw [(List.mem_replicate.mp hc).2]
    simp) (by simp)
  simpa using this
/-- the line is a ++ asm r z, at stands at the first token of r -/
def TokInv (S : Store) (x : Cs) (l : List Gap) (z n : Nat) (δ : Env) (S' : Store) : Prop :=
  ∃ (a : Cs) (r : List Gap) (acc : List D) (done : List Token) (a3 a4 a5 : Option D), n = r.length ∧ δ = [some (.str x), some (.ref S.length), some (.int (a.length + run [32] (asm r z))), a3, a4, a5] ∧ x = a ++ asm r z ∧ Told r z ∧ l.map (·.2) = done ++ r.map (·.2) ∧
      S'[S.length]? = some (.lst acc) ∧ acc.length = done.length ∧ acc.length + r.length ≤ 100000 ∧ (∀ (k : Nat) (t : Token), done[k]? = some t → ∃ p, acc[k]? = some (.tup [.int p, .str t.kind, t.val])) ∧ Fr [] S S'
/-- the tokens of a line -/
theorem c_tokens_of {S : Store} {x : Cs} {l : List Gap} {z : Nat} (hx : x = asm l z) (ht : Told l z) (hl : x.length ≤ 1000000) (hll : l.length ≤ 100000) :
    (F_tokens_of [.str x] S).sat fun d S' => ∃ n ds, d = .ref n ∧ S.length ≤ n ∧ S'[n]? = some (.lst ds) ∧ TokDs (l.map (·.2)) ds ∧ Fr [] S S' := by
  refine sat_defM rfl ?_
  have first : ∃ at0 : Int, F_run_end [.str x, .int 0, .str [32]] (S ++ [.lst []]) = .ok (.int at0) (S ++ [.lst []]) ∧ at0 = run [32] x := by
    refine ⟨_, c_run_end (a := []) (y := x) rfl rfl hl, by simp⟩
  obtain ⟨at0, e0, h0⟩ := first
  simp [e0]
  refine while_run (TokInv S x l z) l.length (by omega) ?_ ?_
  · refine ⟨[], l, [], [], none, none, none, rfl, ?_, hx, ht, rfl, by simp, rfl, by simpa using hll, by simp, .app⟩
    rw [h0, hx]
    simp
  · rintro n δ S1 ⟨a, r, acc, done, a3, a4, a5, rfl, rfl, hxa, hr, hdone, hacc, hal, hal2, hP, hf⟩
    have hlt := lt_of_get hacc
    have hxl : x.length = a.length + (asm r z).length := by rw [hxa, List.length_append]
    cases r with
    | nil =>
      have e1 : run [32] (asm [] z) = z := run_spaces_end
      have e2 : x.length = a.length + z := by rw [hxl]; simp [asm]
      simp [le_LIM hl, e1, e2, hacc, lt_LIM (show acc.length ≤ 1000000 by omega)]
      have e3 : (a.length + z) ≤ LIM := le_LIM (by omega)
      simp [e3, hacc, lt_LIM (show acc.length ≤ 1000000 by omega)]
      refine ⟨_, by rw [List.getElem?_set_self hlt], ?_, hf.set_new (Nat.le_refl _)⟩
      rw [hdone]
      exact TokDs.app hP hal ⟨_, rfl⟩
    | cons p r =>
      obtain ⟨g, t⟩ := p
      obtain ⟨hg, hdl, hr'⟩ := hr
      have e1 : run [32] (asm ((g, t) :: r) z) = g := run_spaces hg
      have hx2 : x = (a ++ List.replicate g 32) ++ (t.txt ++ asm r z) := by rw [hxa]; simp [asm]
      have etok := c_token_at (S := S1) hg hdl hx2 hl
      have ht0 : t.txt.length ≠ 0 := fun e => txt_ne hg (List.length_eq_zero_iff.mp e)
      have hx2l : x.length = a.length + g + (t.txt.length + (asm r z).length) := by rw [hx2]; simp; omega
      have hlt2 : a.length + g < x.length := by omega
      have erun : ∀ S, F_run_end [.str x, .int (a.length + g + t.txt.length), .str [32]] S = .ok (.int (a.length + g + t.txt.length + run [32] (asm r z))) S := fun S =>
        c_run_end (a := a ++ List.replicate g 32 ++ t.txt) (y := asm r z) (by rw [hx2]; simp) (by simp; omega) hl
      simp at etok hal2
      have hlt3 : (a.length : Int) + g < x.length := by omega
      simp [le_LIM hl, e1, hlt3, etok, hacc, lt_LIM (show acc.length ≤ 1000000 by omega), kind_ne, erun]
      refine ⟨r.length, by omega, a ++ List.replicate g 32 ++ t.txt, r, acc ++ [.tup [.int (a.length + g), .str t.kind, t.val]], done ++ [t], some (.str t.kind), some t.val, some (.int (a.length + g + t.txt.length)), rfl, (by simp; omega), by rw [hx2]; simp, hr', by rw [hdone]; simp, ?_, by simp [hal], by simp; omega, ?_, hf.set_new (Nat.le_refl _)⟩
      · rw [List.getElem?_set_self hlt]
      · intro k t' ht'
        rw [List.getElem?_append] at ht' ⊢
        by_cases hk : k < done.length
        · rw [if_pos hk] at ht'
          rw [if_pos (by omega)]
          exact hP k t' ht'
        · rw [if_neg hk] at ht'
          rw [if_neg (by omega)]
          have : k - done.length = 0 := by
            by_cases q : k - done.length = 0
            · exact q
            · rw [List.getElem?_eq_none (by simp; omega)] at ht'
              cases ht'
          rw [this] at ht'
          cases ht'
          rw [hal, this]
          exact ⟨_, rfl⟩
/-- between commas -/
def seps {α : Type} (c : α) : List (List α) → List α
  | [] => []
  | x :: r => x ++ r.flatMap fun y => c :: y
theorem seps_snoc {α : Type} (c : α) (l : List (List α)) (x : List α) : seps c (l ++ [x]) = if l = [] then x else seps c l ++ c :: x := by
  cases l with
  | nil => simp [seps]
  | cons a r => simp [seps]
end LW

end

section
set_option linter.all false
set_option Elab.async false
set_option maxRecDepth 100000
namespace LW
open Dl DlM
/-- the line at l has the list of tokens at t, and the next ones are ts -/
def LA (S : Store) (l t : Nat) (ts : List Token) : Prop :=
  ∃ (ds : List D) (m : Nat) (n : Int), S[l]? = some (.ins "Line" [("number", .int n), ("tokens", .ref t), ("many", .int m)]) ∧ S[t]? = some (.lst ds) ∧ t ≠ l ∧ TokDs ts (ds.drop m)
theorem LA.mono {S S' : Store} {l t : Nat} {ts : List Token} {xs : List Nat} (h : LA S l t ts) (f : Fr xs S S') (h1 : l ∉ xs) (h2 : t ∉ xs) : LA S' l t ts := by
  obtain ⟨ds, m, n, e1, e2, e3, e4⟩ := h
  exact ⟨ds, m, n, f.get e1 h1, f.get e2 h2, e3, e4⟩
theorem LA.lt {S : Store} {l t : Nat} {ts : List Token} (h : LA S l t ts) : l < S.length ∧ t < S.length := by
  obtain ⟨ds, m, n, e1, e2, e3, e4⟩ := h
  exact ⟨lt_of_get e1, lt_of_get e2⟩
theorem LA.ins {S : Store} {l t : Nat} {ts : List Token} (h : LA S l t ts) : ∃ fs, insAt S l "Line" = some fs ∧ ∀ m : String, m ≠ "number" → m ≠ "tokens" → m ≠ "many" → getF m fs = none := by
  obtain ⟨ds, m, n, e1, e2, e3, e4⟩ := h
  refine ⟨_, by simp [insAt, e1]; rfl, fun m h1 h2 h3 => ?_⟩
  simp [getF, Ne.symm h1, Ne.symm h2, Ne.symm h3]
/-- what stands next -/
theorem LA.next {S : Store} {l t : Nat} {k : Token} {ts : List Token} (h : LA S l t (k :: ts)) : ∃ (ds : List D) (m : Nat) (n p : Int), S[l]? = some (.ins "Line" [("number", .int n), ("tokens", .ref t), ("many", .int m)]) ∧ S[t]? = some (.lst ds) ∧ t ≠ l ∧
    atI ds (m : Int) = some (.tup [.int p, .str k.kind, k.val]) ∧ TokDs ts (ds.drop (m + 1)) := by
  obtain ⟨ds, m, n, e1, e2, e3, e4⟩ := h
  obtain ⟨p, r, e5, e6⟩ := e4
  have hm : m < ds.length := by
    have := congrArg List.length e5
    simp at this
    omega
  have e7 : ds[m]? = some (.tup [.int p, .str k.kind, k.val]) := by
    have := congrArg (fun z => z[0]?) e5
    simpa using this
  have e8 : ds.drop (m + 1) = r := by
    have := congrArg List.tail e5
    simpa using this
  exact ⟨ds, m, n, p, e1, e2, e3, atI_nat e7, by rw [e8]; exact e6⟩
theorem LA.last {S : Store} {l t : Nat} (h : LA S l t []) : ∃ (ds : List D) (m : Nat) (n p : Int), S[l]? = some (.ins "Line" [("number", .int n), ("tokens", .ref t), ("many", .int m)]) ∧ S[t]? = some (.lst ds) ∧ t ≠ l ∧
    atI ds (m : Int) = some (endD p) := by
  obtain ⟨ds, m, n, e1, e2, e3, p, e5⟩ := h
  have e7 : ds[m]? = some (endD p) := by
    have := congrArg (fun z => z[0]?) e5
    simpa using this
  exact ⟨ds, m, n, p, e1, e2, e3, atI_nat e7⟩
@[scoped simp] theorem fldP_ap (C f : String) (n : Nat) {S : Store} : fldP C f [.ref n] S = (match insAt S n C with | some fs => (match getF f fs with | some d => .ok d S | none => .stuck) | none => .stuck) := id rfl
theorem insAt_set {S : Store} {n : Nat} {C : String} {fs : List (String × D)} (h : n < S.length) : insAt (S.set n (.ins C fs)) n C = some fs := by simp [insAt, h]
theorem c_kind {S : Store} {l t : Nat} {k : Token} {ts : List Token} (h : LA S l t (k :: ts)) : F_Line_kind [.ref l] S = .ok (.str k.kind) S := by
  obtain ⟨ds, m, n, p, e1, e2, e3, e4, e5⟩ := h.next
  refine eq_of_sat (sat_defM rfl ?_)
  simp [insAt, e1, getF, lstAt_of e2, e4]
theorem c_kind_end {S : Store} {l t : Nat} (h : LA S l t []) : F_Line_kind [.ref l] S = .ok (.str [101, 110, 100]) S := by
  obtain ⟨ds, m, n, p, e1, e2, e3, e4⟩ := h.last
  refine eq_of_sat (sat_defM rfl ?_)
  simp [insAt, e1, getF, lstAt_of e2, e4, endD]
theorem c_lvalue {S : Store} {l t : Nat} {k : Token} {ts : List Token} (h : LA S l t (k :: ts)) : F_Line_value [.ref l] S = .ok k.val S := by
  obtain ⟨ds, m, n, p, e1, e2, e3, e4, e5⟩ := h.next
  refine eq_of_sat (sat_defM rfl ?_)
  simp [insAt, e1, getF, lstAt_of e2, e4]
theorem c_word {S : Store} {l t : Nat} {k : Token} {ts : List Token} (h : LA S l t (k :: ts)) : F_Line_word [.ref l] S = .ok (.str (match k with | .wrd w => w | _ => [])) S := by
  obtain ⟨fs, e1, e2⟩ := h.ins
  refine eq_of_sat (sat_defM rfl ?_)
  simp [e1, e2, c_kind h, c_lvalue h]
  cases k <;> simp [Token.kind, Token.val]
theorem c_word_end {S : Store} {l t : Nat} (h : LA S l t []) : F_Line_word [.ref l] S = .ok (.str []) S := by
  obtain ⟨fs, e1, e2⟩ := h.ins
  refine eq_of_sat (sat_defM rfl ?_)
  simp [e1, e2, c_kind_end h]
@[scoped simp] theorem augFP_ap (C f : String) (n : Nat) (j : Int) {S : Store} : augFP C f [.ref n, .int j] S = (match insAt S n C with | some fs => (match getF f fs with | some (.int i) => if fs.length < 100 then .ok .non (S.set n (.ins C (putF f (.int (i + j)) fs))) else .stuck | _ => .stuck) | none => .stuck) := id rfl
@[scoped simp] theorem putFP_ap (C f : String) (n : Nat) (v : D) {S : Store} : putFP C f [v, .ref n] S = (match insAt S n C with | some fs => if fs.length < 100 then .ok .non (S.set n (.ins C (putF f v fs))) else .stuck | none => .stuck) := id rfl
theorem c_ltake {S : Store} {l t : Nat} {k : Token} {ts : List Token} {kd : Cs} (h : LA S l t (k :: ts)) (hk : kd = k.kind) : (F_Line_take [.ref l, .str kd] S).sat fun d S' => d = k.val ∧ LA S' l t ts ∧ Fr [l] S S' := by
  subst hk
  obtain ⟨fs, i1, i2⟩ := h.ins
  obtain ⟨ds, m, n, p, e1, e2, e3, e4, e5⟩ := h.next
  refine sat_defM rfl ?_
  simp [i1, i2, c_kind h, c_lvalue h]
  have i3 : insAt S l "Line" = some [("number", .int n), ("tokens", .ref t), ("many", .int m)] := by simp [insAt, e1]
  rw [i3] at i1
  cases i1
  simp [getF, putF]
  refine ⟨⟨ds, m + 1, n, by rw [List.getElem?_set_self (lt_of_get e1)]; rfl, by rw [List.getElem?_set_ne (Ne.symm e3)]; exact e2, e3, e5⟩, .set (by simp)⟩
theorem c_ltake_end {S : Store} {l t : Nat} {kd : Cs} (h : LA S l t []) (hk : kd = [101, 110, 100]) : (F_Line_take [.ref l, .str kd] S).sat fun d S' => Fr [l] S S' := by
  subst hk
  obtain ⟨fs, i1, i2⟩ := h.ins
  obtain ⟨ds, m, n, p, e1, e2, e3, e4⟩ := h.last
  have ev : F_Line_value [.ref l] S = .ok (.int 0) S := by
    refine eq_of_sat (sat_defM rfl ?_)
    simp [insAt, e1, getF, lstAt_of e2, e4, endD]
  refine sat_defM rfl ?_
  simp [i1, i2, c_kind_end h, ev]
  have i3 : insAt S l "Line" = some [("number", .int n), ("tokens", .ref t), ("many", .int m)] := by simp [insAt, e1]
  rw [i3] at i1
  cases i1
  simp [getF, putF]
  exact .set (by simp)
theorem c_take_int {S : Store} {l t : Nat} {i least : Int} {ts : List Token} (h : LA S l t (.num i :: ts)) (hi : least ≤ i) : (F_Line_take_integer [.ref l, .int least] S).sat fun d S' => d = .int i ∧ LA S' l t ts ∧ Fr [l] S S' := by
  obtain ⟨fs, i1, i2⟩ := h.ins
  have hn : ¬ i < least := by omega
  refine sat_defM rfl ?_
  simp [i1, i2, c_kind h, c_lvalue h, Token.kind, Token.val, hn]
  exact c_ltake h rfl
theorem c_take_val {S : Store} {l t : Nat} {k : Token} {ts : List Token} (h : LA S l t (k :: ts)) (hk : (∃ i, k = .num i) ∨ ∃ w, k = .quo w) : (F_Line_take_value [.ref l] S).sat fun d S' => d = k.val ∧ LA S' l t ts ∧ Fr [l] S S' := by
  obtain ⟨fs, i1, i2⟩ := h.ins
  refine sat_defM rfl ?_
  have hin : inP [.str k.kind, .tup [.str [105, 110, 116, 101, 103, 101, 114], .str [113, 117, 111, 116, 101, 100]]] S = .ok (.bl true) S := by
    rcases hk with ⟨i, rfl⟩ | ⟨w, rfl⟩ <;> rfl
  simp [i1, i2, c_kind h, hin]
  exact c_ltake h rfl
theorem c_take_one {S : Store} {l t : Nat} {w : Cs} {ts : List Token} {ws : List D} (h : LA S l t (.wrd w :: ts)) (hw : Word w) (hl : w.length ≤ 60) (hin : inP [.str w, .tup ws] S = .ok (.bl true) S) : (F_Line_take_one [.ref l, .tup ws] S).sat fun d S' => d = .str w ∧ LA S' l t ts ∧ Fr [l] S S' := by
  obtain ⟨fs, i1, i2⟩ := h.ins
  refine sat_defM rfl ?_
  simp [i1, i2, c_word h, hin]
  exact c_ltake h rfl
end LW

end

section
set_option linter.all false
set_option Elab.async false
set_option maxRecDepth 100000
namespace LW
open Dl DlM
theorem c_init {S : Store} {n : Nat} {x : Cs} {k : Int} {l : List Gap} {z : Nat} (h : S[n]? = some (.ins "Line" [])) (hx : x = asm l z) (ht : Told l z) (hl : x.length ≤ 1000000) (hll : l.length ≤ 100000) :
    (F_Line___init__ [.ref n, .str x, .int k] S).sat fun d S' => d = .non ∧ ∃ t, S.length ≤ t ∧ LA S' n t (l.map (·.2)) ∧ Fr [n] S S' := by
  refine sat_defM rfl ?_
  have hn := lt_of_get h
  have e0 : insAt S n "Line" = some [] := by simp [insAt, h]
  simp [e0, putF]
  refine (c_tokens_of hx ht hl hll).mono ?_
  rintro d S1 ⟨t, ds, rfl, h1, h2, h3, h4⟩
  have e1 : S1[n]? = some (.ins "Line" [("number", .int k)]) := h4.get (by rw [List.getElem?_set_self hn]) (by simp)
  have hn1 := lt_of_get e1
  simp at h1
  have f1 : Fr [n] S S1 := (Fr.set (by simp)).trans h4.nil
  have e2 : insAt S1 n "Line" = some [("number", .int k)] := by simp [insAt, e1]
  simp [e2, putF, insAt_set hn1]
  refine ⟨t, h1, ⟨ds, 0, k, by rw [List.getElem?_set_self hn1]; rfl, by rw [List.getElem?_set_ne (by omega)]; exact h2, by omega, by simpa using h3⟩, f1.trans (.set (by simp))⟩
theorem c_make {S : Store} {x : Cs} {k : Int} {l : List Gap} {z : Nat} (hx : x = asm l z) (ht : Told l z) (hl : x.length ≤ 1000000) (hll : l.length ≤ 100000) :
    (F_Line___init__ [.ref S.length, .str x, .int k] (S ++ [.ins "Line" []])).sat fun d S' => d = .non ∧ ∃ t, S.length < t ∧ LA S' S.length t (l.map (·.2)) ∧ Fr [] S S' := by
  refine (c_init (S := S ++ [.ins "Line" []]) (n := S.length) (k := k) (by simp) hx ht hl hll).mono ?_
  rintro d S1 ⟨rfl, t, h1, h2, h3⟩
  refine ⟨rfl, t, by simp at h1; omega, h2, ?_⟩
  exact ((Fr.app (xs := [S.length])).trans h3).cut fun i hi hlt => by simp at hi; omega
end LW

end

section
set_option linter.all false
set_option Elab.async false
set_option maxRecDepth 100000
namespace LW
open Dl DlM
/-! the reading of a row -/
theorem c_table_of {S : Store} {ts : List Table} {w : Cs} : F_table_of [.tup (ts.map tabD), .str w] S = .ok (match ts.find? (fun t => decide (t.name = w)) with | some t => tabD t | none => .non) S := by
  refine eq_of_sat (sat_defM rfl ?_)
  simp
  refine for_inv (fun k δ S' => S = S' ∧ (∃ a, δ = [some (.tup (ts.map tabD)), some (.str w), a]) ∧ ts.find? (fun t => decide (t.name = w)) = (ts.drop k).find? (fun t => decide (t.name = w))) ⟨rfl, ⟨none, rfl⟩, by simp⟩ (by simp) ?_ ?_
  · rintro k hk δ S' ⟨rfl, ⟨a, rfl⟩, h⟩
    refine ⟨_, rfl, ?_⟩
    simp at hk
    rw [List.drop_eq_getElem_cons hk, List.find?_cons] at h
    simp [tabD]
    by_cases c : ts[k].name = w
    · simp [c] at h
      simp [c, h]
    · simp [c] at h
      simp [c, h]
  · rintro δ S' ⟨rfl, ⟨a, rfl⟩, h⟩
    simp at h
    have e : ts.find? (fun t => decide (t.name = w)) = none := by simpa using h
    simp [e]
def valTok : D → Token
  | .int i => .num i
  | .str w => .quo w
  | _ => .num 0
theorem valTok_val {d : D} (h : Val d) : (valTok d).val = d ∧ ((∃ i, valTok d = .num i) ∨ ∃ w, valTok d = .quo w) := by
  cases h with
  | num i h => exact ⟨rfl, .inl ⟨i, rfl⟩⟩
  | wrd w h hl => exact ⟨rfl, .inr ⟨w, rfl⟩⟩
end LW

end

section
set_option linter.all false
set_option Elab.async false
set_option maxRecDepth 100000
namespace LW
open Dl DlM
theorem big_lt : big < 2 ^ 1900 := by decide +kernel
theorem Num.big {i : Int} (h : Num i) : i.natAbs < LW.big := by
  have e : LW.big = 1000 ^ 20 := by decide +kernel
  rw [e]; exact h
theorem Num.str {i : Int} (h : i.natAbs < LW.big) : i.natAbs < 2 ^ 1900 := Nat.lt_trans h big_lt
/-! the written forms -/
theorem c_write_value {S : Store} {d : D} (h : Val d) : F_write_value [d] S = .ok (.str (valTok d).txt) S := by
  refine eq_of_sat (sat_defM rfl ?_)
  cases h with
  | num i h => simp [isTy, Num.str h.big, valTok, Token.txt, -Nat.reducePow]
  | wrd w h hl => simp [isTy, valTok, Token.txt, le_LIM (show 1 + w.length ≤ 1000000 by omega), le_LIM (show w.length + 1 + 1 ≤ 1000000 by omega)]
theorem c_value_text {S : Store} {d : D} (h : Val d) : F__law_value_text [d] S = .ok (.str (valTok d).txt) S := by
  refine eq_of_sat (sat_defM rfl ?_)
  cases h with
  | num i h => simp [isTy, Num.str h.big, valTok, Token.txt, -Nat.reducePow]
  | wrd w h hl => simp [isTy, valTok, Token.txt, le_LIM (show 1 + w.length ≤ 1000000 by omega), le_LIM (show w.length + 1 + 1 ≤ 1000000 by omega)]
/-- a pure elt over a list that stands still -/
theorem lc_map {still : Store → Bool} {D₀ : Nat} {tg : Tgt} {elt : EM} {xs : List D} {δ : Env} {S : Store} {Q : Unit → Store → Prop} (f : D → D) (h0 : S[D₀]? = some (.lst [])) (hlen : xs.length ≤ LIM)
    (hs : ∀ S', Fr [D₀] S S' → still S' = true)
    (step : ∀ x ∈ xs, ∃ δ1, tg.put x δ = some δ1 ∧ ∀ S', Fr [D₀] S S' → elt δ1 S' = .ok (f x) S')
    (hend : ∀ S', Fr [D₀] S S' → S'[D₀]? = some (.lst (xs.map f)) → Q () S') : (lcLoop still D₀ δ tg yesT elt xs S).sat Q := by
  refine lc_all (fun S' => Fr [D₀] S S') (fun k y => ∃ x, xs[k]? = some x ∧ y = f x) .refl h0 (fun S' v h => h.trans (.set (by simp))) hs hlen ?_ ?_
  · intro k hk S' acc hf hacc
    obtain ⟨δ1, e1, e2⟩ := step xs[k] (List.getElem_mem hk)
    refine ⟨δ1, e1, ?_⟩
    rw [e2 S' hf, Res.sat_ok]
    exact ⟨⟨xs[k], List.getElem?_eq_getElem hk, rfl⟩, hf, hacc⟩
  · intro ys S' hf hys hl hP
    refine hend S' hf ?_
    rw [hys]
    congr 2
    apply List.ext_getElem?
    intro k
    rw [List.getElem?_map]
    cases e : ys[k]? with
    | none =>
      have : ys.length ≤ k := List.getElem?_eq_none_iff.mp e
      rw [List.getElem?_eq_none (by omega)]
      rfl
    | some y =>
      obtain ⟨x, e1, e2⟩ := hP k y e
      rw [e1, e2]
      rfl
theorem fr_app_new {S S' T : Store} {n : Nat} (hn : n = S.length) (h : Fr [n] (S ++ T) S') : Fr [] S S' := by
  subst hn
  exact ((Fr.app (xs := [S.length])).trans h).cut fun i hi hlt => by simp at hi; omega
def txts (ts : List Token) : List Cs := ts.map Token.txt
def vt (v : D) : Cs := (valTok v).txt
/-- name(key|others) -/
def cellsCs (name : Cs) (xs ys : List Cs) : Cs := name ++ (40 :: ((joinCs [44, 32] xs ++ (if xs = [] then [] else [32])) ++ (124 :: (((if ys = [] then [] else [32]) ++ joinCs [44, 32] ys) ++ [41]))))
theorem vt_len {v : D} (h : Val v) : (vt v).length ≤ 62 := by
  cases h with
  | num i h => exact Nat.le_trans (num_len h.big) (by omega)
  | wrd w h hl => simp [vt, valTok, Token.txt]; omega
theorem sum_len {vs : List D} (h : ∀ v ∈ vs, Val v) : ((vs.map vt).map List.length).sum ≤ vs.length * 62 := by
  induction vs with
  | nil => simp
  | cons a r ih =>
    have h1 := vt_len (h a (by simp))
    have h2 := ih fun s hs => h s (List.mem_cons_of_mem _ hs)
    simp only [List.map_cons, List.sum_cons, List.length_cons] at h2 ⊢
    omega
theorem joinCs_len (sep : Cs) : ∀ xs : List Cs, (joinCs sep xs).length ≤ (xs.map List.length).sum + xs.length * sep.length
  | [] => by simp [joinCs]
  | [x] => by simp [joinCs]
  | x :: y :: r => by
    have := joinCs_len sep (y :: r)
    simp only [joinCs, List.length_append, List.map_cons, List.sum_cons, List.length_cons, Nat.add_mul, Nat.one_mul] at this ⊢
    omega
theorem c_write_cells {S : Store} {name : Cs} {a b : Nat} {xs ys : List Cs} (ha : S[a]? = some (.lst (xs.map D.str))) (hb : S[b]? = some (.lst (ys.map D.str))) (hn : name.length ≤ 100) (hx : (xs.map List.length).sum + xs.length * 2 ≤ 10000) (hy : (ys.map List.length).sum + ys.length * 2 ≤ 10000) :
    F_write_cells [.str name, .ref a, .ref b] S = .ok (.str (cellsCs name xs ys)) S := by
  refine eq_of_sat (sat_defM rfl ?_)
  have j1 := joinCs_len [44, 32] xs
  have j2 := joinCs_len [44, 32] ys
  simp only [List.length_cons, List.length_nil] at j1 j2
  have m1 : joinP [.str [44, 32], .ref a] S = .ok (.str (joinCs [44, 32] xs)) S := by
    simp only [joinP_ref, lstAt_of ha, strsOf_map]
    exact if_pos (le_LIM (Nat.le_trans hx (by omega)))
  have m2 : joinP [.str [44, 32], .ref b] S = .ok (.str (joinCs [44, 32] ys)) S := by
    simp only [joinP_ref, lstAt_of hb, strsOf_map]
    exact if_pos (le_LIM (Nat.le_trans hy (by omega)))
  refine sat_seq (fun δ S' => δ = [some (.str name), some (.ref a), some (.ref b), some (.str (joinCs [44, 32] xs)), none] ∧ S = S') (by simp [m1]) ?_
  rintro δ S' ⟨rfl, rfl⟩
  refine sat_seq (fun δ S' => δ = [some (.str name), some (.ref a), some (.ref b), some (.str (joinCs [44, 32] xs)), some (.str (joinCs [44, 32] ys))] ∧ S = S') (by simp [m2]) ?_
  rintro δ S' ⟨rfl, rfl⟩
  refine sat_seq (fun δ S' => δ = [some (.str name), some (.ref a), some (.ref b), some (.str (joinCs [44, 32] xs ++ (if xs = [] then [] else [32]))), some (.str (joinCs [44, 32] ys))] ∧ S = S') ?_ ?_
  · by_cases h0 : xs = []
    · simp [ha, h0, joinCs]
    · have : 0 < xs.length := by
        have : xs.length ≠ 0 := by simpa using h0
        omega
      simp [ha, h0, this, le_LIM (show (joinCs [44, 32] xs).length + 1 ≤ 1000000 by omega)]
  rintro δ S' ⟨rfl, rfl⟩
  refine sat_seq (fun δ S' => δ = [some (.str name), some (.ref a), some (.ref b), some (.str (joinCs [44, 32] xs ++ (if xs = [] then [] else [32]))), some (.str ((if ys = [] then [] else [32]) ++ joinCs [44, 32] ys))] ∧ S = S') ?_ ?_
  · by_cases h0 : ys = []
    · simp [hb, h0, joinCs]
    · have : 0 < ys.length := by
        have : ys.length ≠ 0 := by simpa using h0
        omega
      simp [hb, h0, this, le_LIM (show 1 + (joinCs [44, 32] ys).length ≤ 1000000 by omega)]
  rintro δ S' ⟨rfl, rfl⟩
  have k1 : (joinCs [44, 32] xs ++ (if xs = [] then [] else [32])).length ≤ 10001 := by
    rw [List.length_append]
    split
    · simp; omega
    · simp; omega
  have k2 : ((if ys = [] then [] else [32]) ++ joinCs [44, 32] ys).length ≤ 10001 := by
    rw [List.length_append]
    split
    · simp; omega
    · simp; omega
  unfold cellsCs
  generalize joinCs [44, 32] xs ++ (if xs = [] then [] else [32]) = X at k1
  generalize (if ys = [] then [] else [32]) ++ joinCs [44, 32] ys = Y at k2
  simp [le_LIM (show name.length ≤ 1000000 by omega), le_LIM (show X.length ≤ 1000000 by omega), le_LIM (show Y.length ≤ 1000000 by omega), le_LIM (show name.length + 1 ≤ 1000000 by omega), le_LIM (show name.length + 1 + X.length ≤ 1000000 by omega), le_LIM (show name.length + (X.length + 1) ≤ 1000000 by omega), le_LIM (show name.length + (X.length + 1) + 1 ≤ 1000000 by omega), le_LIM (show name.length + (X.length + 1) + 1 + Y.length ≤ 1000000 by omega)]
  rw [if_pos (le_LIM (by omega)), if_pos (le_LIM (by omega)), if_pos (le_LIM (by omega))]
  simp
end LW

end

section
set_option linter.all false
set_option Elab.async false
set_option maxRecDepth 100000
namespace LW
open Dl DlM
theorem map_seps {α β : Type} (f : α → β) (c : α) (l : List (List α)) : (seps c l).map f = seps (f c) (l.map (List.map f)) := by
  cases l with
  | nil => rfl
  | cons a r =>
    simp [seps, List.map_flatMap, List.flatMap_map]
theorem seps_len {α : Type} (c : α) (b : Nat) : ∀ l : List (List α), (∀ x ∈ l, x.length ≤ b) → (seps c l).length ≤ l.length * (b + 1)
  | [], _ => by simp [seps]
  | a :: r, h => by
    have h1 : ∀ r : List (List α), (∀ x ∈ r, x.length ≤ b) → (r.flatMap fun y => c :: y).length ≤ r.length * (b + 1) := by
      intro r
      induction r with
      | nil => simp
      | cons x r ih =>
        intro h
        have := h x (by simp)
        have := ih fun y hy => h y (List.mem_cons_of_mem _ hy)
        simp only [List.flatMap_cons, List.length_append, List.length_cons, Nat.add_mul, Nat.one_mul] at this ⊢
        omega
    have h2 := h a (by simp)
    have h3 := h1 r fun y hy => h y (List.mem_cons_of_mem _ hy)
    simp only [seps, List.length_append, List.length_cons, Nat.add_mul, Nat.one_mul] at h3 ⊢
    omega
theorem seps_take {α : Type} (c : α) (l : List (List α)) (k : Nat) (hk : k < l.length) : seps c (l.take (k + 1)) = (if k = 0 then [] else seps c (l.take k) ++ [c]) ++ l[k] := by
  rw [List.take_add_one, List.getElem?_eq_getElem hk]
  show seps c (l.take k ++ [l[k]]) = _
  rw [seps_snoc]
  by_cases h : k = 0
  · subst h
    simp
  · have : l.take k ≠ [] := by
      intro e
      have := congrArg List.length e
      rw [List.length_take, List.length_nil] at this
      omega
    rw [if_neg this, if_neg h]
    simp
theorem c_between {S : Store} {n : Nat} {xs : List Cs} {c : Cs} (h : S[n]? = some (.lst (xs.map D.str))) (hl : xs.length ≤ 1000) :
    (F__law_between [.ref n, .str c] S).sat fun d S' => ∃ m, d = .ref m ∧ S.length ≤ m ∧ S'[m]? = some (.lst ((seps c (xs.map fun x => [x])).map D.str)) ∧ Fr [] S S' := by
  have hn := lt_of_get h
  refine sat_defM rfl ?_
  have h0 : (S ++ [MO.lst []])[n]? = some (.lst (xs.map D.str)) := by rw [List.getElem?_append_left hn]; exact h
  refine sat_seq (fun δ S' => δ = [some (.ref n), some (.str c), some (.ref S.length), none] ∧ S' = S ++ [.lst []]) (by simp) ?_
  rintro δ S' ⟨rfl, rfl⟩
  simp [h0, inRange_nat (show xs.length ≤ 1000000000 by omega)]
  refine for_inv (fun k δ S' => (∃ a, δ = [some (.ref n), some (.str c), some (.ref S.length), a]) ∧ S'[S.length]? = some (.lst ((seps c ((xs.map fun x => [x]).take k)).map D.str)) ∧ Fr [] S S') ⟨⟨none, rfl⟩, by simp [seps], .app⟩ (by simp) ?_ ?_
  · rintro k hk δ S1 ⟨⟨a, rfl⟩, h1, f1⟩
    refine ⟨_, rfl, ?_⟩
    rw [rangeL_get]
    rw [rangeL_length] at hk
    have hlen : ∀ j, (seps c ((xs.map fun x => [x]).take j)).length ≤ 4000 := fun j => by
      have := seps_len c 1 ((xs.map fun x => [x]).take j) (by
        intro x hx
        obtain ⟨y, _, rfl⟩ := List.mem_map.mp (List.mem_of_mem_take hx)
        simp)
      rw [List.length_take, List.length_map] at this
      omega
    have hst := seps_take c (xs.map fun x => [x]) k (by simpa using hk)
    refine sat_seq (fun δ S2 => δ = [some (.ref n), some (.str c), some (.ref S.length), some (.int k)] ∧ S2[S.length]? = some (.lst ((if k = 0 then [] else seps c ((xs.map fun x => [x]).take k) ++ [c]).map D.str)) ∧ Fr [] S S2) ?_ ?_
    · by_cases hk0 : k = 0
      · subst hk0
        simp [seps] at h1 ⊢
        exact ⟨h1, f1⟩
      · have : 0 < k := by omega
        have hl2 := hlen k
        generalize seps c ((xs.map fun x => [x]).take k) = L at h1 hl2
        simp [this, h1, hk0, lt_LIM (show L.length ≤ 1000000 by omega)]
        refine ⟨?_, f1.set_new (Nat.le_refl _)⟩
        rw [List.getElem?_set_self (lt_of_get h1)]
    rintro δ S2 ⟨rfl, h2, f2⟩
    have hx : S2[n]? = some (.lst (xs.map D.str)) := f2.get h (by simp)
    have e1 : atI (xs.map D.str) (k : Int) = some (.str xs[k]) := atI_nat (by simp [hk])
    have hl3 := hlen (k + 1)
    rw [hst] at hl3 ⊢
    generalize (if k = 0 then [] else seps c ((xs.map fun x => [x]).take k) ++ [c]) = L at h2 hl3
    simp at hl3
    simp [h2, lstAt_of hx, e1, lt_LIM (show L.length ≤ 1000000 by omega)]
    refine ⟨?_, f2.set_new (Nat.le_refl _)⟩
    rw [List.getElem?_set_self (lt_of_get h2)]
  · rintro δ S1 ⟨⟨a, rfl⟩, h1, f1⟩
    rw [rangeL_length] at h1
    simp
    refine ⟨?_, f1⟩
    rw [h1, List.take_of_length_le (by simp)]
end LW

end

section
set_option linter.all false
set_option Elab.async false
set_option maxRecDepth 100000
namespace LW
open Dl DlM
/-- the texts of a row's tokens -/
def rowTx (name : Cs) (xs ys : List Cs) : List Cs := name :: [40] :: (seps [44] (xs.map fun x => [x]) ++ [124] :: (seps [44] (ys.map fun x => [x]) ++ [[41]]))
theorem seps1_len (c : Cs) (xs : List Cs) : (seps c (xs.map fun x => [x])).length ≤ xs.length * 2 := by
  have := seps_len c 1 (xs.map fun x => [x]) (by
    intro x hx
    obtain ⟨y, _, rfl⟩ := List.mem_map.mp hx
    simp)
  rwa [List.length_map] at this
theorem add_lists {S : Store} {n m : Nat} {xs ys : List D} (h1 : S[n]? = some (.lst xs)) (h2 : S[m]? = some (.lst ys)) (hl : xs.length + ys.length ≤ 1000000) : addP [.ref n, .ref m] S = .ok (.ref S.length) (S ++ [.lst (xs ++ ys)]) := by
  simp [h1, h2, le_LIM hl]
theorem app_get {S T : Store} {n : Nat} {v : MO} (h : S[n]? = some v) : (S ++ T)[n]? = some v := by rw [List.getElem?_append_left (lt_of_get h)]; exact h
theorem c_cells_texts {S : Store} {name : Cs} {n key : Nat} {xs : List Cs} (h : S[n]? = some (.lst (xs.map D.str))) (hl : xs.length ≤ 100) (hk : key ≤ xs.length) :
    (F__law_cells_texts [.str name, .ref n, .int key] S).sat fun d S' => ∃ m, d = .ref m ∧ S.length ≤ m ∧ S'[m]? = some (.lst ((rowTx name (xs.take key) (xs.drop key)).map D.str)) ∧ Fr [] S S' := by
  refine sat_defM rfl ?_
  have hneg : ¬ ((key : Int) < 0) := by omega
  have c1 : ∀ T : Store, lstAt (S ++ T) n = some (xs.map D.str) := fun T => lstAt_of (app_get h)
  have c2 : cut (xs.map D.str) none (some (key : Int)) = (xs.take key).map D.str := by rw [cut_to, List.map_take]
  have c3 : cut (xs.map D.str) (some (key : Int)) none = (xs.drop key).map D.str := by rw [cut_from, List.map_drop]
  have b1 := seps1_len [44] (xs.take key)
  have b2 := seps1_len [44] (xs.drop key)
  rw [List.length_take] at b1
  rw [List.length_drop] at b2
  generalize hA : seps [44] ((xs.take key).map fun x => [x]) = A at b1
  generalize hB : seps [44] ((xs.drop key).map fun x => [x]) = B at b2
  refine sat_seq (fun δ S' => δ = [some (.str name), some (.ref n), some (.int key), none] ∧ S = S') (by simp [hneg]) ?_
  rintro δ _ ⟨rfl, rfl⟩
  refine sat_seq (fun δ S' => ∃ q, δ = [some (.str name), some (.ref n), some (.int key), some (.ref q)] ∧ S.length ≤ q ∧ S'[q]? = some (.lst ((name :: [40] :: (A ++ [[124]])).map D.str)) ∧ Fr [] S S') ?_ ?_
  · simp [c1, c2]
    refine (c_between (xs := xs.take key) (by rw [List.getElem?_append_right (by omega)]; simp) (by simp; omega)).mono ?_
    rintro d S1 ⟨m1, rfl, l1, e1, f1⟩
    rw [hA] at e1
    have e0 : S1[S.length]? = some (.lst [.str name, .str [40]]) := f1.get (by simp) (by simp)
    simp [add_lists e0 e1 (by simp; omega)]
    have e2 : (S1 ++ [MO.lst (D.str name :: D.str [40] :: List.map D.str A), MO.lst [D.str [124]]])[S1.length]? = some (.lst (D.str name :: D.str [40] :: List.map D.str A)) := by simp
    have e3 : (S1 ++ [MO.lst (D.str name :: D.str [40] :: List.map D.str A), MO.lst [D.str [124]]])[S1.length + 1]? = some (.lst [D.str [124]]) := by rw [List.getElem?_append_right (by omega)]; simp
    have e4 := add_lists e2 e3 (by simp; omega)
    simp at e4
    simp [e4]
    have f0 : Fr [] S S1 := Fr.app.trans f1
    exact ⟨by have := f0.le; omega, f0.push⟩
  rintro δ S1 ⟨q, rfl, hq, e1, f1⟩
  have h1 : S1[n]? = some (.lst (xs.map D.str)) := f1.get h (by simp)
  simp [lstAt_of h1, c3]
  refine (c_between (xs := xs.drop key) (n := S1.length) (by simp) (by simp; omega)).mono ?_
  rintro d S2 ⟨m2, rfl, l2, e2, f2⟩
  rw [hB] at e2
  have e1' : S2[q]? = some (.lst ((name :: [40] :: (A ++ [[124]])).map D.str)) := f2.get (app_get e1) (by simp)
  simp [add_lists e1' e2 (by simp; omega)]
  have e5 : (S2 ++ [MO.lst (D.str name :: D.str [40] :: (List.map D.str A ++ D.str [124] :: List.map D.str B)), MO.lst [D.str [41]]])[S2.length]? = some (.lst (D.str name :: D.str [40] :: (List.map D.str A ++ D.str [124] :: List.map D.str B))) := by simp
  have e6 : (S2 ++ [MO.lst (D.str name :: D.str [40] :: (List.map D.str A ++ D.str [124] :: List.map D.str B)), MO.lst [D.str [41]]])[S2.length + 1]? = some (.lst [D.str [41]]) := by rw [List.getElem?_append_right (by omega)]; simp
  have e7 := add_lists e5 e6 (by simp; omega)
  simp at e7
  simp [e7]
  have f0 : Fr [] S S2 := f1.trans (Fr.app.trans f2)
  refine ⟨by have := f0.le; omega, ?_, f0.push⟩
  unfold rowTx
  rw [hA, hB]
  simp
/-! lines -/
/-- no blank between -/
def tight (p t : Token) : Prop := t = .sg 44 ∨ t = .sg 41 ∨ t = .sg 40 ∨ p = .sg 40
instance (p t : Token) : Decidable (tight p t) := by unfold tight; exact inferInstance
def gap : Option Token → Token → Nat
  | none, _ => 0
  | some p, t => if tight p t then 0 else 1
def tg : Option Token → List Token → List Gap
  | _, [] => []
  | p, t :: r => (gap p t, t) :: tg (some t) r
def lineCs (ts : List Token) : Cs := asm (tg none ts) 0
theorem asm_snoc : ∀ (l : List Gap) (g : Nat) (t : Token) (z : Nat), asm (l ++ [(g, t)]) z = asm l 0 ++ (List.replicate g 32 ++ (t.txt ++ List.replicate z 32))
  | [], g, t, z => by simp [asm]
  | (g', t') :: r, g, t, z => by
    have := asm_snoc r g t z
    simp only [List.cons_append, asm, this, List.append_assoc]
theorem tg_snoc : ∀ (l : List Token) (p : Option Token) (t : Token), tg p (l ++ [t]) = tg p l ++ [(gap (l.getLast?.or p) t, t)]
  | [], p, t => by simp [tg]
  | a :: r, p, t => by
    have := tg_snoc r (some a) t
    simp only [List.cons_append, tg, this]
    congr 2
    cases r with
    | nil => simp
    | cons b r => simp [List.getLast?_cons]
theorem txt_sg {t : Token} (h : Good t) {c : Nat} (hc : c ∈ signs) : t.txt = [c] ↔ t = .sg c := by
  rw [mem_signs] at hc
  cases h with
  | sg c' h => simp [Token.txt]
  | quo w h => simp [Token.txt]
  | wrd w h hl =>
    simp [Token.txt]
    rintro rfl
    have := h.all c (by simp)
    unfold letter at this
    omega
  | num i h =>
    simp [Token.txt]
    intro e
    have : c = 45 ∨ (48 ≤ c ∧ c ≤ 57) := by
      unfold intCs at e
      split at e
      · left; exact (List.cons.inj e).1.symm
      · right; exact natCs_digit _ c (by rw [e]; simp)
    omega
theorem txt_len {t : Token} (h : Good t) : t.txt.length ≤ 62 := by
  cases h with
  | sg c' h => simp [Token.txt]
  | quo w h => simp [Token.txt]; omega
  | wrd w h hl => simp [Token.txt]; omega
  | num i h => exact Nat.le_trans (num_len h) (by omega)
theorem asm_len {b z : Nat} : ∀ {l : List Gap}, (∀ p ∈ l, p.1 ≤ b ∧ Good p.2) → (asm l z).length ≤ l.length * (b + 62) + z
  | [], _ => by simp [asm]
  | (g, t) :: r, h => by
    obtain ⟨h1, h2⟩ := h (g, t) (by simp)
    have h3 := txt_len h2
    have h4 := asm_len (z := z) fun p hp => h p (List.mem_cons_of_mem _ hp)
    simp only [asm, List.length_append, List.length_replicate, List.length_cons, Nat.add_mul, Nat.one_mul] at h1 h3 ⊢
    omega
theorem tg_mem : ∀ (l : List Token) (p : Option Token) (q : Gap), q ∈ tg p l → q.1 ≤ 1 ∧ q.2 ∈ l
  | [], p, q, h => by simp [tg] at h
  | a :: r, p, q, h => by
    rcases List.mem_cons.mp h with rfl | h
    · refine ⟨?_, by simp⟩
      cases p with
      | none => simp [gap]
      | some p => simp only [gap]; split <;> omega
    · have := tg_mem r _ q h
      exact ⟨this.1, List.mem_cons_of_mem _ this.2⟩
theorem tg_len : ∀ (l : List Token) (p : Option Token), (tg p l).length = l.length
  | [], p => rfl
  | a :: r, p => by simp [tg, tg_len r]
theorem c_line_text {S : Store} {n : Nat} {ts : List Token} (h : S[n]? = some (.lst ((txts ts).map D.str))) (hg : ∀ t ∈ ts, Good t) (hl : ts.length ≤ 1000) :
    (F__law_line_text [.ref n] S).sat fun d S' => d = .str (lineCs ts) ∧ Fr [] S S' := by
  have hn := lt_of_get h
  refine sat_defM rfl ?_
  have htl : (txts ts).length = ts.length := by simp [txts]
  refine sat_seq (fun δ S' => δ = [some (.ref n), some (.str []), none, none] ∧ S = S') (by simp) ?_
  rintro δ _ ⟨rfl, rfl⟩
  simp [h, htl, inRange_nat (show ts.length ≤ 1000000000 by omega)]
  refine for_inv (fun k δ S' => (∃ a b, δ = [some (.ref n), some (.str (asm (tg none (ts.take k)) 0)), a, b]) ∧ Fr [] S S') ⟨⟨none, none, by simp [tg, asm]⟩, .refl⟩ (by simp) ?_ ?_
  · rintro k hk δ S1 ⟨⟨a, b, rfl⟩, f1⟩
    refine ⟨_, rfl, ?_⟩
    rw [rangeL_get]
    rw [rangeL_length] at hk
    have h1 : S1[n]? = some (.lst ((txts ts).map D.str)) := f1.get h (by simp)
    have e1 : atI ((txts ts).map D.str) (k : Int) = some (.str ts[k].txt) := atI_nat (by simp [txts, hk])
    have gk := hg _ (List.getElem_mem hk)
    have hsn : asm (tg none (ts.take (k + 1))) 0 = asm (tg none (ts.take k)) 0 ++ (List.replicate (gap (ts.take k).getLast? ts[k]) 32 ++ ts[k].txt) := by
      rw [List.take_add_one, List.getElem?_eq_getElem hk]
      show asm (tg none (ts.take k ++ [ts[k]])) 0 = _
      rw [tg_snoc, asm_snoc]
      simp
    have hal : (asm (tg none (ts.take k)) 0).length ≤ 63000 := by
      have := asm_len (b := 1) (z := 0) (l := tg none (ts.take k)) fun p hp => by
        obtain ⟨q1, q2⟩ := tg_mem _ _ _ hp
        exact ⟨q1, hg _ (List.mem_of_mem_take q2)⟩
      rw [tg_len, List.length_take] at this
      omega
    have htk := txt_len gk
    refine sat_seq (fun δ S2 => δ = [some (.ref n), some (.str (asm (tg none (ts.take k)) 0)), some (.int k), some (.bl (decide (gap (ts.take k).getLast? ts[k] = 0)))] ∧ Fr [] S S2) ?_ ?_
    · have hin : ∀ T : Store, inP [.str ts[k].txt, .ref T.length] (T ++ [.lst [.str [44], .str [41], .str [40]]]) = .ok (.bl (decide (ts[k].txt ∈ [[44], [41], [40]]))) (T ++ [.lst [.str [44], .str [41], .str [40]]]) := fun T =>
        inP_strs (ws := [[44], [41], [40]]) (by simp)
      by_cases hk0 : k = 0
      · subst hk0
        simp [gap]
        exact f1
      · have hk1 : ¬ ((k : Int) = 0) := by omega
        have hpk : k - 1 < ts.length := by omega
        have gp := hg _ (List.getElem_mem hpk)
        have e2 : atI ((txts ts).map D.str) ((k : Int) - 1) = some (.str ts[k - 1].txt) := by
          have : ((k : Int) - 1) = ((k - 1 : Nat) : Int) := by omega
          rw [this]
          exact atI_nat (by simp [txts, hpk])
        have hlast : (ts.take k).getLast? = some ts[k - 1] := by
          rw [List.getLast?_eq_getElem?, List.length_take, Nat.min_eq_left (by omega), List.getElem?_take_of_lt (by omega)]
          exact List.getElem?_eq_getElem hpk
        have h1' : ∀ T : Store, lstAt (S1 ++ T) n = some ((txts ts).map D.str) := fun T => lstAt_of (app_get h1)
        simp [hk0, lstAt_of h1, e1, hin, hlast, gap]
        by_cases ht : ts[k].txt = [44] ∨ ts[k].txt = [41] ∨ ts[k].txt = [40]
        · have : tight ts[k - 1] ts[k] := by
            unfold tight
            rw [txt_sg gk (by decide), txt_sg gk (by decide), txt_sg gk (by decide)] at ht
            rcases ht with ht | ht | ht
            · exact .inl ht
            · exact .inr (.inl ht)
            · exact .inr (.inr (.inl ht))
          simp [ht, this]
          exact f1.push
        · simp [ht, h1', e2]
          have e3 : (ts[k - 1].txt = [40]) ↔ tight ts[k - 1] ts[k] := by
            rw [txt_sg gp (by decide)]
            unfold tight
            rw [txt_sg gk (by decide), txt_sg gk (by decide), txt_sg gk (by decide)] at ht
            constructor
            · exact fun z => .inr (.inr (.inr z))
            · rintro (z | z | z | z)
              · exact absurd (.inl z) ht
              · exact absurd (.inr (.inl z)) ht
              · exact absurd (.inr (.inr z)) ht
              · exact z
          refine ⟨?_, f1.push⟩
          by_cases z : tight ts[k - 1] ts[k]
          · simp [z, e3.mpr z]
          · have : ¬ (ts[k - 1].txt = [40]) := fun q => z (e3.mp q)
            simp [z, this]
    rintro δ S2 ⟨rfl, f2⟩
    have h2 : S2[n]? = some (.lst ((txts ts).map D.str)) := f2.get h (by simp)
    rw [hsn]
    generalize asm (tg none (ts.take k)) 0 = X at hal
    have hgap : gap (ts.take k).getLast? ts[k] = 0 ∨ gap (ts.take k).getLast? ts[k] = 1 := by
      cases (ts.take k).getLast? with
      | none => simp [gap]
      | some p => simp only [gap]; split <;> simp
    rcases hgap with hgp | hgp
    · simp [hgp, lstAt_of h2, e1, le_LIM (show X.length + ts[k].txt.length ≤ 1000000 by omega)]
      exact f2
    · simp [hgp, lstAt_of h2, e1, le_LIM (show X.length + 1 ≤ 1000000 by omega), le_LIM (show X.length + 1 + ts[k].txt.length ≤ 1000000 by omega)]
      exact f2
  · rintro δ S1 ⟨⟨a, b, rfl⟩, f1⟩
    rw [rangeL_length, List.take_length]
    simp
    exact ⟨rfl, f1⟩
end LW

end

section
set_option linter.all false
set_option Elab.async false
set_option maxRecDepth 100000
namespace LW
open Dl DlM
def Free : Token → Token → Prop
  | .wrd _, .wrd _ => False
  | .num _, .num j => j < 0
  | _, _ => True
def GapsOk : List Gap → Prop
  | (_, t) :: (g', t') :: r => (0 < g' ∨ Free t t') ∧ GapsOk ((g', t') :: r)
  | _ => True
theorem head_cases {t : Token} (h : Good t) {c : Nat} (hc : t.txt.head? = some c) : match t with
    | .wrd _ => letter c
    | .num i => if i < 0 then c = 45 else 48 ≤ c ∧ c ≤ 57
    | .quo _ => c = 34
    | .sg d => c = d := by
  cases h with
  | sg c' h => cases hc; rfl
  | quo w h => cases hc; rfl
  | wrd w h hl =>
    obtain ⟨d, u, e⟩ := List.exists_cons_of_ne_nil h.ne
    subst e
    cases hc
    exact h.all c (by simp)
  | num i h =>
    have hc' : (intCs i).head? = some c := hc
    unfold intCs at hc'
    by_cases hi : i < 0
    · rw [if_pos hi] at hc'
      cases hc'
      show (if i < 0 then _ else _)
      rw [if_pos hi]
    · rw [if_neg hi] at hc'
      obtain ⟨d, u, e⟩ := List.exists_cons_of_ne_nil (natCs_ne i.natAbs)
      rw [e] at hc'
      cases hc'
      show (if i < 0 then _ else _)
      rw [if_neg hi]
      exact natCs_digit i.natAbs c (by rw [e]; simp)
theorem head_rep {g : Nat} {y : Cs} {c : Nat} (h : (List.replicate g 32 ++ y).head? = some c) : (0 < g ∧ c = 32) ∨ (g = 0 ∧ y.head? = some c) := by
  cases g with
  | zero => right; exact ⟨rfl, by simpa using h⟩
  | succ g => left; simp [List.replicate_succ] at h; exact ⟨by omega, h.symm⟩
theorem head_app {a y : Cs} (h : a ≠ []) : (a ++ y).head? = a.head? := by
  cases a with
  | nil => exact absurd rfl h
  | cons x r => rfl
theorem delim_end {t : Token} {z : Nat} : Delim t (List.replicate z 32) := by
  have h : ∀ c, (List.replicate z 32).head? = some c → c = 32 := fun c hc => by
    have : (List.replicate z 32 ++ []).head? = some c := by simpa using hc
    rcases head_rep this with ⟨_, q⟩ | ⟨_, q⟩
    · exact q
    · simp at q
  cases t with
  | wrd w => exact fun c hc => by rw [h c hc]; decide
  | num i => exact fun c hc => by rw [h c hc]; decide
  | quo w => trivial
  | sg c => trivial
theorem delim_next {t t' : Token} {g : Nat} {y : Cs} (hg : Good t') (h : 0 < g ∨ Free t t') : Delim t (List.replicate g 32 ++ (t'.txt ++ y)) := by
  have key : ∀ c, (List.replicate g 32 ++ (t'.txt ++ y)).head? = some c → (c = 32) ∨ (Free t t' ∧ t'.txt.head? = some c) := fun c hc => by
    rcases head_rep hc with ⟨_, q⟩ | ⟨q1, q2⟩
    · exact .inl q
    · rcases h with h | h
      · omega
      · rw [head_app (txt_ne hg)] at q2
        exact .inr ⟨h, q2⟩
  cases t with
  | quo w => trivial
  | sg c => trivial
  | wrd w =>
    intro c hc
    rcases key c hc with rfl | ⟨h1, h2⟩
    · decide
    · have h3 := head_cases hg h2
      rw [mem_letters]
      unfold letter
      cases hg with
      | wrd w' _ _ => exact absurd h1 (by simp [Free])
      | num i _ => simp only at h3; split at h3 <;> omega
      | quo w' _ _ => simp only at h3; omega
      | sg d hd => simp only at h3; rw [mem_signs] at hd; omega
  | num i =>
    intro c hc
    rcases key c hc with rfl | ⟨h1, h2⟩
    · decide
    · have h3 := head_cases hg h2
      rw [mem_digits]
      cases hg with
      | wrd w' _ _ => simp only at h3; unfold letter at h3; omega
      | num j _ =>
        have : j < 0 := h1
        simp only [if_pos this] at h3
        omega
      | quo w' _ _ => simp only at h3; omega
      | sg d hd => simp only at h3; rw [mem_signs] at hd; omega
theorem told_of : ∀ {l : List Gap} {z : Nat}, (∀ p ∈ l, Good p.2) → GapsOk l → Told l z
  | [], z, _, _ => trivial
  | [(g, t)], z, h, _ => ⟨h (g, t) (by simp), delim_end, trivial⟩
  | (g, t) :: (g', t') :: r, z, h, hg => ⟨h (g, t) (by simp), delim_next (h (g', t') (by simp)) hg.1, told_of (fun p hp => h p (List.mem_cons_of_mem _ hp)) hg.2⟩
theorem tg_ok : ∀ (ts : List Token) (p : Option Token), GapsOk (tg p ts)
  | [], p => trivial
  | [t], p => trivial
  | t :: t' :: r, p => by
    refine ⟨?_, tg_ok (t' :: r) (some t)⟩
    show 0 < gap (some t) t' ∨ Free t t'
    unfold gap
    simp only
    split
    · rename_i h
      right
      rcases h with rfl | rfl | rfl | rfl
      · cases t <;> trivial
      · cases t <;> trivial
      · cases t <;> trivial
      · cases t' <;> trivial
    · left; omega
theorem tg_map : ∀ (ts : List Token) (p : Option Token), (tg p ts).map (·.2) = ts
  | [], p => rfl
  | t :: r, p => by simp [tg, tg_map r]
/-! the written forms are so -/
def lineF (p : Token) (ts : List Token) : Cs := asm (tg (some p) ts) 0
theorem lineF_cons (p t : Token) (ts : List Token) : lineF p (t :: ts) = List.replicate (gap (some p) t) 32 ++ (t.txt ++ lineF t ts) := rfl
theorem lineCs_cons (t : Token) (ts : List Token) : lineCs (t :: ts) = t.txt ++ lineF t ts := rfl
theorem joinCs_cons (sep x : Cs) (xs : List Cs) : joinCs sep (x :: xs) = x ++ xs.flatMap fun y => sep ++ y := by
  induction xs generalizing x with
  | nil => simp [joinCs]
  | cons y r ih => simp [joinCs, ih]
end LW

end

section
set_option linter.all false
set_option Elab.async false
set_option maxRecDepth 100000
namespace LW
open Dl DlM
theorem c_law_run {S : Store} {x a y cs : Cs} {at_ : Int} (hx : x = a ++ y) (ha : at_ = a.length) (hl : x.length ≤ 1000000) : F__law_run [.str x, .int at_, .str cs] S = .ok (.int (at_ + run cs y)) S := by
  subst ha
  refine eq_of_sat (sat_defM rfl ?_)
  have hxl : x.length = a.length + y.length := by rw [hx, List.length_append]
  have hr := run_le cs y
  have hrl : (rangeL (a.length : Int) x.length).length = y.length := by rw [rangeL_len2]; omega
  simp [le_LIM hl, inRange_nat (show a.length ≤ 1000000000 by omega), inRange_nat (show x.length ≤ 1000000000 by omega)]
  refine for_inv (fun k δ S' => (∃ b, δ = [some (.str x), some (.int a.length), some (.str cs), b]) ∧ S = S' ∧ k ≤ run cs y) ⟨⟨none, rfl⟩, rfl, by omega⟩ (by simp) ?_ ?_
  · rintro k hk δ S' ⟨⟨b, rfl⟩, rfl, h1⟩
    refine ⟨_, rfl, ?_⟩
    rw [rangeL_get2]
    rw [hrl] at hk
    have e1 : atI x ((a.length : Int) + k) = some y[k] := by
      have : ((a.length : Int) + k) = ((a.length + k : Nat) : Int) := by omega
      rw [this]
      refine atI_nat ?_
      rw [hx, List.getElem?_append_right (by omega)]
      simp [hk]
    by_cases h2 : y[k] ∈ cs
    · have h3 : k ≠ run cs y := fun e => run_stop cs y y[k] (by rw [← e]; exact List.getElem?_eq_getElem hk) h2
      simp [le_LIM hl, e1, h2]
      omega
    · have h3 : ¬ k < run cs y := fun h => by
        obtain ⟨d, e3, e4⟩ := run_lt cs y k h
        rw [List.getElem?_eq_getElem hk] at e3
        cases e3
        exact h2 e4
      simp [le_LIM hl, e1, h2]
      omega
  · rintro δ S' ⟨⟨b, rfl⟩, rfl, h1⟩
    rw [hrl] at h1
    simp [le_LIM hl]
    omega
/-- where the token at a ++ y ends, as the law's own reading has it: so much of y -/
def tokEnd (y : Cs) : Nat :=
  match y with
  | [] => 0
  | c :: r =>
    if c ∈ signs then 1
    else if c ∈ letters then run letters y
    else if c = 34 then (if 0 < run letters r ∧ r[run letters r]? = some 34 then run letters r + 2 else 0)
    else
      let p := if c = 45 then 1 else 0
      let n := run digits (y.drop p)
      if n = 0 ∨ ((y.drop p)[0]? = some 48 ∧ y.take (p + n) ≠ [48]) then 0 else p + n
theorem tokEnd_le (y : Cs) : tokEnd y ≤ y.length := by
  cases y with
  | nil => simp [tokEnd]
  | cons c r =>
    have h1 := run_le letters (c :: r)
    have key : ∀ p, p ≤ (c :: r).length → (if run digits ((c :: r).drop p) = 0 ∨ (((c :: r).drop p)[0]? = some 48 ∧ (c :: r).take (p + run digits ((c :: r).drop p)) ≠ [48]) then 0 else p + run digits ((c :: r).drop p)) ≤ (c :: r).length := by
      intro p hp
      have h2 := run_le digits ((c :: r).drop p)
      rw [List.length_drop] at h2
      split <;> omega
    unfold tokEnd
    simp only
    split
    · simp
    · split
      · exact h1
      · split
        · split
          · rename_i h
            have := (List.getElem?_eq_some_iff.mp h.2).1
            simp only [List.length_cons]
            omega
          · omega
        · refine key _ ?_
          split <;> simp
theorem cut_past {α : Type} {x : List α} {lo : Int} {hi : Option Int} (h : lo = x.length) : cut x (some lo) hi = [] := by
  subst h
  unfold cut
  have : sIx x.length 0 (some (x.length : Int)) = x.length := by
    unfold sIx
    simp only []
    rw [if_neg (by omega)]
    simp
  rw [this, List.drop_length]
  simp
theorem c_token_end {S : Store} {x a y : Cs} (hx : x = a ++ y) (hy : y ≠ []) (hl : x.length ≤ 1000000) : F__law_token_end [.str x, .int a.length] S = .ok (.int (a.length + tokEnd y)) S := by
  obtain ⟨c, r, rfl⟩ := List.exists_cons_of_ne_nil hy
  have hxl : x.length = a.length + (r.length + 1) := by rw [hx]; simp
  have a1 : atI x (a.length : Int) = some c := atI_is hx rfl
  refine eq_of_sat (sat_defM rfl ?_)
  have r1 : ∀ {S}, F__law_run [.str x, .int a.length, .str letters] S = .ok (.int (a.length + run letters (c :: r))) S := c_law_run hx rfl hl
  have r2 : ∀ {S}, F__law_run [.str x, .int (a.length + 1), .str letters] S = .ok (.int (a.length + 1 + run letters r)) S := c_law_run (a := a ++ [c]) (y := r) (by rw [hx]; simp) (by simp) hl
  have hd : (D.str [97, 98, 99, 100, 101, 102, 103, 104, 105, 106, 107, 108, 109, 110, 111, 112, 113, 114, 115, 116, 117, 118, 119, 120, 121, 122]) = .str letters := rfl
  have hs : (D.str [40, 41, 44, 124]) = .str signs := rfl
  refine sat_seq (fun δ S' => δ = [some (.str x), some (.int a.length), some (.str letters), none, none, none] ∧ S = S') (by simp [hd]) ?_
  rintro δ _ ⟨rfl, rfl⟩
  simp only [hs]
  unfold tokEnd
  simp only
  by_cases h1 : c ∈ signs
  · simp [le_LIM hl, a1, h1]
  rw [if_neg h1]
  refine sat_seq (fun δ S' => δ = [some (.str x), some (.int a.length), some (.str letters), none, none, none] ∧ S = S') (by simp [le_LIM hl, a1, h1]) ?_
  rintro δ _ ⟨rfl, rfl⟩
  by_cases h2 : c ∈ letters
  · simp [le_LIM hl, a1, h2, r1]
  rw [if_neg h2]
  refine sat_seq (fun δ S' => δ = [some (.str x), some (.int a.length), some (.str letters), none, none, none] ∧ S = S') (by simp [le_LIM hl, a1, h2]) ?_
  rintro δ _ ⟨rfl, rfl⟩
  by_cases h3 : c = 34
  · subst h3
    simp only [if_true]
    have hrl := run_le letters r
    by_cases h4 : run letters r = 0
    · simp [le_LIM hl, a1, r2, h4]
    · have h5 : (a.length : Int) + 1 < a.length + 1 + run letters r := by omega
      have h6 : 0 < run letters r := by omega
      simp [le_LIM hl, a1, r2, h4, h5, h6]
      have hcut : cut x (some ((a.length : Int) + 1 + run letters r)) (some (a.length + 1 + run letters r + 1)) = (r.drop (run letters r)).take 1 := by
        have e : x = (a ++ [34] ++ r.take (run letters r)) ++ ((r.drop (run letters r)).take 1 ++ (r.drop (run letters r)).drop 1) := by
          rw [List.take_append_drop]
          simp [hx]
        by_cases hq : run letters r < r.length
        · refine cut_is e ?_ ?_
          · simp; omega
          · simp; omega
        · have h7 : run letters r = r.length := by omega
          rw [h7, List.drop_length, cut_past (by omega)]
          simp
      rw [hcut]
      cases h7 : r[run letters r]? with
      | none =>
        rw [List.drop_eq_nil_of_le (List.getElem?_eq_none_iff.mp h7)]
        simp
      | some d =>
        have h8 := (List.getElem?_eq_some_iff.mp h7)
        rw [List.drop_eq_getElem_cons h8.1, h8.2]
        by_cases hd : d = 34
        · simp [hd]; omega
        · simp [hd]
  rw [if_neg h3]
  refine sat_seq (fun δ S' => δ = [some (.str x), some (.int a.length), some (.str letters), none, none, none] ∧ S = S') (by simp [le_LIM hl, a1, h3]) ?_
  rintro δ _ ⟨rfl, rfl⟩
  have hdg : (D.str [48, 49, 50, 51, 52, 53, 54, 55, 56, 57]) = .str digits := rfl
  simp only [hdg]
  obtain ⟨p, hp, hp2⟩ : ∃ p : Nat, (if c = 45 then 1 else 0) = p ∧ p ≤ 1 := by
    split
    · exact ⟨1, rfl, by omega⟩
    · exact ⟨0, rfl, by omega⟩
  rw [hp]
  have hpl : p ≤ (c :: r).length := by simp; omega
  refine sat_seq (fun δ S' => δ = [some (.str x), some (.int a.length), some (.str letters), none, some (.int (a.length + p)), none] ∧ S = S') ?_ ?_
  · by_cases h4 : c = 45
    · simp [h4] at hp
      simp [le_LIM hl, a1, h4, b2i, ← hp]
    · simp [h4] at hp
      simp [le_LIM hl, a1, h4, b2i, ← hp]
  rintro δ _ ⟨rfl, rfl⟩
  generalize hyd : (c :: r).drop p = y'
  have hx2 : x = (a ++ (c :: r).take p) ++ y' := by rw [← hyd, List.append_assoc, List.take_append_drop]; exact hx
  have hap : ((a ++ (c :: r).take p).length : Int) = a.length + p := by simp; omega
  have r3 : ∀ {S}, F__law_run [.str x, .int (a.length + p), .str digits] S = .ok (.int (a.length + p + run digits y')) S := c_law_run hx2 hap.symm hl
  have hrl := run_le digits y'
  have hc1 : cut x (some ((a.length : Int) + p)) (some (a.length + p + run digits y')) = y'.take (run digits y') := by
    refine cut_is (a := a ++ (c :: r).take p) (c := y'.drop (run digits y')) (by rw [List.take_append_drop]; exact hx2) hap.symm ?_
    rw [hap, List.length_take, Nat.min_eq_left hrl]
  have hc2 : cut x (some (a.length : Int)) (some (a.length + p + run digits y')) = (c :: r).take (p + run digits y') := by
    have hle : p + run digits y' ≤ (c :: r).length := by
      rw [← hyd, List.length_drop] at hrl
      rw [hyd] at hrl
      omega
    refine cut_is (a := a) (c := (c :: r).drop (p + run digits y')) (by rw [List.take_append_drop]; exact hx) rfl ?_
    rw [List.length_take, Nat.min_eq_left hle]
    omega
  generalize hn : run digits y' = n at r3 hrl hc1 hc2
  by_cases h5 : n = 0
  · rw [h5] at r3 hc1 hc2 ⊢
    simp at r3 hc1 hc2
    simp [le_LIM hl, r3, hc1, hc2]
  · cases y' with
    | nil => simp at hrl; omega
    | cons d t =>
      have e0 : (d :: t).take n = d :: t.take (n - 1) := by
        cases n with
        | zero => omega
        | succ n => rfl
      rw [e0] at hc1
      have e1 : (t.take (n - 1)).length + 1 ≤ 1000000 := by
        simp at hrl ⊢
        have : (d :: t).length ≤ x.length := by rw [hx2]; simp; omega
        simp at this
        omega
      simp [le_LIM hl, r3, hc1, hc2, h5, le_LIM e1]
      rw [if_pos (le_LIM (by rw [List.length_take] at e1; exact e1))]
      by_cases h6 : d = 48
      · by_cases h7 : (c :: r).take (p + n) = [48]
        · simp [h6, h7]; omega
        · simp [h6, h7]
      · simp [h6]; omega
def pairD (p : Int × Cs) : D := .tup [.int p.1, .str p.2]
/-- the first of the pairs, where the line begins with no blank -/
def FirstOk (x : Cs) (acc : List (Int × Cs)) : Prop := x ≠ [] → run [32] x = 0 → ∃ p r, acc = p :: r ∧ p.2 = if tokEnd x = 0 then [32] else x.take (tokEnd x)
theorem FirstOk.snoc {x : Cs} {acc : List (Int × Cs)} (h : FirstOk x acc) (p : Int × Cs) : FirstOk x (acc ++ [p]) := fun h1 h2 => by
  obtain ⟨q, r, rfl, e⟩ := h h1 h2
  exact ⟨q, r ++ [p], rfl, e⟩
def Low (x : Cs) : Prop := ∀ c ∈ x, c < 128
def LTRes (S : Store) (x : Cs) (d : D) (S' : Store) : Prop := ∃ (n : Nat) (ps : List (Int × Cs)), d = .ref n ∧ S.length ≤ n ∧ S'[n]? = some (.lst (ps.map pairD)) ∧ ps.length ≤ 1001 ∧ (∀ p ∈ ps, Low p.2) ∧ FirstOk x ps ∧ Fr [] S S'
def LTInv (S : Store) (x : Cs) (k : Nat) (δ : Env) (S' : Store) : Prop := ∃ (a y : Cs) (acc : List (Int × Cs)) (a3 a4 : Option D), δ = [some (.str x), some (.ref S.length), some (.int a.length), a3, a4] ∧ x = a ++ y ∧ S'[S.length]? = some (.lst (acc.map pairD)) ∧ acc.length = k ∧ (∀ p ∈ acc, Low p.2) ∧ (k = 0 → a = x.take (run [32] x)) ∧ (0 < k → FirstOk x acc) ∧ Fr [] S S'
def LTOut (S : Store) (x : Cs) (δ : Env) (S' : Store) : Prop := ∃ (acc : List (Int × Cs)) (a2 a3 a4 : Option D), δ = [some (.str x), some (.ref S.length), a2, a3, a4] ∧ S'[S.length]? = some (.lst (acc.map pairD)) ∧ acc.length ≤ 1000 ∧ (∀ p ∈ acc, Low p.2) ∧ FirstOk x acc ∧ Fr [] S S'
theorem lt_fin {S : Store} {x : Cs} (T : Store) (acc : List (Int × Cs)) (p : Int × Cs) (hal : acc.length ≤ 1000) (ht : T[S.length]? = some (.lst (acc.map pairD))) (hf : Fr [] S T) (ha : ∀ p ∈ acc, Low p.2) (hp : Low p.2) (hfo : FirstOk x (acc ++ [p])) :
    (addP [.ref S.length, .ref T.length] (T ++ [.lst [pairD p]])).sat fun d S' => LTRes S x d S' := by
  have h1 : (T ++ [.lst [pairD p]])[S.length]? = some (.lst (acc.map pairD)) := app_get ht
  have h2 : (T ++ [.lst [pairD p]])[T.length]? = some (.lst [pairD p]) := by simp
  rw [add_lists h1 h2 (by simp; omega), Res.sat_ok]
  refine ⟨_, acc ++ [p], rfl, by have := hf.le; simp; omega, by rw [List.getElem?_append_right (by omega)]; simp, by simp; omega, ?_, hfo, hf.push.push⟩
  intro q hq
  rcases List.mem_append.mp hq with hq | hq
  · exact ha q hq
  · rw [List.mem_singleton.mp hq]; exact hp
theorem c_law_tokens {S : Store} {x : Cs} (hl : x.length ≤ 1000) (hlow : Low x) : (F__law_tokens [.str x] S).sat fun d S' => LTRes S x d S' := by
  refine sat_defM rfl ?_
  refine sat_seq (fun δ S' => δ = [some (.str x), some (.ref S.length), none, none, none] ∧ S' = S ++ [.lst []]) (by simp) ?_
  rintro δ _ ⟨rfl, rfl⟩
  have r0 : ∀ {S}, F__law_run [.str x, .int 0, .str [32]] S = .ok (.int (run [32] x)) S := by
    intro S
    have := c_law_run (S := S) (x := x) (a := []) (y := x) (cs := [32]) (at_ := 0) rfl rfl (by omega)
    simpa using this
  refine sat_seq (fun δ S' => δ = [some (.str x), some (.ref S.length), some (.int (run [32] x)), none, none] ∧ S' = S ++ [.lst []]) (by simp [r0]) ?_
  rintro δ _ ⟨rfl, rfl⟩
  refine sat_seq (LTOut S x) ?_ ?_
  · simp [le_LIM (show x.length ≤ 1000000 by omega), inRange_nat (show x.length ≤ 1000000000 by omega)]
    refine for_inv (LTInv S x) ?_ (by simp) ?_ ?_
    · have := run_le [32] x
      refine ⟨x.take (run [32] x), x.drop (run [32] x), [], none, none, ?_, by rw [List.take_append_drop], by simp, rfl, by simp, fun _ => rfl, by simp, .app⟩
      rw [List.length_take, Nat.min_eq_left this]
    · rintro k hk δ S1 ⟨a, y, acc, a3, a4, rfl, hx, h1, h2, h3, h4, h5, h6⟩
      refine ⟨_, rfl, ?_⟩
      rw [rangeL_get]
      rw [rangeL_length] at hk
      have hxl : x.length = a.length + y.length := by rw [hx, List.length_append]
      by_cases hy : y = []
      · have e1 : (a.length : Int) = x.length := by rw [hxl, hy]; simp
        simp [le_LIM (show x.length ≤ 1000000 by omega), e1]
        refine ⟨acc, _, _, _, rfl, h1, by omega, h3, ?_, h6⟩
        by_cases hk0 : k = 0
        · intro q1 q2
          have := h4 hk0
          rw [q2] at this
          rw [this, hy] at hx
          exact absurd hx q1
        · exact h5 (by omega)
      · have hy0 : y.length ≠ 0 := fun e => hy (List.length_eq_zero_iff.mp e)
        have e1 : ¬ ((a.length : Int) = x.length) := by omega
        have te := c_token_end (S := S1) hx hy (by omega)
        have tl := tokEnd_le y
        have hfirst : ∀ p : Int × Cs, p.2 = (if tokEnd y = 0 then [32] else y.take (tokEnd y)) → FirstOk x (acc ++ [p]) := by
          intro p hp
          by_cases hk0 : k = 0
          · intro q1 q2
            have := h4 hk0
            rw [q2] at this
            have hxy : x = y := by rw [hx, this]; simp
            have hacc : acc = [] := List.length_eq_zero_iff.mp (by omega)
            exact ⟨p, [], by rw [hacc]; rfl, by rw [hp, hxy]⟩
          · exact (h5 (by omega)).snoc p
        by_cases ht0 : tokEnd y = 0
        · rw [ht0] at te
          simp only [Int.natCast_zero, Int.add_zero, Int.ofNat_zero] at te
          simp [le_LIM (show x.length ≤ 1000000 by omega), e1, te, -addP_ref]
          exact lt_fin S1 acc (a.length, [32]) (by omega) h1 h6 h3 (by intro c hc; rw [List.mem_singleton.mp hc]; omega) (hfirst _ (by rw [if_pos ht0]))
        · have e2 : ¬ ((a.length : Int) + tokEnd y = a.length) := by omega
          have hcut : cut x (some (a.length : Int)) (some (a.length + tokEnd y)) = y.take (tokEnd y) := by
            refine cut_is (a := a) (c := y.drop (tokEnd y)) (by rw [List.take_append_drop]; exact hx) rfl ?_
            rw [List.length_take, Nat.min_eq_left tl]
          have er : ∀ {S}, F__law_run [.str x, .int (a.length + tokEnd y), .str [32]] S = .ok (.int (a.length + tokEnd y + run [32] (y.drop (tokEnd y)))) S := by
            intro S
            refine c_law_run (a := a ++ y.take (tokEnd y)) (y := y.drop (tokEnd y)) (by rw [List.append_assoc, List.take_append_drop]; exact hx) ?_ (by omega)
            rw [List.length_append, List.length_take, Nat.min_eq_left tl]
            omega
          simp [le_LIM (show x.length ≤ 1000000 by omega), e1, e2, te, h1, hcut, er, lt_LIM (show acc.length ≤ 1000000 by omega)]
          have hr := run_le [32] (y.drop (tokEnd y))
          refine ⟨a ++ (y.take (tokEnd y) ++ (y.drop (tokEnd y)).take (run [32] (y.drop (tokEnd y)))), (y.drop (tokEnd y)).drop (run [32] (y.drop (tokEnd y))), acc ++ [(↑a.length, y.take (tokEnd y))], some (.int k), some (.int (a.length + tokEnd y)), ?_, ?_, ?_, by simp [h2], ?_, by omega, fun _ => hfirst _ (by rw [if_neg ht0]), h6.set_new (Nat.le_refl _)⟩
          · have : (a ++ (y.take (tokEnd y) ++ (y.drop (tokEnd y)).take (run [32] (y.drop (tokEnd y))))).length = a.length + tokEnd y + run [32] (y.drop (tokEnd y)) := by
              rw [List.length_append, List.length_append, List.length_take, List.length_take, Nat.min_eq_left tl, Nat.min_eq_left hr]
              omega
            rw [this]
            simp
          · rw [List.append_assoc, List.append_assoc, List.take_append_drop, List.take_append_drop]; exact hx
          · rw [List.getElem?_set_self (lt_of_get h1)]
            simp [pairD]
          · intro p hp
            rcases List.mem_append.mp hp with hp | hp
            · exact h3 p hp
            · rw [List.mem_singleton.mp hp]
              intro c hc
              exact hlow c (by rw [hx]; exact List.mem_append_right _ (List.mem_of_mem_take hc))
    · rintro δ S1 ⟨a, y, acc, a3, a4, rfl, hx, h1, h2, h3, h4, h5, h6⟩
      rw [rangeL_length] at h2
      refine ⟨acc, _, _, _, rfl, h1, by omega, h3, ?_, h6⟩
      by_cases hk0 : x.length = 0
      · exact fun q1 _ => absurd (List.length_eq_zero_iff.mp hk0) q1
      · exact h5 (by rw [rangeL_length]; omega)
  · rintro δ S1 ⟨acc, a2, a3, a4, rfl, h1, h2, h3, h4, h5⟩
    simp [le_LIM (show x.length ≤ 1000000 by omega), -addP_ref]
    exact lt_fin S1 acc (x.length, []) h2 h1 h5 h3 (by intro c hc; cases hc) (h4.snoc _)
end LW

end

section
set_option linter.all false
set_option Elab.async false
set_option maxRecDepth 100000
namespace LW
open Dl DlM
theorem flats_low {n : Nat} : ∀ {xs : List Cs}, (∀ x ∈ xs, Low x) → D.flats n (xs.map D.str) = true
  | [], _ => by simp [D.flats]
  | x :: r, h => by
    have ih := flats_low (n := n) fun y hy => h y (List.mem_cons_of_mem _ hy)
    have hx : (x.all fun c => decide (c < 0x110000)) = true := by
      rw [List.all_eq_true]
      intro c hc
      have := h x (by simp) c hc
      simp
      omega
    simp only [List.map_cons, D.flats, D.flat, hx, ih, Bool.and_self]
theorem eqvs_strs : ∀ (xs ys : List Cs), D.eqvs (xs.map D.str) (ys.map D.str) = decide (xs = ys)
  | [], [] => by simp [D.eqvs]
  | [], y :: s => by simp [D.eqvs]
  | x :: r, [] => by simp [D.eqvs]
  | x :: r, y :: s => by
    have ih := eqvs_strs r s
    simp only [List.map_cons, D.eqvs, D.eqv, ih]
    rw [Bool.eq_iff_iff]
    simp
theorem eqP_strs {S : Store} {n m : Nat} {xs ys : List Cs} (h1 : S[n]? = some (.lst (xs.map D.str))) (h2 : S[m]? = some (.lst (ys.map D.str))) (l1 : ∀ x ∈ xs, Low x) (l2 : ∀ x ∈ ys, Low x) : eqP [.ref n, .ref m] S = .ok (.bl (decide (xs = ys))) S := by
  unfold eqP
  simp only [D.scal, lstAt_of h1, lstAt_of h2, flats_low l1, flats_low l2, Bool.and_self, if_true, eqvs_strs]
  rfl
theorem low_txt {t : Token} (h : Good t) : Low t.txt := by
  intro c hc
  cases h with
  | sg c' h => simp [Token.txt] at hc; rw [mem_signs] at h; omega
  | quo w h hl =>
    simp [Token.txt] at hc
    rcases hc with rfl | hc | rfl
    · omega
    · have := h.all c hc; unfold letter at this; omega
    · omega
  | wrd w h hl => have := h.all c hc; unfold letter at this; omega
  | num i h =>
    have hc' : c ∈ intCs i := hc
    unfold intCs at hc'
    split at hc'
    · rcases List.mem_cons.mp hc' with rfl | hc'
      · omega
      · have := natCs_digit _ c hc'; omega
    · have := natCs_digit _ c hc'; omega
/-- what the law takes for apart is so -/
theorem apart_free {a b : Token} (ha : Good a) (hb : Good b) {ps : List (Int × Cs)} (hF : FirstOk (a.txt ++ b.txt) ps) (he : ps.map (·.2) = [a.txt, b.txt, []]) : Free a b := by
  have hna := txt_ne ha
  have hnb := txt_ne hb
  obtain ⟨p, r, rfl, hp⟩ := hF (by simp [hna]) (by
    obtain ⟨c, u, e⟩ := List.exists_cons_of_ne_nil hna
    have := first_ne ha c (by rw [e]; rfl)
    rw [e]
    show (if c ∈ [32] then _ else _) = 0
    rw [if_neg (by simpa using this)])
  have hp2 : p.2 = a.txt := by simpa using (List.cons.inj he).1
  rw [hp2] at hp
  have hlen : a.txt ≠ a.txt ++ b.txt := fun e => by
    have := congrArg List.length e
    simp at this
    exact hnb this
  cases ha with
  | sg c h => cases b <;> trivial
  | quo w h hl => cases b <;> trivial
  | wrd w h hl =>
    cases hb with
    | sg c h => trivial
    | quo w h hl => trivial
    | num i h => trivial
    | wrd w2 h2 hl2 =>
      exfalso
      obtain ⟨c, u, e⟩ := List.exists_cons_of_ne_nil h.ne
      subst e
      have hc := h.all c (by simp)
      have h1 : ¬ c ∈ signs := by rw [mem_signs]; unfold letter at hc; omega
      have h2' : c ∈ letters := mem_letters.mpr hc
      have e1 : tokEnd ((Token.wrd (c :: u)).txt ++ (Token.wrd w2).txt) = ((Token.wrd (c :: u)).txt ++ (Token.wrd w2).txt).length := by
        show tokEnd (c :: (u ++ w2)) = (c :: (u ++ w2)).length
        unfold tokEnd
        simp only
        rw [if_neg h1, if_pos h2']
        have := run_app (cs := letters) (w := c :: (u ++ w2)) (y := []) (by
          intro d hd
          refine mem_letters.mpr ?_
          rcases List.mem_cons.mp hd with rfl | hd
          · exact hc
          · rcases List.mem_append.mp hd with hd | hd
            · exact h.all d (List.mem_cons_of_mem _ hd)
            · exact h2.all d hd) (by simp)
        simpa using this
      rw [e1, if_neg (by simp [Token.txt]), List.take_length] at hp
      exact hlen hp
  | num i h =>
    cases hb with
    | sg c h => trivial
    | quo w h hl => trivial
    | wrd w h hl => trivial
    | num j h2 =>
      by_cases hj : j < 0
      · exact hj
      exfalso
      have ej : (Token.num j).txt = natCs j.natAbs := by
        show intCs j = _
        unfold intCs
        rw [if_neg hj]
      obtain ⟨q, n, hq, hi⟩ : ∃ (q : Cs) (n : Nat), intCs i = q ++ natCs n ∧ (q = [] ∨ q = [45]) := by
        by_cases hi : i < 0
        · exact ⟨[45], i.natAbs, by unfold intCs; rw [if_pos hi]; rfl, .inr rfl⟩
        · exact ⟨[], i.natAbs, by unfold intCs; rw [if_neg hi]; rfl, .inl rfl⟩
      have ei : (Token.num i).txt = q ++ natCs n := hq
      have hrun : run digits (natCs n ++ natCs j.natAbs) = (natCs n ++ natCs j.natAbs).length := by
        have := run_app (cs := digits) (w := natCs n ++ natCs j.natAbs) (y := []) (by
          intro d hd
          refine mem_digits.mpr ?_
          rcases List.mem_append.mp hd with hd | hd
          · exact natCs_digit _ d hd
          · exact natCs_digit _ d hd) (by simp)
        simpa using this
      obtain ⟨d, u, ed⟩ := List.exists_cons_of_ne_nil (natCs_ne n)
      have hd := natCs_digit n d (by rw [ed]; simp)
      have e1 : tokEnd ((Token.num i).txt ++ (Token.num j).txt) = 0 ∨ tokEnd ((Token.num i).txt ++ (Token.num j).txt) = ((Token.num i).txt ++ (Token.num j).txt).length := by
        rw [ei, ej]
        rcases hi with rfl | rfl
        · have hx : ([] : Cs) ++ natCs n ++ natCs j.natAbs = d :: (u ++ natCs j.natAbs) := by rw [ed]; rfl
          have hy : natCs n ++ natCs j.natAbs = d :: (u ++ natCs j.natAbs) := by rw [ed]; rfl
          rw [hx]
          unfold tokEnd
          simp only
          have q1 : ¬ d ∈ signs := by rw [mem_signs]; omega
          have q2 : ¬ d ∈ letters := by rw [mem_letters]; unfold letter; omega
          have q3 : ¬ d = 34 := by omega
          have q4 : ¬ d = 45 := by omega
          simp only [q1, q2, q3, q4, if_false]
          rw [hy] at hrun
          simp only [List.drop_zero, Nat.zero_add, hrun]
          split
          · left; rfl
          · right; rfl
        · have hx : [45] ++ natCs n ++ natCs j.natAbs = 45 :: (natCs n ++ natCs j.natAbs) := rfl
          rw [hx]
          unfold tokEnd
          simp only
          rw [if_neg (by decide), if_neg (by decide), if_neg (by omega), if_pos trivial]
          simp only [List.drop_succ_cons, List.drop_zero, hrun]
          split
          · left; rfl
          · right; simp; omega
      rcases e1 with e1 | e1
      · rw [if_pos e1] at hp
        obtain ⟨c, v, e⟩ := List.exists_cons_of_ne_nil hna
        have := first_ne (Good.num i h) c (by rw [e]; rfl)
        rw [hp] at e
        exact this (List.cons.inj e).1.symm
      · rw [e1] at hp
        by_cases z : ((Token.num i).txt ++ (Token.num j).txt).length = 0
        · exact hna (List.append_eq_nil_iff.mp (List.length_eq_zero_iff.mp z)).1
        · rw [if_neg z, List.take_length] at hp
          exact hlen hp
theorem GapsOk.snoc : ∀ {l : List Gap} {t t' : Token} {g g' : Nat}, GapsOk (l ++ [(g, t)]) → (0 < g' ∨ Free t t') → GapsOk (l ++ [(g, t)] ++ [(g', t')])
  | [], t, t', g, g', _, h => ⟨h, trivial⟩
  | [(g1, t1)], t, t', g, g', h1, h => ⟨h1.1, h, trivial⟩
  | (g1, t1) :: (g2, t2) :: r, t, t', g, g', h1, h => ⟨h1.1, GapsOk.snoc (l := (g2, t2) :: r) h1.2 h⟩
end LW

end

section
set_option linter.all false
set_option Elab.async false
set_option maxRecDepth 100000
namespace LW
open Dl DlM
/-- a form of the tokens ts -/
structure Form (ts : List Token) (x : Cs) : Prop where
  ex : ∃ (l : List Gap) (z : Nat), x = asm l z ∧ l.map (·.2) = ts ∧ GapsOk l ∧ (∀ p ∈ l, p.1 ≤ 3) ∧ z ≤ 3
/-- one of the blanks that a row of texts gives -/
theorem blank {S : Store} {r : Nat} (h : Ints S r) (gs : List Nat) (hne : gs ≠ []) (m : Int) (hm : m = gs.length) :
    (callM ixP [(callM lstP [] : EM), (callM F__law_take [varM 0, conM (.int m)])] [] S = .stuck → True) ∧
    (F__law_take [.ref r, .int m] (S ++ [.lst (gs.map fun g => D.str (List.replicate g 32))])).sat fun d S' => ∃ v : Int, ∃ g ∈ gs, d = .int v ∧ lstAt S' S.length = some (gs.map fun g => D.str (List.replicate g 32)) ∧ atI (gs.map fun g => D.str (List.replicate g 32)) v = some (.str (List.replicate g 32)) ∧ Dr r S S' := by
  refine ⟨fun _ => trivial, ?_⟩
  have h1 : Dr r S (S ++ [.lst (gs.map fun g => D.str (List.replicate g 32))]) := .of h .app
  have hl : gs.length ≠ 0 := by simpa using hne
  refine (c_take h1.whole (by omega)).mono ?_
  rintro d S2 ⟨v, rfl, h0, hv, h2⟩
  have hr := h.lt
  obtain ⟨y, e1, e2⟩ := atI_int (xs := gs.map fun g => D.str (List.replicate g 32)) h0 (by simp; omega)
  rw [List.getElem?_map] at e2
  cases e3 : gs[v.toNat]? with
  | none => rw [e3] at e2; cases e2
  | some g =>
    rw [e3] at e2
    cases e2
    exact ⟨v, g, List.mem_of_getElem? e3, rfl, lstAt_of (h2.get (by simp) (by omega)), e1, h1.trans h2⟩
def LoInv (S : Store) (r n : Nat) (ts : List Token) (k : Nat) (δ : Env) (S' : Store) : Prop := ∃ (x : Cs) (a3 a4 a5 a6 : Option D), δ = [some (.ref r), some (.ref n), some (.str x), a3, a4, a5, a6] ∧ Dr r S S' ∧
  ((k = 0 ∧ ∃ g, g ≤ 3 ∧ x = List.replicate g 32) ∨ (∃ (l : List Gap) (g : Nat) (t : Token), x = asm (l ++ [(g, t)]) 0 ∧ (l ++ [(g, t)]).map (·.2) = ts.take k ∧ GapsOk (l ++ [(g, t)]) ∧ ∀ p ∈ l ++ [(g, t)], p.1 ≤ 3))
def LoMid (S2 : Store) (r n : Nat) (x : Cs) (k : Nat) (p t : Token) (δ : Env) (S4 : Store) : Prop := ∃ (g : Nat) (a5 a6 : Option D), g ≤ 3 ∧ δ = [some (.ref r), some (.ref n), some (.str x), some (.int k), some (.str (List.replicate g 32)), a5, a6] ∧ (0 < k → 0 < g ∨ Free p t) ∧ Dr r S2 S4
theorem c_loose {S : Store} {r n : Nat} {ts : List Token} (h : Ints S r) (hn : S[n]? = some (.lst ((txts ts).map D.str))) (hnr : n ≠ r) (hg : ∀ t ∈ ts, Good t) (hl : ts.length ≤ 1000) (hne : ts ≠ []) :
    (F__law_loose [.ref r, .ref n] S).sat fun d S' => ∃ x, d = .str x ∧ Form ts x ∧ Dr r S S' := by
  have hr := h.lt
  have hnl := lt_of_get hn
  have htl : (txts ts).length = ts.length := by simp [txts]
  refine sat_defM rfl ?_
  refine sat_seq (LoInv S r n ts 0) ?_ ?_
  · simp
    refine (blank h [0, 1, 0, 3] (by simp) 4 rfl).2.mono ?_
    rintro d S1 ⟨v, g, hgm, rfl, e1, e2, h1⟩
    simp [List.replicate_succ] at e1 e2
    simp [e1, e2]
    refine ⟨_, _, _, _, _, rfl, h1, .inl ⟨rfl, g, ?_, rfl⟩⟩
    revert hgm; simp; omega
  rintro δ S1 hI
  refine sat_seq (LoInv S r n ts ts.length) ?_ ?_
  · obtain ⟨x, a3, a4, a5, a6, rfl, hd, hx⟩ := id hI
    have hn1 := hd.get hn hnr
    simp [hn1, htl, inRange_nat (show ts.length ≤ 1000000000 by omega)]
    refine for_inv (LoInv S r n ts) hI (by simp) ?_ ?_
    · rintro k hk δ S2 ⟨x, a3, a4, a5, a6, rfl, hd, hx⟩
      refine ⟨_, rfl, ?_⟩
      rw [rangeL_get]
      rw [rangeL_length] at hk
      have gk := hg _ (List.getElem_mem hk)
      have e1 : atI ((txts ts).map D.str) (k : Int) = some (.str ts[k].txt) := atI_nat (by simp [txts, hk])
      have tk : ts.take (k + 1) = ts.take k ++ [ts[k]] := by
        rw [List.take_add_one, List.getElem?_eq_getElem hk]
        rfl
      -- the gap
      refine sat_seq (fun δ S3 => ∃ g, g ≤ 3 ∧ δ = [some (.ref r), some (.ref n), some (.str x), some (.int k), some (.str (List.replicate g 32)), a5, a6] ∧ Dr r S2 S3) ?_ ?_
      · simp
        refine (blank hd.whole [0, 1, 0, 2, 1] (by simp) 5 rfl).2.mono ?_
        rintro d S3 ⟨v, g, hgm, rfl, e1, e2, h1⟩
        simp [List.replicate_succ] at e1 e2
        simp [e1, e2]
        refine ⟨g, ?_, rfl, h1⟩
        revert hgm; simp; omega
      rintro δ S3 ⟨g, hg3, rfl, h3⟩
      have hn3 := (hd.trans h3).get hn hnr
      refine sat_seq (LoMid S2 r n x k (ts[k - 1]'(by omega)) ts[k]) ?_ ?_
      · by_cases hk0 : k = 0
        · subst hk0
          simp
          exact ⟨g, _, _, hg3, rfl, fun h => absurd h (by omega), h3⟩
        · have hkp : 0 < k := by omega
          have hpk : k - 1 < ts.length := by omega
          have gp := hg _ (List.getElem_mem hpk)
          by_cases hg0 : g = 0
          · subst hg0
            have e2 : atI ((txts ts).map D.str) ((k : Int) - 1) = some (.str ts[k - 1].txt) := by
              have : ((k : Int) - 1) = ((k - 1 : Nat) : Int) := by omega
              rw [this]
              exact atI_nat (by simp [txts, hpk])
            have l1 := txt_len gp
            have l2 := txt_len gk
            have low1 := low_txt gp
            have low2 := low_txt gk
            simp [hkp, lstAt_of hn3, e1, e2, le_LIM (show ts[k - 1].txt.length + ts[k].txt.length ≤ 1000000 by omega)]
            refine (c_law_tokens (S := S3) (by rw [List.length_append]; omega) (by
              intro c hc
              rcases List.mem_append.mp hc with hc | hc
              · exact low1 c hc
              · exact low2 c hc)).mono ?_
            rintro d S4 ⟨m, ps, rfl, hm1, hm2, hm3, hm4, hm5, hm6⟩
            simp [lstAt_of hm2]
            refine lc_map (fun d => match d with | .tup [_, d] => d | _ => .non) (by simp) (le_LIM (by simp; omega)) ?_ ?_ ?_
            · intro S' hf
              have := hf.get (app_get hm2) (by have := lt_of_get hm2; simp; omega)
              simp [lstAt_of this]
            · intro p hp
              obtain ⟨q, _, rfl⟩ := List.mem_map.mp hp
              refine ⟨_, rfl, fun S' _ => ?_⟩
              simp [pairD]
            · intro S5 hf hys
              have f5 := fr_app_new rfl hf
              have hap : S5[S4.length]? = some (.lst ((ps.map (·.2)).map D.str)) := by
                rw [hys]
                simp [Function.comp_def, pairD]
              have hd5 : Dr r S2 S5 := h3.trans ((Dr.of h3.whole hm6).trans (.of (Ints.mono h3.whole hm6) f5))
              have hn5 := (hd.trans hd5).get hn hnr
              simp [lstAt_of hn5, e1, e2]
              have q1 : (S5 ++ [MO.lst [D.str ts[k - 1].txt, .str ts[k].txt, .str []]])[S4.length]? = some (.lst ((ps.map (·.2)).map D.str)) := app_get hap
              have q2 : (S5 ++ [MO.lst [D.str ts[k - 1].txt, .str ts[k].txt, .str []]])[S5.length]? = some (.lst ([ts[k - 1].txt, ts[k].txt, []].map D.str)) := by simp
              have q3 := eqP_strs q1 q2 (by
                intro x hx
                obtain ⟨p, hp, rfl⟩ := List.mem_map.mp hx
                exact hm4 p hp) (by
                intro x hx
                simp at hx
                rcases hx with rfl | rfl | rfl
                · exact low1
                · exact low2
                · intro c hc; cases hc)
              have hsz : S4.length < S5.length + 1 := by have := lt_of_get hap; omega
              simp [q3]
              by_cases he : ps.map (·.2) = [ts[k - 1].txt, ts[k].txt, []]
              · simp [he]
                exact ⟨0, _, _, by omega, rfl, fun _ => .inr (apart_free gp gk hm5 he), hd5.push⟩
              · simp [he]
                exact ⟨1, _, _, by omega, rfl, fun _ => .inl (by omega), hd5.push⟩
          · have : ¬ (List.replicate g 32 = []) := by simpa using hg0
            simp [hkp, hg0]
            exact ⟨g, _, _, hg3, rfl, fun _ => .inl (by omega), h3⟩
      rintro δ S4 ⟨g, b5, b6, hg3, rfl, hfree, h4⟩
      have hn4 := (hd.trans h4).get hn hnr
      have l2 := txt_len gk
      by_cases hk0 : k = 0
      · subst hk0
        obtain ⟨g0, hg0, rfl⟩ : ∃ g, g ≤ 3 ∧ x = List.replicate g 32 := by
          rcases hx with ⟨_, hx⟩ | ⟨l, g, t, _, hm, _⟩
          · exact hx
          · simp at hm
        have e1' : atI ((txts ts).map D.str) 0 = some (.str ts[0].txt) := e1
        simp [lstAt_of hn4, e1', le_LIM (show g0 + ts[0].txt.length ≤ 1000000 by omega)]
        refine ⟨_, _, _, _, _, rfl, hd.trans h4, .inr ⟨[], g0, ts[0], by simp [asm], by rw [tk]; simp, trivial, ?_⟩⟩
        intro p hp
        simp at hp
        rw [hp]
        exact hg0
      · have hkp : 0 < k := by omega
        obtain ⟨l, g1, t1, rfl, hm, hok, hle⟩ : ∃ (l : List Gap) (g : Nat) (t : Token), x = asm (l ++ [(g, t)]) 0 ∧ (l ++ [(g, t)]).map (·.2) = ts.take k ∧ GapsOk (l ++ [(g, t)]) ∧ ∀ p ∈ l ++ [(g, t)], p.1 ≤ 3 := by
          rcases hx with ⟨z, _⟩ | hx
          · exact absurd z hk0
          · exact hx
        have ht1 : t1 = ts[k - 1] := by
          have := congrArg List.getLast? hm
          rw [List.map_append, List.map_singleton, List.getLast?_concat, List.getLast?_eq_getElem?, List.length_take, Nat.min_eq_left (by omega), List.getElem?_take_of_lt (by omega), List.getElem?_eq_getElem (by omega)] at this
          exact Option.some.inj this
        have hlen : (asm (l ++ [(g1, t1)]) 0).length ≤ 65000 := by
          have := asm_len (b := 3) (z := 0) (l := l ++ [(g1, t1)]) fun p hp => ⟨hle p hp, hg _ (by
            have : p.2 ∈ (l ++ [(g1, t1)]).map (·.2) := List.mem_map_of_mem hp
            rw [hm] at this
            exact List.mem_of_mem_take this)⟩
          have e := congrArg List.length hm
          rw [List.length_map, List.length_take] at e
          omega
        have hsn := asm_snoc (l ++ [(g1, t1)]) g ts[k] 0
        generalize hX : asm (l ++ [(g1, t1)]) 0 = X at hlen hsn
        simp [hkp, lstAt_of hn4, e1, le_LIM (show X.length + g ≤ 1000000 by omega), le_LIM (show X.length + (g + ts[k].txt.length) ≤ 1000000 by omega), le_LIM (show X.length + g + ts[k].txt.length ≤ 1000000 by omega)]
        refine ⟨_, _, _, _, _, rfl, hd.trans h4, .inr ⟨l ++ [(g1, t1)], g, ts[k], by rw [hsn]; simp, by rw [List.map_append, hm, tk]; rfl, hok.snoc (by rw [ht1]; exact hfree hkp), ?_⟩⟩
        intro p hp
        rcases List.mem_append.mp hp with hp | hp
        · exact hle p hp
        · rw [List.mem_singleton.mp hp]
          exact hg3
    · rintro δ S2 h
      rw [rangeL_length] at h
      exact h
  rintro δ S2 ⟨x, a3, a4, a5, a6, rfl, hd, hx⟩
  obtain ⟨l, g, t, rfl, hm, hok, hle⟩ : ∃ (l : List Gap) (g : Nat) (t : Token), x = asm (l ++ [(g, t)]) 0 ∧ (l ++ [(g, t)]).map (·.2) = ts.take ts.length ∧ GapsOk (l ++ [(g, t)]) ∧ ∀ p ∈ l ++ [(g, t)], p.1 ≤ 3 := by
    rcases hx with ⟨z, _⟩ | hx
    · exact absurd (List.length_eq_zero_iff.mp z) hne
    · exact hx
  rw [List.take_length] at hm
  have hlen : (asm (l ++ [(g, t)]) 0).length ≤ 65000 := by
    have := asm_len (b := 3) (z := 0) (l := l ++ [(g, t)]) fun p hp => ⟨hle p hp, hg _ (by
      have : p.2 ∈ (l ++ [(g, t)]).map (·.2) := List.mem_map_of_mem hp
      rw [hm] at this
      exact this)⟩
    have e := congrArg List.length hm
    rw [List.length_map] at e
    omega
  have hz : ∀ z, asm (l ++ [(g, t)]) z = asm (l ++ [(g, t)]) 0 ++ List.replicate z 32 := fun z => by
    rw [asm_snoc, asm_snoc]
    simp
  simp
  refine (blank hd.whole [0, 1, 0, 2] (by simp) 4 rfl).2.mono ?_
  rintro d S3 ⟨v, z, hzm, rfl, e1, e2, h3⟩
  simp [List.replicate_succ] at e1 e2
  have hz3 : z ≤ 3 := by revert hzm; simp; omega
  generalize hX : asm (l ++ [(g, t)]) 0 = X at hlen hz
  simp [e1, e2, le_LIM (show X.length + z ≤ 1000000 by omega)]
  exact ⟨⟨l ++ [(g, t)], z, (hz z).symm, hm, hok, hle, hz3⟩, hd.trans h3⟩
/-- what a form is to the reader -/
theorem Form.read {ts : List Token} {x : Cs} (h : Form ts x) (hg : ∀ t ∈ ts, Good t) (hl : ts.length ≤ 1000) : ∃ (l : List Gap) (z : Nat), x = asm l z ∧ l.map (·.2) = ts ∧ Told l z ∧ x.length ≤ 1000000 ∧ l.length ≤ 100000 := by
  obtain ⟨l, z, rfl, hm, hok, hle, hz⟩ := h.ex
  have hlg : ∀ p ∈ l, Good p.2 := fun p hp => hg _ (by rw [← hm]; exact List.mem_map_of_mem hp)
  have e := congrArg List.length hm
  rw [List.length_map] at e
  refine ⟨l, z, rfl, hm, told_of hlg hok, ?_, by omega⟩
  have := asm_len (b := 3) (z := z) (l := l) fun p hp => ⟨hle p hp, hlg p hp⟩
  omega
theorem form_line (ts : List Token) : Form ts (lineCs ts) := ⟨⟨tg none ts, 0, rfl, tg_map ts none, tg_ok ts none, fun p hp => by have := (tg_mem _ _ _ hp).1; omega, by omega⟩⟩
end LW

end

section
set_option linter.all false
set_option Elab.async false
set_option maxRecDepth 100000
namespace LW
open Dl DlM
theorem seps_mem {α : Type} {c : α} {l : List (List α)} {x : α} (h : x ∈ seps c l) : x = c ∨ ∃ y ∈ l, x ∈ y := by
  cases l with
  | nil => cases h
  | cons a r =>
    rcases List.mem_append.mp h with h | h
    · exact .inr ⟨a, by simp, h⟩
    · obtain ⟨y, hy, h⟩ := List.mem_flatMap.mp h
      rcases List.mem_cons.mp h with h | h
      · exact .inl h
      · exact .inr ⟨y, List.mem_cons_of_mem _ hy, h⟩
theorem val_good {v : D} (h : Val v) : Good (valTok v) := by
  cases h with
  | num i h => exact .num i h.big
  | wrd w h hl => exact .quo w h hl
theorem c_same_str {x : Cs} {S : Store} : (F__law_same 8 [.str x, .str x] S).sat fun r S' => r = .bl true ∧ Fr [] S S' := c_same 7 (.str x) (.str x) S
end LW

end

section
set_option linter.all false
set_option Elab.async false
set_option maxRecDepth 100000
namespace LW
open Dl DlM
/-! rules: terms, hows, literals -/
inductive Term
  | var (w : Cs) | val (v : D)
def termD : Term → D
  | .var w => .tup [.str [118, 97, 114], .str w]
  | .val v => .tup [.str [118, 97, 108, 117, 101], v]
def termTok : Term → Token
  | .var w => .wrd w
  | .val v => valTok v
inductive TermOk : Term → Prop
  | var (w : Cs) (h : Word w) (hl : w.length ≤ 60) : TermOk (.var w)
  | val (v : D) (h : Val v) : TermOk (.val v)
def commas (ts : List Term) : List Token := seps (.sg 44) (ts.map fun t => [termTok t])
theorem c_behind {S : Store} {l t : Nat} {k1 k2 : Token} {ts : List Token} (h : LA S l t (k1 :: k2 :: ts)) : F_Line_behind [.ref l] S = .ok (.tup [.str k2.kind, k2.val]) S := by
  obtain ⟨ds, m, n, e1, e2, e3, e4⟩ := h
  obtain ⟨p, r, e5, p2, r2, e6, e7⟩ := e4
  have e8 : ds[m + 1]? = some (.tup [.int p2, .str k2.kind, k2.val]) := by
    have := congrArg (fun z => z[1]?) e5
    simp [e6] at this
    exact this
  have e9 : atI ds ((m : Int) + 1) = some (.tup [.int p2, .str k2.kind, k2.val]) := by
    have : ((m : Int) + 1) = ((m + 1 : Nat) : Int) := by omega
    rw [this]
    exact atI_nat e8
  have e10 : cut [D.int p2, .str k2.kind, k2.val] (some 1) none = [.str k2.kind, k2.val] := cut_from _ 1
  refine eq_of_sat (sat_defM rfl ?_)
  simp [insAt, e1, getF, lstAt_of e2, e9, e10]
theorem c_behind_end {S : Store} {l t : Nat} {k1 : Token} (h : LA S l t [k1]) : F_Line_behind [.ref l] S = .ok (.tup [.str [101, 110, 100], .int 0]) S := by
  obtain ⟨ds, m, n, e1, e2, e3, e4⟩ := h
  obtain ⟨p, r, e5, p2, e6⟩ := e4
  have e8 : ds[m + 1]? = some (endD p2) := by
    have := congrArg (fun z => z[1]?) e5
    simp [e6] at this
    exact this
  have e9 : atI ds ((m : Int) + 1) = some (endD p2) := by
    have : ((m : Int) + 1) = ((m + 1 : Nat) : Int) := by omega
    rw [this]
    exact atI_nat e8
  have e10 : cut [D.int p2, .str [101, 110, 100], .int 0] (some 1) none = [.str [101, 110, 100], .int 0] := cut_from _ 1
  refine eq_of_sat (sat_defM rfl ?_)
  simp [insAt, e1, getF, lstAt_of e2, e9, endD, e10]
theorem c_take_term {S : Store} {l t : Nat} {x : Term} {ts : List Token} (h : LA S l t (termTok x :: ts)) (hx : TermOk x) : (F_Line_take_term [.ref l] S).sat fun d S' => d = termD x ∧ LA S' l t ts ∧ Fr [l] S S' := by
  obtain ⟨fs, i1, i2⟩ := h.ins
  refine sat_defM rfl ?_
  cases hx with
  | var w hw hl =>
    have hk := c_kind h
    simp only [termTok, Token.kind] at hk
    simp [i1, i2, hk]
    refine (c_ltake (k := .wrd w) h rfl).mono ?_
    rintro d S1 ⟨rfl, h1, f1⟩
    simp [termD, Token.val]
    exact ⟨h1, f1⟩
  | val v hv =>
    obtain ⟨v1, v2⟩ := valTok_val hv
    have hk := c_kind h
    have hne : ¬ (termTok (.val v)).kind = [119, 111, 114, 100] := by
      rcases v2 with ⟨i, e⟩ | ⟨w, e⟩ <;> simp [termTok, e, Token.kind]
    simp [i1, i2, hk, hne]
    refine (c_take_val (k := valTok v) h v2).mono ?_
    rintro d S1 ⟨rfl, h1, f1⟩
    simp [termD, v1]
    exact ⟨h1, f1⟩
theorem c_take_termF {S : Store} {l t : Nat} {x : Term} {ts : List Token} (h : LA S l t (termTok x :: ts)) (hx : TermOk x) : (F_take_term [.ref l] S).sat fun d S' => d = termD x ∧ LA S' l t ts ∧ Fr [l] S S' := by
  obtain ⟨fs, i1, i2⟩ := h.ins
  refine sat_defM rfl ?_
  simp [i1, i2]
  exact c_take_term h hx
theorem c_take_places {S : Store} {l t : Nat} {vs : List Term} {ts : List Token} (h : LA S l t (commas vs ++ ts)) (hv : ∀ v ∈ vs, TermOk v) (hl : vs.length ≤ 1000) :
    (F_take_places [.ref l, .int vs.length, .fn "take_term"] S).sat fun d S' => ∃ n, d = .ref n ∧ S.length ≤ n ∧ S'[n]? = some (.lst (vs.map termD)) ∧ LA S' l t ts ∧ Fr [l] S S' := by
  have hlt := h.lt
  refine sat_defM rfl ?_
  simp [inRange_nat (show vs.length ≤ 1000000000 by omega)]
  refine for_inv (fun k δ S' => ∃ a, δ = [some (.ref l), some (.int vs.length), some (.fn "take_term"), some (.ref S.length), a] ∧ S'[S.length]? = some (.lst ((vs.map termD).take k)) ∧
      LA S' l t ((if k = 0 then commas vs else (vs.drop k).flatMap fun v => [.sg 44, termTok v]) ++ ts) ∧ Fr [l] S S') ⟨none, rfl, by simp, h.mono (.app (xs := [])) (by simp) (by simp), .app⟩ (by simp) ?_ ?_
  · rintro k hk δ S1 ⟨a, rfl, h1, h2, hf⟩
    refine ⟨_, rfl, ?_⟩
    rw [rangeL_get]
    rw [rangeL_length] at hk
    have v2 := hv _ (List.getElem_mem hk)
    refine sat_seq (fun δ S2 => δ = [some (.ref l), some (.int vs.length), some (.fn "take_term"), some (.ref S.length), some (.int k)] ∧ S2[S.length]? = some (.lst ((vs.map termD).take k)) ∧ LA S2 l t (termTok vs[k] :: (((vs.drop (k + 1)).flatMap fun v => [.sg 44, termTok v]) ++ ts)) ∧ Fr [l] S S2) ?_ ?_
    · by_cases hk0 : k = 0
      · subst hk0
        simp at h1 ⊢
        refine ⟨h1, ?_, hf⟩
        obtain ⟨v, vs', rfl⟩ : ∃ v vs', vs = v :: vs' := by
          cases vs with
          | nil => simp at hk
          | cons v vs' => exact ⟨v, vs', rfl⟩
        simpa [commas, seps, List.flatMap_map] using h2
      · rw [if_neg hk0, List.drop_eq_getElem_cons hk] at h2
        have h2' : LA S1 l t (.sg 44 :: termTok vs[k] :: (((vs.drop (k + 1)).flatMap fun v => [.sg 44, termTok v]) ++ ts)) := by simpa only [List.flatMap_cons, List.cons_append, List.nil_append] using h2
        obtain ⟨fs, i1, i2⟩ := h2.ins
        have : 0 < k := by omega
        simp [this, i1, i2]
        refine (c_ltake h2' rfl).mono ?_
        rintro d S2 ⟨rfl, h3, f3⟩
        exact ⟨f3.get h1 (by simp; omega), h3, hf.trans f3⟩
    rintro δ S2 ⟨rfl, h3, h4, hf2⟩
    simp [h3, hs_F_take_places]
    refine (c_take_termF h4 v2).mono ?_
    rintro d S3 ⟨rfl, h5, f5⟩
    have h6 := f5.get h3 (by simp; omega)
    simp [h6, lt_LIM (show min k vs.length ≤ 1000000 by omega)]
    refine ⟨?_, ?_, (hf2.trans f5).set_new (Nat.le_refl _)⟩
    · rw [List.getElem?_set_self (lt_of_get h6), List.take_add_one, List.getElem?_map, List.getElem?_eq_getElem hk]
      rfl
    · exact h5.mono (.set (xs := [S.length]) (by simp)) (by simp; omega) (by simp; omega)
  · rintro δ S1 ⟨a, rfl, h1, h2, hf⟩
    rw [rangeL_length] at h1 h2
    rw [List.take_of_length_le (by simp)] at h1
    simp
    refine ⟨h1, ?_, hf⟩
    by_cases hv0 : vs.length = 0
    · have : vs = [] := List.length_eq_zero_iff.mp hv0
      subst this
      simpa [commas, seps] using h2
    · rw [if_neg hv0, List.drop_length] at h2
      simpa using h2
theorem c_take_cells {S : Store} {l t : Nat} {tb : Table} {ks os : List Term} {ts : List Token} (h : LA S l t (.sg 40 :: (commas ks ++ .sg 124 :: (commas os ++ .sg 41 :: ts)))) (hk : ks.length = tb.key) (ho : os.length = tb.others) (hv : ∀ v ∈ ks ++ os, TermOk v) (hl : tb.key + tb.others ≤ 8) :
    (F_take_cells [.ref l, tabD tb, .fn "take_term"] S).sat fun d S' => d = .tup ((ks ++ os).map termD) ∧ LA S' l t ts ∧ Fr [l] S S' := by
  have hlt := h.lt
  refine sat_defM rfl ?_
  obtain ⟨fs, i1, i2⟩ := h.ins
  simp [i1, i2]
  refine (c_ltake h rfl).mono ?_
  rintro d S1 ⟨rfl, h1, f1⟩
  simp [tabD, ← hk]
  refine (c_take_places h1 (fun v hv' => hv v (List.mem_append_left _ hv')) (by omega)).mono ?_
  rintro d S2 ⟨n2, rfl, l2, e2, h2, f2⟩
  obtain ⟨fs, i1, i2⟩ := h2.ins
  simp [i1, i2]
  refine (c_ltake h2 rfl).mono ?_
  rintro d S3 ⟨rfl, h3, f3⟩
  simp [← ho]
  refine (c_take_places h3 (fun v hv' => hv v (List.mem_append_right _ hv')) (by omega)).mono ?_
  rintro d S4 ⟨n4, rfl, l4, e4, h4, f4⟩
  obtain ⟨fs, i1, i2⟩ := h4.ins
  simp [i1, i2]
  refine (c_ltake h4 rfl).mono ?_
  rintro d S5 ⟨rfl, h5, f5⟩
  have hn2 : n2 ≠ l := by have := f1.le; omega
  have hn4 : n4 ≠ l := by have := f1.le; have := f2.le; have := f3.le; omega
  have e2' : S5[n2]? = some (.lst (ks.map termD)) := f5.get (f4.get (f3.get e2 (by simpa using hn2)) (by simpa using hn2)) (by simpa using hn2)
  have e4' : S5[n4]? = some (.lst (os.map termD)) := f5.get e4 (by simpa using hn4)
  simp [e2', e4', le_LIM (show ks.length + os.length ≤ 1000000 by omega), lstAt]
  exact ⟨h5.mono (.app (xs := [])) (by simp) (by simp), (f1.trans (f2.trans (f3.trans (f4.trans f5)))).push⟩
def PlainInv (S : Store) (l t q : Nat) (vs : List Term) (ts : List Token) (n : Nat) (δ : Env) (S' : Store) : Prop :=
  ∃ (dn rs : List Term), n = rs.length ∧ δ = [some (.ref l), some (.ref q)] ∧ vs = dn ++ rs ∧ LA S' l t ((rs.flatMap fun v => [.sg 44, termTok v]) ++ .sg 41 :: ts) ∧ S'[q]? = some (.lst (dn.map termD)) ∧ Fr [l] S S'
theorem c_take_plain {S : Store} {l t : Nat} {vs : List Term} {ts : List Token} (h : LA S l t (.sg 40 :: (commas vs ++ .sg 41 :: ts))) (hv : ∀ v ∈ vs, TermOk v) (hl : vs.length ≤ 1000) :
    (F_take_plain [.ref l] S).sat fun d S' => d = .tup (vs.map termD) ∧ LA S' l t ts ∧ Fr [l] S S' := by
  have hlt := h.lt
  refine sat_defM rfl ?_
  refine sat_seq (fun δ S1 => δ = [some (.ref l), none] ∧ LA S1 l t (commas vs ++ .sg 41 :: ts) ∧ Fr [l] S S1) ?_ ?_
  · obtain ⟨fs, i1, i2⟩ := h.ins
    simp [i1, i2]
    refine (c_ltake h rfl).mono ?_
    rintro d S1 ⟨rfl, h1, f1⟩
    exact ⟨h1, f1⟩
  rintro δ S1 ⟨rfl, h1, f1⟩
  have hqt : S1.length ≠ t := by have := h1.lt; omega
  have hql : S1.length ≠ l := by have := h1.lt; omega
  refine sat_seq (fun δ S2 => δ = [some (.ref l), some (.ref S1.length)] ∧ S2 = S1 ++ [.lst []]) (by simp) ?_
  rintro δ _ ⟨rfl, rfl⟩
  have h1' := h1.mono (.app (xs := []) (T := [MO.lst []])) (by simp) (by simp)
  refine sat_seq (PlainInv S l t S1.length vs ts 0) ?_ ?_
  · cases vs with
    | nil =>
      have hk := c_kind (k := .sg 41) h1'
      simp only [Token.kind] at hk
      obtain ⟨fs, i1, i2⟩ := h1'.ins
      simp [i1, i2, hk]
      exact ⟨[], [], rfl, rfl, rfl, h1', by simp, f1.push⟩
    | cons v r =>
      have h1'' : LA (S1 ++ [MO.lst []]) l t (termTok v :: ((r.flatMap fun v => [.sg 44, termTok v]) ++ .sg 41 :: ts)) := by simpa [commas, seps, List.flatMap_map] using h1'
      have hk := c_kind h1''
      have hv0 := hv v (by simp)
      have hne : ¬ (termTok v).kind = [41] := by
        cases hv0 with
        | var w _ _ => simp [termTok, Token.kind]
        | val v hv0 =>
          obtain ⟨_, ⟨i, e⟩ | ⟨w, e⟩⟩ := valTok_val hv0 <;> simp [termTok, e, Token.kind]
      obtain ⟨fs, i1, i2⟩ := h1''.ins
      simp [i1, i2, hk, hne]
      refine (c_take_term h1'' hv0).mono ?_
      rintro d S2 ⟨rfl, h2, f2⟩
      have e2 : S2[S1.length]? = some (.lst []) := f2.get (by simp) (by simpa using hql)
      simp [e2]
      have hI : PlainInv S l t S1.length (v :: r) ts r.length [some (.ref l), some (.ref S1.length)] (S2.set S1.length (.lst [termD v])) := by
        refine ⟨[v], r, rfl, rfl, rfl, h2.mono (.set (xs := [S1.length]) (by simp)) (by simpa using Ne.symm hql) (by simpa using Ne.symm hqt), ?_, ?_⟩
        · rw [List.getElem?_set_self (lt_of_get e2)]
          rfl
        · exact ((f1.push).trans f2).set_new f1.le
      refine while_run (PlainInv S l t S1.length (v :: r) ts) r.length (by simp at hl; omega) hI ?_
      rintro n δ S3 ⟨dn, rs, rfl, rfl, e3, h3, q3, f3⟩
      obtain ⟨fs, i1, i2⟩ := h3.ins
      cases rs with
      | nil =>
        have hk := c_kind (k := .sg 41) (by simpa using h3)
        simp only [Token.kind] at hk
        simp [i1, i2, hk]
        exact ⟨dn, [], rfl, rfl, e3, h3, q3, f3⟩
      | cons u rs =>
        have h3' : LA S3 l t (.sg 44 :: termTok u :: ((rs.flatMap fun v => [.sg 44, termTok v]) ++ .sg 41 :: ts)) := by simpa using h3
        have hk := c_kind h3'
        simp only [Token.kind] at hk
        simp [i1, i2, hk]
        refine (c_ltake h3' rfl).mono ?_
        rintro d S4 ⟨rfl, h4, f4⟩
        have e4 := f4.get q3 (by simpa using hql)
        obtain ⟨fs, i1, i2⟩ := h4.ins
        simp [i1, i2, e4]
        refine (c_take_term h4 (hv u (by rw [e3]; simp))).mono ?_
        rintro d S5 ⟨rfl, h5, f5⟩
        have e5 := f5.get e4 (by simpa using hql)
        have hdl : dn.length < LIM := by
          have := congrArg List.length e3
          simp at this hl
          exact lt_LIM (by omega)
        simp [e5, hdl]
        refine ⟨rs.length, by omega, dn ++ [u], rs, rfl, rfl, by rw [e3]; simp, h5.mono (.set (xs := [S1.length]) (by simp)) (by simpa using Ne.symm hql) (by simpa using Ne.symm hqt), ?_, ((f3.trans f4).trans f5).set_new f1.le⟩
        rw [List.getElem?_set_self (lt_of_get e5)]
        simp
  rintro δ S2 ⟨dn, rs, hn, rfl, e3, h3, q3, f3⟩
  have hrs : rs = [] := List.length_eq_zero_iff.mp hn.symm
  subst hrs
  obtain ⟨fs, i1, i2⟩ := h3.ins
  simp [i1, i2]
  refine (c_ltake (k := .sg 41) (by simpa using h3) rfl).mono ?_
  rintro d S4 ⟨rfl, h4, f4⟩
  have e4 := f4.get q3 (by simpa using hql)
  simp [lstAt_of e4, e3]
  exact ⟨h4, f3.trans f4⟩
end LW

end

section
set_option linter.all false
set_option Elab.async false
set_option maxRecDepth 100000
namespace LW
open Dl DlM
def hows : List Cs := [[97, 103, 111], [97, 104, 101, 97, 100], [111, 110, 99, 101], [115, 111, 111, 110], [97, 108, 119, 97, 121, 115], [104, 101, 110, 99, 101, 102, 111, 114, 116, 104]]
def bounded : List Cs := [[97, 103, 111], [97, 104, 101, 97, 100]]
def tests : List Cs := [[108, 101, 115, 115], [117, 110, 108, 105, 107, 101]]
@[scoped simp] theorem d_HOWS_eq : d_HOWS = .tup (hows.map D.str) := id rfl
@[scoped simp] theorem d_BOUNDED_eq : d_BOUNDED = .tup (bounded.map D.str) := id rfl
@[scoped simp] theorem d_TESTS_eq : d_TESTS = .tup (tests.map D.str) := id rfl
theorem inP_tup_strs {S : Store} {x : Cs} {ws : List Cs} : inP [.str x, .tup (ws.map D.str)] S = .ok (.bl (decide (x ∈ ws))) S := by
  have e1 : ((ws.map D.str).all D.sc) = true := by simp [D.sc]
  have e2 : (D.str x).sc = true := rfl
  unfold inP
  simp only [e1, e2, Bool.and_self, if_true]
  congr 2
  rw [Bool.eq_iff_iff]
  simp [D.eqv]
inductive How
  | now | rep (w : Cs) (n : Option Int)
inductive HowOk : How → Prop
  | now : HowOk .now
  | ever (w : Cs) (h : w ∈ hows) (hb : w ∉ bounded) : HowOk (.rep w none)
  | rep (w : Cs) (n : Int) (h : w ∈ hows) (h0 : 0 ≤ n) (hn : n.natAbs < big) : HowOk (.rep w (some n))
def howD : How → D
  | .now => .tup [.str [110, 111, 119]]
  | .rep w n => .tup [.str w, optD n]
def wEver : Cs := [101, 118, 101, 114]
def howTok : How → List Token
  | .now => []
  | .rep w (some n) => [.wrd w, .num n]
  | .rep w none => [.wrd w, .wrd wEver]
inductive Lit
  | atom (how : How) (name : Cs) (terms : List Term)
  | test (kind : Cs) (a b : Term)
def litD : Lit → D
  | .atom how name terms => .tup [.str [97, 116, 111, 109], howD how, .str name, .tup (terms.map termD)]
  | .test kind a b => .tup [.str kind, termD a, termD b]
def findT (sc : List Table) (w : Cs) : Option Table := sc.find? fun t => decide (t.name = w)
def plainTok (name : Cs) (ts : List Term) : List Token := .wrd name :: .sg 40 :: (commas ts ++ [.sg 41])
def cellTok (name : Cs) (ks os : List Term) : List Token := .wrd name :: .sg 40 :: (commas ks ++ .sg 124 :: (commas os ++ [.sg 41]))
def atomTok (sc : List Table) (name : Cs) (ts : List Term) : List Token := match findT sc name with
  | none => plainTok name ts
  | some tb => cellTok name (ts.take tb.key) (ts.drop tb.key)
def litTok (sc : List Table) : Lit → List Token
  | .atom how name ts => howTok how ++ atomTok sc name ts
  | .test kind a b => [termTok a, .wrd kind, termTok b]
structure AtomOk (sc : List Table) (name : Cs) (ts : List Term) : Prop where
  word : Word name
  len : name.length ≤ 60
  terms : ∀ t ∈ ts, TermOk t
  eight : ts.length ≤ 8
  fit : ∀ tb, findT sc name = some tb → ts.length = tb.key + tb.others
inductive LitOk (sc : List Table) : Lit → Prop
  | atom (how : How) (name : Cs) (ts : List Term) (h : HowOk how) (ha : AtomOk sc name ts) : LitOk sc (.atom how name ts)
  | test (kind : Cs) (a b : Term) (h : kind ∈ tests) (ha : TermOk a) (hb : TermOk b) : LitOk sc (.test kind a b)
def allWord (ws : List Cs) : Prop := ∀ w ∈ ws, Word w ∧ w.length ≤ 60
theorem hows_word : allWord hows := by
  intro w hw
  have h1 : w ≠ [] := by
    rintro rfl
    revert hw
    decide
  have h2 : ∀ w ∈ hows, w.length ≤ 60 := by decide
  have h3 : ∀ w ∈ hows, ∀ c ∈ w, 97 ≤ c ∧ c ≤ 122 := by decide
  exact ⟨⟨h1, h3 w hw⟩, h2 w hw⟩
theorem tests_word : allWord tests := by
  intro w hw
  have h1 : w ≠ [] := by
    rintro rfl
    revert hw
    decide
  have h2 : ∀ w ∈ tests, w.length ≤ 60 := by decide
  have h3 : ∀ w ∈ tests, ∀ c ∈ w, 97 ≤ c ∧ c ≤ 122 := by decide
  exact ⟨⟨h1, h3 w hw⟩, h2 w hw⟩
theorem c_take_atom {S : Store} {l t : Nat} {sc : List Table} {how : D} {name : Cs} {vs : List Term} {ts : List Token} (h : LA S l t (atomTok sc name vs ++ ts)) (hs : Schema sc) (ha : AtomOk sc name vs) :
    (F_take_atom [.ref l, .tup (sc.map tabD), how] S).sat fun d S' => d = .tup [.str [97, 116, 111, 109], how, .str name, .tup (vs.map termD)] ∧ LA S' l t ts ∧ Fr [l] S S' := by
  have h8 := ha.eight
  refine sat_defM rfl ?_
  obtain ⟨fs, i1, i2⟩ := h.ins
  have hw : ∃ r, LA S l t (.wrd name :: r) ∧ r = (match findT sc name with | none => .sg 40 :: (commas vs ++ [.sg 41]) | some tb => .sg 40 :: (commas (vs.take tb.key) ++ .sg 124 :: (commas (vs.drop tb.key) ++ [.sg 41]))) ++ ts := by
    refine ⟨_, ?_, rfl⟩
    unfold atomTok at h
    cases e : findT sc name with
    | none => rw [e] at h; exact h
    | some tb => rw [e] at h; exact h
  obtain ⟨r, hr, er⟩ := hw
  refine sat_seq (fun δ S1 => δ = [some (.ref l), some (.tup (sc.map tabD)), some how, some (.str name), none] ∧ LA S1 l t r ∧ Fr [l] S S1) ?_ ?_
  · simp [i1, i2]
    refine (c_ltake hr rfl).mono ?_
    rintro d S1 ⟨rfl, h1, f1⟩
    exact ⟨rfl, h1, f1⟩
  rintro δ S1 ⟨rfl, h1, f1⟩
  have et := c_table_of (S := S1) (ts := sc) (w := name)
  subst er
  cases e : findT sc name with
  | none =>
    unfold findT at e
    rw [e] at et
    unfold findT at h1
    rw [e] at h1
    simp [et]
    refine (c_take_plain (ts := ts) (by simpa using h1) ha.terms (by omega)).mono ?_
    rintro d S2 ⟨rfl, h2, f2⟩
    simp
    exact ⟨h2, f1.trans f2⟩
  | some tb =>
    have hfit := ha.fit tb e
    have hm : tb ∈ sc := List.mem_of_find?_eq_some e
    have hsz := hs.size tb hm
    unfold findT at e
    rw [e] at et
    unfold findT at h1
    rw [e] at h1
    have hnn : ¬ (tabD tb = D.non) := by simp [tabD]
    simp [et, hnn]
    refine (c_take_cells (tb := tb) (ks := vs.take tb.key) (os := vs.drop tb.key) (ts := ts) (by simpa using h1) (by rw [List.length_take]; omega) (by rw [List.length_drop]; omega) (by rw [List.take_append_drop]; exact ha.terms) hsz).mono ?_
    rintro d S2 ⟨rfl, h2, f2⟩
    rw [List.take_append_drop]
    simp
    exact ⟨h2, f1.trans f2⟩
theorem c_take_how {S : Store} {l t : Nat} {w : Cs} {n : Option Int} {ts : List Token} (h : LA S l t (howTok (.rep w n) ++ ts)) (ho : HowOk (.rep w n)) : (F_take_how [.ref l] S).sat fun d S' => d = howD (.rep w n) ∧ LA S' l t ts ∧ Fr [l] S S' := by
  refine sat_defM rfl ?_
  obtain ⟨fs, i1, i2⟩ := h.ins
  cases ho with
  | ever w hw hb =>
    have h' : LA S l t (.wrd w :: .wrd wEver :: ts) := h
    simp [i1, i2]
    refine (c_ltake h' rfl).mono ?_
    rintro d S1 ⟨rfl, h1, f1⟩
    obtain ⟨fs, i1, i2⟩ := h1.ins
    have hk := c_kind h1
    simp only [Token.kind] at hk
    simp [Token.val, -List.map_cons, inP_tup_strs, hw, hb, i1, i2, hk]
    refine (c_ltake h1 rfl).mono ?_
    rintro d S2 ⟨rfl, h2, f2⟩
    simp [howD, optD]
    exact ⟨h2, f1.trans f2⟩
  | rep w n hw h0 hn =>
    have h' : LA S l t (.wrd w :: .num n :: ts) := h
    simp [i1, i2]
    refine (c_ltake h' rfl).mono ?_
    rintro d S1 ⟨rfl, h1, f1⟩
    obtain ⟨fs, i1, i2⟩ := h1.ins
    have hk := c_kind h1
    simp only [Token.kind] at hk
    simp [Token.val, inP_tup_strs, hw, i1, i2, hk]
    refine (c_take_int h1 h0).mono ?_
    rintro d S2 ⟨rfl, h2, f2⟩
    simp [howD, optD]
    exact ⟨h2, f1.trans f2⟩
theorem c_take_test {S : Store} {l t : Nat} {kind : Cs} {a b : Term} {ts : List Token} (h : LA S l t (termTok a :: .wrd kind :: termTok b :: ts)) (hk : kind ∈ tests) (ha : TermOk a) (hb : TermOk b) :
    (F_take_test [.ref l] S).sat fun d S' => d = .tup [.str kind, termD a, termD b] ∧ LA S' l t ts ∧ Fr [l] S S' := by
  refine sat_defM rfl ?_
  obtain ⟨fs, i1, i2⟩ := h.ins
  simp [i1, i2]
  refine (c_take_term h ha).mono ?_
  rintro d S1 ⟨rfl, h1, f1⟩
  obtain ⟨fs, i1, i2⟩ := h1.ins
  obtain ⟨w1, w2⟩ := tests_word kind hk
  simp [i1, i2]
  refine (c_take_one h1 w1 w2 (by rw [inP_tup_strs]; simp [hk])).mono ?_
  rintro d S2 ⟨rfl, h2, f2⟩
  obtain ⟨fs, i1, i2⟩ := h2.ins
  simp [i1, i2]
  refine (c_take_term h2 hb).mono ?_
  rintro d S3 ⟨rfl, h3, f3⟩
  simp
  exact ⟨h3, f1.trans (f2.trans f3)⟩
theorem c_take_literal {S : Store} {l t : Nat} {sc : List Table} {x : Lit} {ts : List Token} (h : LA S l t (litTok sc x ++ ts)) (hs : Schema sc) (hx : LitOk sc x) :
    (F_take_literal [.ref l, .tup (sc.map tabD)] S).sat fun d S' => d = litD x ∧ LA S' l t ts ∧ Fr [l] S S' := by
  refine sat_defM rfl ?_
  obtain ⟨fs, i1, i2⟩ := h.ins
  have hev : ∀ (k : Cs) {S : Store}, k ∈ tests → eqP [.tup [.str [119, 111, 114, 100], .str k], .tup [.str [119, 111, 114, 100], .str [101, 118, 101, 114]]] S = .ok (.bl false) S := by
    intro k S hk
    simp [tests] at hk
    rcases hk with rfl | rfl <;> rfl
  have hev2 : ∀ {S : Store}, eqP [.tup [.str [119, 111, 114, 100], .str wEver], .tup [.str [119, 111, 114, 100], .str [101, 118, 101, 114]]] S = .ok (.bl true) S := rfl
  cases hx with
  | test kind a b hk ha hb =>
    have h' : LA S l t (termTok a :: .wrd kind :: termTok b :: ts) := h
    have hkd := c_kind h'
    have hbh := c_behind h'
    simp only [Token.kind, Token.val] at hbh
    by_cases hc : (termTok a).kind = [119, 111, 114, 100]
    · rw [hc] at hkd
      simp [i1, i2, hkd, hbh, hev kind hk]
      refine (c_take_test h' hk ha hb).mono ?_
      rintro d S1 ⟨rfl, h1, f1⟩
      exact ⟨rfl, h1, f1⟩
    · simp [i1, i2, hkd, hc]
      refine (c_take_test h' hk ha hb).mono ?_
      rintro d S1 ⟨rfl, h1, f1⟩
      exact ⟨rfl, h1, f1⟩
  | atom how name vs ho ha =>
    have hat : ∃ r, atomTok sc name vs = .wrd name :: .sg 40 :: r := by
      unfold atomTok
      split
      · exact ⟨_, rfl⟩
      · exact ⟨_, rfl⟩
    obtain ⟨r, er⟩ := hat
    cases ho with
    | now =>
      have h0 : LA S l t (atomTok sc name vs ++ ts) := h
      have h' : LA S l t (.wrd name :: .sg 40 :: (r ++ ts)) := by rw [er] at h0; exact h0
      have hkd := c_kind h'
      have hbh := c_behind h'
      simp only [Token.kind, Token.val] at hkd hbh
      simp [i1, i2, hkd, hbh]
      refine (c_take_atom h0 hs ha).mono ?_
      rintro d S1 ⟨rfl, h1, f1⟩
      exact ⟨rfl, h1, f1⟩
    | ever w hw hb =>
      have h0 : LA S l t (howTok (.rep w none) ++ (atomTok sc name vs ++ ts)) := by
        have : litTok sc (.atom (.rep w none) name vs) ++ ts = howTok (.rep w none) ++ (atomTok sc name vs ++ ts) := by simp [litTok]
        rw [← this]; exact h
      have h' : LA S l t (.wrd w :: .wrd wEver :: (atomTok sc name vs ++ ts)) := h0
      have hkd := c_kind h'
      have hbh := c_behind h'
      simp only [Token.kind, Token.val] at hkd hbh
      simp [i1, i2, hkd, hbh, hev2]
      refine (c_take_how h0 (.ever w hw hb)).mono ?_
      rintro d S1 ⟨rfl, h1, f1⟩
      refine (c_take_atom h1 hs ha).mono ?_
      rintro d S2 ⟨rfl, h2, f2⟩
      exact ⟨rfl, h2, f1.trans f2⟩
    | rep w n hw hn0 hn =>
      have h0 : LA S l t (howTok (.rep w (some n)) ++ (atomTok sc name vs ++ ts)) := by
        have : litTok sc (.atom (.rep w (some n)) name vs) ++ ts = howTok (.rep w (some n)) ++ (atomTok sc name vs ++ ts) := by simp [litTok]
        rw [← this]; exact h
      have h' : LA S l t (.wrd w :: .num n :: (atomTok sc name vs ++ ts)) := h0
      have hkd := c_kind h'
      have hbh := c_behind h'
      simp only [Token.kind, Token.val] at hkd hbh
      simp [i1, i2, hkd, hbh]
      refine (c_take_how h0 (.rep w n hw hn0 hn)).mono ?_
      rintro d S1 ⟨rfl, h1, f1⟩
      refine (c_take_atom h1 hs ha).mono ?_
      rintro d S2 ⟨rfl, h2, f2⟩
      exact ⟨rfl, h2, f1.trans f2⟩
/-- a literal has two tokens at least, the second one not the end -/
theorem lit_two {sc : List Table} {x : Lit} : ∃ k1 k2 r, litTok sc x = k1 :: k2 :: r := by
  cases x with
  | test kind a b => exact ⟨_, _, _, rfl⟩
  | atom how name vs =>
    cases how with
    | now =>
      have : ∃ r, atomTok sc name vs = .wrd name :: .sg 40 :: r := by
        unfold atomTok
        split
        · exact ⟨_, rfl⟩
        · exact ⟨_, rfl⟩
      obtain ⟨r, e⟩ := this
      exact ⟨_, _, _, e⟩
    | rep w n => cases n <;> exact ⟨_, _, _, rfl⟩
def wTrue : Cs := [116, 114, 117, 101]
def bodyTok (sc : List Table) : List Lit → List Token
  | [] => [.wrd wTrue]
  | x :: r => seps (.sg 44) ((x :: r).map (litTok sc))
def BodyInv (S : Store) (l t q : Nat) (sc : List Table) (xs : List Lit) (n : Nat) (δ : Env) (S' : Store) : Prop :=
  ∃ (dn rs : List Lit), n = rs.length ∧ δ = [some (.ref l), some (.tup (sc.map tabD)), some (.ref q)] ∧ xs = dn ++ rs ∧ LA S' l t (rs.flatMap fun x => .sg 44 :: litTok sc x) ∧ S'[q]? = some (.lst (dn.map litD)) ∧ Fr [l] S S'
theorem kind_not_end {k : Token} (h : Good k ∨ ∃ w, k = .wrd w) : k.kind ≠ [101, 110, 100] := by
  cases k <;> simp [Token.kind]
theorem c_take_body {S : Store} {l t : Nat} {sc : List Table} {xs : List Lit} (h : LA S l t (bodyTok sc xs)) (hs : Schema sc) (hx : ∀ x ∈ xs, LitOk sc x) (hl : xs.length ≤ 1000) :
    (F_take_body [.ref l, .tup (sc.map tabD)] S).sat fun d S' => d = .tup (xs.map litD) ∧ LA S' l t [] ∧ Fr [l] S S' := by
  have hlt := h.lt
  refine sat_defM rfl ?_
  obtain ⟨fs, i1, i2⟩ := h.ins
  cases xs with
  | nil =>
    have h' : LA S l t [.wrd wTrue] := h
    have hw := c_word h'
    have hb := c_behind_end h'
    simp only [wTrue] at hw
    simp [i1, i2, hw, hb]
    refine (c_ltake h' rfl).mono ?_
    rintro d S1 ⟨rfl, h1, f1⟩
    exact ⟨h1, f1⟩
  | cons x r =>
    have h' : LA S l t (litTok sc x ++ (r.flatMap fun x => .sg 44 :: litTok sc x)) := by simpa [bodyTok, seps, List.flatMap_map] using h
    obtain ⟨k1, k2, r2, e2⟩ := lit_two (sc := sc) (x := x)
    have h'' : LA S l t (k1 :: k2 :: (r2 ++ (r.flatMap fun x => .sg 44 :: litTok sc x))) := by rw [e2] at h'; exact h'
    obtain ⟨w1, hw⟩ : ∃ w1, F_Line_word [.ref l] S = .ok (.str w1) S := ⟨_, c_word h''⟩
    have hb := c_behind h''
    have hne : ¬ k2.kind = [101, 110, 100] := by cases k2 <;> simp [Token.kind]
    refine sat_seq (fun δ S' => δ = [some (.ref l), some (.tup (sc.map tabD)), none] ∧ S = S') ?_ ?_
    · by_cases hc : w1 = [116, 114, 117, 101]
      · simp [i1, i2, hw, hc, hb, hne]
      · simp [i1, i2, hw, hc]
    rintro δ _ ⟨rfl, rfl⟩
    refine sat_seq (fun δ S' => ∃ q, S.length ≤ q ∧ BodyInv S l t q sc (x :: r) r.length δ S') ?_ ?_
    · simp
      refine (c_take_literal h' hs (hx x (by simp))).mono ?_
      rintro d S1 ⟨rfl, h1, f1⟩
      exact ⟨S1.length, f1.le, [x], r, rfl, rfl, rfl, h1.mono (.app (xs := [])) (by simp) (by simp), by simp, f1.push⟩
    rintro δ S1 ⟨q, hq, hI⟩
    have hql : q ≠ l := by omega
    have hqt : q ≠ t := by omega
    refine sat_seq (BodyInv S l t q sc (x :: r) 0) ?_ ?_
    · rw [whileS_ap]
      refine while_run (BodyInv S l t q sc (x :: r)) r.length (by simp at hl; omega) hI ?_
      rintro n δ S3 ⟨dn, rs, rfl, rfl, e3, h3, q3, f3⟩
      obtain ⟨fs, i1, i2⟩ := h3.ins
      cases rs with
      | nil =>
        have hk := c_kind_end (by simpa using h3)
        simp [i1, i2, hk]
        exact ⟨dn, [], rfl, rfl, e3, h3, q3, f3⟩
      | cons u rs =>
        have h3' : LA S3 l t (.sg 44 :: (litTok sc u ++ (rs.flatMap fun x => .sg 44 :: litTok sc x))) := by simpa using h3
        have hk := c_kind h3'
        simp only [Token.kind] at hk
        simp [i1, i2, hk]
        refine (c_ltake h3' rfl).mono ?_
        rintro d S4 ⟨rfl, h4, f4⟩
        have e4 := f4.get q3 (by simpa using hql)
        simp [e4]
        refine (c_take_literal h4 hs (hx u (by rw [e3]; simp))).mono ?_
        rintro d S5 ⟨rfl, h5, f5⟩
        have e5 := f5.get e4 (by simpa using hql)
        have hdl : dn.length < LIM := by
          have := congrArg List.length e3
          simp at this hl
          exact lt_LIM (by omega)
        simp [e5, hdl]
        refine ⟨rs.length, by omega, dn ++ [u], rs, rfl, rfl, by rw [e3]; simp, h5.mono (.set (xs := [q]) (by simp)) (by simpa using Ne.symm hql) (by simpa using Ne.symm hqt), ?_, ((f3.trans f4).trans f5).set_new hq⟩
        rw [List.getElem?_set_self (lt_of_get e5)]
        simp
    rintro δ S2 ⟨dn, rs, hn, rfl, e3, h3, q3, f3⟩
    have hrs : rs = [] := List.length_eq_zero_iff.mp hn.symm
    subst hrs
    simp [lstAt_of q3, e3]
    exact ⟨by simpa using h3, f3⟩
def wIf : Cs := [105, 102]
structure Rule where
  name : Cs
  terms : List Term
  body : List Lit
def ruleD (r : Rule) : D := .tup [.str r.name, .tup (r.terms.map termD), .tup (r.body.map litD)]
def ruleTok (sc : List Table) (r : Rule) : List Token := plainTok r.name r.terms ++ .wrd wIf :: bodyTok sc r.body
structure RuleOk (sc : List Table) (r : Rule) : Prop where
  head : AtomOk sc r.name r.terms
  none_ : findT sc r.name = none
  body : ∀ x ∈ r.body, LitOk sc x
  len : r.body.length ≤ 6
theorem word_if : Word wIf := ⟨by decide, fun c hc => by revert c; unfold wIf letter; decide⟩
theorem c_read_rule {S : Store} {x : Cs} {l : List Gap} {z : Nat} {sc : List Table} {r : Rule} (hx : x = asm l z) (ht : Told l z) (hl : x.length ≤ 1000000) (hll : l.length ≤ 100000) (hs : Schema sc) (hr : RuleOk sc r) (he : l.map (·.2) = ruleTok sc r) :
    (F_read_rule [.tup (sc.map tabD), .str x] S).sat fun d S' => d = ruleD r ∧ Fr [] S S' := by
  have hb6 := hr.len
  have h8 := hr.head.eight
  refine sat_defM rfl ?_
  simp
  refine (c_make hx ht hl hll).mono ?_
  rintro d S1 ⟨rfl, t, h1, h2, h3⟩
  rw [he] at h2
  simp
  have hrow : (F_take_rule [.ref S.length, .tup (sc.map tabD)] S1).sat fun d S' => d = ruleD r ∧ LA S' S.length t [] ∧ Fr [S.length] S1 S' := by
    refine sat_defM rfl ?_
    have h2' : LA S1 S.length t (.wrd r.name :: .sg 40 :: (commas r.terms ++ .sg 41 :: .wrd wIf :: bodyTok sc r.body)) := by simpa [ruleTok, plainTok] using h2
    obtain ⟨fs, i1, i2⟩ := h2'.ins
    have ew : F_Line_word [.ref S.length] S1 = .ok (.str r.name) S1 := c_word (k := .wrd r.name) h2'
    have et := c_table_of (S := S1) (ts := sc) (w := r.name)
    have en := hr.none_
    unfold findT at en
    rw [en] at et
    simp [i1, i2, ew, et]
    refine (c_ltake (k := .wrd r.name) h2' rfl).mono ?_
    rintro d S2 ⟨rfl, h4, f4⟩
    refine (c_take_plain h4 hr.head.terms (by omega)).mono ?_
    rintro d S3 ⟨rfl, h5, f5⟩
    obtain ⟨fs, i1, i2⟩ := h5.ins
    simp [i1, i2]
    refine (c_take_one (ws := [.str wIf]) h5 word_if (by decide) (by rfl)).mono ?_
    rintro d S4 ⟨rfl, h6, f6⟩
    simp [Token.val]
    refine (c_take_body h6 hs hr.body (by omega)).mono ?_
    rintro d S5 ⟨rfl, h7, f7⟩
    simp [ruleD]
    exact ⟨h7, f4.trans (f5.trans (f6.trans f7))⟩
  refine hrow.mono ?_
  rintro d S2 ⟨rfl, h4, f4⟩
  obtain ⟨fs, i1, i2⟩ := h4.ins
  simp [i1, i2]
  refine (c_ltake_end h4 rfl).mono ?_
  rintro d S3 f5
  exact (h3.nil.trans (f4.trans f5)).cut fun i hi hlt => by simp at hi; omega
end LW

end

section
set_option linter.all false
set_option Elab.async false
set_option maxRecDepth 100000
namespace LW
open Dl DlM
/-! the written forms of rules -/
def tt (x : Term) : Cs := (termTok x).txt
theorem term_good {x : Term} (h : TermOk x) : Good (termTok x) := by
  cases h with
  | var w h hl => exact .wrd w h hl
  | val v h =>
    cases h with
    | num i h => exact .num i h.big
    | wrd w h hl => exact .quo w h hl
theorem tt_len {x : Term} (h : TermOk x) : (tt x).length ≤ 62 := txt_len (term_good h)
theorem c_write_term {S : Store} {x : Term} (h : TermOk x) : F_write_term [termD x] S = .ok (.str (tt x)) S := by
  refine eq_of_sat (sat_defM rfl ?_)
  cases h with
  | var w h hl => simp [termD, tt, termTok, Token.txt]
  | val v h =>
    simp [termD, c_write_value h]
    rfl
theorem sum_tt {vs : List Term} (h : ∀ v ∈ vs, TermOk v) : ((vs.map tt).map List.length).sum ≤ vs.length * 62 := by
  induction vs with
  | nil => simp
  | cons a r ih =>
    have h1 := tt_len (h a (by simp))
    have h2 := ih fun s hs => h s (List.mem_cons_of_mem _ hs)
    simp only [List.map_cons, List.sum_cons, List.length_cons] at h2 ⊢
    omega
/-- [write(x) for x in ..] of data by a pure function -/
theorem lc_pure {α : Type} {F : FM} {i : Nat} {S : Store} {δ : Env} {f : α → D} {g : α → Cs} {xs : List α} {Q : Unit → Store → Prop} (hl : xs.length ≤ 1000) (hi : i < δ.length) (hF : ∀ x ∈ xs, ∀ S, F [f x] S = .ok (.str (g x)) S)
    (hend : ∀ S', Fr [] S S' → S'[S.length]? = some (.lst ((xs.map g).map D.str)) → Q () S') : (lcLoop always S.length (δ.set i none) (.nm i) yesT (callM F [varM i]) (xs.map f) (S ++ [.lst []])).sat Q := by
  refine lc_all (fun S' => Fr [S.length] (S ++ [.lst []]) S') (fun k y => ∃ x, xs[k]? = some x ∧ y = .str (g x)) .refl (by simp) (fun S' v h => h.trans (.set (by simp))) (fun _ _ => rfl) (by simp; exact le_LIM (by omega)) ?_ ?_
  · intro k hk S' acc hf hacc
    refine ⟨_, rfl, ?_⟩
    simp at hk
    have := hF xs[k] (List.getElem_mem hk) S'
    simp [hi, this]
    exact ⟨⟨xs[k], List.getElem?_eq_getElem hk, rfl⟩, hf, hacc⟩
  · intro ys S' hf hys hl2 hP
    refine hend S' (fr_app_new rfl hf) ?_
    rw [hys]
    congr 2
    apply List.ext_getElem?
    intro k
    rw [List.getElem?_map, List.getElem?_map]
    cases e : ys[k]? with
    | none =>
      have : ys.length ≤ k := List.getElem?_eq_none_iff.mp e
      simp at hl2
      rw [List.getElem?_eq_none (by omega)]
      rfl
    | some y =>
      obtain ⟨x, e1, e2⟩ := hP k y e
      rw [e1, e2]
      rfl
def plainCs (name : Cs) (xs : List Cs) : Cs := name ++ (40 :: (joinCs [44, 32] xs ++ [41]))
theorem joinP_at {S : Store} {n : Nat} {xs : List Cs} (h : S[n]? = some (.lst (xs.map D.str))) (hl : (xs.map List.length).sum + xs.length * 2 ≤ 1000000) : joinP [.str [44, 32], .ref n] S = .ok (.str (joinCs [44, 32] xs)) S := by
  simp only [joinP_ref, lstAt_of h, strsOf_map]
  exact if_pos (le_LIM hl)
theorem c_write_plain {S : Store} {name : Cs} {vs : List Term} (hv : ∀ v ∈ vs, TermOk v) (hl : vs.length ≤ 8) (hn : name.length ≤ 60) : (F_write_plain [.str name, .tup (vs.map termD)] S).sat fun d S' => d = .str (plainCs name (vs.map tt)) ∧ Fr [] S S' := by
  have hs := sum_tt hv
  refine sat_defM rfl ?_
  refine sat_seq (fun δ S' => δ = [some (.str name), some (.tup (vs.map termD)), some (.str (joinCs [44, 32] (vs.map tt))), none] ∧ Fr [] S S') ?_ ?_
  · simp [-joinP_ref]
    refine lc_pure (f := termD) (g := tt) (δ := [some (.str name), some (.tup (vs.map termD)), none, none]) (i := 3) (by omega) (by simp) (fun x hx S => c_write_term (hv x hx)) ?_
    intro S' hf hys
    rw [joinP_at hys (by rw [List.length_map]; omega)]
    simp
    exact hf
  rintro δ S1 ⟨rfl, f1⟩
  have j := joinCs_len [44, 32] (vs.map tt)
  simp only [List.length_cons, List.length_nil, List.length_map] at j
  have j2 : (joinCs [44, 32] (vs.map tt)).length ≤ 600 := by omega
  unfold plainCs
  generalize joinCs [44, 32] (vs.map tt) = X at j2
  simp [le_LIM (show name.length ≤ 1000000 by omega), le_LIM (show name.length + 1 ≤ 1000000 by omega), le_LIM (show X.length ≤ 1000000 by omega), le_LIM (show name.length + (X.length + 1) ≤ 1000000 by omega), le_LIM (show name.length + 1 + X.length ≤ 1000000 by omega)]
  rw [if_pos (le_LIM (by omega))]
  simp
  exact f1
def howCs : How → Cs
  | .now => []
  | .rep w none => w ++ [32, 101, 118, 101, 114, 32]
  | .rep w (some n) => w ++ (32 :: (intCs n ++ [32]))
theorem c_write_how {S : Store} {how : How} (h : HowOk how) : F_write_how [howD how] S = .ok (.str (howCs how)) S := by
  refine eq_of_sat (sat_defM rfl ?_)
  have hnow : ∀ (w : Cs) (n : Option Int) {S : Store}, w ∈ hows → eqP [.tup [.str w, optD n], .tup [.str [110, 111, 119]]] S = .ok (.bl false) S := by
    intro w n S hw
    simp [hows] at hw
    rcases hw with rfl | rfl | rfl | rfl | rfl | rfl <;> cases n <;> rfl
  cases h with
  | now =>
    have : eqP [.tup [.str [110, 111, 119]], .tup [.str [110, 111, 119]]] S = .ok (.bl true) S := rfl
    simp [howD, this, howCs]
  | ever w hw hb =>
    have hl := (hows_word w hw).2
    have := hnow w none (S := S) hw
    simp only [optD] at this
    simp [howD, optD, this, howCs, le_LIM (show w.length ≤ 1000000 by omega), le_LIM (show w.length + 6 ≤ 1000000 by omega)]
  | rep w n hw h0 hn =>
    have hl := (hows_word w hw).2
    have hl2 := num_len hn
    have := hnow w (some n) (S := S) hw
    simp only [optD] at this
    simp [howD, optD, this, howCs, Num.str hn, le_LIM (show w.length ≤ 1000000 by omega), le_LIM (show w.length + 1 ≤ 1000000 by omega), le_LIM (show w.length + (1 + (intCs n).length) ≤ 1000000 by omega), le_LIM (show w.length + 1 + (intCs n).length ≤ 1000000 by omega), le_LIM (show w.length + (1 + (intCs n).length) + 1 ≤ 1000000 by omega), le_LIM (show w.length + ((intCs n).length + 1) + 1 ≤ 1000000 by omega), le_LIM (show w.length + 1 + (intCs n).length + 1 ≤ 1000000 by omega), -Nat.reducePow]
theorem how_len {how : How} (h : HowOk how) : (howCs how).length ≤ 200 := by
  cases h with
  | now => simp [howCs]
  | ever w hw hb =>
    have hl := (hows_word w hw).2
    simp [howCs]; omega
  | rep w n hw h0 hn =>
    have hl := (hows_word w hw).2
    have hl2 := num_len hn
    simp [howCs]; omega
def atomCs (sc : List Table) (name : Cs) (ts : List Term) : Cs := match findT sc name with
  | none => plainCs name (ts.map tt)
  | some tb => cellsCs name ((ts.map tt).take tb.key) ((ts.map tt).drop tb.key)
theorem sum_take {xs : List Nat} {n : Nat} : (xs.take n).sum ≤ xs.sum ∧ (xs.drop n).sum ≤ xs.sum := by
  have := congrArg List.sum (List.take_append_drop n xs)
  rw [List.sum_append] at this
  omega
theorem plain_len {name : Cs} {xs : List Cs} : (plainCs name xs).length ≤ name.length + (xs.map List.length).sum + xs.length * 2 + 2 := by
  have := joinCs_len [44, 32] xs
  simp only [List.length_cons, List.length_nil] at this
  simp [plainCs]
  omega
theorem cells_len {name : Cs} {xs ys : List Cs} : (cellsCs name xs ys).length ≤ name.length + ((xs.map List.length).sum + xs.length * 2) + ((ys.map List.length).sum + ys.length * 2) + 5 := by
  have h1 := joinCs_len [44, 32] xs
  have h2 := joinCs_len [44, 32] ys
  simp only [List.length_cons, List.length_nil] at h1 h2
  have h3 : (if xs = [] then ([] : Cs) else [32]).length ≤ 1 := by split <;> simp
  have h4 : (if ys = [] then ([] : Cs) else [32]).length ≤ 1 := by split <;> simp
  simp [cellsCs] at h3 h4 ⊢
  omega
theorem atom_len {sc : List Table} {name : Cs} {ts : List Term} (h : AtomOk sc name ts) : (atomCs sc name ts).length ≤ 1500 := by
  have h1 := sum_tt h.terms
  have h2 := h.eight
  have h3 := h.len
  unfold atomCs
  cases e : findT sc name with
  | none =>
    have := plain_len (name := name) (xs := ts.map tt)
    rw [List.length_map] at this
    simp only
    omega
  | some tb =>
    have := cells_len (name := name) (xs := (ts.map tt).take tb.key) (ys := (ts.map tt).drop tb.key)
    have s := sum_take (xs := (ts.map tt).map List.length) (n := tb.key)
    rw [← List.map_take, ← List.map_drop] at s
    rw [List.length_take, List.length_drop, List.length_map] at this
    simp only
    omega
theorem c_write_atom {S : Store} {sc : List Table} {how : How} {name : Cs} {ts : List Term} (ho : HowOk how) (ha : AtomOk sc name ts) : (F_write_atom [.tup (sc.map tabD), litD (.atom how name ts)] S).sat fun d S' => d = .str (howCs how ++ atomCs sc name ts) ∧ Fr [] S S' := by
  have h8 := ha.eight
  have hl1 := how_len ho
  have hl2 := atom_len ha
  have hs := sum_tt ha.terms
  refine sat_defM rfl ?_
  have hcut : cut [D.str [97, 116, 111, 109], howD how, .str name, .tup (ts.map termD)] (some 1) none = [howD how, .str name, .tup (ts.map termD)] := cut_from _ 1
  refine sat_seq (fun δ S' => δ = [some (.tup (sc.map tabD)), some (litD (.atom how name ts)), some (howD how), some (.str name), some (.tup (ts.map termD)), none, none, none] ∧ S = S') (by simp [litD, hcut]) ?_
  rintro δ _ ⟨rfl, rfl⟩
  have et := c_table_of (S := S) (ts := sc) (w := name)
  cases e : findT sc name with
  | none =>
    have e' := e
    unfold findT at e
    rw [e] at et
    simp [et, c_write_how ho]
    refine (c_write_plain ha.terms h8 ha.len).mono ?_
    rintro d S1 ⟨rfl, f1⟩
    have : atomCs sc name ts = plainCs name (ts.map tt) := by unfold atomCs; rw [e']
    rw [this] at hl2 ⊢
    simp [le_LIM (show (howCs how).length + (plainCs name (ts.map tt)).length ≤ 1000000 by omega)]
    exact f1
  | some tb =>
    have e' := e
    have hfit := ha.fit tb e
    unfold findT at e
    rw [e] at et
    have hnn : ¬ (tabD tb = D.non) := by simp [tabD]
    have hcs : atomCs sc name ts = cellsCs name ((ts.map tt).take tb.key) ((ts.map tt).drop tb.key) := by unfold atomCs; rw [e']
    refine sat_seq (fun δ S' => δ = [some (.tup (sc.map tabD)), some (litD (.atom how name ts)), some (howD how), some (.str name), some (.tup (ts.map termD)), some (tabD tb), none, none] ∧ S = S') (by simp [et]) ?_
    rintro δ _ ⟨rfl, rfl⟩
    refine sat_seq (fun δ S' => δ = [some (.tup (sc.map tabD)), some (litD (.atom how name ts)), some (howD how), some (.str name), some (.tup (ts.map termD)), some (tabD tb), none, none] ∧ S = S') (by simp [hnn]) ?_
    rintro δ _ ⟨rfl, rfl⟩
    refine sat_seq (fun δ S' => δ = [some (.tup (sc.map tabD)), some (litD (.atom how name ts)), some (howD how), some (.str name), some (.tup (ts.map termD)), some (tabD tb), some (.ref S.length), none] ∧ S'[S.length]? = some (.lst ((ts.map tt).map D.str)) ∧ Fr [] S S') ?_ ?_
    · simp
      refine lc_pure (f := termD) (g := tt) (δ := [some (.tup (sc.map tabD)), some (litD (.atom how name ts)), some (howD how), some (.str name), some (.tup (ts.map termD)), some (tabD tb), none, none]) (i := 7) (by omega) (by simp) (fun x hx S => c_write_term (ha.terms x hx)) ?_
      intro S' hf hys
      exact ⟨by simpa using hys, hf⟩
    rintro δ S1 ⟨rfl, h1, f1⟩
    have hcut1 : cut ((ts.map tt).map D.str) none (some (tb.key : Int)) = ((ts.map tt).take tb.key).map D.str := by rw [cut_to, List.map_take]
    have hcut2 : cut ((ts.map tt).map D.str) (some (tb.key : Int)) none = ((ts.map tt).drop tb.key).map D.str := by rw [cut_from, List.map_drop]
    have s := sum_take (xs := (ts.map tt).map List.length) (n := tb.key)
    rw [← List.map_take, ← List.map_drop] at s
    have g1 : ∀ T : Store, lstAt (S1 ++ T) S.length = some ((ts.map tt).map D.str) := fun T => lstAt_of (app_get h1)
    have g0 := lstAt_of h1
    rw [hcs] at hl2 ⊢
    generalize hA : (ts.map tt).take tb.key = A at *
    generalize hB : (ts.map tt).drop tb.key = B at *
    have lA : A.length ≤ 8 := by rw [← hA, List.length_take, List.length_map]; omega
    have lB : B.length ≤ 8 := by rw [← hB, List.length_drop, List.length_map]; omega
    generalize hL : (ts.map tt).map D.str = L at *
    have w := c_write_cells (S := S1 ++ [.lst (A.map D.str), .lst (B.map D.str)]) (name := name) (a := S1.length) (b := S1.length + 1) (xs := A) (ys := B) (by simp) (by rw [List.getElem?_append_right (by omega)]; simp) (by have := ha.len; omega) (by omega) (by omega)
    simp [c_write_how ho, tabD, g0, g1, hcut1, hcut2, w, le_LIM (show (howCs how).length + (cellsCs name A B).length ≤ 1000000 by omega)]
    exact f1.push
def litCs (sc : List Table) : Lit → Cs
  | .atom how name ts => howCs how ++ atomCs sc name ts
  | .test kind a b => tt a ++ (32 :: (kind ++ (32 :: tt b)))
theorem lit_len {sc : List Table} {x : Lit} (h : LitOk sc x) : (litCs sc x).length ≤ 1800 := by
  cases h with
  | atom how name ts h ha =>
    have := how_len h
    have := atom_len ha
    simp [litCs]; omega
  | test kind a b hk ha hb =>
    have := tt_len ha
    have := tt_len hb
    have := (tests_word kind hk).2
    simp [litCs]; omega
theorem c_write_literal {S : Store} {sc : List Table} {x : Lit} (h : LitOk sc x) : (F_write_literal [.tup (sc.map tabD), litD x] S).sat fun d S' => d = .str (litCs sc x) ∧ Fr [] S S' := by
  refine sat_defM rfl ?_
  cases h with
  | atom how name ts ho ha =>
    simp [litD]
    exact c_write_atom ho ha
  | test kind a b hk ha hb =>
    have l1 := tt_len ha
    have l2 := tt_len hb
    have l3 := (tests_word kind hk).2
    have hne : ¬ kind = [97, 116, 111, 109] := by
      rintro rfl
      revert hk
      decide
    simp [litD, hne, c_write_term ha, c_write_term hb, litCs, le_LIM (show (tt a).length ≤ 1000000 by omega), le_LIM (show (tt b).length ≤ 1000000 by omega), le_LIM (show kind.length ≤ 1000000 by omega), le_LIM (show (tt a).length + 1 ≤ 1000000 by omega)]
    rw [if_pos (le_LIM (by omega)), if_pos (le_LIM (by omega)), if_pos (le_LIM (by omega))]
    simp [Fr.refl]
/-- [write(x) for x in ..] of data, where the writer makes garbage -/
theorem lc_str {α : Type} {elt : EM} {i : Nat} {S : Store} {δ : Env} {f : α → D} {g : α → Cs} {xs : List α} {Q : Unit → Store → Prop} (hl : xs.length ≤ 1000) (hF : ∀ x ∈ xs, ∀ S', (elt ((δ.set i none).set i (some (f x))) S').sat fun d S2 => d = .str (g x) ∧ Fr [] S' S2)
    (hend : ∀ S', Fr [] S S' → S'[S.length]? = some (.lst ((xs.map g).map D.str)) → Q () S') : (lcLoop always S.length (δ.set i none) (.nm i) yesT elt (xs.map f) (S ++ [.lst []])).sat Q := by
  refine lc_all (fun S' => Fr [S.length] (S ++ [.lst []]) S') (fun k y => ∃ x, xs[k]? = some x ∧ y = .str (g x)) .refl (by simp) (fun S' v h => h.trans (.set (by simp))) (fun _ _ => rfl) (by simp; exact le_LIM (by omega)) ?_ ?_
  · intro k hk S' acc hf hacc
    refine ⟨_, rfl, ?_⟩
    simp at hk
    have := hF xs[k] (List.getElem_mem hk) S'
    rw [List.getElem_map]
    refine this.mono ?_
    rintro d S2 ⟨rfl, f2⟩
    exact ⟨⟨xs[k], List.getElem?_eq_getElem hk, rfl⟩, hf.trans f2.nil, f2.get hacc (by simp)⟩
  · intro ys S' hf hys hl2 hP
    refine hend S' (fr_app_new rfl hf) ?_
    rw [hys]
    congr 2
    apply List.ext_getElem?
    intro k
    rw [List.getElem?_map, List.getElem?_map]
    cases e : ys[k]? with
    | none =>
      have : ys.length ≤ k := List.getElem?_eq_none_iff.mp e
      simp at hl2
      rw [List.getElem?_eq_none (by omega)]
      rfl
    | some y =>
      obtain ⟨x, e1, e2⟩ := hP k y e
      rw [e1, e2]
      rfl
def bodyCs (sc : List Table) (xs : List Lit) : Cs := if xs = [] then [116, 114, 117, 101] else joinCs [44, 32] (xs.map (litCs sc))
def ruleCs (sc : List Table) (r : Rule) : Cs := plainCs r.name (r.terms.map tt) ++ ([32, 105, 102, 32] ++ bodyCs sc r.body)
theorem c_write_rule {S : Store} {sc : List Table} {r : Rule} (h : RuleOk sc r) : (F_write_rule [.tup (sc.map tabD), ruleD r] S).sat fun d S' => d = .str (ruleCs sc r) ∧ Fr [] S S' := by
  have h6 := h.len
  have hsum : ((r.body.map (litCs sc)).map List.length).sum ≤ r.body.length * 1800 := by
    have : ∀ l : List Lit, (∀ x ∈ l, LitOk sc x) → ((l.map (litCs sc)).map List.length).sum ≤ l.length * 1800 := by
      intro l
      induction l with
      | nil => intro _; simp
      | cons a r ih =>
        intro h
        have h1 := lit_len (h a (by simp))
        have h2 := ih fun s hs => h s (List.mem_cons_of_mem _ hs)
        simp only [List.map_cons, List.sum_cons, List.length_cons] at h2 ⊢
        omega
    exact this _ h.body
  refine sat_defM rfl ?_
  refine sat_seq (fun δ S' => δ = [some (.tup (sc.map tabD)), some (ruleD r), some (.str r.name), some (.tup (r.terms.map termD)), some (.tup (r.body.map litD)), none, none] ∧ S = S') (by simp [ruleD]) ?_
  rintro δ _ ⟨rfl, rfl⟩
  refine sat_seq (fun δ S' => δ = [some (.tup (sc.map tabD)), some (ruleD r), some (.str r.name), some (.tup (r.terms.map termD)), some (.tup (r.body.map litD)), some (.str [116, 114, 117, 101]), none] ∧ S = S') (by simp) ?_
  rintro δ _ ⟨rfl, rfl⟩
  refine sat_seq (fun δ S' => δ = [some (.tup (sc.map tabD)), some (ruleD r), some (.str r.name), some (.tup (r.terms.map termD)), some (.tup (r.body.map litD)), some (.str (bodyCs sc r.body)), none] ∧ Fr [] S S') ?_ ?_
  · by_cases hb : r.body = []
    · simp [hb, bodyCs, Fr.refl]
    · have : 0 < r.body.length := by
        have : r.body.length ≠ 0 := by simpa using hb
        omega
      simp [this, -joinP_ref]
      refine lc_str (f := litD) (g := litCs sc) (δ := [some (.tup (sc.map tabD)), some (ruleD r), some (.str r.name), some (.tup (r.terms.map termD)), some (.tup (r.body.map litD)), some (.str [116, 114, 117, 101]), none]) (i := 6) (by omega) ?_ ?_
      · intro x hx S'
        simp
        exact c_write_literal (h.body x hx)
      · intro S' hf hys
        rw [joinP_at hys (by rw [List.length_map]; omega)]
        simp [bodyCs, hb]
        exact hf
  rintro δ S1 ⟨rfl, f1⟩
  have hp := plain_len (name := r.name) (xs := r.terms.map tt)
  have h8 := h.head.eight
  have hs := sum_tt h.head.terms
  have hn := h.head.len
  rw [List.length_map] at hp
  have hbl : (bodyCs sc r.body).length ≤ 20000 := by
    unfold bodyCs
    split
    · simp
    · have j := joinCs_len [44, 32] (r.body.map (litCs sc))
      simp only [List.length_cons, List.length_nil, List.length_map] at j
      omega
  simp
  refine (c_write_plain h.head.terms h8 hn).mono ?_
  rintro d S2 ⟨rfl, f2⟩
  unfold ruleCs
  generalize plainCs r.name (r.terms.map tt) = X at hp
  generalize bodyCs sc r.body = Y at hbl
  simp [le_LIM (show X.length ≤ 1000000 by omega), le_LIM (show Y.length ≤ 1000000 by omega), le_LIM (show X.length + 4 ≤ 1000000 by omega)]
  rw [if_pos (le_LIM (by omega))]
  simp
  exact f1.trans f2
end LW

end

section
set_option linter.all false
set_option Elab.async false
set_option maxRecDepth 100000
namespace LW
open Dl DlM
theorem term_tok_ne {v : Term} {c : Nat} : termTok v ≠ .sg c := by
  cases v with
  | var w => simp [termTok]
  | val v =>
    simp only [termTok]
    unfold valTok
    split <;> simp
theorem lineF_terms : ∀ (vs : List Term) (p : Token) (ts : List Token), (∀ c, p ≠ .sg c) → ∃ q, (∀ c, q ≠ .sg c) ∧ lineF p ((vs.flatMap fun v => [.sg 44, termTok v]) ++ ts) = (vs.flatMap fun v => [44, 32] ++ tt v) ++ lineF q ts
  | [], p, ts, hp => ⟨p, hp, rfl⟩
  | v :: r, p, ts, hp => by
    obtain ⟨q, h1, h2⟩ := lineF_terms r (termTok v) ts fun c => term_tok_ne
    refine ⟨q, h1, ?_⟩
    simp only [List.flatMap_cons, List.cons_append, List.nil_append, lineF_cons, h2]
    simp [gap, tight, Token.txt, term_tok_ne, tt]
theorem lineF_commas (vs : List Term) (p : Token) (ts : List Token) (hne : vs ≠ []) : ∃ q, (∀ c, q ≠ .sg c) ∧ lineF p (commas vs ++ ts) = (if p = .sg 40 then [] else [32]) ++ (joinCs [44, 32] (vs.map tt) ++ lineF q ts) := by
  obtain ⟨v, r, rfl⟩ := List.exists_cons_of_ne_nil hne
  obtain ⟨q, h1, h2⟩ := lineF_terms r (termTok v) ts fun c => term_tok_ne
  refine ⟨q, h1, ?_⟩
  have e : commas (v :: r) ++ ts = termTok v :: ((r.flatMap fun v => [.sg 44, termTok v]) ++ ts) := by simp [commas, seps, List.flatMap_map]
  rw [e, lineF_cons, h2, List.map_cons, joinCs_cons, List.flatMap_map]
  simp only [gap, tight, term_tok_ne, false_or]
  by_cases hp : p = .sg 40 <;> simp [hp, tt]
/-- behind the name -/
theorem lineF_plain (name : Cs) (vs : List Term) (ts : List Token) : name ++ lineF (.wrd name) (.sg 40 :: (commas vs ++ .sg 41 :: ts)) = plainCs name (vs.map tt) ++ lineF (.sg 41) ts := by
  rw [lineF_cons]
  by_cases hk : vs = []
  · subst hk
    have : commas [] ++ Token.sg 41 :: ts = Token.sg 41 :: ts := rfl
    rw [this, lineF_cons]
    simp [gap, tight, Token.txt, plainCs, joinCs]
  · obtain ⟨q, h1, h2⟩ := lineF_commas vs (.sg 40) (.sg 41 :: ts) hk
    rw [h2, lineF_cons]
    simp [gap, tight, Token.txt, plainCs, h1]
theorem lineF_cells (name : Cs) (ks os : List Term) (ts : List Token) : name ++ lineF (.wrd name) (.sg 40 :: (commas ks ++ .sg 124 :: (commas os ++ .sg 41 :: ts))) = cellsCs name (ks.map tt) (os.map tt) ++ lineF (.sg 41) ts := by
  have tail : lineF (.sg 124) (commas os ++ .sg 41 :: ts) = ((if os.map tt = [] then [] else [32]) ++ joinCs [44, 32] (os.map tt)) ++ (41 :: lineF (.sg 41) ts) := by
    by_cases ho : os = []
    · subst ho
      have : commas [] ++ Token.sg 41 :: ts = Token.sg 41 :: ts := rfl
      rw [this, lineF_cons]
      simp [gap, tight, Token.txt, joinCs]
    · obtain ⟨q, h1, h2⟩ := lineF_commas os (.sg 124) (.sg 41 :: ts) ho
      rw [h2, lineF_cons]
      simp [ho, gap, tight, Token.txt]
  rw [lineF_cons]
  by_cases hk : ks = []
  · subst hk
    have : commas [] ++ Token.sg 124 :: (commas os ++ Token.sg 41 :: ts) = Token.sg 124 :: (commas os ++ Token.sg 41 :: ts) := rfl
    rw [this, lineF_cons, tail]
    simp [gap, tight, Token.txt, cellsCs, joinCs]
  · obtain ⟨q, h1, h2⟩ := lineF_commas ks (.sg 40) (.sg 124 :: (commas os ++ .sg 41 :: ts)) hk
    rw [h2, lineF_cons, tail]
    simp [gap, tight, Token.txt, cellsCs, hk, h1]
theorem lineF_atom (sc : List Table) (name : Cs) (vs : List Term) (p : Token) (ts : List Token) (hp : p ≠ .sg 40) : lineF p (atomTok sc name vs ++ ts) = 32 :: (atomCs sc name vs ++ lineF (.sg 41) ts) := by
  unfold atomTok atomCs
  cases findT sc name with
  | none =>
    have e := lineF_plain name vs ts
    simp only [plainTok, List.cons_append, List.append_assoc, List.nil_append, List.cons_append] at e ⊢
    rw [lineF_cons]
    simp only [Token.txt, e]
    simp [gap, tight, hp]
  | some tb =>
    have e := lineF_cells name (vs.take tb.key) (vs.drop tb.key) ts
    simp only [cellTok, List.cons_append, List.append_assoc, List.nil_append, List.cons_append, List.map_take, List.map_drop] at e ⊢
    rw [lineF_cons]
    simp only [Token.txt, e]
    simp [gap, tight, hp]
theorem lineF_lit {sc : List Table} {x : Lit} (p : Token) (ts : List Token) (hp : p ≠ .sg 40) : ∃ q, q ≠ .sg 40 ∧ lineF p (litTok sc x ++ ts) = 32 :: (litCs sc x ++ lineF q ts) := by
  cases x with
  | test kind a b =>
    refine ⟨termTok b, term_tok_ne, ?_⟩
    simp only [litTok, List.cons_append, List.nil_append, lineF_cons]
    simp [gap, tight, hp, term_tok_ne, litCs, tt, Token.txt]
  | atom how name vs =>
    refine ⟨.sg 41, by simp, ?_⟩
    cases how with
    | now =>
      simp only [litTok, howTok, List.nil_append]
      rw [lineF_atom _ _ _ _ _ hp]
      simp [litCs, howCs]
    | rep w n =>
      cases n with
      | none =>
        simp only [litTok, howTok, List.cons_append, List.nil_append, lineF_cons]
        rw [lineF_atom _ _ _ _ _ (by simp)]
        simp [gap, tight, hp, litCs, howCs, Token.txt, wEver]
      | some n =>
        simp only [litTok, howTok, List.cons_append, List.nil_append, lineF_cons]
        rw [lineF_atom _ _ _ _ _ (by simp)]
        simp [gap, tight, hp, litCs, howCs, Token.txt]
theorem lineF_lits {sc : List Table} : ∀ (xs : List Lit) (p : Token), p ≠ .sg 40 → lineF p (xs.flatMap fun x => .sg 44 :: litTok sc x) = xs.flatMap fun x => [44, 32] ++ litCs sc x
  | [], p, hp => rfl
  | x :: r, p, hp => by
    obtain ⟨q, h1, h2⟩ := lineF_lit (sc := sc) (x := x) (.sg 44) (r.flatMap fun x => .sg 44 :: litTok sc x) (by simp)
    have ih := lineF_lits (sc := sc) r q h1
    simp only [List.flatMap_cons, List.cons_append, lineF_cons]
    rw [h2, ih]
    simp [gap, tight, Token.txt]
theorem rule_line (sc : List Table) (r : Rule) : lineCs (ruleTok sc r) = ruleCs sc r := by
  have e := lineF_plain r.name r.terms (.wrd wIf :: bodyTok sc r.body)
  have e2 : ruleTok sc r = .wrd r.name :: .sg 40 :: (commas r.terms ++ .sg 41 :: .wrd wIf :: bodyTok sc r.body) := by simp [ruleTok, plainTok]
  rw [e2, lineCs_cons]
  simp only [Token.txt]
  rw [e, lineF_cons]
  unfold ruleCs
  congr 1
  cases hb : r.body with
  | nil => simp [bodyTok, bodyCs, lineF_cons, gap, tight, Token.txt, wIf, wTrue, lineF, tg, asm]
  | cons x xs =>
    obtain ⟨q, h1, h2⟩ := lineF_lit (sc := sc) (x := x) (.wrd wIf) (xs.flatMap fun x => .sg 44 :: litTok sc x) (by simp)
    have h3 := lineF_lits (sc := sc) xs q h1
    simp only [bodyTok, seps, List.map_cons, List.flatMap_map]
    rw [h2, h3]
    unfold bodyCs
    rw [if_neg (by simp), List.map_cons, joinCs_cons, List.flatMap_map]
    simp [gap, tight, Token.txt, wIf]
/-! the tokens are good -/
theorem commas_good {vs : List Term} (h : ∀ v ∈ vs, TermOk v) : ∀ t ∈ commas vs, Good t := by
  intro t ht
  rcases seps_mem ht with rfl | ⟨y, hy, ht⟩
  · exact .sg _ (by decide)
  · obtain ⟨v, hv, rfl⟩ := List.mem_map.mp hy
    rw [List.mem_singleton.mp ht]
    exact term_good (h v hv)
theorem commas_len (vs : List Term) : (commas vs).length ≤ vs.length * 2 := by
  have := seps_len (.sg 44) 1 (vs.map fun v => [termTok v]) (by
    intro x hx
    obtain ⟨v, _, rfl⟩ := List.mem_map.mp hx
    simp)
  rwa [List.length_map] at this
theorem plain_good {name : Cs} {vs : List Term} (hw : Word name) (hl : name.length ≤ 60) (h : ∀ v ∈ vs, TermOk v) : ∀ t ∈ plainTok name vs, Good t := by
  intro t ht
  unfold plainTok at ht
  simp only [List.mem_cons, List.mem_append, List.not_mem_nil, or_false] at ht
  rcases ht with rfl | rfl | ht | rfl
  · exact .wrd _ hw hl
  · exact .sg _ (by decide)
  · exact commas_good h t ht
  · exact .sg _ (by decide)
theorem atom_good {sc : List Table} {name : Cs} {vs : List Term} (h : AtomOk sc name vs) : (∀ t ∈ atomTok sc name vs, Good t) ∧ (atomTok sc name vs).length ≤ 24 := by
  have h8 := h.eight
  unfold atomTok
  cases findT sc name with
  | none =>
    have := commas_len vs
    exact ⟨plain_good h.word h.len h.terms, by simp [plainTok]; omega⟩
  | some tb =>
    have l1 := commas_len (vs.take tb.key)
    have l2 := commas_len (vs.drop tb.key)
    rw [List.length_take] at l1
    rw [List.length_drop] at l2
    refine ⟨?_, by simp [cellTok]; omega⟩
    intro t ht
    simp only [cellTok, List.mem_cons, List.mem_append, List.not_mem_nil, or_false] at ht
    rcases ht with rfl | rfl | ht | rfl | ht | rfl
    · exact .wrd _ h.word h.len
    · exact .sg _ (by decide)
    · exact commas_good (fun v hv => h.terms v (List.mem_of_mem_take hv)) t ht
    · exact .sg _ (by decide)
    · exact commas_good (fun v hv => h.terms v (List.mem_of_mem_drop hv)) t ht
    · exact .sg _ (by decide)
theorem word_ever : Word wEver := ⟨by decide, fun c hc => by revert c; unfold wEver letter; decide⟩
theorem word_true : Word wTrue := ⟨by decide, fun c hc => by revert c; unfold wTrue letter; decide⟩
theorem lit_good {sc : List Table} {x : Lit} (h : LitOk sc x) : (∀ t ∈ litTok sc x, Good t) ∧ (litTok sc x).length ≤ 26 := by
  cases h with
  | test kind a b hk ha hb =>
    obtain ⟨w1, w2⟩ := tests_word kind hk
    refine ⟨?_, by simp [litTok]⟩
    intro t ht
    simp [litTok] at ht
    rcases ht with rfl | rfl | rfl
    · exact term_good ha
    · exact .wrd _ w1 w2
    · exact term_good hb
  | atom how name ts ho ha =>
    obtain ⟨g1, g2⟩ := atom_good ha
    have hh : (∀ t ∈ howTok how, Good t) ∧ (howTok how).length ≤ 2 := by
      cases ho with
      | now => simp [howTok]
      | ever w hw hb =>
        obtain ⟨w1, w2⟩ := hows_word w hw
        refine ⟨?_, by simp [howTok]⟩
        intro t ht
        simp [howTok] at ht
        rcases ht with rfl | rfl
        · exact .wrd _ w1 w2
        · exact .wrd _ word_ever (by decide)
      | rep w n hw h0 hn =>
        obtain ⟨w1, w2⟩ := hows_word w hw
        refine ⟨?_, by simp [howTok]⟩
        intro t ht
        simp [howTok] at ht
        rcases ht with rfl | rfl
        · exact .wrd _ w1 w2
        · exact .num _ hn
    refine ⟨?_, by simp only [litTok, List.length_append]; omega⟩
    intro t ht
    rcases List.mem_append.mp (show t ∈ howTok how ++ atomTok sc name ts from ht) with ht | ht
    · exact hh.1 t ht
    · exact g1 t ht
theorem rule_good {sc : List Table} {r : Rule} (h : RuleOk sc r) : (∀ t ∈ ruleTok sc r, Good t) ∧ (ruleTok sc r).length ≤ 300 ∧ ruleTok sc r ≠ [] := by
  have h8 := h.head.eight
  have h6 := h.len
  have l0 := commas_len r.terms
  have hbody : (∀ t ∈ bodyTok sc r.body, Good t) ∧ (bodyTok sc r.body).length ≤ 200 := by
    cases hb : r.body with
    | nil =>
      refine ⟨?_, by simp [bodyTok]⟩
      intro t ht
      simp [bodyTok] at ht
      rw [ht]
      exact .wrd _ word_true (by decide)
    | cons x xs =>
      rw [hb] at h6
      have hx : ∀ y ∈ (x :: xs), LitOk sc y := by rw [← hb]; exact h.body
      refine ⟨?_, ?_⟩
      · intro t ht
        rcases seps_mem (show t ∈ seps (.sg 44) ((x :: xs).map (litTok sc)) from ht) with rfl | ⟨y, hy, ht⟩
        · exact .sg _ (by decide)
        · obtain ⟨v, hv, rfl⟩ := List.mem_map.mp hy
          exact (lit_good (hx v hv)).1 t ht
      · have := seps_len (.sg 44) 26 ((x :: xs).map (litTok sc)) (by
          intro y hy
          obtain ⟨v, hv, rfl⟩ := List.mem_map.mp hy
          exact (lit_good (hx v hv)).2)
        rw [List.length_map] at this
        show (seps (Token.sg 44) ((x :: xs).map (litTok sc))).length ≤ 200
        omega
  refine ⟨?_, by simp [ruleTok, plainTok]; omega, by simp [ruleTok, plainTok]⟩
  intro t ht
  rcases List.mem_append.mp (show t ∈ plainTok r.name r.terms ++ .wrd wIf :: bodyTok sc r.body from ht) with ht | ht
  · exact plain_good h.head.word h.head.len h.head.terms t ht
  · rcases List.mem_cons.mp ht with rfl | ht
    · exact .wrd _ word_if (by decide)
    · exact hbody.1 t ht
end LW

end

section
set_option linter.all false
set_option Elab.async false
set_option maxRecDepth 100000
namespace LW
open Dl DlM
@[scoped simp] theorem atI_three {α : Type} {x y z w : α} {xs : List α} : atI (x :: y :: z :: w :: xs) 3 = some w := atI_nat (k := 3) rfl
theorem c_term_text {S : Store} {x : Term} (h : TermOk x) : F__law_term_text [termD x] S = .ok (.str (tt x)) S := by
  refine eq_of_sat (sat_defM rfl ?_)
  cases h with
  | var w h hl => simp [termD, tt, termTok, Token.txt]
  | val v h =>
    simp [termD, c_value_text h]
    rfl
theorem c_law_table {S : Store} {ts : List Table} {w : Cs} : F__law_table [.tup (ts.map tabD), .str w] S = .ok (match ts.find? (fun t => decide (t.name = w)) with | some t => tabD t | none => .non) S := c_table_of
def plainTx (name : Cs) (xs : List Cs) : List Cs := name :: [40] :: (seps [44] (xs.map fun x => [x]) ++ [[41]])
theorem c_plain_texts {S : Store} {name : Cs} {n : Nat} {xs : List Cs} (h : S[n]? = some (.lst (xs.map D.str))) (hl : xs.length ≤ 100) :
    (F__law_cells_texts [.str name, .ref n, .int (-1)] S).sat fun d S' => ∃ m, d = .ref m ∧ S.length ≤ m ∧ S'[m]? = some (.lst ((plainTx name xs).map D.str)) ∧ Fr [] S S' := by
  refine sat_defM rfl ?_
  have b1 := seps1_len [44] xs
  generalize hA : seps [44] (xs.map fun x => [x]) = A at b1
  simp
  refine (c_between (xs := xs) (app_get h) (by omega)).mono ?_
  rintro d S1 ⟨m1, rfl, l1, e1, f1⟩
  rw [hA] at e1
  have e0 : S1[S.length]? = some (.lst [.str name, .str [40]]) := f1.get (by simp) (by simp)
  simp [add_lists e0 e1 (by simp; omega)]
  have e2 : (S1 ++ [MO.lst (D.str name :: D.str [40] :: List.map D.str A), MO.lst [D.str [41]]])[S1.length]? = some (.lst (D.str name :: D.str [40] :: List.map D.str A)) := by simp
  have e3 : (S1 ++ [MO.lst (D.str name :: D.str [40] :: List.map D.str A), MO.lst [D.str [41]]])[S1.length + 1]? = some (.lst [D.str [41]]) := by rw [List.getElem?_append_right (by omega)]; simp
  have e4 := add_lists e2 e3 (by simp; omega)
  simp at e4
  simp [e4]
  have f0 : Fr [] S S1 := Fr.app.trans f1
  refine ⟨by have := f0.le; omega, ?_, f0.push⟩
  unfold plainTx
  rw [hA]
  simp
theorem txts_commas (vs : List Term) : txts (commas vs) = seps [44] ((vs.map tt).map fun x => [x]) := by
  unfold txts commas
  rw [map_seps]
  simp only [List.map_map, Token.txt]
  rfl
theorem txts_atom (sc : List Table) (name : Cs) (vs : List Term) : txts (atomTok sc name vs) = match findT sc name with
    | none => plainTx name (vs.map tt)
    | some tb => rowTx name ((vs.map tt).take tb.key) ((vs.map tt).drop tb.key) := by
  unfold atomTok
  cases findT sc name with
  | none =>
    have := txts_commas vs
    unfold txts at this ⊢
    simp [plainTok, plainTx, Token.txt, this]
  | some tb =>
    have h1 := txts_commas (vs.take tb.key)
    have h2 := txts_commas (vs.drop tb.key)
    unfold txts at h1 h2 ⊢
    simp only [cellTok, rowTx, List.map_cons, List.map_append, List.map_nil, h1, h2, Token.txt, List.map_take, List.map_drop]
theorem c_atom_texts {S : Store} {sc : List Table} {how : How} {name : Cs} {vs : List Term} (ho : HowOk how) (ha : AtomOk sc name vs) :
    (F__law_atom_texts [.tup (sc.map tabD), litD (.atom how name vs)] S).sat fun d S' => ∃ m, d = .ref m ∧ S.length ≤ m ∧ S'[m]? = some (.lst ((txts (howTok how ++ atomTok sc name vs)).map D.str)) ∧ Fr [] S S' := by
  have h8 := ha.eight
  obtain ⟨_, al⟩ := atom_good ha
  refine sat_defM rfl ?_
  -- the how
  refine sat_seq (fun δ S' => δ = [some (.tup (sc.map tabD)), some (litD (.atom how name vs)), some (.ref S.length), none, none, none] ∧ S' = S ++ [.lst []]) (by simp) ?_
  rintro δ _ ⟨rfl, rfl⟩
  refine sat_seq (fun δ S' => ∃ q, δ = [some (.tup (sc.map tabD)), some (litD (.atom how name vs)), some (.ref q), none, none, none] ∧ S.length ≤ q ∧ S'[q]? = some (.lst ((txts (howTok how)).map D.str)) ∧ Fr [] S S') ?_ ?_
  · cases ho with
    | now =>
      have a1 : atI [D.str [97, 116, 111, 109], howD .now, .str name, .tup (vs.map termD)] 1 = some (howD .now) := rfl
      simp [litD, howD, howTok, txts]
      exact .app
    | ever w hw hb =>
      simp [litD, howD, howTok, txts, optD, Token.txt, wEver]
      exact .app
    | rep w n hw h0 hn =>
      have e1 : ((S ++ [MO.lst [], MO.lst [D.str w, .str [101, 118, 101, 114]]]))[S.length + 1]? = some (.lst [D.str w, .str [101, 118, 101, 114]]) := by rw [List.getElem?_append_right (by omega)]; simp
      simp [litD, howD, howTok, txts, optD, Token.txt, Num.str hn, -Nat.reducePow]
      have i1 : ixN 2 1 = some 1 := rfl
      simp [i1]
      exact .app
  rintro δ S1 ⟨q, rfl, hq, h1, f1⟩
  refine sat_seq (fun δ S' => δ = [some (.tup (sc.map tabD)), some (litD (.atom how name vs)), some (.ref q), some (.ref S1.length), none, none] ∧ S'[q]? = some (.lst ((txts (howTok how)).map D.str)) ∧ S'[S1.length]? = some (.lst ((vs.map tt).map D.str)) ∧ Fr [] S S') ?_ ?_
  · simp [litD]
    refine lc_pure (f := termD) (g := tt) (F := F__law_term_text) (δ := [some (.tup (sc.map tabD)), some (.tup [.str [97, 116, 111, 109], howD how, .str name, .tup (vs.map termD)]), some (.ref q), none, none, none]) (i := 5) (by omega) (by simp) (fun x hx S => c_term_text (ha.terms x hx)) ?_
    intro S' hf hys
    exact ⟨hf.get h1 (by simp), by simpa using hys, f1.trans hf⟩
  rintro δ S2 ⟨rfl, h2, h3, f2⟩
  have et := c_law_table (S := S2) (ts := sc) (w := name)
  have fin : ∀ (m : Nat) (S3 : Store), S3[m]? = some (.lst ((txts (atomTok sc name vs)).map D.str)) → Fr [] S2 S3 → (addP [.ref q, .ref m] S3).sat fun d S' => ∃ m, d = .ref m ∧ S.length ≤ m ∧ S'[m]? = some (.lst ((txts (howTok how ++ atomTok sc name vs)).map D.str)) ∧ Fr [] S S' := by
    intro m S3 hm hf
    have hq3 : S3[q]? = some (.lst ((txts (howTok how)).map D.str)) := hf.get h2 (by simp)
    have hh : (howTok how).length ≤ 2 := by
      cases how with
      | now => simp [howTok]
      | rep w n => cases n <;> simp [howTok]
    rw [add_lists hq3 hm (by simp [txts]; omega), Res.sat_ok]
    refine ⟨_, rfl, by have := f2.le; have := hf.le; omega, by simp [txts], (f2.trans hf).push⟩
  cases e : findT sc name with
  | none =>
    have e' := e
    unfold findT at e
    rw [e] at et
    simp [litD, et, -addP_ref]
    refine (c_plain_texts h3 (by simp; omega)).mono ?_
    rintro d S3 ⟨m, rfl, l3, e3, f3⟩
    refine fin m S3 ?_ f3
    rw [txts_atom, e', e3]
  | some tb =>
    have e' := e
    have hfit := ha.fit tb e
    unfold findT at e
    rw [e] at et
    have hnn : ¬ (tabD tb = D.non) := by simp [tabD]
    simp [litD, et, hnn, -addP_ref]
    simp [tabD, -addP_ref]
    refine (c_cells_texts (key := tb.key) h3 (by simp; omega) (by simp; omega)).mono ?_
    rintro d S3 ⟨m, rfl, l3, e3, f3⟩
    refine fin m S3 ?_ f3
    rw [txts_atom, e', e3]
end LW

end

section
set_option linter.all false
set_option Elab.async false
set_option maxRecDepth 100000
namespace LW
open Dl DlM
def RtInv (S : Store) (sc : List Table) (r : Rule) (L : List (List Cs)) (k : Nat) (δ : Env) (S' : Store) : Prop :=
  ∃ (a3 a4 a5 : Option D) (q : Nat), δ = [some (.tup (sc.map tabD)), some (ruleD r), some (.ref q), a3, a4, a5] ∧ S.length ≤ q ∧ S'[q]? = some (.lst ((plainTx r.name (r.terms.map tt) ++ wIf :: seps [44] (L.take k)).map D.str)) ∧ Fr [] S S'
theorem txts_rule (sc : List Table) (r : Rule) : txts (ruleTok sc r) = plainTx r.name (r.terms.map tt) ++ wIf :: (if r.body = [] then [wTrue] else seps [44] (r.body.map fun x => txts (litTok sc x))) := by
  have h := txts_commas r.terms
  have hb : txts (bodyTok sc r.body) = if r.body = [] then [wTrue] else seps [44] (r.body.map fun x => txts (litTok sc x)) := by
    cases r.body with
    | nil => rfl
    | cons x xs =>
      rw [if_neg (by simp)]
      unfold txts bodyTok
      rw [map_seps, List.map_map]
      rfl
  unfold txts at h hb ⊢
  simp only [ruleTok, plainTok, plainTx, List.map_cons, List.map_append, List.map_nil, h, hb, Token.txt, List.cons_append, List.append_assoc, List.nil_append]
theorem c_rule_texts {S : Store} {sc : List Table} {r : Rule} (h : RuleOk sc r) : (F__law_rule_texts [.tup (sc.map tabD), ruleD r] S).sat fun d S' => ∃ m, d = .ref m ∧ S.length ≤ m ∧ S'[m]? = some (.lst ((txts (ruleTok sc r)).map D.str)) ∧ Fr [] S S' := by
  have h8 := h.head.eight
  have h6 := h.len
  have hpl : (plainTx r.name (r.terms.map tt)).length ≤ 19 := by
    have := seps1_len [44] (r.terms.map tt)
    rw [List.length_map] at this
    have e : (plainTx r.name (r.terms.map tt)).length = (seps ([44] : Cs) ((r.terms.map tt).map fun x => [x])).length + 3 := by simp [plainTx]
    exact Nat.le_trans (Nat.le_of_eq e) (Nat.le_trans (Nat.add_le_add_right this 3) (by omega))
  rw [txts_rule]
  refine sat_defM rfl ?_
  refine sat_seq (fun δ S' => ∃ q, δ = [some (.tup (sc.map tabD)), some (ruleD r), some (.ref q), none, none, none] ∧ S.length ≤ q ∧ S'[q]? = some (.lst ((plainTx r.name (r.terms.map tt) ++ [wIf]).map D.str)) ∧ Fr [] S S') ?_ ?_
  · simp [ruleD, -addP_ref]
    refine lc_pure (f := termD) (g := tt) (F := F__law_term_text) (δ := [some (.tup (sc.map tabD)), some (.tup [.str r.name, .tup (r.terms.map termD), .tup (r.body.map litD)]), none, none, none, none]) (i := 5) (by omega) (by simp) (fun x hx S => c_term_text (h.head.terms x hx)) ?_
    intro S1 f1 hys
    refine (c_plain_texts hys (by simp; omega)).mono ?_
    rintro d S2 ⟨m, rfl, l2, e2, f2⟩
    have g1 : (S2 ++ [MO.lst [D.str [105, 102]]])[m]? = some (.lst ((plainTx r.name (r.terms.map tt)).map D.str)) := app_get e2
    have g2 : (S2 ++ [MO.lst [D.str [105, 102]]])[S2.length]? = some (.lst [D.str [105, 102]]) := by simp
    rw [add_lists g1 g2 (by simp; omega), Res.sat_ok]
    refine ⟨_, rfl, by have := f1.le; have := f2.le; simp; omega, ?_, (f1.trans f2).push.push⟩
    rw [List.getElem?_append_right (by simp)]
    simp [wIf]
  rintro δ S1 ⟨q, rfl, hq, h1, f1⟩
  by_cases hb : r.body = []
  · rw [if_pos hb]
    simp [ruleD, hb, -addP_ref]
    have g1 : (S1 ++ [MO.lst [D.str [116, 114, 117, 101]]])[q]? = some (.lst ((plainTx r.name (r.terms.map tt) ++ [wIf]).map D.str)) := app_get h1
    have g2 : (S1 ++ [MO.lst [D.str [116, 114, 117, 101]]])[S1.length]? = some (.lst [D.str [116, 114, 117, 101]]) := by simp
    rw [add_lists g1 g2 (by simp; omega), Res.sat_ok]
    refine ⟨_, rfl, by have := f1.le; simp; omega, ?_, f1.push.push⟩
    rw [List.getElem?_append_right (by simp)]
    simp [wTrue]
  rw [if_neg hb]
  generalize hL : (r.body.map fun x => txts (litTok sc x)) = L
  have hLl : L.length = r.body.length := by rw [← hL]; simp
  have hlen : ∀ j, (seps [44] (L.take j)).length ≤ 162 := fun j => by
    have := seps_len [44] 26 (L.take j) (by
      intro x hx
      rw [← hL] at hx
      obtain ⟨y, hy, rfl⟩ := List.mem_map.mp (List.mem_of_mem_take hx)
      have := (lit_good (h.body y hy)).2
      simp [txts]
      omega)
    rw [List.length_take] at this
    omega
  have hb0 : r.body.length ≠ 0 := by simpa using hb
  refine sat_seq (fun δ S' => δ = [some (.tup (sc.map tabD)), some (ruleD r), some (.ref q), none, none, none] ∧ S1 = S') (by simp [ruleD, hb]) ?_
  rintro δ _ ⟨rfl, rfl⟩
  refine sat_seq (RtInv S sc r L L.length) ?_ ?_
  · simp [ruleD, inRange_nat (show r.body.length ≤ 1000000000 by omega)]
    rw [hLl]
    have hI : RtInv S sc r L 0 [some (.tup (sc.map tabD)), some (ruleD r), some (.ref q), none, none, none] S1 := ⟨_, _, _, q, rfl, hq, by simpa [seps] using h1, f1⟩
    have hr : (.tup [.str r.name, .tup (r.terms.map termD), .tup (r.body.map litD)] : D) = ruleD r := rfl
    rw [hr]
    refine for_inv (RtInv S sc r L) hI (by simp) ?_ (fun δ S' hh => by rw [rangeL_length] at hh; exact hh)
    rintro k hk δ S2 ⟨a3, a4, a5, q, rfl, hq, h2, f2⟩
    refine ⟨_, rfl, ?_⟩
    rw [rangeL_get]
    rw [rangeL_length] at hk
    have hk2 : k < L.length := by omega
    have hst := seps_take [44] L k hk2
    have hLk : L[k] = txts (litTok sc r.body[k]) := by subst hL; simp
    have hx := h.body _ (List.getElem_mem hk)
    have hxl := (lit_good hx).2
    have eb : atI (r.body.map litD) (k : Int) = some (litD r.body[k]) := atI_nat (by simp [hk])
    generalize r.body[k] = x at hx hLk eb hxl
    refine sat_seq (fun δ S3 => δ = [some (.tup (sc.map tabD)), some (ruleD r), some (.ref q), some (.int k), a4, a5] ∧ S3[q]? = some (.lst ((plainTx r.name (r.terms.map tt) ++ wIf :: (if k = 0 then [] else seps [44] (L.take k) ++ [[44]])).map D.str)) ∧ Fr [] S S3) ?_ ?_
    · by_cases hk0 : k = 0
      · subst hk0
        simp [seps] at h2 ⊢
        exact ⟨h2, f2⟩
      · have : 0 < k := by omega
        have hl2 := hlen k
        generalize seps [44] (L.take k) = M at h2 hl2
        simp [this, h2, hk0]
        rw [if_pos (lt_LIM (by omega))]
        simp
        refine ⟨?_, f2.set_new hq⟩
        rw [List.getElem?_set_self (lt_of_get h2)]
    rintro δ S3 ⟨rfl, h3, f3⟩
    have hl3 := hlen (k + 1)
    rw [hst, List.length_append] at hl3
    have hfin : ∀ (m : Nat) (S4 : Store) (T : Store), Fr [] S3 S4 → S4[m]? = some (.lst ((txts (litTok sc x)).map D.str)) → ∀ a4, (addP [.ref q, .ref m] S4).sat fun d S5 => RtInv S sc r L (k + 1) [some (.tup (sc.map tabD)), some (ruleD r), some d, some (.int k), a4, a5] S5 := by
      intro m S4 _ hf hm a4
      have hq4 := hf.get h3 (by simp)
      rw [add_lists hq4 hm (by simp [txts]; omega), Res.sat_ok]
      refine ⟨_, _, _, _, rfl, by have := f3.le; have := hf.le; omega, ?_, (f3.trans hf).push⟩
      rw [hst, hLk]
      simp
    cases hx with
    | atom how name vs ho ha =>
      simp [ruleD, eb, -addP_ref, litD]
      have hr2 : (.tup [.str [97, 116, 111, 109], howD how, .str name, .tup (vs.map termD)] : D) = litD (.atom how name vs) := rfl
      rw [hr2]
      refine (c_atom_texts ho ha).mono ?_
      rintro d S4 ⟨m, rfl, l4, e4, f4⟩
      exact hfin m S4 S4 f4 e4 _
    | test kind a b hkd ha hb =>
      have hne : ¬ kind = [97, 116, 111, 109] := by
        rintro rfl
        revert hkd
        decide
      simp [ruleD, eb, hne, litD, c_term_text ha, c_term_text hb, -addP_ref]
      exact hfin S3.length _ S3 .app (by simp [litTok, txts, tt, Token.txt]) _
  · rintro δ S2 ⟨a3, a4, a5, q, rfl, hq, h2, f2⟩
    rw [List.take_length] at h2
    simp
    exact ⟨hq, by simpa using h2, f2⟩
end LW

end

section
set_option linter.all false
set_option Elab.async false
set_option maxRecDepth 100000
namespace LW
open Dl DlM
/-- one of a row that is written there -/
theorem pickL {S : Store} {r : Nat} (h : Ints S r) (row : List D) (hne : row ≠ []) (m : Int) (hm : m = row.length) :
    (F__law_take [.ref r, .int m] (S ++ [.lst row])).sat fun d S' => ∃ v : Int, ∃ x ∈ row, d = .int v ∧ lstAt S' S.length = some row ∧ atI row v = some x ∧ Dr r S S' := by
  have h1 : Dr r S (S ++ [.lst row]) := .of h .app
  have hl : row.length ≠ 0 := by simpa using hne
  refine (c_take h1.whole (by omega)).mono ?_
  rintro d S2 ⟨v, rfl, h0, hv, h2⟩
  have hr := h.lt
  obtain ⟨y, e1, e2⟩ := atI_int (xs := row) h0 (by omega)
  exact ⟨v, y, List.mem_of_getElem? e2, rfl, lstAt_of (h2.get (by simp) (by omega)), e1, h1.trans h2⟩
theorem c_how {S : Store} {r : Nat} (h : Ints S r) : (F__law_how [.ref r] S).sat fun d S' => ∃ x, d = howD x ∧ HowOk x ∧ Dr r S S' := by
  refine sat_defM rfl ?_
  simp
  refine (c_take h (by omega)).mono ?_
  rintro d S1 ⟨v, rfl, h0, h1, h2⟩
  simp
  by_cases hv : v = 0
  · simp [hv]
    exact ⟨.now, rfl, .now, h2⟩
  simp [hv]
  refine (pickL h2.whole ([[111, 110, 99, 101], [97, 108, 119, 97, 121, 115], [97, 103, 111], [97, 104, 101, 97, 100], [115, 111, 111, 110], [104, 101, 110, 99, 101, 102, 111, 114, 116, 104]].map D.str) (by simp) 6 rfl).mono ?_
  rintro d S2 ⟨v2, x, hx, rfl, e1, e2, h3⟩
  obtain ⟨w, hw, rfl⟩ := List.mem_map.mp hx
  have hwh : w ∈ hows := by
    revert hw
    simp [hows]
    rintro (rfl | rfl | rfl | rfl | rfl | rfl) <;> simp
  simp at e1 e2
  have hin : inP [.str w, .ref S2.length] (S2 ++ [.lst [.str [97, 103, 111], .str [97, 104, 101, 97, 100]]]) = .ok (.bl (decide (w ∈ bounded))) (S2 ++ [.lst [.str [97, 103, 111], .str [97, 104, 101, 97, 100]]]) := inP_strs (ws := bounded) (by simp [bounded])
  have h4 : Dr r S (S2 ++ [.lst [.str [97, 103, 111], .str [97, 104, 101, 97, 100]]]) := (h2.trans h3).push
  simp [e1, e2, hin]
  have fin : ∀ S3, Dr r S S3 → ((F__law_take [.ref r, .int 4]) S3).sat fun a S' => ∃ x, D.tup [.str w, a] = howD x ∧ HowOk x ∧ Dr r S S' := by
    intro S3 h5
    refine (c_take h5.whole (by omega)).mono ?_
    rintro d S4 ⟨n, rfl, n0, n1, h6⟩
    refine ⟨.rep w (some n), rfl, .rep w n hwh n0 ?_, h5.trans h6⟩
    have : (4 : Nat) < big := by decide +kernel
    omega
  by_cases hb : w ∈ bounded
  · simp [hb]
    exact fin _ h4
  · simp [hb]
    refine (c_take h4.whole (by omega)).mono ?_
    rintro d S3 ⟨u, rfl, u0, u1, h5⟩
    simp
    by_cases hu : u = 0
    · simp [hu]
      exact ⟨.rep w none, rfl, .ever w hwh hb, h4.trans h5⟩
    · simp [hu]
      exact fin _ (h4.trans h5)
theorem c_text_how {S : Store} {r : Nat} (h : Ints S r) : (F__law_text_how [.ref r] S).sat fun d S' => ∃ x, d = howD x ∧ HowOk x ∧ Dr r S S' := by
  refine sat_defM rfl ?_
  refine sat_seq (fun δ S' => ∃ x, δ = [some (.ref r), some (howD x)] ∧ HowOk x ∧ Dr r S S') ?_ ?_
  · simp
    refine (c_how h).mono ?_
    rintro d S1 ⟨x, rfl, hx, h1⟩
    exact ⟨x, rfl, hx, h1⟩
  rintro δ S1 ⟨x, rfl, hx, h1⟩
  cases hx with
  | now =>
    simp [howD]
    exact ⟨.now, rfl, .now, h1⟩
  | ever w hw hb =>
    simp [howD, optD]
    exact ⟨.rep w none, rfl, .ever w hw hb, h1⟩
  | rep w n hw h0 hn =>
    simp [howD, optD]
    refine (c_take h1.whole (by omega)).mono ?_
    rintro d S2 ⟨u, rfl, u0, u1, h2⟩
    simp
    by_cases hu : u = 0
    · simp [hu]
      refine (c_great h2.whole).mono ?_
      rintro d S3 ⟨i, rfl, hi, h3⟩
      have hab : absP [.int i] S3 = .ok (.int (if i < 0 then -i else i)) S3 := rfl
      simp [hab]
      refine ⟨.rep w (some (if i < 0 then -i else i)), rfl, .rep w _ hw (by split <;> omega) ?_, h1.trans (h2.trans h3)⟩
      have := hi.big
      split <;> omega
    · simp [hu]
      exact ⟨.rep w (some n), rfl, .rep w n hw h0 hn, h1.trans h2⟩
/-- variables at v, values at u -/
structure Pool (S : Store) (v u : Nat) : Prop where
  vars : ∃ vs : List Cs, S[v]? = some (.lst (vs.map D.str)) ∧ vs ≠ [] ∧ ∀ w ∈ vs, Word w ∧ w.length ≤ 60
  vals : ∃ ds : List D, S[u]? = some (.lst ds) ∧ ds ≠ [] ∧ ∀ d ∈ ds, Val d
theorem Pool.mono {S S' : Store} {v u : Nat} {xs : List Nat} (h : Pool S v u) (f : Fr xs S S') (h1 : v ∉ xs) (h2 : u ∉ xs) : Pool S' v u := by
  obtain ⟨⟨vs, a1, a2⟩, ⟨ds, b1, b2⟩⟩ := h
  exact ⟨⟨vs, f.get a1 h1, a2⟩, ⟨ds, f.get b1 h2, b2⟩⟩
theorem c_law_term {S : Store} {r v u : Nat} (h : Ints S r) (hp : Pool S v u) (hv : v ≠ r) (hu : u ≠ r) : (F__law_term [.ref r, .ref v, .ref u] S).sat fun d S' => ∃ x, d = termD x ∧ TermOk x ∧ Dr r S S' := by
  refine sat_defM rfl ?_
  simp
  refine (c_take h (by omega)).mono ?_
  rintro d S1 ⟨a, rfl, h0, h1, h2⟩
  obtain ⟨⟨vs, a1, a2, a3⟩, ⟨ds, b1, b2, b3⟩⟩ := hp.mono h2.fr (by simpa using hv) (by simpa using hu)
  simp
  by_cases hz : a = 0
  · simp [hz]
    refine (c_pick h2.whole b1 b2 hu).mono ?_
    rintro d S2 ⟨hd, h3⟩
    exact ⟨.val d, rfl, .val d (b3 d hd), h2.trans h3⟩
  · simp [hz]
    refine (c_pick h2.whole a1 (by simpa using a2) hv).mono ?_
    rintro d S2 ⟨hd, h3⟩
    obtain ⟨w, hw, rfl⟩ := List.mem_map.mp hd
    exact ⟨.var w, rfl, .var w (a3 w hw).1 (a3 w hw).2, h2.trans h3⟩
end LW

end

section
set_option linter.all false
set_option Elab.async false
set_option maxRecDepth 100000
namespace LW
open Dl DlM
/-- the draws at r, the words at w, the names at nm -/
structure Jr (r w nm : Nat) (ws names : List Cs) (S : Store) : Prop where
  whole : Ints S r
  words : S[w]? = some (.lst (ws.map D.str))
  names : S[nm]? = some (.lst (names.map D.str))
theorem Jr.dr {r w nm : Nat} {ws names : List Cs} {S S' : Store} (h : Jr r w nm ws names S) (h1 : w ≠ r) (h2 : nm ≠ r) (d : Dr r S S') : Jr r w nm ws names S' := ⟨d.whole, d.get h.words h1, d.get h.names h2⟩
theorem vals_of {P : D → Prop} {ys : List D} (h : ∀ (k : Nat) (y : D), ys[k]? = some y → P y) : ∀ y ∈ ys, P y := fun y hy => by
  obtain ⟨k, hk⟩ := List.getElem?_of_mem hy
  exact h k y hk
theorem terms_of {ys : List D} (h : ∀ (k : Nat) (y : D), ys[k]? = some y → ∃ x, y = termD x ∧ TermOk x) : ∃ xs : List Term, ys = xs.map termD ∧ ∀ x ∈ xs, TermOk x := by
  induction ys with
  | nil => exact ⟨[], rfl, by simp⟩
  | cons y r ih =>
    obtain ⟨z, rfl, hz⟩ := h 0 y rfl
    obtain ⟨zs, rfl, hzs⟩ := ih fun k y hy => h (k + 1) y hy
    exact ⟨z :: zs, rfl, by simpa using ⟨hz, hzs⟩⟩
/-- a comprehension that draws -/
theorem lc_draw {still : Store → Bool} {tg : Tgt} {elt : EM} {xs : List D} {δ : Env} {S : Store} {r : Nat} {Q : Unit → Store → Prop} (P : D → Prop) (h : Ints S r) (hs : ∀ S', still S' = true) (hl : xs.length ≤ 1000)
    (step : ∀ k (hk : k < xs.length) S', Dr r S S' → ∃ δ1, tg.put xs[k] δ = some δ1 ∧ (elt δ1 S').sat fun y S2 => P y ∧ Dr r S' S2)
    (hend : ∀ (ys : List D) S', Dr r S S' → S'[S.length]? = some (.lst ys) → ys.length = xs.length → (∀ (k : Nat) (y : D), ys[k]? = some y → P y) → Q () S') : (lcLoop still S.length δ tg yesT elt xs (S ++ [.lst []])).sat Q := by
  have hr := h.lt
  refine lc_all (fun S' => Dr r S S' ∧ S.length < S'.length) (fun _ y => P y) ⟨.of h .app, by simp⟩ (by simp) (fun S' v ⟨h1, h2⟩ => ⟨h1.set_new hr (Nat.le_refl _), by simpa using h2⟩) (fun S' _ => hs S') (le_LIM (by omega)) ?_ ?_
  · rintro k hk S' acc ⟨h1, h2⟩ hacc
    obtain ⟨δ1, e1, e2⟩ := step k hk S' h1
    refine ⟨δ1, e1, e2.mono ?_⟩
    rintro y S2 ⟨p, d⟩
    exact ⟨p, ⟨h1.trans d, Nat.lt_of_lt_of_le h2 d.le⟩, d.get hacc (by omega)⟩
  · rintro ys S' ⟨h1, h2⟩ hys hyl hP
    exact hend ys S' h1 hys hyl hP
theorem find_of {sc : List Table} (hs : Schema sc) {tb : Table} (hm : tb ∈ sc) : findT sc tb.name = some tb := by
  have hnd := hs.nodup
  clear hs
  unfold findT
  induction sc with
  | nil => cases hm
  | cons a r ih =>
    rw [List.find?_cons]
    rw [List.map_cons, List.nodup_cons] at hnd
    rcases List.mem_cons.mp hm with rfl | hm
    · simp
    · have : a.name ≠ tb.name := fun e => hnd.1 (by rw [e]; exact List.mem_map_of_mem hm)
      simp [this]
      simpa using ih hm hnd.2
/-- pick of a tuple -/
theorem c_pick_tup {S : Store} {r : Nat} {row : List D} (h : Ints S r) (hne : row ≠ []) : (F__law_pick [.ref r, .tup row] S).sat fun d S' => d ∈ row ∧ Dr r S S' := by
  refine sat_defM rfl ?_
  have hl : (0 : Int) < row.length := by
    have : row.length ≠ 0 := by simpa using hne
    omega
  simp
  refine (c_take h hl).mono ?_
  rintro d S1 ⟨v, rfl, h0, h1, hd⟩
  obtain ⟨x, e1, e2⟩ := atI_int (xs := row) h0 h1
  simp [e1]
  exact ⟨List.mem_of_getElem? e2, hd⟩
/-- variables = [words[0], words[1], pick] -/
theorem c_vars {S : Store} {r w nm : Nat} {ws names : List Cs} (hJ : Jr r w nm ws names S) (hws : Words 60 ws) (hl : 2 ≤ ws.length) (hwr : w ≠ r) {δ : Env} {i j : Nat} (h0 : δ[i]? = some (some (.ref r))) (hw : δ[j]? = some (some (.ref w))) :
    (callM lstP [(callM ixP [(varM j), (conM (.int 0))]), (callM ixP [(varM j), (conM (.int 1))]), (callM F__law_pick [(varM i), (varM j)])] δ S).sat fun d S' => ∃ v vs, d = .ref v ∧ S.length ≤ v ∧ S'[v]? = some (.lst (vs.map D.str)) ∧ vs ≠ [] ∧ (∀ w ∈ vs, Word w ∧ w.length ≤ 60) ∧ Dr r S S' := by
  obtain ⟨a, b, rest, rfl⟩ : ∃ a b rest, ws = a :: b :: rest := by
    match ws, hl with
    | a :: b :: rest, _ => exact ⟨a, b, rest, rfl⟩
  have hwd := hJ.words
  simp only [List.map_cons] at hwd
  simp [h0, hw, lstAt_of hwd]
  refine (c_pick hJ.whole hwd (by simp) hwr).mono ?_
  rintro d S1 ⟨hd, h1⟩
  obtain ⟨c, hc, rfl⟩ : ∃ c ∈ a :: b :: rest, d = .str c := by
    have : d ∈ (a :: b :: rest).map D.str := by simpa using hd
    obtain ⟨c, hc, rfl⟩ := List.mem_map.mp this
    exact ⟨c, hc, rfl⟩
  refine ⟨h1.le, [a, b, c], by simp, by simp, ?_, h1.push⟩
  intro x hx
  simp at hx
  rcases hx with rfl | rfl | rfl
  · exact ⟨hws.word _ (by simp), hws.len _ (by simp)⟩
  · exact ⟨hws.word _ (by simp), hws.len _ (by simp)⟩
  · exact ⟨hws.word _ hc, hws.len _ hc⟩
end LW

end

section
set_option linter.all false
set_option Elab.async false
set_option maxRecDepth 100000
namespace LW
open Dl DlM
theorem c_text_literal {S : Store} {r w nm : Nat} {ws names : List Cs} {sc : List Table} {atoms : Int} (hJ : Jr r w nm ws names S) (hws : Words 60 ws) (hl : 2 ≤ ws.length) (hwr : w ≠ r) (hnr : nm ≠ r) (hs : Schema sc)
    (hn0 : names ≠ []) (hnm : ∀ x ∈ names, Word x ∧ x.length ≤ 60 ∧ findT sc x = none) :
    (F__law_text_literal [.ref r, .tup (sc.map tabD), .ref nm, .ref w, .int atoms] S).sat fun d S' => ∃ x, d = litD x ∧ LitOk sc x ∧ Dr r S S' := by
  have hrl := hJ.whole.lt
  have hwne : ws ≠ [] := by rintro rfl; simp at hl
  refine sat_defM rfl ?_
  -- the variables
  refine sat_seq (fun δ S1 => ∃ v vs, δ = [some (.ref r), some (.tup (sc.map tabD)), some (.ref nm), some (.ref w), some (.int atoms), some (.ref v), none, none, none, none, none, none] ∧ S.length ≤ v ∧ S1[v]? = some (.lst (vs.map D.str)) ∧ vs ≠ [] ∧ (∀ w ∈ vs, Word w ∧ w.length ≤ 60) ∧ Dr r S S1) ?_ ?_
  · rw [setS_ap, Res.sat_thenS]
    refine Res.sat.imp (c_vars (i := 0) (j := 3) hJ hws hl hwr rfl rfl) ?_ (fun _ _ h => h.elim)
    rintro d S1 ⟨v, vs, rfl, h1, h2, h3, h4, h5⟩
    simp
    exact ⟨h1, vs, h2, h3, h4, h5⟩
  rintro δ S1 ⟨v, vs, rfl, hv1, hv2, hv3, hv4, d1⟩
  have hJ1 := hJ.dr hwr hnr d1
  -- the values
  refine sat_seq (fun δ S2 => ∃ u, δ = [some (.ref r), some (.tup (sc.map tabD)), some (.ref nm), some (.ref w), some (.int atoms), some (.ref v), some (.ref u), none, none, none, none, none] ∧ S.length ≤ u ∧ Pool S2 v u ∧ Dr r S S2) ?_ ?_
  · simp
    rw [if_pos (by rfl)]
    simp
    refine lc_draw Val hJ1.whole (fun _ => rfl) (by decide) ?_ ?_
    · intro k hk S' hd
      refine ⟨_, rfl, ?_⟩
      simp
      have hJ' := hJ1.dr hwr hnr hd
      exact c_value hJ'.whole hJ'.words hws hwne hwr
    · intro ys S' hd hys hyl hP
      have hne : ys ≠ [] := by
        rintro rfl
        cases hyl
      exact ⟨d1.le, ⟨⟨vs, hd.get hv2 (by omega), hv3, hv4⟩, ⟨ys, hys, hne, vals_of hP⟩⟩, d1.trans hd⟩
  rintro δ S2 ⟨u, rfl, hu1, hp, d2⟩
  have hJ2 := hJ.dr hwr hnr d2
  -- the terms
  refine sat_seq (fun δ S3 => ∃ (q : Nat) (ts : List Term), δ = [some (.ref r), some (.tup (sc.map tabD)), some (.ref nm), some (.ref w), some (.int atoms), some (.ref v), some (.ref u), some (.ref q), none, none, none, none] ∧ S.length ≤ q ∧ S3[q]? = some (.lst (ts.map termD)) ∧ ts.length = 8 ∧ (∀ t ∈ ts, TermOk t) ∧ Dr r S S3) ?_ ?_
  · simp
    rw [if_pos (by rfl)]
    simp
    refine lc_draw (fun y => ∃ x, y = termD x ∧ TermOk x) hJ2.whole (fun _ => rfl) (by decide) ?_ ?_
    · intro k hk S' hd
      refine ⟨_, rfl, ?_⟩
      simp
      refine (c_law_term hd.whole (hp.mono hd.fr (by simp; omega) (by simp; omega)) (by omega) (by omega)).mono ?_
      rintro d S3 ⟨x, rfl, hx, h3⟩
      exact ⟨⟨x, rfl, hx⟩, h3⟩
    · intro ys S' hd hys hyl hP
      obtain ⟨xs, rfl, hx⟩ := terms_of hP
      exact ⟨d2.le, xs, hys, by rw [rangeL_len2] at hyl; simpa using hyl, hx, d2.trans hd⟩
  rintro δ S3 ⟨q, ts, rfl, hq1, hq2, hq3, hq4, d3⟩
  have hJ3 := hJ.dr hwr hnr d3
  obtain ⟨t0, t1, trest, hts⟩ : ∃ t0 t1 trest, ts = t0 :: t1 :: trest := by
    match ts, hq3 with
    | a :: b :: rest, _ => exact ⟨a, b, rest, rfl⟩
  -- a test
  have htest : ∀ S4, Dr r S S4 → ((F__law_take [.ref r, .int 2]) (S4 ++ [.lst [D.str [108, 101, 115, 115], D.str [117, 110, 108, 105, 107, 101]]])).sat fun d S' => ∃ v kd, d = .int v ∧ kd ∈ tests ∧ lstAt S' S4.length = some [D.str [108, 101, 115, 115], D.str [117, 110, 108, 105, 107, 101]] ∧ atI [D.str [108, 101, 115, 115], D.str [117, 110, 108, 105, 107, 101]] v = some (.str kd) ∧ Dr r S4 S' := by
    intro S4 d4
    refine (pickL d4.whole ([[108, 101, 115, 115], [117, 110, 108, 105, 107, 101]].map D.str) (by simp) 2 rfl).mono ?_
    rintro d S5 ⟨v2, x, hx, rfl, e1, e2, h3⟩
    obtain ⟨kd, hk, rfl⟩ := List.mem_map.mp hx
    exact ⟨v2, kd, rfl, hk, e1, e2, h3⟩
  have hlit : ∀ kd, kd ∈ tests → LitOk sc (.test kd t0 t1) := fun kd hk => .test kd t0 t1 hk (hq4 _ (by rw [hts]; simp)) (hq4 _ (by rw [hts]; simp))
  refine sat_seq (fun δ S4 => δ = [some (.ref r), some (.tup (sc.map tabD)), some (.ref nm), some (.ref w), some (.int atoms), some (.ref v), some (.ref u), some (.ref q), none, none, none, none] ∧ Dr r S3 S4) ?_ ?_
  · have hq : ∀ S5, Dr r S3 S5 → lstAt S5 q = some (termD t0 :: termD t1 :: trest.map termD) := fun S5 d => by
      rw [hts] at hq2
      exact lstAt_of (d.get hq2 (by omega))
    by_cases ha : atoms = 0
    · simp [ha]
      refine (htest S3 d3).mono ?_
      rintro d S5 ⟨v2, kd, rfl, hk, e1, e2, d5⟩
      simp [e1, e2, hq _ d5]
      exact ⟨_, rfl, hlit kd hk, d3.trans d5⟩
    · simp [ha]
      refine (c_take hJ3.whole (by omega)).mono ?_
      rintro d S4 ⟨n4, rfl, _, _, d4⟩
      simp
      by_cases hn4 : n4 = 0
      · simp [hn4]
        refine (htest S4 (d3.trans d4)).mono ?_
        rintro d S5 ⟨v2, kd, rfl, hk, e1, e2, d5⟩
        simp [e1, e2, hq _ (d4.trans d5)]
        exact ⟨_, rfl, hlit kd hk, d3.trans (d4.trans d5)⟩
      · simp [hn4]
        exact d4
  rintro δ S4 ⟨rfl, d4⟩
  have d4' := d3.trans d4
  refine sat_seq (fun δ S5 => ∃ x, δ = [some (.ref r), some (.tup (sc.map tabD)), some (.ref nm), some (.ref w), some (.int atoms), some (.ref v), some (.ref u), some (.ref q), some (howD x), none, none, none] ∧ HowOk x ∧ Dr r S3 S5) ?_ ?_
  · simp
    refine (c_text_how d4'.whole).mono ?_
    rintro d S5 ⟨x, rfl, hx, d5⟩
    exact ⟨x, rfl, hx, d4.trans d5⟩
  rintro δ S5 ⟨how, rfl, how_ok, d5⟩
  have htake : ∀ (m : Nat) (S6 : Store), Dr r S3 S6 → cut (ts.map termD) none (some (m : Int)) = (ts.take m).map termD := fun m _ _ => by rw [cut_to, List.map_take]
  have hq6 : ∀ S6, Dr r S3 S6 → lstAt S6 q = some (ts.map termD) := fun S6 d => lstAt_of (d.get hq2 (by omega))
  refine sat_seq (fun δ S6 => δ = [some (.ref r), some (.tup (sc.map tabD)), some (.ref nm), some (.ref w), some (.int atoms), some (.ref v), some (.ref u), some (.ref q), some (howD how), none, none, none] ∧ Dr r S3 S6) ?_ ?_
  · by_cases hsc : sc = []
    · simp [hsc]
      exact d5
    · have hscl : 0 < sc.length := by
        have : sc.length ≠ 0 := by simpa using hsc
        omega
      simp [hscl]
      refine (c_take d5.whole (by omega)).mono ?_
      rintro d S6 ⟨n6, rfl, _, _, d6⟩
      simp
      by_cases hn6 : 0 < n6
      · simp [hn6]
        refine (c_pick_tup (row := sc.map tabD) d6.whole (by simpa using hsc)).mono ?_
        rintro d S7 ⟨hd, d7⟩
        obtain ⟨tb, htb, rfl⟩ := List.mem_map.mp hd
        have hd7 := d5.trans (d6.trans d7)
        have hsz := hs.size tb htb
        have e8 : ((tb.key : Int) + tb.others) = ((tb.key + tb.others : Nat) : Int) := by omega
        have hc := htake (tb.key + tb.others) S7 hd7
        rw [← e8] at hc
        simp [tabD, hq6 S7 hd7, hc]
        have hl7 : lstAt (S7 ++ [MO.lst (List.take (tb.key + tb.others) (List.map termD ts))]) S7.length = some ((ts.take (tb.key + tb.others)).map termD) := lstAt_of (by simp)
        simp [hl7]
        obtain ⟨hw1, hw2⟩ := hs.word tb htb
        refine ⟨.atom how tb.name (ts.take (tb.key + tb.others)), by simp [litD], .atom how tb.name _ how_ok ⟨hw1, hw2, fun t ht => hq4 t (List.mem_of_mem_take ht), by rw [List.length_take]; omega, fun tb' e => ?_⟩, (d3.trans hd7).push⟩
        rw [find_of hs htb] at e
        cases e
        rw [List.length_take]
        omega
      · simp [hn6]
        exact d5.trans d6
  rintro δ S6 ⟨rfl, d6⟩
  refine sat_seq (fun δ S7 => ∃ m : Nat, m ≤ 8 ∧ δ = [some (.ref r), some (.tup (sc.map tabD)), some (.ref nm), some (.ref w), some (.int atoms), some (.ref v), some (.ref u), some (.ref q), some (howD how), none, some (.int m), none] ∧ Dr r S3 S7) ?_ ?_
  · simp
    refine (pickL d6.whole ([1, 2, 0, 3, 8].map D.int) (by simp) 5 rfl).mono ?_
    rintro d S7 ⟨v2, x, hx, rfl, e1, e2, d7⟩
    obtain ⟨i, hi, rfl⟩ := List.mem_map.mp hx
    simp at e1 e2
    simp [e1, e2]
    have hb : 0 ≤ i ∧ i ≤ 8 := by
      revert hi
      simp
      omega
    exact ⟨i.toNat, by omega, by omega, d6.trans d7⟩
  rintro δ S7 ⟨m, hm, rfl, d7⟩
  have hJ7 := hJ3.dr hwr hnr d7
  simp
  refine (c_pick (row := names.map D.str) hJ7.whole hJ7.names (by simpa using hn0) hnr).mono ?_
  rintro d S8 ⟨hd, d8⟩
  obtain ⟨x, hx, rfl⟩ := List.mem_map.mp hd
  obtain ⟨x1, x2, x3⟩ := hnm x hx
  have hd8 := d7.trans d8
  have hl8 : lstAt (S8 ++ [MO.lst (List.take m (List.map termD ts))]) S8.length = some ((ts.take m).map termD) := lstAt_of (by simp)
  simp [hq6 S8 hd8, htake m S8 hd8, hl8]
  refine ⟨.atom how x (ts.take m), by simp [litD], .atom how x _ how_ok ⟨x1, x2, fun t ht => hq4 t (List.mem_of_mem_take ht), by rw [List.length_take]; omega, fun tb' e => ?_⟩, (d3.trans hd8).push⟩
  rw [x3] at e
  cases e
end LW

end

section
set_option linter.all false
set_option Elab.async false
set_option maxRecDepth 100000
namespace LW
open Dl DlM
def BdInv (S : Store) (r w nm : Nat) (ws names : List Cs) (sc : List Table) (most : Int) (k : Nat) (δ : Env) (S' : Store) : Prop :=
  ∃ (xs : List Lit) (a6 a7 a8 a9 a10 a11 : Option D), δ = [some (.ref r), some (.tup (sc.map tabD)), some (.ref nm), some (.ref w), some (.int most), some (.ref S.length), a6, a7, a8, a9, a10, a11] ∧ S'[S.length]? = some (.lst (xs.map litD)) ∧ xs.length = k ∧ (∀ x ∈ xs, LitOk sc x) ∧ Dr r S S'
theorem lit_first (x : Lit) : ∃ kd r, litD x = .tup (.str kd :: r) := by
  cases x with
  | atom how name ts => exact ⟨_, _, rfl⟩
  | test kd a b => exact ⟨_, _, rfl⟩
theorem c_text_rule {S : Store} {r w nm : Nat} {ws names : List Cs} {sc : List Table} {most : Int} (hJ : Jr r w nm ws names S) (hws : Words 60 ws) (hl : 2 ≤ ws.length) (hwr : w ≠ r) (hnr : nm ≠ r) (hs : Schema sc)
    (hn0 : names ≠ []) (hnm : ∀ x ∈ names, Word x ∧ x.length ≤ 60 ∧ findT sc x = none) (hm0 : 0 ≤ most) (hm6 : most ≤ 6) :
    (F__law_text_rule [.ref r, .tup (sc.map tabD), .ref nm, .ref w, .int most] S).sat fun d S' => ∃ x, d = ruleD x ∧ RuleOk sc x ∧ Dr r S S' := by
  have hrl := hJ.whole.lt
  have hwne : ws ≠ [] := by rintro rfl; simp at hl
  refine sat_defM rfl ?_
  refine sat_seq (BdInv S r w nm ws names sc most 0) ?_ ?_
  · simp
    exact ⟨[], _, _, _, _, _, _, rfl, by simp, rfl, by simp, .of hJ.whole .app⟩
  intro δ S1 hI
  refine sat_seq (fun δ S' => ∃ k, k ≤ 6 ∧ BdInv S r w nm ws names sc most k δ S') ?_ ?_
  · obtain ⟨xs, a6, a7, a8, a9, a10, a11, rfl, hx1, hx2, hx3, d1⟩ := id hI
    simp
    refine (c_take d1.whole (by omega)).mono ?_
    rintro d S2 ⟨n, rfl, n0, n1, d2⟩
    obtain ⟨n, rfl⟩ := Int.eq_ofNat_of_zero_le n0
    simp [inRange_nat (show n ≤ 1000000000 by omega)]
    refine for_inv (BdInv S r w nm ws names sc most) ⟨xs, a6, a7, a8, a9, a10, a11, rfl, d2.get hx1 (by omega), hx2, hx3, d1.trans d2⟩ (by simp) ?_ ?_
    · rintro k hk δ S3 ⟨xs, a6, a7, a8, a9, a10, a11, rfl, hx1, hx2, hx3, d3⟩
      refine ⟨_, rfl, ?_⟩
      rw [rangeL_get]
      rw [rangeL_length] at hk
      have hlt := lt_of_get hx1
      refine sat_seq (fun δ S4 => ∃ m : Int, δ = [some (.ref r), some (.tup (sc.map tabD)), some (.ref nm), some (.ref w), some (.int most), some (.ref S.length), some (.int k), some (.int m), a8, a9, a10, a11] ∧ Dr r S3 S4) ?_ ?_
      · simp [lstAt_of hx1]
        refine lc_inv (fun j acc S' => Fr [S3.length] (S3 ++ [.lst []]) S' ∧ S'[S3.length]? = some (.lst acc) ∧ acc.length ≤ j) ⟨.refl, by simp, by simp⟩ ?_ (by simp; exact le_LIM (by omega)) ?_ ?_
        · rintro j acc S' _ ⟨q1, q2, q3⟩
          have := q1.get (app_get hx1) (by simp; omega)
          refine ⟨?_, q2, q3⟩
          simp [lstAt_of this]
        · rintro j hj acc S' ⟨q1, q2, q3⟩
          refine ⟨_, rfl, ?_⟩
          rw [List.getElem_map]
          obtain ⟨kd, rr, e⟩ := lit_first (xs[j]'(by simpa using hj))
          rw [e]
          simp
          by_cases hkd : kd = [97, 116, 111, 109]
          · simp [hkd]
            exact ⟨q2, q1.trans (.set (by simp)), by rw [List.getElem?_set_self (lt_of_get q2)], q3⟩
          · simp [hkd]
            exact ⟨q1, q2, by omega⟩
        · rintro acc S' ⟨q1, q2, q3⟩
          simp [q2]
          exact .of d3.whole (fr_app_new rfl q1)
      rintro δ S4 ⟨m, rfl, d4⟩
      have hJ4 := (hJ.dr hwr hnr d3).dr hwr hnr d4
      have hx4 := d4.get hx1 (by omega)
      simp [hx4]
      refine (c_text_literal hJ4 hws hl hwr hnr hs hn0 hnm).mono ?_
      rintro d S5 ⟨x, rfl, hx, d5⟩
      have hx5 := d5.get hx4 (by omega)
      simp [hx5]
      rw [if_pos (lt_LIM (by omega))]
      simp
      refine ⟨xs ++ [x], _, _, _, _, _, _, rfl, ?_, by simp [hx2], ?_, (d3.trans (d4.trans d5)).set_new hrl (Nat.le_refl _)⟩
      · rw [List.getElem?_set_self (lt_of_get hx5)]
        simp
      · intro y hy
        rcases List.mem_append.mp hy with hy | hy
        · exact hx3 y hy
        · rw [List.mem_singleton.mp hy]; exact hx
    · intro δ S3 h
      rw [rangeL_length] at h
      exact ⟨n, by omega, h⟩
  rintro δ S2 ⟨k, hk6, xs, a6, a7, a8, a9, a10, a11, rfl, hx1, hx2, hx3, d2⟩
  have hJ2 := hJ.dr hwr hnr d2
  refine sat_seq (fun δ S3 => ∃ v vs, δ = [some (.ref r), some (.tup (sc.map tabD)), some (.ref nm), some (.ref w), some (.int most), some (.ref S.length), a6, a7, some (.ref v), a9, a10, a11] ∧ S2.length ≤ v ∧ S3[v]? = some (.lst (vs.map D.str)) ∧ vs ≠ [] ∧ (∀ w ∈ vs, Word w ∧ w.length ≤ 60) ∧ Dr r S2 S3) ?_ ?_
  · rw [setS_ap, Res.sat_thenS]
    refine Res.sat.imp (c_vars (i := 0) (j := 3) hJ2 hws hl hwr rfl rfl) ?_ (fun _ _ h => h.elim)
    rintro d S3 ⟨v, vs, rfl, h1, h2, h3, h4, h5⟩
    simp
    exact ⟨h1, vs, h2, h3, h4, h5⟩
  rintro δ S3 ⟨v, vs, rfl, hv1, hv2, hv3, hv4, d3⟩
  have hle2 := d2.le
  have hJ3 := hJ2.dr hwr hnr d3
  refine sat_seq (fun δ S4 => ∃ u a6, δ = [some (.ref r), some (.tup (sc.map tabD)), some (.ref nm), some (.ref w), some (.int most), some (.ref S.length), a6, a7, some (.ref v), some (.ref u), a10, a11] ∧ S2.length ≤ u ∧ Pool S4 v u ∧ Dr r S2 S4) ?_ ?_
  · simp
    rw [if_pos (by rfl)]
    simp
    refine lc_draw Val hJ3.whole (fun _ => rfl) (by decide) ?_ ?_
    · intro k hk S' hd
      refine ⟨_, rfl, ?_⟩
      simp
      have hJ' := hJ3.dr hwr hnr hd
      exact c_value hJ'.whole hJ'.words hws hwne hwr
    · intro ys S' hd hys hyl hP
      have hne : ys ≠ [] := by
        rintro rfl
        cases hyl
      exact ⟨d3.le, ⟨⟨vs, hd.get hv2 (by omega), hv3, hv4⟩, ⟨ys, hys, hne, vals_of hP⟩⟩, d3.trans hd⟩
  rintro δ S4 ⟨u, a6, rfl, hu1, hp, d4⟩
  refine sat_seq (fun δ S5 => ∃ m : Nat, m ≤ 8 ∧ δ = [some (.ref r), some (.tup (sc.map tabD)), some (.ref nm), some (.ref w), some (.int most), some (.ref S.length), a6, a7, some (.ref v), some (.ref u), some (.int m), a11] ∧ Dr r S4 S5) ?_ ?_
  · simp
    refine (pickL d4.whole ([1, 2, 0, 1, 8].map D.int) (by simp) 5 rfl).mono ?_
    rintro d S7 ⟨v2, x, hx, rfl, e1, e2, d7⟩
    obtain ⟨i, hi, rfl⟩ := List.mem_map.mp hx
    simp at e1 e2
    simp [e1, e2]
    have hb : 0 ≤ i ∧ i ≤ 8 := by
      revert hi
      simp
      omega
    exact ⟨i.toNat, by omega, by omega, d7⟩
  rintro δ S5 ⟨m, hm, rfl, d5⟩
  have hJ5 := (hJ2.dr hwr hnr d4).dr hwr hnr d5
  simp
  refine (c_pick (row := names.map D.str) hJ5.whole hJ5.names (by simpa using hn0) hnr).mono ?_
  rintro d S6 ⟨hd, d6⟩
  obtain ⟨x, hx, rfl⟩ := List.mem_map.mp hd
  obtain ⟨x1, x2, x3⟩ := hnm x hx
  simp [inRange_nat (show m ≤ 1000000000 by omega)]
  have hp6 : Pool S6 v u := hp.mono (d5.trans d6).fr (by simp; omega) (by simp; omega)
  refine lc_draw (fun y => ∃ x, y = termD x ∧ TermOk x) d6.whole (fun _ => rfl) (by simp; omega) ?_ ?_
  · intro k hk S' hd
    refine ⟨_, rfl, ?_⟩
    simp
    refine (c_law_term hd.whole (hp6.mono hd.fr (by simp; omega) (by simp; omega)) (by omega) (by omega)).mono ?_
    rintro d S3 ⟨x, rfl, hx, h3⟩
    exact ⟨⟨x, rfl, hx⟩, h3⟩
  · intro ys S' hd hys hyl hP
    obtain ⟨ts, rfl, ht⟩ := terms_of hP
    have hd' : Dr r S2 S' := d4.trans (d5.trans (d6.trans hd))
    have hb := hd'.get hx1 (by omega)
    simp at hyl
    simp [lstAt_of hys, lstAt_of hb]
    exact ⟨⟨x, ts, xs⟩, rfl, ⟨⟨x1, x2, ht, by show ts.length ≤ 8; omega, fun tb e => by rw [x3] at e; cases e⟩, x3, hx3, by show xs.length ≤ 6; omega⟩, d2.trans hd'⟩
end LW

end

section
set_option linter.all false
set_option Elab.async false
set_option maxRecDepth 100000
namespace LW
open Dl DlM
theorem c_law_read {S : Store} {x : Cs} {sc : List Table} {ru : Rule} (h : Form (ruleTok sc ru) x) (hs : Schema sc) (hr : RuleOk sc ru) :
    (F__law_read [.tup (sc.map tabD), .str x] S).sat fun d S' => ∃ m, d = .ref m ∧ S.length ≤ m ∧ S'[m]? = some (.lst [ruleD ru]) ∧ Fr [] S S' := by
  obtain ⟨g1, g2, _⟩ := rule_good hr
  obtain ⟨l, z, hx, he, ht, h1, h2⟩ := h.read g1 (by omega)
  refine sat_defM rfl ?_
  simp
  refine (c_read_rule hx ht h1 h2 hs hr he).mono ?_
  rintro d S1 ⟨rfl, f1⟩
  simp
  exact ⟨f1.le, f1.push⟩
theorem data_term {x : Term} (h : TermOk x) : Data 1 (termD x) := by
  cases h with
  | var w h hl =>
    refine .tup (by simp) fun d hd => ?_
    simp at hd
    rcases hd with rfl | rfl <;> exact .str _
  | val v h =>
    refine .tup (by simp) fun d hd => ?_
    simp at hd
    rcases hd with rfl | rfl
    · exact .str _
    · cases h with
      | num i h => exact .int _
      | wrd w h hl => exact .str _
theorem data_terms {ts : List Term} (h : ∀ t ∈ ts, TermOk t) (hl : ts.length ≤ 1000) : Data 2 (.tup (ts.map termD)) := by
  refine .tup (by simp; omega) fun d hd => ?_
  obtain ⟨t, ht, rfl⟩ := List.mem_map.mp hd
  exact data_term (h t ht)
theorem data_lit {sc : List Table} {x : Lit} (h : LitOk sc x) : Data 3 (litD x) := by
  cases h with
  | atom how name ts ho ha =>
    have h8 := ha.eight
    refine .tup (by simp) fun d hd => ?_
    simp at hd
    rcases hd with rfl | rfl | rfl | rfl
    · exact .str _
    · cases ho with
      | now => exact .tup (by simp) fun d hd => by simp at hd; rw [hd]; exact .str _
      | ever w _ _ =>
        refine .tup (by simp) fun d hd => ?_
        simp [optD] at hd
        rcases hd with rfl | rfl
        · exact .str _
        · exact .non
      | rep w n _ _ _ =>
        refine .tup (by simp) fun d hd => ?_
        simp [optD] at hd
        rcases hd with rfl | rfl
        · exact .str _
        · exact .int _
    · exact .str _
    · exact data_terms ha.terms (by omega)
  | test kind a b hk ha hb =>
    refine .tup (by simp) fun d hd => ?_
    simp at hd
    rcases hd with rfl | rfl | rfl
    · exact .str _
    · exact (data_term ha).mono (by omega)
    · exact (data_term hb).mono (by omega)
theorem data_rule {sc : List Table} {r : Rule} (h : RuleOk sc r) : Data 6 (ruleD r) := by
  have h8 := h.head.eight
  have h6 := h.len
  refine .tup (by simp) fun d hd => ?_
  simp at hd
  rcases hd with rfl | rfl | rfl
  · exact .str _
  · exact (data_terms h.head.terms (by omega)).mono (by omega)
  · refine .tup (by simp; omega) fun d hd => ?_
    obtain ⟨x, hx, rfl⟩ := List.mem_map.mp hd
    exact (data_lit (h.body x hx)).mono (by omega)
structure Js (r w : Nat) (ws : List Cs) (S : Store) : Prop where
  whole : Ints S r
  words : S[w]? = some (.lst (ws.map D.str))
theorem Js.dr {r w : Nat} {ws : List Cs} {S S' : Store} (h : Js r w ws S) (hn : w ≠ r) (d : Dr r S S') : Js r w ws S' := ⟨d.whole, d.get h.words hn⟩
theorem Js.fr {r w : Nat} {ws : List Cs} {S S' : Store} (h : Js r w ws S) (d : Fr [] S S') : Js r w ws S' := ⟨h.whole.mono d, d.get h.words (by simp)⟩
def LT (c : D) (r w : Nat) (ws : List Cs) (sc : List Table) (δ : Env) (S : Store) : Prop := ∃ a4 a5 a6 a7 a8 : Option D, δ = [some c, some (.ref r), some (.ref w), some (.tup (sc.map tabD)), a4, a5, a6, a7, a8] ∧ Js r w ws S
theorem law_sat (ns : List Int) (hl : ns.length ≤ 63) : (F_law [.lit (ns.map D.int)] []).sat fun d _ => d = .bl true := by
  refine sat_defM rfl ?_
  generalize hc : D.lit (ns.map D.int) = c
  refine sat_seq (fun δ S => ∃ r, δ = [some c, some (.ref r), none, none, none, none, none, none, none] ∧ Ints S r) ?_ ?_
  · subst hc
    simp
    refine (c_draws ns 620 (by omega) hl).mono ?_
    rintro d S1 ⟨r, rfl, h⟩
    simp
    exact h
  rintro δ S ⟨r, rfl, hr⟩
  have hrl := hr.lt
  refine sat_seq (fun δ S => ∃ w ws, w ≠ r ∧ ws.length = 10 ∧ Words 60 ws ∧ δ = [some c, some (.ref r), some (.ref w), none, none, none, none, none, none] ∧ Js r w ws S) ?_ ?_
  · simp
    refine (c_text_words hr 10 (by omega) (by omega)).mono ?_
    rintro d S1 ⟨w, ws, rfl, h1, h2, h3, h4, h5⟩
    exact ⟨w, by omega, ws, h3, h4, rfl, h5.whole, h2⟩
  rintro δ S1 ⟨w, ws, hwr, hws10, hws, rfl, hJ⟩
  refine sat_seq (fun δ S => ∃ sc, Schema sc ∧ (∀ t ∈ sc, t.name ∈ ws.take 4) ∧ LT c r w ws sc δ S) ?_ ?_
  · simp
    refine (pickL hJ.whole ([2, 4, 1, 0, 3].map D.int) (by simp) 5 rfl).mono ?_
    rintro d S2 ⟨v2, x, hx, rfl, e1, e2, d2⟩
    obtain ⟨i, hi, rfl⟩ := List.mem_map.mp hx
    simp at e1 e2
    have hb : 0 ≤ i ∧ i ≤ 4 := by
      revert hi
      simp
      omega
    obtain ⟨m, rfl⟩ := Int.eq_ofNat_of_zero_le hb.1
    have hJ2 := hJ.dr hwr d2
    have e3 : cut (ws.map D.str) none (some (m : Int)) = (ws.take m).map D.str := by rw [cut_to, List.map_take]
    simp [e1, e2, lstAt_of hJ2.words, e3]
    have e4 : (S2 ++ [MO.lst (List.take m (List.map D.str ws))])[S2.length]? = some (.lst ((ws.take m).map D.str)) := by simp
    have w2 : Words 60 (ws.take m) := ⟨fun x hx => hws.word x (List.mem_of_mem_take hx), fun x hx => hws.len x (List.mem_of_mem_take hx), hws.nodup.sublist (List.take_sublist _ _)⟩
    have hJ2' := hJ2.fr (.app (T := [MO.lst (List.take m (List.map D.str ws))]))
    refine (c_text_schema hJ2'.whole (ws := ws.take m) e4 w2 (by rw [List.length_take]; omega)).mono ?_
    rintro d S5 ⟨sc, rfl, hsc, hin, h5⟩
    refine ⟨sc, hsc, fun t ht => ?_, _, _, _, _, _, rfl, hJ2'.dr hwr h5⟩
    have hm4 : m ≤ 4 := by omega
    exact List.mem_of_mem_take (by rw [List.take_take, Nat.min_eq_left hm4]; exact hin t ht)
  rintro δ S2 ⟨sc, hsc, hin, hI⟩
  refine sat_seq (LT c r w ws sc) ?_ ?_
  · simp
    rw [if_pos (by rfl)]
    simp
    refine for_inv (fun _ => LT c r w ws sc) hI (by simp) ?_ (fun δ S h => h)
    rintro k hk δ S3 ⟨a4, a5, a6, a7, a8, rfl, hJ3⟩
    refine ⟨_, rfl, ?_⟩
    have hk3 : k < 3 := hk
    have hz : ((0 : Int) + k) = k := by omega
    rw [rangeL_get2, hz]
    -- the rule
    refine sat_seq (fun δ S4 => ∃ ru, RuleOk sc ru ∧ δ = [some c, some (.ref r), some (.ref w), some (.tup (sc.map tabD)), some (.int k), some (ruleD ru), a6, a7, a8] ∧ Js r w ws S4) ?_ ?_
    · have e3 : cut (ws.map D.str) (some 4) (some 7) = ((ws.drop 4).take 3).map D.str := by
        have := cut_nat (ws.map D.str) 4 7 (by simp; omega)
        simpa using this
      obtain ⟨m, hm, em⟩ : ∃ m : Int, (0 ≤ m ∧ m ≤ 6) ∧ atI [D.int 2, .int 6, .int 3] (k : Int) = some (.int m) := by
        have : k = 0 ∨ k = 1 ∨ k = 2 := by omega
        rcases this with rfl | rfl | rfl
        · exact ⟨2, by omega, rfl⟩
        · exact ⟨6, by omega, rfl⟩
        · exact ⟨3, by omega, rfl⟩
      have el : ∀ T : Store, lstAt (T ++ [MO.lst (((ws.drop 4).take 3).map D.str), MO.lst [D.int 2, .int 6, .int 3]]) (T.length + 1) = some [D.int 2, .int 6, .int 3] := fun T => lstAt_of (by rw [List.getElem?_append_right (by omega)]; simp)
      have el2 : ∀ T : Store, (T ++ [MO.lst (((ws.drop 4).take 3).map D.str), MO.lst [D.int 2, .int 6, .int 3]])[T.length]? = some (.lst (((ws.drop 4).take 3).map D.str)) := fun T => by simp
      have hJ4 := hJ3.fr (.app (T := [MO.lst (((ws.drop 4).take 3).map D.str), MO.lst [D.int 2, .int 6, .int 3]]))
      generalize hnm : (ws.drop 4).take 3 = names at e3 el el2 hJ4
      simp [lstAt_of hJ3.words, e3, el, em]
      have hns : ∀ x ∈ names, Word x ∧ x.length ≤ 60 ∧ findT sc x = none := by
        intro x hx
        rw [← hnm] at hx
        have hx4 : x ∈ ws.drop 4 := List.mem_of_mem_take hx
        have hxw : x ∈ ws := List.mem_of_mem_drop hx4
        refine ⟨hws.word x hxw, hws.len x hxw, ?_⟩
        unfold findT
        rw [List.find?_eq_none]
        intro t ht e
        have e' : t.name = x := by simpa using e
        have h4 := hin t ht
        rw [e'] at h4
        have hnd := hws.nodup
        rw [← List.take_append_drop 4 ws, List.nodup_append] at hnd
        exact hnd.2.2 x h4 x hx4 rfl
      refine (c_text_rule (nm := S3.length) ⟨hJ4.whole, hJ4.words, el2 S3⟩ hws (by omega) hwr (by have := hJ3.whole.lt; omega) hsc (by rw [← hnm]; intro e; have := congrArg List.length e; simp at this; omega) hns hm.1 hm.2).mono ?_
      rintro d S5 ⟨ru, rfl, hru, d5⟩
      exact ⟨ru, hru, rfl, hJ4.dr hwr d5⟩
    rintro δ S4 ⟨ru, hru, rfl, hJ4⟩
    obtain ⟨hgood, hl1, hl2⟩ := rule_good hru
    simp
    refine (c_rule_texts hru).mono ?_
    rintro d S7 ⟨m, rfl, m1, m2, f7⟩
    refine (c_line_text m2 hgood (by omega)).mono ?_
    rintro d S8 ⟨rfl, f8⟩
    refine (c_write_rule hru).mono ?_
    rintro d S9 ⟨rfl, f9⟩
    rw [rule_line]
    refine c_same_str.mono ?_
    rintro d S10 ⟨rfl, f10⟩
    try simp
    have f610 := f7.trans (f8.trans (f9.trans f10))
    have hJ10 := hJ4.fr f610
    have hm10 : S10[m]? = some (.lst ((txts (ruleTok sc ru)).map D.str)) := (f8.trans (f9.trans f10)).get m2 (by simp)
    have hmr : m ≠ r := by have := hJ4.whole.lt; omega
    refine (c_loose hJ10.whole hm10 hmr hgood (by omega) hl2).mono ?_
    rintro d S11 ⟨x, rfl, hx, h11⟩
    try simp
    refine (c_loose h11.whole (h11.get hm10 hmr) hmr hgood (by omega) hl2).mono ?_
    rintro d S12 ⟨y, rfl, hy, h12⟩
    have hJ12 := (hJ10.dr hwr h11).dr hwr h12
    generalize hA : ruleCs sc ru = A
    have hlst : (S12 ++ [MO.lst [D.str A, .str x, .str y, .str A]])[S12.length]? = some (.lst [D.str A, .str x, .str y, .str A]) := by simp
    have hfr : Fr [] S12 (S12 ++ [MO.lst [D.str A, .str x, .str y, .str A]]) := .app
    try simp
    generalize S12 ++ [MO.lst [D.str A, .str x, .str y, .str A]] = T at hlst hfr
    simp only [lstAt_of hlst]
    rw [Res.sat_ok]
    have hform : ∀ k (hk : k < [D.str A, .str x, .str y, .str A].length), ∃ y', [D.str A, .str x, .str y, .str A][k] = .str y' ∧ Form (ruleTok sc ru) y' := by
      intro k hk
      have f1 : Form (ruleTok sc ru) A := by rw [← hA, ← rule_line]; exact form_line _
      rcases k with _ | _ | _ | _ | k
      · exact ⟨_, rfl, f1⟩
      · exact ⟨_, rfl, hx⟩
      · exact ⟨_, rfl, hy⟩
      · exact ⟨_, rfl, f1⟩
      · simp at hk; omega
    refine for_inv (fun _ δ S' => (∃ a8, δ = [some c, some (.ref r), some (.ref w), some (.tup (sc.map tabD)), some (.int k), some (ruleD ru), some (.ref m), some (.str A), a8]) ∧ Fr [] T S') ⟨⟨_, rfl⟩, .refl⟩ ?_ ?_ ?_
    · rintro k δ S _ ⟨_, hf⟩
      simp [lstAt_of (hf.get hlst (by simp))]
    · rintro k hk δ S13 ⟨⟨a9, rfl⟩, hf⟩
      obtain ⟨y', ey, fy⟩ := hform k hk
      rw [ey]
      refine ⟨_, rfl, ?_⟩
      simp
      refine (c_law_read fy hsc hru).mono ?_
      rintro d S14 ⟨m1, rfl, n1, e1, g1⟩
      try simp
      have e2 : (S14 ++ [MO.lst [ruleD ru]])[m1]? = some (.lst [ruleD ru]) := app_get e1
      have e3 : (S14 ++ [MO.lst [ruleD ru]])[S14.length]? = some (.lst [ruleD ru]) := by simp
      refine (c_same_ref (n := 6) e2 e3 (by simp) (by
        intro d hd
        rw [List.mem_singleton.mp hd]
        exact data_rule hru)).mono ?_
      rintro d S15 ⟨rfl, g2⟩
      simp
      exact hf.trans (g1.trans (Fr.app.trans g2))
    · rintro δ S13 ⟨⟨a9, rfl⟩, hf⟩
      exact ⟨_, _, _, _, _, rfl, hJ12.fr (hfr.trans hf)⟩
  rintro δ S5 _
  simp
theorem plain : ∀ ns : List Int, ns.length ≤ 63 → ∃ S', F_law [.lit (ns.map D.int)] [] = .ok (.bl true) S' := fun ns hl => by
  obtain ⟨d, S', e, rfl⟩ := Res.sat_iff.mp (law_sat ns hl)
  exact ⟨S', e⟩
end LW

end

section
set_option linter.all false
set_option Elab.async false
set_option maxRecDepth 100000
set_option Elab.async false
set_option linter.all false
set_option maxRecDepth 100000
set_option maxHeartbeats 4000000
namespace Dl
open PySem PySem.Spec PyProof.Rows L2

def toS (x : Cs) : Str := ⟨x.toArray⟩
theorem toS_append (x y : Cs) : toS x ++ toS y = toS (x ++ y) := by
  show Str.mk _ = _
  simp [toS]
theorem toS_length (x : Cs) : (toS x).length = x.length := by simp [toS, Str.length]
theorem toS_list (x : Cs) : (toS x).cps.toList = x := by simp [toS]
theorem toS_of (z : Str) : toS z.cps.toList = z := by cases z; simp [toS]
theorem toS_inj {x y : Cs} : toS x = toS y ↔ x = y := ⟨fun h => by rw [← toS_list x, h, toS_list], fun h => by rw [h]⟩
theorem LIM_eq : LIM = sizeLine := by rw [sizeLine_eq]; rfl

/-- a list that is never changed -/
def SqK (K : PySem.W.Frag) (H : Hp) (a : Addr) (vs : List V) : Prop := (∃ o, H a = some (.frz o (.lst vs))) ∨ (SqL K (fun _ => none) a vs)
theorem SqK.sql {K : PySem.W.Frag} {H : Hp} {a : Addr} {vs : List V} (h : SqK K H a vs) : SqL K H a vs := by
  rcases h with h | h
  · exact .inl (.inr h)
  · rcases h with (h | ⟨_, h⟩) | h
    · cases h
    · cases h
    · exact .inr h
section
variable (K : PySem.W.Frag) (mg : Str → Option Value) (H : Hp) (ι : List Addr)
mutual
/-- the value v stands for d -/
inductive Rp : V → D → Prop
  | non : Rp .non .non
  | bl (b : Bool) : Rp (.bl b) (.bl b)
  | int (i : Int) : Rp (.int i) (.int i)
  | str (x : Cs) : Rp (.str (toS x)) (.str x)
  | tup {a : Addr} {vs : List V} {xs : List D} : SqT K H a vs → vs.length ≤ sizeLine → Rps vs xs → Rp (.ref a) (.tup xs)
  | ref {n : Nat} {a : Addr} : ι[n]? = some a → Rp (.ref a) (.ref n)
  | fn {x : String} {a : Addr} : mg (Str.ofString x) = some (.ref a) → Rp (.ref a) (.fn x)
  | lit {a : Addr} {vs : List V} {xs : List D} : SqK K H a vs → vs.length ≤ sizeLine → Rps vs xs → Rp (.ref a) (.lit xs)
inductive Rps : List V → List D → Prop
  | nil : Rps [] []
  | cons {v : V} {vs : List V} {d : D} {ds : List D} : Rp v d → Rps vs ds → Rps (v :: vs) (d :: ds)
end
/-- the heap and the names of objects grow -/
structure Grow (H' : Hp) (ι' : List Addr) : Prop where
  pre : ι <+: ι'
  tup : ∀ a vs, SqT K H a vs → SqT K H' a vs
  frz : ∀ a o u, H a = some (.frz o u) → H' a = some (.frz o u)
end
section
variable {K : PySem.W.Frag} {mg : Str → Option Value} {H H' H2 : Hp} {ι ι' ι2 : List Addr}
theorem Grow.refl : Grow K H ι H ι := ⟨List.prefix_rfl, fun _ _ h => h, fun _ _ _ h => h⟩
theorem Grow.trans (a : Grow K H ι H' ι') (b : Grow K H' ι' H2 ι2) : Grow K H ι H2 ι2 := ⟨a.pre.trans b.pre, fun x vs h => b.tup x vs (a.tup x vs h), fun x o u h => b.frz x o u (a.frz x o u h)⟩
theorem pre_get {α : Type} {l l' : List α} (h : l <+: l') {n : Nat} {a : α} (e : l[n]? = some a) : l'[n]? = some a := by
  obtain ⟨t, rfl⟩ := h
  obtain ⟨hn, _⟩ := List.getElem?_eq_some_iff.mp e
  rw [List.getElem?_append_left hn]; exact e
mutual
theorem Rp.mono (g : Grow K H ι H' ι') : ∀ {v : V} {d : D}, Rp K mg H ι v d → Rp K mg H' ι' v d
  | _, .non, h => by cases h; exact .non
  | _, .bl _, h => by cases h; exact .bl _
  | _, .int _, h => by cases h; exact .int _
  | _, .str _, h => by cases h; exact .str _
  | _, .tup _, h => by
    cases h with
    | tup h1 h2 h3 => exact .tup (g.tup _ _ h1) h2 (Rps.mono g h3)
  | _, .ref _, h => by
    cases h with
    | ref h => exact .ref (pre_get g.pre h)
  | _, .fn _, h => by
    cases h with
    | fn h => exact .fn h
  | _, .lit _, h => by
    cases h with
    | lit h1 h2 h3 => exact .lit (h1.elim (fun ⟨o, z⟩ => .inl ⟨o, g.frz _ _ _ z⟩) .inr) h2 (Rps.mono g h3)
theorem Rps.mono (g : Grow K H ι H' ι') : ∀ {vs : List V} {ds : List D}, Rps K mg H ι vs ds → Rps K mg H' ι' vs ds
  | _, [], h => by cases h; exact .nil
  | _, _ :: _, h => by
    cases h with
    | cons h1 h2 => exact .cons (Rp.mono g h1) (Rps.mono g h2)
end
theorem Rps.length : ∀ {vs : List V} {ds : List D}, Rps K mg H ι vs ds → vs.length = ds.length
  | _, [], h => by cases h; rfl
  | _, _ :: _, h => by
    cases h with
    | cons _ h2 => simp [Rps.length h2]
theorem Rps.get : ∀ {vs : List V} {ds : List D} {i : Nat} {d : D}, Rps K mg H ι vs ds → ds[i]? = some d → ∃ v, vs[i]? = some v ∧ Rp K mg H ι v d
  | _, [], _, _, _, e => by simp at e
  | _, _ :: _, 0, _, h, e => by
    cases h with
    | cons h1 h2 => simp at e; subst e; exact ⟨_, rfl, h1⟩
  | _, _ :: _, i + 1, d, h, e => by
    cases h with
    | cons h1 h2 =>
      obtain ⟨v, e1, e2⟩ := Rps.get (i := i) (d := d) h2 (by simpa using e)
      exact ⟨v, by simpa using e1, e2⟩
theorem Rps.append : ∀ {vs ws : List V} {ds es : List D}, Rps K mg H ι vs ds → Rps K mg H ι ws es → Rps K mg H ι (vs ++ ws) (ds ++ es)
  | _, _, [], _, h, q => by cases h; exact q
  | _, _, _ :: _, _, h, q => by
    cases h with
    | cons h1 h2 => exact .cons h1 (Rps.append h2 q)
theorem Rps.drop : ∀ {vs : List V} {ds : List D} (n : Nat), Rps K mg H ι vs ds → Rps K mg H ι (vs.drop n) (ds.drop n)
  | _, _, 0, h => h
  | _, [], _ + 1, h => by cases h; exact .nil
  | _, _ :: _, n + 1, h => by
    cases h with
    | cons h1 h2 => exact Rps.drop n h2
theorem Rps.take : ∀ {vs : List V} {ds : List D} (n : Nat), Rps K mg H ι vs ds → Rps K mg H ι (vs.take n) (ds.take n)
  | _, _, 0, h => .nil
  | _, [], _ + 1, h => by cases h; exact .nil
  | _, _ :: _, n + 1, h => by
    cases h with
    | cons h1 h2 => exact .cons h1 (Rps.take n h2)
theorem Rps.reverse : ∀ {vs : List V} {ds : List D}, Rps K mg H ι vs ds → Rps K mg H ι vs.reverse ds.reverse
  | _, [], h => by cases h; exact .nil
  | _, _ :: _, h => by
    cases h with
    | cons h1 h2 => rw [List.reverse_cons, List.reverse_cons]; exact Rps.append (Rps.reverse h2) (.cons h1 .nil)
theorem Rps.set {v : V} {d : D} (r : Rp K mg H ι v d) : ∀ {vs : List V} {ds : List D} (i : Nat), Rps K mg H ι vs ds → Rps K mg H ι (vs.set i v) (ds.set i d)
  | _, [], _, h => by cases h; exact .nil
  | _, _ :: _, 0, h => by
    cases h with
    | cons h1 h2 => exact .cons r h2
  | _, _ :: _, i + 1, h => by
    cases h with
    | cons h1 h2 => exact .cons h1 (Rps.set r i h2)
theorem Rps.dropLast {vs : List V} {ds : List D} (h : Rps K mg H ι vs ds) : Rps K mg H ι vs.dropLast ds.dropLast := by
  rw [List.dropLast_eq_take, List.dropLast_eq_take, h.length]
  exact h.take _
end

/-! ### the store -/
section
variable (K : PySem.W.Frag) (mg : Str → Option Value) (H : Hp) (ι : List Addr)
def kD : Key → D
  | .inl i => .int i
  | .inr x => .str x.cps.toList
inductive Rkv : List (Key × V) → List (D × D) → Prop
  | nil : Rkv [] []
  | cons {k : Key} {v : V} {vs : List (Key × V)} {d : D} {ds : List (D × D)} : Rp K mg H ι v d → Rkv vs ds → Rkv ((k, v) :: vs) ((kD k, d) :: ds)
inductive Rfs : List (Str × V) → List (String × D) → Prop
  | nil : Rfs [] []
  | cons {k : String} {v : V} {vs : List (Str × V)} {d : D} {ds : List (String × D)} : Rp K mg H ι v d → Rfs vs ds → Rfs ((Str.ofString k, v) :: vs) ((k, d) :: ds)
/-- the object at a stands for o -/
def RO (a : Addr) : MO → Prop
  | .lst xs => ∃ vs, H a = some (.lst vs) ∧ Rps K mg H ι vs xs
  | .dct kvs => ∃ vs, H a = some (.dK vs) ∧ Rkv K mg H ι vs kvs
  | .lck kvs => ∃ o vs, H a = some (.frz o (.dK vs)) ∧ Rkv K mg H ι vs kvs
  | .set _ => False
  | .ins C fs => ∃ c dx vs, mg (Str.ofString C) = some (.ref c) ∧ H a = some (.ins c dx vs) ∧ Rfs K mg H ι vs fs
structure RS (S : Store) : Prop where
  len : ι.length = S.length
  nd : ι.Nodup
  at_ : ∀ (n : Nat) (o : MO) (a : Addr), S[n]? = some o → ι[n]? = some a → RO K mg H ι a o
structure Rel (σ : L2.St) (δ : Env) (S : Store) : Prop where
  len : δ.length = σ.length
  env : ∀ (i : Nat) (d : D), δ[i]? = some (some d) → ∃ v, σ[i]? = some (some v) ∧ Rp K mg H ι v d
  sto : RS K mg H ι S
end
section
variable {K : PySem.W.Frag} {mg : Str → Option Value} {H H' H2 : Hp} {ι ι' ι2 : List Addr} {S : Store}
theorem Rkv.mono (g : Grow K H ι H' ι') : ∀ {vs : List (Key × V)} {ds : List (D × D)}, Rkv K mg H ι vs ds → Rkv K mg H' ι' vs ds
  | _, _, .nil => .nil
  | _, _, .cons h1 h2 => .cons (h1.mono g) (Rkv.mono g h2)
theorem Rfs.mono (g : Grow K H ι H' ι') : ∀ {vs : List (Str × V)} {ds : List (String × D)}, Rfs K mg H ι vs ds → Rfs K mg H' ι' vs ds
  | _, _, .nil => .nil
  | _, _, .cons h1 h2 => .cons (h1.mono g) (Rfs.mono g h2)
theorem RO.some {a : Addr} {o : MO} (h : RO K mg H ι a o) : ∃ u, H a = some u ∧ ∀ xs, u ≠ .tup xs := by
  cases o with
  | lst xs => obtain ⟨vs, e, _⟩ := h; exact ⟨_, e, fun _ z => by cases z⟩
  | dct xs => obtain ⟨vs, e, _⟩ := h; exact ⟨_, e, fun _ z => by cases z⟩
  | lck xs => obtain ⟨o, vs, e, _⟩ := h; exact ⟨_, e, fun _ z => by cases z⟩
  | set xs => exact h.elim
  | ins C fs => obtain ⟨c, dx, vs, _, e, _⟩ := h; exact ⟨_, e, fun _ z => by cases z⟩
theorem RO.keep {a : Addr} {o : MO} (g : Grow K H ι H' ι') (e : H' a = H a) (h : RO K mg H ι a o) : RO K mg H' ι' a o := by
  cases o with
  | lst xs => obtain ⟨vs, q, r⟩ := h; exact ⟨vs, e.trans q, r.mono g⟩
  | dct xs => obtain ⟨vs, q, r⟩ := h; exact ⟨vs, e.trans q, r.mono g⟩
  | lck xs => obtain ⟨o, vs, q, r⟩ := h; exact ⟨o, vs, e.trans q, r.mono g⟩
  | set xs => exact h.elim
  | ins C fs => obtain ⟨c, dx, vs, m, q, r⟩ := h; exact ⟨c, dx, vs, m, e.trans q, r.mono g⟩
theorem RS.addr (r : RS K mg H ι S) {n : Nat} {o : MO} (e : S[n]? = some o) : ∃ a, ι[n]? = some a ∧ RO K mg H ι a o := by
  obtain ⟨hn, _⟩ := List.getElem?_eq_some_iff.mp e
  have hl : n < ι.length := by rw [r.len]; exact hn
  exact ⟨ι[n], List.getElem?_eq_getElem hl, r.at_ n o _ e (List.getElem?_eq_getElem hl)⟩
theorem RS.obj (r : RS K mg H ι S) {n : Nat} {a : Addr} (e : ι[n]? = some a) : ∃ o, S[n]? = some o ∧ RO K mg H ι a o := by
  obtain ⟨hn, _⟩ := List.getElem?_eq_some_iff.mp e
  have hl : n < S.length := by rw [← r.len]; exact hn
  exact ⟨S[n], List.getElem?_eq_getElem hl, r.at_ n _ _ (List.getElem?_eq_getElem hl) e⟩
theorem RS.live (r : RS K mg H ι S) {a : Addr} (h : a ∈ ι) : ∃ u, H a = some u ∧ ∀ xs, u ≠ .tup xs := by
  obtain ⟨n, e⟩ := List.getElem?_of_mem h
  obtain ⟨o, _, q⟩ := r.obj e
  exact q.some
theorem SqT.upd_new {p : Addr} {o : HO} (hp : H p = none) {a : Addr} {vs : List V} (h : SqT K H a vs) : SqT K (upd H p o) a vs := by
  rcases h with (h | ⟨u, h⟩) | h
  · exact .inl (.inl (by rw [upd_ne (ne_of_none h hp)]; exact h))
  · exact .inl (.inr ⟨u, by rw [upd_ne (ne_of_none h hp)]; exact h⟩)
  · exact .inr h
theorem Grow.new {p : Addr} {o : HO} (hp : H p = none) : Grow K H ι (upd H p o) ι := ⟨List.prefix_rfl, fun _ _ h => SqT.upd_new hp h, fun _ _ _ h => by rw [upd_ne (ne_of_none h hp)]; exact h⟩
theorem Grow.alloc {p : Addr} {o : HO} (hp : H p = none) : Grow K H ι (upd H p o) (ι ++ [p]) := ⟨List.prefix_append _ _, fun _ _ h => SqT.upd_new hp h, fun _ _ _ h => by rw [upd_ne (ne_of_none h hp)]; exact h⟩
/-- an object that is not tracked in the store is laid -/
theorem RS.new (r : RS K mg H ι S) {p : Addr} {o : HO} (hp : H p = none) : RS K mg (upd H p o) ι S :=
  ⟨r.len, r.nd, fun n mo a e1 e2 => (r.at_ n mo a e1 e2).keep (Grow.new hp) (upd_ne fun z => by
    obtain ⟨u, hu, _⟩ := (r.at_ n mo a e1 e2).some
    rw [z, hp] at hu; cases hu)⟩
theorem RS.alloc (r : RS K mg H ι S) {p : Addr} {o : HO} {mo : MO} (hp : H p = none) (h : RO K mg (upd H p o) (ι ++ [p]) p mo) : RS K mg (upd H p o) (ι ++ [p]) (S ++ [mo]) := by
  have np : p ∉ ι := fun z => by
    obtain ⟨u, hu, _⟩ := r.live z
    rw [hp] at hu; cases hu
  refine ⟨by simp [r.len], ?_, fun n o' a e1 e2 => ?_⟩
  · rw [List.nodup_append]
    exact ⟨r.nd, by simp, fun x hx y hy => by simp at hy; subst hy; exact fun z => np (z ▸ hx)⟩
  · by_cases hn : n < S.length
    · rw [List.getElem?_append_left hn] at e1
      rw [List.getElem?_append_left (by rw [r.len]; exact hn)] at e2
      refine (r.at_ n o' a e1 e2).keep (Grow.alloc hp) (upd_ne fun z => ?_)
      exact np (z ▸ List.mem_of_getElem? e2)
    · have en : n = S.length := by
        obtain ⟨h1, _⟩ := List.getElem?_eq_some_iff.mp e1
        simp at h1; omega
      subst en
      simp at e1
      rw [← r.len] at e2
      simp at e2
      subst e1; subst e2
      exact h
theorem Grow.write {a : Addr} {o u : HO} (e : H a = some u) (nt : ∀ xs, u ≠ .tup xs) (nf : ∀ ob w, u ≠ .frz ob w) : Grow K H ι (upd H a o) ι := by
  refine ⟨List.prefix_rfl, fun b vs h => ?_, fun b ob w h => by rw [upd_ne (ne_of h e fun z => nf _ _ z.symm)]; exact h⟩
  rcases h with (h | ⟨w, h⟩) | h
  · exact .inl (.inl (by rw [upd_ne (ne_of h e fun z => nt _ z.symm)]; exact h))
  · exact .inl (.inr ⟨w, by rw [upd_ne (ne_of h e fun z => nf _ _ z.symm)]; exact h⟩)
  · exact .inr h
theorem RS.write (r : RS K mg H ι S) {n : Nat} {a : Addr} {o : HO} {mo : MO} (hn : ι[n]? = some a) (g : Grow K H ι (upd H a o) ι) (h : RO K mg (upd H a o) ι a mo) : RS K mg (upd H a o) ι (S.set n mo) := by
  refine ⟨by simp [r.len], r.nd, fun m o' b e1 e2 => ?_⟩
  by_cases hm : m = n
  · subst hm
    have hl : m < S.length := by
      obtain ⟨h1, _⟩ := List.getElem?_eq_some_iff.mp hn
      rw [← r.len]; exact h1
    rw [List.getElem?_set_self hl] at e1
    cases e1
    rw [hn] at e2; cases e2
    exact h
  · rw [List.getElem?_set_ne (Ne.symm hm)] at e1
    refine (r.at_ m o' b e1 e2).keep g (upd_ne fun z => ?_)
    subst z
    obtain ⟨h1, q1⟩ := List.getElem?_eq_some_iff.mp hn
    obtain ⟨h2, q2⟩ := List.getElem?_eq_some_iff.mp e2
    exact hm ((List.getElem_inj r.nd).mp (q2.trans q1.symm))
theorem Rel.mono {σ : L2.St} {δ : Env} {S' : Store} (r : Rel K mg H ι σ δ S) (g : Grow K H ι H' ι') (h : RS K mg H' ι' S') : Rel K mg H' ι' σ δ S' :=
  ⟨r.len, fun i d e => let ⟨v, q, p⟩ := r.env i d e; ⟨v, q, p.mono g⟩, h⟩
theorem Rel.set {σ : L2.St} {δ : Env} (r : Rel K mg H ι σ δ S) {i : Nat} {v : V} {d : D} (q : Rp K mg H ι v d) : Rel K mg H ι (σ.set i (some v)) (δ.set i (some d)) S := by
  refine ⟨by simp [r.len], fun j d' e => ?_, r.sto⟩
  by_cases h : j = i
  · subst h
    have hj : j < δ.length := by
      obtain ⟨h1, _⟩ := List.getElem?_eq_some_iff.mp e
      simpa using h1
    rw [List.getElem?_set_self hj] at e
    cases e
    exact ⟨v, by rw [List.getElem?_set_self (by rw [← r.len]; exact hj)], q⟩
  · rw [List.getElem?_set_ne (Ne.symm h)] at e
    obtain ⟨w, e1, e2⟩ := r.env j d' e
    exact ⟨w, by rw [List.getElem?_set_ne (Ne.symm h)]; exact e1, e2⟩
end

/-! ### the judgements -/
/-- an exception e lies so: its class, its own dict -/
def RX (K : PySem.W.Frag) (mg : Str → Option Value) (H : Hp) (ι : List Addr) (e : Exc) (cls : Value) (dx : Option Addr) : Prop :=
  ∃ c, cls = .ref c ∧ mg (Str.ofString e.cls) = some (.ref c) ∧ match dx with
    | none => e.fs = []
    | some d => ∃ fs, H d = some (.xd fs) ∧ Rfs K mg H ι fs e.fs
def PostE (K : PySem.W.Frag) (mg : Str → Option Value) (W : WX) (σ : L2.St) (H : Hp) (ι : List Addr) (r : Res D) (Q : VK) : Prop := match r with
  | .ok d S' => ∀ v H' ι', Grow K H ι H' ι' → RS K mg H' ι' S' → Rp K mg H' ι' v d → Q v H'
  | .exc e S' => ∀ cls dx H' ι', Grow K H ι H' ι' → RS K mg H' ι' S' → RX K mg H' ι' e cls dx → W cls dx σ H'
  | .stuck => False
def PostA (K : PySem.W.Frag) (mg : Str → Option Value) (W : WX) (σ : L2.St) (H : Hp) (ι : List Addr) (r : Res (List D)) (Q : List V → Hp → Prop) : Prop := match r with
  | .ok d S' => ∀ v H' ι', Grow K H ι H' ι' → RS K mg H' ι' S' → Rps K mg H' ι' v d → Q v H'
  | .exc e S' => ∀ cls dx H' ι', Grow K H ι H' ι' → RS K mg H' ι' S' → RX K mg H' ι' e cls dx → W cls dx σ H'
  | .stuck => False
def PostT (K : PySem.W.Frag) (mg : Str → Option Value) (W : WX) (σ : L2.St) (H : Hp) (ι : List Addr) (r : Res Bool) (Q : Bool → Hp → Prop) : Prop := match r with
  | .ok b S' => ∀ H' ι', Grow K H ι H' ι' → RS K mg H' ι' S' → Q b H'
  | .exc e S' => ∀ cls dx H' ι', Grow K H ι H' ι' → RS K mg H' ι' S' → RX K mg H' ι' e cls dx → W cls dx σ H'
  | .stuck => False
def PostS (K : PySem.W.Frag) (mg : Str → Option Value) (W : WX) (D : Ends) (H : Hp) (ι : List Addr) (r : Res Flow) : Prop := match r with
  | .ok (.nx δ') S' => ∀ σ' H' ι', Grow K H ι H' ι' → Rel K mg H' ι' σ' δ' S' → D.nx σ' H'
  | .ok (.bk δ') S' => ∀ σ' H' ι', Grow K H ι H' ι' → Rel K mg H' ι' σ' δ' S' → D.bk σ' H'
  | .ok (.ct δ') S' => ∀ σ' H' ι', Grow K H ι H' ι' → Rel K mg H' ι' σ' δ' S' → D.ct σ' H'
  | .ok (.rt d) S' => ∀ v H' ι', Grow K H ι H' ι' → RS K mg H' ι' S' → Rp K mg H' ι' v d → D.rt v H'
  | .ok (.ex e δ') S' => ∀ cls dx σ' H' ι', Grow K H ι H' ι' → Rel K mg H' ι' σ' δ' S' → RX K mg H' ι' e cls dx → W cls dx σ' H'
  | _ => False
def cE (K : PySem.W.Frag) (mg : Str → Option Value) (W : WX) (m : EM) : TE := fun σ H Q => ∃ δ S ι, Rel K mg H ι σ δ S ∧ PostE K mg W σ H ι (m δ S) Q
def cA (K : PySem.W.Frag) (mg : Str → Option Value) (W : WX) (m : AM) : TA := fun σ H Q => ∃ δ S ι, Rel K mg H ι σ δ S ∧ PostA K mg W σ H ι (m δ S) Q
def cT (K : PySem.W.Frag) (mg : Str → Option Value) (W : WX) (m : TM) : TT := fun σ H Q => ∃ δ S ι, Rel K mg H ι σ δ S ∧ PostT K mg W σ H ι (m δ S) Q
def cS (K : PySem.W.Frag) (mg : Str → Option Value) (W : WX) (m : SM) : TS := fun D σ H => ∃ δ S ι, Rel K mg H ι σ δ S ∧ PostS K mg W D H ι (m δ S)
abbrev SE (X : Cx) (W : WX) (e : Expr) (m : EM) : Prop := PE X e (cE X.K X.mg W m)
abbrev SA (X : Cx) (W : WX) (e : List Expr) (m : List EM) : Prop := PA X e (cA X.K X.mg W (argsM m))
abbrev ST (X : Cx) (W : WX) (e : Expr) (m : TM) : Prop := PT X e (cT X.K X.mg W m)
abbrev SW (X : Cx) (W : WX) (e : Expr) (m : TM) : Prop := PW X e (cT X.K X.mg W m)
abbrev SS (X : Cx) (W : WX) (s : Stmt) (m : SM) : Prop := PS X s (cS X.K X.mg W m)
abbrev SSs (X : Cx) (W : WX) (s : List Stmt) (m : SM) : Prop := PSs X s (cS X.K X.mg W m)
section
variable {X : Cx}
theorem pe_imp {e : Expr} {t t' : TE} (h : PE X e t) (i : ∀ σ H Q, t' σ H Q → t σ H Q) : PE X e t' := ⟨fun pins s σ H Q I hw => h.run pins s σ H Q I (i _ _ _ hw)⟩
theorem pa_imp {e : List Expr} {t t' : TA} (h : PA X e t) (i : ∀ σ H Q, t' σ H Q → t σ H Q) : PA X e t' := ⟨fun pos pins s σ H Q I hw => h.run pos pins s σ H Q I (i _ _ _ hw)⟩
theorem pt_imp {e : Expr} {t t' : TT} (h : PT X e t) (i : ∀ σ H Q, t' σ H Q → t σ H Q) : PT X e t' := ⟨fun pins s σ H Q I hw => h.run pins s σ H Q I (i _ _ _ hw)⟩
theorem pw_imp {e : Expr} {t t' : TT} (h : PW X e t) (i : ∀ σ H Q, t' σ H Q → t σ H Q) : PW X e t' := ⟨fun wh pins s σ H Q I hw => h.run wh pins s σ H Q I (i _ _ _ hw)⟩
theorem ps_imp {e : Stmt} {t t' : TS} (h : PS X e t) (i : ∀ D σ H, t' D σ H → t D σ H) : PS X e t' := ⟨fun pins s σ H D I hw => h.run pins s σ H D I (i _ _ _ hw)⟩
theorem pss_imp {e : List Stmt} {t t' : TS} (h : PSs X e t) (i : ∀ D σ H, t' D σ H → t D σ H) : PSs X e t' := ⟨fun pins s σ H D I hw => h.run pins s σ H D I (i _ _ _ hw)⟩
end
section
variable {K : PySem.W.Frag} {mg : Str → Option Value} {W : WX} {σ : L2.St} {H H1 : Hp} {ι ι1 : List Addr}
theorem PostE.imp {r : Res D} {Q Q' : VK} (h : PostE K mg W σ H ι r Q) (i : ∀ v H', Q v H' → Q' v H') : PostE K mg W σ H ι r Q' := by
  cases r with
  | ok d S => exact fun v H' ι' a b c => i _ _ (h v H' ι' a b c)
  | exc e S => exact h
  | stuck => exact h
theorem PostE.back {r : Res D} {Q : VK} (g : Grow K H ι H1 ι1) (h : PostE K mg W σ H ι r Q) : PostE K mg W σ H1 ι1 r Q := by
  cases r with
  | ok d S => exact fun v H' ι' a b c => h v H' ι' (g.trans a) b c
  | exc e S => exact fun c dx H' ι' a b d => h c dx H' ι' (g.trans a) b d
  | stuck => exact h
theorem PostA.back {r : Res (List D)} {Q : List V → Hp → Prop} (g : Grow K H ι H1 ι1) (h : PostA K mg W σ H ι r Q) : PostA K mg W σ H1 ι1 r Q := by
  cases r with
  | ok d S => exact fun v H' ι' a b c => h v H' ι' (g.trans a) b c
  | exc e S => exact fun c dx H' ι' a b d => h c dx H' ι' (g.trans a) b d
  | stuck => exact h
theorem PostT.back {r : Res Bool} {Q : Bool → Hp → Prop} (g : Grow K H ι H1 ι1) (h : PostT K mg W σ H ι r Q) : PostT K mg W σ H1 ι1 r Q := by
  cases r with
  | ok d S => exact fun H' ι' a b => h H' ι' (g.trans a) b
  | exc e S => exact fun c dx H' ι' a b d => h c dx H' ι' (g.trans a) b d
  | stuck => exact h
theorem PostS.back {r : Res Flow} {D : Ends} (g : Grow K H ι H1 ι1) (h : PostS K mg W D H ι r) : PostS K mg W D H1 ι1 r := by
  cases r with
  | ok f S =>
    cases f with
    | nx δ => exact fun σ' H' ι' a b => h σ' H' ι' (g.trans a) b
    | bk δ => exact fun σ' H' ι' a b => h σ' H' ι' (g.trans a) b
    | ct δ => exact fun σ' H' ι' a b => h σ' H' ι' (g.trans a) b
    | rt d => exact fun v H' ι' a b c => h v H' ι' (g.trans a) b c
    | ex e δ => exact fun c dx σ' H' ι' a b d => h c dx σ' H' ι' (g.trans a) b d
  | exc e S => exact h
  | stuck => exact h
/-- m, then f -/
theorem PostE.seq {r : Res D} {f : D → Store → Res D} {Q : VK} (h : PostE K mg W σ H ι (r.bind f) Q)
    {Q' : VK} (q : ∀ v H' ι' d S', r = .ok d S' → Grow K H ι H' ι' → RS K mg H' ι' S' → Rp K mg H' ι' v d → PostE K mg W σ H' ι' (f d S') Q → Q' v H') : PostE K mg W σ H ι r Q' := by
  cases r with
  | ok d S => exact fun v H' ι' a b c => q v H' ι' d S rfl a b c (h.back a)
  | exc e S => exact h
  | stuck => exact h
theorem PostA.seq {r : Res (List D)} {f : List D → Store → Res D} {Q : VK} (h : PostE K mg W σ H ι (r.bind f) Q)
    {Q' : List V → Hp → Prop} (q : ∀ v H' ι' d S', r = .ok d S' → Grow K H ι H' ι' → RS K mg H' ι' S' → Rps K mg H' ι' v d → PostE K mg W σ H' ι' (f d S') Q → Q' v H') : PostA K mg W σ H ι r Q' := by
  cases r with
  | ok d S => exact fun v H' ι' a b c => q v H' ι' d S rfl a b c (h.back a)
  | exc e S => exact h
  | stuck => exact h
end
end Dl

end

section
set_option linter.all false
set_option Elab.async false
set_option maxRecDepth 100000
set_option Elab.async false
set_option linter.all false
set_option maxRecDepth 100000
set_option maxHeartbeats 4000000
namespace Dl
open PySem PySem.Spec PyProof.Rows L2

section
variable {X : Cx} {W : WX} {e a b c : Expr} {es : List Expr} {m m' : EM} {ms : List EM} {pos : Pos}

/-! ### names, constants, arguments -/
theorem se_var (i : Nat) {x : Str} (hN : X.N[i]? = some x := by rfl) (hv : Vis X.env.scope x := by first | exact Or.inl rfl | exact Or.inr (Or.inl rfl) | exact Or.inr (Or.inr rfl)) (hd : (x == ("__debug__" : Str)) = false := by decide)
    (hcd : (x == ("__classdict__" : Str)) = false := by decide) : SE X W (.Name x pos) (varM i) := by
  refine pe_imp (pe_var hN hv hd hcd) fun σ H Q h => ?_
  obtain ⟨δ, S, ι, r, h⟩ := h
  unfold varM at h
  split at h
  · rename_i d e
    obtain ⟨v, e1, e2⟩ := r.env i d e
    exact ⟨v, e1, h v H ι .refl r.sto e2⟩
  · exact h.elim
theorem se_con {e : Expr} {v : V} {d : D} (h : PE X e (tC v)) (q : ∀ H ι, Rp X.K X.mg H ι v d) : SE X W e (conM d) := by
  refine pe_imp h fun σ H Q h => ?_
  obtain ⟨δ, S, ι, r, h⟩ := h
  exact h v H ι .refl r.sto (q H ι)
theorem se_int {i : Int} {j pos} : SE X W (.Constant (.int i) j pos) (conM (.int i)) := se_con pe_int fun _ _ => .int i
theorem se_bl {i : Bool} {j pos} : SE X W (.Constant (.bool i) j pos) (conM (.bl i)) := se_con pe_bl fun _ _ => .bl i
theorem se_non {j pos} : SE X W (.Constant .none j pos) (conM .non) := se_con pe_non fun _ _ => .non
theorem se_str {x : Str} (c : Cs) {j pos} (h : x = toS c := by decide +kernel) : SE X W (.Constant (.str x) j pos) (conM (.str c)) := by
  subst h
  exact se_con pe_str fun _ _ => .str c
/-- a def of the module as a value -/
theorem se_fn {x : Str} {f : Addr} (y : String) (hg : Gl X x) (hx : x = Str.ofString y) (hm : X.mg x = some (.ref f)) (hd : (x == ("__debug__" : Str)) = false := by decide) : SE X W (.Name x pos) (conM (.fn y)) := by
  subst hx
  exact se_con (pe_glob (v := .ref f) hg hm rfl hd) fun _ _ => .fn hm
theorem sa_nil : SA X W [] [] := by
  refine pa_imp pa_nil fun σ H Q h => ?_
  obtain ⟨δ, S, ι, r, h⟩ := h
  exact h [] H ι .refl r.sto .nil
theorem sa_cons (h1 : SE X W e m) (h2 : SA X W es ms) (hs : starEach (e :: es) X.env = (false, eval e X.env) :: starEach es X.env := by rfl) : SA X W (e :: es) (m :: ms) := by
  refine pa_imp (pa_cons h1 h2 hs) fun σ H Q h => ?_
  obtain ⟨δ, S, ι, r, h⟩ := h
  refine ⟨δ, S, ι, r, ?_⟩
  have h : PostA X.K X.mg W σ H ι ((m δ S).bind fun d S1 => (argsM ms δ S1).bind fun ds S2 => .ok (d :: ds) S2) Q := h
  cases e1 : m δ S with
  | ok d S1 =>
    rw [e1] at h
    intro v H1 ι1 g1 r1 p1
    refine ⟨δ, S1, ι1, r.mono g1 r1, ?_⟩
    cases e2 : argsM ms δ S1 with
    | ok ds S2 =>
      simp only [Res.bind_ok, e2] at h
      intro vs H2 ι2 g2 r2 p2
      exact h (v :: vs) H2 ι2 (g1.trans g2) r2 (.cons (p1.mono g2) p2)
    | exc x S2 =>
      simp only [Res.bind_ok, e2] at h
      exact fun c dx H' ι' g q z => h c dx H' ι' (g1.trans g) q z
    | stuck =>
      simp only [Res.bind_ok, e2] at h
      exact h
  | exc x S1 => rw [e1] at h; exact h
  | stuck => rw [e1] at h; exact h

/-! ### what is done with values -/
/-- the operation r on values does what p does on data -/
structure SimN (K : PySem.W.Frag) (mg : Str → Option Value) (r : List V → Hp → VK → Prop) (p : FM) : Prop where
  run : ∀ (xs : List V) (ds : List D) (H : Hp) (S : Store) (ι : List Addr) (d : D) (S' : Store) (Q : VK), RS K mg H ι S → Rps K mg H ι xs ds → p ds S = .ok d S' →
    (∀ v H' ι', Grow K H ι H' ι' → RS K mg H' ι' S' → Rp K mg H' ι' v d → Q v H') → r xs H Q
  nox : ∀ ds S e S', p ds S ≠ .exc e S'
/-- behind the arguments -/
theorem callN {K : PySem.W.Frag} {mg : Str → Option Value} {σ : L2.St} {H : Hp} {Q : VK} {r : List V → Hp → VK → Prop} {p : FM} (s : SimN K mg r p) (h : cE K mg W (callM p ms) σ H Q) : tCB r (cA K mg W (argsM ms)) σ H Q := by
  obtain ⟨δ, S, ι, rl, h⟩ := h
  refine ⟨δ, S, ι, rl, ?_⟩
  have h : PostE K mg W σ H ι ((argsM ms δ S).bind p) Q := h
  refine PostA.seq h fun v H' ι' ds S1 e g r1 q hp => ?_
  cases e2 : p ds S1 with
  | ok d S' => rw [e2] at hp; exact s.run v ds H' S1 ι' d S' Q r1 q e2 hp
  | exc x S' => exact (s.nox _ _ _ _ e2).elim
  | stuck => rw [e2] at hp; exact hp.elim
/-- of two -/
structure Sim2 (K : PySem.W.Frag) (mg : Str → Option Value) (r : R2) (p : FM) : Prop where
  run : ∀ (x y : V) (dx dy : D) (H : Hp) (S : Store) (ι : List Addr) (d : D) (S' : Store) (Q : VK), RS K mg H ι S → Rp K mg H ι x dx → Rp K mg H ι y dy → p [dx, dy] S = .ok d S' →
    (∀ v H' ι', Grow K H ι H' ι' → RS K mg H' ι' S' → Rp K mg H' ι' v d → Q v H') → r x y H Q
  nox : ∀ ds S e S', p ds S ≠ .exc e S'
theorem bind_inv {α β : Type} {r : Res α} {f : α → Store → Res β} {b : β} {S : Store} (h : r.bind f = .ok b S) : ∃ a S1, r = .ok a S1 ∧ f a S1 = .ok b S := by
  cases r with
  | ok a S1 => exact ⟨a, S1, rfl, h⟩
  | exc e S1 => cases h
  | stuck => cases h
theorem opN {K : PySem.W.Frag} {mg : Str → Option Value} {σ : L2.St} {H : Hp} {Q : VK} {r : R2} {p : FM} (s : Sim2 K mg r p) (h : cE K mg W (callM p [m, m']) σ H Q) : tOp r (cE K mg W m) (cE K mg W m') σ H Q := by
  obtain ⟨δ, S, ι, rl, h⟩ := h
  refine ⟨δ, S, ι, rl, ?_⟩
  have h : PostE K mg W σ H ι (((m δ S).bind fun d S1 => (argsM [m'] δ S1).bind fun ds S2 => .ok (d :: ds) S2).bind p) Q := h
  cases e1 : m δ S with
  | ok d S1 =>
    rw [e1] at h
    intro v H1 ι1 g1 r1 p1
    refine ⟨δ, S1, ι1, rl.mono g1 r1, ?_⟩
    have h : PostE K mg W σ H ι ((((m' δ S1).bind fun d S2 => .ok [d] S2).bind fun ds S2 => .ok (d :: ds) S2).bind p) Q := h
    cases e2 : m' δ S1 with
    | ok d' S2 =>
      rw [e2] at h
      have h : PostE K mg W σ H ι (p [d, d'] S2) Q := h
      intro u H2 ι2 g2 r2 p2
      cases e3 : p [d, d'] S2 with
      | ok z S3 =>
        rw [e3] at h
        exact s.run v u d d' H2 S2 ι2 z S3 Q r2 (p1.mono g2) p2 e3 fun w H3 ι3 g3 r3 p3 => h w H3 ι3 ((g1.trans g2).trans g3) r3 p3
      | exc x S3 => exact (s.nox _ _ _ _ e3).elim
      | stuck => rw [e3] at h; exact h.elim
    | exc x S2 =>
      rw [e2] at h
      exact fun c dx H' ι' g q z => h c dx H' ι' (g1.trans g) q z
    | stuck => rw [e2] at h; exact h
  | exc x S1 => rw [e1] at h; exact h
  | stuck => rw [e1] at h; exact h
theorem se_op {op : Operator} {r : R2} {p : FM} (ho : OpR X (binaryOp op) r) (s : Sim2 X.K X.mg r p) (ha : SE X W a m) (hb : SE X W b m') : SE X W (.BinOp a op b pos) (callM p [m, m']) :=
  pe_imp (pe_op ho ha hb) fun _ _ _ h => opN s h
theorem se_cmp {op : CmpOp} {r : R2} {p : FM} (ho : OpR X (compareOp op) r) (s : Sim2 X.K X.mg r p) (ha : SE X W a m) (hb : SE X W b m') (hm : behindInMarks op b = false) : SE X W (.Compare a [op] [b] pos) (callM p [m, m']) :=
  pe_imp (pe_cmpR ho ha hb hm) fun _ _ _ h => opN s h
theorem tbT {K : PySem.W.Frag} {mg : Str → Option Value} {σ : L2.St} {H : Hp} {Q : Bool → Hp → Prop} {t : TE} (i : ∀ {Q}, cE K mg W m σ H Q → t σ H Q) (h : cT K mg W (tbM m) σ H Q) : tTest t σ H Q := by
  obtain ⟨δ, S, ι, rl, h⟩ := h
  refine i ⟨δ, S, ι, rl, ?_⟩
  have h : PostT K mg W σ H ι ((m δ S).bind fun d S1 => match d with | .bl b => .ok b S1 | _ => .stuck) Q := h
  cases e1 : m δ S with
  | ok d S1 =>
    rw [e1] at h
    intro v H1 ι1 g1 r1 p1
    cases d with
    | bl b => cases p1; exact ⟨b, rfl, h H1 ι1 g1 r1⟩
    | _ => exact h.elim
  | exc x S1 => rw [e1] at h; exact h
  | stuck => rw [e1] at h; exact h
theorem st_cmp {op : CmpOp} {r : R2} {p : FM} (ho : OpR X (compareOp op) r) (s : Sim2 X.K X.mg r p) (ha : SE X W a m) (hb : SE X W b m') (hm : behindInMarks op b = false) : ST X W (.Compare a [op] [b] pos) (tbM (callM p [m, m'])) :=
  pt_imp (pt_cmpR ho ha hb hm) fun _ _ _ h => tbT (fun h => opN s h) h
/-- an expression whose value is a bool, as a test -/
theorem st_val (ha : SE X W e m) (he : ∀ whole, isTrue e X.env whole = (do let v ← whole; standAt e.pos; holding [v] (truthy v)) := by intro _; rfl) : ST X W e (tbM m) :=
  pt_imp (pt_val ha he) fun _ _ _ h => tbT (fun h => h) h

/-! ### and, or, not -/
variable {tA tB : TM} {rest : List Expr}
theorem PostT.seq {K : PySem.W.Frag} {mg : Str → Option Value} {σ : L2.St} {H : Hp} {ι : List Addr} {r : Res Bool} {f : Bool → Store → Res Bool} {Q : Bool → Hp → Prop} (h : PostT K mg W σ H ι (r.bind f) Q)
    {Q' : Bool → Hp → Prop} (q : ∀ H' ι' d S', r = .ok d S' → Grow K H ι H' ι' → RS K mg H' ι' S' → PostT K mg W σ H' ι' (f d S') Q → Q' d H') : PostT K mg W σ H ι r Q' := by
  cases r with
  | ok d S => exact fun H' ι' a b => q H' ι' d S rfl a b (h.back a)
  | exc e S => exact h
  | stuck => exact h
theorem PostT.seqE {K : PySem.W.Frag} {mg : Str → Option Value} {σ : L2.St} {H : Hp} {ι : List Addr} {r : Res Bool} {f : Bool → Store → Res D} {Q : VK} (h : PostE K mg W σ H ι (r.bind f) Q)
    {Q' : Bool → Hp → Prop} (q : ∀ H' ι' d S', r = .ok d S' → Grow K H ι H' ι' → RS K mg H' ι' S' → PostE K mg W σ H' ι' (f d S') Q → Q' d H') : PostT K mg W σ H ι r Q' := by
  cases r with
  | ok d S => exact fun H' ι' a b => q H' ι' d S rfl a b (h.back a)
  | exc e S => exact h
  | stuck => exact h
theorem sw_and1 (ha : ST X W a tA) : SW X W (.BoolOp .And [a] pos) tA := pw_and1 ha
theorem sw_or1 (ha : ST X W a tA) : SW X W (.BoolOp .Or [a] pos) tA := pw_or1 ha
theorem sw_and (ha : ST X W a tA) (hb : SW X W (.BoolOp .And (b :: rest) pos) tB) : SW X W (.BoolOp .And (a :: b :: rest) pos) (andT tA tB) := by
  refine pw_imp (pw_and ha hb) fun σ H Q h => ?_
  obtain ⟨δ, S, ι, r, h⟩ := h
  refine ⟨δ, S, ι, r, PostT.seq h fun H' ι' d S' _ g r1 h1 => ?_⟩
  cases d with
  | true => exact iteT ⟨δ, S', ι', r.mono g r1, h1⟩
  | false => exact iteF (h1 H' ι' .refl r1)
theorem sw_or (ha : ST X W a tA) (hb : SW X W (.BoolOp .Or (b :: rest) pos) tB) : SW X W (.BoolOp .Or (a :: b :: rest) pos) (orT tA tB) := by
  refine pw_imp (pw_or ha hb) fun σ H Q h => ?_
  obtain ⟨δ, S, ι, r, h⟩ := h
  refine ⟨δ, S, ι, r, PostT.seq h fun H' ι' d S' _ g r1 h1 => ?_⟩
  cases d with
  | true => exact iteT (h1 H' ι' .refl r1)
  | false => exact iteF ⟨δ, S', ι', r.mono g r1, h1⟩
theorem st_w (h : SW X W e tA) : ST X W e tA := h.pt
theorem st_not (ha : ST X W a tA) : ST X W (.UnaryOp .Not a pos) (notT tA) := by
  refine pt_imp (pt_not ha) fun σ H Q h => ?_
  obtain ⟨δ, S, ι, r, h⟩ := h
  exact ⟨δ, S, ι, r, PostT.seq h fun H' ι' d S' _ g r1 h1 => h1 H' ι' .refl r1⟩
theorem se_one {op} (h : SE X W a m) : SE X W (.BoolOp op [a] pos) m := pe_one h
theorem se_and (ha : SE X W a m) (hb : SE X W (.BoolOp .And (b :: rest) pos) m') : SE X W (.BoolOp .And (a :: b :: rest) pos) (andV m m') := by
  refine pe_imp (pe_and ha hb) fun σ H Q h => ?_
  obtain ⟨δ, S, ι, r, h⟩ := h
  refine ⟨δ, S, ι, r, PostE.seq h fun v H' ι' d S' _ g r1 p1 h1 => ?_⟩
  cases d with
  | bl k =>
    cases p1
    refine ⟨k, rfl, ?_⟩
    cases k with
    | true => exact iteT ⟨δ, S', ι', r.mono g r1, h1⟩
    | false => exact iteF (h1 _ H' ι' .refl r1 (.bl false))
  | _ => exact h1.elim
theorem se_or (ha : SE X W a m) (hb : SE X W (.BoolOp .Or (b :: rest) pos) m') : SE X W (.BoolOp .Or (a :: b :: rest) pos) (orV m m') := by
  refine pe_imp (pe_or ha hb) fun σ H Q h => ?_
  obtain ⟨δ, S, ι, r, h⟩ := h
  refine ⟨δ, S, ι, r, PostE.seq h fun v H' ι' d S' _ g r1 p1 h1 => ?_⟩
  cases d with
  | bl k =>
    cases p1
    refine ⟨k, rfl, ?_⟩
    cases k with
    | false => exact iteF ⟨δ, S', ι', r.mono g r1, h1⟩
    | true => exact iteT (h1 _ H' ι' .refl r1 (.bl true))
  | _ => exact h1.elim
theorem se_not (ha : SE X W a m) : SE X W (.UnaryOp .Not a pos) (notV m) := by
  refine pe_imp (pe_not ha) fun σ H Q h => ?_
  obtain ⟨δ, S, ι, r, h⟩ := h
  refine ⟨δ, S, ι, r, PostE.seq h fun v H' ι' d S' _ g r1 p1 h1 => ?_⟩
  cases d with
  | bl k => cases p1; exact ⟨k, rfl, h1 _ H' ι' .refl r1 (.bl _)⟩
  | _ => exact h1.elim
theorem se_ifExp {c : Expr} (hc : ST X W c tA) (ha : SE X W a m) (hb : SE X W b m') : SE X W (.IfExp c a b pos) (ifM tA m m') := by
  refine pe_imp (pe_ifExp hc ha hb) fun σ H Q h => ?_
  obtain ⟨δ, S, ι, r, h⟩ := h
  refine ⟨δ, S, ι, r, PostT.seqE h fun H' ι' d S' _ g r1 h1 => ?_⟩
  cases d with
  | true => exact iteT ⟨δ, S', ι', r.mono g r1, h1⟩
  | false => exact iteF ⟨δ, S', ι', r.mono g r1, h1⟩
end
end Dl

end

section
set_option linter.all false
set_option Elab.async false
set_option maxRecDepth 100000
set_option Elab.async false
set_option linter.all false
set_option maxRecDepth 100000
set_option maxHeartbeats 4000000
namespace Dl
open PySem PySem.Spec PyProof.Rows L2

section
variable {K : PySem.W.Frag} {mg : Str → Option Value} {H H' : Hp} {ι ι' : List Addr} {S : Store}
/-! ### reading the store -/
theorem RS.lst (r : RS K mg H ι S) {n : Nat} {a : Addr} {xs : List D} (hn : ι[n]? = some a) (e : S[n]? = some (.lst xs)) : ∃ vs, H a = some (.lst vs) ∧ Rps K mg H ι vs xs := r.at_ n _ a e hn
theorem RS.lstAt (r : RS K mg H ι S) {n : Nat} {a : Addr} {xs : List D} (hn : ι[n]? = some a) (e : lstAt S n = some xs) : ∃ vs, SqL K H a vs ∧ Rps K mg H ι vs xs := by
  unfold Dl.lstAt at e
  split at e
  · rename_i ys e1; cases e
    obtain ⟨vs, h1, h2⟩ := r.at_ n _ a e1 hn
    exact ⟨vs, .inl (.inl h1), h2⟩
  · cases e
/-- a tracked list written -/
theorem RS.put (r : RS K mg H ι S) {n : Nat} {a : Addr} {vs ws : List V} {ys : List D} (hn : ι[n]? = some a) (h : H a = some (.lst vs)) (q : Rps K mg H ι ws ys) :
    Grow K H ι (upd H a (.lst ws)) ι ∧ RS K mg (upd H a (.lst ws)) ι (S.set n (.lst ys)) := by
  have g : Grow K H ι (upd H a (.lst ws)) ι := Grow.write h (fun _ z => by cases z) (fun _ _ z => by cases z)
  exact ⟨g, r.write hn g ⟨ws, upd_same, q.mono g⟩⟩
/-- a new list -/
theorem RS.newL (r : RS K mg H ι S) {p : Addr} {ws : List V} {ys : List D} (hp : H p = none) (q : Rps K mg H ι ws ys) :
    Grow K H ι (upd H p (.lst ws)) (ι ++ [p]) ∧ RS K mg (upd H p (.lst ws)) (ι ++ [p]) (S ++ [.lst ys]) ∧ Rp K mg (upd H p (.lst ws)) (ι ++ [p]) (.ref p) (.ref S.length) := by
  have g : Grow K H ι (upd H p (.lst ws)) (ι ++ [p]) := Grow.alloc hp
  refine ⟨g, r.alloc hp ⟨ws, upd_same, q.mono g⟩, .ref ?_⟩
  rw [← r.len]; simp
/-- a new tuple -/
theorem RS.mkT (r : RS K mg H ι S) {p : Addr} {ws : List V} {ys : List D} (hp : H p = none) (hl : ws.length ≤ sizeLine) (q : Rps K mg H ι ws ys) :
    Grow K H ι (upd H p (.tup ws)) ι ∧ RS K mg (upd H p (.tup ws)) ι S ∧ Rp K mg (upd H p (.tup ws)) ι (.ref p) (.tup ys) := by
  have g : Grow K H ι (upd H p (.tup ws)) ι := Grow.new hp
  exact ⟨g, r.new hp, .tup (.inl (.inl upd_same)) hl (q.mono g)⟩
theorem Rps.one {vs : List V} {d : D} (h : Rps K mg H ι vs [d]) : ∃ v, vs = [v] ∧ Rp K mg H ι v d := by
  cases h with
  | cons h1 h2 => cases h2; exact ⟨_, rfl, h1⟩
theorem Rps.two {vs : List V} {d e : D} (h : Rps K mg H ι vs [d, e]) : ∃ v u, vs = [v, u] ∧ Rp K mg H ι v d ∧ Rp K mg H ι u e := by
  cases h with
  | cons h1 h2 =>
    obtain ⟨u, rfl, h3⟩ := h2.one
    exact ⟨_, _, rfl, h1, h3⟩
theorem Rp.ref_inv {v : V} {n : Nat} (h : Rp K mg H ι v (.ref n)) : ∃ a, v = .ref a ∧ ι[n]? = some a := by
  cases h with
  | ref h => exact ⟨_, rfl, h⟩
theorem Rp.lit_inv {v : V} {xs : List D} (h : Rp K mg H ι v (.lit xs)) : ∃ a vs, v = .ref a ∧ SqL K H a vs ∧ vs.length ≤ sizeLine ∧ Rps K mg H ι vs xs := by
  cases h with
  | lit h1 h2 h3 => exact ⟨_, _, rfl, h1.sql, h2, h3⟩
theorem Rp.tup_inv {v : V} {xs : List D} (h : Rp K mg H ι v (.tup xs)) : ∃ a vs, v = .ref a ∧ SqT K H a vs ∧ vs.length ≤ sizeLine ∧ Rps K mg H ι vs xs := by
  cases h with
  | tup h1 h2 h3 => exact ⟨_, _, rfl, h1, h2, h3⟩
end

section
variable {X : Cx} {W : WX} {e a b c : Expr} {es : List Expr} {m m' : EM} {ms : List EM} {pos : Pos}
theorem ite_ok {p : Prop} [Decidable p] {α : Type} {a d : α} {S S' : Store} (h : (if p then Res.ok a S else Res.stuck) = Res.ok d S') : p ∧ a = d ∧ S = S' := by
  split at h
  · rename_i q; cases h; exact ⟨q, rfl, rfl⟩
  · cases h
theorem ite_exc {p : Prop} [Decidable p] {α : Type} {a : α} {S S' : Store} {x : Exc} : (if p then Res.ok a S else Res.stuck) ≠ Res.exc x S' := by
  split <;> exact fun z => by cases z

/-! ### tuples, lists -/
theorem sim_tup {K : PySem.W.Frag} {mg : Str → Option Value} : SimN K mg (fun xs H Q => xs.length ≤ sizeLine ∧ ∀ p, H p = none → Q (.ref p) (upd H p (.tup xs))) tupP where
  run := fun xs ds H S ι d S' Q r q e h => by
    obtain ⟨hl, rfl, rfl⟩ := ite_ok e
    rw [LIM_eq, ← q.length] at hl
    refine ⟨hl, fun p hp => ?_⟩
    obtain ⟨g, r', q'⟩ := r.mkT hp hl q
    exact h _ _ _ g r' q'
  nox := fun _ _ _ _ => ite_exc
theorem se_tup {k} (h : SA X W es ms) : SE X W (.Tuple es k pos) (callM tupP ms) := pe_imp (pe_tup h) fun _ _ _ q => callN sim_tup q
theorem sim_lst {K : PySem.W.Frag} {mg : Str → Option Value} : SimN K mg (fun xs H Q => xs.length ≤ sizeLine ∧ ∀ p, H p = none → Q (.ref p) (upd H p (.lst xs))) lstP where
  run := fun xs ds H S ι d S' Q r q e h => by
    obtain ⟨hl, rfl, rfl⟩ := ite_ok e
    rw [LIM_eq, ← q.length] at hl
    refine ⟨hl, fun p hp => ?_⟩
    obtain ⟨g, r', q'⟩ := r.newL hp q
    exact h _ _ _ g r' q'
  nox := fun _ _ _ _ => ite_exc
theorem se_lst (h : SA X W es ms) : SE X W (.List es pos) (callM lstP ms) := pe_imp (pe_lst h) fun _ _ _ q => callN sim_lst q

/-! ### arithmetic -/
def rAddA (K : PySem.W.Frag) : R2 := fun x y H Q => (rI0 fun i j => .int (i + j)) x y H Q ∨ (∃ i j, x = .str i ∧ y = .str j ∧ i.length + j.length ≤ sizeLine ∧ Q (.str (i ++ j)) H) ∨ rCatA K x y H Q ∨ rCat x y H Q
theorem op_addA : OpR X (binaryOp .Add) (rAddA X.K) := op_add.or (op_add_str.or (op_catA.or op_cat))
theorem sim_add {K : PySem.W.Frag} {mg : Str → Option Value} : Sim2 K mg (rAddA K) addP where
  run := fun x y dx dy H S ι d S' Q r px py e h => by
    unfold addP at e
    split at e
    · rename_i i j q
      cases q; cases e; cases px; cases py
      exact .inl ⟨_, _, rfl, rfl, h _ H ι .refl r (.int _)⟩
    · rename_i i j q
      cases q
      obtain ⟨hl, rfl, rfl⟩ := ite_ok e
      cases px; cases py
      refine .inr (.inl ⟨_, _, rfl, rfl, ?_, ?_⟩)
      · rw [toS_length, toS_length, ← LIM_eq]; exact hl
      · rw [toS_append]; exact h _ H ι .refl r (.str _)
    · rename_i xs ys q
      cases q
      obtain ⟨hl, rfl, rfl⟩ := ite_ok e
      obtain ⟨a, vs, rfl, h1, h2, h3⟩ := px.tup_inv
      obtain ⟨b, ws, rfl, k1, k2, k3⟩ := py.tup_inv
      have hl' : vs.length + ws.length ≤ sizeLine := by rw [← LIM_eq, h3.length, k3.length]; exact hl
      refine .inr (.inr (.inl ⟨a, b, vs, ws, rfl, rfl, h1, k1, hl', fun z => ?_, fun z1 z2 => ?_, fun _ _ p hp => ?_⟩))
      · subst z; cases h3; exact h _ H ι .refl r (.tup k1 k2 k3)
      · subst z2; cases k3; rw [List.append_nil] at h; exact h _ H ι .refl r (.tup h1 h2 h3)
      · obtain ⟨g, r', q'⟩ := r.mkT hp (ws := vs ++ ws) (by simpa using hl') (h3.append k3)
        exact h _ _ _ g r' q'
    · rename_i n m q
      cases q
      split at e
      · rename_i xs ys e1 e2
        obtain ⟨hl, rfl, rfl⟩ := ite_ok e
        obtain ⟨a, rfl, ha⟩ := px.ref_inv
        obtain ⟨b, rfl, hb⟩ := py.ref_inv
        obtain ⟨vs, h1, h2⟩ := r.lst ha e1
        obtain ⟨ws, k1, k2⟩ := r.lst hb e2
        refine .inr (.inr (.inr ⟨a, b, vs, ws, rfl, rfl, h1, k1, ?_, fun p hp => ?_⟩))
        · rw [← LIM_eq, h2.length, k2.length]; exact hl
        · obtain ⟨g, r', q'⟩ := r.newL hp (h2.append k2)
          exact h _ _ _ g r' q'
      · cases e
    · cases e
  nox := fun ds S x S' z => by
    unfold addP at z
    split at z <;> first | cases z | exact ite_exc z | (split at z <;> first | cases z | exact ite_exc z)
theorem se_add (ha : SE X W a m) (hb : SE X W b m') : SE X W (.BinOp a .Add b pos) (callM addP [m, m']) := se_op op_addA sim_add ha hb
theorem sim_sub {K : PySem.W.Frag} {mg : Str → Option Value} : Sim2 K mg (rI0 fun i j => .int (i - j)) subP where
  run := fun x y dx dy H S ι d S' Q r px py e h => by
    unfold subP at e
    split at e
    · rename_i i j q
      cases q; cases e; cases px; cases py
      exact ⟨_, _, rfl, rfl, h _ H ι .refl r (.int _)⟩
    · cases e
  nox := fun ds S x S' z => by
    unfold subP at z
    split at z <;> cases z
theorem se_sub (ha : SE X W a m) (hb : SE X W b m') : SE X W (.BinOp a .Sub b pos) (callM subP [m, m']) := se_op op_sub sim_sub ha hb
/-- s * n, 0 < n -/
theorem op_mul_str : OpR X (binaryOp .Mult) (fun x y H Q => ∃ z i, x = .str z ∧ y = .int i ∧ 0 < i ∧ i ≤ (sizeLine : Int) ∧ z.length * i.toNat ≤ sizeLine ∧ Q (.str ⟨(List.replicate i.toNat z.cps.toList).flatten.toArray⟩) H) := by
  intro pins s σ H x y v u Q I rx ry h
  obtain ⟨z, i, rfl, rfl, h0, h1, hz, q⟩ := h
  obtain ⟨t, rfl⟩ := rx
  obtain ⟨t', rfl⟩ := ry
  have e : Txt.mul z i = ⟨(List.replicate i.toNat z.cps.toList).flatten.toArray⟩ := by
    unfold Txt.mul
    rw [if_neg (by omega)]
    split
    · rename_i hc
      cases z with
      | mk cps =>
      rcases Bool.or_eq_true _ _ ▸ hc with c | c
      · have : i = 1 := by simpa using c
        subst this
        simp
      · have : cps.size = 0 := by simpa [Str.length] using c
        have e0 : cps = #[] := Array.eq_empty_of_size_eq_zero this
        subst e0
        simp
    · cases z with
      | mk cps =>
      have : ∀ (n : Nat) (acc : Array Nat), (List.replicate n cps).foldl (· ++ ·) acc = acc ++ (List.replicate n cps.toList).flatten.toArray := by
        intro n
        induction n with
        | zero => intro acc; simp
        | succ n ih => intro acc; rw [List.replicate_succ, List.foldl_cons, ih, List.replicate_succ, List.flatten_cons]; rw [Array.append_assoc]; congr 1; apply Array.toList_inj.mp; simp
      rw [this]
      simp
  have hs := sizeLine_eq
  refine SB.mul (x := z) (n := i) ⟨?_, fun _ _ => ?_, fun _ _ => ?_⟩ fun t'' k => ⟨.str ⟨(List.replicate i.toNat z.cps.toList).flatten.toArray⟩, H, I.tok _, ⟨t'', by rw [e]⟩, q⟩
  · rw [Bool.or_eq_false_iff]
    exact ⟨decide_eq_false (by omega), decide_eq_false (by omega)⟩
  · have h2 : z.length ≤ sizeLine := by
      have : z.length * 1 ≤ z.length * i.toNat := Nat.mul_le_mul_left _ (by omega)
      omega
    have hs' : (sizeLine : Int) = 16777216 := by rw [hs]; rfl
    have h3 : (sizeLine : Int) * i ≤ 2 ^ 63 - 1 := by
      rw [hs'] at h1 ⊢
      omega
    have : (sizeLine : Int) ≤ (2 ^ 63 - 1) / i := (Int.le_ediv_iff_mul_le h0).mpr h3
    omega
  · unfold Builtin.Str.tooLong
    simpa using hz
def rMulA : R2 := fun x y H Q => (rI CMul fun i j => .int (i * j)) x y H Q ∨ (∃ z i, x = .str z ∧ y = .int i ∧ 0 < i ∧ i ≤ (sizeLine : Int) ∧ z.length * i.toNat ≤ sizeLine ∧ Q (.str ⟨(List.replicate i.toNat z.cps.toList).flatten.toArray⟩) H)
theorem sim_mul {K : PySem.W.Frag} {mg : Str → Option Value} : Sim2 K mg rMulA mulP where
  run := fun x y dx dy H S ι d S' Q r px py e h => by
    unfold mulP at e
    split at e
    · rename_i i j q
      cases q
      obtain ⟨hc, rfl, rfl⟩ := ite_ok e
      cases px; cases py
      refine .inl ⟨_, _, rfl, rfl, ?_, h _ H ι .refl r (.int _)⟩
      simp only [small64, Bool.or_eq_true, Bool.and_eq_true, decide_eq_true_eq] at hc
      exact hc
    · rename_i i j q
      cases q
      obtain ⟨⟨h0, h1, h2⟩, rfl, rfl⟩ := ite_ok e
      cases px; cases py
      refine .inr ⟨_, _, rfl, rfl, h0, by rw [← LIM_eq]; exact h2, by rw [← LIM_eq, toS_length]; exact h1, ?_⟩
      rw [toS_list]
      exact h _ H ι .refl r (.str _)
    · cases e
  nox := fun ds S x S' z => by
    unfold mulP at z
    split at z <;> first | cases z | exact ite_exc z
theorem se_mul (ha : SE X W a m) (hb : SE X W b m') : SE X W (.BinOp a .Mult b pos) (callM mulP [m, m']) := se_op (op_mul.or op_mul_str) sim_mul ha hb
theorem sim_mod {K : PySem.W.Frag} {mg : Str → Option Value} : Sim2 K mg (rI (fun _ j => 0 < j) fun i j => .int (i % j)) modP where
  run := fun x y dx dy H S ι d S' Q r px py e h => by
    unfold modP at e
    split at e
    · rename_i i j q
      cases q
      obtain ⟨hc, rfl, rfl⟩ := ite_ok e
      cases px; cases py
      exact ⟨_, _, rfl, rfl, hc, h _ H ι .refl r (.int _)⟩
    · cases e
  nox := fun ds S x S' z => by
    unfold modP at z
    split at z <;> first | cases z | exact ite_exc z
theorem se_mod (ha : SE X W a m) (hb : SE X W b m') : SE X W (.BinOp a .Mod b pos) (callM modP [m, m']) := se_op op_mod sim_mod ha hb
theorem sim_fdiv {K : PySem.W.Frag} {mg : Str → Option Value} : Sim2 K mg (rI CDiv fun i j => .int (i / j)) fdivP where
  run := fun x y dx dy H S ι d S' Q r px py e h => by
    unfold fdivP at e
    split at e
    · rename_i i j q
      cases q
      obtain ⟨hc, rfl, rfl⟩ := ite_ok e
      cases px; cases py
      exact ⟨_, _, rfl, rfl, hc, h _ H ι .refl r (.int _)⟩
    · cases e
  nox := fun ds S x S' z => by
    unfold fdivP at z
    split at z <;> first | cases z | exact ite_exc z
theorem se_fdiv (ha : SE X W a m) (hb : SE X W b m') : SE X W (.BinOp a .FloorDiv b pos) (callM fdivP [m, m']) := se_op op_fdiv sim_fdiv ha hb
theorem sim_pow {K : PySem.W.Frag} {mg : Str → Option Value} : Sim2 K mg (rI CPow fun i j => .int (i ^ j.toNat)) powP where
  run := fun x y dx dy H S ι d S' Q r px py e h => by
    unfold powP at e
    split at e
    · rename_i i j q
      cases q
      obtain ⟨hc, rfl, rfl⟩ := ite_ok e
      cases px; cases py
      exact ⟨_, _, rfl, rfl, hc, h _ H ι .refl r (.int _)⟩
    · cases e
  nox := fun ds S x S' z => by
    unfold powP at z
    split at z <;> first | cases z | exact ite_exc z
theorem se_pow (ha : SE X W a m) (hb : SE X W b m') : SE X W (.BinOp a .Pow b pos) (callM powP [m, m']) := se_op op_pow sim_pow ha hb
theorem se_neg (ha : SE X W a m) : SE X W (.UnaryOp .USub a pos) (callM negP [m]) := by
  refine pe_imp (pe_un un_neg ha) fun σ H Q h => ?_
  obtain ⟨δ, S, ι, r, h⟩ := h
  refine ⟨δ, S, ι, r, ?_⟩
  have h : PostE X.K X.mg W σ H ι (((m δ S).bind fun d S1 => .ok [d] S1).bind negP) Q := h
  cases e1 : m δ S with
  | ok d S1 =>
    rw [e1] at h
    intro v H' ι' g r1 p1
    cases d with
    | int i => cases p1; exact ⟨i, rfl, h _ H' ι' g r1 (.int _)⟩
    | _ => exact h.elim
  | exc x S1 => rw [e1] at h; exact h
  | stuck => rw [e1] at h; exact h

/-! ### comparisons -/
theorem sim_lt {K : PySem.W.Frag} {mg : Str → Option Value} : Sim2 K mg (fun x y H Q => (rI0 fun i j => .bl (decide (i < j))) x y H Q ∨ (∃ i j, x = .str i ∧ y = .str j ∧ Q (.bl (decide (i.cps.toList < j.cps.toList))) H)) ltP := by
  refine ⟨fun x y dx dy H S ι d S' Q r px py e h => ?_, fun ds S x S' z => ?_⟩
  · unfold ltP at e
    split at e
    · rename_i i j q
      cases q; cases e; cases px; cases py
      exact .inl ⟨_, _, rfl, rfl, h _ H ι .refl r (.bl _)⟩
    · rename_i i j q
      cases q; cases e; cases px; cases py
      refine .inr ⟨_, _, rfl, rfl, ?_⟩
      rw [toS_list, toS_list]
      exact h _ H ι .refl r (.bl _)
    · cases e
  · unfold ltP at z
    split at z <;> cases z
end
end Dl

end

section
set_option linter.all false
set_option Elab.async false
set_option maxRecDepth 100000
set_option Elab.async false
set_option linter.all false
set_option maxRecDepth 100000
set_option maxHeartbeats 4000000
namespace Dl
open PySem PySem.Spec PyProof.Rows L2

/-! ### data as the library's -/
mutual
def D.py : D → PyData
  | .non => .none
  | .bl b => .bool b
  | .int i => .int i
  | .str x => .str (toS x)
  | .tup xs => .tuple (D.pys xs)
  | .ref _ => .none
  | .fn _ => .none
  | .lit _ => .none
def D.pys : List D → List PyData
  | [] => []
  | d :: r => D.py d :: D.pys r
end
theorem toS_beq (x y : Cs) : (toS x == toS y) = (x == y) := by
  rw [Bool.eq_iff_iff, beq_iff_eq, beq_iff_eq, toS_inj]
mutual
theorem D.eqv_py : ∀ (n m : Nat) (x y : D), D.flat n x = true → D.flat m y = true → PyData.eqv (D.py x) (D.py y) = D.eqv x y
  | n, m, .non, y, hx, hy => by cases y <;> simp_all [D.py, PyData.eqv, D.eqv, D.flat]
  | n, m, .bl _, y, hx, hy => by cases y <;> simp_all [D.py, PyData.eqv, D.eqv, D.flat, b2i]
  | n, m, .int _, y, hx, hy => by cases y <;> simp_all [D.py, PyData.eqv, D.eqv, D.flat, b2i]
  | n, m, .str _, y, hx, hy => by cases y <;> simp_all [D.py, PyData.eqv, D.eqv, D.flat, toS_beq]
  | n, m, .tup xs, y, hx, hy => by
    cases y with
    | tup ys =>
      cases n with
      | zero => simp [D.flat] at hx
      | succ n =>
        cases m with
        | zero => simp [D.flat] at hy
        | succ m =>
          simp only [D.flat] at hx hy
          simp only [D.py, PyData.eqv, D.eqv]
          exact D.eqvs_py n m xs ys hx hy
    | _ => simp_all [D.py, PyData.eqv, D.eqv, D.flat]
  | n, m, .ref _, y, hx, hy => by simp [D.flat] at hx
  | n, m, .fn _, y, hx, hy => by simp [D.flat] at hx
  | n, m, .lit _, y, hx, hy => by simp [D.flat] at hx
theorem D.eqvs_py : ∀ (n m : Nat) (x y : List D), D.flats n x = true → D.flats m y = true → PyData.eqvAll (D.pys x) (D.pys y) = D.eqvs x y
  | n, m, [], y, hx, hy => by cases y <;> simp_all [D.pys, PyData.eqvAll, D.eqvs]
  | n, m, a :: r, y, hx, hy => by
    cases y with
    | nil => simp_all [D.pys, PyData.eqvAll, D.eqvs]
    | cons b s =>
      simp only [D.flats, Bool.and_eq_true] at hx hy
      simp only [D.pys, PyData.eqvAll, D.eqvs, D.eqv_py n m a b hx.1 hy.1, D.eqvs_py n m r s hx.2 hy.2]
end
mutual
theorem D.lay_py : ∀ (n : Nat) (x : D), D.flat n x = true → (D.py x).canLay0 = true ∧ (D.py x).depth ≤ n
  | n, .non, hx => by simp [D.py, PyData.canLay0, PyData.depth]
  | n, .bl _, hx => by simp [D.py, PyData.canLay0, PyData.depth]
  | n, .int _, hx => by simp [D.py, PyData.canLay0, PyData.depth]
  | n, .str x, hx => by
    simp only [D.flat] at hx
    simp only [D.py, PyData.canLay0, PyData.depth]
    refine ⟨?_, Nat.zero_le _⟩
    unfold PyData.strOk toS
    simpa using hx
  | n, .tup xs, hx => by
    cases n with
    | zero => simp [D.flat] at hx
    | succ n =>
      simp only [D.flat] at hx
      obtain ⟨h1, h2⟩ := D.lays_py n xs hx
      simp only [D.py, PyData.canLay0, PyData.depth]
      exact ⟨h1, by omega⟩
  | n, .ref _, hx => by simp [D.flat] at hx
  | n, .fn _, hx => by simp [D.flat] at hx
  | n, .lit _, hx => by simp [D.flat] at hx
theorem D.lays_py : ∀ (n : Nat) (x : List D), D.flats n x = true → PyData.canLayAll0 (D.pys x) = true ∧ PyData.depthAll (D.pys x) ≤ n
  | n, [], hx => by simp [D.pys, PyData.canLayAll0, PyData.depthAll]
  | n, a :: r, hx => by
    simp only [D.flats, Bool.and_eq_true] at hx
    obtain ⟨h1, h2⟩ := D.lay_py n a hx.1
    obtain ⟨h3, h4⟩ := D.lays_py n r hx.2
    simp only [D.pys, PyData.canLayAll0, PyData.depthAll, h1, h3]
    exact ⟨rfl, by omega⟩
end
theorem D.shaped_py {n : Nat} {x : D} (h : D.flat n x = true) (hn : n ≤ 64) : SeqAt.shaped (D.py x) = true := by
  obtain ⟨h1, h2⟩ := D.lay_py n x h
  show ((D.py x).canLay0 && decide ((D.py x).depth ≤ 64)) = true
  rw [h1, decide_eq_true (by omega)]; rfl
theorem D.shaped_pys {n : Nat} {x : List D} (h : D.flats n x = true) (hn : n < 64) : SeqAt.shaped (.list (D.pys x)) = true := by
  obtain ⟨h1, h2⟩ := D.lays_py n x h
  show (PyData.canLay0 (.list (D.pys x)) && decide (PyData.depth (.list (D.pys x)) ≤ 64)) = true
  have h3 : PyData.depth (.list (D.pys x)) ≤ 64 := by
    simp only [PyData.depth]
    omega
  rw [decide_eq_true h3, Bool.and_true]
  simp only [PyData.canLay0, h1]
section
variable {K : PySem.W.Frag} {mg : Str → Option Value} {H H' : Hp} {ι ι' : List Addr} {S : Store}
mutual
theorem Rp.dp : ∀ {n : Nat} {v : V} {d : D}, Rp K mg H ι v d → D.flat n d = true → Dp K H v (D.py d)
  | _, _, .non, h, _ => by cases h; exact .non
  | _, _, .bl _, h, _ => by cases h; exact .bl _
  | _, _, .int _, h, _ => by cases h; exact .int _
  | _, _, .str _, h, _ => by cases h; exact .str _
  | n, _, .tup xs, h, f => by
    cases n with
    | zero => simp [D.flat] at f
    | succ n =>
      simp only [D.flat] at f
      cases h with
      | tup h1 h2 h3 => exact .tup h1 (Rps.dp h3 f)
  | _, _, .ref _, _, f => by simp [D.flat] at f
  | _, _, .fn _, _, f => by simp [D.flat] at f
  | _, _, .lit _, _, f => by simp [D.flat] at f
theorem Rps.dp : ∀ {n : Nat} {v : List V} {d : List D}, Rps K mg H ι v d → D.flats n d = true → DpAll K H v (D.pys d)
  | _, _, [], h, _ => by cases h; exact .nil
  | _, _, _ :: _, h, f => by
    simp only [D.flats, Bool.and_eq_true] at f
    cases h with
    | cons h1 h2 => exact .cons (Rp.dp h1 f.1) (Rps.dp h2 f.2)
end
theorem RS.listDp (r : RS K mg H ι S) {v : V} {n : Nat} {xs : List D} {k : Nat} (p : Rp K mg H ι v (.ref n)) (e : Dl.lstAt S n = some xs) (f : D.flats k xs = true) : Dp K H v (.list (D.pys xs)) := by
  obtain ⟨a, rfl, ha⟩ := p.ref_inv
  obtain ⟨vs, h1, h2⟩ := r.lstAt ha e
  exact .lst h1 (h2.dp f)
theorem Rp.sc_eq {x y : V} {dx dy : D} (px : Rp K mg H ι x dx) (py : Rp K mg H ι y dy) (h : D.scal dx dy = true) : scal x y = true ∧ decide (x = y) = decide (dx = dy) := by
  cases dx <;> cases dy <;> first
    | (exfalso; exact Bool.false_ne_true h)
    | (cases px; cases py; refine ⟨rfl, ?_⟩; simp [toS_inj])
theorem Rp.scV {x : V} {d : D} (p : Rp K mg H ι x d) (h : d.sc = true) : flatV x = true := by
  cases d <;> first | (exfalso; exact Bool.false_ne_true h) | (cases p; rfl)
theorem Rps.scV : ∀ {xs : List V} {ds : List D}, Rps K mg H ι xs ds → ds.all D.sc = true → xs.all flatV = true
  | _, [], h, _ => by cases h; rfl
  | _, d :: ds, h, f => by
    simp only [List.all_cons, Bool.and_eq_true] at f
    cases h with
    | cons h1 h2 => simp only [List.all_cons, h1.scV f.1, Rps.scV h2 f.2, Bool.and_self]
theorem Rp.eqV {x y : V} {dx dy : D} (px : Rp K mg H ι x dx) (py : Rp K mg H ι y dy) (h1 : dx.sc = true) (h2 : dy.sc = true) : eqV x y = D.eqv dx dy := by
  cases dx <;> cases dy <;> first
    | (exfalso; exact Bool.false_ne_true h1)
    | (exfalso; exact Bool.false_ne_true h2)
    | (cases px; cases py; simp [L2.eqV, D.eqv, b2i, toS_beq])
theorem Rps.inV {x : V} {d : D} (p : Rp K mg H ι x d) (hx : d.sc = true) : ∀ {xs : List V} {ds : List D}, Rps K mg H ι xs ds → ds.all D.sc = true → inV x xs = ds.any fun z => D.eqv z d
  | _, [], h, _ => by cases h; rfl
  | _, e :: ds, h, f => by
    simp only [List.all_cons, Bool.and_eq_true] at f
    cases h with
    | cons h1 h2 =>
      have := Rps.inV p hx h2 f.2
      unfold L2.inV at this ⊢
      simp only [List.any_cons, this, h1.eqV p f.1 hx]
theorem pys_any {d : D} {n : Nat} (hd : D.flat n d = true) {k : Nat} : ∀ {ds : List D}, D.flats k ds = true → ((D.pys ds).any fun z => PyData.eqv z (D.py d)) = ds.any fun z => D.eqv z d
  | [], _ => rfl
  | e :: ds, f => by
    simp only [D.flats, Bool.and_eq_true] at f
    simp only [D.pys, List.any_cons, pys_any hd f.2, D.eqv_py k n e d f.1 hd]
end
section
variable {X : Cx} {W : WX} {e a b c : Expr} {es : List Expr} {m m' : EM} {ms : List EM} {pos : Pos}
def rEqA (K : PySem.W.Frag) : R2 := fun x y H Q => rEq x y H Q ∨ rEqD K x y H Q
theorem op_eqA (hu : X.A.units + 64 < cLine) : OpR X (compareOp .Eq) (rEqA X.K) := op_eq.or (op_eqD hu)
def rNeA (K : PySem.W.Frag) : R2 := fun x y H Q => rNe x y H Q ∨ rNeD K x y H Q
theorem op_neA (hu : X.A.units + 64 < cLine) : OpR X (compareOp .NotEq) (rNeA X.K) := op_ne.or (op_neD hu)
/-- what eqP tells: its bool, the store is kept -/
theorem eqP_cases {K : PySem.W.Frag} {mg : Str → Option Value} {H : Hp} {ι : List Addr} {S S' : Store} {x y : V} {dx dy d : D} (r : RS K mg H ι S) (px : Rp K mg H ι x dx) (py : Rp K mg H ι y dy) (e : eqP [dx, dy] S = .ok d S') :
    S' = S ∧ ∃ b, d = .bl b ∧ ((scal x y = true ∧ decide (x = y) = b) ∨ ∃ p q, Dp K H x p ∧ Dp K H y q ∧ SeqAt.shaped p = true ∧ SeqAt.shaped q = true ∧ PyData.eqv p q = b) := by
  unfold eqP at e
  simp only at e
  split at e
  · rename_i h
    cases e
    obtain ⟨h1, h2⟩ := px.sc_eq py h
    exact ⟨rfl, _, rfl, .inl ⟨h1, h2⟩⟩
  · split at e
    · rename_i n m _
      split at e
      · rename_i xs ys e1 e2
        obtain ⟨hc, rfl, rfl⟩ := ite_ok e
        rw [Bool.and_eq_true] at hc
        refine ⟨rfl, _, rfl, .inr ⟨_, _, r.listDp px e1 hc.1, r.listDp py e2 hc.2, D.shaped_pys hc.1 (by decide), D.shaped_pys hc.2 (by decide), ?_⟩⟩
        simp only [PyData.eqv]
        exact D.eqvs_py _ _ _ _ hc.1 hc.2
      · cases e
    · obtain ⟨hc, rfl, rfl⟩ := ite_ok e
      rw [Bool.and_eq_true] at hc
      exact ⟨rfl, _, rfl, .inr ⟨_, _, px.dp hc.1, py.dp hc.2, D.shaped_py hc.1 (by decide), D.shaped_py hc.2 (by decide), D.eqv_py _ _ _ _ hc.1 hc.2⟩⟩
theorem eqP_nox (ds : List D) (S : Store) (x : Exc) (S' : Store) : eqP ds S ≠ .exc x S' := fun z => by
  unfold eqP at z
  repeat (first | cases z | exact ite_exc z | split at z)
theorem sim_eq {K : PySem.W.Frag} {mg : Str → Option Value} : Sim2 K mg (rEqA K) eqP where
  run := fun x y dx dy H S ι d S' Q r px py e h => by
    obtain ⟨rfl, b, rfl, q⟩ := eqP_cases r px py e
    have hb := h _ H ι .refl r (.bl b)
    rcases q with ⟨h1, h2⟩ | ⟨p, q, h1, h2, h3, h4, h5⟩
    · exact .inl ⟨h1, by rw [h2]; exact hb⟩
    · exact .inr ⟨p, q, h1, h2, h3, h4, by rw [h5]; exact hb⟩
  nox := eqP_nox
theorem sim_ne {K : PySem.W.Frag} {mg : Str → Option Value} : Sim2 K mg (rNeA K) neP where
  run := fun x y dx dy H S ι d S' Q r px py e h => by
    obtain ⟨d1, S1, e1, e2⟩ := bind_inv e
    obtain ⟨rfl, b, rfl, q⟩ := eqP_cases r px py e1
    cases e2
    have hb := h _ H ι .refl r (.bl (!b))
    rcases q with ⟨h1, h2⟩ | ⟨p, q, h1, h2, h3, h4, h5⟩
    · exact .inl ⟨h1, by rw [h2]; exact hb⟩
    · exact .inr ⟨p, q, h1, h2, h3, h4, by rw [h5]; exact hb⟩
  nox := fun ds S x S' z => by
    unfold neP notR at z
    cases e : eqP ds S with
    | ok d S1 =>
      rw [e] at z
      simp only [Res.bind_ok] at z
      split at z <;> cases z
    | exc y S1 => exact eqP_nox _ _ _ _ e
    | stuck => rw [e] at z; cases z
/-! in -/
def rInA (K : PySem.W.Frag) : R2 := fun x y H Q => rIn K false x y H Q ∨ rInD K x y H Q ∨ (∃ c z, x = .str ⟨#[c]⟩ ∧ y = .str z ∧ Q (.bl (decide (c ∈ z.cps.toList))) H)
def rNotInA (K : PySem.W.Frag) : R2 := fun x y H Q => rIn K true x y H Q ∨ rNotInD K x y H Q ∨ (∃ c z, x = .str ⟨#[c]⟩ ∧ y = .str z ∧ Q (.bl (!decide (c ∈ z.cps.toList))) H)
theorem inP_cases {K : PySem.W.Frag} {mg : Str → Option Value} {H : Hp} {ι : List Addr} {S S' : Store} {x y : V} {dx dy d : D} (r : RS K mg H ι S) (px : Rp K mg H ι x dx) (py : Rp K mg H ι y dy) (e : inP [dx, dy] S = .ok d S') :
    S' = S ∧ ∃ b, d = .bl b ∧ ((∃ p xs, y = .ref p ∧ (SqL K H p xs ∨ SqT K H p xs) ∧ flatV x = true ∧ xs.all flatV = true ∧ inV x xs = b) ∨
      (∃ p q, Dp K H x p ∧ Dp K H y (.list q) ∧ SeqAt.shaped p = true ∧ SeqAt.shaped (.list q) = true ∧ (q.any fun z => PyData.eqv z p) = b) ∨ ∃ c z, x = .str ⟨#[c]⟩ ∧ y = .str z ∧ decide (c ∈ z.cps.toList) = b) := by
  unfold inP at e
  split at e
  · rename_i x' n q
    cases q
    split at e
    · rename_i ys e1
      obtain ⟨hc, rfl, rfl⟩ := ite_ok e
      refine ⟨rfl, _, rfl, ?_⟩
      obtain ⟨a, rfl, ha⟩ := py.ref_inv
      obtain ⟨vs, h1, h2⟩ := r.lstAt ha e1
      rcases Bool.or_eq_true _ _ ▸ hc with hc | hc
      · rw [Bool.and_eq_true] at hc
        exact .inl ⟨a, vs, rfl, .inl h1, px.scV hc.1, h2.scV hc.2, Rps.inV px hc.1 h2 hc.2⟩
      · rw [Bool.and_eq_true] at hc
        exact .inr (.inl ⟨_, _, px.dp hc.1, .lst h1 (h2.dp hc.2), D.shaped_py hc.1 (by decide), D.shaped_pys hc.2 (by decide), pys_any hc.1 hc.2⟩)
    · cases e
  · rename_i x' ys q
    cases q
    obtain ⟨hc, rfl, rfl⟩ := ite_ok e
    rw [Bool.and_eq_true] at hc
    obtain ⟨a, vs, rfl, h1, _, h2⟩ := py.tup_inv
    exact ⟨rfl, _, rfl, .inl ⟨a, vs, rfl, .inr h1, px.scV hc.1, h2.scV hc.2, Rps.inV px hc.1 h2 hc.2⟩⟩
  · rename_i c ys q
    cases q; cases e; cases px; cases py
    exact ⟨rfl, _, rfl, .inr (.inr ⟨c, _, rfl, rfl, by rw [toS_list]⟩)⟩
  · cases e
theorem inP_nox (ds : List D) (S : Store) (x : Exc) (S' : Store) : inP ds S ≠ .exc x S' := fun z => by
  unfold inP at z
  repeat (first | cases z | exact ite_exc z | split at z)
theorem op_in1 : OpR X (compareOp .In) (fun x y H Q => ∃ c z, x = .str ⟨#[c]⟩ ∧ y = .str z ∧ Q (.bl (decide (c ∈ z.cps.toList))) H) := by
  intro pins s σ H x y v u Q I rx ry h
  obtain ⟨c, z, rfl, rfl, q⟩ := h
  exact op_in_sign pins s σ H _ _ v u Q I rx ry ⟨c, z, rfl, rfl, q⟩
theorem op_notIn1 : OpR X (compareOp .NotIn) (fun x y H Q => ∃ c z, x = .str ⟨#[c]⟩ ∧ y = .str z ∧ Q (.bl (!decide (c ∈ z.cps.toList))) H) := by
  intro pins s σ H x y v u Q I rx ry h
  obtain ⟨c, z, rfl, rfl, q⟩ := h
  exact op_notIn_sign pins s σ H _ _ v u Q I rx ry ⟨c, z, rfl, rfl, q⟩
theorem op_inA (hu : X.A.units + 65 < cLine) : OpR X (compareOp .In) (rInA X.K) := op_in_seq.or ((op_inD hu).or op_in1)
theorem op_notInA (hu : X.A.units + 65 < cLine) : OpR X (compareOp .NotIn) (rNotInA X.K) := op_notIn_seq.or ((op_notInD hu).or op_notIn1)
theorem sim_in {K : PySem.W.Frag} {mg : Str → Option Value} : Sim2 K mg (rInA K) inP where
  run := fun x y dx dy H S ι d S' Q r px py e h => by
    obtain ⟨rfl, b, rfl, q⟩ := inP_cases r px py e
    have hb := h _ H ι .refl r (.bl b)
    rcases q with ⟨p, xs, h1, h2, h3, h4, h5⟩ | ⟨p, q, h1, h2, h3, h4, h5⟩ | ⟨c, z, h1, h2, h3⟩
    · exact .inl ⟨p, xs, h1, h2, h3, h4, by rw [h5]; exact hb⟩
    · exact .inr (.inl ⟨p, q, h1, h2, h3, h4, by rw [h5]; exact hb⟩)
    · exact .inr (.inr ⟨c, z, h1, h2, by rw [h3]; exact hb⟩)
  nox := inP_nox
theorem sim_notIn {K : PySem.W.Frag} {mg : Str → Option Value} : Sim2 K mg (rNotInA K) notInP where
  run := fun x y dx dy H S ι d S' Q r px py e h => by
    obtain ⟨d1, S1, e1, e2⟩ := bind_inv e
    obtain ⟨rfl, b, rfl, q⟩ := inP_cases r px py e1
    cases e2
    have hb := h _ H ι .refl r (.bl (!b))
    rcases q with ⟨p, xs, h1, h2, h3, h4, h5⟩ | ⟨p, q, h1, h2, h3, h4, h5⟩ | ⟨c, z, h1, h2, h3⟩
    · exact .inl ⟨p, xs, h1, h2, h3, h4, by simp only [if_true]; rw [h5]; exact hb⟩
    · exact .inr (.inl ⟨p, q, h1, h2, h3, h4, by rw [h5]; exact hb⟩)
    · exact .inr (.inr ⟨c, z, h1, h2, by rw [h3]; exact hb⟩)
  nox := fun ds S x S' z => by
    unfold notInP notR at z
    cases e : inP ds S with
    | ok d S1 =>
      rw [e] at z
      simp only [Res.bind_ok] at z
      split at z <;> cases z
    | exc y S1 => exact inP_nox _ _ _ _ e
    | stuck => rw [e] at z; cases z
/-! the other orders -/
theorem sim_gt {K : PySem.W.Frag} {mg : Str → Option Value} : Sim2 K mg (fun x y H Q => (rI0 fun i j => .bl (decide (j < i))) x y H Q ∨ (∃ i j, x = .str i ∧ y = .str j ∧ Q (.bl (decide (j.cps.toList < i.cps.toList))) H)) gtP := by
  refine ⟨fun x y dx dy H S ι d S' Q r px py e h => ?_, fun ds S x S' z => ?_⟩
  · unfold gtP at e
    split at e
    · rename_i i j q
      cases q; cases e; cases px; cases py
      exact .inl ⟨_, _, rfl, rfl, h _ H ι .refl r (.bl _)⟩
    · rename_i i j q
      cases q; cases e; cases px; cases py
      refine .inr ⟨_, _, rfl, rfl, ?_⟩
      rw [toS_list, toS_list]
      exact h _ H ι .refl r (.bl _)
    · cases e
  · unfold gtP at z
    split at z <;> cases z
theorem sim_ge {K : PySem.W.Frag} {mg : Str → Option Value} : Sim2 K mg (fun x y H Q => (rI0 fun i j => .bl (decide (j ≤ i))) x y H Q ∨ (∃ i j, x = .str i ∧ y = .str j ∧ Q (.bl (!decide (i.cps.toList < j.cps.toList))) H)) geP := by
  refine ⟨fun x y dx dy H S ι d S' Q r px py e h => ?_, fun ds S x S' z => ?_⟩
  · unfold geP at e
    split at e
    · rename_i i j q
      cases q; cases e; cases px; cases py
      exact .inl ⟨_, _, rfl, rfl, h _ H ι .refl r (.bl _)⟩
    · rename_i i j q
      cases q; cases e; cases px; cases py
      refine .inr ⟨_, _, rfl, rfl, ?_⟩
      rw [toS_list, toS_list]
      exact h _ H ι .refl r (.bl _)
    · cases e
  · unfold geP at z
    split at z <;> cases z
theorem sim_le {K : PySem.W.Frag} {mg : Str → Option Value} : Sim2 K mg (fun x y H Q => (rI0 fun i j => .bl (decide (i ≤ j))) x y H Q ∨ (∃ i j, x = .str i ∧ y = .str j ∧ Q (.bl (!decide (j.cps.toList < i.cps.toList))) H)) leP := by
  refine ⟨fun x y dx dy H S ι d S' Q r px py e h => ?_, fun ds S x S' z => ?_⟩
  · unfold leP at e
    split at e
    · rename_i i j q
      cases q; cases e; cases px; cases py
      exact .inl ⟨_, _, rfl, rfl, h _ H ι .refl r (.bl _)⟩
    · rename_i i j q
      cases q; cases e; cases px; cases py
      refine .inr ⟨_, _, rfl, rfl, ?_⟩
      rw [toS_list, toS_list]
      exact h _ H ι .refl r (.bl _)
    · cases e
  · unfold leP at z
    split at z <;> cases z
end
end Dl

end

section
set_option linter.all false
set_option Elab.async false
set_option maxRecDepth 100000
set_option Elab.async false
set_option linter.all false
set_option maxRecDepth 100000
set_option maxHeartbeats 4000000
namespace Dl
open PySem PySem.Spec PyProof.Rows L2

section
variable {X : Cx} {W : WX} {e a b c : Expr} {es : List Expr} {m m' : EM} {ms : List EM} {pos : Pos} {k : Nat}
theorem hu64 (hr : Room k X.A) : X.A.units + 64 < cLine := hr.units
theorem hu65 (hr : Room k X.A) : X.A.units + 65 < cLine := by have := hr.un; omega
theorem se_eq (hr : Room k X.A) (ha : SE X W a m) (hb : SE X W b m') : SE X W (.Compare a [.Eq] [b] pos) (callM eqP [m, m']) := se_cmp (op_eqA (hu64 hr)) sim_eq ha hb (nomark _)
theorem st_eq (hr : Room k X.A) (ha : SE X W a m) (hb : SE X W b m') : ST X W (.Compare a [.Eq] [b] pos) (tbM (callM eqP [m, m'])) := st_cmp (op_eqA (hu64 hr)) sim_eq ha hb (nomark _)
theorem se_ne (hr : Room k X.A) (ha : SE X W a m) (hb : SE X W b m') : SE X W (.Compare a [.NotEq] [b] pos) (callM neP [m, m']) := se_cmp (op_neA (hu64 hr)) sim_ne ha hb (nomark _)
theorem st_ne (hr : Room k X.A) (ha : SE X W a m) (hb : SE X W b m') : ST X W (.Compare a [.NotEq] [b] pos) (tbM (callM neP [m, m'])) := st_cmp (op_neA (hu64 hr)) sim_ne ha hb (nomark _)
theorem se_in (hr : Room k X.A) (ha : SE X W a m) (hb : SE X W b m') (hm : behindInMarks .In b = false := by rfl) : SE X W (.Compare a [.In] [b] pos) (callM inP [m, m']) := se_cmp (op_inA (hu65 hr)) sim_in ha hb hm
theorem st_in (hr : Room k X.A) (ha : SE X W a m) (hb : SE X W b m') (hm : behindInMarks .In b = false := by rfl) : ST X W (.Compare a [.In] [b] pos) (tbM (callM inP [m, m'])) := st_cmp (op_inA (hu65 hr)) sim_in ha hb hm
theorem se_notIn (hr : Room k X.A) (ha : SE X W a m) (hb : SE X W b m') (hm : behindInMarks .NotIn b = false := by rfl) : SE X W (.Compare a [.NotIn] [b] pos) (callM notInP [m, m']) := se_cmp (op_notInA (hu65 hr)) sim_notIn ha hb hm
theorem st_notIn (hr : Room k X.A) (ha : SE X W a m) (hb : SE X W b m') (hm : behindInMarks .NotIn b = false := by rfl) : ST X W (.Compare a [.NotIn] [b] pos) (tbM (callM notInP [m, m'])) := st_cmp (op_notInA (hu65 hr)) sim_notIn ha hb hm
theorem se_lt (ha : SE X W a m) (hb : SE X W b m') : SE X W (.Compare a [.Lt] [b] pos) (callM ltP [m, m']) := se_cmp (op_lt.or op_lt_str) sim_lt ha hb (nomark _)
theorem st_lt (ha : SE X W a m) (hb : SE X W b m') : ST X W (.Compare a [.Lt] [b] pos) (tbM (callM ltP [m, m'])) := st_cmp (op_lt.or op_lt_str) sim_lt ha hb (nomark _)
theorem se_le (ha : SE X W a m) (hb : SE X W b m') : SE X W (.Compare a [.LtE] [b] pos) (callM leP [m, m']) := se_cmp (op_le.or op_le_str) sim_le ha hb (nomark _)
theorem st_le (ha : SE X W a m) (hb : SE X W b m') : ST X W (.Compare a [.LtE] [b] pos) (tbM (callM leP [m, m'])) := st_cmp (op_le.or op_le_str) sim_le ha hb (nomark _)
theorem se_gt (ha : SE X W a m) (hb : SE X W b m') : SE X W (.Compare a [.Gt] [b] pos) (callM gtP [m, m']) := se_cmp (op_gt.or op_gt_str) sim_gt ha hb (nomark _)
theorem st_gt (ha : SE X W a m) (hb : SE X W b m') : ST X W (.Compare a [.Gt] [b] pos) (tbM (callM gtP [m, m'])) := st_cmp (op_gt.or op_gt_str) sim_gt ha hb (nomark _)
theorem se_ge (ha : SE X W a m) (hb : SE X W b m') : SE X W (.Compare a [.GtE] [b] pos) (callM geP [m, m']) := se_cmp (op_ge.or op_ge_str) sim_ge ha hb (nomark _)
theorem st_ge (ha : SE X W a m) (hb : SE X W b m') : ST X W (.Compare a [.GtE] [b] pos) (tbM (callM geP [m, m'])) := st_cmp (op_ge.or op_ge_str) sim_ge ha hb (nomark _)
theorem Rp.non_iff {K : PySem.W.Frag} {mg : Str → Option Value} {H : Hp} {ι : List Addr} {v : V} {d : D} (p : Rp K mg H ι v d) : decide (v = .non) = decide (d = .non) := by
  cases p <;> simp
theorem call1 {K : PySem.W.Frag} {mg : Str → Option Value} {σ : L2.St} {H : Hp} {Q : VK} {p : FM} (h : cE K mg W (callM p [m]) σ H Q) (r : V → Hp → VK → Prop)
    (s : ∀ v d H ι S Q, RS K mg H ι S → Rp K mg H ι v d → PostE K mg W σ H ι (p [d] S) Q → r v H Q) : cE K mg W m σ H (fun v H1 => r v H1 Q) := by
  obtain ⟨δ, S, ι, rl, h⟩ := h
  refine ⟨δ, S, ι, rl, ?_⟩
  have h : PostE K mg W σ H ι (((m δ S).bind fun d S1 => .ok [d] S1).bind p) Q := h
  cases e1 : m δ S with
  | ok d S1 =>
    rw [e1] at h
    intro v H' ι' g r1 p1
    exact s v d H' ι' S1 Q r1 p1 (PostE.back g h)
  | exc x S1 => rw [e1] at h; exact h
  | stuck => rw [e1] at h; exact h
theorem se_isN {j pos'} (ha : SE X W a m) : SE X W (.Compare a [.Is] [.Constant .none j pos'] pos) (callM isNonP [m]) :=
  pe_imp (pe_cmp (pc_isN ha)) fun σ H Q h => call1 h (fun v H Q => Q (.bl (decide (v = .non))) H) fun v d H ι S Q r p h => by
    rw [p.non_iff]
    exact h _ H ι .refl r (.bl _)
theorem se_notN {j pos'} (ha : SE X W a m) : SE X W (.Compare a [.IsNot] [.Constant .none j pos'] pos) (callM notNonP [m]) :=
  pe_imp (pe_cmp (pc_notN ha)) fun σ H Q h => call1 h (fun v H Q => Q (.bl (!decide (v = .non))) H) fun v d H ι S Q r p h => by
    rw [p.non_iff]
    exact h _ H ι .refl r (.bl _)
theorem st_isN {j pos'} (ha : SE X W a m) : ST X W (.Compare a [.Is] [.Constant .none j pos'] pos) (tbM (callM isNonP [m])) := by
  refine pt_imp (pt_cmp (pc_isN ha)) fun σ H Q h => tbT (fun h => ?_) h
  exact call1 h (fun v H Q => Q (.bl (decide (v = .non))) H) fun v d H ι S Q r p h => by
    rw [p.non_iff]
    exact h _ H ι .refl r (.bl _)
theorem st_notN {j pos'} (ha : SE X W a m) : ST X W (.Compare a [.IsNot] [.Constant .none j pos'] pos) (tbM (callM notNonP [m])) := by
  refine pt_imp (pt_cmp (pc_notN ha)) fun σ H Q h => tbT (fun h => ?_) h
  exact call1 h (fun v H Q => Q (.bl (!decide (v = .non))) H) fun v d H ι S Q r p h => by
    rw [p.non_iff]
    exact h _ H ι .refl r (.bl _)

/-! ### items -/
theorem Rps.atI {K : PySem.W.Frag} {mg : Str → Option Value} {H : Hp} {ι : List Addr} {vs : List V} {ds : List D} {i : Int} {d : D} (h : Rps K mg H ι vs ds) (e : Dl.atI ds i = some d) : ∃ v, L2.atI vs i = some v ∧ Rp K mg H ι v d := by
  unfold Dl.atI at e
  cases e1 : Dl.ixN ds.length i with
  | none => rw [e1] at e; cases e
  | some j =>
    rw [e1] at e
    obtain ⟨v, q1, q2⟩ := h.get (i := j) (d := d) e
    refine ⟨v, ?_, q2⟩
    unfold L2.atI
    have : L2.ixN vs.length i = some j := by rw [h.length]; exact e1
    rw [this]; exact q1
theorem sim_ix {K : PySem.W.Frag} {mg : Str → Option Value} : Sim2 K mg (rIx K) ixP where
  run := fun x y dx dy H S ι d S' Q r px py e h => by
    unfold ixP at e
    split at e
    · rename_i n i q
      cases q
      split at e
      · rename_i xs e1
        split at e
        · rename_i z e2
          cases e
          obtain ⟨a, rfl, ha⟩ := px.ref_inv
          obtain ⟨vs, h1, h2⟩ := r.lstAt ha e1
          obtain ⟨v, h3, h4⟩ := h2.atI e2
          cases py
          exact .inl ⟨a, vs, i, v, rfl, rfl, h1, h3, h v H ι .refl r h4⟩
        · cases e
      · cases e
    · rename_i xs i q
      cases q
      split at e
      · rename_i z e2
        cases e
        obtain ⟨a, vs, rfl, h1, _, h2⟩ := px.tup_inv
        obtain ⟨v, h3, h4⟩ := h2.atI e2
        cases py
        exact .inr (.inl ⟨a, vs, i, v, rfl, rfl, h1, h3, h v H ι .refl r h4⟩)
      · cases e
    · rename_i xs i q
      cases q
      split at e
      · rename_i z e2
        cases e
        obtain ⟨a, vs, rfl, h1, _, h2⟩ := px.lit_inv
        obtain ⟨v, h3, h4⟩ := h2.atI e2
        cases py
        exact .inl ⟨a, vs, i, v, rfl, rfl, h1, h3, h v H ι .refl r h4⟩
      · cases e
    · rename_i xs i q
      cases q
      split at e
      · rename_i hl
        split at e
        · rename_i z e2
          cases e; cases px; cases py
          refine .inr (.inr ⟨_, i, z, rfl, rfl, by rw [toS_length, ← LIM_eq]; exact hl, ?_, h _ H ι .refl r (.str [z])⟩)
          rw [toS_list]; exact e2
        · cases e
      · cases e
    · cases e
  nox := fun ds S x S' z => by
    unfold ixP at z
    repeat (first | cases z | exact ite_exc z | split at z)
theorem se_ix (ha : SE X W a m) (hb : SE X W b m') (hs : PlainIx b := by exact fun _ _ => rfl) : SE X W (.Subscript a b pos) (callM ixP [m, m']) :=
  pe_imp (pe_ix ix_seq ha hb hs) fun _ _ _ h => opN sim_ix h

/-! ### slices -/
theorem Rps.cut {K : PySem.W.Frag} {mg : Str → Option Value} {H : Hp} {ι : List Addr} {vs : List V} {ds : List D} (lo hi : Option Int) (h : Rps K mg H ι vs ds) : Rps K mg H ι (cutV vs lo hi) (Dl.cut ds lo hi) := by
  unfold cutV Dl.cut
  rw [h.length]
  exact (h.drop _).take _
abbrev SO (X : Cx) (W : WX) (e : Option Expr) (m : Option EM) : Prop := PO X e (fun σ H Q => ∃ δ S ι, Rel X.K X.mg H ι σ δ S ∧ match optI m δ S with
  | .ok o S' => ∀ H' ι', Grow X.K H ι H' ι' → RS X.K X.mg H' ι' S' → Q o H'
  | .exc e S' => ∀ cls dx H' ι', Grow X.K H ι H' ι' → RS X.K X.mg H' ι' S' → RX X.K X.mg H' ι' e cls dx → W cls dx σ H'
  | .stuck => False)
theorem po_imp {e : Option Expr} {t t' : TO} (h : PO X e t) (i : ∀ σ H Q, t' σ H Q → t σ H Q) : PO X e t' := ⟨fun pins s σ H Q I hw => h.run pins s σ H Q I (i _ _ _ hw)⟩
theorem so_none : SO X W none none := po_imp po_none fun σ H Q h => by
  obtain ⟨δ, S, ι, r, h⟩ := h
  exact h H ι .refl r.sto
theorem so_some (h : SE X W e m) : SO X W (some e) (some m) := po_imp (po_some h) fun σ H Q h => by
  obtain ⟨δ, S, ι, r, h⟩ := h
  refine ⟨δ, S, ι, r, ?_⟩
  unfold optI at h
  cases e1 : m δ S with
  | ok d S1 =>
    simp only [e1, Res.bind_ok] at h
    intro v H' ι' g r1 p1
    cases d with
    | int i => cases p1; exact ⟨i, rfl, h H' ι' g r1⟩
    | _ => exact h.elim
  | exc x S1 => simp only [e1, Res.bind_exc] at h; exact h
  | stuck => simp only [e1, Res.bind_stuck] at h
def rSlAll (K : PySem.W.Frag) : V → Option Int → Option Int → Hp → VK → Prop := fun x lo hi H Q => rSlL K x lo hi H Q ∨ rSlA K x lo hi H Q ∨ rSlS x lo hi H Q
theorem sl_all : SlR X (rSlAll X.K) := sl_list.or (sl_tupA.or sl_str)
theorem cut_whole {ds : List D} {lo hi : Option Int} (h : HT.sIx ds.length 0 lo = 0 ∧ HT.sIx ds.length ds.length hi = ds.length) : Dl.cut ds lo hi = ds := by
  have h1 : Dl.sIx ds.length 0 lo = 0 := h.1
  have h2 : Dl.sIx ds.length ds.length hi = ds.length := h.2
  unfold Dl.cut
  rw [h1, h2]; simp
theorem se_slice {lo hi : Option Expr} {ml mh : Option EM} {p2} (he : SE X W e m) (hl : SO X W lo ml) (hu : SO X W hi mh) : SE X W (.Subscript e (.Slice lo hi none p2) pos) (sliceM m ml mh) := by
  refine pe_imp (pe_slice sl_all he hl hu) fun σ H Q h => ?_
  obtain ⟨δ, S, ι, rl, h⟩ := h
  refine ⟨δ, S, ι, rl, PostE.seq h fun v H1 ι1 d S1 _ g1 r1 p1 h1 => ?_⟩
  refine ⟨δ, S1, ι1, rl.mono g1 r1, ?_⟩
  cases e1 : optI ml δ S1 with
  | stuck => rw [e1] at h1; exact h1
  | exc x S2 => rw [e1] at h1; exact h1
  | ok l S2 =>
    rw [e1] at h1
    intro H2 ι2 g2 r2
    refine ⟨δ, S2, ι2, rl.mono (g1.trans g2) r2, ?_⟩
    have h1 := PostE.back g2 h1
    simp only [Res.bind_ok] at h1
    cases e2 : optI mh δ S2 with
    | stuck => rw [e2] at h1; exact h1
    | exc x S3 => rw [e2] at h1; exact h1
    | ok u S3 =>
      rw [e2] at h1
      intro H3 ι3 g3 r3
      have h1 := PostE.back g3 h1
      simp only [Res.bind_ok] at h1
      have p3 := p1.mono (g2.trans g3)
      unfold sliceP at h1
      split at h1
      · rename_i n
        split at h1
        · rename_i xs e3
          obtain ⟨a, rfl, ha⟩ := p3.ref_inv
          obtain ⟨vs, q1, q2⟩ := r3.lstAt ha e3
          refine .inl ⟨a, vs, rfl, q1, fun p hp => ?_⟩
          obtain ⟨g, r', q'⟩ := r3.newL hp (q2.cut l u)
          exact h1 _ _ _ g r' q'
        · exact h1.elim
      · rename_i xs
        obtain ⟨a, vs, rfl, q1, q2, q3⟩ := p3.tup_inv
        refine .inr (.inl ⟨a, vs, rfl, q1, fun hw => ?_, fun _ p hp => ?_⟩)
        · rw [q3.length] at hw
          rw [cut_whole hw] at h1
          exact h1 _ H3 ι3 .refl r3 (.tup q1 q2 q3)
        · obtain ⟨g, r', q'⟩ := r3.mkT hp (ws := cutV vs l u) (Nat.le_trans (cutV_length vs l u) q2) (q3.cut l u)
          exact h1 _ _ _ g r' q'
      · rename_i xs
        obtain ⟨a, vs, rfl, q1, q2, q3⟩ := p3.lit_inv
        refine .inl ⟨a, vs, rfl, q1, fun p hp => ?_⟩
        obtain ⟨g, r', q'⟩ := r3.newL hp (q3.cut l u)
        exact h1 _ _ _ g r' q'
      · rename_i xs _ _ _
        split at h1
        · rename_i hz
          cases p3
          refine .inr (.inr ⟨_, rfl, by rw [toS_length, ← LIM_eq]; exact hz, ?_⟩)
          have : cutS (toS xs) l u = toS (Dl.cut xs l u) := by
            unfold cutS Dl.cut
            rw [toS_list, toS_length]; rfl
          rw [this]
          exact h1 _ H3 ι3 .refl r3 (.str _)
        · exact h1.elim
      · exact h1.elim
end
end Dl

end

section
set_option linter.all false
set_option Elab.async false
set_option maxRecDepth 100000
set_option Elab.async false
set_option linter.all false
set_option maxRecDepth 100000
set_option maxHeartbeats 4000000
namespace Dl
open PySem PySem.Spec PyProof.Rows L2

/-! ### defs -/
def PostC (K : PySem.W.Frag) (mg : Str → Option Value) (H : Hp) (ι : List Addr) (r : Res D) (Q : VK) (E : XK) : Prop := match r with
  | .ok d S' => ∀ v H' ι', Grow K H ι H' ι' → RS K mg H' ι' S' → Rp K mg H' ι' v d → Q v H'
  | .exc e S' => ∀ cls dx H' ι', Grow K H ι H' ι' → RS K mg H' ι' S' → RX K mg H' ι' e cls dx → E cls dx H'
  | .stuck => False
/-- what a def that does as F promises -/
def spOf (K : PySem.W.Frag) (mg : Str → Option Value) (F : FM) (n : Nat) : Sp := fun vs H Q E => vs.length = n ∧ ∃ ds S ι, RS K mg H ι S ∧ Rps K mg H ι vs ds ∧ PostC K mg H ι (F ds S) Q E
/-- the def x of the module does as F, at most lv calls deep -/
structure FT (P : Program) (w : World) (K : PySem.W.Frag) (mg : Str → Option Value) (base : Heap) (lv : Nat) (x : String) (F : FM) (n : Nat) : Prop where
  ex : ∃ (f : Addr) (fd : FuncData) (ps : List Str), FnOk P w K mg base (L2.CX P w) lv f fd ps (spOf K mg F n) ∧ mg (Str.ofString x) = some (.ref f) ∧ PySem.W.keepIn K (.ref f) = true ∧ Binds K fd ps []
section
variable {X : Cx} {W : WX} {e o a b c : Expr} {es : List Expr} {m m' : EM} {ms : List EM} {p pos apos : Pos} {k n lv : Nat} {F : FM} {x : Str}
theorem callF {K : PySem.W.Frag} {mg : Str → Option Value} {σ : L2.St} {H : Hp} {Q : VK} (hn : ms.length = n) (h : cE K mg W (callM F ms) σ H Q) : tCallS (spOf K mg F n) (WE W) (cA K mg W (argsM ms)) σ H Q := by
  obtain ⟨δ, S, ι, rl, h⟩ := h
  refine ⟨δ, S, ι, rl, ?_⟩
  have h : PostE K mg W σ H ι ((argsM ms δ S).bind F) Q := h
  have ln : ∀ (ms : List EM) (S : Store) (ds : List D) (S1 : Store), argsM ms δ S = .ok ds S1 → ds.length = ms.length := by
    intro ms
    induction ms with
    | nil => intro S ds S1 e; cases e; rfl
    | cons m ms ih =>
      intro S ds S1 e
      obtain ⟨d, S2, e1, e2⟩ := bind_inv e
      obtain ⟨ds', S3, e3, e4⟩ := bind_inv e2
      cases e4
      simp [ih _ _ _ e3]
  refine PostA.seq h fun v H' ι' ds S1 e g r1 q hp => ⟨by rw [q.length, ln _ _ _ _ e, hn], ds, S1, ι', r1, q, ?_⟩
  cases e2 : F ds S1 with
  | ok d S' => rw [e2] at hp; exact hp
  | exc x S' => rw [e2] at hp; exact hp
  | stuck => rw [e2] at hp; exact hp.elim
theorem se_call (hr : Room k X.A) (tk : Takes X W) {y : String} (T : FT X.prog X.w X.K X.mg X.base lv y F n) (hk : lv ≤ k) (hx : x = Str.ofString y) (hg : Gl X x) (ha : SA X W (e :: es) ms) (hn : ms.length = n := by rfl) (hdb : (x == ("__debug__" : Str)) = false := by decide)
    (he : starEach (e :: es) X.env = (false, eval e X.env) :: starEach es X.env := by rfl) (hpl : (backTo pos (starEach es X.env)).any (·.1) = false := by rfl) : SE X W (.Call (.Name x p) (e :: es) [] pos) (callM F ms) := by
  subst hx
  obtain ⟨f, fd, ps, G, hm, hkp, hb⟩ := T.ex
  exact pe_imp (pe_callS G (hr.mono hk) hg hm hkp hb (fun σ => passAt tk σ) ha hdb he hpl) fun _ _ _ h => callF hn h
theorem se_call0 (hr : Room k X.A) (tk : Takes X W) {y : String} (T : FT X.prog X.w X.K X.mg X.base lv y F 0) (hk : lv ≤ k) (hx : x = Str.ofString y) (hg : Gl X x) (hdb : (x == ("__debug__" : Str)) = false := by decide) :
    SE X W (.Call (.Name x p) [] [] pos) (callM F []) := by
  subst hx
  obtain ⟨f, fd, ps, G, hm, hkp, hb⟩ := T.ex
  refine pe_imp (t := tCallS (spOf X.K X.mg F 0) (WE W) tNil) ⟨fun pins s σ H Q I h => ?_⟩ fun σ H Q h => ?_
  · refine wpAny_Call_Name_kw (ld_glob I hg hm ?_ hdb)
    exact PySem.W.callWith_K0 I.kIn hkp (run_fnS (us := []) G (hr.mono hk) hb (passAt tk σ) I .nil h)
  · obtain ⟨δ, S, ι, r, q⟩ := callF (n := 0) rfl h
    exact q [] H ι .refl r.sto .nil
/-- a def's body -/
theorem fn_core {P : Program} {w : World} {K : PySem.W.Frag} {mg : Str → Option Value} {base : Heap} {f : Addr} {fd : FuncData} {N ps : List Str} {st : Stmt} {x qual : Str} {body : SM} {slots : Nat}
    (G : Fun K x qual st f fd) (S : FnScope N ps (defScope st)) (hN : N.length = slots) (hn : ps.length = n)
    (hbody : ∀ (cdv : Value) (A : Around) (outer : List PySem.Env) (s : Shared) (H : Hp) (E : XK), Room lv (A.deeper (envOfC qual (defScope st) s.heap.objs.size f cdv)) →
      Takes (cxOf (L2.CX P w) P w K mg base N qual (defScope st) f cdv A outer s H E) (fun cls dx _ H => E cls dx H) →
      PassesOwn (model P w) (A.deeper (envOfC qual (defScope st) s.heap.objs.size f cdv)) (envOfC qual (defScope st) s.heap.objs.size f cdv) (cxOf (L2.CX P w) P w K mg base N qual (defScope st) f cdv A outer s H E).xe →
      SSs (cxOf (L2.CX P w) P w K mg base N qual (defScope st) f cdv A outer s H E) (fun cls dx _ H => E cls dx H) (defBody st) body) : FnOk P w K mg base (L2.CX P w) (lv + 1) f fd ps (spOf K mg (defM n slots body) n) := by
  refine Fun.okX G S (fun vs H Q E h => by rw [hn]; exact h.1) fun cdv A outer s H vs Q E hr h => ?_
  refine ⟨_, hbody cdv A outer s H E hr (takes_of rfl rfl rfl rfl) (passes_of (X := cxOf (L2.CX P w) P w K mg base N qual (defScope st) f cdv A outer s H E) rfl), ?_⟩
  obtain ⟨hl, ds, St, ι, r, q, h⟩ := h
  have hd : ds.length = n := by rw [← q.length]; exact hl
  refine ⟨ds.map some ++ List.replicate (slots - n) none, St, ι, ⟨?_, fun i d e => ?_, r⟩, ?_⟩
  · unfold L2.start
    simp [hN, hd, hl]
  · have hi : i < ds.length := by
      by_cases hi : i < ds.length
      · exact hi
      · rw [List.getElem?_append_right (by simpa using hi), List.getElem?_replicate] at e
        split at e <;> cases e
    rw [List.getElem?_append_left (by simpa using hi), List.getElem?_map] at e
    have e' : ds[i]? = some d := by
      cases e2 : ds[i]? with
      | none => rw [e2] at e; cases e
      | some z => rw [e2] at e; cases e; rfl
    obtain ⟨v, e1, e2⟩ := q.get e'
    refine ⟨v, ?_, e2⟩
    unfold L2.start
    rw [List.getElem?_append_left (by simpa [q.length] using hi), List.getElem?_map, e1]; rfl
  · unfold defM at h
    rw [if_pos hd] at h
    cases e1 : body (ds.map some ++ List.replicate (slots - n) none) St with
    | stuck => rw [e1] at h; exact h.elim
    | exc x S1 =>
      rw [e1] at h
      exact h.elim
    | ok fl S1 =>
      rw [e1] at h
      cases fl with
      | nx δ' => exact fun σ' H' ι' g rl => h .non H' ι' g rl.sto .non
      | rt d => exact h
      | bk δ' => exact h.elim
      | ct δ' => exact h.elim
      | ex x δ' => exact fun cls dx σ' H' ι' g rl z => h cls dx H' ι' g rl.sto z
end
/-- a def of the module -/
theorem ft_of {P : Program} {w : World} {K : PySem.W.Frag} {mg : Str → Option Value} {base : Heap} {f : Addr} {fd : FuncData} {ps : List Str} {y : String} {F : FM} {n lv : Nat}
    (G : FnOk P w K mg base (L2.CX P w) lv f fd ps (spOf K mg F n)) (hm : mg (Str.ofString y) = some (.ref f)) (hk : PySem.W.keepIn K (.ref f) = true) (hb : Binds K fd ps []) : FT P w K mg base lv y F n := ⟨f, fd, ps, G, hm, hk, hb⟩
theorem FT.mono {P : Program} {w : World} {K : PySem.W.Frag} {mg : Str → Option Value} {base : Heap} {y : String} {F : FM} {n lv lv' : Nat} (T : FT P w K mg base lv y F n) (h : lv ≤ lv') : FT P w K mg base lv' y F n := by
  obtain ⟨f, fd, ps, G, h1, h2, h3⟩ := T.ex
  exact ⟨f, fd, ps, G.mono h, h1, h2, h3⟩
/-- what the law's own def is to promise -/
def spLaw (K : PySem.W.Frag) : Sp := fun vs H Q _ => ∃ (a : Addr) (ns : List Int), vs = [.ref a] ∧ SqL K H a (ns.map V.int) ∧ Only H ∧ ns.length ≤ 63 ∧ ∀ H', Q (.bl true) H'
theorem law_imp {P : Program} {w : World} {K : PySem.W.Frag} {mg : Str → Option Value} {base : Heap} {f : Addr} {fd : FuncData} {ps : List Str} {F : FM} {lv : Nat} (G : FnOk P w K mg base (L2.CX P w) lv f fd ps (spOf K mg F 1))
    (h : ∀ ns : List Int, ns.length ≤ 63 → ∃ S', F [.lit (ns.map D.int)] [] = .ok (.bl true) S') : FnOk P w K mg base (L2.CX P w) lv f fd ps (spLaw K) := by
  refine G.imp fun vs H Q E q => ?_
  obtain ⟨a, ns, rfl, hs, hO, hl, q⟩ := q
  obtain ⟨S', e⟩ := h ns hl
  have hints : ∀ l : List Int, Rps K mg H [] (l.map V.int) (l.map D.int) := by
    intro l
    induction l with
    | nil => exact .nil
    | cons x l ih => exact .cons (.int x) ih
  have hK : SqK K H a (ns.map V.int) := by
    rcases hs with (hs | hs) | hs
    · rcases hO a with z | ⟨o, xs, z⟩
      · rw [z] at hs; cases hs
      · rw [z] at hs; cases hs
    · exact .inl hs
    · exact .inr (.inr hs)
  refine ⟨rfl, [.lit (ns.map D.int)], [], [], ⟨rfl, List.nodup_nil, fun n o a e _ => by simp at e⟩, .cons (.lit hK (by simp; rw [sizeLine_eq]; omega) (hints ns)) .nil, ?_⟩
  rw [e]
  intro v H' ι' _ _ p
  cases p
  exact q H'
theorem cx_none {P : Program} {w : World} {H : Hp} {s : Shared} {e : Value} {s' : Shared} (h : L2.CX P w [] H s (fun _ _ _ => False) e s') : False := by
  obtain ⟨_, _, _, _, _, _, _, _, _, _, _, _, z⟩ := h
  exact z
end Dl

end

section
set_option linter.all false
set_option Elab.async false
set_option maxRecDepth 100000
set_option Elab.async false
set_option linter.all false
set_option maxRecDepth 100000
set_option maxHeartbeats 4000000
namespace Dl
open PySem PySem.Spec PyProof.Rows L2

section
variable {K : PySem.W.Frag} {mg : Str → Option Value} {W : WX} {σ : L2.St} {δ : Dl.Env} {H : Hp} {ι : List Addr} {S : Store}
theorem PostS.seqE {r : Res D} {f : D → Store → Res Flow} {D : Ends} (rl : Rel K mg H ι σ δ S) (h : PostS K mg W D H ι (r.thenS δ f))
    {Q' : VK} (q : ∀ v H' ι' d S', r = .ok d S' → Grow K H ι H' ι' → RS K mg H' ι' S' → Rp K mg H' ι' v d → PostS K mg W D H' ι' (f d S') → Q' v H') : PostE K mg W σ H ι r Q' := by
  cases r with
  | ok d S => exact fun v H' ι' a b c => q v H' ι' d S rfl a b c (h.back a)
  | exc e S => exact fun c dx H' ι' g q z => h c dx σ H' ι' g (rl.mono g q) z
  | stuck => exact h
theorem PostS.seqT {r : Res Bool} {f : Bool → Store → Res Flow} {D : Ends} (rl : Rel K mg H ι σ δ S) (h : PostS K mg W D H ι (r.thenS δ f))
    {Q' : Bool → Hp → Prop} (q : ∀ H' ι' d S', r = .ok d S' → Grow K H ι H' ι' → RS K mg H' ι' S' → PostS K mg W D H' ι' (f d S') → Q' d H') : PostT K mg W σ H ι r Q' := by
  cases r with
  | ok d S => exact fun H' ι' a b => q H' ι' d S rfl a b (h.back a)
  | exc e S => exact fun c dx H' ι' g q z => h c dx σ H' ι' g (rl.mono g q) z
  | stuck => exact h
theorem PostS.imp {r : Res Flow} {D D' : Ends} (h : PostS K mg W D H ι r) (h1 : ∀ σ H, D.nx σ H → D'.nx σ H) (h2 : ∀ v H, D.rt v H → D'.rt v H) (h3 : ∀ σ H, D.bk σ H → D'.bk σ H) (h4 : ∀ σ H, D.ct σ H → D'.ct σ H) : PostS K mg W D' H ι r := by
  cases r with
  | ok f S =>
    cases f with
    | nx δ => exact fun σ' H' ι' a b => h1 _ _ (h σ' H' ι' a b)
    | bk δ => exact fun σ' H' ι' a b => h3 _ _ (h σ' H' ι' a b)
    | ct δ => exact fun σ' H' ι' a b => h4 _ _ (h σ' H' ι' a b)
    | rt d => exact fun v H' ι' a b c => h2 _ _ (h v H' ι' a b c)
    | ex e δ => exact h
  | exc e S => exact h
  | stuck => exact h
end

section
variable {X : Cx} {W : WX} {e o a b c : Expr} {es : List Expr} {m m' : EM} {ms : List EM} {p pos apos : Pos} {k n lv : Nat} {x : Str}
variable {st : Stmt} {sts rest : List Stmt} {s s' : SM} {ss : List SM} {t : TM}
/-! ### blocks -/
theorem ss_nil : SSs X W [] (blkS []) := pss_imp pss_nil fun D σ H h => by
  obtain ⟨δ, S, ι, r, h⟩ := h
  exact h σ H ι .refl r
theorem ss_one (h : SS X W st s) : SSs X W [st] (blkS [s]) := pss_one h
theorem ss_cons {s2 : SM} (h : SS X W st s) (h2 : SSs X W rest (blkS (s2 :: ss))) : SSs X W (st :: rest) (blkS (s :: s2 :: ss)) := by
  refine pss_imp (pss_cons h h2) fun D σ H q => ?_
  obtain ⟨δ, S, ι, r, q⟩ := q
  refine ⟨δ, S, ι, r, ?_⟩
  have q : PostS X.K X.mg W D H ι ((s δ S).bind fun f S1 => match f with | .nx δ1 => blkS (s2 :: ss) δ1 S1 | _ => .ok f S1) := q
  cases e1 : s δ S with
  | stuck => rw [e1] at q; exact q
  | exc x S1 => rw [e1] at q; exact q
  | ok f S1 =>
    rw [e1] at q
    cases f with
    | nx δ1 => exact fun σ' H' ι' g r1 => ⟨δ1, S1, ι', r1, PostS.back g q⟩
    | bk δ1 => exact q
    | ct δ1 => exact q
    | rt d => exact q
    | ex y δ1 => exact q
/-! ### small statements -/
theorem ss_pass : SS X W (.Pass pos) nilS := ps_imp ps_pass fun D σ H h => by
  obtain ⟨δ, S, ι, r, h⟩ := h
  exact h σ H ι .refl r
theorem ss_brk : SS X W (.Break pos) brkS := ps_imp ps_break fun D σ H h => by
  obtain ⟨δ, S, ι, r, h⟩ := h
  exact h σ H ι .refl r
theorem ss_cnt : SS X W (.Continue pos) cntS := ps_imp ps_continue fun D σ H h => by
  obtain ⟨δ, S, ι, r, h⟩ := h
  exact h σ H ι .refl r
theorem ss_never : SS X W st neverS := ps_imp ps_never fun D σ H h => by
  obtain ⟨δ, S, ι, r, h⟩ := h
  exact h.elim
theorem ss_expr (h : SE X W e m) (hs : swapsWith e none pos.line X.env = pure false := by rfl) : SS X W (.Expr e pos) (exprS m) := ps_imp (ps_expr h hs) fun D σ H q => by
  obtain ⟨δ, S, ι, r, q⟩ := q
  exact ⟨δ, S, ι, r, PostS.seqE r q fun v H' ι' d S' _ g r1 _ q1 => q1 σ H' ι' .refl (r.mono g r1)⟩
theorem ss_ret (h : SE X W e m) : SS X W (.Return (some e) pos) (retS m) := ps_imp (ps_ret h) fun D σ H q => by
  obtain ⟨δ, S, ι, r, q⟩ := q
  exact ⟨δ, S, ι, r, PostS.seqE r q fun v H' ι' d S' _ g r1 p1 q1 => q1 v H' ι' .refl r1 p1⟩
theorem ss_retN : SS X W (.Return none pos) retN := ps_imp ps_retN fun D σ H q => by
  obtain ⟨δ, S, ι, r, q⟩ := q
  exact q .non H ι .refl r.sto .non
theorem ss_if {sa sb : List Stmt} {s1 s2 : SM} (hc : ST X W c t) (ha : SSs X W sa s1) (hb : SSs X W sb s2) : SS X W (.If c sa sb pos) (ifS t s1 s2) := ps_imp (ps_if hc ha hb) fun D σ H q => by
  obtain ⟨δ, S, ι, r, q⟩ := q
  refine ⟨δ, S, ι, r, PostS.seqT r q fun H' ι' d S' _ g r1 q1 => ?_⟩
  cases d with
  | true => exact iteT ⟨δ, S', ι', r.mono g r1, q1⟩
  | false => exact iteF ⟨δ, S', ι', r.mono g r1, q1⟩

/-! ### targets -/
def Tgt.names : Tgt → List Nat
  | .nm i => [i]
  | .tp is => is
def gNames : List Nat → TGs
  | [] => gNil
  | i :: is => gCons (gName i) (gNames is)
def Tgt.g (K : PySem.W.Frag) : Tgt → TG
  | .nm i => gName i
  | .tp is => gTup K is.length (gNames is)
def setAllV : List Nat → List V → L2.St → L2.St
  | i :: is, v :: vs, σ => setAllV is vs (σ.set i (some v))
  | _, _, σ => σ
theorem gNames_run {Q : L2.St → Hp → Prop} {H : Hp} : ∀ {is : List Nat} {vs : List V} {σ : L2.St}, vs.length = is.length → Q (setAllV is vs σ) H → gNames is vs σ H Q
  | [], [], σ, _, q => ⟨rfl, q⟩
  | i :: is, v :: vs, σ, hl, q => ⟨v, vs, rfl, gNames_run (by simpa using hl) q⟩
  | [], _ :: _, _, hl, _ => by simp at hl
  | _ :: _, [], _, hl, _ => by simp at hl
theorem Rel.setAll {K : PySem.W.Frag} {mg : Str → Option Value} {H : Hp} {ι : List Addr} {S : Store} : ∀ {is : List Nat} {vs : List V} {ds : List D} {σ : L2.St} {δ : Dl.Env}, Rel K mg H ι σ δ S → Rps K mg H ι vs ds → Rel K mg H ι (setAllV is vs σ) (Dl.setAll is ds δ) S
  | [], _, _, _, _, r, _ => by simpa [setAllV, Dl.setAll] using r
  | _ :: _, _, [], _, _, r, h => by cases h; simpa [setAllV, Dl.setAll] using r
  | i :: is, _, d :: ds, _, _, r, h => by
    cases h with
    | cons h1 h2 => exact Rel.setAll (is := is) (Rel.set (i := i) r h1) h2
/-- what a target's store does with the slots -/
def Tgt.putV : Tgt → V → List V → L2.St → L2.St
  | .nm i, v, _, σ => σ.set i (some v)
  | .tp is, _, vs, σ => setAllV is vs σ
theorem Tgt.run {K : PySem.W.Frag} {mg : Str → Option Value} {H : Hp} {ι : List Addr} {S : Store} {tg : Tgt} {v : V} {d : D} {σ : L2.St} {δ δ' : Dl.Env} {Q : L2.St → Hp → Prop} (r : Rel K mg H ι σ δ S) (p : Rp K mg H ι v d) (e : tg.put d δ = some δ')
    (h : ∀ vs, Rel K mg H ι (tg.putV v vs σ) δ' S → Q (tg.putV v vs σ) H) : tg.g K v σ H Q := by
  cases tg with
  | nm i =>
    cases e
    exact h [] (r.set p)
  | tp is =>
    cases d with
    | tup ds =>
      obtain ⟨a, vs, rfl, h1, _, h2⟩ := p.tup_inv
      unfold Tgt.put at e
      simp only at e
      split at e
      · rename_i hl
        cases e
        refine ⟨a, vs, rfl, h1, by rw [h2.length, hl], gNames_run (by rw [h2.length, hl]) (h vs (Rel.setAll r h2))⟩
      · cases e
    | _ => cases e
/-- a target as it stands in the text -/
abbrev SG (X : Cx) (e : Expr) (tg : Tgt) : Prop := PG X e (tg.g X.K)
theorem sg_nm (i : Nat) (hN : X.N.Nodup) (hi : X.N[i]? = some x := by rfl) (hx : Loc X.env.scope x := by first | exact .inl rfl | exact .inr rfl) (hf : X.fn x = true ∨ X.env.scope.names.lookup x = some .local := by first | exact .inl rfl | exact .inr rfl | assumption) : SG X (.Name x pos) (.nm i) := pg_name hN hi hx hf
abbrev SGs (X : Cx) (es : List Expr) (is : List Nat) : Prop := PGs X es (gNames is)
theorem sgs_nil : SGs X [] [] := pgs_nil
theorem sgs_cons {i : Nat} {is : List Nat} (h1 : SG X e (.nm i)) (h2 : SGs X es is) (hs : (assignEach (e :: es) X.env).map (·.2) = assign e X.env :: (assignEach es X.env).map (·.2) := by rfl) : SGs X (e :: es) (i :: is) := pgs_cons h1 h2 hs
theorem sg_tp {j : Nat} {is : List Nat} (hc : X.calm = true) (h : SGs X es is) (hn : (assignEach es X.env).length = is.length := by rfl) (hst : (assignEach es X.env).findIdx? (·.1) = none := by rfl) : SG X (.Tuple es j pos) (.tp is) := pg_tup hc h hn hst
theorem asg_run {K : PySem.W.Frag} {mg : Str → Option Value} {D : Ends} {σ : L2.St} {H : Hp} {tg : Tgt} {te : TE} (i : ∀ {Q}, cE K mg W m σ H Q → te σ H Q) (q : cS K mg W (setS tg m) D σ H) : tAsg te (tg.g K) D σ H := by
  obtain ⟨δ, S, ι, r, q⟩ := q
  refine i ⟨δ, S, ι, r, PostS.seqE r q fun v H' ι' d S' _ g r1 p1 q1 => ?_⟩
  cases e : tg.put d δ with
  | none => rw [e] at q1; exact q1.elim
  | some δ' =>
    rw [e] at q1
    exact Tgt.run (r.mono g r1) p1 e fun vs r2 => q1 _ H' ι' .refl r2
theorem ss_set (i : Nat) {pos' : Pos} (hN : X.N.Nodup) (he : SE X W e m) (hi : X.N[i]? = some x := by rfl) (hx : Loc X.env.scope x := by first | exact .inl rfl | exact .inr rfl) (hs : swapsWith e (some (.Name x pos')) pos.line X.env = pure false := by rfl)
    (hf : X.fn x = true ∨ X.env.scope.names.lookup x = some .local := by first | exact .inl rfl | exact .inr rfl | assumption) : SS X W (.Assign [.Name x pos'] e pos) (setS (.nm i) m) :=
  ps_imp (ps_set (i := i) hN hi hx he hs hf) fun D σ H q => asg_run (tg := .nm i) (fun h => h) q
theorem ss_asg {tge : Expr} {tg : Tgt} (he : SE X W e m) (hg : SG X tge tg) (hs : swapsWithSole [tge] e pos.line X.env = pure false := by rfl) (hw : swappedStores [tge] e X.env = pure none := by rfl)
    (h1 : (assignEach [tge] X.env).map (·.2) = [assign tge X.env] := by rfl) : SS X W (.Assign [tge] e pos) (setS tg m) :=
  ps_imp (ps_asg he hg hs hw h1) fun D σ H q => asg_run (tg := tg) (fun h => h) q
/-- name op= e -/
theorem ss_aug (i : Nat) {op : Operator} {r : R2} {f : FM} {pos' : Pos} (ho : OpR X (inplaceOp op) r) (sm : Sim2 X.K X.mg r f) (hN : X.N.Nodup) (he : SE X W e m) (hi : X.N[i]? = some x := by rfl) (hx : Loc X.env.scope x := by first | exact .inl rfl | exact .inr rfl)
    (hf : X.fn x = true ∨ X.env.scope.names.lookup x = some .local := by first | exact .inl rfl | exact .inr rfl | assumption) : SS X W (.AugAssign (.Name x pos') op e pos) (augS i f m) := by
  refine ps_imp (ps_aug (i := i) hN hi hx he (fun pins s σ H x y v u Q I rx ry h => ho pins s σ H x y v u Q I rx ry h) hf) fun D σ H q => ?_
  obtain ⟨δ, S, ι, rl, q⟩ := q
  unfold augS at q
  split at q
  · rename_i dx e1
    obtain ⟨v, e2, p0⟩ := rl.env i dx e1
    refine ⟨v, e2, δ, S, ι, rl, PostS.seqE rl q fun w H1 ι1 dy S1 _ g r1 p1 q1 => ?_⟩
    cases e3 : f [dx, dy] S1 with
    | stuck => rw [e3] at q1; exact q1.elim
    | exc y S2 => exact (sm.nox _ _ _ _ e3).elim
    | ok z S2 =>
      rw [e3] at q1
      refine sm.run v w dx dy H1 S1 ι1 z S2 _ r1 (p0.mono g) p1 e3 fun u H2 ι2 g2 r2 p2 => ?_
      exact q1 _ H2 ι2 g2 ((rl.mono (g.trans g2) r2).set p2)
  · exact q.elim

/-! ### loops -/
/-- what is walked: its items at each turn -/
def PostI (K : PySem.W.Frag) (mg : Str → Option Value) (W : WX) (σ : L2.St) (H : Hp) (ι : List Addr) (r : Res Src) (R : It → Hp → Prop) : Prop := match r with
  | .ok s S' => ∀ J H' ι', Grow K H ι H' ι' → RS K mg H' ι' S' →
      (∀ i d H2 ι2 S2, Grow K H' ι' H2 ι2 → RS K mg H2 ι2 S2 → s.still S2 = true → s.items[i]? = some d → J.go i H2 ∧ ∀ x H3, J.yld i H2 x H3 → ∃ ι3, Grow K H2 ι2 H3 ι3 ∧ RS K mg H3 ι3 S2 ∧ Rp K mg H3 ι3 x d) →
      (∀ H2 ι2 S2, Grow K H' ι' H2 ι2 → RS K mg H2 ι2 S2 → s.still S2 = true → J.stop s.items.length H2) → R J H'
  | .exc e S' => ∀ cls dx H' ι', Grow K H ι H' ι' → RS K mg H' ι' S' → RX K mg H' ι' e cls dx → W cls dx σ H'
  | .stuck => False
def cI (K : PySem.W.Frag) (mg : Str → Option Value) (W : WX) (m : IM) : TI := fun σ H R => ∃ δ S ι, Rel K mg H ι σ δ S ∧ PostI K mg W σ H ι (m δ S) R
abbrev SI (X : Cx) (W : WX) (tg e : Expr) (m : IM) : Prop := PI X tg e (cI X.K X.mg W m)
theorem pi_imp {tg e : Expr} {t t' : TI} (h : PI X tg e t) (i : ∀ σ H R, t' σ H R → t σ H R) : PI X tg e t' := ⟨fun pins s σ H R I hw => h.run pins s σ H R I (i _ _ _ hw)⟩
theorem PI.or {tg e : Expr} {t' : TI} (h : ∀ σ H R, t' σ H R → ∃ t, PI X tg e t ∧ t σ H R) : PI X tg e t' := ⟨fun pins s σ H R I hw => by
  obtain ⟨t, h1, h2⟩ := h σ H R hw
  exact h1.run pins s σ H R I h2⟩
theorem forGo {K : PySem.W.Frag} {mg : Str → Option Value} {tg : Tgt} {tb : TS} {D : Ends} {s : Src} {body : SM} {J : It} {H0 : Hp} {ι0 : List Addr} {σ : L2.St} {δ : Dl.Env} {S : Store} (hb : ∀ D σ H, cS K mg W body D σ H → tb D σ H)
    (hgo : ∀ i d H2 ι2 S2, Grow K H0 ι0 H2 ι2 → RS K mg H2 ι2 S2 → s.still S2 = true → s.items[i]? = some d → J.go i H2 ∧ ∀ x H3, J.yld i H2 x H3 → ∃ ι3, Grow K H2 ι2 H3 ι3 ∧ RS K mg H3 ι3 S2 ∧ Rp K mg H3 ι3 x d)
    (hst : ∀ H2 ι2 S2, Grow K H0 ι0 H2 ι2 → RS K mg H2 ι2 S2 → s.still S2 = true → J.stop s.items.length H2)
    (rl : Rel K mg H0 ι0 σ δ S) (h : PostS K mg W D H0 ι0 (forLoop s.still tg body s.items δ S)) :
    ∃ W : Nat → Nat → L2.St → Hp → Prop, (∃ m, W 0 m σ H0) ∧ ∀ i m σ H, W i m σ H →
      (J.stop i H ∧ D.nx σ H) ∨ (J.go i H ∧ ∃ N : L2.St → Hp → Prop, (∀ σ' H', N σ' H' → ∃ m', m' < m ∧ W (i + 1) m' σ' H') ∧ ∀ x H', J.yld i H x H' → tg.g K x σ H' fun σ2 H2 => tb { D with nx := N, ct := N, bk := D.nx } σ2 H2) := by
  refine ⟨fun i m σ H => ∃ δ S ι, i + m = s.items.length ∧ Grow K H0 ι0 H ι ∧ Rel K mg H ι σ δ S ∧ PostS K mg W D H ι (forLoop s.still tg body (s.items.drop i) δ S), ⟨s.items.length, δ, S, ι0, by simp, .refl, rl, by simpa using h⟩, ?_⟩
  rintro i m σ H ⟨δ, S, ι, hm, g, rl, h⟩
  by_cases hi : i < s.items.length
  · have hd : s.items.drop i = s.items[i] :: s.items.drop (i + 1) := List.drop_eq_getElem_cons hi
    rw [hd] at h
    unfold forLoop at h
    split at h
    · rename_i hstill
      obtain ⟨h1, h2⟩ := hgo i s.items[i] H ι S g rl.sto hstill (List.getElem?_eq_getElem hi)
      refine .inr ⟨h1, fun σ' H' => ∃ δ S ι, i + 1 + (m - 1) = s.items.length ∧ Grow K H0 ι0 H' ι ∧ Rel K mg H' ι σ' δ S ∧ PostS K mg W D H' ι (forLoop s.still tg body (s.items.drop (i + 1)) δ S), fun σ' H' hN => ⟨m - 1, by omega, hN⟩, fun x H' hy => ?_⟩
      obtain ⟨ι3, g3, r3, p3⟩ := h2 x H' hy
      cases e : tg.put s.items[i] δ with
      | none => rw [e] at h; exact h.elim
      | some δ1 =>
        rw [e] at h
        refine Tgt.run (rl.mono g3 r3) p3 e fun vs r4 => hb _ _ _ ⟨δ1, S, ι3, r4, ?_⟩
        have h := PostS.back g3 h
        cases e1 : body δ1 S with
        | stuck => simp only [e1] at h; exact h
        | exc y S1 => simp only [e1] at h; exact h
        | ok f S1 =>
          simp only [e1, Res.bind_ok] at h
          cases f with
          | nx δ2 => exact fun σ' H2 ι2 g2 r2 => ⟨δ2, S1, ι2, by omega, (g.trans g3).trans g2, r2, PostS.back g2 h⟩
          | ct δ2 => exact fun σ' H2 ι2 g2 r2 => ⟨δ2, S1, ι2, by omega, (g.trans g3).trans g2, r2, PostS.back g2 h⟩
          | bk δ2 => exact h
          | rt d => exact h
          | ex y δ2 => exact h
    · exact h.elim
  · have e : i = s.items.length := by omega
    subst e
    rw [List.drop_length] at h
    unfold forLoop at h
    split at h
    · rename_i hstill
      exact .inl ⟨hst H ι S g rl.sto hstill, h σ H ι .refl rl⟩
    · exact h.elim
theorem ss_for {tge iter : Expr} {tg : Tgt} {body : List Stmt} {im : IM} (hp : PassesOwn (model X.prog X.w) X.A X.env X.xe) (hc : X.calm = true) (hi : SI X W tge iter im) (hg : SG X tge tg) (hb : SSs X W body s)
    (hs : ∀ x, foldedSetIterable iter X.env x = pure x := by intro _; rfl) : SS X W (.For tge iter body [] pos) (forS im tg s) := by
  refine ps_imp (ps_for hp hc hi hg hb hs) fun D σ H q => ?_
  obtain ⟨δ, S, ι, r, q⟩ := q
  refine ⟨δ, S, ι, r, ?_⟩
  have q : PostS X.K X.mg W D H ι ((im δ S).thenS δ fun s1 S1 => forLoop s1.still tg s s1.items δ S1) := q
  cases e1 : im δ S with
  | stuck => rw [e1] at q; exact q
  | exc y S1 => rw [e1] at q; exact fun c dx H' ι' g q1 z => q c dx σ H' ι' g (r.mono g q1) z
  | ok s1 S1 =>
    rw [e1] at q
    intro J H1 ι1 g1 r1 hgo hst
    exact forGo (fun D σ H h => h) hgo hst (r.mono g1 r1) (PostS.back g1 q)
theorem ss_while {body : List Stmt} (hp : PassesOwn (model X.prog X.w) X.A X.env X.xe) (hc : ST X W c t) (hb : SSs X W body s) : SS X W (.While c body [] pos) (whileS t s) := by
  refine ps_imp (ps_while hp hc hb) fun D σ H q => ?_
  obtain ⟨δ, S, ι, r, q⟩ := q
  refine ⟨fun m σ H => ∃ δ S ι, Rel X.K X.mg H ι σ δ S ∧ PostS X.K X.mg W D H ι (whileLoop t s m δ S), ⟨FUEL, δ, S, ι, r, q⟩, ?_⟩
  rintro m σ H ⟨δ, S, ι, r, q⟩
  refine ⟨δ, S, ι, r, ?_⟩
  cases m with
  | zero => exact q.elim
  | succ m =>
    refine PostS.seqT r q fun H' ι' d S' _ g r1 q1 => ?_
    cases d with
    | false => exact iteF (q1 σ H' ι' .refl (r.mono g r1))
    | true =>
      refine iteT ⟨fun σ' H' => ∃ δ S ι, Rel X.K X.mg H' ι σ' δ S ∧ PostS X.K X.mg W D H' ι (whileLoop t s m δ S), fun σ' H' hN => ⟨m, Nat.lt_succ_self m, hN⟩, δ, S', ι', r.mono g r1, ?_⟩
      have q1 : PostS X.K X.mg W D H' ι' ((s δ S').bind fun f S2 => (match f with
        | .nx δ2 => whileLoop t s m δ2 S2
        | .ct δ2 => whileLoop t s m δ2 S2
        | .bk δ2 => .ok (.nx δ2) S2
        | .rt d => .ok (.rt d) S2
        | .ex e δ2 => .ok (.ex e δ2) S2)) := q1
      cases e1 : s δ S' with
      | stuck => rw [e1] at q1; exact q1
      | exc y S1 => rw [e1] at q1; exact q1
      | ok f S1 =>
        rw [e1] at q1
        cases f with
        | nx δ2 => exact fun σ' H2 ι2 g2 r2 => ⟨δ2, S1, ι2, r2, PostS.back g2 q1⟩
        | ct δ2 => exact fun σ' H2 ι2 g2 r2 => ⟨δ2, S1, ι2, r2, PostS.back g2 q1⟩
        | bk δ2 => exact q1
        | rt d => exact q1
        | ex y δ2 => exact q1
/-! what is walked -/
theorem si_seq {tg : Expr} (he : SE X W e m) : SI X W tg e (seqI m) := by
  refine PI.or fun σ H R h => ?_
  obtain ⟨δ, S, ι, r, h⟩ := h
  have h : PostI X.K X.mg W σ H ι ((m δ S).bind fun d S1 => match d with
    | .ref n => (match lstAt S1 n with | some xs => .ok ⟨xs, isLst n xs⟩ S1 | none => .stuck)
    | .tup xs => .ok ⟨xs, always⟩ S1
    | .lit xs => .ok ⟨xs, always⟩ S1
    | _ => .stuck) R := h
  have go : ∀ (R' : VK), (∀ v H' ι' d S', m δ S = .ok d S' → Grow X.K H ι H' ι' → RS X.K X.mg H' ι' S' → Rp X.K X.mg H' ι' v d → R' v H') → cE X.K X.mg W m σ H R' := fun R' q => by
    refine ⟨δ, S, ι, r, ?_⟩
    cases e1 : m δ S with
    | ok d S1 => exact fun v H' ι' g r1 p1 => q v H' ι' d S1 e1 g r1 p1
    | exc y S1 => rw [e1] at h; exact h
    | stuck => rw [e1] at h; exact h
  cases e1 : m δ S with
  | stuck => rw [e1] at h; exact h.elim
  | exc y S1 => exact ⟨_, pi_tup he, go _ fun v H' ι' d S' e => by rw [e1] at e; cases e⟩
  | ok d S1 =>
    rw [e1] at h
    cases d with
    | ref n =>
      simp only [Res.bind_ok] at h
      cases e2 : lstAt S1 n with
      | none => rw [e2] at h; exact h.elim
      | some xs =>
        rw [e2] at h
        refine ⟨_, pi_list he, go _ fun v H' ι' d S' e g r1 p1 => ?_⟩
        rw [e1] at e; cases e
        obtain ⟨a, rfl, ha⟩ := p1.ref_inv
        obtain ⟨vs, k1, k2⟩ := r1.lstAt ha e2
        refine ⟨a, rfl, ⟨vs, k1⟩, h (Itl X.K a) H' ι' g r1 (fun i d H2 ι2 S2 g2 r2 hs hd => ?_) fun H2 ι2 S2 g2 r2 hs => ?_⟩
        · have hs : lstAt S2 n = some xs := of_decide_eq_true hs
          obtain ⟨ws, q1, q2⟩ := r2.lstAt (pre_get g2.pre ha) hs
          obtain ⟨w, q3, q4⟩ := q2.get hd
          refine ⟨⟨ws, w, q1, q3⟩, fun x H3 hy => ?_⟩
          obtain ⟨rfl, hy⟩ := hy
          have : w = x := Option.some.inj (q3.symm.trans (hy ws q1))
          exact ⟨ι2, .refl, r2, this ▸ q4⟩
        · have hs : lstAt S2 n = some xs := of_decide_eq_true hs
          obtain ⟨ws, q1, q2⟩ := r2.lstAt (pre_get g2.pre ha) hs
          exact ⟨ws, q1, by rw [q2.length]; exact Nat.le_refl _⟩
    | tup xs =>
      refine ⟨_, pi_tup he, go _ fun v H' ι' d S' e g r1 p1 => ?_⟩
      rw [e1] at e; cases e
      obtain ⟨a, vs, rfl, k1, _, k2⟩ := p1.tup_inv
      refine ⟨a, rfl, ⟨vs, k1⟩, h (Itt X.K a) H' ι' g r1 (fun i d H2 ι2 S2 g2 r2 hs hd => ?_) fun H2 ι2 S2 g2 r2 hs => ?_⟩
      · have q1 := g2.tup a vs k1
        obtain ⟨w, q3, q4⟩ := (k2.mono g2).get hd
        refine ⟨⟨vs, w, q1, q3⟩, fun x H3 hy => ?_⟩
        obtain ⟨rfl, hy⟩ := hy
        have : w = x := Option.some.inj (q3.symm.trans (hy vs q1))
        exact ⟨ι2, .refl, r2, this ▸ q4⟩
      · exact ⟨vs, g2.tup a vs k1, by rw [k2.length]; exact Nat.le_refl _⟩
    | lit xs =>
      refine ⟨_, pi_list he, go _ fun v H' ι' d S' e g r1 p1 => ?_⟩
      rw [e1] at e; cases e
      cases p1 with
      | lit k1 kl k2 =>
      rename_i a vs
      have kk : ∀ {H2 ι2}, Grow X.K H' ι' H2 ι2 → SqL X.K H2 a vs := fun {H2 ι2} g2 => SqK.sql (k1.elim (fun ⟨o, z⟩ => .inl ⟨o, g2.frz _ _ _ z⟩) .inr)
      refine ⟨a, rfl, ⟨vs, k1.sql⟩, h (Itl X.K a) H' ι' g r1 (fun i d H2 ι2 S2 g2 r2 hs hd => ?_) fun H2 ι2 S2 g2 r2 hs => ?_⟩
      · obtain ⟨w, q3, q4⟩ := (k2.mono g2).get hd
        refine ⟨⟨vs, w, kk g2, q3⟩, fun x H3 hy => ?_⟩
        obtain ⟨rfl, hy⟩ := hy
        have : w = x := Option.some.inj (q3.symm.trans (hy vs (kk g2)))
        exact ⟨ι2, .refl, r2, this ▸ q4⟩
      · exact ⟨vs, kk g2, by rw [k2.length]; exact Nat.le_refl _⟩
    | _ => exact h.elim
theorem rangeL_get {lo hi : Int} {i : Nat} {d : D} (h : (rangeL lo hi)[i]? = some d) : i < (hi - lo).toNat ∧ d = .int (lo + i) := by
  unfold rangeL at h
  rw [List.getElem?_map] at h
  cases e : (List.range (hi - lo).toNat)[i]? with
  | none => rw [e] at h; cases h
  | some j =>
    rw [e] at h
    obtain ⟨h1, h2⟩ := List.getElem?_eq_some_iff.mp e
    rw [List.length_range] at h1
    rw [List.getElem_range] at h2
    subst h2
    cases h
    exact ⟨h1, rfl⟩
theorem rangeL_length (lo hi : Int) : (rangeL lo hi).length = (hi - lo).toNat := by simp [rangeL]
theorem range_go {K : PySem.W.Frag} {mg : Str → Option Value} {lo hi : Int} {H : Hp} {ι : List Addr} {S : Store} {R : It → Hp → Prop} {H' : Hp} {ι' : List Addr} (g : Grow K H ι H' ι') (r : RS K mg H' ι' S) {n : Nat} (hn : n = (hi - lo).toNat) {W : WX} {σ : L2.St}
    (h : PostI K mg W σ H ι (.ok ⟨rangeL lo hi, always⟩ S) R) : R (Itr lo n) H' := by
  subst hn
  refine h (Itr lo (hi - lo).toNat) H' ι' g r (fun i d H2 ι2 S2 g2 r2 _ hd => ?_) fun H2 ι2 S2 g2 r2 _ => ?_
  · obtain ⟨h1, rfl⟩ := rangeL_get hd
    refine ⟨h1, fun x H3 hy => ?_⟩
    obtain ⟨rfl, rfl⟩ := hy
    exact ⟨ι2, .refl, r2, .int _⟩
  · show (hi - lo).toNat ≤ (rangeL lo hi).length
    rw [rangeL_length]; exact Nat.le_refl _
theorem si_range1 {tg : Expr} (hg : Gl X "range") (hm : X.mg "range" = none) (ha : SA X W [a] [m]) (hs : starEach [a] X.env = [(false, eval a X.env)] := by rfl) : SI X W tg (.Call (.Name "range" p) [a] [] pos) (rangeI [m]) := by
  refine pi_imp (pi_range1 hg hm ha hs) fun σ H R h => ?_
  obtain ⟨δ, S, ι, r, h⟩ := h
  refine ⟨δ, S, ι, r, ?_⟩
  unfold rangeI at h
  cases e1 : argsM [m] δ S with
  | stuck => simp only [e1] at h; exact h
  | exc y S1 => simp only [e1] at h; exact h
  | ok ds S1 =>
    simp only [e1, Res.bind_ok] at h
    intro vs H' ι' g r1 q1
    split at h
    · rename_i j
      obtain ⟨v, rfl, p⟩ := q1.one
      cases p
      split at h
      · rename_i hj
        unfold inRange at hj
        rw [Bool.and_eq_true, decide_eq_true_eq, decide_eq_true_eq] at hj
        exact ⟨j, rfl, hj.1, hj.2, range_go g r1 (by simp) h⟩
      · exact h.elim
    · rename_i i j
      have := q1.length
      unfold argsM at e1
      obtain ⟨d, S2, e2, e3⟩ := bind_inv e1
      obtain ⟨d', S3, e4, e5⟩ := bind_inv e3
      cases e4; cases e5
    · exact h.elim
theorem si_range2 {tg : Expr} (hg : Gl X "range") (hm : X.mg "range" = none) (ha : SA X W [a, b] [m, m']) (hs : starEach [a, b] X.env = [(false, eval a X.env), (false, eval b X.env)] := by rfl) (hs2 : starEach [b] X.env = [(false, eval b X.env)] := by rfl) : SI X W tg (.Call (.Name "range" p) [a, b] [] pos) (rangeI [m, m']) := by
  refine pi_imp (pi_range2 hg hm ha hs hs2) fun σ H R h => ?_
  obtain ⟨δ, S, ι, r, h⟩ := h
  refine ⟨δ, S, ι, r, ?_⟩
  unfold rangeI at h
  cases e1 : argsM [m, m'] δ S with
  | stuck => simp only [e1] at h; exact h
  | exc y S1 => simp only [e1] at h; exact h
  | ok ds S1 =>
    simp only [e1, Res.bind_ok] at h
    intro vs H' ι' g r1 q1
    split at h
    · rename_i j
      unfold argsM at e1
      obtain ⟨d, S2, e2, e3⟩ := bind_inv e1
      obtain ⟨d', S3, e4, e5⟩ := bind_inv e3
      unfold argsM at e4
      obtain ⟨d2, S4, e6, e7⟩ := bind_inv e4
      obtain ⟨d3, S5, e8, e9⟩ := bind_inv e7
      cases e9; cases e5
    · rename_i i j
      obtain ⟨v, u, rfl, p1, p2⟩ := q1.two
      cases p1; cases p2
      split at h
      · rename_i hj
        unfold inRange at hj
        simp only [Bool.and_eq_true, decide_eq_true_eq] at hj
        exact ⟨i, j, rfl, ⟨hj.1.1, hj.1.2, hj.2.1, hj.2.2⟩, range_go g r1 rfl h⟩
      · exact h.elim
    · exact h.elim
end
end Dl

end

section
set_option linter.all false
set_option Elab.async false
set_option maxRecDepth 100000
set_option Elab.async false
set_option linter.all false
set_option maxRecDepth 100000
set_option maxHeartbeats 4000000
namespace Dl
open PySem PySem.Spec PyProof.Rows L2

abbrev W0 : WX := fun _ _ _ _ => False
section
variable {X : Cx} {W : WX} {e o a b c elt tge iter : Expr} {es ifs : List Expr} {m m' : EM} {ms : List EM} {p pos apos : Pos} {k n lv : Nat} {x : Str}
abbrev STs (X : Cx) (W : WX) (e : List Expr) (m : TM) : Prop := PTs X e (cT X.K X.mg W m)
theorem sts_nil : STs X W [] yesT := ⟨fun pins s σ H Q I h => by
  obtain ⟨δ, S, ι, r, h⟩ := h
  exact pts_nil.run pins s σ H Q I (h H ι .refl r.sto)⟩
theorem sts_one {t : TM} (h : ST X W c t) : STs X W [c] t := pts_one h
theorem wipe_set {σ : L2.St} {i : Nat} {v : Option V} : ∀ {vs : List Nat}, i ∈ vs → L2.wipe (σ.set i v) vs = L2.wipe σ vs
  | [], h => by cases h
  | j :: vs, h => by
    unfold L2.wipe
    by_cases hj : i ∈ vs
    · rw [wipe_set hj]
    · have e : i = j := by
        rcases List.mem_cons.mp h with e | e
        · exact e
        · exact absurd e hj
      subst e
      have : ∀ (us : List Nat) (σ : L2.St), i ∉ us → L2.wipe (σ.set i v) us = (L2.wipe σ us).set i v := by
        intro us
        induction us with
        | nil => intro σ _; rfl
        | cons u us ih =>
          intro σ hu
          unfold L2.wipe
          simp only [List.mem_cons, not_or] at hu
          rw [ih σ hu.2, List.set_comm _ _ hu.1]
      rw [this vs σ hj, List.set_set]
theorem wipe_setAllV {vs : List Nat} : ∀ {is : List Nat} {ws : List V} {σ : L2.St}, (∀ i ∈ is, i ∈ vs) → L2.wipe (setAllV is ws σ) vs = L2.wipe σ vs
  | [], _, σ, _ => by simp [setAllV]
  | _ :: _, [], σ, _ => by simp [setAllV]
  | i :: is, w :: ws, σ, h => by
    unfold setAllV
    rw [wipe_setAllV (is := is) fun j hj => h j (List.mem_cons_of_mem _ hj), wipe_set (h i List.mem_cons_self)]
theorem wipe_putV {vs : List Nat} {tg : Tgt} {v : V} {ws : List V} {σ : L2.St} (h : ∀ i ∈ tg.names, i ∈ vs) : L2.wipe (tg.putV v ws σ) vs = L2.wipe σ vs := by
  cases tg with
  | nm i => exact wipe_set (h i (by simp [Tgt.names]))
  | tp is => exact wipe_setAllV h
theorem wipe_wipe {σ : L2.St} : ∀ {vs : List Nat}, L2.wipe (L2.wipe σ vs) vs = L2.wipe σ vs := fun {vs} => by
  have : ∀ (us : List Nat), (∀ u ∈ us, u ∈ vs) → L2.wipe (L2.wipe σ us) vs = L2.wipe σ vs := by
    intro us
    induction us with
    | nil => intro _; rfl
    | cons u us ih =>
      intro h
      show L2.wipe ((L2.wipe σ us).set u none) vs = _
      rw [wipe_set (h u List.mem_cons_self), ih fun z hz => h z (List.mem_cons_of_mem _ hz)]
  exact this vs fun _ h => h
theorem Rel.wipe {K : PySem.W.Frag} {mg : Str → Option Value} {H : Hp} {ι : List Addr} {S : Store} {σ : L2.St} {δ : Dl.Env} (r : Rel K mg H ι σ δ S) : ∀ vs : List Nat, Rel K mg H ι (L2.wipe σ vs) (Dl.wipe δ vs) S
  | [] => r
  | v :: vs => by
    have q := Rel.wipe r vs
    refine ⟨by simp [L2.wipe, Dl.wipe, q.len], fun i d e => ?_, q.sto⟩
    unfold Dl.wipe at e
    by_cases h : i = v
    · subst h
      rw [List.getElem?_set] at e
      simp at e
    · rw [List.getElem?_set_ne (Ne.symm h)] at e
      obtain ⟨w, e1, e2⟩ := q.env i d e
      exact ⟨w, by unfold L2.wipe; rw [List.getElem?_set_ne (Ne.symm h)]; exact e1, e2⟩
/-- [elt for tg in iter if ..] -/
theorem lc_run {K : PySem.W.Frag} {mg : Str → Option Value} {tg : Tgt} {own : List Nat} {im : IM} {tt : TM} {σ : L2.St} {H : Hp} {Q : VK} (hown : ∀ i ∈ tg.names, i ∈ own) (h : cE K mg W (lcM own im tg tt m) σ H Q) :
    tLc (cI K mg W im) (tg.g K) (cT K mg W0 tt) (cE K mg W0 m) own σ H Q := by
  obtain ⟨δ, S, ι, r, h⟩ := h
  refine ⟨δ, S, ι, r, ?_⟩
  have h : PostE K mg W σ H ι ((im δ S).bind fun s S1 => (lcLoop s.still S1.length (Dl.wipe δ own) tg tt m s.items (S1 ++ [.lst []])).bind fun _ S2 => .ok (.ref S1.length) S2) Q := h
  cases e1 : im δ S with
  | stuck => rw [e1] at h; exact h
  | exc y S1 => rw [e1] at h; exact h
  | ok s S1 =>
    rw [e1] at h
    intro J H1 ι1 g1 r1 hgo hst A hA
    have h := PostE.back g1 h
    simp only [Res.bind_ok] at h
    obtain ⟨g2, r2, p2⟩ := RS.newL r1 (ws := []) (ys := []) hA .nil
    have hn2 : (ι1 ++ [A])[S1.length]? = some A := by
      obtain ⟨_, q, q2⟩ := p2.ref_inv
      cases q; exact q2
    refine ⟨fun i m' H' => ∃ S' ι', i + m' = s.items.length ∧ Grow K H1 ι1 H' ι' ∧ Grow K (upd H1 A (.lst [])) (ι1 ++ [A]) H' ι' ∧ RS K mg H' ι' S' ∧ PostE K mg W σ H' ι' ((lcLoop s.still S1.length (Dl.wipe δ own) tg tt m (s.items.drop i) S').bind fun _ S2 => .ok (.ref S1.length) S2) Q,
      ⟨s.items.length, _, _, by simp, g2, .refl, r2, by simpa using PostE.back g2 h⟩, ?_⟩
    rintro i m' H' ⟨S', ι', hm, g, ga, rs, h⟩
    by_cases hi : i < s.items.length
    · have hd : s.items.drop i = s.items[i] :: s.items.drop (i + 1) := List.drop_eq_getElem_cons hi
      rw [hd] at h
      unfold lcLoop at h
      split at h
      · rename_i hstill
        obtain ⟨h1, h2⟩ := hgo i s.items[i] H' ι' S' g rs hstill (List.getElem?_eq_getElem hi)
        refine .inr ⟨h1, fun H' => ∃ S' ι', i + 1 + (m' - 1) = s.items.length ∧ Grow K H1 ι1 H' ι' ∧ Grow K (upd H1 A (.lst [])) (ι1 ++ [A]) H' ι' ∧ RS K mg H' ι' S' ∧ PostE K mg W σ H' ι' ((lcLoop s.still S1.length (Dl.wipe δ own) tg tt m (s.items.drop (i + 1)) S').bind fun _ S2 => .ok (.ref S1.length) S2) Q,
          fun H' hN => ⟨m' - 1, by omega, hN⟩, fun x H3 hy => ?_⟩
        obtain ⟨ι3, g3, r3, p3⟩ := h2 x H3 hy
        cases e : tg.put s.items[i] (Dl.wipe δ own) with
        | none => rw [e] at h; exact h.elim
        | some δ1 =>
          rw [e] at h
          have rl : Rel K mg H3 ι3 (L2.wipe σ own) (Dl.wipe δ own) S' := (Rel.wipe r own).mono (g1.trans (g.trans g3)) r3
          refine Tgt.run rl p3 e fun vs r4 => ⟨by rw [wipe_putV hown, wipe_wipe], δ1, S', ι3, r4, ?_⟩
          have h := PostE.back g3 h
          cases e2 : tt δ1 S' with
          | stuck => simp only [e2] at h; exact h
          | exc y S2 => simp only [e2] at h; exact h.elim
          | ok bb S2 =>
            simp only [e2, Res.nox_ok, Res.bind_ok] at h
            intro H4 ι4 g4 r5
            have h := PostE.back g4 h
            cases bb with
            | false => exact iteF ⟨S2, ι4, by omega, (g.trans g3).trans g4, (ga.trans g3).trans g4, r5, h⟩
            | true =>
              refine iteT ⟨δ1, S2, ι4, r4.mono g4 r5, ?_⟩
              simp only [if_true] at h
              cases e3 : m δ1 S2 with
              | stuck => simp only [e3] at h; exact h
              | exc y S3 => simp only [e3] at h; exact h.elim
              | ok d S3 =>
                simp only [e3, Res.nox_ok, Res.bind_ok] at h
                intro v H5 ι5 g5 r6 p6
                have h := PostE.back g5 h
                split at h
                · rename_i acc e4
                  split at h
                  · rename_i hl
                    have gA : Grow K (upd H1 A (.lst [])) (ι1 ++ [A]) H5 ι5 := ((ga.trans g3).trans g4).trans g5
                    have hA5 : ι5[S1.length]? = some A := pre_get gA.pre hn2
                    obtain ⟨ws, q1, q2⟩ := r6.lst hA5 e4
                    obtain ⟨g7, r7⟩ := r6.put (ws := ws ++ [v]) (ys := acc ++ [d]) hA5 q1 (q2.append (.cons p6 .nil))
                    refine ⟨ws, q1, by rw [q2.length, ← LIM_eq]; exact hl, ?_⟩
                    exact ⟨_, ι5, by omega, (((g.trans g3).trans g4).trans g5).trans g7, gA.trans g7, r7, PostE.back g7 h⟩
                  · exact h.elim
                · exact h.elim
      · exact h.elim
    · have e : i = s.items.length := by omega
      subst e
      rw [List.drop_length] at h
      unfold lcLoop at h
      split at h
      · rename_i hstill
        refine .inl ⟨hst H' ι' S' g rs hstill, ?_⟩
        exact h _ H' ι' .refl rs (.ref (pre_get ga.pre hn2))
      · exact h.elim
variable {scope : Scope} {own : List (Str × Nat)} {tg : Tgt} {im : IM} {tt : TM}
theorem se_lc (hc : X.calm = true) (hN : X.N.Nodup) (hi : SI X W tge iter im) (ok : blkC X.N X.env.scope scope own = true)
    (hg : ∀ (s : Shared) (H : Hp) (C : Addr) (cl : List (Str × Addr)) (fp : List Addr), SG (X.blk s H scope (compEnvC scope cl C X.env) fp) tge tg)
    (ht : ∀ (s : Shared) (H : Hp) (C : Addr) (cl : List (Str × Addr)) (fp : List Addr), STs (X.blk s H scope (compEnvC scope cl C X.env) fp) W0 ifs tt)
    (he : ∀ (s : Shared) (H : Hp) (C : Addr) (cl : List (Str × Addr)) (fp : List Addr), SE (X.blk s H scope (compEnvC scope cl C X.env) fp) W0 elt m)
    (hown : (tg.names.all fun i => (own.map (·.2)).contains i) = true := by rfl) (hs : ∀ x, foldedSetIterable iter X.env x = pure x := by intro _; rfl) :
    SE X W (.ListComp elt [⟨tge, iter, ifs, 0⟩] scope pos) (lcM (own.map (·.2)) im tg tt m) :=
  pe_imp (pe_lc hc hN hi (blkOk_by ok) hg ht he hs) fun σ H Q h => lc_run (fun i hi => by simpa using List.all_eq_true.mp hown i hi) h
/-- name = [..] where the name is stored within -/
theorem ss_setLc (i : Nat) {y : Str} {py spos : Pos} (hc : X.calm = true) (hN : X.N.Nodup) (hsw : swapsWith (.ListComp elt [⟨tge, iter, ifs, 0⟩] scope pos) (some (.Name y py)) spos.line X.env = pure true) (hi : SI X W tge iter im) (ok : blkC X.N X.env.scope scope own = true)
    (hg : ∀ (s : Shared) (H : Hp) (C : Addr) (cl : List (Str × Addr)) (fp : List Addr), SG (X.blk s H scope (compEnvC scope cl C X.env) fp) tge tg)
    (ht : ∀ (s : Shared) (H : Hp) (C : Addr) (cl : List (Str × Addr)) (fp : List Addr), STs (X.blk s H scope (compEnvC scope cl C X.env) fp) W0 ifs tt)
    (he : ∀ (s : Shared) (H : Hp) (C : Addr) (cl : List (Str × Addr)) (fp : List Addr), SE (X.blk s H scope (compEnvC scope cl C X.env) fp) W0 elt m)
    (hy : X.N[i]? = some y := by rfl) (hyl : X.env.scope.names.lookup y = some .local := by rfl)
    (hown : (tg.names.all fun i => (own.map (·.2)).contains i) = true := by rfl) (hs : ∀ x, foldedSetIterable iter X.env x = pure x := by intro _; rfl) :
    SS X W (.Assign [.Name y py] (.ListComp elt [⟨tge, iter, ifs, 0⟩] scope pos) spos) (setS (.nm i) (lcM (own.map (·.2)) im tg tt m)) :=
  ps_imp (ps_setLc hc hN hy hyl hsw hi (blkOk_by ok) hg ht he hs) fun D σ H q => asg_run (tg := .nm i) (fun h => lc_run (fun i hi => by simpa using List.all_eq_true.mp hown i hi) h) q
end
end Dl

end

section
set_option linter.all false
set_option Elab.async false
set_option maxRecDepth 100000
set_option Elab.async false
set_option linter.all false
set_option maxRecDepth 100000
set_option maxHeartbeats 4000000
namespace Dl
open PySem PySem.Spec PyProof.Rows L2

section
variable {X : Cx} {W : WX} {e o a b c elt tge iter : Expr} {es ifs : List Expr} {m m' : EM} {ms : List EM} {p pos apos : Pos} {k n lv : Nat} {x : Str} {f : FM} {id T : String} {r : List V → Hp → VK → Prop}
/-! ### built-ins by name -/
theorem se_callB (hc : CallR X (.builtin id) r) (s : SimN X.K X.mg r f) (hg : Gl X x) (hm : X.mg x = none) (hv : bootBuiltins x = some (.builtin id)) (ha : SA X W (e :: es) ms) (hn : x ≠ "__name__" := by decide) (hdb : (x == ("__debug__" : Str)) = false := by decide)
    (he : starEach (e :: es) X.env = (false, eval e X.env) :: starEach es X.env := by rfl) (hpl : (backTo pos (starEach es X.env)).any (·.1) = false := by rfl) : SE X W (.Call (.Name x p) (e :: es) [] pos) (callM f ms) :=
  pe_imp (pe_callB hc hg hm hv ha hn hdb he hpl) fun _ _ _ h => callN s h
theorem se_callTy (hc : CallR X (.type T) r) (s : SimN X.K X.mg r f) (hg : Gl X x) (hm : X.mg x = none) (hv : bootBuiltins x = some (.type T)) (ha : SA X W (e :: es) ms) (hn : x ≠ "__name__" := by decide) (hdb : (x == ("__debug__" : Str)) = false := by decide)
    (he : starEach (e :: es) X.env = (false, eval e X.env) :: starEach es X.env := by rfl) (hpl : (backTo pos (starEach es X.env)).any (·.1) = false := by rfl) : SE X W (.Call (.Name x p) (e :: es) [] pos) (callM f ms) :=
  pe_imp (pe_callTy hc hg hm hv ha hn hdb he hpl) fun _ _ _ h => callN s h
theorem Rkv.length {K : PySem.W.Frag} {mg : Str → Option Value} {H : Hp} {ι : List Addr} : ∀ {vs : List (Key × V)} {ds : List (D × D)}, Rkv K mg H ι vs ds → vs.length = ds.length
  | _, _, .nil => rfl
  | _, _, .cons _ h => by simp [Rkv.length h]
def rLenA (K : PySem.W.Frag) : List V → Hp → VK → Prop := fun xs H Q => (∃ p ys, xs = [.ref p] ∧ (SqL K H p ys ∨ SqT K H p ys) ∧ Q (.int ys.length) H) ∨ (∃ z, xs = [.str z] ∧ z.length ≤ sizeLine ∧ Q (.int z.length) H) ∨ (∃ d kvs, xs = [.ref d] ∧ H d = some (.dK kvs) ∧ Q (.int kvs.length) H)
theorem sim_len {K : PySem.W.Frag} {mg : Str → Option Value} : SimN K mg (rLenA K) lenP where
  run := fun xs ds H S ι d S' Q r q e h => by
    unfold lenP at e
    split at e
    · obtain ⟨hl, rfl, rfl⟩ := ite_ok e
      obtain ⟨v, rfl, p⟩ := q.one
      cases p
      refine .inr (.inl ⟨_, rfl, by rw [toS_length, ← LIM_eq]; exact hl, ?_⟩)
      rw [toS_length]
      exact h _ H ι .refl r (.int _)
    · cases e
      obtain ⟨v, rfl, p⟩ := q.one
      obtain ⟨a, vs, rfl, h1, _, h2⟩ := p.tup_inv
      exact .inl ⟨a, vs, rfl, .inr h1, by rw [h2.length]; exact h _ H ι .refl r (.int _)⟩
    · cases e
      obtain ⟨v, rfl, p⟩ := q.one
      obtain ⟨a, vs, rfl, h1, _, h2⟩ := p.lit_inv
      exact .inl ⟨a, vs, rfl, .inl h1, by rw [h2.length]; exact h _ H ι .refl r (.int _)⟩
    · rename_i n
      obtain ⟨v, rfl, p⟩ := q.one
      obtain ⟨a, rfl, ha⟩ := p.ref_inv
      split at e
      · rename_i ys e1
        cases e
        obtain ⟨vs, h1, h2⟩ := r.lst ha e1
        exact .inl ⟨a, vs, rfl, .inl (.inl (.inl h1)), by rw [h2.length]; exact h _ H ι .refl r (.int _)⟩
      · rename_i ys e1
        cases e
        obtain ⟨vs, h1, h2⟩ := r.at_ n _ a e1 ha
        exact .inr (.inr ⟨a, vs, rfl, h1, by rw [h2.length]; exact h _ H ι .refl r (.int _)⟩)
      · cases e
    · cases e
  nox := fun ds S x S' z => by
    unfold lenP at z
    repeat (first | cases z | exact ite_exc z | split at z)
theorem se_len (hg : Gl X "len") (hm : X.mg "len" = none) (ha : SA X W [e] [m]) (he : starEach [e] X.env = (false, eval e X.env) :: starEach [] X.env := by rfl) : SE X W (.Call (.Name "len" p) [e] [] pos) (callM lenP [m]) :=
  se_callB (call_len_seq.or (call_len_str.or call_lenD)) sim_len hg hm PySem.boot_len ha (he := he)
theorem csInt_text {x : Cs} {n : Int} (h : csInt x = some n) (hl : x.length ≤ 640) : PySem.intText? (toS x) = some n := by
  have all : ∀ {r : Cs}, r.all isDigit = true → NumText.AllDigits r := fun {r} h c hc => by
    have := List.all_eq_true.mp h c hc
    simpa [isDigit] using this
  unfold csInt at h
  split at h
  · cases h
  · rename_i r
    split at h
    · rename_i hc
      cases h
      have := intText_neg (x := toS (45 :: r)) (cs := r) (toS_list _) (all hc.2) hc.1 (by rw [toS_length]; omega)
      exact this
    · cases h
  · rename_i c r _
    split at h
    · rename_i hc
      cases h
      have := intText_digits (x := toS (c :: r)) (by rw [toS_list]; exact all hc) (by rw [toS_list]; simp) (by rw [toS_length]; omega)
      rw [toS_list] at this
      exact this
    · cases h
theorem sim_int {K : PySem.W.Frag} {mg : Str → Option Value} : SimN K mg (fun xs H Q => ((∃ i, xs = [.int i] ∧ Q (.int i) H) ∨ ∃ k, xs = [.bl k] ∧ Q (.int (if k then 1 else 0)) H) ∨ ∃ a n, xs = [.str a] ∧ PySem.intText? a = some n ∧ a.length ≤ 640 ∧ Q (.int n) H) intP where
  run := fun xs ds H S ι d S' Q r q e h => by
    unfold intP at e
    split at e
    · split at e
      · rename_i hl
        split at e
        · rename_i n e1
          cases e
          obtain ⟨v, rfl, p⟩ := q.one
          cases p
          exact .inr ⟨_, n, rfl, csInt_text e1 hl, by rw [toS_length]; exact hl, h _ H ι .refl r (.int _)⟩
        · cases e
      · cases e
    · cases e
      obtain ⟨v, rfl, p⟩ := q.one
      cases p
      exact .inl (.inl ⟨_, rfl, h _ H ι .refl r (.int _)⟩)
    · cases e
      obtain ⟨v, rfl, p⟩ := q.one
      cases p
      exact .inl (.inr ⟨_, rfl, h _ H ι .refl r (.int _)⟩)
    · cases e
  nox := fun ds S x S' z => by
    unfold intP at z
    repeat (first | cases z | exact ite_exc z | split at z)
theorem se_intP (hg : Gl X "int") (hm : X.mg "int" = none) (ha : SA X W [e] [m]) (he : starEach [e] X.env = (false, eval e X.env) :: starEach [] X.env := by rfl) : SE X W (.Call (.Name "int" p) [e] [] pos) (callM intP [m]) :=
  se_callTy (call_int1.or call_int_str) sim_int hg hm boot_int ha (he := he)
theorem intCs_toS (i : Int) : Str.ofString (toString i) = toS (intCs i) := by
  rw [Str.ofString_eq_toList]
  unfold toS intCs natCs
  congr 1
  cases i with
  | ofNat n =>
    have h : ¬ (Int.ofNat n < 0) := by simp
    rw [if_neg h]
    have : (toString (Int.ofNat n)).toList = Nat.toDigits 10 n := by
      show (toString n).toList = _
      rw [Nat.toString_eq_repr, Nat.repr]; simp
    rw [this]; rfl
  | negSucc n =>
    have h : Int.negSucc n < 0 := Int.negSucc_lt_zero n
    rw [if_pos h]
    have : (toString (Int.negSucc n)).toList = '-' :: Nat.toDigits 10 (n + 1) := by
      show ("-" ++ toString (n + 1)).toList = _
      rw [String.toList_append, Nat.toString_eq_repr, Nat.repr]; simp
    rw [this]; rfl
theorem log_small {n : Nat} (h : n < 2 ^ 1900) : n.log2 < 1920 := by
  by_cases h0 : n = 0
  · subst h0; decide
  · have := (Nat.log2_lt h0).mpr h
    omega
theorem sim_str {K : PySem.W.Frag} {mg : Str → Option Value} : SimN K mg (fun xs H Q => ∃ i, xs = [.int i] ∧ i.natAbs.log2 < 1920 ∧ Q (.str (toString i)) H) strP where
  run := fun xs ds H S ι d S' Q r q e h => by
    unfold strP at e
    split at e
    · rename_i i
      obtain ⟨hl, rfl, rfl⟩ := ite_ok e
      obtain ⟨v, rfl, p⟩ := q.one
      cases p
      refine ⟨_, rfl, log_small hl, ?_⟩
      show Q (.str (Str.ofString (toString i))) H
      rw [intCs_toS]
      exact h _ H ι .refl r (.str _)
    · cases e
  nox := fun ds S x S' z => by
    unfold strP at z
    repeat (first | cases z | exact ite_exc z | split at z)
theorem se_str' (hg : Gl X "str") (hm : X.mg "str" = none) (ha : SA X W [e] [m]) (he : starEach [e] X.env = (false, eval e X.env) :: starEach [] X.env := by rfl) : SE X W (.Call (.Name "str" p) [e] [] pos) (callM strP [m]) :=
  se_callTy call_str_int sim_str hg hm (by decide +kernel) ha (he := he)
theorem sim_list {K : PySem.W.Frag} {mg : Str → Option Value} : SimN K mg (fun xs H Q => ∃ p ys, xs = [.ref p] ∧ (SqL K H p ys ∨ SqT K H p ys) ∧ ∀ l, H l = none → Q (.ref l) (upd H l (.lst ys))) listP where
  run := fun xs ds H S ι d S' Q r q e h => by
    unfold listP at e
    split at e
    · obtain ⟨v, rfl, p⟩ := q.one
      obtain ⟨a, rfl, ha⟩ := p.ref_inv
      split at e
      · rename_i ys e1
        cases e
        obtain ⟨vs, h1, h2⟩ := r.lstAt ha e1
        refine ⟨a, vs, rfl, .inl h1, fun l hl => ?_⟩
        obtain ⟨g, r', q'⟩ := r.newL hl h2
        exact h _ _ _ g r' q'
      · cases e
    · cases e
      obtain ⟨v, rfl, p⟩ := q.one
      obtain ⟨a, vs, rfl, h1, _, h2⟩ := p.tup_inv
      refine ⟨a, vs, rfl, .inr h1, fun l hl => ?_⟩
      obtain ⟨g, r', q'⟩ := r.newL hl h2
      exact h _ _ _ g r' q'
    · cases e
      obtain ⟨v, rfl, p⟩ := q.one
      obtain ⟨a, vs, rfl, h1, _, h2⟩ := p.lit_inv
      refine ⟨a, vs, rfl, .inl h1, fun l hl => ?_⟩
      obtain ⟨g, r', q'⟩ := r.newL hl h2
      exact h _ _ _ g r' q'
    · cases e
  nox := fun ds S x S' z => by
    unfold listP at z
    repeat (first | cases z | exact ite_exc z | split at z)
theorem se_list (hg : Gl X "list") (hm : X.mg "list" = none) (ha : SA X W [e] [m]) (he : starEach [e] X.env = (false, eval e X.env) :: starEach [] X.env := by rfl) : SE X W (.Call (.Name "list" p) [e] [] pos) (callM listP [m]) :=
  se_callTy call_list_of sim_list hg hm boot_list ha (he := he)
theorem SqL.len {K : PySem.W.Frag} {H : Hp} {a : Addr} {xs : List V} : True := trivial
/-- tuple(list): the model's own bound on lengths is asked -/
theorem call_tuple_ofL : CallR X (.type "tuple") (fun xs H Q => ∃ p ys, xs = [.ref p] ∧ ((SqL X.K H p ys ∧ (ys.length ≤ sizeLine → ∀ l, H l = none → Q (.ref l) (upd H l (.tup ys)))) ∨ (SqT X.K H p ys ∧ Q (.ref p) H))) := by
  intro pins s σ H xs us Q I r h
  obtain ⟨p, ys, rfl, h⟩ := h
  rcases h with ⟨h1, h2⟩ | h
  · obtain ⟨_, _, _, hz⟩ := I.list h1
    exact call_tuple_of pins s σ H _ us Q I r ⟨p, ys, rfl, .inl ⟨h1, h2 hz⟩⟩
  · exact call_tuple_of pins s σ H _ us Q I r ⟨p, ys, rfl, .inr h⟩
theorem sim_tuple {K : PySem.W.Frag} {mg : Str → Option Value} : SimN K mg (fun xs H Q => ∃ p ys, xs = [.ref p] ∧ ((SqL K H p ys ∧ (ys.length ≤ sizeLine → ∀ l, H l = none → Q (.ref l) (upd H l (.tup ys)))) ∨ (SqT K H p ys ∧ Q (.ref p) H))) tupleP where
  run := fun xs ds H S ι d S' Q r q e h => by
    unfold tupleP at e
    split at e
    · obtain ⟨v, rfl, p⟩ := q.one
      obtain ⟨a, rfl, ha⟩ := p.ref_inv
      split at e
      · rename_i ys e1
        cases e
        obtain ⟨vs, h1, h2⟩ := r.lstAt ha e1
        refine ⟨a, vs, rfl, .inl ⟨h1, fun hz l hl => ?_⟩⟩
        obtain ⟨g, r', q'⟩ := r.mkT hl hz h2
        exact h _ _ _ g r' q'
      · cases e
    · cases e
      obtain ⟨v, rfl, p⟩ := q.one
      obtain ⟨a, vs, rfl, h1, h2, h3⟩ := p.tup_inv
      exact ⟨a, vs, rfl, .inr ⟨h1, h _ H ι .refl r (.tup h1 h2 h3)⟩⟩
    · cases e
  nox := fun ds S x S' z => by
    unfold tupleP at z
    repeat (first | cases z | exact ite_exc z | split at z)
theorem se_tuple (hg : Gl X "tuple") (hm : X.mg "tuple" = none) (ha : SA X W [e] [m]) (he : starEach [e] X.env = (false, eval e X.env) :: starEach [] X.env := by rfl) : SE X W (.Call (.Name "tuple" p) [e] [] pos) (callM tupleP [m]) :=
  se_callTy call_tuple_ofL sim_tuple hg hm boot_tuple ha (he := he)

/-! ### methods of built-in types -/
structure SimM (K : PySem.W.Frag) (mg : Str → Option Value) (r : V → List V → Hp → VK → Prop) (f : FM) : Prop where
  run : ∀ (x : V) (xs : List V) (dx : D) (ds : List D) (H : Hp) (S : Store) (ι : List Addr) (d : D) (S' : Store) (Q : VK), RS K mg H ι S → Rp K mg H ι x dx → Rps K mg H ι xs ds → f (dx :: ds) S = .ok d S' →
    (∀ v H' ι', Grow K H ι H' ι' → RS K mg H' ι' S' → Rp K mg H' ι' v d → Q v H') → r x xs H Q
  nox : ∀ ds S e S', f ds S ≠ .exc e S'
theorem tyV_of {K : PySem.W.Frag} {mg : Str → Option Value} {H : Hp} {ι : List Addr} {S : Store} {v : V} {d : D} {T : String} (r : RS K mg H ι S) (p : Rp K mg H ι v d) (e : tyN d S = some T) (hT : T = "list" ∨ T = "str") : tyV K T v H := by
  cases d with
  | str x => cases p; cases e; rfl
  | ref n =>
    obtain ⟨a, rfl, ha⟩ := p.ref_inv
    unfold tyN at e
    simp only at e
    split at e
    · rename_i xs e1; cases e
      obtain ⟨vs, h1, _⟩ := r.lst ha e1
      exact .inl ⟨rfl, vs, .inl (.inl h1)⟩
    · cases e
      rcases hT with h | h <;> exact absurd h (by decide)
    · cases e
  | lit xs =>
    obtain ⟨a, vs, rfl, h1, _, _⟩ := p.lit_inv
    cases e
    exact .inl ⟨rfl, vs, h1⟩
  | _ => cases e <;> (rcases hT with h | h <;> exact absurd h (by decide))
theorem meth_run {K : PySem.W.Frag} {mg : Str → Option Value} {σ : L2.St} {H : Hp} {Q : VK} {r : V → List V → Hp → VK → Prop} (s : SimM K mg r f) (hT : T = "list" ∨ T = "str") (h : cE K mg W (methM T f m ms) σ H Q) : tBM K T r (cE K mg W m) (cA K mg W (argsM ms)) σ H Q := by
  obtain ⟨δ, S, ι, rl, h⟩ := h
  refine ⟨δ, S, ι, rl, ?_⟩
  have h : PostE K mg W σ H ι ((m δ S).bind fun d S1 => if tyN d S1 = some T then (argsM ms δ S1).bind fun ds S2 => f (d :: ds) S2 else .stuck) Q := h
  refine PostE.seq h fun v H1 ι1 d S1 _ g1 r1 p1 h1 => ?_
  split at h1
  · rename_i ht
    refine ⟨tyV_of r1 p1 ht hT, δ, S1, ι1, rl.mono g1 r1, PostA.seq h1 fun vs H2 ι2 ds S2 _ g2 r2 q2 h2 => ?_⟩
    cases e : f (d :: ds) S2 with
    | stuck => rw [e] at h2; exact h2.elim
    | exc y S3 => exact (s.nox _ _ _ _ e).elim
    | ok z S3 => rw [e] at h2; exact s.run v vs d ds H2 S2 ι2 z S3 Q r2 (p1.mono g2) q2 e h2
  · exact h1.elim
theorem meth_run0 {K : PySem.W.Frag} {mg : Str → Option Value} {σ : L2.St} {H : Hp} {Q : VK} {r : V → List V → Hp → VK → Prop} (s : SimM K mg r f) (hT : T = "list" ∨ T = "str") (h : cE K mg W (methM T f m []) σ H Q) : tBM0 K T r (cE K mg W m) σ H Q := by
  obtain ⟨δ, S, ι, rl, h⟩ := meth_run s hT h
  refine ⟨δ, S, ι, rl, PostE.imp h fun v H' q => ⟨q.1, ?_⟩⟩
  obtain ⟨δ', S', ι', rl', q'⟩ := q.2
  exact q' [] H' ι' .refl rl'.sto .nil
/-- o.name(e, ..), o.name(): a method of a built-in type -/
theorem se_bm {name : Str} {apos : Pos} {r : V → List V → Hp → VK → Prop} (pa : PlainAttrs T) (slot : Slot T name id) (hty : typeOf (.builtin id) = pure (.type "method_descriptor")) (hm : MtR X id r) (s : SimM X.K X.mg r f) (hT : T = "list" ∨ T = "str") (ho : SE X W o m) (ha : SA X W (e :: es) ms)
    (hbase : attributeBase o name X.env (eval o X.env) = eval o X.env := by rfl)
    (hfew : ((backTo pos (starEach (e :: es) X.env)).all (fun x => !x.1) && (backToKw pos (keywordEach [] X.env)).all (fun x => x.1.isSome)
      && decide ((e :: es).length + ([] : List Keyword).length + (if ([] : List Keyword).isEmpty then 0 else 1) < 30)) = true := by rfl)
    (hline : (apos.endLine == pos.line) = true := by rfl) (hs : starEach (e :: es) X.env = (false, eval e X.env) :: starEach es X.env := by rfl) (hplain : (backTo pos (starEach es X.env)).any (·.1) = false := by rfl) :
    SE X W (.Call (.Attribute o name apos) (e :: es) [] pos) (methM T f m ms) :=
  pe_imp (pe_bm pa slot hty hm ho ha hbase hfew hline hs hplain) fun _ _ _ h => meth_run s hT h
theorem se_bm0 {name : Str} {apos : Pos} {r : V → List V → Hp → VK → Prop} (pa : PlainAttrs T) (slot : Slot T name id) (hty : typeOf (.builtin id) = pure (.type "method_descriptor")) (hm : MtR X id r) (s : SimM X.K X.mg r f) (hT : T = "list" ∨ T = "str") (ho : SE X W o m)
    (hbase : attributeBase o name X.env (eval o X.env) = eval o X.env := by rfl) (hline : (apos.endLine == pos.line) = true := by rfl) :
    SE X W (.Call (.Attribute o name apos) [] [] pos) (methM T f m []) :=
  pe_imp (pe_bm0 pa slot hty hm ho hbase hline) fun _ _ _ h => meth_run0 s hT h
theorem sim_append {K : PySem.W.Frag} {mg : Str → Option Value} : SimM K mg rAppend appendP where
  run := fun x xs dx ds H S ι d S' Q r px q e h => by
    unfold appendP at e
    split at e
    · rename_i n z e0
      cases e0
      split at e
      · rename_i ys e1
        obtain ⟨hl, rfl, rfl⟩ := ite_ok e
        obtain ⟨v, rfl, p⟩ := q.one
        obtain ⟨a, rfl, ha⟩ := px.ref_inv
        obtain ⟨vs, h1, h2⟩ := r.lst ha e1
        obtain ⟨g, r'⟩ := r.put ha h1 (h2.append (.cons p .nil))
        exact ⟨a, vs, v, rfl, rfl, h1, by rw [h2.length, ← LIM_eq]; exact hl, h _ _ ι g r' .non⟩
      · cases e
    · cases e
  nox := fun ds S x S' z => by
    unfold appendP at z
    repeat (first | cases z | exact ite_exc z | split at z)
theorem sim_insert {K : PySem.W.Frag} {mg : Str → Option Value} : SimM K mg (fun x vs H Q => ∃ (l : Addr) (xs : List V) (i : Int) (y : V), x = .ref l ∧ vs = [.int i, y] ∧ H l = some (.lst xs) ∧ xs.length < sizeLine ∧ 0 ≤ i ∧ i < 2 ^ 63 ∧
    Q .non (upd H l (.lst (xs.take i.toNat ++ [y] ++ xs.drop i.toNat)))) insertP where
  run := fun x xs dx ds H S ι d S' Q r px q e h => by
    unfold insertP at e
    split at e
    · rename_i n i z e0
      cases e0
      split at e
      · rename_i ys e1
        obtain ⟨⟨hl, h0, hi⟩, rfl, rfl⟩ := ite_ok e
        obtain ⟨v, u, rfl, p, p'⟩ := q.two
        cases p
        obtain ⟨a, rfl, ha⟩ := px.ref_inv
        obtain ⟨vs, h1, h2⟩ := r.lst ha e1
        obtain ⟨g, r'⟩ := r.put ha h1 (((h2.take i.toNat).append (.cons p' .nil)).append (h2.drop i.toNat))
        exact ⟨a, vs, i, u, rfl, rfl, h1, by rw [h2.length, ← LIM_eq]; exact hl, h0, by omega, h _ _ ι g r' .non⟩
      · cases e
    · cases e
  nox := fun ds S x S' z => by
    unfold insertP at z
    repeat (first | cases z | exact ite_exc z | split at z)
theorem sim_pop {K : PySem.W.Frag} {mg : Str → Option Value} : SimM K mg rPop popP where
  run := fun x xs dx ds H S ι d S' Q r px q e h => by
    unfold popP at e
    split at e
    · rename_i n e0
      cases e0
      cases q
      split at e
      · rename_i ys e1
        split at e
        · rename_i z e2
          cases e
          obtain ⟨a, rfl, ha⟩ := px.ref_inv
          obtain ⟨vs, h1, h2⟩ := r.lst ha e1
          obtain ⟨v, q1, q2⟩ := h2.get e2
          obtain ⟨g, r'⟩ := r.put ha h1 h2.dropLast
          exact ⟨a, vs, v, rfl, rfl, h1, by rw [h2.length]; exact q1, h _ _ ι g r' (q2.mono g)⟩
        · cases e
      · cases e
    · cases e
  nox := fun ds S x S' z => by
    unfold popP at z
    repeat (first | cases z | exact ite_exc z | split at z)
theorem sim_reverse {K : PySem.W.Frag} {mg : Str → Option Value} : SimM K mg rReverse reverseP where
  run := fun x xs dx ds H S ι d S' Q r px q e h => by
    unfold reverseP at e
    split at e
    · rename_i n e0
      cases e0
      cases q
      split at e
      · rename_i ys e1
        cases e
        obtain ⟨a, rfl, ha⟩ := px.ref_inv
        obtain ⟨vs, h1, h2⟩ := r.lst ha e1
        obtain ⟨g, r'⟩ := r.put ha h1 h2.reverse
        exact ⟨a, vs, rfl, rfl, h1, h _ _ ι g r' .non⟩
      · cases e
    · cases e
  nox := fun ds S x S' z => by
    unfold reverseP at z
    repeat (first | cases z | exact ite_exc z | split at z)
end
end Dl

end

section
set_option linter.all false
set_option Elab.async false
set_option maxRecDepth 100000
set_option Elab.async false
set_option linter.all false
set_option maxRecDepth 100000
set_option maxHeartbeats 4000000
namespace Dl
open PySem PySem.Spec PyProof.Rows L2

def tyNames : List String := ["NoneType", "bool", "int", "str", "tuple", "list", "dict"]
def tyAsk : List String := ["bool", "int", "str", "tuple", "list", "dict"]
theorem kit_table : ∀ t ∈ tyNames, ∀ T ∈ tyAsk, kitB t T = some (isTy t T) := by decide +kernel
theorem tyN_mem {d : D} {S : Store} {t : String} (h : tyN d S = some t) : t ∈ tyNames := by
  unfold tyN at h
  split at h <;> first
    | (cases h; decide)
    | (split at h <;> first | (cases h; decide) | cases h)
    | cases h
section
variable {X : Cx} {W : WX} {e o a b c elt tge iter : Expr} {es ifs : List Expr} {m m' : EM} {ms : List EM} {p pos apos : Pos} {k n lv : Nat} {x : Str} {f : FM} {id T : String} {r : List V → Hp → VK → Prop}
theorem tyX_of {K : PySem.W.Frag} {mg : Str → Option Value} {H : Hp} {ι : List Addr} {S : Store} {v : V} {d : D} {t : String} (r : RS K mg H ι S) (p : Rp K mg H ι v d) (h : tyN d S = some t) : TyX K H v (.type t) := by
  cases d with
  | non => cases p; cases h; exact .base .non
  | bl b => cases p; cases h; exact .base (.bl b)
  | int b => cases p; cases h; exact .base (.int b)
  | str b => cases p; cases h; exact .base (.str _)
  | tup xs =>
    obtain ⟨a, vs, rfl, h1, _, _⟩ := p.tup_inv
    cases h
    rcases h1 with (h1 | ⟨u, h1⟩) | ⟨o, its, nn, h1, h2, _⟩
    · exact .base (.tup h1)
    · exact .fTuple h1
    · exact .kTuple h1 h2
  | ref n =>
    obtain ⟨a, rfl, ha⟩ := p.ref_inv
    unfold tyN at h
    simp only at h
    split at h
    · rename_i xs e1; cases h
      obtain ⟨vs, h1, _⟩ := r.lst ha e1
      exact .base (.lst h1)
    · rename_i xs e1; cases h
      obtain ⟨vs, h1, _⟩ := r.at_ n _ a e1 ha
      exact .base (.dK h1)
    · cases h
  | fn x => cases h
  | lit xs =>
    cases h
    cases p with
    | lit h1 _ _ =>
    rcases h1 with ⟨o, h1⟩ | ((h1 | ⟨_, h1⟩) | ⟨o, its, nn, h1, h2, _⟩)
    · exact .base (.frz h1)
    · cases h1
    · cases h1
    · exact .kList h1 h2
theorem isP_inv {Ts : List String} {d z : D} {S S' : Store} (e : isP Ts [d] S = .ok z S') : ∃ t, tyN d S = some t ∧ z = .bl (Ts.any fun T => isTy t T) ∧ S' = S := by
  unfold isP at e
  simp only at e
  split at e
  · rename_i t ht; cases e; exact ⟨t, ht, rfl, rfl⟩
  · cases e
theorem isP_nox {Ts : List String} (ds : List D) (S : Store) (x : Exc) (S' : Store) : isP Ts ds S ≠ .exc x S' := fun z => by
  unfold isP at z
  repeat (first | cases z | split at z)
theorem se_is (T : String) {xT : Str} (hT : T ∈ tyAsk) (hg : Gl X "isinstance") (hm : X.mg "isinstance" = none) (hgT : Gl X xT) (hmT : X.mg xT = none) (hv : bootBuiltins xT = some (.type T)) (ha : SE X W e m) {pT : Pos}
    (hn : xT ≠ "__name__" := by decide) (hd : (xT == ("__debug__" : Str)) = false := by decide)
    (he : starEach [e, .Name xT pT] X.env = (false, eval e X.env) :: starEach [.Name xT pT] X.env := by rfl) (he2 : starEach [.Name xT pT] X.env = (false, eval (.Name xT pT) X.env) :: starEach [] X.env := by rfl) (hpl : (backTo pos (starEach [.Name xT pT] X.env)).any (·.1) = false := by rfl) :
    SE X W (.Call (.Name "isinstance" p) [e, .Name xT pT] [] pos) (callM (isP [T]) [m]) := by
  refine pe_imp (pe_callB call_isi hg hm (by decide +kernel) (pa_cons ha (pa_cons (pe_bltn (v := .ty T) hgT hmT hv rfl hn hd) pa_nil (hs := he2)) (hs := he)) (he := he) (hpl := hpl)) fun σ H Q h => ?_
  refine call1 h (fun v H Q => rIsi X.K [v, .ty T] H Q) fun v d H ι S Q r p h => ?_
  cases e1 : isP [T] [d] S with
  | stuck => rw [e1] at h; exact h.elim
  | exc y S1 => exact (isP_nox _ _ _ _ e1).elim
  | ok z S1 =>
    rw [e1] at h
    obtain ⟨t, ht, rfl, rfl⟩ := isP_inv e1
    have hk := kit_table t (tyN_mem ht) T hT
    refine ⟨v, .ty T, .type t, .type T, isTy t T, rfl, .ty T, tyX_of r p ht, kit_ty hk, ?_⟩
    have := h (.bl (isTy t T)) H ι .refl r
    simp only [List.any_cons, List.any_nil, Bool.or_false] at this
    exact this (.bl _)
/-- isinstance(e, (T, U)) -/
theorem se_is2 (T U : String) {xT xU : Str} (hT : T ∈ tyAsk) (hU : U ∈ tyAsk) (hg : Gl X "isinstance") (hm : X.mg "isinstance" = none) (hgT : Gl X xT) (hmT : X.mg xT = none) (hv : bootBuiltins xT = some (.type T)) (hgU : Gl X xU) (hmU : X.mg xU = none) (hvU : bootBuiltins xU = some (.type U)) (ha : SE X W e m) {pT pU pos2 : Pos} {kk}
    (hn : xT ≠ "__name__" := by decide) (hd : (xT == ("__debug__" : Str)) = false := by decide) (hnU : xU ≠ "__name__" := by decide) (hdU : (xU == ("__debug__" : Str)) = false := by decide)
    (he : starEach [e, .Tuple [.Name xT pT, .Name xU pU] kk pos2] X.env = (false, eval e X.env) :: starEach [.Tuple [.Name xT pT, .Name xU pU] kk pos2] X.env := by rfl)
    (he2 : starEach [.Tuple [.Name xT pT, .Name xU pU] kk pos2] X.env = (false, eval (.Tuple [.Name xT pT, .Name xU pU] kk pos2) X.env) :: starEach [] X.env := by rfl)
    (he3 : starEach [.Name xT pT, .Name xU pU] X.env = (false, eval (.Name xT pT) X.env) :: starEach [.Name xU pU] X.env := by rfl)
    (he4 : starEach [.Name xU pU] X.env = (false, eval (.Name xU pU) X.env) :: starEach [] X.env := by rfl)
    (hpl : (backTo pos (starEach [.Tuple [.Name xT pT, .Name xU pU] kk pos2] X.env)).any (·.1) = false := by rfl) :
    SE X W (.Call (.Name "isinstance" p) [e, .Tuple [.Name xT pT, .Name xU pU] kk pos2] [] pos) (callM (isP [T, U]) [m]) := by
  refine pe_imp (pe_callB call_isiT hg hm (by decide +kernel) (pa_cons ha (pa_cons (pe_tup (pa_cons (pe_bltn (v := .ty T) hgT hmT hv rfl hn hd) (pa_cons (pe_bltn (v := .ty U) hgU hmU hvU rfl hnU hdU) pa_nil (hs := he4)) (hs := he3))) pa_nil (hs := he2)) (hs := he)) (he := he) (hpl := hpl)) fun σ H Q h => ?_
  refine call1 h (fun v H Q => [V.ty T, V.ty U].length ≤ sizeLine ∧ ∀ pp, H pp = none → rIsiT X.K [v, .ref pp] (upd H pp (.tup [.ty T, .ty U])) Q) fun v d H ι S Q r p h => ?_
  cases e1 : isP [T, U] [d] S with
  | stuck => rw [e1] at h; exact h.elim
  | exc y S1 => exact (isP_nox _ _ _ _ e1).elim
  | ok z S1 =>
    rw [e1] at h
    obtain ⟨t, ht, rfl, rfl⟩ := isP_inv e1
    have hk := kit_table t (tyN_mem ht) T hT
    have hk2 := kit_table t (tyN_mem ht) U hU
    refine ⟨by show 2 ≤ sizeLine; decide, fun pp hp => ?_⟩
    have g : Grow X.K H ι (upd H pp (.tup [.ty T, .ty U])) ι := Grow.new hp
    refine ⟨v, pp, [.ty T, .ty U], .type t, [.type T, .type U], isTy t T || isTy t U, rfl, upd_same, .cons (.ty T) (.cons (.ty U) .nil), tyX_of (r.new hp) (p.mono g) ht, ?_, ?_⟩
    · refine kitAny_cons (kit_ty hk) (fun hb => kitAny_cons (r := isTy t T || isTy t U) (kit_ty hk2) (fun hb2 => ?_) fun hb2 => ?_) fun hb => by rw [hb]; rfl
      · rw [hb, hb2]; rfl
      · rw [hb, hb2]; rfl
    · have := h (.bl (isTy t T || isTy t U)) _ ι g (r.new hp)
      simp only [List.any_cons, List.any_nil, Bool.or_false] at this
      exact this (.bl _)

/-! ### texts, sorted, max -/
theorem strsOf_map : ∀ {ds : List D} {xs : List Cs}, strsOf ds = some xs → ds = xs.map D.str
  | [], _, h => by cases h; rfl
  | .str x :: r, _, h => by
    unfold strsOf at h
    cases e : strsOf r with
    | none => rw [e] at h; cases h
    | some ys => rw [e] at h; cases h; rw [strsOf_map e]; rfl
  | .non :: _, _, h => by cases h
  | .bl _ :: _, _, h => by cases h
  | .int _ :: _, _, h => by cases h
  | .tup _ :: _, _, h => by cases h
  | .ref _ :: _, _, h => by cases h
  | .fn _ :: _, _, h => by cases h
  | .lit _ :: _, _, h => by cases h
theorem intsOf_map : ∀ {ds : List D} {xs : List Int}, intsOf ds = some xs → ds = xs.map D.int
  | [], _, h => by cases h; rfl
  | .int x :: r, _, h => by
    unfold intsOf at h
    cases e : intsOf r with
    | none => rw [e] at h; cases h
    | some ys => rw [e] at h; cases h; rw [intsOf_map e]; rfl
  | .non :: _, _, h => by cases h
  | .bl _ :: _, _, h => by cases h
  | .str _ :: _, _, h => by cases h
  | .tup _ :: _, _, h => by cases h
  | .ref _ :: _, _, h => by cases h
  | .fn _ :: _, _, h => by cases h
  | .lit _ :: _, _, h => by cases h
theorem Rps.strs {K : PySem.W.Frag} {mg : Str → Option Value} {H : Hp} {ι : List Addr} : ∀ {xs : List Cs} {vs : List V}, Rps K mg H ι vs (xs.map D.str) → vs = (xs.map toS).map V.str
  | [], _, h => by cases h; rfl
  | x :: xs, _, h => by
    cases h with
    | cons h1 h2 => cases h1; rw [Rps.strs h2]; rfl
theorem Rps.ofStrs {K : PySem.W.Frag} {mg : Str → Option Value} {H : Hp} {ι : List Addr} : ∀ {xs : List Cs}, Rps K mg H ι ((xs.map toS).map V.str) (xs.map D.str)
  | [] => .nil
  | x :: xs => .cons (.str x) Rps.ofStrs
theorem Rps.ints {K : PySem.W.Frag} {mg : Str → Option Value} {H : Hp} {ι : List Addr} : ∀ {xs : List Int} {vs : List V}, Rps K mg H ι vs (xs.map D.int) → vs = xs.map V.int
  | [], _, h => by cases h; rfl
  | x :: xs, _, h => by
    cases h with
    | cons h1 h2 => cases h1; rw [Rps.ints h2]; rfl
theorem join_toS (sep : Cs) : ∀ ys : List Cs, Txt.join (toS sep) (ys.map toS) = toS (joinCs sep ys) := by
  have key : ∀ (r : List Cs) (acc : Cs), (r.map toS).foldl (fun acc p => acc ++ (toS sep).cps ++ p.cps) acc.toArray = (acc ++ (r.map fun y => sep ++ y).flatten).toArray := by
    intro r
    induction r with
    | nil => intro acc; simp
    | cons y r ih =>
      intro acc
      rw [List.map_cons, List.foldl_cons]
      have : acc.toArray ++ (toS sep).cps ++ (toS y).cps = (acc ++ sep ++ y).toArray := by simp [toS]
      rw [this, ih]
      simp
  have j2 : ∀ (r : List Cs) (x : Cs), joinCs sep (x :: r) = x ++ (r.map fun y => sep ++ y).flatten := by
    intro r
    induction r with
    | nil => intro x; simp [joinCs]
    | cons y r ih => intro x; rw [joinCs, ih]; simp
  intro ys
  cases ys with
  | nil => rfl
  | cons x r =>
    show Str.mk _ = _
    rw [j2]
    have := key r x
    simp only [List.map_cons, List.drop_succ_cons, List.drop_zero, List.headD_cons]
    show Str.mk (List.foldl _ (toS x).cps _) = _
    rw [show (toS x).cps = x.toArray from rfl, this]; rfl
theorem sim_join {K : PySem.W.Frag} {mg : Str → Option Value} : SimM K mg (fun x xs H Q => ∃ a p, ∃ ys : List Str, x = .str a ∧ xs = [.ref p] ∧ (SqL K H p (ys.map V.str) ∨ SqT K H p (ys.map V.str)) ∧
    (ys.map (·.length)).sum + ys.length * a.length ≤ 16777216 ∧ Q (.str (Txt.join a ys)) H) joinP where
  run := fun x xs dx ds H S ι d S' Q r px q e h => by
    unfold joinP at e
    split at e
    · rename_i sep z e0
      cases e0
      cases px
      obtain ⟨v, rfl, p⟩ := q.one
      split at e
      · rename_i ys e1
        split at e
        · rename_i zs e2
          obtain ⟨hl, rfl, rfl⟩ := ite_ok e
          have := strsOf_map e2
          subst this
          have hlen : ((zs.map toS).map (·.length)).sum + (zs.map toS).length * (toS sep).length ≤ 16777216 := by
            rw [List.map_map, List.length_map, toS_length]
            have : ((fun x : Str => x.length) ∘ toS) = List.length := by funext c; exact toS_length c
            rw [this]; exact hl
          have hq := h (.str (toS (joinCs sep zs))) H ι .refl r (.str _)
          rw [← join_toS] at hq
          cases z with
          | ref n =>
            obtain ⟨a, rfl, ha⟩ := p.ref_inv
            obtain ⟨vs, h1, h2⟩ := r.lstAt ha e1
            have := h2.strs
            subst this
            exact ⟨_, a, zs.map toS, rfl, rfl, .inl h1, hlen, hq⟩
          | tup xs =>
            cases e1
            obtain ⟨a, vs, rfl, h1, _, h2⟩ := p.tup_inv
            have := h2.strs
            subst this
            exact ⟨_, a, zs.map toS, rfl, rfl, .inr h1, hlen, hq⟩
          | _ => cases e1
        · cases e
      · cases e
    · cases e
  nox := fun ds S x S' z => by
    unfold joinP at z
    repeat (first | cases z | exact ite_exc z | split at z)
theorem se_join {apos : Pos} (ho : SE X W o m) (he : SE X W e m') (hs : starEach [e] X.env = [(false, eval e X.env)] := by rfl) (hbase : attributeBase o "join" X.env (eval o X.env) = eval o X.env := by rfl) (hline : (apos.endLine == pos.line) = true := by rfl) :
    SE X W (.Call (.Attribute o "join" apos) [e] [] pos) (methM "str" joinP m [m']) :=
  pe_imp (pe_join ho he hs hbase hline) fun σ H Q h => by
    obtain ⟨δ, S, ι, rl, h⟩ := h
    refine ⟨δ, S, ι, rl, ?_⟩
    have h : PostE X.K X.mg W σ H ι ((m δ S).bind fun d S1 => if tyN d S1 = some "str" then ((m' δ S1).bind fun d2 S2 => (Res.ok [d2] S2 : Res (List D))).bind fun ds S2 => joinP (d :: ds) S2 else .stuck) Q := h
    refine PostE.seq h fun v H1 ι1 d S1 _ g1 r1 p1 h1 => ?_
    split at h1
    · rename_i ht
      refine ⟨?_, δ, S1, ι1, rl.mono g1 r1, ?_⟩
      · cases d with
        | str x => cases p1; exact ⟨_, rfl⟩
        | ref n =>
          unfold tyN at ht
          simp only at ht
          split at ht <;> first | exact absurd ht (by decide) | cases ht
        | _ => simp [tyN] at ht
      · cases e2 : m' δ S1 with
        | stuck => rw [e2] at h1; exact h1
        | exc y S2 => rw [e2] at h1; exact h1
        | ok d2 S2 =>
          rw [e2] at h1
          intro u H2 ι2 g2 r2 p2
          have h1 : PostE X.K X.mg W σ H1 ι1 (joinP [d, d2] S2) Q := h1
          cases e3 : joinP [d, d2] S2 with
          | stuck => rw [e3] at h1; exact h1.elim
          | exc y S3 => exact (sim_join.nox (K := X.K) (mg := X.mg) _ _ _ _ e3).elim
          | ok z S3 =>
            rw [e3] at h1
            exact sim_join.run v [u] d [d2] H2 S2 ι2 z S3 Q r2 (p1.mono g2) (.cons p2 .nil) e3 (PostE.back g2 h1)
    · exact h1.elim

/-! sorted of texts -/
theorem csLe_trans {a b c : Cs} (h1 : csLe a b = true) (h2 : csLe b c = true) : csLe a c = true := by
  simp only [csLe, Bool.not_eq_true', decide_eq_false_iff_not, List.not_lt] at *
  exact List.le_trans h1 h2
theorem csLe_antisymm {a b : Cs} (h1 : csLe a b = true) (h2 : csLe b a = true) : a = b := by
  simp only [csLe, Bool.not_eq_true', decide_eq_false_iff_not, List.not_lt] at *
  exact List.le_antisymm h1 h2
theorem csLe_total (a b : Cs) : (csLe a b || csLe b a) = true := by
  simp only [csLe, Bool.or_eq_true, Bool.not_eq_true', decide_eq_false_iff_not, List.not_lt]
  exact List.le_total a b
theorem risingS_pair : ∀ {r : List Str} {p : Str}, risingS p r = true → ((p :: r).map fun z => z.cps.toList).Pairwise (fun a b => csLe a b = true)
  | [], p, _ => by simp
  | x :: r, p, h => by
    have h : (!ltCps x.cps.toList p.cps.toList && risingS x r) = true := h
    rw [Bool.and_eq_true, ltCps_eq] at h
    have ih := risingS_pair h.2
    rw [List.map_cons, List.pairwise_cons]
    refine ⟨fun z hz => ?_, ih⟩
    rw [List.map_cons] at hz ih
    rcases List.mem_cons.mp hz with rfl | hz
    · exact h.1
    · exact csLe_trans h.1 ((List.pairwise_cons.mp ih).1 z hz)
theorem sortedS_unique {ys : List Str} {xs : List Cs} (hp : ys.Perm (xs.map toS)) (hs : sortedS ys = true) : ys = (xs.mergeSort csLe).map toS := by
  have h1 : (ys.map fun z => z.cps.toList).Pairwise (fun a b => csLe a b = true) := by
    cases ys with
    | nil => simp
    | cons y r => exact risingS_pair hs
  have h2 : (xs.mergeSort csLe).Pairwise (fun a b => csLe a b = true) := List.pairwise_mergeSort (le := csLe) (fun a b c => csLe_trans) csLe_total xs
  have hp2 : (ys.map fun z => z.cps.toList).Perm (xs.mergeSort csLe) := by
    have := hp.map fun z : Str => z.cps.toList
    rw [List.map_map] at this
    have e : ((fun z : Str => z.cps.toList) ∘ toS) = id := by funext c; exact toS_list c
    rw [e, List.map_id] at this
    exact this.trans (List.mergeSort_perm xs csLe).symm
  have e := List.Perm.eq_of_pairwise (le := fun a b => csLe a b = true) (fun a b _ _ => csLe_antisymm) h1 h2 hp2
  rw [← e, List.map_map]
  have : (toS ∘ fun z : Str => z.cps.toList) = id := by funext c; exact toS_of c
  rw [this, List.map_id]
theorem sim_sortedS {K : PySem.W.Frag} {mg : Str → Option Value} : SimN K mg (rSortedS K) sortedSP where
  run := fun xs ds H S ι d S' Q r q e h => by
    unfold sortedSP at e
    split at e
    · obtain ⟨v, rfl, p⟩ := q.one
      obtain ⟨a, rfl, ha⟩ := p.ref_inv
      split at e
      · rename_i ys e1
        split at e
        · rename_i zs e2
          obtain ⟨hl, rfl, rfl⟩ := ite_ok e
          have := strsOf_map e2
          subst this
          obtain ⟨vs, h1, h2⟩ := r.lstAt ha e1
          have := h2.strs
          subst this
          refine ⟨a, zs.map toS, rfl, h1, by rw [List.length_map]; exact hl, fun ws pp hp hs hn => ?_⟩
          rw [sortedS_unique hp hs]
          obtain ⟨g, r', q'⟩ := r.newL hn (Rps.ofStrs (K := K) (mg := mg) (H := H) (ι := ι) (xs := zs.mergeSort csLe))
          exact h _ _ _ g r' q'
        · cases e
      · cases e
    · cases e
  nox := fun ds S x S' z => by
    unfold sortedSP at z
    repeat (first | cases z | exact ite_exc z | split at z)
theorem se_sortedS (hg : Gl X "sorted") (hm : X.mg "sorted" = none) (ha : SA X W [e] [m]) (he : starEach [e] X.env = (false, eval e X.env) :: starEach [] X.env := by rfl) : SE X W (.Call (.Name "sorted" p) [e] [] pos) (callM sortedSP [m]) :=
  se_callB cr_sortedS sim_sortedS hg hm (by decide +kernel) ha (he := he)
theorem maxL_spec : ∀ (r : List Int) (a : Int), maxL a r ∈ a :: r ∧ ∀ y ∈ a :: r, y ≤ maxL a r
  | [], a => by simp [maxL]
  | b :: r, a => by
    unfold maxL
    obtain ⟨h1, h2⟩ := maxL_spec r (if b > a then b else a)
    refine ⟨?_, fun y hy => ?_⟩
    · rcases List.mem_cons.mp h1 with h | h
      · split at h
        · rename_i hb
          rw [if_pos hb, h]; simp
        · rename_i hb
          rw [if_neg hb, h]; simp
      · exact List.mem_cons_of_mem _ (List.mem_cons_of_mem _ h)
    · have h3 := h2 _ List.mem_cons_self
      rcases List.mem_cons.mp hy with rfl | hy
      · split at h3 <;> rename_i hb <;> simp only [hb, if_true, if_false] <;> omega
      · rcases List.mem_cons.mp hy with rfl | hy
        · split at h3 <;> rename_i hb <;> simp only [hb, if_true, if_false] <;> omega
        · exact h2 y (List.mem_cons_of_mem _ hy)
theorem sim_max {K : PySem.W.Frag} {mg : Str → Option Value} : SimN K mg (fun xs H Q => rMax K xs H Q ∨ (∃ i j, xs = [.int i, .int j] ∧ Q (.int (if j > i then j else i)) H)) maxP where
  run := fun xs ds H S ι d S' Q r q e h => by
    unfold maxP at e
    split at e
    · obtain ⟨v, rfl, p⟩ := q.one
      obtain ⟨a, rfl, ha⟩ := p.ref_inv
      split at e
      · rename_i ys e1
        split at e
        · rename_i z zs e2
          cases e
          have := intsOf_map e2
          subst this
          obtain ⟨vs, h1, h2⟩ := r.lstAt ha e1
          have := h2.ints
          subst this
          refine .inl ⟨a, z :: zs, rfl, h1, by simp, fun mm hm hall => ?_⟩
          obtain ⟨k1, k2⟩ := maxL_spec zs z
          have : mm = maxL z zs := Int.le_antisymm (k2 _ hm) (hall _ k1)
          rw [this]
          exact h _ H ι .refl r (.int _)
        · cases e
      · cases e
    · cases e
      obtain ⟨v, u, rfl, p1, p2⟩ := q.two
      cases p1; cases p2
      exact .inr ⟨_, _, rfl, h _ H ι .refl r (.int _)⟩
    · cases e
  nox := fun ds S x S' z => by
    unfold maxP at z
    repeat (first | cases z | exact ite_exc z | split at z)
theorem se_max (hc : X.calm = true) (hg : Gl X "max") (hm : X.mg "max" = none) (ha : SA X W (e :: es) ms) (he : starEach (e :: es) X.env = (false, eval e X.env) :: starEach es X.env := by rfl) (hpl : (backTo pos (starEach es X.env)).any (·.1) = false := by rfl) : SE X W (.Call (.Name "max" p) (e :: es) [] pos) (callM maxP ms) :=
  se_callB ((cr_max hc).or (call_max2 hc)) sim_max hg hm (by decide +kernel) ha (he := he) (hpl := hpl)
theorem sim_abs {K : PySem.W.Frag} {mg : Str → Option Value} : SimN K mg (fun xs H Q => ∃ i, xs = [.int i] ∧ Q (.int (if i < 0 then -i else i)) H) absP where
  run := fun xs ds H S ι d S' Q r q e h => by
    unfold absP at e
    split at e
    · cases e
      obtain ⟨v, rfl, p1⟩ := q.one
      cases p1
      exact ⟨_, rfl, h _ H ι .refl r (.int _)⟩
    · cases e
  nox := fun ds S x S' z => by
    unfold absP at z
    repeat (first | cases z | exact ite_exc z | split at z)
theorem se_abs (hg : Gl X "abs") (hm : X.mg "abs" = none) (ha : SA X W (e :: es) ms) (he : starEach (e :: es) X.env = (false, eval e X.env) :: starEach es X.env := by rfl) (hpl : (backTo pos (starEach es X.env)).any (·.1) = false := by rfl) : SE X W (.Call (.Name "abs" p) (e :: es) [] pos) (callM absP ms) :=
  se_callB call_abs sim_abs hg hm (by decide +kernel) ha (he := he) (hpl := hpl)
theorem sim_min {K : PySem.W.Frag} {mg : Str → Option Value} : SimN K mg (fun xs H Q => ∃ i j, xs = [.int i, .int j] ∧ Q (.int (if j < i then j else i)) H) minP where
  run := fun xs ds H S ι d S' Q r q e h => by
    unfold minP at e
    split at e
    · cases e
      obtain ⟨v, u, rfl, p1, p2⟩ := q.two
      cases p1; cases p2
      exact ⟨_, _, rfl, h _ H ι .refl r (.int _)⟩
    · cases e
  nox := fun ds S x S' z => by
    unfold minP at z
    repeat (first | cases z | exact ite_exc z | split at z)
theorem se_min (hc : X.calm = true) (hg : Gl X "min") (hm : X.mg "min" = none) (ha : SA X W (e :: es) ms) (he : starEach (e :: es) X.env = (false, eval e X.env) :: starEach es X.env := by rfl) (hpl : (backTo pos (starEach es X.env)).any (·.1) = false := by rfl) : SE X W (.Call (.Name "min" p) (e :: es) [] pos) (callM minP ms) :=
  se_callB (call_min2 hc) sim_min hg hm (by decide +kernel) ha (he := he) (hpl := hpl)

/-! ### stores -/
theorem ss_putL (ho : SE X W o m) (hi : SE X W b m') {v : Expr} {mv : EM} (hv : SE X W v mv) (hs : swapsWithSole [.Subscript o b apos] v pos.line X.env = pure false := by rfl) (hw : swappedStores [.Subscript o b apos] v X.env = pure none := by rfl)
    (h1 : (assignEach [.Subscript o b apos] X.env).map (·.2) = [assign (.Subscript o b apos) X.env] := by rfl) (ha : ∀ v, assign (.Subscript o b apos) X.env v = (do
      let ov ← holding [v] (eval o X.env)
      let iv ← holding [v, ov] (eval b X.env)
      standAt apos
      holding [v, ov, iv] (setItem ov iv v)
      release [v, ov, iv] []) := by intro _; rfl) : SS X W (.Assign [.Subscript o b apos] v pos) (exprS (callM putLP [mv, m, m'])) := by
  refine ps_imp (ps_asg hv (pg_sub ho hi set_list ha) hs hw h1) fun D' σ H q => ?_
  obtain ⟨δ, S, ι, r, q⟩ := q
  refine ⟨δ, S, ι, r, ?_⟩
  have q : PostS X.K X.mg W D' H ι (((mv δ S).bind fun d S1 => ((m δ S1).bind fun d2 S2 => ((m' δ S2).bind fun d3 S3 => (Res.ok [d3] S3 : Res (List D))).bind fun ds S4 => .ok (d2 :: ds) S4).bind fun ds S5 => .ok (d :: ds) S5).bind putLP |>.thenS δ fun _ S1 => .ok (.nx δ) S1) := q
  cases e1 : mv δ S with
  | stuck => rw [e1] at q; exact q
  | exc y S1 => rw [e1] at q; exact fun c dx H' ι' g q1 z => q c dx σ H' ι' g (r.mono g q1) z
  | ok d1 S1 =>
    rw [e1] at q
    intro v1 H1 ι1 g1 r1 p1
    refine ⟨δ, S1, ι1, r.mono g1 r1, ?_⟩
    have q := PostS.back g1 q
    cases e2 : m δ S1 with
    | stuck => simp only [Res.bind_ok, e2] at q; exact q
    | exc y S2 => simp only [Res.bind_ok, e2] at q; exact fun c dx H' ι' g q1 z => q c dx σ H' ι' g (r.mono (g1.trans g) q1) z
    | ok d2 S2 =>
      simp only [Res.bind_ok, e2] at q
      intro v2 H2 ι2 g2 r2 p2
      refine ⟨δ, S2, ι2, r.mono (g1.trans g2) r2, ?_⟩
      have q := PostS.back g2 q
      cases e3 : m' δ S2 with
      | stuck => simp only [e3] at q; exact q
      | exc y S3 => simp only [e3] at q; exact fun c dx H' ι' g q1 z => q c dx σ H' ι' g (r.mono ((g1.trans g2).trans g) q1) z
      | ok d3 S3 =>
        simp only [Res.bind_ok, e3] at q
        intro v3 H3 ι3 g3 r3 p3
        have q := PostS.back g3 q
        have p2 := p2.mono g3
        have p1 := p1.mono (g2.trans g3)
        cases e4 : putLP [d1, d2, d3] S3 with
        | stuck => rw [e4] at q; exact q.elim
        | exc y S4 =>
          unfold putLP at e4
          repeat (first | cases e4 | split at e4)
        | ok z S4 =>
          rw [e4] at q
          unfold putLP at e4
          split at e4
          · rename_i v n kk e0
            cases e0
            split at e4
            · rename_i xs e5
              split at e4
              · rename_i j e6
                cases e4
                obtain ⟨a, rfl, hA⟩ := p2.ref_inv
                cases p3
                obtain ⟨vs, h1, h2⟩ := r3.lst hA e5
                obtain ⟨g4, r4⟩ := r3.put hA h1 (h2.set p1 j)
                refine ⟨a, vs, kk, j, rfl, rfl, h1, by rw [h2.length]; exact e6, ?_⟩
                exact q σ _ ι3 g4 (r.mono (((g1.trans g2).trans g3).trans g4) r4)
              · cases e4
            · cases e4
          · cases e4
end
end Dl

end

section
set_option linter.all false
set_option Elab.async false
set_option maxRecDepth 100000
set_option Elab.async false
set_option linter.all false
set_option maxRecDepth 100000
set_option maxHeartbeats 4000000
namespace Dl
open PySem PySem.Spec PyProof.Rows L2

theorem ofString_inj {a b : String} (h : Str.ofString a = Str.ofString b) : a = b := by
  rw [Str.ofString_eq_toList, Str.ofString_eq_toList] at h
  have h1 := congrArg (fun z : Str => z.cps.toList) h
  simp only at h1
  have : a.toList = b.toList := by
    have inj : ∀ (x y : List Char), x.map Char.toNat = y.map Char.toNat → x = y := by
      intro x
      induction x with
      | nil => intro y hy; cases y <;> simp_all
      | cons c x ih =>
        intro y hy
        cases y with
        | nil => simp at hy
        | cons d y =>
          simp only [List.map_cons, List.cons.injEq] at hy
          have hc : c = d := by
            have : c.val.toNat = d.val.toNat := hy.1
            exact Char.ext (UInt32.toNat_inj.mp this)
          rw [hc, ih y hy.2]
    exact inj _ _ h1
  exact String.toList_inj.mp this

/-! ### f-strings -/
section
variable {X : Cx} {W : WX} {e o a b c elt tge iter : Expr} {es ifs : List Expr} {m m' : EM} {ms : List EM} {p pos apos : Pos} {k n lv : Nat} {x : Str} {f : FM}
theorem se_fmt (he : SE X W e m) : SE X W (.FormattedValue e (-1) none pos) (callM fmtP [m]) := by
  refine pe_imp (pe_fmt he) fun σ H Q h => call1 h (fun x H1 Q => (∃ y : Str, x = .str y ∧ y.length ≤ sizeLine ∧ Q (.str y) H1) ∨ ∃ i : Int, x = .int i ∧ i.natAbs.log2 < 1920 ∧ Q (.str (toString i)) H1) fun v d H ι S Q r p h => ?_
  cases e1 : fmtP [d] S with
  | stuck => rw [e1] at h; exact h.elim
  | exc y S1 =>
    unfold fmtP at e1
    repeat (first | cases e1 | split at e1)
  | ok z S1 =>
    rw [e1] at h
    unfold fmtP at e1
    split at e1
    · rename_i i q
      cases q
      obtain ⟨hl, rfl, rfl⟩ := ite_ok e1
      cases p
      refine .inr ⟨_, rfl, log_small hl, ?_⟩
      show Q (.str (Str.ofString (toString i))) H
      rw [intCs_toS]
      exact h _ H ι .refl r (.str _)
    · rename_i i q
      cases q
      obtain ⟨hl, rfl, rfl⟩ := ite_ok e1
      cases p
      exact .inl ⟨_, rfl, by rw [toS_length, ← LIM_eq]; exact hl, h _ H ι .refl r (.str _)⟩
    · cases e1
inductive SJ (X : Cx) (W : WX) : List Expr → List EM → Prop where
  | nil : SJ X W [] []
  | cons {e : Expr} {m : EM} {es : List Expr} {ms : List EM} (h : SE X W e m) (r : SJ X W es ms) : SJ X W (e :: es) (m :: ms)
theorem SJ.pj (h : SJ X W es ms) : PJ X es (ms.map (cE X.K X.mg W)) := by
  induction h with
  | nil => exact .nil
  | cons h r ih => exact .cons h ih
theorem cat_run {K : PySem.W.Frag} {mg : Str → Option Value} : ∀ {ms : List EM} {acc : Cs} {σ : L2.St} {H : Hp} {Q : VK}, cE K mg W (catM acc ms) σ H Q → tJs (ms.map (cE K mg W)) (toS acc) σ H fun out H1 => Q (.str out) H1
  | [], acc, σ, H, Q, h => by
    obtain ⟨δ, S, ι, r, h⟩ := h
    exact h _ H ι .refl r.sto (.str _)
  | m :: ms, acc, σ, H, Q, h => by
    obtain ⟨δ, S, ι, r, h⟩ := h
    refine ⟨δ, S, ι, r, ?_⟩
    have h : PostE K mg W σ H ι ((m δ S).bind fun d S1 => match d with
      | .str y => if acc.length + y.length ≤ LIM then catM (acc ++ y) ms δ S1 else .stuck
      | _ => .stuck) Q := h
    refine PostE.seq h fun v H' ι' d S' _ g r1 p1 h1 => ?_
    split at h1
    · rename_i y
      split at h1
      · rename_i hl
        cases p1
        refine ⟨_, rfl, by rw [toS_append, toS_length, ← LIM_eq]; simpa using hl, ?_⟩
        rw [toS_append]
        exact cat_run ⟨δ, S', ι', r.mono g r1, h1⟩
      · exact h1.elim
    · exact h1.elim
theorem se_joined {v1 v2 : Expr} {rest : List Expr} (h : SJ X W (v1 :: v2 :: rest) ms) : SE X W (.JoinedStr (v1 :: v2 :: rest) pos) (catM [] ms) :=
  pe_imp (pe_joined h.pj) fun σ H Q q => cat_run q

/-! ### classes -/
/-- a class of the text: its address, its fields -/
structure CT (K : PySem.W.Frag) (mg : Str → Option Value) (C : String) (flds : List String) : Prop where
  ex : ∃ c, mg (Str.ofString C) = some (.ref c) ∧ Cls K c ∧ ∀ f ∈ flds, NoAttr K c (Str.ofString f)
/-- a method of it -/
structure MT (P : Program) (w : World) (K : PySem.W.Frag) (mg : Str → Option Value) (base : Heap) (lv : Nat) (C m : String) (F : FM) (n : Nat) : Prop where
  ex : ∃ (c f : Addr) (fd : FuncData) (ps : List Str), mg (Str.ofString C) = some (.ref c) ∧ Cls K c ∧ Meth K c (Str.ofString m) f ∧ FnOk P w K mg base (L2.CX P w) lv f fd ps (spOf K mg F n) ∧ Binds K fd ps []
/-- its making -/
structure KT (P : Program) (w : World) (K : PySem.W.Frag) (mg : Str → Option Value) (base : Heap) (lv : Nat) (C : String) (F : FM) (n : Nat) : Prop where
  ex : ∃ (c f : Addr) (fd : FuncData) (ps : List Str), mg (Str.ofString C) = some (.ref c) ∧ Mk K c f ∧ FnOk P w K mg base (L2.CX P w) lv f fd ps (spOf K mg F n) ∧ Binds K fd ps []
theorem Rfs.lookup {K : PySem.W.Frag} {mg : Str → Option Value} {H : Hp} {ι : List Addr} {f : String} : ∀ {vs : List (Str × V)} {fs : List (String × D)}, Rfs K mg H ι vs fs →
    (∀ d, getF f fs = some d → ∃ v, vs.lookup (Str.ofString f) = some v ∧ Rp K mg H ι v d) ∧ (getF f fs = none → vs.lookup (Str.ofString f) = none)
  | _, _, .nil => ⟨fun d h => (by cases h), fun _ => rfl⟩
  | _, _, .cons (k := k) (v := v) (vs := vs) (d := d) (ds := ds) h1 h2 => by
    have ih := Rfs.lookup (f := f) h2
    unfold getF
    simp only
    by_cases hk : k = f
    · subst hk
      rw [if_pos rfl]
      refine ⟨fun d' h => ?_, fun h => by cases h⟩
      cases h
      exact ⟨v, by simp [List.lookup], h1⟩
    · rw [if_neg hk]
      have hb : (Str.ofString f == Str.ofString k) = false := beq_eq_false_iff_ne.mpr fun z => hk (ofString_inj z).symm
      simp only [List.lookup, hb]
      exact ih
theorem Rfs.put {K : PySem.W.Frag} {mg : Str → Option Value} {H : Hp} {ι : List Addr} {f : String} {v : V} {d : D} (p : Rp K mg H ι v d) : ∀ {vs : List (Str × V)} {fs : List (String × D)}, Rfs K mg H ι vs fs →
    Rfs K mg H ι (L2.putF (Str.ofString f) v vs) (Dl.putF f d fs)
  | _, _, .nil => .cons p .nil
  | _, _, .cons (k := k) (v := w) (vs := vs) (d := e) (ds := ds) h1 h2 => by
    unfold L2.putF Dl.putF
    simp only
    by_cases hk : k = f
    · subst hk
      rw [if_pos rfl, if_pos rfl]
      exact .cons p h2
    · rw [if_neg hk, if_neg fun z => hk (ofString_inj z)]
      exact .cons h1 (Rfs.put p h2)
theorem Rfs.length {K : PySem.W.Frag} {mg : Str → Option Value} {H : Hp} {ι : List Addr} : ∀ {vs : List (Str × V)} {fs : List (String × D)}, Rfs K mg H ι vs fs → vs.length = fs.length
  | _, _, .nil => rfl
  | _, _, .cons _ h => by simp [Rfs.length h]
theorem RS.ins {K : PySem.W.Frag} {mg : Str → Option Value} {H : Hp} {ι : List Addr} {S : Store} {n : Nat} {a : Addr} {C : String} {fs : List (String × D)} (r : RS K mg H ι S) (ha : ι[n]? = some a) (e : insAt S n C = some fs) :
    ∃ c dx vs, mg (Str.ofString C) = some (.ref c) ∧ H a = some (.ins c dx vs) ∧ Rfs K mg H ι vs fs := by
  unfold insAt at e
  split at e
  · rename_i C' fs' e1
    split at e
    · rename_i hC
      subst hC
      cases e
      exact r.at_ n _ a e1 ha
    · cases e
  · cases e
theorem RS.putIns {K : PySem.W.Frag} {mg : Str → Option Value} {H : Hp} {ι : List Addr} {S : Store} {n : Nat} {a c dx : Addr} {C : String} {vs ws : List (Str × V)} {fs : List (String × D)} (r : RS K mg H ι S) (ha : ι[n]? = some a)
    (hC : mg (Str.ofString C) = some (.ref c)) (e : H a = some (.ins c dx vs)) (q : Rfs K mg H ι ws fs) : Grow K H ι (upd H a (.ins c dx ws)) ι ∧ RS K mg (upd H a (.ins c dx ws)) ι (S.set n (.ins C fs)) := by
  have g : Grow K H ι (upd H a (.ins c dx ws)) ι := Grow.write e (fun _ z => by cases z) (fun _ _ z => by cases z)
  exact ⟨g, r.write ha g ⟨c, dx, ws, hC, upd_same, q.mono g⟩⟩
theorem se_fld {C f : String} {flds : List String} {x : Str} (T : CT X.K X.mg C flds) (hf : f ∈ flds) (he : SE X W e m) (hx : x = Str.ofString f := by rfl) (hb : attributeBase e x X.env (eval e X.env) = eval e X.env := by rfl) : SE X W (.Attribute e x pos) (callM (fldP C f) [m]) := by
  subst hx
  refine pe_imp (pe_fld he hb) fun σ H Q h => call1 h (fun x H1 Q => ∃ a C dx fs v, x = .ref a ∧ H1 a = some (.ins C dx fs) ∧ Cls X.K C ∧ NoAttr X.K C (Str.ofString f) ∧ fs.lookup (Str.ofString f) = some v ∧ Q v H1) fun v d H ι S Q r p h => ?_
  cases d with
  | ref n =>
    unfold fldP at h
    simp only at h
    split at h
    · rename_i fs e1
      split at h
      · rename_i d e2
        obtain ⟨a, rfl, ha⟩ := p.ref_inv
        obtain ⟨c, dx, vs, h1, h2, h3⟩ := r.ins ha e1
        obtain ⟨c', k1, k2, k3⟩ := T.ex
        rw [h1] at k1; cases k1
        obtain ⟨v, q1, q2⟩ := (h3.lookup (f := f)).1 d e2
        exact ⟨a, c, dx, vs, v, rfl, h2, k2, k3 f hf, q1, h v H ι .refl r q2⟩
      · exact h.elim
    · exact h.elim
  | _ => exact h.elim
theorem ss_fld {C f : String} {flds : List String} {x : Str} {pos' : Pos} {v : Expr} {mv : EM} (T : CT X.K X.mg C flds) (hf : f ∈ flds) (ho : SE X W o m) (hv : SE X W v mv) (hx : x = Str.ofString f := by rfl) (hs : swapsWith v (some (.Attribute o x pos')) pos.line X.env = pure false := by rfl) :
    SS X W (.Assign [.Attribute o x pos'] v pos) (exprS (callM (putFP C f) [mv, m])) := by
  subst hx
  refine ps_imp (ps_fld ho hv hs) fun D' σ H q => ?_
  obtain ⟨δ, S, ι, r, q⟩ := q
  refine ⟨δ, S, ι, r, ?_⟩
  have q : PostS X.K X.mg W D' H ι (((mv δ S).bind fun d S1 => ((m δ S1).bind fun d2 S2 => (Res.ok [d2] S2 : Res (List D))).bind fun ds S5 => .ok (d :: ds) S5).bind (putFP C f) |>.thenS δ fun _ S1 => .ok (.nx δ) S1) := q
  cases e1 : mv δ S with
  | stuck => rw [e1] at q; exact q
  | exc y S1 => rw [e1] at q; exact fun c dx H' ι' g q1 z => q c dx σ H' ι' g (r.mono g q1) z
  | ok d1 S1 =>
    rw [e1] at q
    intro v1 H1 ι1 g1 r1 p1
    refine ⟨δ, S1, ι1, r.mono g1 r1, ?_⟩
    have q := PostS.back g1 q
    cases e2 : m δ S1 with
    | stuck => simp only [Res.bind_ok, e2] at q; exact q
    | exc y S2 => simp only [Res.bind_ok, e2] at q; exact fun c dx H' ι' g q1 z => q c dx σ H' ι' g (r.mono (g1.trans g) q1) z
    | ok d2 S2 =>
      simp only [Res.bind_ok, e2] at q
      intro v2 H2 ι2 g2 r2 p2
      have q := PostS.back g2 q
      have p1 := p1.mono g2
      cases e4 : putFP C f [d1, d2] S2 with
      | stuck => rw [e4] at q; exact q.elim
      | exc y S4 =>
        unfold putFP at e4
        repeat (first | cases e4 | split at e4)
      | ok z S4 =>
        rw [e4] at q
        unfold putFP at e4
        split at e4
        · rename_i vv n e0
          cases e0
          split at e4
          · rename_i fs e5
            obtain ⟨hl, rfl, rfl⟩ := ite_ok e4
            obtain ⟨a, rfl, ha⟩ := p2.ref_inv
            obtain ⟨c, dx, vs, h1, h2, h3⟩ := r2.ins ha e5
            obtain ⟨c', k1, k2, k3⟩ := T.ex
            rw [h1] at k1; cases k1
            obtain ⟨g3, r3⟩ := r2.putIns ha h1 h2 (h3.put (f := f) p1)
            refine ⟨a, c, dx, vs, rfl, h2, k2, k3 f hf, by rw [h3.length]; omega, ?_⟩
            exact q σ _ ι2 g3 (r.mono ((g1.trans g2).trans g3) r3)
          · cases e4
        · cases e4
/-- the added thing is a written int -/
theorem ss_fldinc {C f : String} {flds : List String} {x : Str} {tpos : Pos} {j : Int} {kk jpos} (T : CT X.K X.mg C flds) (hf : f ∈ flds) (ho : SE X W o m) (hx : x = Str.ofString f := by rfl) :
    SS X W (.AugAssign (.Attribute o x tpos) .Add (.Constant (.int j) kk jpos) pos) (exprS (callM (augFP C f) [m, conM (.int j)])) := by
  subst hx
  refine ps_imp (ps_fldaug ho (pe_int (X := X) (i := j) (j := kk) (pos := jpos)) in_add) fun D' σ H q => ?_
  obtain ⟨δ, S, ι, r, q⟩ := q
  refine ⟨δ, S, ι, r, ?_⟩
  have q : PostS X.K X.mg W D' H ι (((m δ S).bind fun d S1 => (Res.ok [d, .int j] S1 : Res (List D))).bind (augFP C f) |>.thenS δ fun _ S1 => .ok (.nx δ) S1) := q
  cases e1 : m δ S with
  | stuck => rw [e1] at q; exact q
  | exc y S1 => rw [e1] at q; exact fun c dx H' ι' g q1 z => q c dx σ H' ι' g (r.mono g q1) z
  | ok d1 S1 =>
    rw [e1] at q
    intro v1 H1 ι1 g1 r1 p1
    have q := PostS.back g1 q
    simp only [Res.bind_ok] at q
    cases e4 : augFP C f [d1, .int j] S1 with
    | stuck => rw [e4] at q; exact q.elim
    | exc y S4 =>
      unfold augFP at e4
      repeat (first | cases e4 | split at e4)
    | ok z S4 =>
      rw [e4] at q
      unfold augFP at e4
      split at e4
      · rename_i n jj e0
        cases e0
        split at e4
        · rename_i fs e5
          split at e4
          · rename_i i e6
            obtain ⟨hl, rfl, rfl⟩ := ite_ok e4
            obtain ⟨a, rfl, ha⟩ := p1.ref_inv
            obtain ⟨c, dx, vs, h1, h2, h3⟩ := r1.ins ha e5
            obtain ⟨c', k1, k2, k3⟩ := T.ex
            rw [h1] at k1; cases k1
            obtain ⟨w, q1, q2⟩ := (h3.lookup (f := f)).1 _ e6
            cases q2
            obtain ⟨g3, r3⟩ := r1.putIns ha h1 h2 (h3.put (f := f) (.int (i + j)))
            refine ⟨a, c, dx, vs, .int i, rfl, h2, k2, k3 f hf, q1, i, j, rfl, rfl, dx, vs, h2, by rw [h3.length]; omega, ?_⟩
            exact q σ _ ι1 g3 (r.mono (g1.trans g3) r3)
          · cases e4
        · cases e4
      · cases e4
/-- o.m(..) -/
theorem metI {K : PySem.W.Frag} {mg : Str → Option Value} {σ : L2.St} {H : Hp} {Q : VK} {C mm : String} {F : FM} {c : Addr} (hC : mg (Str.ofString C) = some (.ref c)) (hn : ms.length + 1 = n) (h : cE K mg W (methI C mm F m ms) σ H Q) :
    cE K mg W m σ H fun x H1 => ∃ a dx fs, x = .ref a ∧ H1 a = some (.ins c dx fs) ∧ fs.lookup (Str.ofString mm) = none ∧ cA K mg W (argsM ms) σ H1 fun vs H2 => spOf K mg F n (x :: vs) H2 Q (WE W σ) := by
  obtain ⟨δ, S, ι, rl, h⟩ := h
  refine ⟨δ, S, ι, rl, ?_⟩
  have h : PostE K mg W σ H ι ((m δ S).bind fun d S1 => match d with
    | .ref n => (match insAt S1 n C with
      | some fs => if getF mm fs = none then (argsM ms δ S1).bind fun ds S2 => F (d :: ds) S2 else .stuck
      | none => .stuck)
    | _ => .stuck) Q := by
    unfold methI at h
    cases e1 : m δ S with
    | stuck => rw [e1] at h; exact h
    | exc y S1 => rw [e1] at h; exact h
    | ok d S1 => rw [e1] at h; cases d <;> exact h
  refine PostE.seq h fun v H1 ι1 d S1 _ g1 r1 p1 h1 => ?_
  split at h1
  · rename_i nn _
    split at h1
    · rename_i fs e1
      split at h1
      · rename_i hl
        obtain ⟨a, rfl, ha⟩ := p1.ref_inv
        obtain ⟨c', dx, vs, k1, k2, k3⟩ := r1.ins ha e1
        rw [hC] at k1; cases k1
        refine ⟨a, dx, vs, rfl, k2, (k3.lookup (f := mm)).2 hl, δ, S1, ι1, rl.mono g1 r1, PostA.seq h1 fun us H2 ι2 ds S2 e2 g2 r2 q2 h2 => ?_⟩
        refine ⟨?_, .ref nn :: ds, S2, ι2, r2, .cons (p1.mono g2) q2, ?_⟩
        · have ln : ∀ (ms : List EM) (S : Store) (ds : List D) (S1 : Store), argsM ms δ S = .ok ds S1 → ds.length = ms.length := by
            intro ms
            induction ms with
            | nil => intro S ds S1 e; cases e; rfl
            | cons m ms ih =>
              intro S ds S1 e
              obtain ⟨d, S2, e1, e2⟩ := bind_inv e
              obtain ⟨ds', S3, e3, e4⟩ := bind_inv e2
              cases e4
              simp [ih _ _ _ e3]
          rw [List.length_cons, q2.length, ln _ _ _ _ e2, hn]
        · cases e3 : F (.ref nn :: ds) S2 with
          | ok d S' => rw [e3] at h2; exact h2
          | exc x S' => rw [e3] at h2; exact h2
          | stuck => rw [e3] at h2; exact h2.elim
      · exact h1.elim
    · exact h1.elim
  · exact h1.elim
theorem se_meth {C mm : String} {F : FM} {pl : Sem Bool} {x : Str} (hr : Room k X.A) (tk : Takes X W) (T : MT X.prog X.w X.K X.mg X.base lv C mm F n) (hk : lv ≤ k) (ho : SE X W o m) (ha : SA X W (e :: es) ms) (hx : x = Str.ofString mm := by rfl) (hn : ms.length + 1 = n := by rfl)
    (hst : starEach (e :: es) X.env = (false, eval e X.env) :: starEach es X.env := by rfl) (hpl : (backTo pos (starEach es X.env)).any (·.1) = false := by rfl)
    (ht : eval (.Call (.Attribute o x apos) (e :: es) [] pos) X.env = (do
      let ov ← eval o X.env
      standAt apos.atName
      let (f, first) ← holding [ov] (getMethod ov x pl)
      callWith pos f first (backTo pos (starEach (e :: es) X.env)) (backToKw pos (keywordEach [] X.env))) := by rfl) : SE X W (.Call (.Attribute o x apos) (e :: es) [] pos) (methI C mm F m ms) := by
  subst hx
  obtain ⟨c, f, fd, ps, h1, h2, h3, h4, h5⟩ := T.ex
  refine pe_imp (t := fun σ H Q => cE X.K X.mg W m σ H fun x H1 => ∃ a dx fs, x = .ref a ∧ H1 a = some (.ins c dx fs) ∧ fs.lookup (Str.ofString mm) = none ∧ cA X.K X.mg W (argsM ms) σ H1 fun vs H2 => spOf X.K X.mg F n (x :: vs) H2 Q (WE W σ)) ⟨fun pins s σ H Q I h => ?_⟩ fun σ H Q h => metI h1 hn h
  refine PySem.W.methodCall_KW (pl := pl) (thn (ho.run pins s σ H _ I h) fun u s1 ⟨x, H1, I1, rx, a, dx, fs, ex, ea, l, q⟩ => ?_) ht
  subst ex
  obtain rfl : u = Value.ref a := rx
  refine getmeth_ok I1 ea h2 h3 l ?_
  refine PySem.W.callWith_K (first := [.ref a]) (h₀ := X.base) I.ok.mod.kin h3.kp (thn (ha.run pos pins s1 σ H1 _ I1 q) fun us s2 ⟨vs, H2, I2, r, q2⟩ => ⟨I2.kIn, ?_⟩) hst hpl
  exact run_fnS (us := .ref a :: us) (vs := .ref a :: vs) h4 (hr.mono hk) h5 (passAt tk σ) I2 (.cons rfl r) q2
theorem se_meth0 {C mm : String} {F : FM} {pl : Sem Bool} {x : Str} (hr : Room k X.A) (tk : Takes X W) (T : MT X.prog X.w X.K X.mg X.base lv C mm F 1) (hk : lv ≤ k) (ho : SE X W o m) (hx : x = Str.ofString mm := by rfl)
    (ht : eval (.Call (.Attribute o x apos) [] [] pos) X.env = (do
      let ov ← eval o X.env
      standAt apos.atName
      let (f, first) ← holding [ov] (getMethod ov x pl)
      callWith pos f first (backTo pos (starEach [] X.env)) (backToKw pos (keywordEach [] X.env))) := by rfl) : SE X W (.Call (.Attribute o x apos) [] [] pos) (methI C mm F m []) := by
  subst hx
  obtain ⟨c, f, fd, ps, h1, h2, h3, h4, h5⟩ := T.ex
  refine pe_imp (t := fun σ H Q => cE X.K X.mg W m σ H fun x H1 => ∃ a dx fs, x = .ref a ∧ H1 a = some (.ins c dx fs) ∧ fs.lookup (Str.ofString mm) = none ∧ spOf X.K X.mg F 1 [x] H1 Q (WE W σ)) ⟨fun pins s σ H Q I h => ?_⟩ fun σ H Q h => ?_
  · refine PySem.W.methodCall_KW (pl := pl) (thn (ho.run pins s σ H _ I h) fun u s1 ⟨x, H1, I1, rx, a, dx, fs, ex, ea, l, q⟩ => ?_) ht
    subst ex
    obtain rfl : u = Value.ref a := rx
    refine getmeth_ok I1 ea h2 h3 l ?_
    exact PySem.W.callWith_K0 (first := [.ref a]) I1.kIn h3.kp (run_fnS (us := [.ref a]) (vs := [.ref a]) h4 (hr.mono hk) h5 (passAt tk σ) I1 (.cons rfl .nil) q)
  · obtain ⟨δ, S, ι, r, q⟩ := metI (ms := []) (n := 1) h1 rfl h
    refine ⟨δ, S, ι, r, PostE.imp q fun v H' z => ?_⟩
    obtain ⟨a, dx, fs, z1, z2, z3, δ', S', ι', r', z4⟩ := z
    exact ⟨a, dx, fs, z1, z2, z3, z4 [] H' ι' .refl r'.sto .nil⟩
/-- C(..) -/
theorem se_make {C : String} {F : FM} {x : Str} (hr : Room k X.A) (tk : Takes X W) (T : KT X.prog X.w X.K X.mg X.base lv C F n) (hk : lv + 1 ≤ k) (hx : x = Str.ofString C) (hg : Gl X x) (ha : SA X W (e :: es) ms) (hn : ms.length + 1 = n := by rfl) (hdb : (x == ("__debug__" : Str)) = false := by decide)
    (he : starEach (e :: es) X.env = (false, eval e X.env) :: starEach es X.env := by rfl) (hpl : (backTo pos (starEach es X.env)).any (·.1) = false := by rfl) : SE X W (.Call (.Name x p) (e :: es) [] pos) (makeM C F ms) := by
  subst hx
  obtain ⟨c, f, fd, ps, h1, h2, h3, h4⟩ := T.ex
  have hx : ∀ σ, Passes (L2.CX X.prog X.w) { X with xe := X.xe } (WE W σ) → True := fun _ _ => trivial
  refine pe_imp (t := fun σ H Q => cA X.K X.mg W (argsM ms) σ H fun vs H1 => ∀ x dx, H1 x = none → H1 dx = none → dx ≠ x → spOf X.K X.mg F n (.ref x :: vs) (upd (upd H1 dx (.own x)) x (.ins c dx [])) (fun v H2 => v = .non ∧ Q (.ref x) H2) (WE W σ)) ⟨fun pins s σ H Q I h => ?_⟩ fun σ H Q h => ?_
  · refine wpAny_Call_Name_kw (ld_glob I hg h1 ?_ hdb)
    refine PySem.W.callWith_K (h₀ := X.base) I.ok.mod.kin h2.kp (thn (ha.run pos pins s σ H _ I h) fun us s1 ⟨vs, H1, I1, r, q⟩ => ⟨I1.kIn, ?_⟩) he hpl
    have hq := q (s1.heap.objs.size + 1) s1.heap.objs.size (I1.hok.fresh (Nat.le_succ _)) (I1.hok.fresh (Nat.le_refl _)) (Nat.ne_of_lt (Nat.lt_succ_self _))
    have I2 := Inv.made (C := c) I1
    have r2 : Vals (V.ref (s1.heap.objs.size + 1) :: vs) (Value.ref (s1.heap.objs.size + 1) :: us) := .cons rfl r
    have hl : (Value.ref (s1.heap.objs.size + 1) :: us ++ []).length = ps.length := by
      have z := r2.length
      rw [h3.len _ _ _ _ hq] at z
      rw [List.append_nil]; exact z.symm
    have hb := h4 ⟨_, _, _, _, _⟩ (Value.ref (s1.heap.objs.size + 1) :: us) I2.kIn hl
    rw [List.append_nil] at hb
    refine wpAny_call (make_map (f := f) I1.kIn h2.makes h2.init (beq_iff_eq.mp h2.fn) (codeAny_mono (h3.run _ X.stack _ _ ⟨Value.ref (s1.heap.objs.size + 1) :: us, []⟩ (Value.ref (s1.heap.objs.size + 1) :: us) _ _ (WE W σ) ((hr.mono hk).make c us [])
      (I2.env0.make c us []) hb r2 hq) fun rr s' hq' => ?_))
    cases rr with
    | error ee => exact passAt tk σ pins _ _ ee s' I2 hq'
    | ok fl =>
      cases fl with
      | ret u =>
        obtain ⟨v, H', I3, rv, ev, q3⟩ := I2.after hq'
        subst ev
        exact ⟨rv, ⟨V.ref (s1.heap.objs.size + 1), H', I3, rfl, q3⟩⟩
      | next => exact False.elim hq'
      | brk => exact False.elim hq'
      | cont => exact False.elim hq'
  · obtain ⟨δ, S, ι, r, h⟩ := h
    refine ⟨δ, S, ι, r, ?_⟩
    have h : PostE X.K X.mg W σ H ι ((argsM ms δ S).bind fun ds S1 => (F (.ref S1.length :: ds) (S1 ++ [.ins C []])).bind fun r S2 => if r = .non then .ok (.ref S1.length) S2 else .stuck) Q := h
    refine PostA.seq h fun vs H1 ι1 ds S1 e1 g1 r1 q1 h' => fun y dy hy hdy hne => ?_
    have g2 : Grow X.K H1 ι1 (upd H1 dy (.own y)) ι1 := Grow.new hdy
    have r2 := r1.new (o := .own y) hdy
    have hy2 : (upd H1 dy (.own y)) y = none := by rw [upd_ne (Ne.symm hne)]; exact hy
    have g3 : Grow X.K (upd H1 dy (.own y)) ι1 (upd (upd H1 dy (.own y)) y (.ins c dy [])) (ι1 ++ [y]) := Grow.alloc hy2
    have r3 : RS X.K X.mg (upd (upd H1 dy (.own y)) y (.ins c dy [])) (ι1 ++ [y]) (S1 ++ [.ins C []]) := r2.alloc hy2 ⟨c, dy, [], h1, upd_same, .nil⟩
    have hy3 : (ι1 ++ [y])[S1.length]? = some y := by rw [← r1.len]; simp
    refine ⟨?_, .ref S1.length :: ds, _, _, r3, .cons (.ref hy3) (q1.mono (g2.trans g3)), ?_⟩
    · have ln : ∀ (ms : List EM) (S : Store) (ds : List D) (S1 : Store), argsM ms δ S = .ok ds S1 → ds.length = ms.length := by
        intro ms
        induction ms with
        | nil => intro S ds S1 e; cases e; rfl
        | cons m ms ih =>
          intro S ds S1 e
          obtain ⟨d, S2, e1, e2⟩ := bind_inv e
          obtain ⟨ds', S3, e3, e4⟩ := bind_inv e2
          cases e4
          simp [ih _ _ _ e3]
      rw [List.length_cons, q1.length, ln _ _ _ _ e1, hn]
    · have h' := PostE.back (g2.trans g3) h'
      cases e3 : F (.ref S1.length :: ds) (S1 ++ [.ins C []]) with
      | stuck => rw [e3] at h'; exact h'.elim
      | exc x S' => rw [e3] at h'; exact h'
      | ok d S' =>
        rw [e3] at h'
        simp only [Res.bind_ok] at h'
        intro v H' ι' g4 r4 p4
        split at h'
        · rename_i hd
          subst hd
          cases p4
          exact ⟨rfl, h' _ H' ι' g4 r4 (.ref (pre_get g4.pre hy3))⟩
        · exact h'.elim
/-- a call of the def that a slot holds -/
theorem se_callV (i : Nat) {Fs : List (String × FM)} (hr : Room k X.A) (tk : Takes X W) (hF : ∀ y F, Fs.lookup y = some F → ∃ lv, lv ≤ k ∧ FT X.prog X.w X.K X.mg X.base lv y F n) (ha : SA X W (e :: es) ms) (hN : X.N[i]? = some x := by rfl) (hv : Vis X.env.scope x := by first | exact Or.inl rfl | exact Or.inr (Or.inl rfl) | exact Or.inr (Or.inr rfl)) (hn : ms.length = n := by rfl)
    (hdb : (x == ("__debug__" : Str)) = false := by decide) (hcd : (x == ("__classdict__" : Str)) = false := by decide)
    (he : starEach (e :: es) X.env = (false, eval e X.env) :: starEach es X.env := by rfl) (hpl : (backTo pos (starEach es X.env)).any (·.1) = false := by rfl) : SE X W (.Call (.Name x p) (e :: es) [] pos) (callV i Fs ms) := by
  refine ⟨fun pins s σ H Q I h => ?_⟩
  obtain ⟨δ, S, ι, rl, h⟩ := h
  unfold callV at h
  split at h
  · rename_i y e1
    split at h
    · rename_i F e2
      obtain ⟨v, e3, p3⟩ := rl.env i _ e1
      obtain ⟨lv, hk, T⟩ := hF y F e2
      obtain ⟨f, fd, ps, G, hm, hkp, hb⟩ := T.ex
      cases p3 with
      | fn hm' =>
        rw [hm] at hm'; cases hm'
        refine wpAny_Call_Name_kw (thn ((pe_var (pos := p) hN hv hdb hcd).run pins s σ H (fun v H1 => v = .ref f ∧ H1 = H) I ⟨.ref f, e3, rfl, rfl⟩) fun u s1 ⟨v, H1, I1, r1, q1⟩ => ?_)
        obtain ⟨rfl, rfl⟩ := q1
        cases r1
        have q := callF (K := X.K) (mg := X.mg) (W := W) (σ := σ) (Q := Q) hn (show cE X.K X.mg W (callM F ms) σ _ Q from ⟨δ, S, ι, rl, h⟩)
        refine PySem.W.callWith_K (h₀ := X.base) I.ok.mod.kin hkp (thn (ha.run pos pins s1 σ _ _ I1 q) fun us s2 ⟨vs, H2, I2, r, q⟩ => ⟨I2.kIn, ?_⟩) he hpl
        exact run_fnS G (hr.mono hk) hb (passAt tk σ) I2 r q
    · exact h.elim
  · exact h.elim
end
end Dl

end

section
set_option linter.all false
set_option Elab.async false
set_option maxRecDepth 100000
set_option Elab.async false
set_option linter.all false
set_option maxRecDepth 100000
set_option maxHeartbeats 4000000
namespace Dl
open PySem PySem.Spec PyProof.Rows L2

/-- a name of the module that holds data -/
structure GD (K : PySem.W.Frag) (mg : Str → Option Value) (x : String) (d : D) : Prop where
  ex : ∃ v u, mg (Str.ofString x) = some u ∧ RelV v u ∧ ∀ H ι, Rp K mg H ι v d
theorem gd_str {K : PySem.W.Frag} {mg : Str → Option Value} {x : String} {s : Str} {t : Tok} {c : Cs} (h : mg (Str.ofString x) = some (.str s t)) (e : s = toS c := by decide +kernel) : GD K mg x (.str c) := by
  subst e
  exact ⟨.str (toS c), _, h, ⟨t, rfl⟩, fun _ _ => .str c⟩
/-- texts in a tuple that the top has made -/
inductive StrVals : List Value → List Cs → Prop
  | nil : StrVals [] []
  | cons {s : Str} {t : Tok} {r : List Value} {c : Cs} {cs : List Cs} (e : s = toS c) (h : StrVals r cs) : StrVals (.str s t :: r) (c :: cs)
theorem StrVals.vals {us : List Value} {cs : List Cs} (h : StrVals us cs) : Vals (cs.map fun c => V.str (toS c)) us := by
  induction h with
  | nil => exact .nil
  | cons e h ih => subst e; exact .cons ⟨_, rfl⟩ ih
theorem gd_tup {K : PySem.W.Frag} {mg : Str → Option Value} {x : String} {a : Addr} {od : Option Addr} {its : List Value} {n : Nat} {sl : Array (Option Value)} {cs : List Cs} (h : mg (Str.ofString x) = some (.ref a)) (l : K.lookup a = some ⟨.type "tuple", od, .seq its.toArray n, sl⟩)
    (hv : StrVals its cs) (hl : cs.length ≤ 1000) : GD K mg x (.tup (cs.map D.str)) := by
  have e := hv.vals.length
  rw [List.length_map] at e
  refine ⟨.ref a, _, h, rfl, fun H ι => .tup (.inr ⟨_, its.toArray, n, l, rfl, rfl, ?_, hv.vals⟩) ?_ ?_⟩
  · rw [sizeLine_eq]
    simp
    omega
  · rw [sizeLine_eq, List.length_map]
    omega
  · clear hv hl l e
    induction cs with
    | nil => exact .nil
    | cons c cs ih => exact .cons (.str c) ih
section
variable {X : Cx} {W : WX} {e o a b c elt tge iter : Expr} {es ifs : List Expr} {m m' : EM} {ms : List EM} {p pos apos : Pos} {k n lv : Nat} {x : Str} {f : FM}
theorem se_glob {y : String} {d : D} (T : GD X.K X.mg y d) (hg : Gl X x) (hx : x = Str.ofString y) (hd : (x == ("__debug__" : Str)) = false := by decide) : SE X W (.Name x pos) (conM d) := by
  subst hx
  obtain ⟨v, u, h1, h2, h3⟩ := T.ex
  exact se_con (pe_glob hg h1 h2 hd) h3
theorem se_fnT {y : String} {F : FM} (T : FT X.prog X.w X.K X.mg X.base lv y F n) (hx : x = Str.ofString y) (hg : Gl X x) (hd : (x == ("__debug__" : Str)) = false := by decide) : SE X W (.Name x pos) (conM (.fn y)) := by
  obtain ⟨f, fd, ps, _, h, _, _⟩ := T.ex
  exact se_fn y hg hx (by rw [hx]; exact h) hd
theorem sim_addIS {K : PySem.W.Frag} {mg : Str → Option Value} : Sim2 K mg (fun x y H Q => (rI0 fun i j => .int (i + j)) x y H Q ∨ (∃ i j, x = .str i ∧ y = .str j ∧ i.length + j.length ≤ sizeLine ∧ Q (.str (i ++ j)) H)) addIS where
  run := fun x y dx dy H S ι d S' Q r px py e h => by
    unfold addIS at e
    split at e
    · rename_i i j q
      cases q; cases e; cases px; cases py
      exact .inl ⟨_, _, rfl, rfl, h _ H ι .refl r (.int _)⟩
    · rename_i i j q
      cases q
      obtain ⟨hl, rfl, rfl⟩ := ite_ok e
      cases px; cases py
      refine .inr ⟨_, _, rfl, rfl, ?_, ?_⟩
      · rw [toS_length, toS_length, ← LIM_eq]; exact hl
      · rw [toS_append]; exact h _ H ι .refl r (.str _)
    · cases e
  nox := fun ds S x S' z => by
    unfold addIS at z
    repeat (first | cases z | exact ite_exc z | split at z)
theorem ss_augAdd (i : Nat) {pos' : Pos} (hN : X.N.Nodup) (he : SE X W e m) (hi : X.N[i]? = some x := by rfl) (hx : Loc X.env.scope x := by first | exact .inl rfl | exact .inr rfl)
    (hf : X.fn x = true ∨ X.env.scope.names.lookup x = some .local := by first | exact .inl rfl | exact .inr rfl | assumption) : SS X W (.AugAssign (.Name x pos') .Add e pos) (augS i addIS m) :=
  ss_aug i (iop_add.or iop_add_str) sim_addIS hN he hi hx hf
/-- a try whose body raises nothing -/
theorem ss_thru {body : List Stmt} {h₀ : ExceptHandler} {hs : List ExceptHandler} {s : SM} (hb : SSs X.nox W0 body s) : SS X W (.Try body (h₀ :: hs) [] [] pos) (noxS s) := by
  refine ps_imp (ps_try_thru0 hb) fun D σ H q => ?_
  obtain ⟨δ, S, ι, r, q⟩ := q
  refine ⟨δ, S, ι, r, ?_⟩
  have q : PostS X.K X.mg W D H ι ((s δ S).bind fun f S1 => match f with | .ex _ _ => .stuck | _ => .ok f S1) := q
  cases e1 : s δ S with
  | stuck => rw [e1] at q; exact q.elim
  | exc y S1 => rw [e1] at q; exact q.elim
  | ok f S1 =>
    rw [e1] at q
    cases f with
    | nx δ' => exact q
    | bk δ' => exact q
    | ct δ' => exact q
    | rt d => exact q
    | ex y δ' => exact q.elim
end
/-- the names that a def may hold -/
theorem held_nil {P : Program} {w : World} {K : PySem.W.Frag} {mg : Str → Option Value} {base : Heap} {k n : Nat} : ∀ (y : String) (F : FM), ([] : List (String × FM)).lookup y = some F → ∃ lv, lv ≤ k ∧ FT P w K mg base lv y F n := fun _ _ e => by cases e
theorem held_cons {P : Program} {w : World} {K : PySem.W.Frag} {mg : Str → Option Value} {base : Heap} {k n lv0 : Nat} {y0 : String} {F0 : FM} {r : List (String × FM)} (T : FT P w K mg base lv0 y0 F0 n) (hk : lv0 ≤ k) (h : ∀ (y : String) (F : FM), r.lookup y = some F → ∃ lv, lv ≤ k ∧ FT P w K mg base lv y F n) :
    ∀ (y : String) (F : FM), ((y0, F0) :: r).lookup y = some F → ∃ lv, lv ≤ k ∧ FT P w K mg base lv y F n := fun y F e => by
  rw [List.lookup_cons] at e
  split at e
  · rename_i c
    cases beq_iff_eq.mp c
    cases e
    exact ⟨lv0, hk, T⟩
  · exact h y F e
theorem fn_stuck {P : Program} {w : World} {K : PySem.W.Frag} {mg : Str → Option Value} {base : Heap} {f : Addr} {fd : FuncData} {ps : List Str} {lv n : Nat} : FnOk P w K mg base (L2.CX P w) lv f fd ps (spOf K mg (fun _ _ => .stuck) n) := by
  refine ⟨fun vs H Q E h => ?_, fun A outer s H args us vs Q E _ _ _ _ h => ?_⟩
  · obtain ⟨_, ds, S, ι, _, _, h⟩ := h
    exact h.elim
  · obtain ⟨_, ds, S, ι, _, _, h⟩ := h
    exact h.elim
end Dl

end

section
set_option linter.all false
set_option Elab.async false
set_option maxRecDepth 100000
set_option linter.all false
set_option Elab.async false
set_option maxRecDepth 100000
set_option maxHeartbeats 4000000
/-! each def does as its reading says, printed by gen.py -/
namespace LW
open PySem PySem.Spec PyProof.Rows L2 Dl
def topS (i : Nat) : Stmt := PySem.Challenge.pw_doubtbook_k83_rules_read_back.main.body.getD i (.Pass ⟨0, 0, 0, 0⟩)
/-- these built-ins have their own names -/
structure Z (mg : Str → Option Value) : Prop where
  len : mg "len" = none
  int : mg "int" = none
  range : mg "range" = none
  tuple : mg "tuple" = none
  isinstance : mg "isinstance" = none
  str : mg "str" = none
  list : mg "list" = none
  bool : mg "bool" = none
  max : mg "max" = none
  sorted : mg "sorted" = none
  min : mg "min" = none
  abs : mg "abs" = none
section
variable {P : Program} {w : World} {K : PySem.W.Frag} {mg : Str → Option Value} {base : Heap}
abbrev s_F_table_of : Stmt := topS 4
theorem sc_F_table_of : FnScope ["schema", "name", "table"] ["schema", "name"] (defScope s_F_table_of) := ⟨rfl, rfl, rfl, by decide +kernel, rfl, by decide +kernel, by decide +kernel⟩
theorem w_F_table_of {fa : Addr} {fd : FuncData} (G : Fun K "table_of" "table_of" s_F_table_of fa fd) (hm : mg (Str.ofString "table_of") = some (.ref fa)) (hb : Binds K fd ["schema", "name"] []) (z : Z mg) : FT P w K mg base 1 "table_of" F_table_of 2 :=
  ft_of (fn_core (lv := 0) G sc_F_table_of rfl rfl fun cdv A outer s H E hr tk po => 
      (ss_cons (ss_for (tg := (.nm 2)) po rfl (si_seq (se_var 0)) (sg_nm 2 sc_F_table_of.nd) (ss_one (ss_if (st_eq hr (se_ix (se_var 2) se_int) (se_var 1)) (ss_one (ss_ret (se_var 2))) ss_nil)))
      (ss_one (ss_ret se_non)))) hm G.kp hb
abbrev s_F_run_end : Stmt := topS 9
theorem sc_F_run_end : FnScope ["line", "at", "chars", "end"] ["line", "at", "chars"] (defScope s_F_run_end) := ⟨rfl, rfl, rfl, by decide +kernel, rfl, by decide +kernel, by decide +kernel⟩
theorem w_F_run_end {fa : Addr} {fd : FuncData} (G : Fun K "run_end" "run_end" s_F_run_end fa fd) (hm : mg (Str.ofString "run_end") = some (.ref fa)) (hb : Binds K fd ["line", "at", "chars"] []) (z : Z mg) : FT P w K mg base 1 "run_end" F_run_end 3 :=
  ft_of (fn_core (lv := 0) G sc_F_run_end rfl rfl fun cdv A outer s H E hr tk po => 
      (ss_cons (ss_set 3 sc_F_run_end.nd (se_var 1))
      (ss_cons (ss_while po (st_w (sw_and (st_lt (se_var 3) (se_len (by rfl) z.len (sa_cons (se_var 0) sa_nil))) (sw_and1 (st_in hr (se_ix (se_var 0) (se_var 3)) (se_var 2))))) (ss_one (ss_augAdd 3 sc_F_run_end.nd se_int)))
      (ss_one (ss_ret (se_var 3)))))) hm G.kp hb
abbrev s_F_integer_at : Stmt := topS 10
theorem sc_F_integer_at : FnScope ["line", "at", "first", "end"] ["line", "at"] (defScope s_F_integer_at) := ⟨rfl, rfl, rfl, by decide +kernel, rfl, by decide +kernel, by decide +kernel⟩
theorem w_F_integer_at {fa : Addr} {fd : FuncData} (G : Fun K "integer_at" "integer_at" s_F_integer_at fa fd) (hm : mg (Str.ofString "integer_at") = some (.ref fa)) (hb : Binds K fd ["line", "at"] []) (z : Z mg) (gd_DIGITS : GD K mg "DIGITS" d_DIGITS) (t_run_end : FT P w K mg base 1 "run_end" F_run_end 3) : FT P w K mg base 2 "integer_at" F_integer_at 2 :=
  ft_of (fn_core (lv := 1) G sc_F_integer_at rfl rfl fun cdv A outer s H E hr tk po => 
      (ss_cons (ss_set 2 sc_F_integer_at.nd (se_ifExp (st_eq hr (se_ix (se_var 0) (se_var 1)) (se_str [45])) (se_add (se_var 1) se_int) (se_var 1)))
      (ss_cons (ss_set 3 sc_F_integer_at.nd (se_call hr tk t_run_end (by decide) rfl (by rfl) (sa_cons (se_var 0) (sa_cons (se_var 2) (sa_cons (se_glob gd_DIGITS (by rfl) rfl) sa_nil)))))
      (ss_cons (ss_if (st_w (sw_or (st_eq hr (se_var 2) (se_var 3)) (sw_or1 (st_w (sw_and (st_eq hr (se_ix (se_var 0) (se_var 2)) (se_str [48])) (sw_and1 (st_gt (se_sub (se_var 3) (se_var 1)) se_int))))))) (ss_one (ss_ret (se_tup (sa_cons (se_str []) (sa_cons se_int (sa_cons (se_var 1) sa_nil)))))) ss_nil)
      (ss_one (ss_ret (se_tup (sa_cons (se_str [105, 110, 116, 101, 103, 101, 114]) (sa_cons (se_intP (by rfl) z.int (sa_cons (se_slice (se_var 0) (so_some (se_var 1)) (so_some (se_var 3))) sa_nil)) (sa_cons (se_var 3) sa_nil)))))))))) hm G.kp hb
abbrev s_F_token_at : Stmt := topS 11
theorem sc_F_token_at : FnScope ["line", "at", "char", "end"] ["line", "at"] (defScope s_F_token_at) := ⟨rfl, rfl, rfl, by decide +kernel, rfl, by decide +kernel, by decide +kernel⟩
theorem w_F_token_at {fa : Addr} {fd : FuncData} (G : Fun K "token_at" "token_at" s_F_token_at fa fd) (hm : mg (Str.ofString "token_at") = some (.ref fa)) (hb : Binds K fd ["line", "at"] []) (z : Z mg) (gd_SIGNS : GD K mg "SIGNS" d_SIGNS) (gd_LETTERS : GD K mg "LETTERS" d_LETTERS) (t_run_end : FT P w K mg base 1 "run_end" F_run_end 3) (t_integer_at : FT P w K mg base 2 "integer_at" F_integer_at 2) : FT P w K mg base 3 "token_at" F_token_at 2 :=
  ft_of (fn_core (lv := 2) G sc_F_token_at rfl rfl fun cdv A outer s H E hr tk po => 
      (ss_cons (ss_set 2 sc_F_token_at.nd (se_ix (se_var 0) (se_var 1)))
      (ss_cons (ss_if (st_in hr (se_var 2) (se_glob gd_SIGNS (by rfl) rfl)) (ss_one (ss_ret (se_tup (sa_cons (se_var 2) (sa_cons (se_var 2) (sa_cons (se_add (se_var 1) se_int) sa_nil)))))) ss_nil)
      (ss_cons (ss_if (st_in hr (se_var 2) (se_glob gd_LETTERS (by rfl) rfl)) (ss_cons (ss_set 3 sc_F_token_at.nd (se_call hr tk t_run_end (by decide) rfl (by rfl) (sa_cons (se_var 0) (sa_cons (se_var 1) (sa_cons (se_glob gd_LETTERS (by rfl) rfl) sa_nil)))))
      (ss_one (ss_ret (se_tup (sa_cons (se_str [119, 111, 114, 100]) (sa_cons (se_slice (se_var 0) (so_some (se_var 1)) (so_some (se_var 3))) (sa_cons (se_var 3) sa_nil))))))) ss_nil)
      (ss_cons (ss_if (st_ne hr (se_var 2) (se_str [34])) (ss_one (ss_ret (se_call hr tk t_integer_at (by decide) rfl (by rfl) (sa_cons (se_var 0) (sa_cons (se_var 1) sa_nil))))) ss_nil)
      (ss_cons (ss_set 3 sc_F_token_at.nd (se_call hr tk t_run_end (by decide) rfl (by rfl) (sa_cons (se_var 0) (sa_cons (se_add (se_var 1) se_int) (sa_cons (se_glob gd_LETTERS (by rfl) rfl) sa_nil)))))
      (ss_cons (ss_if (st_w (sw_or (st_eq hr (se_var 3) (se_add (se_var 1) se_int)) (sw_or1 (st_ne hr (se_slice (se_var 0) (so_some (se_var 3)) (so_some (se_add (se_var 3) se_int))) (se_str [34]))))) (ss_one (ss_ret (se_tup (sa_cons (se_str []) (sa_cons se_int (sa_cons (se_var 1) sa_nil)))))) ss_nil)
      (ss_one (ss_ret (se_tup (sa_cons (se_str [113, 117, 111, 116, 101, 100]) (sa_cons (se_slice (se_var 0) (so_some (se_add (se_var 1) se_int)) (so_some (se_var 3))) (sa_cons (se_add (se_var 3) se_int) sa_nil))))))))))))) hm G.kp hb
abbrev s_F_tokens_of : Stmt := topS 12
theorem sc_F_tokens_of : FnScope ["line", "tokens", "at", "kind", "value", "end"] ["line"] (defScope s_F_tokens_of) := ⟨rfl, rfl, rfl, by decide +kernel, rfl, by decide +kernel, by decide +kernel⟩
theorem w_F_tokens_of {fa : Addr} {fd : FuncData} (G : Fun K "tokens_of" "tokens_of" s_F_tokens_of fa fd) (hm : mg (Str.ofString "tokens_of") = some (.ref fa)) (hb : Binds K fd ["line"] []) (z : Z mg) (t_run_end : FT P w K mg base 1 "run_end" F_run_end 3) (t_token_at : FT P w K mg base 3 "token_at" F_token_at 2) : FT P w K mg base 4 "tokens_of" F_tokens_of 1 :=
  ft_of (fn_core (lv := 3) G sc_F_tokens_of rfl rfl fun cdv A outer s H E hr tk po => 
      (ss_cons (ss_set 1 sc_F_tokens_of.nd (se_lst sa_nil))
      (ss_cons (ss_set 2 sc_F_tokens_of.nd (se_call hr tk t_run_end (by decide) rfl (by rfl) (sa_cons (se_var 0) (sa_cons se_int (sa_cons (se_str [32]) sa_nil)))))
      (ss_cons (ss_while po (st_lt (se_var 2) (se_len (by rfl) z.len (sa_cons (se_var 0) sa_nil))) (ss_cons (ss_asg (tg := (.tp [3, 4, 5])) (se_call hr tk t_token_at (by decide) rfl (by rfl) (sa_cons (se_var 0) (sa_cons (se_var 2) sa_nil))) (sg_tp rfl (sgs_cons (sg_nm 3 sc_F_tokens_of.nd) (sgs_cons (sg_nm 4 sc_F_tokens_of.nd) (sgs_cons (sg_nm 5 sc_F_tokens_of.nd) sgs_nil)))))
      (ss_cons (ss_expr (se_bm PySem.F.plainAttrs_list PySem.F.slot_list_append PySem.F.type_list_append mt_append sim_append (.inl rfl) (se_var 1) (sa_cons (se_tup (sa_cons (se_var 2) (sa_cons (se_var 3) (sa_cons (se_var 4) sa_nil)))) sa_nil)))
      (ss_cons (ss_if (st_eq hr (se_var 3) (se_str [])) (ss_one (ss_ret (se_var 1))) ss_nil)
      (ss_one (ss_set 2 sc_F_tokens_of.nd (se_call hr tk t_run_end (by decide) rfl (by rfl) (sa_cons (se_var 0) (sa_cons (se_var 5) (sa_cons (se_str [32]) sa_nil))))))))))
      (ss_cons (ss_expr (se_bm PySem.F.plainAttrs_list PySem.F.slot_list_append PySem.F.type_list_append mt_append sim_append (.inl rfl) (se_var 1) (sa_cons (se_tup (sa_cons (se_len (by rfl) z.len (sa_cons (se_var 0) sa_nil)) (sa_cons (se_str [101, 110, 100]) (sa_cons se_int sa_nil)))) sa_nil)))
      (ss_one (ss_ret (se_var 1)))))))) hm G.kp hb
abbrev s_F_Line___init__ : Stmt := inClass (topS 13) 0
theorem sc_F_Line___init__ : FnScope ["self", "text", "number"] ["self", "text", "number"] (defScope s_F_Line___init__) := ⟨rfl, rfl, rfl, by decide +kernel, rfl, by decide +kernel, by decide +kernel⟩
theorem w_F_Line___init__ {C : Addr} {fa : Addr} {fd : FuncData} (G : Fun K "__init__" "Line.__init__" s_F_Line___init__ fa fd) (hC : mg (Str.ofString "Line") = some (.ref C)) (mk : Mk K C fa) (hb : Binds K fd ["self", "text", "number"] []) (z : Z mg) (ct_Line : CT K mg "Line" ["number", "tokens", "many"]) (t_tokens_of : FT P w K mg base 4 "tokens_of" F_tokens_of 1) : KT P w K mg base 5 "Line" F_Line___init__ 3 :=
  ⟨C, fa, fd, _, hC, mk, fn_core (lv := 4) G sc_F_Line___init__ rfl rfl fun cdv A outer s H E hr tk po => 
      (ss_cons (ss_fld ct_Line (by decide) (se_var 0) (se_var 2))
      (ss_cons (ss_fld ct_Line (by decide) (se_var 0) (se_call hr tk t_tokens_of (by decide) rfl (by rfl) (sa_cons (se_var 1) sa_nil)))
      (ss_one (ss_fld ct_Line (by decide) (se_var 0) se_int)))), hb⟩
abbrev s_F_Line_kind : Stmt := inClass (topS 13) 1
theorem sc_F_Line_kind : FnScope ["self"] ["self"] (defScope s_F_Line_kind) := ⟨rfl, rfl, rfl, by decide +kernel, rfl, by decide +kernel, by decide +kernel⟩
theorem w_F_Line_kind {C : Addr} {fa : Addr} {fd : FuncData} (G : Fun K "kind" "Line.kind" s_F_Line_kind fa fd) (hC : mg (Str.ofString "Line") = some (.ref C)) (cl : Cls K C) (me : Meth K C (Str.ofString "kind") fa) (hb : Binds K fd ["self"] []) (z : Z mg) (ct_Line : CT K mg "Line" ["number", "tokens", "many"]) : MT P w K mg base 1 "Line" "kind" F_Line_kind 1 :=
  ⟨C, fa, fd, _, hC, cl, me, fn_core (lv := 0) G sc_F_Line_kind rfl rfl fun cdv A outer s H E hr tk po => 
      (ss_one (ss_ret (se_ix (se_ix (se_fld ct_Line (by decide) (se_var 0)) (se_fld ct_Line (by decide) (se_var 0))) se_int))), hb⟩
abbrev s_F_Line_value : Stmt := inClass (topS 13) 2
theorem sc_F_Line_value : FnScope ["self"] ["self"] (defScope s_F_Line_value) := ⟨rfl, rfl, rfl, by decide +kernel, rfl, by decide +kernel, by decide +kernel⟩
theorem w_F_Line_value {C : Addr} {fa : Addr} {fd : FuncData} (G : Fun K "value" "Line.value" s_F_Line_value fa fd) (hC : mg (Str.ofString "Line") = some (.ref C)) (cl : Cls K C) (me : Meth K C (Str.ofString "value") fa) (hb : Binds K fd ["self"] []) (z : Z mg) (ct_Line : CT K mg "Line" ["number", "tokens", "many"]) : MT P w K mg base 1 "Line" "value" F_Line_value 1 :=
  ⟨C, fa, fd, _, hC, cl, me, fn_core (lv := 0) G sc_F_Line_value rfl rfl fun cdv A outer s H E hr tk po => 
      (ss_one (ss_ret (se_ix (se_ix (se_fld ct_Line (by decide) (se_var 0)) (se_fld ct_Line (by decide) (se_var 0))) se_int))), hb⟩
abbrev s_F_Line_word : Stmt := inClass (topS 13) 3
theorem sc_F_Line_word : FnScope ["self"] ["self"] (defScope s_F_Line_word) := ⟨rfl, rfl, rfl, by decide +kernel, rfl, by decide +kernel, by decide +kernel⟩
theorem w_F_Line_word {C : Addr} {fa : Addr} {fd : FuncData} (G : Fun K "word" "Line.word" s_F_Line_word fa fd) (hC : mg (Str.ofString "Line") = some (.ref C)) (cl : Cls K C) (me : Meth K C (Str.ofString "word") fa) (hb : Binds K fd ["self"] []) (z : Z mg) (mt_Line_kind : MT P w K mg base 1 "Line" "kind" F_Line_kind 1) (mt_Line_value : MT P w K mg base 1 "Line" "value" F_Line_value 1) : MT P w K mg base 2 "Line" "word" F_Line_word 1 :=
  ⟨C, fa, fd, _, hC, cl, me, fn_core (lv := 1) G sc_F_Line_word rfl rfl fun cdv A outer s H E hr tk po => 
      (ss_cons (ss_if (st_eq hr (se_meth0 hr tk mt_Line_kind (by decide) (se_var 0)) (se_str [119, 111, 114, 100])) (ss_one (ss_ret (se_meth0 hr tk mt_Line_value (by decide) (se_var 0)))) ss_nil)
      (ss_one (ss_ret (se_str [])))), hb⟩
abbrev s_F_Line_behind : Stmt := inClass (topS 13) 4
theorem sc_F_Line_behind : FnScope ["self"] ["self"] (defScope s_F_Line_behind) := ⟨rfl, rfl, rfl, by decide +kernel, rfl, by decide +kernel, by decide +kernel⟩
theorem w_F_Line_behind {C : Addr} {fa : Addr} {fd : FuncData} (G : Fun K "behind" "Line.behind" s_F_Line_behind fa fd) (hC : mg (Str.ofString "Line") = some (.ref C)) (cl : Cls K C) (me : Meth K C (Str.ofString "behind") fa) (hb : Binds K fd ["self"] []) (z : Z mg) (ct_Line : CT K mg "Line" ["number", "tokens", "many"]) : MT P w K mg base 1 "Line" "behind" F_Line_behind 1 :=
  ⟨C, fa, fd, _, hC, cl, me, fn_core (lv := 0) G sc_F_Line_behind rfl rfl fun cdv A outer s H E hr tk po => 
      (ss_one (ss_ret (se_slice (se_ix (se_fld ct_Line (by decide) (se_var 0)) (se_add (se_fld ct_Line (by decide) (se_var 0)) se_int)) (so_some se_int) so_none))), hb⟩
abbrev s_F_Line_refuse : Stmt := inClass (topS 13) 5
theorem sc_F_Line_refuse : FnScope ["self"] ["self"] (defScope s_F_Line_refuse) := ⟨rfl, rfl, rfl, by decide +kernel, rfl, by decide +kernel, by decide +kernel⟩
theorem w_F_Line_refuse {C : Addr} {fa : Addr} {fd : FuncData} (G : Fun K "refuse" "Line.refuse" s_F_Line_refuse fa fd) (hC : mg (Str.ofString "Line") = some (.ref C)) (cl : Cls K C) (me : Meth K C (Str.ofString "refuse") fa) (hb : Binds K fd ["self"] []) (z : Z mg) : MT P w K mg base 1 "Line" "refuse" F_Line_refuse 1 :=
  ⟨C, fa, fd, _, hC, cl, me, fn_core (lv := 0) G sc_F_Line_refuse rfl rfl fun cdv A outer s H E hr tk po => 
      (ss_one ss_never), hb⟩
abbrev s_F_Line_take : Stmt := inClass (topS 13) 6
theorem sc_F_Line_take : FnScope ["self", "kind", "value"] ["self", "kind"] (defScope s_F_Line_take) := ⟨rfl, rfl, rfl, by decide +kernel, rfl, by decide +kernel, by decide +kernel⟩
theorem w_F_Line_take {C : Addr} {fa : Addr} {fd : FuncData} (G : Fun K "take" "Line.take" s_F_Line_take fa fd) (hC : mg (Str.ofString "Line") = some (.ref C)) (cl : Cls K C) (me : Meth K C (Str.ofString "take") fa) (hb : Binds K fd ["self", "kind"] []) (z : Z mg) (ct_Line : CT K mg "Line" ["number", "tokens", "many"]) (mt_Line_kind : MT P w K mg base 1 "Line" "kind" F_Line_kind 1) (mt_Line_refuse : MT P w K mg base 1 "Line" "refuse" F_Line_refuse 1) (mt_Line_value : MT P w K mg base 1 "Line" "value" F_Line_value 1) : MT P w K mg base 2 "Line" "take" F_Line_take 2 :=
  ⟨C, fa, fd, _, hC, cl, me, fn_core (lv := 1) G sc_F_Line_take rfl rfl fun cdv A outer s H E hr tk po => 
      (ss_cons (ss_if (st_ne hr (se_meth0 hr tk mt_Line_kind (by decide) (se_var 0)) (se_var 1)) (ss_one (ss_expr (se_meth0 hr tk mt_Line_refuse (by decide) (se_var 0)))) ss_nil)
      (ss_cons (ss_set 2 sc_F_Line_take.nd (se_meth0 hr tk mt_Line_value (by decide) (se_var 0)))
      (ss_cons (ss_fldinc ct_Line (by decide) (se_var 0))
      (ss_one (ss_ret (se_var 2)))))), hb⟩
abbrev s_F_Line_take_one : Stmt := inClass (topS 13) 7
theorem sc_F_Line_take_one : FnScope ["self", "words"] ["self", "words"] (defScope s_F_Line_take_one) := ⟨rfl, rfl, rfl, by decide +kernel, rfl, by decide +kernel, by decide +kernel⟩
theorem w_F_Line_take_one {C : Addr} {fa : Addr} {fd : FuncData} (G : Fun K "take_one" "Line.take_one" s_F_Line_take_one fa fd) (hC : mg (Str.ofString "Line") = some (.ref C)) (cl : Cls K C) (me : Meth K C (Str.ofString "take_one") fa) (hb : Binds K fd ["self", "words"] []) (z : Z mg) (mt_Line_word : MT P w K mg base 2 "Line" "word" F_Line_word 1) (mt_Line_refuse : MT P w K mg base 1 "Line" "refuse" F_Line_refuse 1) (mt_Line_take : MT P w K mg base 2 "Line" "take" F_Line_take 2) : MT P w K mg base 3 "Line" "take_one" F_Line_take_one 2 :=
  ⟨C, fa, fd, _, hC, cl, me, fn_core (lv := 2) G sc_F_Line_take_one rfl rfl fun cdv A outer s H E hr tk po => 
      (ss_cons (ss_if (st_notIn hr (se_meth0 hr tk mt_Line_word (by decide) (se_var 0)) (se_var 1)) (ss_one (ss_expr (se_meth0 hr tk mt_Line_refuse (by decide) (se_var 0)))) ss_nil)
      (ss_one (ss_ret (se_meth hr tk mt_Line_take (by decide) (se_var 0) (sa_cons (se_str [119, 111, 114, 100]) sa_nil))))), hb⟩
abbrev s_F_Line_take_integer : Stmt := inClass (topS 13) 8
theorem sc_F_Line_take_integer : FnScope ["self", "least"] ["self", "least"] (defScope s_F_Line_take_integer) := ⟨rfl, rfl, rfl, by decide +kernel, rfl, by decide +kernel, by decide +kernel⟩
theorem w_F_Line_take_integer {C : Addr} {fa : Addr} {fd : FuncData} (G : Fun K "take_integer" "Line.take_integer" s_F_Line_take_integer fa fd) (hC : mg (Str.ofString "Line") = some (.ref C)) (cl : Cls K C) (me : Meth K C (Str.ofString "take_integer") fa) (hb : Binds K fd ["self", "least"] []) (z : Z mg) (mt_Line_kind : MT P w K mg base 1 "Line" "kind" F_Line_kind 1) (mt_Line_value : MT P w K mg base 1 "Line" "value" F_Line_value 1) (mt_Line_refuse : MT P w K mg base 1 "Line" "refuse" F_Line_refuse 1) (mt_Line_take : MT P w K mg base 2 "Line" "take" F_Line_take 2) : MT P w K mg base 3 "Line" "take_integer" F_Line_take_integer 2 :=
  ⟨C, fa, fd, _, hC, cl, me, fn_core (lv := 2) G sc_F_Line_take_integer rfl rfl fun cdv A outer s H E hr tk po => 
      (ss_cons (ss_if (st_w (sw_and (st_eq hr (se_meth0 hr tk mt_Line_kind (by decide) (se_var 0)) (se_str [105, 110, 116, 101, 103, 101, 114])) (sw_and1 (st_lt (se_meth0 hr tk mt_Line_value (by decide) (se_var 0)) (se_var 1))))) (ss_one (ss_expr (se_meth0 hr tk mt_Line_refuse (by decide) (se_var 0)))) ss_nil)
      (ss_one (ss_ret (se_meth hr tk mt_Line_take (by decide) (se_var 0) (sa_cons (se_str [105, 110, 116, 101, 103, 101, 114]) sa_nil))))), hb⟩
abbrev s_F_Line_take_value : Stmt := inClass (topS 13) 9
theorem sc_F_Line_take_value : FnScope ["self"] ["self"] (defScope s_F_Line_take_value) := ⟨rfl, rfl, rfl, by decide +kernel, rfl, by decide +kernel, by decide +kernel⟩
theorem w_F_Line_take_value {C : Addr} {fa : Addr} {fd : FuncData} (G : Fun K "take_value" "Line.take_value" s_F_Line_take_value fa fd) (hC : mg (Str.ofString "Line") = some (.ref C)) (cl : Cls K C) (me : Meth K C (Str.ofString "take_value") fa) (hb : Binds K fd ["self"] []) (z : Z mg) (mt_Line_kind : MT P w K mg base 1 "Line" "kind" F_Line_kind 1) (mt_Line_refuse : MT P w K mg base 1 "Line" "refuse" F_Line_refuse 1) (mt_Line_take : MT P w K mg base 2 "Line" "take" F_Line_take 2) : MT P w K mg base 3 "Line" "take_value" F_Line_take_value 1 :=
  ⟨C, fa, fd, _, hC, cl, me, fn_core (lv := 2) G sc_F_Line_take_value rfl rfl fun cdv A outer s H E hr tk po => 
      (ss_cons (ss_if (st_notIn hr (se_meth0 hr tk mt_Line_kind (by decide) (se_var 0)) (se_tup (sa_cons (se_str [105, 110, 116, 101, 103, 101, 114]) (sa_cons (se_str [113, 117, 111, 116, 101, 100]) sa_nil)))) (ss_one (ss_expr (se_meth0 hr tk mt_Line_refuse (by decide) (se_var 0)))) ss_nil)
      (ss_one (ss_ret (se_meth hr tk mt_Line_take (by decide) (se_var 0) (sa_cons (se_meth0 hr tk mt_Line_kind (by decide) (se_var 0)) sa_nil))))), hb⟩
abbrev s_F_Line_take_term : Stmt := inClass (topS 13) 10
theorem sc_F_Line_take_term : FnScope ["self"] ["self"] (defScope s_F_Line_take_term) := ⟨rfl, rfl, rfl, by decide +kernel, rfl, by decide +kernel, by decide +kernel⟩
theorem w_F_Line_take_term {C : Addr} {fa : Addr} {fd : FuncData} (G : Fun K "take_term" "Line.take_term" s_F_Line_take_term fa fd) (hC : mg (Str.ofString "Line") = some (.ref C)) (cl : Cls K C) (me : Meth K C (Str.ofString "take_term") fa) (hb : Binds K fd ["self"] []) (z : Z mg) (mt_Line_kind : MT P w K mg base 1 "Line" "kind" F_Line_kind 1) (mt_Line_take : MT P w K mg base 2 "Line" "take" F_Line_take 2) (mt_Line_take_value : MT P w K mg base 3 "Line" "take_value" F_Line_take_value 1) : MT P w K mg base 4 "Line" "take_term" F_Line_take_term 1 :=
  ⟨C, fa, fd, _, hC, cl, me, fn_core (lv := 3) G sc_F_Line_take_term rfl rfl fun cdv A outer s H E hr tk po => 
      (ss_cons (ss_if (st_eq hr (se_meth0 hr tk mt_Line_kind (by decide) (se_var 0)) (se_str [119, 111, 114, 100])) (ss_one (ss_ret (se_tup (sa_cons (se_str [118, 97, 114]) (sa_cons (se_meth hr tk mt_Line_take (by decide) (se_var 0) (sa_cons (se_str [119, 111, 114, 100]) sa_nil)) sa_nil))))) ss_nil)
      (ss_one (ss_ret (se_tup (sa_cons (se_str [118, 97, 108, 117, 101]) (sa_cons (se_meth0 hr tk mt_Line_take_value (by decide) (se_var 0)) sa_nil)))))), hb⟩
abbrev s_F_take_term : Stmt := topS 18
theorem sc_F_take_term : FnScope ["line"] ["line"] (defScope s_F_take_term) := ⟨rfl, rfl, rfl, by decide +kernel, rfl, by decide +kernel, by decide +kernel⟩
theorem w_F_take_term {fa : Addr} {fd : FuncData} (G : Fun K "take_term" "take_term" s_F_take_term fa fd) (hm : mg (Str.ofString "take_term") = some (.ref fa)) (hb : Binds K fd ["line"] []) (z : Z mg) (mt_Line_take_term : MT P w K mg base 4 "Line" "take_term" F_Line_take_term 1) : FT P w K mg base 5 "take_term" F_take_term 1 :=
  ft_of (fn_core (lv := 4) G sc_F_take_term rfl rfl fun cdv A outer s H E hr tk po => 
      (ss_one (ss_ret (se_meth0 hr tk mt_Line_take_term (by decide) (se_var 0))))) hm G.kp hb
abbrev s_F_take_places : Stmt := topS 19
theorem sc_F_take_places : FnScope ["line", "count", "take_place", "places", "at"] ["line", "count", "take_place"] (defScope s_F_take_places) := ⟨rfl, rfl, rfl, by decide +kernel, rfl, by decide +kernel, by decide +kernel⟩
theorem w_F_take_places {fa : Addr} {fd : FuncData} (G : Fun K "take_places" "take_places" s_F_take_places fa fd) (hm : mg (Str.ofString "take_places") = some (.ref fa)) (hb : Binds K fd ["line", "count", "take_place"] []) (z : Z mg) (t_take_term : FT P w K mg base 5 "take_term" F_take_term 1) (mt_Line_take : MT P w K mg base 2 "Line" "take" F_Line_take 2) (hh_F_take_places : ∀ y F, hs_F_take_places.lookup y = some F → ∃ lv, lv ≤ 5 ∧ FT P w K mg base lv y F 1) : FT P w K mg base 6 "take_places" F_take_places 3 :=
  ft_of (fn_core (lv := 5) G sc_F_take_places rfl rfl fun cdv A outer s H E hr tk po => 
      (ss_cons (ss_set 3 sc_F_take_places.nd (se_lst sa_nil))
      (ss_cons (ss_for (tg := (.nm 4)) po rfl (si_range1 (by rfl) z.range (sa_cons (se_var 1) sa_nil)) (sg_nm 4 sc_F_take_places.nd) (ss_cons (ss_if (st_gt (se_var 4) se_int) (ss_one (ss_expr (se_meth hr tk mt_Line_take (by decide) (se_var 0) (sa_cons (se_str [44]) sa_nil)))) ss_nil)
      (ss_one (ss_expr (se_bm PySem.F.plainAttrs_list PySem.F.slot_list_append PySem.F.type_list_append mt_append sim_append (.inl rfl) (se_var 3) (sa_cons (se_callV 2 hr tk hh_F_take_places (sa_cons (se_var 0) sa_nil)) sa_nil))))))
      (ss_one (ss_ret (se_var 3)))))) hm G.kp hb
abbrev s_F_take_cells : Stmt := topS 20
theorem sc_F_take_cells : FnScope ["line", "table", "take_place", "key", "others"] ["line", "table", "take_place"] (defScope s_F_take_cells) := ⟨rfl, rfl, rfl, by decide +kernel, rfl, by decide +kernel, by decide +kernel⟩
theorem w_F_take_cells {fa : Addr} {fd : FuncData} (G : Fun K "take_cells" "take_cells" s_F_take_cells fa fd) (hm : mg (Str.ofString "take_cells") = some (.ref fa)) (hb : Binds K fd ["line", "table", "take_place"] []) (z : Z mg) (t_take_places : FT P w K mg base 6 "take_places" F_take_places 3) (mt_Line_take : MT P w K mg base 2 "Line" "take" F_Line_take 2) : FT P w K mg base 7 "take_cells" F_take_cells 3 :=
  ft_of (fn_core (lv := 6) G sc_F_take_cells rfl rfl fun cdv A outer s H E hr tk po => 
      (ss_cons (ss_expr (se_meth hr tk mt_Line_take (by decide) (se_var 0) (sa_cons (se_str [40]) sa_nil)))
      (ss_cons (ss_set 3 sc_F_take_cells.nd (se_call hr tk t_take_places (by decide) rfl (by rfl) (sa_cons (se_var 0) (sa_cons (se_ix (se_var 1) se_int) (sa_cons (se_var 2) sa_nil)))))
      (ss_cons (ss_expr (se_meth hr tk mt_Line_take (by decide) (se_var 0) (sa_cons (se_str [124]) sa_nil)))
      (ss_cons (ss_set 4 sc_F_take_cells.nd (se_call hr tk t_take_places (by decide) rfl (by rfl) (sa_cons (se_var 0) (sa_cons (se_ix (se_var 1) se_int) (sa_cons (se_var 2) sa_nil)))))
      (ss_cons (ss_expr (se_meth hr tk mt_Line_take (by decide) (se_var 0) (sa_cons (se_str [41]) sa_nil)))
      (ss_one (ss_ret (se_tuple (by rfl) z.tuple (sa_cons (se_add (se_var 3) (se_var 4)) sa_nil)))))))))) hm G.kp hb
abbrev s_F_take_plain : Stmt := topS 21
theorem sc_F_take_plain : FnScope ["line", "terms"] ["line"] (defScope s_F_take_plain) := ⟨rfl, rfl, rfl, by decide +kernel, rfl, by decide +kernel, by decide +kernel⟩
theorem w_F_take_plain {fa : Addr} {fd : FuncData} (G : Fun K "take_plain" "take_plain" s_F_take_plain fa fd) (hm : mg (Str.ofString "take_plain") = some (.ref fa)) (hb : Binds K fd ["line"] []) (z : Z mg) (mt_Line_take : MT P w K mg base 2 "Line" "take" F_Line_take 2) (mt_Line_kind : MT P w K mg base 1 "Line" "kind" F_Line_kind 1) (mt_Line_take_term : MT P w K mg base 4 "Line" "take_term" F_Line_take_term 1) : FT P w K mg base 5 "take_plain" F_take_plain 1 :=
  ft_of (fn_core (lv := 4) G sc_F_take_plain rfl rfl fun cdv A outer s H E hr tk po => 
      (ss_cons (ss_expr (se_meth hr tk mt_Line_take (by decide) (se_var 0) (sa_cons (se_str [40]) sa_nil)))
      (ss_cons (ss_set 1 sc_F_take_plain.nd (se_lst sa_nil))
      (ss_cons (ss_if (st_ne hr (se_meth0 hr tk mt_Line_kind (by decide) (se_var 0)) (se_str [41])) (ss_cons (ss_expr (se_bm PySem.F.plainAttrs_list PySem.F.slot_list_append PySem.F.type_list_append mt_append sim_append (.inl rfl) (se_var 1) (sa_cons (se_meth0 hr tk mt_Line_take_term (by decide) (se_var 0)) sa_nil)))
      (ss_one (ss_while po (st_eq hr (se_meth0 hr tk mt_Line_kind (by decide) (se_var 0)) (se_str [44])) (ss_cons (ss_expr (se_meth hr tk mt_Line_take (by decide) (se_var 0) (sa_cons (se_str [44]) sa_nil)))
      (ss_one (ss_expr (se_bm PySem.F.plainAttrs_list PySem.F.slot_list_append PySem.F.type_list_append mt_append sim_append (.inl rfl) (se_var 1) (sa_cons (se_meth0 hr tk mt_Line_take_term (by decide) (se_var 0)) sa_nil)))))))) ss_nil)
      (ss_cons (ss_expr (se_meth hr tk mt_Line_take (by decide) (se_var 0) (sa_cons (se_str [41]) sa_nil)))
      (ss_one (ss_ret (se_tuple (by rfl) z.tuple (sa_cons (se_var 1) sa_nil))))))))) hm G.kp hb
abbrev s_F_take_atom : Stmt := topS 22
theorem sc_F_take_atom : FnScope ["line", "schema", "how", "name", "table"] ["line", "schema", "how"] (defScope s_F_take_atom) := ⟨rfl, rfl, rfl, by decide +kernel, rfl, by decide +kernel, by decide +kernel⟩
theorem w_F_take_atom {fa : Addr} {fd : FuncData} (G : Fun K "take_atom" "take_atom" s_F_take_atom fa fd) (hm : mg (Str.ofString "take_atom") = some (.ref fa)) (hb : Binds K fd ["line", "schema", "how"] []) (z : Z mg) (t_table_of : FT P w K mg base 1 "table_of" F_table_of 2) (t_take_plain : FT P w K mg base 5 "take_plain" F_take_plain 1) (t_take_term : FT P w K mg base 5 "take_term" F_take_term 1) (t_take_cells : FT P w K mg base 7 "take_cells" F_take_cells 3) (mt_Line_take : MT P w K mg base 2 "Line" "take" F_Line_take 2) : FT P w K mg base 8 "take_atom" F_take_atom 3 :=
  ft_of (fn_core (lv := 7) G sc_F_take_atom rfl rfl fun cdv A outer s H E hr tk po => 
      (ss_cons (ss_set 3 sc_F_take_atom.nd (se_meth hr tk mt_Line_take (by decide) (se_var 0) (sa_cons (se_str [119, 111, 114, 100]) sa_nil)))
      (ss_cons (ss_set 4 sc_F_take_atom.nd (se_call hr tk t_table_of (by decide) rfl (by rfl) (sa_cons (se_var 1) (sa_cons (se_var 3) sa_nil))))
      (ss_cons (ss_if (st_isN (se_var 4)) (ss_one (ss_ret (se_tup (sa_cons (se_str [97, 116, 111, 109]) (sa_cons (se_var 2) (sa_cons (se_var 3) (sa_cons (se_call hr tk t_take_plain (by decide) rfl (by rfl) (sa_cons (se_var 0) sa_nil)) sa_nil))))))) ss_nil)
      (ss_one (ss_ret (se_tup (sa_cons (se_str [97, 116, 111, 109]) (sa_cons (se_var 2) (sa_cons (se_var 3) (sa_cons (se_call hr tk t_take_cells (by decide) rfl (by rfl) (sa_cons (se_var 0) (sa_cons (se_var 4) (sa_cons (se_fnT t_take_term rfl (by rfl)) sa_nil)))) sa_nil))))))))))) hm G.kp hb
abbrev s_F_take_how : Stmt := topS 23
theorem sc_F_take_how : FnScope ["line", "word"] ["line"] (defScope s_F_take_how) := ⟨rfl, rfl, rfl, by decide +kernel, rfl, by decide +kernel, by decide +kernel⟩
theorem w_F_take_how {fa : Addr} {fd : FuncData} (G : Fun K "take_how" "take_how" s_F_take_how fa fd) (hm : mg (Str.ofString "take_how") = some (.ref fa)) (hb : Binds K fd ["line"] []) (z : Z mg) (gd_HOWS : GD K mg "HOWS" d_HOWS) (gd_BOUNDED : GD K mg "BOUNDED" d_BOUNDED) (mt_Line_take : MT P w K mg base 2 "Line" "take" F_Line_take 2) (mt_Line_refuse : MT P w K mg base 1 "Line" "refuse" F_Line_refuse 1) (mt_Line_kind : MT P w K mg base 1 "Line" "kind" F_Line_kind 1) (mt_Line_take_integer : MT P w K mg base 3 "Line" "take_integer" F_Line_take_integer 2) : FT P w K mg base 4 "take_how" F_take_how 1 :=
  ft_of (fn_core (lv := 3) G sc_F_take_how rfl rfl fun cdv A outer s H E hr tk po => 
      (ss_cons (ss_set 1 sc_F_take_how.nd (se_meth hr tk mt_Line_take (by decide) (se_var 0) (sa_cons (se_str [119, 111, 114, 100]) sa_nil)))
      (ss_cons (ss_if (st_notIn hr (se_var 1) (se_glob gd_HOWS (by rfl) rfl)) (ss_one (ss_expr (se_meth0 hr tk mt_Line_refuse (by decide) (se_var 0)))) ss_nil)
      (ss_cons (ss_if (st_eq hr (se_meth0 hr tk mt_Line_kind (by decide) (se_var 0)) (se_str [105, 110, 116, 101, 103, 101, 114])) (ss_one (ss_ret (se_tup (sa_cons (se_var 1) (sa_cons (se_meth hr tk mt_Line_take_integer (by decide) (se_var 0) (sa_cons se_int sa_nil)) sa_nil))))) ss_nil)
      (ss_cons (ss_if (st_in hr (se_var 1) (se_glob gd_BOUNDED (by rfl) rfl)) (ss_one (ss_expr (se_meth0 hr tk mt_Line_refuse (by decide) (se_var 0)))) ss_nil)
      (ss_cons (ss_expr (se_meth hr tk mt_Line_take (by decide) (se_var 0) (sa_cons (se_str [119, 111, 114, 100]) sa_nil)))
      (ss_one (ss_ret (se_tup (sa_cons (se_var 1) (sa_cons se_non sa_nil))))))))))) hm G.kp hb
abbrev s_F_take_test : Stmt := topS 24
theorem sc_F_take_test : FnScope ["line", "term", "kind"] ["line"] (defScope s_F_take_test) := ⟨rfl, rfl, rfl, by decide +kernel, rfl, by decide +kernel, by decide +kernel⟩
theorem w_F_take_test {fa : Addr} {fd : FuncData} (G : Fun K "take_test" "take_test" s_F_take_test fa fd) (hm : mg (Str.ofString "take_test") = some (.ref fa)) (hb : Binds K fd ["line"] []) (z : Z mg) (gd_TESTS : GD K mg "TESTS" d_TESTS) (mt_Line_take_term : MT P w K mg base 4 "Line" "take_term" F_Line_take_term 1) (mt_Line_take_one : MT P w K mg base 3 "Line" "take_one" F_Line_take_one 2) : FT P w K mg base 5 "take_test" F_take_test 1 :=
  ft_of (fn_core (lv := 4) G sc_F_take_test rfl rfl fun cdv A outer s H E hr tk po => 
      (ss_cons (ss_set 1 sc_F_take_test.nd (se_meth0 hr tk mt_Line_take_term (by decide) (se_var 0)))
      (ss_cons (ss_set 2 sc_F_take_test.nd (se_meth hr tk mt_Line_take_one (by decide) (se_var 0) (sa_cons (se_glob gd_TESTS (by rfl) rfl) sa_nil)))
      (ss_one (ss_ret (se_tup (sa_cons (se_var 2) (sa_cons (se_var 1) (sa_cons (se_meth0 hr tk mt_Line_take_term (by decide) (se_var 0)) sa_nil))))))))) hm G.kp hb
abbrev s_F_take_literal : Stmt := topS 25
theorem sc_F_take_literal : FnScope ["line", "schema", "second", "how"] ["line", "schema"] (defScope s_F_take_literal) := ⟨rfl, rfl, rfl, by decide +kernel, rfl, by decide +kernel, by decide +kernel⟩
theorem w_F_take_literal {fa : Addr} {fd : FuncData} (G : Fun K "take_literal" "take_literal" s_F_take_literal fa fd) (hm : mg (Str.ofString "take_literal") = some (.ref fa)) (hb : Binds K fd ["line", "schema"] []) (z : Z mg) (t_take_test : FT P w K mg base 5 "take_test" F_take_test 1) (t_take_atom : FT P w K mg base 8 "take_atom" F_take_atom 3) (t_take_how : FT P w K mg base 4 "take_how" F_take_how 1) (mt_Line_kind : MT P w K mg base 1 "Line" "kind" F_Line_kind 1) (mt_Line_behind : MT P w K mg base 1 "Line" "behind" F_Line_behind 1) : FT P w K mg base 9 "take_literal" F_take_literal 2 :=
  ft_of (fn_core (lv := 8) G sc_F_take_literal rfl rfl fun cdv A outer s H E hr tk po => 
      (ss_cons (ss_if (st_ne hr (se_meth0 hr tk mt_Line_kind (by decide) (se_var 0)) (se_str [119, 111, 114, 100])) (ss_one (ss_ret (se_call hr tk t_take_test (by decide) rfl (by rfl) (sa_cons (se_var 0) sa_nil)))) ss_nil)
      (ss_cons (ss_set 2 sc_F_take_literal.nd (se_meth0 hr tk mt_Line_behind (by decide) (se_var 0)))
      (ss_cons (ss_if (st_eq hr (se_ix (se_var 2) se_int) (se_str [40])) (ss_one (ss_ret (se_call hr tk t_take_atom (by decide) rfl (by rfl) (sa_cons (se_var 0) (sa_cons (se_var 1) (sa_cons (se_tup (sa_cons (se_str [110, 111, 119]) sa_nil)) sa_nil)))))) ss_nil)
      (ss_cons (ss_if (st_w (sw_or (st_eq hr (se_ix (se_var 2) se_int) (se_str [105, 110, 116, 101, 103, 101, 114])) (sw_or1 (st_eq hr (se_var 2) (se_tup (sa_cons (se_str [119, 111, 114, 100]) (sa_cons (se_str [101, 118, 101, 114]) sa_nil))))))) (ss_cons (ss_set 3 sc_F_take_literal.nd (se_call hr tk t_take_how (by decide) rfl (by rfl) (sa_cons (se_var 0) sa_nil)))
      (ss_one (ss_ret (se_call hr tk t_take_atom (by decide) rfl (by rfl) (sa_cons (se_var 0) (sa_cons (se_var 1) (sa_cons (se_var 3) sa_nil))))))) ss_nil)
      (ss_one (ss_ret (se_call hr tk t_take_test (by decide) rfl (by rfl) (sa_cons (se_var 0) sa_nil))))))))) hm G.kp hb
abbrev s_F_take_body : Stmt := topS 26
theorem sc_F_take_body : FnScope ["line", "schema", "literals"] ["line", "schema"] (defScope s_F_take_body) := ⟨rfl, rfl, rfl, by decide +kernel, rfl, by decide +kernel, by decide +kernel⟩
theorem w_F_take_body {fa : Addr} {fd : FuncData} (G : Fun K "take_body" "take_body" s_F_take_body fa fd) (hm : mg (Str.ofString "take_body") = some (.ref fa)) (hb : Binds K fd ["line", "schema"] []) (z : Z mg) (t_take_literal : FT P w K mg base 9 "take_literal" F_take_literal 2) (mt_Line_word : MT P w K mg base 2 "Line" "word" F_Line_word 1) (mt_Line_behind : MT P w K mg base 1 "Line" "behind" F_Line_behind 1) (mt_Line_take : MT P w K mg base 2 "Line" "take" F_Line_take 2) (mt_Line_kind : MT P w K mg base 1 "Line" "kind" F_Line_kind 1) : FT P w K mg base 10 "take_body" F_take_body 2 :=
  ft_of (fn_core (lv := 9) G sc_F_take_body rfl rfl fun cdv A outer s H E hr tk po => 
      (ss_cons (ss_if (st_w (sw_and (st_eq hr (se_meth0 hr tk mt_Line_word (by decide) (se_var 0)) (se_str [116, 114, 117, 101])) (sw_and1 (st_eq hr (se_ix (se_meth0 hr tk mt_Line_behind (by decide) (se_var 0)) se_int) (se_str [101, 110, 100]))))) (ss_cons (ss_expr (se_meth hr tk mt_Line_take (by decide) (se_var 0) (sa_cons (se_str [119, 111, 114, 100]) sa_nil)))
      (ss_one (ss_ret (se_tup sa_nil)))) ss_nil)
      (ss_cons (ss_set 2 sc_F_take_body.nd (se_lst (sa_cons (se_call hr tk t_take_literal (by decide) rfl (by rfl) (sa_cons (se_var 0) (sa_cons (se_var 1) sa_nil))) sa_nil)))
      (ss_cons (ss_while po (st_eq hr (se_meth0 hr tk mt_Line_kind (by decide) (se_var 0)) (se_str [44])) (ss_cons (ss_expr (se_meth hr tk mt_Line_take (by decide) (se_var 0) (sa_cons (se_str [44]) sa_nil)))
      (ss_one (ss_expr (se_bm PySem.F.plainAttrs_list PySem.F.slot_list_append PySem.F.type_list_append mt_append sim_append (.inl rfl) (se_var 2) (sa_cons (se_call hr tk t_take_literal (by decide) rfl (by rfl) (sa_cons (se_var 0) (sa_cons (se_var 1) sa_nil))) sa_nil))))))
      (ss_one (ss_ret (se_tuple (by rfl) z.tuple (sa_cons (se_var 2) sa_nil)))))))) hm G.kp hb
abbrev s_F_take_rule : Stmt := topS 27
theorem sc_F_take_rule : FnScope ["line", "schema", "name", "terms"] ["line", "schema"] (defScope s_F_take_rule) := ⟨rfl, rfl, rfl, by decide +kernel, rfl, by decide +kernel, by decide +kernel⟩
theorem w_F_take_rule {fa : Addr} {fd : FuncData} (G : Fun K "take_rule" "take_rule" s_F_take_rule fa fd) (hm : mg (Str.ofString "take_rule") = some (.ref fa)) (hb : Binds K fd ["line", "schema"] []) (z : Z mg) (t_table_of : FT P w K mg base 1 "table_of" F_table_of 2) (t_take_plain : FT P w K mg base 5 "take_plain" F_take_plain 1) (t_take_body : FT P w K mg base 10 "take_body" F_take_body 2) (mt_Line_word : MT P w K mg base 2 "Line" "word" F_Line_word 1) (mt_Line_refuse : MT P w K mg base 1 "Line" "refuse" F_Line_refuse 1) (mt_Line_take : MT P w K mg base 2 "Line" "take" F_Line_take 2) (mt_Line_take_one : MT P w K mg base 3 "Line" "take_one" F_Line_take_one 2) : FT P w K mg base 11 "take_rule" F_take_rule 2 :=
  ft_of (fn_core (lv := 10) G sc_F_take_rule rfl rfl fun cdv A outer s H E hr tk po => 
      (ss_cons (ss_if (st_notN (se_call hr tk t_table_of (by decide) rfl (by rfl) (sa_cons (se_var 1) (sa_cons (se_meth0 hr tk mt_Line_word (by decide) (se_var 0)) sa_nil)))) (ss_one (ss_expr (se_meth0 hr tk mt_Line_refuse (by decide) (se_var 0)))) ss_nil)
      (ss_cons (ss_set 2 sc_F_take_rule.nd (se_meth hr tk mt_Line_take (by decide) (se_var 0) (sa_cons (se_str [119, 111, 114, 100]) sa_nil)))
      (ss_cons (ss_set 3 sc_F_take_rule.nd (se_call hr tk t_take_plain (by decide) rfl (by rfl) (sa_cons (se_var 0) sa_nil)))
      (ss_cons (ss_expr (se_meth hr tk mt_Line_take_one (by decide) (se_var 0) (sa_cons (se_tup (sa_cons (se_str [105, 102]) sa_nil)) sa_nil)))
      (ss_one (ss_ret (se_tup (sa_cons (se_var 2) (sa_cons (se_var 3) (sa_cons (se_call hr tk t_take_body (by decide) rfl (by rfl) (sa_cons (se_var 0) (sa_cons (se_var 1) sa_nil))) sa_nil))))))))))) hm G.kp hb
abbrev s_F_read_rule : Stmt := topS 28
theorem sc_F_read_rule : FnScope ["schema", "text", "line", "rule"] ["schema", "text"] (defScope s_F_read_rule) := ⟨rfl, rfl, rfl, by decide +kernel, rfl, by decide +kernel, by decide +kernel⟩
theorem w_F_read_rule {fa : Addr} {fd : FuncData} (G : Fun K "read_rule" "read_rule" s_F_read_rule fa fd) (hm : mg (Str.ofString "read_rule") = some (.ref fa)) (hb : Binds K fd ["schema", "text"] []) (z : Z mg) (t_take_rule : FT P w K mg base 11 "take_rule" F_take_rule 2) (mt_Line_take : MT P w K mg base 2 "Line" "take" F_Line_take 2) (kt_Line : KT P w K mg base 5 "Line" F_Line___init__ 3) : FT P w K mg base 12 "read_rule" F_read_rule 2 :=
  ft_of (fn_core (lv := 11) G sc_F_read_rule rfl rfl fun cdv A outer s H E hr tk po => 
      (ss_cons (ss_set 2 sc_F_read_rule.nd (se_make hr tk kt_Line (by decide) rfl (by rfl) (sa_cons (se_var 1) (sa_cons se_int sa_nil))))
      (ss_cons (ss_set 3 sc_F_read_rule.nd (se_call hr tk t_take_rule (by decide) rfl (by rfl) (sa_cons (se_var 2) (sa_cons (se_var 0) sa_nil))))
      (ss_cons (ss_expr (se_meth hr tk mt_Line_take (by decide) (se_var 2) (sa_cons (se_str [101, 110, 100]) sa_nil)))
      (ss_one (ss_ret (se_var 3))))))) hm G.kp hb
abbrev s_F_write_value : Stmt := topS 30
theorem sc_F_write_value : FnScope ["value"] ["value"] (defScope s_F_write_value) := ⟨rfl, rfl, rfl, by decide +kernel, rfl, by decide +kernel, by decide +kernel⟩
theorem w_F_write_value {fa : Addr} {fd : FuncData} (G : Fun K "write_value" "write_value" s_F_write_value fa fd) (hm : mg (Str.ofString "write_value") = some (.ref fa)) (hb : Binds K fd ["value"] []) (z : Z mg) : FT P w K mg base 1 "write_value" F_write_value 1 :=
  ft_of (fn_core (lv := 0) G sc_F_write_value rfl rfl fun cdv A outer s H E hr tk po => 
      (ss_cons (ss_if (st_val (se_is "int" (by decide) (by rfl) z.isinstance (by rfl) z.int (by decide +kernel) (se_var 0))) (ss_one (ss_ret (se_str' (by rfl) z.str (sa_cons (se_var 0) sa_nil)))) ss_nil)
      (ss_one (ss_ret (se_add (se_add (se_str [34]) (se_var 0)) (se_str [34])))))) hm G.kp hb
abbrev s_F_write_cells : Stmt := topS 31
theorem sc_F_write_cells : FnScope ["name", "key", "others", "left", "right"] ["name", "key", "others"] (defScope s_F_write_cells) := ⟨rfl, rfl, rfl, by decide +kernel, rfl, by decide +kernel, by decide +kernel⟩
theorem w_F_write_cells {fa : Addr} {fd : FuncData} (G : Fun K "write_cells" "write_cells" s_F_write_cells fa fd) (hm : mg (Str.ofString "write_cells") = some (.ref fa)) (hb : Binds K fd ["name", "key", "others"] []) (z : Z mg) : FT P w K mg base 1 "write_cells" F_write_cells 3 :=
  ft_of (fn_core (lv := 0) G sc_F_write_cells rfl rfl fun cdv A outer s H E hr tk po => 
      (ss_cons (ss_set 3 sc_F_write_cells.nd (se_join (se_str [44, 32]) (se_var 1)))
      (ss_cons (ss_set 4 sc_F_write_cells.nd (se_join (se_str [44, 32]) (se_var 2)))
      (ss_cons (ss_if (st_gt (se_len (by rfl) z.len (sa_cons (se_var 1) sa_nil)) se_int) (ss_one (ss_set 3 sc_F_write_cells.nd (se_add (se_var 3) (se_str [32])))) ss_nil)
      (ss_cons (ss_if (st_gt (se_len (by rfl) z.len (sa_cons (se_var 2) sa_nil)) se_int) (ss_one (ss_set 4 sc_F_write_cells.nd (se_add (se_str [32]) (se_var 4)))) ss_nil)
      (ss_one (ss_ret (se_joined (.cons (se_fmt (se_var 0)) (.cons (se_str [40]) (.cons (se_fmt (se_var 3)) (.cons (se_str [124]) (.cons (se_fmt (se_var 4)) (.cons (se_str [41]) .nil)))))))))))))) hm G.kp hb
abbrev s_F_write_term : Stmt := topS 32
theorem sc_F_write_term : FnScope ["term", "kind", "worth"] ["term"] (defScope s_F_write_term) := ⟨rfl, rfl, rfl, by decide +kernel, rfl, by decide +kernel, by decide +kernel⟩
theorem w_F_write_term {fa : Addr} {fd : FuncData} (G : Fun K "write_term" "write_term" s_F_write_term fa fd) (hm : mg (Str.ofString "write_term") = some (.ref fa)) (hb : Binds K fd ["term"] []) (z : Z mg) (t_write_value : FT P w K mg base 1 "write_value" F_write_value 1) : FT P w K mg base 2 "write_term" F_write_term 1 :=
  ft_of (fn_core (lv := 1) G sc_F_write_term rfl rfl fun cdv A outer s H E hr tk po => 
      (ss_cons (ss_asg (tg := (.tp [1, 2])) (se_var 0) (sg_tp rfl (sgs_cons (sg_nm 1 sc_F_write_term.nd) (sgs_cons (sg_nm 2 sc_F_write_term.nd) sgs_nil))))
      (ss_cons (ss_if (st_eq hr (se_var 1) (se_str [118, 97, 114])) (ss_one (ss_ret (se_var 2))) ss_nil)
      (ss_one (ss_ret (se_call hr tk t_write_value (by decide) rfl (by rfl) (sa_cons (se_var 2) sa_nil))))))) hm G.kp hb
abbrev s_F_write_plain : Stmt := topS 33
theorem sc_F_write_plain : FnScope ["name", "terms", "inside", "term"] ["name", "terms"] (defScope s_F_write_plain) := ⟨rfl, rfl, rfl, by decide +kernel, rfl, by decide +kernel, by decide +kernel⟩
theorem w_F_write_plain {fa : Addr} {fd : FuncData} (G : Fun K "write_plain" "write_plain" s_F_write_plain fa fd) (hm : mg (Str.ofString "write_plain") = some (.ref fa)) (hb : Binds K fd ["name", "terms"] []) (z : Z mg) (t_write_term : FT P w K mg base 2 "write_term" F_write_term 1) : FT P w K mg base 3 "write_plain" F_write_plain 2 :=
  ft_of (fn_core (lv := 2) G sc_F_write_plain rfl rfl fun cdv A outer s H E hr tk po => 
      (ss_cons (ss_set 2 sc_F_write_plain.nd (se_join (se_str [44, 32]) (se_lc (own := [("term", 3)]) (tg := (.nm 3)) rfl sc_F_write_plain.nd (si_seq (se_var 1)) (by show blkC ["name", "terms", "inside", "term"] (defScope s_F_write_plain) _ _ = true; decide +kernel) (fun _ _ _ _ _ => (sg_nm 3 sc_F_write_plain.nd)) (fun _ _ _ _ _ => sts_nil) (fun _ _ _ _ _ => (se_call hr takes0 t_write_term (by decide) rfl (by rfl) (sa_cons (se_var 3) sa_nil))))))
      (ss_one (ss_ret (se_joined (.cons (se_fmt (se_var 0)) (.cons (se_str [40]) (.cons (se_fmt (se_var 2)) (.cons (se_str [41]) .nil))))))))) hm G.kp hb
abbrev s_F_write_how : Stmt := topS 34
theorem sc_F_write_how : FnScope ["how", "word", "n"] ["how"] (defScope s_F_write_how) := ⟨rfl, rfl, rfl, by decide +kernel, rfl, by decide +kernel, by decide +kernel⟩
theorem w_F_write_how {fa : Addr} {fd : FuncData} (G : Fun K "write_how" "write_how" s_F_write_how fa fd) (hm : mg (Str.ofString "write_how") = some (.ref fa)) (hb : Binds K fd ["how"] []) (z : Z mg) : FT P w K mg base 1 "write_how" F_write_how 1 :=
  ft_of (fn_core (lv := 0) G sc_F_write_how rfl rfl fun cdv A outer s H E hr tk po => 
      (ss_cons (ss_if (st_eq hr (se_var 0) (se_tup (sa_cons (se_str [110, 111, 119]) sa_nil))) (ss_one (ss_ret (se_str []))) ss_nil)
      (ss_cons (ss_asg (tg := (.tp [1, 2])) (se_var 0) (sg_tp rfl (sgs_cons (sg_nm 1 sc_F_write_how.nd) (sgs_cons (sg_nm 2 sc_F_write_how.nd) sgs_nil))))
      (ss_cons (ss_if (st_isN (se_var 2)) (ss_one (ss_ret (se_joined (.cons (se_fmt (se_var 1)) (.cons (se_str [32, 101, 118, 101, 114, 32]) .nil))))) ss_nil)
      (ss_one (ss_ret (se_joined (.cons (se_fmt (se_var 1)) (.cons (se_str [32]) (.cons (se_fmt (se_var 2)) (.cons (se_str [32]) .nil))))))))))) hm G.kp hb
abbrev s_F_write_atom : Stmt := topS 35
theorem sc_F_write_atom : FnScope ["schema", "atom", "how", "name", "terms", "table", "texts", "term"] ["schema", "atom"] (defScope s_F_write_atom) := ⟨rfl, rfl, rfl, by decide +kernel, rfl, by decide +kernel, by decide +kernel⟩
theorem w_F_write_atom {fa : Addr} {fd : FuncData} (G : Fun K "write_atom" "write_atom" s_F_write_atom fa fd) (hm : mg (Str.ofString "write_atom") = some (.ref fa)) (hb : Binds K fd ["schema", "atom"] []) (z : Z mg) (t_table_of : FT P w K mg base 1 "table_of" F_table_of 2) (t_write_how : FT P w K mg base 1 "write_how" F_write_how 1) (t_write_plain : FT P w K mg base 3 "write_plain" F_write_plain 2) (t_write_term : FT P w K mg base 2 "write_term" F_write_term 1) (t_write_cells : FT P w K mg base 1 "write_cells" F_write_cells 3) : FT P w K mg base 4 "write_atom" F_write_atom 2 :=
  ft_of (fn_core (lv := 3) G sc_F_write_atom rfl rfl fun cdv A outer s H E hr tk po => 
      (ss_cons (ss_asg (tg := (.tp [2, 3, 4])) (se_slice (se_var 1) (so_some se_int) so_none) (sg_tp rfl (sgs_cons (sg_nm 2 sc_F_write_atom.nd) (sgs_cons (sg_nm 3 sc_F_write_atom.nd) (sgs_cons (sg_nm 4 sc_F_write_atom.nd) sgs_nil)))))
      (ss_cons (ss_set 5 sc_F_write_atom.nd (se_call hr tk t_table_of (by decide) rfl (by rfl) (sa_cons (se_var 0) (sa_cons (se_var 3) sa_nil))))
      (ss_cons (ss_if (st_isN (se_var 5)) (ss_one (ss_ret (se_add (se_call hr tk t_write_how (by decide) rfl (by rfl) (sa_cons (se_var 2) sa_nil)) (se_call hr tk t_write_plain (by decide) rfl (by rfl) (sa_cons (se_var 3) (sa_cons (se_var 4) sa_nil)))))) ss_nil)
      (ss_cons (ss_setLc 6 (own := [("term", 7)]) (tg := (.nm 7)) rfl sc_F_write_atom.nd (sw_true rfl rfl rfl (by decide +kernel)) (si_seq (se_var 4)) (by show blkC ["schema", "atom", "how", "name", "terms", "table", "texts", "term"] (defScope s_F_write_atom) _ _ = true; decide +kernel) (fun _ _ _ _ _ => (sg_nm 7 sc_F_write_atom.nd)) (fun _ _ _ _ _ => sts_nil) (fun _ _ _ _ _ => (se_call hr takes0 t_write_term (by decide) rfl (by rfl) (sa_cons (se_var 7) sa_nil))))
      (ss_one (ss_ret (se_add (se_call hr tk t_write_how (by decide) rfl (by rfl) (sa_cons (se_var 2) sa_nil)) (se_call hr tk t_write_cells (by decide) rfl (by rfl) (sa_cons (se_var 3) (sa_cons (se_slice (se_var 6) so_none (so_some (se_ix (se_var 5) se_int))) (sa_cons (se_slice (se_var 6) (so_some (se_ix (se_var 5) se_int)) so_none) sa_nil)))))))))))) hm G.kp hb
abbrev s_F_write_literal : Stmt := topS 36
theorem sc_F_write_literal : FnScope ["schema", "literal", "kind", "term", "other"] ["schema", "literal"] (defScope s_F_write_literal) := ⟨rfl, rfl, rfl, by decide +kernel, rfl, by decide +kernel, by decide +kernel⟩
theorem w_F_write_literal {fa : Addr} {fd : FuncData} (G : Fun K "write_literal" "write_literal" s_F_write_literal fa fd) (hm : mg (Str.ofString "write_literal") = some (.ref fa)) (hb : Binds K fd ["schema", "literal"] []) (z : Z mg) (t_write_atom : FT P w K mg base 4 "write_atom" F_write_atom 2) (t_write_term : FT P w K mg base 2 "write_term" F_write_term 1) : FT P w K mg base 5 "write_literal" F_write_literal 2 :=
  ft_of (fn_core (lv := 4) G sc_F_write_literal rfl rfl fun cdv A outer s H E hr tk po => 
      (ss_cons (ss_if (st_eq hr (se_ix (se_var 1) se_int) (se_str [97, 116, 111, 109])) (ss_one (ss_ret (se_call hr tk t_write_atom (by decide) rfl (by rfl) (sa_cons (se_var 0) (sa_cons (se_var 1) sa_nil))))) ss_nil)
      (ss_cons (ss_asg (tg := (.tp [2, 3, 4])) (se_var 1) (sg_tp rfl (sgs_cons (sg_nm 2 sc_F_write_literal.nd) (sgs_cons (sg_nm 3 sc_F_write_literal.nd) (sgs_cons (sg_nm 4 sc_F_write_literal.nd) sgs_nil)))))
      (ss_one (ss_ret (se_joined (.cons (se_fmt (se_call hr tk t_write_term (by decide) rfl (by rfl) (sa_cons (se_var 3) sa_nil))) (.cons (se_str [32]) (.cons (se_fmt (se_var 2)) (.cons (se_str [32]) (.cons (se_fmt (se_call hr tk t_write_term (by decide) rfl (by rfl) (sa_cons (se_var 4) sa_nil))) .nil))))))))))) hm G.kp hb
abbrev s_F_write_rule : Stmt := topS 37
theorem sc_F_write_rule : FnScope ["schema", "rule", "name", "terms", "body", "inside", "literal"] ["schema", "rule"] (defScope s_F_write_rule) := ⟨rfl, rfl, rfl, by decide +kernel, rfl, by decide +kernel, by decide +kernel⟩
theorem w_F_write_rule {fa : Addr} {fd : FuncData} (G : Fun K "write_rule" "write_rule" s_F_write_rule fa fd) (hm : mg (Str.ofString "write_rule") = some (.ref fa)) (hb : Binds K fd ["schema", "rule"] []) (z : Z mg) (t_write_literal : FT P w K mg base 5 "write_literal" F_write_literal 2) (t_write_plain : FT P w K mg base 3 "write_plain" F_write_plain 2) : FT P w K mg base 6 "write_rule" F_write_rule 2 :=
  ft_of (fn_core (lv := 5) G sc_F_write_rule rfl rfl fun cdv A outer s H E hr tk po => 
      (ss_cons (ss_asg (tg := (.tp [2, 3, 4])) (se_var 1) (sg_tp rfl (sgs_cons (sg_nm 2 sc_F_write_rule.nd) (sgs_cons (sg_nm 3 sc_F_write_rule.nd) (sgs_cons (sg_nm 4 sc_F_write_rule.nd) sgs_nil)))))
      (ss_cons (ss_set 5 sc_F_write_rule.nd (se_str [116, 114, 117, 101]))
      (ss_cons (ss_if (st_gt (se_len (by rfl) z.len (sa_cons (se_var 4) sa_nil)) se_int) (ss_one (ss_set 5 sc_F_write_rule.nd (se_join (se_str [44, 32]) (se_lc (own := [("literal", 6)]) (tg := (.nm 6)) rfl sc_F_write_rule.nd (si_seq (se_var 4)) (by show blkC ["schema", "rule", "name", "terms", "body", "inside", "literal"] (defScope s_F_write_rule) _ _ = true; decide +kernel) (fun _ _ _ _ _ => (sg_nm 6 sc_F_write_rule.nd)) (fun _ _ _ _ _ => sts_nil) (fun _ _ _ _ _ => (se_call hr takes0 t_write_literal (by decide) rfl (by rfl) (sa_cons (se_var 0) (sa_cons (se_var 6) sa_nil)))))))) ss_nil)
      (ss_one (ss_ret (se_joined (.cons (se_fmt (se_call hr tk t_write_plain (by decide) rfl (by rfl) (sa_cons (se_var 2) (sa_cons (se_var 3) sa_nil)))) (.cons (se_str [32, 105, 102, 32]) (.cons (se_fmt (se_var 5)) .nil)))))))))) hm G.kp hb
abbrev s_F__law_draws : Stmt := topS 39
theorem sc_F__law_draws : FnScope ["script", "many", "cells", "left", "draws", "k", "place", "mixed", "cell"] ["script", "many"] (defScope s_F__law_draws) := ⟨rfl, rfl, rfl, by decide +kernel, rfl, by decide +kernel, by decide +kernel⟩
theorem w_F__law_draws {fa : Addr} {fd : FuncData} (G : Fun K "_law_draws" "_law_draws" s_F__law_draws fa fd) (hm : mg (Str.ofString "_law_draws") = some (.ref fa)) (hb : Binds K fd ["script", "many"] []) (z : Z mg) : FT P w K mg base 1 "_law_draws" F__law_draws 2 :=
  ft_of (fn_core (lv := 0) G sc_F__law_draws rfl rfl fun cdv A outer s H E hr tk po => 
      (ss_cons (ss_setLc 2 (own := [("cell", 8)]) (tg := (.nm 8)) rfl sc_F__law_draws.nd (sw_true rfl rfl rfl (by decide +kernel)) (si_seq (se_var 0)) (by show blkC ["script", "many", "cells", "left", "draws", "k", "place", "mixed", "cell"] (defScope s_F__law_draws) _ _ = true; decide +kernel) (fun _ _ _ _ _ => (sg_nm 8 sc_F__law_draws.nd)) (fun _ _ _ _ _ => sts_nil) (fun _ _ _ _ _ => (se_intP (by rfl) z.int (sa_cons (se_var 8) sa_nil))))
      (ss_cons (ss_if (st_eq hr (se_len (by rfl) z.len (sa_cons (se_var 2) sa_nil)) se_int) (ss_one (ss_expr (se_bm PySem.F.plainAttrs_list PySem.F.slot_list_append PySem.F.type_list_append mt_append sim_append (.inl rfl) (se_var 2) (sa_cons se_int sa_nil)))) ss_nil)
      (ss_cons (ss_set 3 sc_F__law_draws.nd (se_list (by rfl) z.list (sa_cons (se_var 2) sa_nil)))
      (ss_cons (ss_set 4 sc_F__law_draws.nd (se_lst sa_nil))
      (ss_cons (ss_for (tg := (.nm 5)) po rfl (si_range1 (by rfl) z.range (sa_cons (se_var 1) sa_nil)) (sg_nm 5 sc_F__law_draws.nd) (ss_cons (ss_set 6 sc_F__law_draws.nd (se_mod (se_var 5) (se_len (by rfl) z.len (sa_cons (se_var 2) sa_nil))))
      (ss_one (ss_if (st_ge (se_ix (se_var 2) (se_var 6)) (se_pow se_int se_int)) (ss_cons (ss_expr (se_bm PySem.F.plainAttrs_list PySem.F.slot_list_append PySem.F.type_list_append mt_append sim_append (.inl rfl) (se_var 4) (sa_cons (se_mod (se_intP (by rfl) z.int (sa_cons (se_ix (se_var 3) (se_var 6)) sa_nil)) se_int) sa_nil)))
      (ss_one (ss_putL (se_var 3) (se_var 6) (se_fdiv (se_ix (se_var 3) (se_var 6)) se_int)))) (ss_cons (ss_set 7 sc_F__law_draws.nd (se_mod (se_intP (by rfl) z.int (sa_cons (se_add (se_add (se_mul (se_ix (se_var 2) (se_var 6)) se_int) (se_mul (se_var 5) se_int)) se_int) sa_nil)) se_int))
      (ss_one (ss_expr (se_bm PySem.F.plainAttrs_list PySem.F.slot_list_append PySem.F.type_list_append mt_append sim_append (.inl rfl) (se_var 4) (sa_cons (se_mod (se_intP (by rfl) z.int (sa_cons (se_add (se_add (se_mul (se_var 7) (se_var 7)) (se_mul se_int (se_var 7))) (se_var 5)) sa_nil)) se_int) sa_nil)))))))))
      (ss_cons (ss_expr (se_bm0 PySem.F.plainAttrs_list PySem.F.slot_list_reverse PySem.F.type_list_reverse mt_reverse sim_reverse (.inl rfl) (se_var 4)))
      (ss_one (ss_ret (se_var 4)))))))))) hm G.kp hb
abbrev s_F__law_take : Stmt := topS 40
theorem sc_F__law_take : FnScope ["draws", "many"] ["draws", "many"] (defScope s_F__law_take) := ⟨rfl, rfl, rfl, by decide +kernel, rfl, by decide +kernel, by decide +kernel⟩
theorem w_F__law_take {fa : Addr} {fd : FuncData} (G : Fun K "_law_take" "_law_take" s_F__law_take fa fd) (hm : mg (Str.ofString "_law_take") = some (.ref fa)) (hb : Binds K fd ["draws", "many"] []) (z : Z mg) : FT P w K mg base 1 "_law_take" F__law_take 2 :=
  ft_of (fn_core (lv := 0) G sc_F__law_take rfl rfl fun cdv A outer s H E hr tk po => 
      (ss_cons (ss_if (st_eq hr (se_len (by rfl) z.len (sa_cons (se_var 0) sa_nil)) se_int) (ss_one (ss_ret se_int)) ss_nil)
      (ss_one (ss_ret (se_mod (se_intP (by rfl) z.int (sa_cons (se_bm0 PySem.F.plainAttrs_list PySem.F.slot_list_pop PySem.F.type_list_pop mt_pop sim_pop (.inl rfl) (se_var 0)) sa_nil)) (se_var 1)))))) hm G.kp hb
abbrev s_F__law_pick : Stmt := topS 41
theorem sc_F__law_pick : FnScope ["draws", "row"] ["draws", "row"] (defScope s_F__law_pick) := ⟨rfl, rfl, rfl, by decide +kernel, rfl, by decide +kernel, by decide +kernel⟩
theorem w_F__law_pick {fa : Addr} {fd : FuncData} (G : Fun K "_law_pick" "_law_pick" s_F__law_pick fa fd) (hm : mg (Str.ofString "_law_pick") = some (.ref fa)) (hb : Binds K fd ["draws", "row"] []) (z : Z mg) (t__law_take : FT P w K mg base 1 "_law_take" F__law_take 2) : FT P w K mg base 2 "_law_pick" F__law_pick 2 :=
  ft_of (fn_core (lv := 1) G sc_F__law_pick rfl rfl fun cdv A outer s H E hr tk po => 
      (ss_one (ss_ret (se_ix (se_var 1) (se_call hr tk t__law_take (by decide) rfl (by rfl) (sa_cons (se_var 0) (sa_cons (se_len (by rfl) z.len (sa_cons (se_var 1) sa_nil)) sa_nil))))))) hm G.kp hb
abbrev s_F__law_same : Stmt := topS 42
theorem sc_F__law_same : FnScope ["actual", "due", "k"] ["actual", "due"] (defScope s_F__law_same) := ⟨rfl, rfl, rfl, by decide +kernel, rfl, by decide +kernel, by decide +kernel⟩
theorem w_F__law_same {fa : Addr} {fd : FuncData} (G : Fun K "_law_same" "_law_same" s_F__law_same fa fd) (hm : mg (Str.ofString "_law_same") = some (.ref fa)) (hb : Binds K fd ["actual", "due"] []) (z : Z mg) : ∀ n : Nat, FT P w K mg base (n + 0) "_law_same" (F__law_same n) 2
  | 0 => ft_of fn_stuck hm G.kp hb
  | n + 1 => by
    have t__law_same := w_F__law_same G hm hb z n
    have e : n + 1 + 0 = n + 0 + 1 := by omega
    rw [e]
    exact ft_of (fn_core (lv := n + 0) G sc_F__law_same rfl rfl fun cdv A outer s H E hr tk po => 
      (ss_cons (ss_if (st_val (se_is2 "tuple" "list" (by decide) (by decide) (by rfl) z.isinstance (by rfl) z.tuple (by decide +kernel) (by rfl) z.list (by decide +kernel) (se_var 1))) (ss_cons (ss_if (st_w (sw_or (st_ne hr (se_is "tuple" (by decide) (by rfl) z.isinstance (by rfl) z.tuple (by decide +kernel) (se_var 0)) (se_is "tuple" (by decide) (by rfl) z.isinstance (by rfl) z.tuple (by decide +kernel) (se_var 1))) (sw_or1 (st_ne hr (se_is "list" (by decide) (by rfl) z.isinstance (by rfl) z.list (by decide +kernel) (se_var 0)) (se_is "list" (by decide) (by rfl) z.isinstance (by rfl) z.list (by decide +kernel) (se_var 1)))))) (ss_one (ss_ret se_bl)) ss_nil)
      (ss_cons (ss_if (st_ne hr (se_len (by rfl) z.len (sa_cons (se_var 0) sa_nil)) (se_len (by rfl) z.len (sa_cons (se_var 1) sa_nil))) (ss_one (ss_ret se_bl)) ss_nil)
      (ss_one (ss_ret (se_notIn hr se_bl (se_lc (own := [("k", 2)]) (tg := (.nm 2)) rfl sc_F__law_same.nd (si_range1 (by rfl) z.range (sa_cons (se_len (by rfl) z.len (sa_cons (se_var 1) sa_nil)) sa_nil)) (by show blkC ["actual", "due", "k"] (defScope s_F__law_same) _ _ = true; decide +kernel) (fun _ _ _ _ _ => (sg_nm 2 sc_F__law_same.nd)) (fun _ _ _ _ _ => sts_nil) (fun _ _ _ _ _ => (se_call hr takes0 t__law_same (Nat.le_refl _) rfl (by rfl) (sa_cons (se_ix (se_var 0) (se_var 2)) (sa_cons (se_ix (se_var 1) (se_var 2)) sa_nil)))))))))) ss_nil)
      (ss_cons (ss_if (st_w (sw_or (st_ne hr (se_is "bool" (by decide) (by rfl) z.isinstance (by rfl) z.bool (by decide +kernel) (se_var 0)) (se_is "bool" (by decide) (by rfl) z.isinstance (by rfl) z.bool (by decide +kernel) (se_var 1))) (sw_or1 (st_ne hr (se_is "int" (by decide) (by rfl) z.isinstance (by rfl) z.int (by decide +kernel) (se_var 0)) (se_is "int" (by decide) (by rfl) z.isinstance (by rfl) z.int (by decide +kernel) (se_var 1)))))) (ss_one (ss_ret se_bl)) ss_nil)
      (ss_cons (ss_if (st_w (sw_or (st_ne hr (se_is "str" (by decide) (by rfl) z.isinstance (by rfl) z.str (by decide +kernel) (se_var 0)) (se_is "str" (by decide) (by rfl) z.isinstance (by rfl) z.str (by decide +kernel) (se_var 1))) (sw_or1 (st_ne hr (se_isN (se_var 0)) (se_isN (se_var 1)))))) (ss_one (ss_ret se_bl)) ss_nil)
      (ss_one (ss_ret (se_eq hr (se_var 0) (se_var 1)))))))) hm G.kp hb
abbrev s_F__law_words : Stmt := topS 43
theorem sc_F__law_words : FnScope ["draws", "many", "words", "k", "size", "word", "j", "other"] ["draws", "many"] (defScope s_F__law_words) := ⟨rfl, rfl, rfl, by decide +kernel, rfl, by decide +kernel, by decide +kernel⟩
theorem w_F__law_words {fa : Addr} {fd : FuncData} (G : Fun K "_law_words" "_law_words" s_F__law_words fa fd) (hm : mg (Str.ofString "_law_words") = some (.ref fa)) (hb : Binds K fd ["draws", "many"] []) (z : Z mg) (t__law_take : FT P w K mg base 1 "_law_take" F__law_take 2) : FT P w K mg base 2 "_law_words" F__law_words 2 :=
  ft_of (fn_core (lv := 1) G sc_F__law_words rfl rfl fun cdv A outer s H E hr tk po => 
      (ss_cons (ss_set 2 sc_F__law_words.nd (se_lst sa_nil))
      (ss_cons (ss_for (tg := (.nm 3)) po rfl (si_range1 (by rfl) z.range (sa_cons (se_var 1) sa_nil)) (sg_nm 3 sc_F__law_words.nd) (ss_cons (ss_set 4 sc_F__law_words.nd (se_add se_int (se_call hr tk t__law_take (by decide) rfl (by rfl) (sa_cons (se_var 0) (sa_cons se_int sa_nil)))))
      (ss_cons (ss_if (st_eq hr (se_call hr tk t__law_take (by decide) rfl (by rfl) (sa_cons (se_var 0) (sa_cons se_int sa_nil))) se_int) (ss_one (ss_set 4 sc_F__law_words.nd (se_add (se_add (se_var 4) se_int) (se_call hr tk t__law_take (by decide) rfl (by rfl) (sa_cons (se_var 0) (sa_cons se_int sa_nil)))))) ss_nil)
      (ss_cons (ss_set 5 sc_F__law_words.nd (se_join (se_str []) (se_lc (own := [("j", 6)]) (tg := (.nm 6)) rfl sc_F__law_words.nd (si_range1 (by rfl) z.range (sa_cons (se_var 4) sa_nil)) (by show blkC ["draws", "many", "words", "k", "size", "word", "j", "other"] (defScope s_F__law_words) _ _ = true; decide +kernel) (fun _ _ _ _ _ => (sg_nm 6 sc_F__law_words.nd)) (fun _ _ _ _ _ => sts_nil) (fun _ _ _ _ _ => (se_ix (se_str [97, 98, 99, 100, 101, 102, 103, 104, 105, 106, 107, 108, 109, 110, 111, 112, 113, 114, 115, 116, 117, 118, 119, 120, 121, 122]) (se_call hr takes0 t__law_take (by decide) rfl (by rfl) (sa_cons (se_var 0) (sa_cons se_int sa_nil))))))))
      (ss_cons (ss_if (st_in hr (se_var 5) (se_var 2)) (ss_one (ss_set 5 sc_F__law_words.nd (se_mul (se_str [122]) (se_add se_int (se_max rfl (by rfl) z.max (sa_cons (se_lc (own := [("other", 7)]) (tg := (.nm 7)) rfl sc_F__law_words.nd (si_seq (se_var 2)) (by show blkC ["draws", "many", "words", "k", "size", "word", "j", "other"] (defScope s_F__law_words) _ _ = true; decide +kernel) (fun _ _ _ _ _ => (sg_nm 7 sc_F__law_words.nd)) (fun _ _ _ _ _ => sts_nil) (fun _ _ _ _ _ => (se_len (by rfl) z.len (sa_cons (se_var 7) sa_nil)))) sa_nil)))))) ss_nil)
      (ss_one (ss_expr (se_bm PySem.F.plainAttrs_list PySem.F.slot_list_append PySem.F.type_list_append mt_append sim_append (.inl rfl) (se_var 2) (sa_cons (se_var 5) sa_nil)))))))))
      (ss_one (ss_ret (se_var 2)))))) hm G.kp hb
abbrev s_F__law_how : Stmt := topS 44
theorem sc_F__law_how : FnScope ["draws", "kind"] ["draws"] (defScope s_F__law_how) := ⟨rfl, rfl, rfl, by decide +kernel, rfl, by decide +kernel, by decide +kernel⟩
theorem w_F__law_how {fa : Addr} {fd : FuncData} (G : Fun K "_law_how" "_law_how" s_F__law_how fa fd) (hm : mg (Str.ofString "_law_how") = some (.ref fa)) (hb : Binds K fd ["draws"] []) (z : Z mg) (t__law_take : FT P w K mg base 1 "_law_take" F__law_take 2) : FT P w K mg base 2 "_law_how" F__law_how 1 :=
  ft_of (fn_core (lv := 1) G sc_F__law_how rfl rfl fun cdv A outer s H E hr tk po => 
      (ss_cons (ss_if (st_eq hr (se_call hr tk t__law_take (by decide) rfl (by rfl) (sa_cons (se_var 0) (sa_cons se_int sa_nil))) se_int) (ss_one (ss_ret (se_tup (sa_cons (se_str [110, 111, 119]) sa_nil)))) ss_nil)
      (ss_cons (ss_set 1 sc_F__law_how.nd (se_ix (se_lst (sa_cons (se_str [111, 110, 99, 101]) (sa_cons (se_str [97, 108, 119, 97, 121, 115]) (sa_cons (se_str [97, 103, 111]) (sa_cons (se_str [97, 104, 101, 97, 100]) (sa_cons (se_str [115, 111, 111, 110]) (sa_cons (se_str [104, 101, 110, 99, 101, 102, 111, 114, 116, 104]) sa_nil))))))) (se_call hr tk t__law_take (by decide) rfl (by rfl) (sa_cons (se_var 0) (sa_cons se_int sa_nil)))))
      (ss_cons (ss_if (st_w (sw_and (st_notIn hr (se_var 1) (se_lst (sa_cons (se_str [97, 103, 111]) (sa_cons (se_str [97, 104, 101, 97, 100]) sa_nil)))) (sw_and1 (st_eq hr (se_call hr tk t__law_take (by decide) rfl (by rfl) (sa_cons (se_var 0) (sa_cons se_int sa_nil))) se_int)))) (ss_one (ss_ret (se_tup (sa_cons (se_var 1) (sa_cons se_non sa_nil))))) ss_nil)
      (ss_one (ss_ret (se_tup (sa_cons (se_var 1) (sa_cons (se_call hr tk t__law_take (by decide) rfl (by rfl) (sa_cons (se_var 0) (sa_cons se_int sa_nil))) sa_nil))))))))) hm G.kp hb
abbrev s_F__law_term : Stmt := topS 45
theorem sc_F__law_term : FnScope ["draws", "variables", "values"] ["draws", "variables", "values"] (defScope s_F__law_term) := ⟨rfl, rfl, rfl, by decide +kernel, rfl, by decide +kernel, by decide +kernel⟩
theorem w_F__law_term {fa : Addr} {fd : FuncData} (G : Fun K "_law_term" "_law_term" s_F__law_term fa fd) (hm : mg (Str.ofString "_law_term") = some (.ref fa)) (hb : Binds K fd ["draws", "variables", "values"] []) (z : Z mg) (t__law_take : FT P w K mg base 1 "_law_take" F__law_take 2) (t__law_pick : FT P w K mg base 2 "_law_pick" F__law_pick 2) : FT P w K mg base 3 "_law_term" F__law_term 3 :=
  ft_of (fn_core (lv := 2) G sc_F__law_term rfl rfl fun cdv A outer s H E hr tk po => 
      (ss_cons (ss_if (st_eq hr (se_call hr tk t__law_take (by decide) rfl (by rfl) (sa_cons (se_var 0) (sa_cons se_int sa_nil))) se_int) (ss_one (ss_ret (se_tup (sa_cons (se_str [118, 97, 108, 117, 101]) (sa_cons (se_call hr tk t__law_pick (by decide) rfl (by rfl) (sa_cons (se_var 0) (sa_cons (se_var 2) sa_nil))) sa_nil))))) ss_nil)
      (ss_one (ss_ret (se_tup (sa_cons (se_str [118, 97, 114]) (sa_cons (se_call hr tk t__law_pick (by decide) rfl (by rfl) (sa_cons (se_var 0) (sa_cons (se_var 1) sa_nil))) sa_nil))))))) hm G.kp hb
abbrev s_F__law_great_number : Stmt := topS 46
theorem sc_F__law_great_number : FnScope ["draws", "number", "k"] ["draws"] (defScope s_F__law_great_number) := ⟨rfl, rfl, rfl, by decide +kernel, rfl, by decide +kernel, by decide +kernel⟩
theorem w_F__law_great_number {fa : Addr} {fd : FuncData} (G : Fun K "_law_great_number" "_law_great_number" s_F__law_great_number fa fd) (hm : mg (Str.ofString "_law_great_number") = some (.ref fa)) (hb : Binds K fd ["draws"] []) (z : Z mg) (t__law_take : FT P w K mg base 1 "_law_take" F__law_take 2) : FT P w K mg base 2 "_law_great_number" F__law_great_number 1 :=
  ft_of (fn_core (lv := 1) G sc_F__law_great_number rfl rfl fun cdv A outer s H E hr tk po => 
      (ss_cons (ss_set 1 sc_F__law_great_number.nd se_int)
      (ss_cons (ss_for (tg := (.nm 2)) po rfl (si_range1 (by rfl) z.range (sa_cons (se_ix (se_lst (sa_cons se_int (sa_cons se_int (sa_cons se_int (sa_cons se_int sa_nil))))) (se_call hr tk t__law_take (by decide) rfl (by rfl) (sa_cons (se_var 0) (sa_cons se_int sa_nil)))) sa_nil)) (sg_nm 2 sc_F__law_great_number.nd) (ss_one (ss_set 1 sc_F__law_great_number.nd (se_add (se_mul (se_var 1) se_int) (se_call hr tk t__law_take (by decide) rfl (by rfl) (sa_cons (se_var 0) (sa_cons se_int sa_nil)))))))
      (ss_cons (ss_if (st_eq hr (se_call hr tk t__law_take (by decide) rfl (by rfl) (sa_cons (se_var 0) (sa_cons se_int sa_nil))) se_int) (ss_one (ss_ret (se_sub se_int (se_var 1)))) ss_nil)
      (ss_one (ss_ret (se_var 1))))))) hm G.kp hb
abbrev s_F__law_text_value : Stmt := topS 47
theorem sc_F__law_text_value : FnScope ["draws", "words"] ["draws", "words"] (defScope s_F__law_text_value) := ⟨rfl, rfl, rfl, by decide +kernel, rfl, by decide +kernel, by decide +kernel⟩
theorem w_F__law_text_value {fa : Addr} {fd : FuncData} (G : Fun K "_law_text_value" "_law_text_value" s_F__law_text_value fa fd) (hm : mg (Str.ofString "_law_text_value") = some (.ref fa)) (hb : Binds K fd ["draws", "words"] []) (z : Z mg) (t__law_take : FT P w K mg base 1 "_law_take" F__law_take 2) (t__law_pick : FT P w K mg base 2 "_law_pick" F__law_pick 2) (t__law_great_number : FT P w K mg base 2 "_law_great_number" F__law_great_number 1) : FT P w K mg base 3 "_law_text_value" F__law_text_value 2 :=
  ft_of (fn_core (lv := 2) G sc_F__law_text_value rfl rfl fun cdv A outer s H E hr tk po => 
      (ss_cons (ss_if (st_eq hr (se_call hr tk t__law_take (by decide) rfl (by rfl) (sa_cons (se_var 0) (sa_cons se_int sa_nil))) se_int) (ss_one (ss_ret (se_call hr tk t__law_pick (by decide) rfl (by rfl) (sa_cons (se_var 0) (sa_cons (se_var 1) sa_nil))))) ss_nil)
      (ss_one (ss_ret (se_call hr tk t__law_great_number (by decide) rfl (by rfl) (sa_cons (se_var 0) sa_nil)))))) hm G.kp hb
abbrev s_F__law_value_text : Stmt := topS 48
theorem sc_F__law_value_text : FnScope ["value"] ["value"] (defScope s_F__law_value_text) := ⟨rfl, rfl, rfl, by decide +kernel, rfl, by decide +kernel, by decide +kernel⟩
theorem w_F__law_value_text {fa : Addr} {fd : FuncData} (G : Fun K "_law_value_text" "_law_value_text" s_F__law_value_text fa fd) (hm : mg (Str.ofString "_law_value_text") = some (.ref fa)) (hb : Binds K fd ["value"] []) (z : Z mg) : FT P w K mg base 1 "_law_value_text" F__law_value_text 1 :=
  ft_of (fn_core (lv := 0) G sc_F__law_value_text rfl rfl fun cdv A outer s H E hr tk po => 
      (ss_cons (ss_if (st_val (se_is "str" (by decide) (by rfl) z.isinstance (by rfl) z.str (by decide +kernel) (se_var 0))) (ss_one (ss_ret (se_add (se_add (se_str [34]) (se_var 0)) (se_str [34])))) ss_nil)
      (ss_one (ss_ret (se_str' (by rfl) z.str (sa_cons (se_var 0) sa_nil)))))) hm G.kp hb
abbrev s_F__law_between : Stmt := topS 49
theorem sc_F__law_between : FnScope ["texts", "sign", "found", "k"] ["texts", "sign"] (defScope s_F__law_between) := ⟨rfl, rfl, rfl, by decide +kernel, rfl, by decide +kernel, by decide +kernel⟩
theorem w_F__law_between {fa : Addr} {fd : FuncData} (G : Fun K "_law_between" "_law_between" s_F__law_between fa fd) (hm : mg (Str.ofString "_law_between") = some (.ref fa)) (hb : Binds K fd ["texts", "sign"] []) (z : Z mg) : FT P w K mg base 1 "_law_between" F__law_between 2 :=
  ft_of (fn_core (lv := 0) G sc_F__law_between rfl rfl fun cdv A outer s H E hr tk po => 
      (ss_cons (ss_set 2 sc_F__law_between.nd (se_lst sa_nil))
      (ss_cons (ss_for (tg := (.nm 3)) po rfl (si_range1 (by rfl) z.range (sa_cons (se_len (by rfl) z.len (sa_cons (se_var 0) sa_nil)) sa_nil)) (sg_nm 3 sc_F__law_between.nd) (ss_cons (ss_if (st_gt (se_var 3) se_int) (ss_one (ss_expr (se_bm PySem.F.plainAttrs_list PySem.F.slot_list_append PySem.F.type_list_append mt_append sim_append (.inl rfl) (se_var 2) (sa_cons (se_var 1) sa_nil)))) ss_nil)
      (ss_one (ss_expr (se_bm PySem.F.plainAttrs_list PySem.F.slot_list_append PySem.F.type_list_append mt_append sim_append (.inl rfl) (se_var 2) (sa_cons (se_ix (se_var 0) (se_var 3)) sa_nil))))))
      (ss_one (ss_ret (se_var 2)))))) hm G.kp hb
abbrev s_F__law_cells_texts : Stmt := topS 50
theorem sc_F__law_cells_texts : FnScope ["name", "cells", "key", "found"] ["name", "cells", "key"] (defScope s_F__law_cells_texts) := ⟨rfl, rfl, rfl, by decide +kernel, rfl, by decide +kernel, by decide +kernel⟩
theorem w_F__law_cells_texts {fa : Addr} {fd : FuncData} (G : Fun K "_law_cells_texts" "_law_cells_texts" s_F__law_cells_texts fa fd) (hm : mg (Str.ofString "_law_cells_texts") = some (.ref fa)) (hb : Binds K fd ["name", "cells", "key"] []) (z : Z mg) (t__law_between : FT P w K mg base 1 "_law_between" F__law_between 2) : FT P w K mg base 2 "_law_cells_texts" F__law_cells_texts 3 :=
  ft_of (fn_core (lv := 1) G sc_F__law_cells_texts rfl rfl fun cdv A outer s H E hr tk po => 
      (ss_cons (ss_if (st_lt (se_var 2) se_int) (ss_one (ss_ret (se_add (se_add (se_lst (sa_cons (se_var 0) (sa_cons (se_str [40]) sa_nil))) (se_call hr tk t__law_between (by decide) rfl (by rfl) (sa_cons (se_var 1) (sa_cons (se_str [44]) sa_nil)))) (se_lst (sa_cons (se_str [41]) sa_nil))))) ss_nil)
      (ss_cons (ss_set 3 sc_F__law_cells_texts.nd (se_add (se_add (se_lst (sa_cons (se_var 0) (sa_cons (se_str [40]) sa_nil))) (se_call hr tk t__law_between (by decide) rfl (by rfl) (sa_cons (se_slice (se_var 1) so_none (so_some (se_var 2))) (sa_cons (se_str [44]) sa_nil)))) (se_lst (sa_cons (se_str [124]) sa_nil))))
      (ss_one (ss_ret (se_add (se_add (se_var 3) (se_call hr tk t__law_between (by decide) rfl (by rfl) (sa_cons (se_slice (se_var 1) (so_some (se_var 2)) so_none) (sa_cons (se_str [44]) sa_nil)))) (se_lst (sa_cons (se_str [41]) sa_nil)))))))) hm G.kp hb
abbrev s_F__law_line_text : Stmt := topS 51
theorem sc_F__law_line_text : FnScope ["tokens", "line", "k", "tight"] ["tokens"] (defScope s_F__law_line_text) := ⟨rfl, rfl, rfl, by decide +kernel, rfl, by decide +kernel, by decide +kernel⟩
theorem w_F__law_line_text {fa : Addr} {fd : FuncData} (G : Fun K "_law_line_text" "_law_line_text" s_F__law_line_text fa fd) (hm : mg (Str.ofString "_law_line_text") = some (.ref fa)) (hb : Binds K fd ["tokens"] []) (z : Z mg) : FT P w K mg base 1 "_law_line_text" F__law_line_text 1 :=
  ft_of (fn_core (lv := 0) G sc_F__law_line_text rfl rfl fun cdv A outer s H E hr tk po => 
      (ss_cons (ss_set 1 sc_F__law_line_text.nd (se_str []))
      (ss_cons (ss_for (tg := (.nm 2)) po rfl (si_range1 (by rfl) z.range (sa_cons (se_len (by rfl) z.len (sa_cons (se_var 0) sa_nil)) sa_nil)) (sg_nm 2 sc_F__law_line_text.nd) (ss_cons (ss_set 3 sc_F__law_line_text.nd (se_or (se_eq hr (se_var 2) se_int) (se_or (se_in hr (se_ix (se_var 0) (se_var 2)) (se_lst (sa_cons (se_str [44]) (sa_cons (se_str [41]) (sa_cons (se_str [40]) sa_nil))))) (se_one (se_eq hr (se_ix (se_var 0) (se_sub (se_var 2) se_int)) (se_str [40]))))))
      (ss_cons (ss_if (st_not (st_val (se_var 3))) (ss_one (ss_set 1 sc_F__law_line_text.nd (se_add (se_var 1) (se_str [32])))) ss_nil)
      (ss_one (ss_set 1 sc_F__law_line_text.nd (se_add (se_var 1) (se_ix (se_var 0) (se_var 2))))))))
      (ss_one (ss_ret (se_var 1)))))) hm G.kp hb
abbrev s_F__law_run : Stmt := topS 52
theorem sc_F__law_run : FnScope ["line", "at", "chars", "k"] ["line", "at", "chars"] (defScope s_F__law_run) := ⟨rfl, rfl, rfl, by decide +kernel, rfl, by decide +kernel, by decide +kernel⟩
theorem w_F__law_run {fa : Addr} {fd : FuncData} (G : Fun K "_law_run" "_law_run" s_F__law_run fa fd) (hm : mg (Str.ofString "_law_run") = some (.ref fa)) (hb : Binds K fd ["line", "at", "chars"] []) (z : Z mg) : FT P w K mg base 1 "_law_run" F__law_run 3 :=
  ft_of (fn_core (lv := 0) G sc_F__law_run rfl rfl fun cdv A outer s H E hr tk po => 
      (ss_cons (ss_for (tg := (.nm 3)) po rfl (si_range2 (by rfl) z.range (sa_cons (se_var 1) (sa_cons (se_len (by rfl) z.len (sa_cons (se_var 0) sa_nil)) sa_nil))) (sg_nm 3 sc_F__law_run.nd) (ss_one (ss_if (st_notIn hr (se_ix (se_var 0) (se_var 3)) (se_var 2)) (ss_one (ss_ret (se_var 3))) ss_nil)))
      (ss_one (ss_ret (se_len (by rfl) z.len (sa_cons (se_var 0) sa_nil)))))) hm G.kp hb
abbrev s_F__law_token_end : Stmt := topS 53
theorem sc_F__law_token_end : FnScope ["line", "at", "letters", "end", "first", "digits"] ["line", "at"] (defScope s_F__law_token_end) := ⟨rfl, rfl, rfl, by decide +kernel, rfl, by decide +kernel, by decide +kernel⟩
theorem w_F__law_token_end {fa : Addr} {fd : FuncData} (G : Fun K "_law_token_end" "_law_token_end" s_F__law_token_end fa fd) (hm : mg (Str.ofString "_law_token_end") = some (.ref fa)) (hb : Binds K fd ["line", "at"] []) (z : Z mg) (t__law_run : FT P w K mg base 1 "_law_run" F__law_run 3) : FT P w K mg base 2 "_law_token_end" F__law_token_end 2 :=
  ft_of (fn_core (lv := 1) G sc_F__law_token_end rfl rfl fun cdv A outer s H E hr tk po => 
      (ss_cons (ss_set 2 sc_F__law_token_end.nd (se_str [97, 98, 99, 100, 101, 102, 103, 104, 105, 106, 107, 108, 109, 110, 111, 112, 113, 114, 115, 116, 117, 118, 119, 120, 121, 122]))
      (ss_cons (ss_if (st_in hr (se_ix (se_var 0) (se_var 1)) (se_str [40, 41, 44, 124])) (ss_one (ss_ret (se_add (se_var 1) se_int))) ss_nil)
      (ss_cons (ss_if (st_in hr (se_ix (se_var 0) (se_var 1)) (se_var 2)) (ss_one (ss_ret (se_call hr tk t__law_run (by decide) rfl (by rfl) (sa_cons (se_var 0) (sa_cons (se_var 1) (sa_cons (se_var 2) sa_nil)))))) ss_nil)
      (ss_cons (ss_if (st_eq hr (se_ix (se_var 0) (se_var 1)) (se_str [34])) (ss_cons (ss_set 3 sc_F__law_token_end.nd (se_call hr tk t__law_run (by decide) rfl (by rfl) (sa_cons (se_var 0) (sa_cons (se_add (se_var 1) se_int) (sa_cons (se_var 2) sa_nil)))))
      (ss_cons (ss_if (st_w (sw_and (st_gt (se_var 3) (se_add (se_var 1) se_int)) (sw_and1 (st_eq hr (se_slice (se_var 0) (so_some (se_var 3)) (so_some (se_add (se_var 3) se_int))) (se_str [34]))))) (ss_one (ss_ret (se_add (se_var 3) se_int))) ss_nil)
      (ss_one (ss_ret (se_var 1))))) ss_nil)
      (ss_cons (ss_set 4 sc_F__law_token_end.nd (se_add (se_var 1) (se_intP (by rfl) z.int (sa_cons (se_eq hr (se_ix (se_var 0) (se_var 1)) (se_str [45])) sa_nil))))
      (ss_cons (ss_set 3 sc_F__law_token_end.nd (se_call hr tk t__law_run (by decide) rfl (by rfl) (sa_cons (se_var 0) (sa_cons (se_var 4) (sa_cons (se_str [48, 49, 50, 51, 52, 53, 54, 55, 56, 57]) sa_nil)))))
      (ss_cons (ss_set 5 sc_F__law_token_end.nd (se_slice (se_var 0) (so_some (se_var 4)) (so_some (se_var 3))))
      (ss_cons (ss_if (st_w (sw_or (st_eq hr (se_var 5) (se_str [])) (sw_or1 (st_w (sw_and (st_eq hr (se_ix (se_var 5) se_int) (se_str [48])) (sw_and1 (st_ne hr (se_slice (se_var 0) (so_some (se_var 1)) (so_some (se_var 3))) (se_str [48])))))))) (ss_one (ss_ret (se_var 1))) ss_nil)
      (ss_one (ss_ret (se_var 3)))))))))))) hm G.kp hb
abbrev s_F__law_tokens : Stmt := topS 54
theorem sc_F__law_tokens : FnScope ["line", "found", "at", "k", "end"] ["line"] (defScope s_F__law_tokens) := ⟨rfl, rfl, rfl, by decide +kernel, rfl, by decide +kernel, by decide +kernel⟩
theorem w_F__law_tokens {fa : Addr} {fd : FuncData} (G : Fun K "_law_tokens" "_law_tokens" s_F__law_tokens fa fd) (hm : mg (Str.ofString "_law_tokens") = some (.ref fa)) (hb : Binds K fd ["line"] []) (z : Z mg) (t__law_run : FT P w K mg base 1 "_law_run" F__law_run 3) (t__law_token_end : FT P w K mg base 2 "_law_token_end" F__law_token_end 2) : FT P w K mg base 3 "_law_tokens" F__law_tokens 1 :=
  ft_of (fn_core (lv := 2) G sc_F__law_tokens rfl rfl fun cdv A outer s H E hr tk po => 
      (ss_cons (ss_set 1 sc_F__law_tokens.nd (se_lst sa_nil))
      (ss_cons (ss_set 2 sc_F__law_tokens.nd (se_call hr tk t__law_run (by decide) rfl (by rfl) (sa_cons (se_var 0) (sa_cons se_int (sa_cons (se_str [32]) sa_nil)))))
      (ss_cons (ss_for (tg := (.nm 3)) po rfl (si_range1 (by rfl) z.range (sa_cons (se_len (by rfl) z.len (sa_cons (se_var 0) sa_nil)) sa_nil)) (sg_nm 3 sc_F__law_tokens.nd) (ss_cons (ss_if (st_eq hr (se_var 2) (se_len (by rfl) z.len (sa_cons (se_var 0) sa_nil))) (ss_one ss_brk) ss_nil)
      (ss_cons (ss_set 4 sc_F__law_tokens.nd (se_call hr tk t__law_token_end (by decide) rfl (by rfl) (sa_cons (se_var 0) (sa_cons (se_var 2) sa_nil))))
      (ss_cons (ss_if (st_eq hr (se_var 4) (se_var 2)) (ss_one (ss_ret (se_add (se_var 1) (se_lst (sa_cons (se_tup (sa_cons (se_var 2) (sa_cons (se_str [32]) sa_nil))) sa_nil))))) ss_nil)
      (ss_cons (ss_expr (se_bm PySem.F.plainAttrs_list PySem.F.slot_list_append PySem.F.type_list_append mt_append sim_append (.inl rfl) (se_var 1) (sa_cons (se_tup (sa_cons (se_var 2) (sa_cons (se_slice (se_var 0) (so_some (se_var 2)) (so_some (se_var 4))) sa_nil))) sa_nil)))
      (ss_one (ss_set 2 sc_F__law_tokens.nd (se_call hr tk t__law_run (by decide) rfl (by rfl) (sa_cons (se_var 0) (sa_cons (se_var 4) (sa_cons (se_str [32]) sa_nil)))))))))))
      (ss_one (ss_ret (se_add (se_var 1) (se_lst (sa_cons (se_tup (sa_cons (se_len (by rfl) z.len (sa_cons (se_var 0) sa_nil)) (sa_cons (se_str []) sa_nil))) sa_nil))))))))) hm G.kp hb
abbrev s_F__law_loose : Stmt := topS 55
theorem sc_F__law_loose : FnScope ["draws", "texts", "line", "k", "gap", "apart", "pair"] ["draws", "texts"] (defScope s_F__law_loose) := ⟨rfl, rfl, rfl, by decide +kernel, rfl, by decide +kernel, by decide +kernel⟩
theorem w_F__law_loose {fa : Addr} {fd : FuncData} (G : Fun K "_law_loose" "_law_loose" s_F__law_loose fa fd) (hm : mg (Str.ofString "_law_loose") = some (.ref fa)) (hb : Binds K fd ["draws", "texts"] []) (z : Z mg) (t__law_take : FT P w K mg base 1 "_law_take" F__law_take 2) (t__law_tokens : FT P w K mg base 3 "_law_tokens" F__law_tokens 1) : FT P w K mg base 4 "_law_loose" F__law_loose 2 :=
  ft_of (fn_core (lv := 3) G sc_F__law_loose rfl rfl fun cdv A outer s H E hr tk po => 
      (ss_cons (ss_set 2 sc_F__law_loose.nd (se_ix (se_lst (sa_cons (se_str []) (sa_cons (se_str [32]) (sa_cons (se_str []) (sa_cons (se_str [32, 32, 32]) sa_nil))))) (se_call hr tk t__law_take (by decide) rfl (by rfl) (sa_cons (se_var 0) (sa_cons se_int sa_nil)))))
      (ss_cons (ss_for (tg := (.nm 3)) po rfl (si_range1 (by rfl) z.range (sa_cons (se_len (by rfl) z.len (sa_cons (se_var 1) sa_nil)) sa_nil)) (sg_nm 3 sc_F__law_loose.nd) (ss_cons (ss_set 4 sc_F__law_loose.nd (se_ix (se_lst (sa_cons (se_str []) (sa_cons (se_str [32]) (sa_cons (se_str []) (sa_cons (se_str [32, 32]) (sa_cons (se_str [32]) sa_nil)))))) (se_call hr tk t__law_take (by decide) rfl (by rfl) (sa_cons (se_var 0) (sa_cons se_int sa_nil)))))
      (ss_cons (ss_if (st_w (sw_and (st_gt (se_var 3) se_int) (sw_and1 (st_eq hr (se_var 4) (se_str []))))) (ss_cons (ss_setLc 5 (own := [("pair", 6)]) (tg := (.nm 6)) rfl sc_F__law_loose.nd (sw_true rfl rfl rfl (by decide +kernel)) (si_seq (se_call hr tk t__law_tokens (by decide) rfl (by rfl) (sa_cons (se_add (se_ix (se_var 1) (se_sub (se_var 3) se_int)) (se_ix (se_var 1) (se_var 3))) sa_nil))) (by show blkC ["draws", "texts", "line", "k", "gap", "apart", "pair"] (defScope s_F__law_loose) _ _ = true; decide +kernel) (fun _ _ _ _ _ => (sg_nm 6 sc_F__law_loose.nd)) (fun _ _ _ _ _ => sts_nil) (fun _ _ _ _ _ => (se_ix (se_var 6) se_int)))
      (ss_one (ss_if (st_ne hr (se_var 5) (se_lst (sa_cons (se_ix (se_var 1) (se_sub (se_var 3) se_int)) (sa_cons (se_ix (se_var 1) (se_var 3)) (sa_cons (se_str []) sa_nil))))) (ss_one (ss_set 4 sc_F__law_loose.nd (se_str [32]))) ss_nil))) ss_nil)
      (ss_cons (ss_if (st_gt (se_var 3) se_int) (ss_one (ss_set 2 sc_F__law_loose.nd (se_add (se_var 2) (se_var 4)))) ss_nil)
      (ss_one (ss_set 2 sc_F__law_loose.nd (se_add (se_var 2) (se_ix (se_var 1) (se_var 3)))))))))
      (ss_one (ss_ret (se_add (se_var 2) (se_ix (se_lst (sa_cons (se_str []) (sa_cons (se_str [32]) (sa_cons (se_str []) (sa_cons (se_str [32, 32]) sa_nil))))) (se_call hr tk t__law_take (by decide) rfl (by rfl) (sa_cons (se_var 0) (sa_cons se_int sa_nil)))))))))) hm G.kp hb
abbrev s_F__law_text_words : Stmt := topS 56
theorem sc_F__law_text_words : FnScope ["draws", "many", "words", "keys", "k", "word"] ["draws", "many"] (defScope s_F__law_text_words) := ⟨rfl, rfl, rfl, by decide +kernel, rfl, by decide +kernel, by decide +kernel⟩
theorem w_F__law_text_words {fa : Addr} {fd : FuncData} (G : Fun K "_law_text_words" "_law_text_words" s_F__law_text_words fa fd) (hm : mg (Str.ofString "_law_text_words") = some (.ref fa)) (hb : Binds K fd ["draws", "many"] []) (z : Z mg) (t__law_words : FT P w K mg base 2 "_law_words" F__law_words 2) (t__law_pick : FT P w K mg base 2 "_law_pick" F__law_pick 2) (t__law_take : FT P w K mg base 1 "_law_take" F__law_take 2) : FT P w K mg base 3 "_law_text_words" F__law_text_words 2 :=
  ft_of (fn_core (lv := 2) G sc_F__law_text_words rfl rfl fun cdv A outer s H E hr tk po => 
      (ss_cons (ss_set 2 sc_F__law_text_words.nd (se_call hr tk t__law_words (by decide) rfl (by rfl) (sa_cons (se_var 0) (sa_cons (se_var 1) sa_nil))))
      (ss_cons (ss_set 3 sc_F__law_text_words.nd (se_lst (sa_cons (se_str [116, 111]) (sa_cons (se_str [111, 110]) (sa_cons (se_str [110, 101, 118, 101, 114]) (sa_cons (se_str [116, 114, 117, 101]) (sa_cons (se_str [105, 102]) (sa_cons (se_str [108, 101, 115, 115]) (sa_cons (se_str [117, 110, 108, 105, 107, 101]) (sa_cons (se_str [111, 110, 99, 101]) (sa_cons (se_str [101, 118, 101, 114]) (sa_cons (se_str [97, 108, 119, 97, 121, 115]) (sa_cons (se_str [116, 97, 98, 108, 101]) (sa_cons (se_str [116, 111, 108, 100]) (sa_cons (se_str [97, 103, 111]) sa_nil)))))))))))))))
      (ss_cons (ss_for (tg := (.nm 4)) po rfl (si_range1 (by rfl) z.range (sa_cons se_int sa_nil)) (sg_nm 4 sc_F__law_text_words.nd) (ss_cons (ss_set 5 sc_F__law_text_words.nd (se_call hr tk t__law_pick (by decide) rfl (by rfl) (sa_cons (se_var 0) (sa_cons (se_var 3) sa_nil))))
      (ss_one (ss_if (st_w (sw_and (st_notIn hr (se_var 5) (se_var 2)) (sw_and1 (st_eq hr (se_call hr tk t__law_take (by decide) rfl (by rfl) (sa_cons (se_var 0) (sa_cons se_int sa_nil))) se_int)))) (ss_one (ss_putL (se_var 2) (se_call hr tk t__law_take (by decide) rfl (by rfl) (sa_cons (se_var 0) (sa_cons (se_var 1) sa_nil))) (se_var 5))) ss_nil))))
      (ss_one (ss_ret (se_var 2))))))) hm G.kp hb
abbrev s_F__law_text_schema : Stmt := topS 57
theorem sc_F__law_text_schema : FnScope ["draws", "names", "tables", "name", "key", "others"] ["draws", "names"] (defScope s_F__law_text_schema) := ⟨rfl, rfl, rfl, by decide +kernel, rfl, by decide +kernel, by decide +kernel⟩
theorem w_F__law_text_schema {fa : Addr} {fd : FuncData} (G : Fun K "_law_text_schema" "_law_text_schema" s_F__law_text_schema fa fd) (hm : mg (Str.ofString "_law_text_schema") = some (.ref fa)) (hb : Binds K fd ["draws", "names"] []) (z : Z mg) (t__law_take : FT P w K mg base 1 "_law_take" F__law_take 2) : FT P w K mg base 2 "_law_text_schema" F__law_text_schema 2 :=
  ft_of (fn_core (lv := 1) G sc_F__law_text_schema rfl rfl fun cdv A outer s H E hr tk po => 
      (ss_cons (ss_set 2 sc_F__law_text_schema.nd (se_lst sa_nil))
      (ss_cons (ss_for (tg := (.nm 3)) po rfl (si_seq (se_sortedS (by rfl) z.sorted (sa_cons (se_var 1) sa_nil))) (sg_nm 3 sc_F__law_text_schema.nd) (ss_cons (ss_set 4 sc_F__law_text_schema.nd (se_ix (se_lst (sa_cons se_int (sa_cons se_int (sa_cons se_int (sa_cons se_int (sa_cons se_int (sa_cons se_int (sa_cons se_int sa_nil)))))))) (se_call hr tk t__law_take (by decide) rfl (by rfl) (sa_cons (se_var 0) (sa_cons se_int sa_nil)))))
      (ss_cons (ss_set 5 sc_F__law_text_schema.nd (se_ix (se_lst (sa_cons se_int (sa_cons se_int (sa_cons se_int (sa_cons se_int (sa_cons se_int (sa_cons se_int (sa_cons se_int sa_nil)))))))) (se_call hr tk t__law_take (by decide) rfl (by rfl) (sa_cons (se_var 0) (sa_cons se_int sa_nil)))))
      (ss_one (ss_expr (se_bm PySem.F.plainAttrs_list PySem.F.slot_list_append PySem.F.type_list_append mt_append sim_append (.inl rfl) (se_var 2) (sa_cons (se_tup (sa_cons (se_var 3) (sa_cons (se_var 4) (sa_cons (se_min rfl (by rfl) z.min (sa_cons (se_var 5) (sa_cons (se_sub se_int (se_var 4)) sa_nil))) sa_nil)))) sa_nil)))))))
      (ss_one (ss_ret (se_tuple (by rfl) z.tuple (sa_cons (se_var 2) sa_nil))))))) hm G.kp hb
abbrev s_F__law_table : Stmt := topS 58
theorem sc_F__law_table : FnScope ["schema", "name", "table"] ["schema", "name"] (defScope s_F__law_table) := ⟨rfl, rfl, rfl, by decide +kernel, rfl, by decide +kernel, by decide +kernel⟩
theorem w_F__law_table {fa : Addr} {fd : FuncData} (G : Fun K "_law_table" "_law_table" s_F__law_table fa fd) (hm : mg (Str.ofString "_law_table") = some (.ref fa)) (hb : Binds K fd ["schema", "name"] []) (z : Z mg) : FT P w K mg base 1 "_law_table" F__law_table 2 :=
  ft_of (fn_core (lv := 0) G sc_F__law_table rfl rfl fun cdv A outer s H E hr tk po => 
      (ss_cons (ss_for (tg := (.nm 2)) po rfl (si_seq (se_var 0)) (sg_nm 2 sc_F__law_table.nd) (ss_one (ss_if (st_eq hr (se_ix (se_var 2) se_int) (se_var 1)) (ss_one (ss_ret (se_var 2))) ss_nil)))
      (ss_one (ss_ret se_non)))) hm G.kp hb
abbrev s_F__law_term_text : Stmt := topS 59
theorem sc_F__law_term_text : FnScope ["term"] ["term"] (defScope s_F__law_term_text) := ⟨rfl, rfl, rfl, by decide +kernel, rfl, by decide +kernel, by decide +kernel⟩
theorem w_F__law_term_text {fa : Addr} {fd : FuncData} (G : Fun K "_law_term_text" "_law_term_text" s_F__law_term_text fa fd) (hm : mg (Str.ofString "_law_term_text") = some (.ref fa)) (hb : Binds K fd ["term"] []) (z : Z mg) (t__law_value_text : FT P w K mg base 1 "_law_value_text" F__law_value_text 1) : FT P w K mg base 2 "_law_term_text" F__law_term_text 1 :=
  ft_of (fn_core (lv := 1) G sc_F__law_term_text rfl rfl fun cdv A outer s H E hr tk po => 
      (ss_cons (ss_if (st_eq hr (se_ix (se_var 0) se_int) (se_str [118, 97, 114])) (ss_one (ss_ret (se_ix (se_var 0) se_int))) ss_nil)
      (ss_one (ss_ret (se_call hr tk t__law_value_text (by decide) rfl (by rfl) (sa_cons (se_ix (se_var 0) se_int) sa_nil)))))) hm G.kp hb
abbrev s_F__law_atom_texts : Stmt := topS 60
theorem sc_F__law_atom_texts : FnScope ["schema", "atom", "found", "cells", "table", "term"] ["schema", "atom"] (defScope s_F__law_atom_texts) := ⟨rfl, rfl, rfl, by decide +kernel, rfl, by decide +kernel, by decide +kernel⟩
theorem w_F__law_atom_texts {fa : Addr} {fd : FuncData} (G : Fun K "_law_atom_texts" "_law_atom_texts" s_F__law_atom_texts fa fd) (hm : mg (Str.ofString "_law_atom_texts") = some (.ref fa)) (hb : Binds K fd ["schema", "atom"] []) (z : Z mg) (t__law_term_text : FT P w K mg base 2 "_law_term_text" F__law_term_text 1) (t__law_table : FT P w K mg base 1 "_law_table" F__law_table 2) (t__law_cells_texts : FT P w K mg base 2 "_law_cells_texts" F__law_cells_texts 3) : FT P w K mg base 3 "_law_atom_texts" F__law_atom_texts 2 :=
  ft_of (fn_core (lv := 2) G sc_F__law_atom_texts rfl rfl fun cdv A outer s H E hr tk po => 
      (ss_cons (ss_set 2 sc_F__law_atom_texts.nd (se_lst sa_nil))
      (ss_cons (ss_if (st_eq hr (se_len (by rfl) z.len (sa_cons (se_ix (se_var 1) se_int) sa_nil)) se_int) (ss_cons (ss_set 2 sc_F__law_atom_texts.nd (se_lst (sa_cons (se_ix (se_ix (se_var 1) se_int) se_int) (sa_cons (se_str [101, 118, 101, 114]) sa_nil))))
      (ss_one (ss_if (st_notN (se_ix (se_ix (se_var 1) se_int) se_int)) (ss_one (ss_putL (se_var 2) se_int (se_str' (by rfl) z.str (sa_cons (se_ix (se_ix (se_var 1) se_int) se_int) sa_nil)))) ss_nil))) ss_nil)
      (ss_cons (ss_setLc 3 (own := [("term", 5)]) (tg := (.nm 5)) rfl sc_F__law_atom_texts.nd (sw_true rfl rfl rfl (by decide +kernel)) (si_seq (se_ix (se_var 1) se_int)) (by show blkC ["schema", "atom", "found", "cells", "table", "term"] (defScope s_F__law_atom_texts) _ _ = true; decide +kernel) (fun _ _ _ _ _ => (sg_nm 5 sc_F__law_atom_texts.nd)) (fun _ _ _ _ _ => sts_nil) (fun _ _ _ _ _ => (se_call hr takes0 t__law_term_text (by decide) rfl (by rfl) (sa_cons (se_var 5) sa_nil))))
      (ss_cons (ss_set 4 sc_F__law_atom_texts.nd (se_call hr tk t__law_table (by decide) rfl (by rfl) (sa_cons (se_var 0) (sa_cons (se_ix (se_var 1) se_int) sa_nil))))
      (ss_cons (ss_if (st_isN (se_var 4)) (ss_one (ss_ret (se_add (se_var 2) (se_call hr tk t__law_cells_texts (by decide) rfl (by rfl) (sa_cons (se_ix (se_var 1) se_int) (sa_cons (se_var 3) (sa_cons (se_neg se_int) sa_nil))))))) ss_nil)
      (ss_one (ss_ret (se_add (se_var 2) (se_call hr tk t__law_cells_texts (by decide) rfl (by rfl) (sa_cons (se_ix (se_var 1) se_int) (sa_cons (se_var 3) (sa_cons (se_ix (se_var 4) se_int) sa_nil))))))))))))) hm G.kp hb
abbrev s_F__law_rule_texts : Stmt := topS 61
theorem sc_F__law_rule_texts : FnScope ["schema", "rule", "found", "k", "literal", "term"] ["schema", "rule"] (defScope s_F__law_rule_texts) := ⟨rfl, rfl, rfl, by decide +kernel, rfl, by decide +kernel, by decide +kernel⟩
theorem w_F__law_rule_texts {fa : Addr} {fd : FuncData} (G : Fun K "_law_rule_texts" "_law_rule_texts" s_F__law_rule_texts fa fd) (hm : mg (Str.ofString "_law_rule_texts") = some (.ref fa)) (hb : Binds K fd ["schema", "rule"] []) (z : Z mg) (t__law_term_text : FT P w K mg base 2 "_law_term_text" F__law_term_text 1) (t__law_cells_texts : FT P w K mg base 2 "_law_cells_texts" F__law_cells_texts 3) (t__law_atom_texts : FT P w K mg base 3 "_law_atom_texts" F__law_atom_texts 2) : FT P w K mg base 4 "_law_rule_texts" F__law_rule_texts 2 :=
  ft_of (fn_core (lv := 3) G sc_F__law_rule_texts rfl rfl fun cdv A outer s H E hr tk po => 
      (ss_cons (ss_set 2 sc_F__law_rule_texts.nd (se_add (se_call hr tk t__law_cells_texts (by decide) rfl (by rfl) (sa_cons (se_ix (se_var 1) se_int) (sa_cons (se_lc (own := [("term", 5)]) (tg := (.nm 5)) rfl sc_F__law_rule_texts.nd (si_seq (se_ix (se_var 1) se_int)) (by show blkC ["schema", "rule", "found", "k", "literal", "term"] (defScope s_F__law_rule_texts) _ _ = true; decide +kernel) (fun _ _ _ _ _ => (sg_nm 5 sc_F__law_rule_texts.nd)) (fun _ _ _ _ _ => sts_nil) (fun _ _ _ _ _ => (se_call hr takes0 t__law_term_text (by decide) rfl (by rfl) (sa_cons (se_var 5) sa_nil)))) (sa_cons (se_neg se_int) sa_nil)))) (se_lst (sa_cons (se_str [105, 102]) sa_nil))))
      (ss_cons (ss_if (st_eq hr (se_len (by rfl) z.len (sa_cons (se_ix (se_var 1) se_int) sa_nil)) se_int) (ss_one (ss_ret (se_add (se_var 2) (se_lst (sa_cons (se_str [116, 114, 117, 101]) sa_nil))))) ss_nil)
      (ss_cons (ss_for (tg := (.nm 3)) po rfl (si_range1 (by rfl) z.range (sa_cons (se_len (by rfl) z.len (sa_cons (se_ix (se_var 1) se_int) sa_nil)) sa_nil)) (sg_nm 3 sc_F__law_rule_texts.nd) (ss_cons (ss_if (st_gt (se_var 3) se_int) (ss_one (ss_expr (se_bm PySem.F.plainAttrs_list PySem.F.slot_list_append PySem.F.type_list_append mt_append sim_append (.inl rfl) (se_var 2) (sa_cons (se_str [44]) sa_nil)))) ss_nil)
      (ss_cons (ss_set 4 sc_F__law_rule_texts.nd (se_ix (se_ix (se_var 1) se_int) (se_var 3)))
      (ss_one (ss_if (st_eq hr (se_ix (se_var 4) se_int) (se_str [97, 116, 111, 109])) (ss_one (ss_set 2 sc_F__law_rule_texts.nd (se_add (se_var 2) (se_call hr tk t__law_atom_texts (by decide) rfl (by rfl) (sa_cons (se_var 0) (sa_cons (se_var 4) sa_nil)))))) (ss_one (ss_set 2 sc_F__law_rule_texts.nd (se_add (se_var 2) (se_lst (sa_cons (se_call hr tk t__law_term_text (by decide) rfl (by rfl) (sa_cons (se_ix (se_var 4) se_int) sa_nil)) (sa_cons (se_ix (se_var 4) se_int) (sa_cons (se_call hr tk t__law_term_text (by decide) rfl (by rfl) (sa_cons (se_ix (se_var 4) se_int) sa_nil)) sa_nil))))))))))))
      (ss_one (ss_ret (se_var 2))))))) hm G.kp hb
abbrev s_F__law_text_how : Stmt := topS 62
theorem sc_F__law_text_how : FnScope ["draws", "how"] ["draws"] (defScope s_F__law_text_how) := ⟨rfl, rfl, rfl, by decide +kernel, rfl, by decide +kernel, by decide +kernel⟩
theorem w_F__law_text_how {fa : Addr} {fd : FuncData} (G : Fun K "_law_text_how" "_law_text_how" s_F__law_text_how fa fd) (hm : mg (Str.ofString "_law_text_how") = some (.ref fa)) (hb : Binds K fd ["draws"] []) (z : Z mg) (t__law_how : FT P w K mg base 2 "_law_how" F__law_how 1) (t__law_take : FT P w K mg base 1 "_law_take" F__law_take 2) (t__law_great_number : FT P w K mg base 2 "_law_great_number" F__law_great_number 1) : FT P w K mg base 3 "_law_text_how" F__law_text_how 1 :=
  ft_of (fn_core (lv := 2) G sc_F__law_text_how rfl rfl fun cdv A outer s H E hr tk po => 
      (ss_cons (ss_set 1 sc_F__law_text_how.nd (se_call hr tk t__law_how (by decide) rfl (by rfl) (sa_cons (se_var 0) sa_nil)))
      (ss_cons (ss_if (st_w (sw_and (st_eq hr (se_len (by rfl) z.len (sa_cons (se_var 1) sa_nil)) se_int) (sw_and (st_notN (se_ix (se_var 1) se_int)) (sw_and1 (st_eq hr (se_call hr tk t__law_take (by decide) rfl (by rfl) (sa_cons (se_var 0) (sa_cons se_int sa_nil))) se_int))))) (ss_one (ss_ret (se_tup (sa_cons (se_ix (se_var 1) se_int) (sa_cons (se_abs (by rfl) z.abs (sa_cons (se_call hr tk t__law_great_number (by decide) rfl (by rfl) (sa_cons (se_var 0) sa_nil)) sa_nil)) sa_nil))))) ss_nil)
      (ss_one (ss_ret (se_var 1)))))) hm G.kp hb
abbrev s_F__law_text_literal : Stmt := topS 63
theorem sc_F__law_text_literal : FnScope ["draws", "schema", "names", "words", "atoms", "variables", "values", "terms", "how", "table", "many", "k"] ["draws", "schema", "names", "words", "atoms"] (defScope s_F__law_text_literal) := ⟨rfl, rfl, rfl, by decide +kernel, rfl, by decide +kernel, by decide +kernel⟩
theorem w_F__law_text_literal {fa : Addr} {fd : FuncData} (G : Fun K "_law_text_literal" "_law_text_literal" s_F__law_text_literal fa fd) (hm : mg (Str.ofString "_law_text_literal") = some (.ref fa)) (hb : Binds K fd ["draws", "schema", "names", "words", "atoms"] []) (z : Z mg) (t__law_pick : FT P w K mg base 2 "_law_pick" F__law_pick 2) (t__law_text_value : FT P w K mg base 3 "_law_text_value" F__law_text_value 2) (t__law_term : FT P w K mg base 3 "_law_term" F__law_term 3) (t__law_take : FT P w K mg base 1 "_law_take" F__law_take 2) (t__law_text_how : FT P w K mg base 3 "_law_text_how" F__law_text_how 1) : FT P w K mg base 4 "_law_text_literal" F__law_text_literal 5 :=
  ft_of (fn_core (lv := 3) G sc_F__law_text_literal rfl rfl fun cdv A outer s H E hr tk po => 
      (ss_cons (ss_set 5 sc_F__law_text_literal.nd (se_lst (sa_cons (se_ix (se_var 3) se_int) (sa_cons (se_ix (se_var 3) se_int) (sa_cons (se_call hr tk t__law_pick (by decide) rfl (by rfl) (sa_cons (se_var 0) (sa_cons (se_var 3) sa_nil))) sa_nil)))))
      (ss_cons (ss_set 6 sc_F__law_text_literal.nd (se_lc (own := [("k", 11)]) (tg := (.nm 11)) rfl sc_F__law_text_literal.nd (si_range1 (by rfl) z.range (sa_cons se_int sa_nil)) (by show blkC ["draws", "schema", "names", "words", "atoms", "variables", "values", "terms", "how", "table", "many", "k"] (defScope s_F__law_text_literal) _ _ = true; decide +kernel) (fun _ _ _ _ _ => (sg_nm 11 sc_F__law_text_literal.nd)) (fun _ _ _ _ _ => sts_nil) (fun _ _ _ _ _ => (se_call hr takes0 t__law_text_value (by decide) rfl (by rfl) (sa_cons (se_var 0) (sa_cons (se_var 3) sa_nil))))))
      (ss_cons (ss_setLc 7 (own := [("k", 11)]) (tg := (.nm 11)) rfl sc_F__law_text_literal.nd (sw_true rfl rfl rfl (by decide +kernel)) (si_range1 (by rfl) z.range (sa_cons se_int sa_nil)) (by show blkC ["draws", "schema", "names", "words", "atoms", "variables", "values", "terms", "how", "table", "many", "k"] (defScope s_F__law_text_literal) _ _ = true; decide +kernel) (fun _ _ _ _ _ => (sg_nm 11 sc_F__law_text_literal.nd)) (fun _ _ _ _ _ => sts_nil) (fun _ _ _ _ _ => (se_call hr takes0 t__law_term (by decide) rfl (by rfl) (sa_cons (se_var 0) (sa_cons (se_var 5) (sa_cons (se_var 6) sa_nil))))))
      (ss_cons (ss_if (st_w (sw_or (st_eq hr (se_var 4) se_int) (sw_or1 (st_eq hr (se_call hr tk t__law_take (by decide) rfl (by rfl) (sa_cons (se_var 0) (sa_cons se_int sa_nil))) se_int)))) (ss_one (ss_ret (se_tup (sa_cons (se_ix (se_lst (sa_cons (se_str [108, 101, 115, 115]) (sa_cons (se_str [117, 110, 108, 105, 107, 101]) sa_nil))) (se_call hr tk t__law_take (by decide) rfl (by rfl) (sa_cons (se_var 0) (sa_cons se_int sa_nil)))) (sa_cons (se_ix (se_var 7) se_int) (sa_cons (se_ix (se_var 7) se_int) sa_nil)))))) ss_nil)
      (ss_cons (ss_set 8 sc_F__law_text_literal.nd (se_call hr tk t__law_text_how (by decide) rfl (by rfl) (sa_cons (se_var 0) sa_nil)))
      (ss_cons (ss_if (st_w (sw_and (st_gt (se_len (by rfl) z.len (sa_cons (se_var 1) sa_nil)) se_int) (sw_and1 (st_gt (se_call hr tk t__law_take (by decide) rfl (by rfl) (sa_cons (se_var 0) (sa_cons se_int sa_nil))) se_int)))) (ss_cons (ss_set 9 sc_F__law_text_literal.nd (se_call hr tk t__law_pick (by decide) rfl (by rfl) (sa_cons (se_var 0) (sa_cons (se_var 1) sa_nil))))
      (ss_one (ss_ret (se_tup (sa_cons (se_str [97, 116, 111, 109]) (sa_cons (se_var 8) (sa_cons (se_ix (se_var 9) se_int) (sa_cons (se_tuple (by rfl) z.tuple (sa_cons (se_slice (se_var 7) so_none (so_some (se_add (se_ix (se_var 9) se_int) (se_ix (se_var 9) se_int)))) sa_nil)) sa_nil)))))))) ss_nil)
      (ss_cons (ss_set 10 sc_F__law_text_literal.nd (se_ix (se_lst (sa_cons se_int (sa_cons se_int (sa_cons se_int (sa_cons se_int (sa_cons se_int sa_nil)))))) (se_call hr tk t__law_take (by decide) rfl (by rfl) (sa_cons (se_var 0) (sa_cons se_int sa_nil)))))
      (ss_one (ss_ret (se_tup (sa_cons (se_str [97, 116, 111, 109]) (sa_cons (se_var 8) (sa_cons (se_call hr tk t__law_pick (by decide) rfl (by rfl) (sa_cons (se_var 0) (sa_cons (se_var 2) sa_nil))) (sa_cons (se_tuple (by rfl) z.tuple (sa_cons (se_slice (se_var 7) so_none (so_some (se_var 10))) sa_nil)) sa_nil))))))))))))))) hm G.kp hb
abbrev s_F__law_text_rule : Stmt := topS 64
theorem sc_F__law_text_rule : FnScope ["draws", "schema", "names", "words", "most", "body", "k", "atoms", "variables", "values", "many", "literal"] ["draws", "schema", "names", "words", "most"] (defScope s_F__law_text_rule) := ⟨rfl, rfl, rfl, by decide +kernel, rfl, by decide +kernel, by decide +kernel⟩
theorem w_F__law_text_rule {fa : Addr} {fd : FuncData} (G : Fun K "_law_text_rule" "_law_text_rule" s_F__law_text_rule fa fd) (hm : mg (Str.ofString "_law_text_rule") = some (.ref fa)) (hb : Binds K fd ["draws", "schema", "names", "words", "most"] []) (z : Z mg) (t__law_take : FT P w K mg base 1 "_law_take" F__law_take 2) (t__law_text_literal : FT P w K mg base 4 "_law_text_literal" F__law_text_literal 5) (t__law_pick : FT P w K mg base 2 "_law_pick" F__law_pick 2) (t__law_text_value : FT P w K mg base 3 "_law_text_value" F__law_text_value 2) (t__law_term : FT P w K mg base 3 "_law_term" F__law_term 3) : FT P w K mg base 5 "_law_text_rule" F__law_text_rule 5 :=
  ft_of (fn_core (lv := 4) G sc_F__law_text_rule rfl rfl fun cdv A outer s H E hr tk po => 
      (ss_cons (ss_set 5 sc_F__law_text_rule.nd (se_lst sa_nil))
      (ss_cons (ss_for (tg := (.nm 6)) po rfl (si_range1 (by rfl) z.range (sa_cons (se_call hr tk t__law_take (by decide) rfl (by rfl) (sa_cons (se_var 0) (sa_cons (se_add (se_var 4) se_int) sa_nil))) sa_nil)) (sg_nm 6 sc_F__law_text_rule.nd) (ss_cons (ss_set 7 sc_F__law_text_rule.nd (se_len (by rfl) z.len (sa_cons (se_lc (own := [("literal", 11)]) (tg := (.nm 11)) rfl sc_F__law_text_rule.nd (si_seq (se_var 5)) (by show blkC ["draws", "schema", "names", "words", "most", "body", "k", "atoms", "variables", "values", "many", "literal"] (defScope s_F__law_text_rule) _ _ = true; decide +kernel) (fun _ _ _ _ _ => (sg_nm 11 sc_F__law_text_rule.nd)) (fun _ _ _ _ _ => (sts_one (st_eq hr (se_ix (se_var 11) se_int) (se_str [97, 116, 111, 109])))) (fun _ _ _ _ _ => (se_var 11))) sa_nil)))
      (ss_one (ss_expr (se_bm PySem.F.plainAttrs_list PySem.F.slot_list_append PySem.F.type_list_append mt_append sim_append (.inl rfl) (se_var 5) (sa_cons (se_call hr tk t__law_text_literal (by decide) rfl (by rfl) (sa_cons (se_var 0) (sa_cons (se_var 1) (sa_cons (se_var 2) (sa_cons (se_var 3) (sa_cons (se_sub se_int (se_var 7)) sa_nil)))))) sa_nil))))))
      (ss_cons (ss_set 8 sc_F__law_text_rule.nd (se_lst (sa_cons (se_ix (se_var 3) se_int) (sa_cons (se_ix (se_var 3) se_int) (sa_cons (se_call hr tk t__law_pick (by decide) rfl (by rfl) (sa_cons (se_var 0) (sa_cons (se_var 3) sa_nil))) sa_nil)))))
      (ss_cons (ss_set 9 sc_F__law_text_rule.nd (se_lc (own := [("k", 6)]) (tg := (.nm 6)) rfl sc_F__law_text_rule.nd (si_range1 (by rfl) z.range (sa_cons se_int sa_nil)) (by show blkC ["draws", "schema", "names", "words", "most", "body", "k", "atoms", "variables", "values", "many", "literal"] (defScope s_F__law_text_rule) _ _ = true; decide +kernel) (fun _ _ _ _ _ => (sg_nm 6 sc_F__law_text_rule.nd)) (fun _ _ _ _ _ => sts_nil) (fun _ _ _ _ _ => (se_call hr takes0 t__law_text_value (by decide) rfl (by rfl) (sa_cons (se_var 0) (sa_cons (se_var 3) sa_nil))))))
      (ss_cons (ss_set 10 sc_F__law_text_rule.nd (se_ix (se_lst (sa_cons se_int (sa_cons se_int (sa_cons se_int (sa_cons se_int (sa_cons se_int sa_nil)))))) (se_call hr tk t__law_take (by decide) rfl (by rfl) (sa_cons (se_var 0) (sa_cons se_int sa_nil)))))
      (ss_one (ss_ret (se_tup (sa_cons (se_call hr tk t__law_pick (by decide) rfl (by rfl) (sa_cons (se_var 0) (sa_cons (se_var 2) sa_nil))) (sa_cons (se_tuple (by rfl) z.tuple (sa_cons (se_lc (own := [("k", 6)]) (tg := (.nm 6)) rfl sc_F__law_text_rule.nd (si_range1 (by rfl) z.range (sa_cons (se_var 10) sa_nil)) (by show blkC ["draws", "schema", "names", "words", "most", "body", "k", "atoms", "variables", "values", "many", "literal"] (defScope s_F__law_text_rule) _ _ = true; decide +kernel) (fun _ _ _ _ _ => (sg_nm 6 sc_F__law_text_rule.nd)) (fun _ _ _ _ _ => sts_nil) (fun _ _ _ _ _ => (se_call hr takes0 t__law_term (by decide) rfl (by rfl) (sa_cons (se_var 0) (sa_cons (se_var 8) (sa_cons (se_var 9) sa_nil)))))) sa_nil)) (sa_cons (se_tuple (by rfl) z.tuple (sa_cons (se_var 5) sa_nil)) sa_nil)))))))))))) hm G.kp hb
abbrev s_F__law_read : Stmt := topS 65
theorem sc_F__law_read : FnScope ["schema", "text"] ["schema", "text"] (defScope s_F__law_read) := ⟨rfl, rfl, rfl, by decide +kernel, rfl, by decide +kernel, by decide +kernel⟩
theorem w_F__law_read {fa : Addr} {fd : FuncData} (G : Fun K "_law_read" "_law_read" s_F__law_read fa fd) (hm : mg (Str.ofString "_law_read") = some (.ref fa)) (hb : Binds K fd ["schema", "text"] []) (z : Z mg) (t_read_rule : FT P w K mg base 12 "read_rule" F_read_rule 2) : FT P w K mg base 13 "_law_read" F__law_read 2 :=
  ft_of (fn_core (lv := 12) G sc_F__law_read rfl rfl fun cdv A outer s H E hr tk po => 
      (ss_one (ss_thru (by exact (ss_one (ss_ret (se_lst (sa_cons (se_call hr takes0 t_read_rule (by decide) rfl (by rfl) (sa_cons (se_var 0) (sa_cons (se_var 1) sa_nil))) sa_nil)))))))) hm G.kp hb
abbrev s_F_law : Stmt := topS 66
theorem sc_F_law : FnScope ["script", "draws", "words", "schema", "turn", "rule", "tokens", "text", "form"] ["script"] (defScope s_F_law) := ⟨rfl, rfl, rfl, by decide +kernel, rfl, by decide +kernel, by decide +kernel⟩
theorem w_F_law {fa : Addr} {fd : FuncData} (G : Fun K "law" "law" s_F_law fa fd) (z : Z mg) (t__law_draws : FT P w K mg base 1 "_law_draws" F__law_draws 2) (t__law_text_words : FT P w K mg base 3 "_law_text_words" F__law_text_words 2) (t__law_take : FT P w K mg base 1 "_law_take" F__law_take 2) (t__law_text_schema : FT P w K mg base 2 "_law_text_schema" F__law_text_schema 2) (t__law_text_rule : FT P w K mg base 5 "_law_text_rule" F__law_text_rule 5) (t__law_rule_texts : FT P w K mg base 4 "_law_rule_texts" F__law_rule_texts 2) (t__law_line_text : FT P w K mg base 1 "_law_line_text" F__law_line_text 1) (t_write_rule : FT P w K mg base 6 "write_rule" F_write_rule 2) (t__law_same : FT P w K mg base 8 "_law_same" (F__law_same 8) 2) (t__law_loose : FT P w K mg base 4 "_law_loose" F__law_loose 2) (t__law_read : FT P w K mg base 13 "_law_read" F__law_read 2) : FnOk P w K mg base (L2.CX P w) 14 fa fd ["script"] (spOf K mg F_law 1) :=
  fn_core (lv := 13) G sc_F_law rfl rfl fun cdv A outer s H E hr tk po => 
      (ss_cons (ss_set 1 sc_F_law.nd (se_call hr tk t__law_draws (by decide) rfl (by rfl) (sa_cons (se_var 0) (sa_cons se_int sa_nil))))
      (ss_cons (ss_set 2 sc_F_law.nd (se_call hr tk t__law_text_words (by decide) rfl (by rfl) (sa_cons (se_var 1) (sa_cons se_int sa_nil))))
      (ss_cons (ss_set 3 sc_F_law.nd (se_call hr tk t__law_text_schema (by decide) rfl (by rfl) (sa_cons (se_var 1) (sa_cons (se_slice (se_var 2) so_none (so_some (se_ix (se_lst (sa_cons se_int (sa_cons se_int (sa_cons se_int (sa_cons se_int (sa_cons se_int sa_nil)))))) (se_call hr tk t__law_take (by decide) rfl (by rfl) (sa_cons (se_var 1) (sa_cons se_int sa_nil)))))) sa_nil))))
      (ss_cons (ss_for (tg := (.nm 4)) po rfl (si_range1 (by rfl) z.range (sa_cons se_int sa_nil)) (sg_nm 4 sc_F_law.nd) (ss_cons (ss_set 5 sc_F_law.nd (se_call hr tk t__law_text_rule (by decide) rfl (by rfl) (sa_cons (se_var 1) (sa_cons (se_var 3) (sa_cons (se_slice (se_var 2) (so_some se_int) (so_some se_int)) (sa_cons (se_var 2) (sa_cons (se_ix (se_lst (sa_cons se_int (sa_cons se_int (sa_cons se_int sa_nil)))) (se_var 4)) sa_nil)))))))
      (ss_cons (ss_set 6 sc_F_law.nd (se_call hr tk t__law_rule_texts (by decide) rfl (by rfl) (sa_cons (se_var 3) (sa_cons (se_var 5) sa_nil))))
      (ss_cons (ss_set 7 sc_F_law.nd (se_call hr tk t__law_line_text (by decide) rfl (by rfl) (sa_cons (se_var 6) sa_nil)))
      (ss_cons (ss_if (st_not (st_val (se_call hr tk t__law_same (by decide) rfl (by rfl) (sa_cons (se_call hr tk t_write_rule (by decide) rfl (by rfl) (sa_cons (se_var 3) (sa_cons (se_var 5) sa_nil))) (sa_cons (se_var 7) sa_nil))))) (ss_one (ss_ret se_bl)) ss_nil)
      (ss_one (ss_for (tg := (.nm 8)) po rfl (si_seq (se_lst (sa_cons (se_var 7) (sa_cons (se_call hr tk t__law_loose (by decide) rfl (by rfl) (sa_cons (se_var 1) (sa_cons (se_var 6) sa_nil))) (sa_cons (se_call hr tk t__law_loose (by decide) rfl (by rfl) (sa_cons (se_var 1) (sa_cons (se_var 6) sa_nil))) (sa_cons (se_var 7) sa_nil)))))) (sg_nm 8 sc_F_law.nd) (ss_one (ss_if (st_not (st_val (se_call hr tk t__law_same (by decide) rfl (by rfl) (sa_cons (se_call hr tk t__law_read (by decide) rfl (by rfl) (sa_cons (se_var 3) (sa_cons (se_var 8) sa_nil))) (sa_cons (se_lst (sa_cons (se_var 5) sa_nil)) sa_nil))))) (ss_one (ss_ret se_bl)) ss_nil)))))))))
      (ss_one (ss_ret se_bl))))))
end
end LW

end

section
set_option linter.all false
set_option Elab.async false
set_option maxRecDepth 100000
set_option linter.all false
set_option Elab.async false
set_option maxRecDepth 100000
set_option maxHeartbeats 0
/-! what the top has written, and the end, printed by gen.py -/
namespace LW
open PySem PySem.Spec PyProof.Rows L2 Dl
theorem all_mk {l : PySem.W.OpenLaw} {w : World} {K : PySem.W.Frag} {h : Heap} {mg : Str → Option Value} {fa : Addr} {CLine qHOWS qBOUNDED qTESTS f0 f1 f2 f3 f4 f5 f6 f7 f8 f9 f10 f11 f12 f13 f14 f15 f16 f17 f18 f19 f20 f21 f22 f23 f24 f25 f26 f27 f28 f29 f30 f31 f32 f33 f34 f35 f36 f37 f38 f39 f40 f41 f42 f43 f44 f45 f46 f47 f48 f49 f50 f51 f52 f53 f54 f55 f56 f57 f58 f59 f60 f61 f62 : Addr} {tDIGITS : PySem.Tok} {tSIGNS : PySem.Tok} {tLETTERS : PySem.Tok} {odHOWS : Option Addr} {nHOWS : Nat} {slHOWS : Array (Option Value)} {tHOWS0 : PySem.Tok} {tHOWS1 : PySem.Tok} {tHOWS2 : PySem.Tok} {tHOWS3 : PySem.Tok} {tHOWS4 : PySem.Tok} {tHOWS5 : PySem.Tok} {odBOUNDED : Option Addr} {nBOUNDED : Nat} {slBOUNDED : Array (Option Value)} {tBOUNDED0 : PySem.Tok} {tBOUNDED1 : PySem.Tok} {odTESTS : Option Addr} {nTESTS : Nat} {slTESTS : Array (Option Value)} {tTESTS0 : PySem.Tok} {tTESTS1 : PySem.Tok}
    {od0 an0 od1 an1 od2 an2 od3 an3 od4 an4 od5 an5 od6 an6 od7 an7 od8 an8 od9 an9 od10 an10 od11 an11 od12 an12 od13 an13 od14 an14 od15 an15 od16 an16 od17 an17 od18 an18 od19 an19 od20 an20 od21 an21 od22 an22 od23 an23 od24 an24 od25 an25 od26 an26 od27 an27 od28 an28 od29 an29 od30 an30 od31 an31 od32 an32 od33 an33 od34 an34 od35 an35 od36 an36 od37 an37 od38 an38 od39 an39 od40 an40 od41 an41 od42 an42 od43 an43 od44 an44 od45 an45 od46 an46 od47 an47 od48 an48 od49 an49 od50 an50 od51 an51 od52 an52 od53 an53 od54 an54 od55 an55 od56 an56 od57 an57 od58 an58 od59 an59 od60 an60 od61 an61 od62 an62 : Option Addr}
    {sl0 sl1 sl2 sl3 sl4 sl5 sl6 sl7 sl8 sl9 sl10 sl11 sl12 sl13 sl14 sl15 sl16 sl17 sl18 sl19 sl20 sl21 sl22 sl23 sl24 sl25 sl26 sl27 sl28 sl29 sl30 sl31 sl32 sl33 sl34 sl35 sl36 sl37 sl38 sl39 sl40 sl41 sl42 sl43 sl44 sl45 sl46 sl47 sl48 sl49 sl50 sl51 sl52 sl53 sl54 sl55 sl56 sl57 sl58 sl59 sl60 sl61 sl62 : Array (Option Value)}
    {oc0 kV0 dc0 pm0 cd0 ct0 oc1 kV1 dc1 pm1 cd1 ct1 oc2 kV2 dc2 pm2 cd2 ct2 oc3 kV3 dc3 pm3 cd3 ct3 oc4 kV4 dc4 pm4 cd4 ct4 oc5 kV5 dc5 pm5 cd5 ct5 oc6 kV6 dc6 pm6 cd6 ct6 oc7 kV7 dc7 pm7 cd7 ct7 oc8 kV8 dc8 pm8 cd8 ct8 oc9 kV9 dc9 pm9 cd9 ct9 oc10 kV10 dc10 pm10 cd10 ct10 oc11 kV11 dc11 pm11 cd11 ct11 oc12 kV12 dc12 pm12 cd12 ct12 oc13 kV13 dc13 pm13 cd13 ct13 oc14 kV14 dc14 pm14 cd14 ct14 oc15 kV15 dc15 pm15 cd15 ct15 oc16 kV16 dc16 pm16 cd16 ct16 oc17 kV17 dc17 pm17 cd17 ct17 oc18 kV18 dc18 pm18 cd18 ct18 oc19 kV19 dc19 pm19 cd19 ct19 oc20 kV20 dc20 pm20 cd20 ct20 oc21 kV21 dc21 pm21 cd21 ct21 oc22 kV22 dc22 pm22 cd22 ct22 oc23 kV23 dc23 pm23 cd23 ct23 oc24 kV24 dc24 pm24 cd24 ct24 oc25 kV25 dc25 pm25 cd25 ct25 oc26 kV26 dc26 pm26 cd26 ct26 oc27 kV27 dc27 pm27 cd27 ct27 oc28 kV28 dc28 pm28 cd28 ct28 oc29 kV29 dc29 pm29 cd29 ct29 oc30 kV30 dc30 pm30 cd30 ct30 oc31 kV31 dc31 pm31 cd31 ct31 oc32 kV32 dc32 pm32 cd32 ct32 oc33 kV33 dc33 pm33 cd33 ct33 oc34 kV34 dc34 pm34 cd34 ct34 oc35 kV35 dc35 pm35 cd35 ct35 oc36 kV36 dc36 pm36 cd36 ct36 oc37 kV37 dc37 pm37 cd37 ct37 oc38 kV38 dc38 pm38 cd38 ct38 oc39 kV39 dc39 pm39 cd39 ct39 oc40 kV40 dc40 pm40 cd40 ct40 oc41 kV41 dc41 pm41 cd41 ct41 oc42 kV42 dc42 pm42 cd42 ct42 oc43 kV43 dc43 pm43 cd43 ct43 oc44 kV44 dc44 pm44 cd44 ct44 oc45 kV45 dc45 pm45 cd45 ct45 oc46 kV46 dc46 pm46 cd46 ct46 oc47 kV47 dc47 pm47 cd47 ct47 oc48 kV48 dc48 pm48 cd48 ct48 oc49 kV49 dc49 pm49 cd49 ct49 oc50 kV50 dc50 pm50 cd50 ct50 oc51 kV51 dc51 pm51 cd51 ct51 oc52 kV52 dc52 pm52 cd52 ct52 oc53 kV53 dc53 pm53 cd53 ct53 oc54 kV54 dc54 pm54 cd54 ct54 oc55 kV55 dc55 pm55 cd55 ct55 oc56 kV56 dc56 pm56 cd56 ct56 oc57 kV57 dc57 pm57 cd57 ct57 oc58 kV58 dc58 pm58 cd58 ct58 oc59 kV59 dc59 pm59 cd59 ct59 oc60 kV60 dc60 pm60 cd60 ct60 oc61 kV61 dc61 pm61 cd61 ct61 oc62 kV62 dc62 pm62 cd62 ct62 : Value}
    (X : K.In h) (G : h.Ns mainGlobals mg) (hfa : mg "law" = some (.ref fa))
    (aLine : PySem.W.nsIn K mainGlobals "Line" = some (some (.ref CLine)))
    (pgLine : PySem.W.plainGet K CLine Str.empty = true)
    (hdLine : PySem.W.hasDictIn K CLine = true)
    (poLine : PySem.W.plainOver K CLine = true)
    (saLine : PySem.W.findIn K (.ref CLine) "__setattr__" = some (some (.builtin "object.__setattr__")))
    (kcLine : PySem.W.keepIn K (.ref CLine) = true)
    (mkLine : PySem.W.makesIn K CLine = true)
    (nLine_number : PySem.W.findIn K (.ref CLine) "number" = some none)
    (nLine_tokens : PySem.W.findIn K (.ref CLine) "tokens" = some none)
    (nLine_many : PySem.W.findIn K (.ref CLine) "many" = some none)
    (aDIGITS : PySem.W.nsIn K mainGlobals "DIGITS" = some (some (.str (Str.ofString "0123456789") tDIGITS)))
    (aSIGNS : PySem.W.nsIn K mainGlobals "SIGNS" = some (some (.str (Str.ofString "(),|") tSIGNS)))
    (aLETTERS : PySem.W.nsIn K mainGlobals "LETTERS" = some (some (.str (Str.ofString "abcdefghijklmnopqrstuvwxyz") tLETTERS)))
    (aHOWS : PySem.W.nsIn K mainGlobals "HOWS" = some (some (.ref qHOWS)))
    (lHOWS : K.lookup qHOWS = some ⟨.type "tuple", odHOWS, .seq (List.toArray [.str (Str.ofString "ago") tHOWS0, .str (Str.ofString "ahead") tHOWS1, .str (Str.ofString "once") tHOWS2, .str (Str.ofString "soon") tHOWS3, .str (Str.ofString "always") tHOWS4, .str (Str.ofString "henceforth") tHOWS5]) nHOWS, slHOWS⟩)
    (aBOUNDED : PySem.W.nsIn K mainGlobals "BOUNDED" = some (some (.ref qBOUNDED)))
    (lBOUNDED : K.lookup qBOUNDED = some ⟨.type "tuple", odBOUNDED, .seq (List.toArray [.str (Str.ofString "ago") tBOUNDED0, .str (Str.ofString "ahead") tBOUNDED1]) nBOUNDED, slBOUNDED⟩)
    (aTESTS : PySem.W.nsIn K mainGlobals "TESTS" = some (some (.ref qTESTS)))
    (lTESTS : K.lookup qTESTS = some ⟨.type "tuple", odTESTS, .seq (List.toArray [.str (Str.ofString "less") tTESTS0, .str (Str.ofString "unlike") tTESTS1]) nTESTS, slTESTS⟩)
    (zlen : PySem.W.nsIn K mainGlobals "len" = some none)
    (zint : PySem.W.nsIn K mainGlobals "int" = some none)
    (zrange : PySem.W.nsIn K mainGlobals "range" = some none)
    (ztuple : PySem.W.nsIn K mainGlobals "tuple" = some none)
    (zisinstance : PySem.W.nsIn K mainGlobals "isinstance" = some none)
    (zstr : PySem.W.nsIn K mainGlobals "str" = some none)
    (zlist : PySem.W.nsIn K mainGlobals "list" = some none)
    (zbool : PySem.W.nsIn K mainGlobals "bool" = some none)
    (zmax : PySem.W.nsIn K mainGlobals "max" = some none)
    (zsorted : PySem.W.nsIn K mainGlobals "sorted" = some none)
    (zmin : PySem.W.nsIn K mainGlobals "min" = some none)
    (zabs : PySem.W.nsIn K mainGlobals "abs" = some none)
    (a0 : PySem.W.nsIn K mainGlobals "table_of" = some (some (.ref f0)))
    (l0 : K.lookup f0 = some ⟨oc0, od0, .func (PySem.W.fnOf "table_of" "table_of" (defArgs s_F_table_of) (defBody s_F_table_of) (defScope s_F_table_of) .none kV0 dc0 pm0 an0 cd0 ct0), sl0⟩)
    (c0 : PySem.W.codeIn K cd0 "table_of" = true)
    (k0 : PySem.W.keepIn K (.ref f0) = true)
    (a1 : PySem.W.nsIn K mainGlobals "run_end" = some (some (.ref f1)))
    (l1 : K.lookup f1 = some ⟨oc1, od1, .func (PySem.W.fnOf "run_end" "run_end" (defArgs s_F_run_end) (defBody s_F_run_end) (defScope s_F_run_end) .none kV1 dc1 pm1 an1 cd1 ct1), sl1⟩)
    (c1 : PySem.W.codeIn K cd1 "run_end" = true)
    (k1 : PySem.W.keepIn K (.ref f1) = true)
    (a2 : PySem.W.nsIn K mainGlobals "integer_at" = some (some (.ref f2)))
    (l2 : K.lookup f2 = some ⟨oc2, od2, .func (PySem.W.fnOf "integer_at" "integer_at" (defArgs s_F_integer_at) (defBody s_F_integer_at) (defScope s_F_integer_at) .none kV2 dc2 pm2 an2 cd2 ct2), sl2⟩)
    (c2 : PySem.W.codeIn K cd2 "integer_at" = true)
    (k2 : PySem.W.keepIn K (.ref f2) = true)
    (a3 : PySem.W.nsIn K mainGlobals "token_at" = some (some (.ref f3)))
    (l3 : K.lookup f3 = some ⟨oc3, od3, .func (PySem.W.fnOf "token_at" "token_at" (defArgs s_F_token_at) (defBody s_F_token_at) (defScope s_F_token_at) .none kV3 dc3 pm3 an3 cd3 ct3), sl3⟩)
    (c3 : PySem.W.codeIn K cd3 "token_at" = true)
    (k3 : PySem.W.keepIn K (.ref f3) = true)
    (a4 : PySem.W.nsIn K mainGlobals "tokens_of" = some (some (.ref f4)))
    (l4 : K.lookup f4 = some ⟨oc4, od4, .func (PySem.W.fnOf "tokens_of" "tokens_of" (defArgs s_F_tokens_of) (defBody s_F_tokens_of) (defScope s_F_tokens_of) .none kV4 dc4 pm4 an4 cd4 ct4), sl4⟩)
    (c4 : PySem.W.codeIn K cd4 "tokens_of" = true)
    (k4 : PySem.W.keepIn K (.ref f4) = true)
    (a5 : PySem.W.findIn K (.ref CLine) "__init__" = some (some (.ref f5)))
    (i5 : PySem.W.isFn K (.ref f5) = true)
    (l5 : K.lookup f5 = some ⟨oc5, od5, .func (PySem.W.fnOf "__init__" "Line.__init__" (defArgs s_F_Line___init__) (defBody s_F_Line___init__) (defScope s_F_Line___init__) .none kV5 dc5 pm5 an5 cd5 ct5), sl5⟩)
    (c5 : PySem.W.codeIn K cd5 "Line.__init__" = true)
    (k5 : PySem.W.keepIn K (.ref f5) = true)
    (a6 : PySem.W.findIn K (.ref CLine) "kind" = some (some (.ref f6)))
    (i6 : PySem.W.isFn K (.ref f6) = true)
    (l6 : K.lookup f6 = some ⟨oc6, od6, .func (PySem.W.fnOf "kind" "Line.kind" (defArgs s_F_Line_kind) (defBody s_F_Line_kind) (defScope s_F_Line_kind) .none kV6 dc6 pm6 an6 cd6 ct6), sl6⟩)
    (c6 : PySem.W.codeIn K cd6 "Line.kind" = true)
    (k6 : PySem.W.keepIn K (.ref f6) = true)
    (a7 : PySem.W.findIn K (.ref CLine) "value" = some (some (.ref f7)))
    (i7 : PySem.W.isFn K (.ref f7) = true)
    (l7 : K.lookup f7 = some ⟨oc7, od7, .func (PySem.W.fnOf "value" "Line.value" (defArgs s_F_Line_value) (defBody s_F_Line_value) (defScope s_F_Line_value) .none kV7 dc7 pm7 an7 cd7 ct7), sl7⟩)
    (c7 : PySem.W.codeIn K cd7 "Line.value" = true)
    (k7 : PySem.W.keepIn K (.ref f7) = true)
    (a8 : PySem.W.findIn K (.ref CLine) "word" = some (some (.ref f8)))
    (i8 : PySem.W.isFn K (.ref f8) = true)
    (l8 : K.lookup f8 = some ⟨oc8, od8, .func (PySem.W.fnOf "word" "Line.word" (defArgs s_F_Line_word) (defBody s_F_Line_word) (defScope s_F_Line_word) .none kV8 dc8 pm8 an8 cd8 ct8), sl8⟩)
    (c8 : PySem.W.codeIn K cd8 "Line.word" = true)
    (k8 : PySem.W.keepIn K (.ref f8) = true)
    (a9 : PySem.W.findIn K (.ref CLine) "behind" = some (some (.ref f9)))
    (i9 : PySem.W.isFn K (.ref f9) = true)
    (l9 : K.lookup f9 = some ⟨oc9, od9, .func (PySem.W.fnOf "behind" "Line.behind" (defArgs s_F_Line_behind) (defBody s_F_Line_behind) (defScope s_F_Line_behind) .none kV9 dc9 pm9 an9 cd9 ct9), sl9⟩)
    (c9 : PySem.W.codeIn K cd9 "Line.behind" = true)
    (k9 : PySem.W.keepIn K (.ref f9) = true)
    (a10 : PySem.W.findIn K (.ref CLine) "refuse" = some (some (.ref f10)))
    (i10 : PySem.W.isFn K (.ref f10) = true)
    (l10 : K.lookup f10 = some ⟨oc10, od10, .func (PySem.W.fnOf "refuse" "Line.refuse" (defArgs s_F_Line_refuse) (defBody s_F_Line_refuse) (defScope s_F_Line_refuse) .none kV10 dc10 pm10 an10 cd10 ct10), sl10⟩)
    (c10 : PySem.W.codeIn K cd10 "Line.refuse" = true)
    (k10 : PySem.W.keepIn K (.ref f10) = true)
    (a11 : PySem.W.findIn K (.ref CLine) "take" = some (some (.ref f11)))
    (i11 : PySem.W.isFn K (.ref f11) = true)
    (l11 : K.lookup f11 = some ⟨oc11, od11, .func (PySem.W.fnOf "take" "Line.take" (defArgs s_F_Line_take) (defBody s_F_Line_take) (defScope s_F_Line_take) .none kV11 dc11 pm11 an11 cd11 ct11), sl11⟩)
    (c11 : PySem.W.codeIn K cd11 "Line.take" = true)
    (k11 : PySem.W.keepIn K (.ref f11) = true)
    (a12 : PySem.W.findIn K (.ref CLine) "take_one" = some (some (.ref f12)))
    (i12 : PySem.W.isFn K (.ref f12) = true)
    (l12 : K.lookup f12 = some ⟨oc12, od12, .func (PySem.W.fnOf "take_one" "Line.take_one" (defArgs s_F_Line_take_one) (defBody s_F_Line_take_one) (defScope s_F_Line_take_one) .none kV12 dc12 pm12 an12 cd12 ct12), sl12⟩)
    (c12 : PySem.W.codeIn K cd12 "Line.take_one" = true)
    (k12 : PySem.W.keepIn K (.ref f12) = true)
    (a13 : PySem.W.findIn K (.ref CLine) "take_integer" = some (some (.ref f13)))
    (i13 : PySem.W.isFn K (.ref f13) = true)
    (l13 : K.lookup f13 = some ⟨oc13, od13, .func (PySem.W.fnOf "take_integer" "Line.take_integer" (defArgs s_F_Line_take_integer) (defBody s_F_Line_take_integer) (defScope s_F_Line_take_integer) .none kV13 dc13 pm13 an13 cd13 ct13), sl13⟩)
    (c13 : PySem.W.codeIn K cd13 "Line.take_integer" = true)
    (k13 : PySem.W.keepIn K (.ref f13) = true)
    (a14 : PySem.W.findIn K (.ref CLine) "take_value" = some (some (.ref f14)))
    (i14 : PySem.W.isFn K (.ref f14) = true)
    (l14 : K.lookup f14 = some ⟨oc14, od14, .func (PySem.W.fnOf "take_value" "Line.take_value" (defArgs s_F_Line_take_value) (defBody s_F_Line_take_value) (defScope s_F_Line_take_value) .none kV14 dc14 pm14 an14 cd14 ct14), sl14⟩)
    (c14 : PySem.W.codeIn K cd14 "Line.take_value" = true)
    (k14 : PySem.W.keepIn K (.ref f14) = true)
    (a15 : PySem.W.findIn K (.ref CLine) "take_term" = some (some (.ref f15)))
    (i15 : PySem.W.isFn K (.ref f15) = true)
    (l15 : K.lookup f15 = some ⟨oc15, od15, .func (PySem.W.fnOf "take_term" "Line.take_term" (defArgs s_F_Line_take_term) (defBody s_F_Line_take_term) (defScope s_F_Line_take_term) .none kV15 dc15 pm15 an15 cd15 ct15), sl15⟩)
    (c15 : PySem.W.codeIn K cd15 "Line.take_term" = true)
    (k15 : PySem.W.keepIn K (.ref f15) = true)
    (a16 : PySem.W.nsIn K mainGlobals "take_term" = some (some (.ref f16)))
    (l16 : K.lookup f16 = some ⟨oc16, od16, .func (PySem.W.fnOf "take_term" "take_term" (defArgs s_F_take_term) (defBody s_F_take_term) (defScope s_F_take_term) .none kV16 dc16 pm16 an16 cd16 ct16), sl16⟩)
    (c16 : PySem.W.codeIn K cd16 "take_term" = true)
    (k16 : PySem.W.keepIn K (.ref f16) = true)
    (a17 : PySem.W.nsIn K mainGlobals "take_places" = some (some (.ref f17)))
    (l17 : K.lookup f17 = some ⟨oc17, od17, .func (PySem.W.fnOf "take_places" "take_places" (defArgs s_F_take_places) (defBody s_F_take_places) (defScope s_F_take_places) .none kV17 dc17 pm17 an17 cd17 ct17), sl17⟩)
    (c17 : PySem.W.codeIn K cd17 "take_places" = true)
    (k17 : PySem.W.keepIn K (.ref f17) = true)
    (a18 : PySem.W.nsIn K mainGlobals "take_cells" = some (some (.ref f18)))
    (l18 : K.lookup f18 = some ⟨oc18, od18, .func (PySem.W.fnOf "take_cells" "take_cells" (defArgs s_F_take_cells) (defBody s_F_take_cells) (defScope s_F_take_cells) .none kV18 dc18 pm18 an18 cd18 ct18), sl18⟩)
    (c18 : PySem.W.codeIn K cd18 "take_cells" = true)
    (k18 : PySem.W.keepIn K (.ref f18) = true)
    (a19 : PySem.W.nsIn K mainGlobals "take_plain" = some (some (.ref f19)))
    (l19 : K.lookup f19 = some ⟨oc19, od19, .func (PySem.W.fnOf "take_plain" "take_plain" (defArgs s_F_take_plain) (defBody s_F_take_plain) (defScope s_F_take_plain) .none kV19 dc19 pm19 an19 cd19 ct19), sl19⟩)
    (c19 : PySem.W.codeIn K cd19 "take_plain" = true)
    (k19 : PySem.W.keepIn K (.ref f19) = true)
    (a20 : PySem.W.nsIn K mainGlobals "take_atom" = some (some (.ref f20)))
    (l20 : K.lookup f20 = some ⟨oc20, od20, .func (PySem.W.fnOf "take_atom" "take_atom" (defArgs s_F_take_atom) (defBody s_F_take_atom) (defScope s_F_take_atom) .none kV20 dc20 pm20 an20 cd20 ct20), sl20⟩)
    (c20 : PySem.W.codeIn K cd20 "take_atom" = true)
    (k20 : PySem.W.keepIn K (.ref f20) = true)
    (a21 : PySem.W.nsIn K mainGlobals "take_how" = some (some (.ref f21)))
    (l21 : K.lookup f21 = some ⟨oc21, od21, .func (PySem.W.fnOf "take_how" "take_how" (defArgs s_F_take_how) (defBody s_F_take_how) (defScope s_F_take_how) .none kV21 dc21 pm21 an21 cd21 ct21), sl21⟩)
    (c21 : PySem.W.codeIn K cd21 "take_how" = true)
    (k21 : PySem.W.keepIn K (.ref f21) = true)
    (a22 : PySem.W.nsIn K mainGlobals "take_test" = some (some (.ref f22)))
    (l22 : K.lookup f22 = some ⟨oc22, od22, .func (PySem.W.fnOf "take_test" "take_test" (defArgs s_F_take_test) (defBody s_F_take_test) (defScope s_F_take_test) .none kV22 dc22 pm22 an22 cd22 ct22), sl22⟩)
    (c22 : PySem.W.codeIn K cd22 "take_test" = true)
    (k22 : PySem.W.keepIn K (.ref f22) = true)
    (a23 : PySem.W.nsIn K mainGlobals "take_literal" = some (some (.ref f23)))
    (l23 : K.lookup f23 = some ⟨oc23, od23, .func (PySem.W.fnOf "take_literal" "take_literal" (defArgs s_F_take_literal) (defBody s_F_take_literal) (defScope s_F_take_literal) .none kV23 dc23 pm23 an23 cd23 ct23), sl23⟩)
    (c23 : PySem.W.codeIn K cd23 "take_literal" = true)
    (k23 : PySem.W.keepIn K (.ref f23) = true)
    (a24 : PySem.W.nsIn K mainGlobals "take_body" = some (some (.ref f24)))
    (l24 : K.lookup f24 = some ⟨oc24, od24, .func (PySem.W.fnOf "take_body" "take_body" (defArgs s_F_take_body) (defBody s_F_take_body) (defScope s_F_take_body) .none kV24 dc24 pm24 an24 cd24 ct24), sl24⟩)
    (c24 : PySem.W.codeIn K cd24 "take_body" = true)
    (k24 : PySem.W.keepIn K (.ref f24) = true)
    (a25 : PySem.W.nsIn K mainGlobals "take_rule" = some (some (.ref f25)))
    (l25 : K.lookup f25 = some ⟨oc25, od25, .func (PySem.W.fnOf "take_rule" "take_rule" (defArgs s_F_take_rule) (defBody s_F_take_rule) (defScope s_F_take_rule) .none kV25 dc25 pm25 an25 cd25 ct25), sl25⟩)
    (c25 : PySem.W.codeIn K cd25 "take_rule" = true)
    (k25 : PySem.W.keepIn K (.ref f25) = true)
    (a26 : PySem.W.nsIn K mainGlobals "read_rule" = some (some (.ref f26)))
    (l26 : K.lookup f26 = some ⟨oc26, od26, .func (PySem.W.fnOf "read_rule" "read_rule" (defArgs s_F_read_rule) (defBody s_F_read_rule) (defScope s_F_read_rule) .none kV26 dc26 pm26 an26 cd26 ct26), sl26⟩)
    (c26 : PySem.W.codeIn K cd26 "read_rule" = true)
    (k26 : PySem.W.keepIn K (.ref f26) = true)
    (a27 : PySem.W.nsIn K mainGlobals "write_value" = some (some (.ref f27)))
    (l27 : K.lookup f27 = some ⟨oc27, od27, .func (PySem.W.fnOf "write_value" "write_value" (defArgs s_F_write_value) (defBody s_F_write_value) (defScope s_F_write_value) .none kV27 dc27 pm27 an27 cd27 ct27), sl27⟩)
    (c27 : PySem.W.codeIn K cd27 "write_value" = true)
    (k27 : PySem.W.keepIn K (.ref f27) = true)
    (a28 : PySem.W.nsIn K mainGlobals "write_cells" = some (some (.ref f28)))
    (l28 : K.lookup f28 = some ⟨oc28, od28, .func (PySem.W.fnOf "write_cells" "write_cells" (defArgs s_F_write_cells) (defBody s_F_write_cells) (defScope s_F_write_cells) .none kV28 dc28 pm28 an28 cd28 ct28), sl28⟩)
    (c28 : PySem.W.codeIn K cd28 "write_cells" = true)
    (k28 : PySem.W.keepIn K (.ref f28) = true)
    (a29 : PySem.W.nsIn K mainGlobals "write_term" = some (some (.ref f29)))
    (l29 : K.lookup f29 = some ⟨oc29, od29, .func (PySem.W.fnOf "write_term" "write_term" (defArgs s_F_write_term) (defBody s_F_write_term) (defScope s_F_write_term) .none kV29 dc29 pm29 an29 cd29 ct29), sl29⟩)
    (c29 : PySem.W.codeIn K cd29 "write_term" = true)
    (k29 : PySem.W.keepIn K (.ref f29) = true)
    (a30 : PySem.W.nsIn K mainGlobals "write_plain" = some (some (.ref f30)))
    (l30 : K.lookup f30 = some ⟨oc30, od30, .func (PySem.W.fnOf "write_plain" "write_plain" (defArgs s_F_write_plain) (defBody s_F_write_plain) (defScope s_F_write_plain) .none kV30 dc30 pm30 an30 cd30 ct30), sl30⟩)
    (c30 : PySem.W.codeIn K cd30 "write_plain" = true)
    (k30 : PySem.W.keepIn K (.ref f30) = true)
    (a31 : PySem.W.nsIn K mainGlobals "write_how" = some (some (.ref f31)))
    (l31 : K.lookup f31 = some ⟨oc31, od31, .func (PySem.W.fnOf "write_how" "write_how" (defArgs s_F_write_how) (defBody s_F_write_how) (defScope s_F_write_how) .none kV31 dc31 pm31 an31 cd31 ct31), sl31⟩)
    (c31 : PySem.W.codeIn K cd31 "write_how" = true)
    (k31 : PySem.W.keepIn K (.ref f31) = true)
    (a32 : PySem.W.nsIn K mainGlobals "write_atom" = some (some (.ref f32)))
    (l32 : K.lookup f32 = some ⟨oc32, od32, .func (PySem.W.fnOf "write_atom" "write_atom" (defArgs s_F_write_atom) (defBody s_F_write_atom) (defScope s_F_write_atom) .none kV32 dc32 pm32 an32 cd32 ct32), sl32⟩)
    (c32 : PySem.W.codeIn K cd32 "write_atom" = true)
    (k32 : PySem.W.keepIn K (.ref f32) = true)
    (a33 : PySem.W.nsIn K mainGlobals "write_literal" = some (some (.ref f33)))
    (l33 : K.lookup f33 = some ⟨oc33, od33, .func (PySem.W.fnOf "write_literal" "write_literal" (defArgs s_F_write_literal) (defBody s_F_write_literal) (defScope s_F_write_literal) .none kV33 dc33 pm33 an33 cd33 ct33), sl33⟩)
    (c33 : PySem.W.codeIn K cd33 "write_literal" = true)
    (k33 : PySem.W.keepIn K (.ref f33) = true)
    (a34 : PySem.W.nsIn K mainGlobals "write_rule" = some (some (.ref f34)))
    (l34 : K.lookup f34 = some ⟨oc34, od34, .func (PySem.W.fnOf "write_rule" "write_rule" (defArgs s_F_write_rule) (defBody s_F_write_rule) (defScope s_F_write_rule) .none kV34 dc34 pm34 an34 cd34 ct34), sl34⟩)
    (c34 : PySem.W.codeIn K cd34 "write_rule" = true)
    (k34 : PySem.W.keepIn K (.ref f34) = true)
    (a35 : PySem.W.nsIn K mainGlobals "_law_draws" = some (some (.ref f35)))
    (l35 : K.lookup f35 = some ⟨oc35, od35, .func (PySem.W.fnOf "_law_draws" "_law_draws" (defArgs s_F__law_draws) (defBody s_F__law_draws) (defScope s_F__law_draws) .none kV35 dc35 pm35 an35 cd35 ct35), sl35⟩)
    (c35 : PySem.W.codeIn K cd35 "_law_draws" = true)
    (k35 : PySem.W.keepIn K (.ref f35) = true)
    (a36 : PySem.W.nsIn K mainGlobals "_law_take" = some (some (.ref f36)))
    (l36 : K.lookup f36 = some ⟨oc36, od36, .func (PySem.W.fnOf "_law_take" "_law_take" (defArgs s_F__law_take) (defBody s_F__law_take) (defScope s_F__law_take) .none kV36 dc36 pm36 an36 cd36 ct36), sl36⟩)
    (c36 : PySem.W.codeIn K cd36 "_law_take" = true)
    (k36 : PySem.W.keepIn K (.ref f36) = true)
    (a37 : PySem.W.nsIn K mainGlobals "_law_pick" = some (some (.ref f37)))
    (l37 : K.lookup f37 = some ⟨oc37, od37, .func (PySem.W.fnOf "_law_pick" "_law_pick" (defArgs s_F__law_pick) (defBody s_F__law_pick) (defScope s_F__law_pick) .none kV37 dc37 pm37 an37 cd37 ct37), sl37⟩)
    (c37 : PySem.W.codeIn K cd37 "_law_pick" = true)
    (k37 : PySem.W.keepIn K (.ref f37) = true)
    (a38 : PySem.W.nsIn K mainGlobals "_law_same" = some (some (.ref f38)))
    (l38 : K.lookup f38 = some ⟨oc38, od38, .func (PySem.W.fnOf "_law_same" "_law_same" (defArgs s_F__law_same) (defBody s_F__law_same) (defScope s_F__law_same) .none kV38 dc38 pm38 an38 cd38 ct38), sl38⟩)
    (c38 : PySem.W.codeIn K cd38 "_law_same" = true)
    (k38 : PySem.W.keepIn K (.ref f38) = true)
    (a39 : PySem.W.nsIn K mainGlobals "_law_words" = some (some (.ref f39)))
    (l39 : K.lookup f39 = some ⟨oc39, od39, .func (PySem.W.fnOf "_law_words" "_law_words" (defArgs s_F__law_words) (defBody s_F__law_words) (defScope s_F__law_words) .none kV39 dc39 pm39 an39 cd39 ct39), sl39⟩)
    (c39 : PySem.W.codeIn K cd39 "_law_words" = true)
    (k39 : PySem.W.keepIn K (.ref f39) = true)
    (a40 : PySem.W.nsIn K mainGlobals "_law_how" = some (some (.ref f40)))
    (l40 : K.lookup f40 = some ⟨oc40, od40, .func (PySem.W.fnOf "_law_how" "_law_how" (defArgs s_F__law_how) (defBody s_F__law_how) (defScope s_F__law_how) .none kV40 dc40 pm40 an40 cd40 ct40), sl40⟩)
    (c40 : PySem.W.codeIn K cd40 "_law_how" = true)
    (k40 : PySem.W.keepIn K (.ref f40) = true)
    (a41 : PySem.W.nsIn K mainGlobals "_law_term" = some (some (.ref f41)))
    (l41 : K.lookup f41 = some ⟨oc41, od41, .func (PySem.W.fnOf "_law_term" "_law_term" (defArgs s_F__law_term) (defBody s_F__law_term) (defScope s_F__law_term) .none kV41 dc41 pm41 an41 cd41 ct41), sl41⟩)
    (c41 : PySem.W.codeIn K cd41 "_law_term" = true)
    (k41 : PySem.W.keepIn K (.ref f41) = true)
    (a42 : PySem.W.nsIn K mainGlobals "_law_great_number" = some (some (.ref f42)))
    (l42 : K.lookup f42 = some ⟨oc42, od42, .func (PySem.W.fnOf "_law_great_number" "_law_great_number" (defArgs s_F__law_great_number) (defBody s_F__law_great_number) (defScope s_F__law_great_number) .none kV42 dc42 pm42 an42 cd42 ct42), sl42⟩)
    (c42 : PySem.W.codeIn K cd42 "_law_great_number" = true)
    (k42 : PySem.W.keepIn K (.ref f42) = true)
    (a43 : PySem.W.nsIn K mainGlobals "_law_text_value" = some (some (.ref f43)))
    (l43 : K.lookup f43 = some ⟨oc43, od43, .func (PySem.W.fnOf "_law_text_value" "_law_text_value" (defArgs s_F__law_text_value) (defBody s_F__law_text_value) (defScope s_F__law_text_value) .none kV43 dc43 pm43 an43 cd43 ct43), sl43⟩)
    (c43 : PySem.W.codeIn K cd43 "_law_text_value" = true)
    (k43 : PySem.W.keepIn K (.ref f43) = true)
    (a44 : PySem.W.nsIn K mainGlobals "_law_value_text" = some (some (.ref f44)))
    (l44 : K.lookup f44 = some ⟨oc44, od44, .func (PySem.W.fnOf "_law_value_text" "_law_value_text" (defArgs s_F__law_value_text) (defBody s_F__law_value_text) (defScope s_F__law_value_text) .none kV44 dc44 pm44 an44 cd44 ct44), sl44⟩)
    (c44 : PySem.W.codeIn K cd44 "_law_value_text" = true)
    (k44 : PySem.W.keepIn K (.ref f44) = true)
    (a45 : PySem.W.nsIn K mainGlobals "_law_between" = some (some (.ref f45)))
    (l45 : K.lookup f45 = some ⟨oc45, od45, .func (PySem.W.fnOf "_law_between" "_law_between" (defArgs s_F__law_between) (defBody s_F__law_between) (defScope s_F__law_between) .none kV45 dc45 pm45 an45 cd45 ct45), sl45⟩)
    (c45 : PySem.W.codeIn K cd45 "_law_between" = true)
    (k45 : PySem.W.keepIn K (.ref f45) = true)
    (a46 : PySem.W.nsIn K mainGlobals "_law_cells_texts" = some (some (.ref f46)))
    (l46 : K.lookup f46 = some ⟨oc46, od46, .func (PySem.W.fnOf "_law_cells_texts" "_law_cells_texts" (defArgs s_F__law_cells_texts) (defBody s_F__law_cells_texts) (defScope s_F__law_cells_texts) .none kV46 dc46 pm46 an46 cd46 ct46), sl46⟩)
    (c46 : PySem.W.codeIn K cd46 "_law_cells_texts" = true)
    (k46 : PySem.W.keepIn K (.ref f46) = true)
    (a47 : PySem.W.nsIn K mainGlobals "_law_line_text" = some (some (.ref f47)))
    (l47 : K.lookup f47 = some ⟨oc47, od47, .func (PySem.W.fnOf "_law_line_text" "_law_line_text" (defArgs s_F__law_line_text) (defBody s_F__law_line_text) (defScope s_F__law_line_text) .none kV47 dc47 pm47 an47 cd47 ct47), sl47⟩)
    (c47 : PySem.W.codeIn K cd47 "_law_line_text" = true)
    (k47 : PySem.W.keepIn K (.ref f47) = true)
    (a48 : PySem.W.nsIn K mainGlobals "_law_run" = some (some (.ref f48)))
    (l48 : K.lookup f48 = some ⟨oc48, od48, .func (PySem.W.fnOf "_law_run" "_law_run" (defArgs s_F__law_run) (defBody s_F__law_run) (defScope s_F__law_run) .none kV48 dc48 pm48 an48 cd48 ct48), sl48⟩)
    (c48 : PySem.W.codeIn K cd48 "_law_run" = true)
    (k48 : PySem.W.keepIn K (.ref f48) = true)
    (a49 : PySem.W.nsIn K mainGlobals "_law_token_end" = some (some (.ref f49)))
    (l49 : K.lookup f49 = some ⟨oc49, od49, .func (PySem.W.fnOf "_law_token_end" "_law_token_end" (defArgs s_F__law_token_end) (defBody s_F__law_token_end) (defScope s_F__law_token_end) .none kV49 dc49 pm49 an49 cd49 ct49), sl49⟩)
    (c49 : PySem.W.codeIn K cd49 "_law_token_end" = true)
    (k49 : PySem.W.keepIn K (.ref f49) = true)
    (a50 : PySem.W.nsIn K mainGlobals "_law_tokens" = some (some (.ref f50)))
    (l50 : K.lookup f50 = some ⟨oc50, od50, .func (PySem.W.fnOf "_law_tokens" "_law_tokens" (defArgs s_F__law_tokens) (defBody s_F__law_tokens) (defScope s_F__law_tokens) .none kV50 dc50 pm50 an50 cd50 ct50), sl50⟩)
    (c50 : PySem.W.codeIn K cd50 "_law_tokens" = true)
    (k50 : PySem.W.keepIn K (.ref f50) = true)
    (a51 : PySem.W.nsIn K mainGlobals "_law_loose" = some (some (.ref f51)))
    (l51 : K.lookup f51 = some ⟨oc51, od51, .func (PySem.W.fnOf "_law_loose" "_law_loose" (defArgs s_F__law_loose) (defBody s_F__law_loose) (defScope s_F__law_loose) .none kV51 dc51 pm51 an51 cd51 ct51), sl51⟩)
    (c51 : PySem.W.codeIn K cd51 "_law_loose" = true)
    (k51 : PySem.W.keepIn K (.ref f51) = true)
    (a52 : PySem.W.nsIn K mainGlobals "_law_text_words" = some (some (.ref f52)))
    (l52 : K.lookup f52 = some ⟨oc52, od52, .func (PySem.W.fnOf "_law_text_words" "_law_text_words" (defArgs s_F__law_text_words) (defBody s_F__law_text_words) (defScope s_F__law_text_words) .none kV52 dc52 pm52 an52 cd52 ct52), sl52⟩)
    (c52 : PySem.W.codeIn K cd52 "_law_text_words" = true)
    (k52 : PySem.W.keepIn K (.ref f52) = true)
    (a53 : PySem.W.nsIn K mainGlobals "_law_text_schema" = some (some (.ref f53)))
    (l53 : K.lookup f53 = some ⟨oc53, od53, .func (PySem.W.fnOf "_law_text_schema" "_law_text_schema" (defArgs s_F__law_text_schema) (defBody s_F__law_text_schema) (defScope s_F__law_text_schema) .none kV53 dc53 pm53 an53 cd53 ct53), sl53⟩)
    (c53 : PySem.W.codeIn K cd53 "_law_text_schema" = true)
    (k53 : PySem.W.keepIn K (.ref f53) = true)
    (a54 : PySem.W.nsIn K mainGlobals "_law_table" = some (some (.ref f54)))
    (l54 : K.lookup f54 = some ⟨oc54, od54, .func (PySem.W.fnOf "_law_table" "_law_table" (defArgs s_F__law_table) (defBody s_F__law_table) (defScope s_F__law_table) .none kV54 dc54 pm54 an54 cd54 ct54), sl54⟩)
    (c54 : PySem.W.codeIn K cd54 "_law_table" = true)
    (k54 : PySem.W.keepIn K (.ref f54) = true)
    (a55 : PySem.W.nsIn K mainGlobals "_law_term_text" = some (some (.ref f55)))
    (l55 : K.lookup f55 = some ⟨oc55, od55, .func (PySem.W.fnOf "_law_term_text" "_law_term_text" (defArgs s_F__law_term_text) (defBody s_F__law_term_text) (defScope s_F__law_term_text) .none kV55 dc55 pm55 an55 cd55 ct55), sl55⟩)
    (c55 : PySem.W.codeIn K cd55 "_law_term_text" = true)
    (k55 : PySem.W.keepIn K (.ref f55) = true)
    (a56 : PySem.W.nsIn K mainGlobals "_law_atom_texts" = some (some (.ref f56)))
    (l56 : K.lookup f56 = some ⟨oc56, od56, .func (PySem.W.fnOf "_law_atom_texts" "_law_atom_texts" (defArgs s_F__law_atom_texts) (defBody s_F__law_atom_texts) (defScope s_F__law_atom_texts) .none kV56 dc56 pm56 an56 cd56 ct56), sl56⟩)
    (c56 : PySem.W.codeIn K cd56 "_law_atom_texts" = true)
    (k56 : PySem.W.keepIn K (.ref f56) = true)
    (a57 : PySem.W.nsIn K mainGlobals "_law_rule_texts" = some (some (.ref f57)))
    (l57 : K.lookup f57 = some ⟨oc57, od57, .func (PySem.W.fnOf "_law_rule_texts" "_law_rule_texts" (defArgs s_F__law_rule_texts) (defBody s_F__law_rule_texts) (defScope s_F__law_rule_texts) .none kV57 dc57 pm57 an57 cd57 ct57), sl57⟩)
    (c57 : PySem.W.codeIn K cd57 "_law_rule_texts" = true)
    (k57 : PySem.W.keepIn K (.ref f57) = true)
    (a58 : PySem.W.nsIn K mainGlobals "_law_text_how" = some (some (.ref f58)))
    (l58 : K.lookup f58 = some ⟨oc58, od58, .func (PySem.W.fnOf "_law_text_how" "_law_text_how" (defArgs s_F__law_text_how) (defBody s_F__law_text_how) (defScope s_F__law_text_how) .none kV58 dc58 pm58 an58 cd58 ct58), sl58⟩)
    (c58 : PySem.W.codeIn K cd58 "_law_text_how" = true)
    (k58 : PySem.W.keepIn K (.ref f58) = true)
    (a59 : PySem.W.nsIn K mainGlobals "_law_text_literal" = some (some (.ref f59)))
    (l59 : K.lookup f59 = some ⟨oc59, od59, .func (PySem.W.fnOf "_law_text_literal" "_law_text_literal" (defArgs s_F__law_text_literal) (defBody s_F__law_text_literal) (defScope s_F__law_text_literal) .none kV59 dc59 pm59 an59 cd59 ct59), sl59⟩)
    (c59 : PySem.W.codeIn K cd59 "_law_text_literal" = true)
    (k59 : PySem.W.keepIn K (.ref f59) = true)
    (a60 : PySem.W.nsIn K mainGlobals "_law_text_rule" = some (some (.ref f60)))
    (l60 : K.lookup f60 = some ⟨oc60, od60, .func (PySem.W.fnOf "_law_text_rule" "_law_text_rule" (defArgs s_F__law_text_rule) (defBody s_F__law_text_rule) (defScope s_F__law_text_rule) .none kV60 dc60 pm60 an60 cd60 ct60), sl60⟩)
    (c60 : PySem.W.codeIn K cd60 "_law_text_rule" = true)
    (k60 : PySem.W.keepIn K (.ref f60) = true)
    (a61 : PySem.W.nsIn K mainGlobals "_law_read" = some (some (.ref f61)))
    (l61 : K.lookup f61 = some ⟨oc61, od61, .func (PySem.W.fnOf "_law_read" "_law_read" (defArgs s_F__law_read) (defBody s_F__law_read) (defScope s_F__law_read) .none kV61 dc61 pm61 an61 cd61 ct61), sl61⟩)
    (c61 : PySem.W.codeIn K cd61 "_law_read" = true)
    (k61 : PySem.W.keepIn K (.ref f61) = true)
    (a62 : PySem.W.nsIn K mainGlobals "law" = some (some (.ref f62)))
    (l62 : K.lookup f62 = some ⟨oc62, od62, .func (PySem.W.fnOf "law" "law" (defArgs s_F_law) (defBody s_F_law) (defScope s_F_law) .none kV62 dc62 pm62 an62 cd62 ct62), sl62⟩)
    (c62 : PySem.W.codeIn K cd62 "law" = true)
    (k62 : PySem.W.keepIn K (.ref f62) = true) :
    ∃ fd : FuncData, (∀ (s : Shared) (v : Value), BindsTo s fd ⟨[v], []⟩ [("script", v)]) ∧ ∀ base : Heap, K.In base → base.Ns mainGlobals mg → FnOk l.prog w K mg base (L2.CX l.prog w) 14 fa fd ["script"] (spLaw K) := by
  have e := hfa.symm.trans (PySem.W.mg_of X G a62)
  cases e
  have gLine := PySem.W.mg_of X G aLine
  have clLine : Cls K CLine := ⟨pgLine, hdLine, poLine, saLine⟩
  have ct_Line : CT K mg "Line" ["number", "tokens", "many"] := ⟨_, gLine, clLine, by intro f hf; rcases List.mem_cons.mp hf with rfl | hf; exact nLine_number; rcases List.mem_cons.mp hf with rfl | hf; exact nLine_tokens; rcases List.mem_cons.mp hf with rfl | hf; exact nLine_many; cases hf⟩
  have gd_DIGITS : GD K mg "DIGITS" d_DIGITS := gd_str (PySem.W.mg_of X G aDIGITS)
  have gd_SIGNS : GD K mg "SIGNS" d_SIGNS := gd_str (PySem.W.mg_of X G aSIGNS)
  have gd_LETTERS : GD K mg "LETTERS" d_LETTERS := gd_str (PySem.W.mg_of X G aLETTERS)
  have gd_HOWS : GD K mg "HOWS" d_HOWS := gd_tup (cs := [[97, 103, 111], [97, 104, 101, 97, 100], [111, 110, 99, 101], [115, 111, 111, 110], [97, 108, 119, 97, 121, 115], [104, 101, 110, 99, 101, 102, 111, 114, 116, 104]]) (PySem.W.mg_of X G aHOWS) lHOWS (.cons (by decide +kernel) (.cons (by decide +kernel) (.cons (by decide +kernel) (.cons (by decide +kernel) (.cons (by decide +kernel) (.cons (by decide +kernel) .nil)))))) (by decide)
  have gd_BOUNDED : GD K mg "BOUNDED" d_BOUNDED := gd_tup (cs := [[97, 103, 111], [97, 104, 101, 97, 100]]) (PySem.W.mg_of X G aBOUNDED) lBOUNDED (.cons (by decide +kernel) (.cons (by decide +kernel) .nil)) (by decide)
  have gd_TESTS : GD K mg "TESTS" d_TESTS := gd_tup (cs := [[108, 101, 115, 115], [117, 110, 108, 105, 107, 101]]) (PySem.W.mg_of X G aTESTS) lTESTS (.cons (by decide +kernel) (.cons (by decide +kernel) .nil)) (by decide)
  have z : Z mg := ⟨PySem.W.mg_none_of X G zlen, PySem.W.mg_none_of X G zint, PySem.W.mg_none_of X G zrange, PySem.W.mg_none_of X G ztuple, PySem.W.mg_none_of X G zisinstance, PySem.W.mg_none_of X G zstr, PySem.W.mg_none_of X G zlist, PySem.W.mg_none_of X G zbool, PySem.W.mg_none_of X G zmax, PySem.W.mg_none_of X G zsorted, PySem.W.mg_none_of X G zmin, PySem.W.mg_none_of X G zabs⟩
  refine ⟨PySem.W.fnOf "law" "law" (defArgs s_F_law) (defBody s_F_law) (defScope s_F_law) .none kV62 dc62 pm62 an62 cd62 ct62, fun s v => .of_eq rfl, fun base _ _ => ?_⟩
  have G0 := fun_mk (st := s_F_table_of) l0 c0 k0
  have b0 := G0.binds (ps := ["schema", "name"]) fun _ _ _ _ _ _ us hl => match us, hl with | [_, _], _ => rfl
  have t_table_of := w_F_table_of (P := l.prog) (w := w) (base := base) G0 (PySem.W.mg_of X G a0) b0 z
  have G1 := fun_mk (st := s_F_run_end) l1 c1 k1
  have b1 := G1.binds (ps := ["line", "at", "chars"]) fun _ _ _ _ _ _ us hl => match us, hl with | [_, _, _], _ => rfl
  have t_run_end := w_F_run_end (P := l.prog) (w := w) (base := base) G1 (PySem.W.mg_of X G a1) b1 z
  have G2 := fun_mk (st := s_F_integer_at) l2 c2 k2
  have b2 := G2.binds (ps := ["line", "at"]) fun _ _ _ _ _ _ us hl => match us, hl with | [_, _], _ => rfl
  have t_integer_at := w_F_integer_at (P := l.prog) (w := w) (base := base) G2 (PySem.W.mg_of X G a2) b2 z gd_DIGITS t_run_end
  have G3 := fun_mk (st := s_F_token_at) l3 c3 k3
  have b3 := G3.binds (ps := ["line", "at"]) fun _ _ _ _ _ _ us hl => match us, hl with | [_, _], _ => rfl
  have t_token_at := w_F_token_at (P := l.prog) (w := w) (base := base) G3 (PySem.W.mg_of X G a3) b3 z gd_SIGNS gd_LETTERS t_run_end t_integer_at
  have G4 := fun_mk (st := s_F_tokens_of) l4 c4 k4
  have b4 := G4.binds (ps := ["line"]) fun _ _ _ _ _ _ us hl => match us, hl with | [_], _ => rfl
  have t_tokens_of := w_F_tokens_of (P := l.prog) (w := w) (base := base) G4 (PySem.W.mg_of X G a4) b4 z t_run_end t_token_at
  have G5 := fun_mk (st := s_F_Line___init__) l5 c5 k5
  have b5 := G5.binds (ps := ["self", "text", "number"]) fun _ _ _ _ _ _ us hl => match us, hl with | [_, _, _], _ => rfl
  have kt_Line := w_F_Line___init__ (P := l.prog) (w := w) (base := base) G5 gLine ⟨mkLine, a5, i5, kcLine⟩ b5 z ct_Line t_tokens_of
  have G6 := fun_mk (st := s_F_Line_kind) l6 c6 k6
  have b6 := G6.binds (ps := ["self"]) fun _ _ _ _ _ _ us hl => match us, hl with | [_], _ => rfl
  have mt_Line_kind := w_F_Line_kind (P := l.prog) (w := w) (base := base) G6 gLine clLine ⟨a6, i6, k6⟩ b6 z ct_Line
  have G7 := fun_mk (st := s_F_Line_value) l7 c7 k7
  have b7 := G7.binds (ps := ["self"]) fun _ _ _ _ _ _ us hl => match us, hl with | [_], _ => rfl
  have mt_Line_value := w_F_Line_value (P := l.prog) (w := w) (base := base) G7 gLine clLine ⟨a7, i7, k7⟩ b7 z ct_Line
  have G8 := fun_mk (st := s_F_Line_word) l8 c8 k8
  have b8 := G8.binds (ps := ["self"]) fun _ _ _ _ _ _ us hl => match us, hl with | [_], _ => rfl
  have mt_Line_word := w_F_Line_word (P := l.prog) (w := w) (base := base) G8 gLine clLine ⟨a8, i8, k8⟩ b8 z mt_Line_kind mt_Line_value
  have G9 := fun_mk (st := s_F_Line_behind) l9 c9 k9
  have b9 := G9.binds (ps := ["self"]) fun _ _ _ _ _ _ us hl => match us, hl with | [_], _ => rfl
  have mt_Line_behind := w_F_Line_behind (P := l.prog) (w := w) (base := base) G9 gLine clLine ⟨a9, i9, k9⟩ b9 z ct_Line
  have G10 := fun_mk (st := s_F_Line_refuse) l10 c10 k10
  have b10 := G10.binds (ps := ["self"]) fun _ _ _ _ _ _ us hl => match us, hl with | [_], _ => rfl
  have mt_Line_refuse := w_F_Line_refuse (P := l.prog) (w := w) (base := base) G10 gLine clLine ⟨a10, i10, k10⟩ b10 z
  have G11 := fun_mk (st := s_F_Line_take) l11 c11 k11
  have b11 := G11.binds (ps := ["self", "kind"]) fun _ _ _ _ _ _ us hl => match us, hl with | [_, _], _ => rfl
  have mt_Line_take := w_F_Line_take (P := l.prog) (w := w) (base := base) G11 gLine clLine ⟨a11, i11, k11⟩ b11 z ct_Line mt_Line_kind mt_Line_refuse mt_Line_value
  have G12 := fun_mk (st := s_F_Line_take_one) l12 c12 k12
  have b12 := G12.binds (ps := ["self", "words"]) fun _ _ _ _ _ _ us hl => match us, hl with | [_, _], _ => rfl
  have mt_Line_take_one := w_F_Line_take_one (P := l.prog) (w := w) (base := base) G12 gLine clLine ⟨a12, i12, k12⟩ b12 z mt_Line_word mt_Line_refuse mt_Line_take
  have G13 := fun_mk (st := s_F_Line_take_integer) l13 c13 k13
  have b13 := G13.binds (ps := ["self", "least"]) fun _ _ _ _ _ _ us hl => match us, hl with | [_, _], _ => rfl
  have mt_Line_take_integer := w_F_Line_take_integer (P := l.prog) (w := w) (base := base) G13 gLine clLine ⟨a13, i13, k13⟩ b13 z mt_Line_kind mt_Line_value mt_Line_refuse mt_Line_take
  have G14 := fun_mk (st := s_F_Line_take_value) l14 c14 k14
  have b14 := G14.binds (ps := ["self"]) fun _ _ _ _ _ _ us hl => match us, hl with | [_], _ => rfl
  have mt_Line_take_value := w_F_Line_take_value (P := l.prog) (w := w) (base := base) G14 gLine clLine ⟨a14, i14, k14⟩ b14 z mt_Line_kind mt_Line_refuse mt_Line_take
  have G15 := fun_mk (st := s_F_Line_take_term) l15 c15 k15
  have b15 := G15.binds (ps := ["self"]) fun _ _ _ _ _ _ us hl => match us, hl with | [_], _ => rfl
  have mt_Line_take_term := w_F_Line_take_term (P := l.prog) (w := w) (base := base) G15 gLine clLine ⟨a15, i15, k15⟩ b15 z mt_Line_kind mt_Line_take mt_Line_take_value
  have G16 := fun_mk (st := s_F_take_term) l16 c16 k16
  have b16 := G16.binds (ps := ["line"]) fun _ _ _ _ _ _ us hl => match us, hl with | [_], _ => rfl
  have t_take_term := w_F_take_term (P := l.prog) (w := w) (base := base) G16 (PySem.W.mg_of X G a16) b16 z mt_Line_take_term
  have G17 := fun_mk (st := s_F_take_places) l17 c17 k17
  have b17 := G17.binds (ps := ["line", "count", "take_place"]) fun _ _ _ _ _ _ us hl => match us, hl with | [_, _, _], _ => rfl
  have t_take_places := w_F_take_places (P := l.prog) (w := w) (base := base) G17 (PySem.W.mg_of X G a17) b17 z t_take_term mt_Line_take (held_cons t_take_term (by decide) held_nil)
  have G18 := fun_mk (st := s_F_take_cells) l18 c18 k18
  have b18 := G18.binds (ps := ["line", "table", "take_place"]) fun _ _ _ _ _ _ us hl => match us, hl with | [_, _, _], _ => rfl
  have t_take_cells := w_F_take_cells (P := l.prog) (w := w) (base := base) G18 (PySem.W.mg_of X G a18) b18 z t_take_places mt_Line_take
  have G19 := fun_mk (st := s_F_take_plain) l19 c19 k19
  have b19 := G19.binds (ps := ["line"]) fun _ _ _ _ _ _ us hl => match us, hl with | [_], _ => rfl
  have t_take_plain := w_F_take_plain (P := l.prog) (w := w) (base := base) G19 (PySem.W.mg_of X G a19) b19 z mt_Line_take mt_Line_kind mt_Line_take_term
  have G20 := fun_mk (st := s_F_take_atom) l20 c20 k20
  have b20 := G20.binds (ps := ["line", "schema", "how"]) fun _ _ _ _ _ _ us hl => match us, hl with | [_, _, _], _ => rfl
  have t_take_atom := w_F_take_atom (P := l.prog) (w := w) (base := base) G20 (PySem.W.mg_of X G a20) b20 z t_table_of t_take_plain t_take_term t_take_cells mt_Line_take
  have G21 := fun_mk (st := s_F_take_how) l21 c21 k21
  have b21 := G21.binds (ps := ["line"]) fun _ _ _ _ _ _ us hl => match us, hl with | [_], _ => rfl
  have t_take_how := w_F_take_how (P := l.prog) (w := w) (base := base) G21 (PySem.W.mg_of X G a21) b21 z gd_HOWS gd_BOUNDED mt_Line_take mt_Line_refuse mt_Line_kind mt_Line_take_integer
  have G22 := fun_mk (st := s_F_take_test) l22 c22 k22
  have b22 := G22.binds (ps := ["line"]) fun _ _ _ _ _ _ us hl => match us, hl with | [_], _ => rfl
  have t_take_test := w_F_take_test (P := l.prog) (w := w) (base := base) G22 (PySem.W.mg_of X G a22) b22 z gd_TESTS mt_Line_take_term mt_Line_take_one
  have G23 := fun_mk (st := s_F_take_literal) l23 c23 k23
  have b23 := G23.binds (ps := ["line", "schema"]) fun _ _ _ _ _ _ us hl => match us, hl with | [_, _], _ => rfl
  have t_take_literal := w_F_take_literal (P := l.prog) (w := w) (base := base) G23 (PySem.W.mg_of X G a23) b23 z t_take_test t_take_atom t_take_how mt_Line_kind mt_Line_behind
  have G24 := fun_mk (st := s_F_take_body) l24 c24 k24
  have b24 := G24.binds (ps := ["line", "schema"]) fun _ _ _ _ _ _ us hl => match us, hl with | [_, _], _ => rfl
  have t_take_body := w_F_take_body (P := l.prog) (w := w) (base := base) G24 (PySem.W.mg_of X G a24) b24 z t_take_literal mt_Line_word mt_Line_behind mt_Line_take mt_Line_kind
  have G25 := fun_mk (st := s_F_take_rule) l25 c25 k25
  have b25 := G25.binds (ps := ["line", "schema"]) fun _ _ _ _ _ _ us hl => match us, hl with | [_, _], _ => rfl
  have t_take_rule := w_F_take_rule (P := l.prog) (w := w) (base := base) G25 (PySem.W.mg_of X G a25) b25 z t_table_of t_take_plain t_take_body mt_Line_word mt_Line_refuse mt_Line_take mt_Line_take_one
  have G26 := fun_mk (st := s_F_read_rule) l26 c26 k26
  have b26 := G26.binds (ps := ["schema", "text"]) fun _ _ _ _ _ _ us hl => match us, hl with | [_, _], _ => rfl
  have t_read_rule := w_F_read_rule (P := l.prog) (w := w) (base := base) G26 (PySem.W.mg_of X G a26) b26 z t_take_rule mt_Line_take kt_Line
  have G27 := fun_mk (st := s_F_write_value) l27 c27 k27
  have b27 := G27.binds (ps := ["value"]) fun _ _ _ _ _ _ us hl => match us, hl with | [_], _ => rfl
  have t_write_value := w_F_write_value (P := l.prog) (w := w) (base := base) G27 (PySem.W.mg_of X G a27) b27 z
  have G28 := fun_mk (st := s_F_write_cells) l28 c28 k28
  have b28 := G28.binds (ps := ["name", "key", "others"]) fun _ _ _ _ _ _ us hl => match us, hl with | [_, _, _], _ => rfl
  have t_write_cells := w_F_write_cells (P := l.prog) (w := w) (base := base) G28 (PySem.W.mg_of X G a28) b28 z
  have G29 := fun_mk (st := s_F_write_term) l29 c29 k29
  have b29 := G29.binds (ps := ["term"]) fun _ _ _ _ _ _ us hl => match us, hl with | [_], _ => rfl
  have t_write_term := w_F_write_term (P := l.prog) (w := w) (base := base) G29 (PySem.W.mg_of X G a29) b29 z t_write_value
  have G30 := fun_mk (st := s_F_write_plain) l30 c30 k30
  have b30 := G30.binds (ps := ["name", "terms"]) fun _ _ _ _ _ _ us hl => match us, hl with | [_, _], _ => rfl
  have t_write_plain := w_F_write_plain (P := l.prog) (w := w) (base := base) G30 (PySem.W.mg_of X G a30) b30 z t_write_term
  have G31 := fun_mk (st := s_F_write_how) l31 c31 k31
  have b31 := G31.binds (ps := ["how"]) fun _ _ _ _ _ _ us hl => match us, hl with | [_], _ => rfl
  have t_write_how := w_F_write_how (P := l.prog) (w := w) (base := base) G31 (PySem.W.mg_of X G a31) b31 z
  have G32 := fun_mk (st := s_F_write_atom) l32 c32 k32
  have b32 := G32.binds (ps := ["schema", "atom"]) fun _ _ _ _ _ _ us hl => match us, hl with | [_, _], _ => rfl
  have t_write_atom := w_F_write_atom (P := l.prog) (w := w) (base := base) G32 (PySem.W.mg_of X G a32) b32 z t_table_of t_write_how t_write_plain t_write_term t_write_cells
  have G33 := fun_mk (st := s_F_write_literal) l33 c33 k33
  have b33 := G33.binds (ps := ["schema", "literal"]) fun _ _ _ _ _ _ us hl => match us, hl with | [_, _], _ => rfl
  have t_write_literal := w_F_write_literal (P := l.prog) (w := w) (base := base) G33 (PySem.W.mg_of X G a33) b33 z t_write_atom t_write_term
  have G34 := fun_mk (st := s_F_write_rule) l34 c34 k34
  have b34 := G34.binds (ps := ["schema", "rule"]) fun _ _ _ _ _ _ us hl => match us, hl with | [_, _], _ => rfl
  have t_write_rule := w_F_write_rule (P := l.prog) (w := w) (base := base) G34 (PySem.W.mg_of X G a34) b34 z t_write_literal t_write_plain
  have G35 := fun_mk (st := s_F__law_draws) l35 c35 k35
  have b35 := G35.binds (ps := ["script", "many"]) fun _ _ _ _ _ _ us hl => match us, hl with | [_, _], _ => rfl
  have t__law_draws := w_F__law_draws (P := l.prog) (w := w) (base := base) G35 (PySem.W.mg_of X G a35) b35 z
  have G36 := fun_mk (st := s_F__law_take) l36 c36 k36
  have b36 := G36.binds (ps := ["draws", "many"]) fun _ _ _ _ _ _ us hl => match us, hl with | [_, _], _ => rfl
  have t__law_take := w_F__law_take (P := l.prog) (w := w) (base := base) G36 (PySem.W.mg_of X G a36) b36 z
  have G37 := fun_mk (st := s_F__law_pick) l37 c37 k37
  have b37 := G37.binds (ps := ["draws", "row"]) fun _ _ _ _ _ _ us hl => match us, hl with | [_, _], _ => rfl
  have t__law_pick := w_F__law_pick (P := l.prog) (w := w) (base := base) G37 (PySem.W.mg_of X G a37) b37 z t__law_take
  have G38 := fun_mk (st := s_F__law_same) l38 c38 k38
  have b38 := G38.binds (ps := ["actual", "due"]) fun _ _ _ _ _ _ us hl => match us, hl with | [_, _], _ => rfl
  have t__law_same := w_F__law_same (P := l.prog) (w := w) (base := base) G38 (PySem.W.mg_of X G a38) b38 z 8
  have G39 := fun_mk (st := s_F__law_words) l39 c39 k39
  have b39 := G39.binds (ps := ["draws", "many"]) fun _ _ _ _ _ _ us hl => match us, hl with | [_, _], _ => rfl
  have t__law_words := w_F__law_words (P := l.prog) (w := w) (base := base) G39 (PySem.W.mg_of X G a39) b39 z t__law_take
  have G40 := fun_mk (st := s_F__law_how) l40 c40 k40
  have b40 := G40.binds (ps := ["draws"]) fun _ _ _ _ _ _ us hl => match us, hl with | [_], _ => rfl
  have t__law_how := w_F__law_how (P := l.prog) (w := w) (base := base) G40 (PySem.W.mg_of X G a40) b40 z t__law_take
  have G41 := fun_mk (st := s_F__law_term) l41 c41 k41
  have b41 := G41.binds (ps := ["draws", "variables", "values"]) fun _ _ _ _ _ _ us hl => match us, hl with | [_, _, _], _ => rfl
  have t__law_term := w_F__law_term (P := l.prog) (w := w) (base := base) G41 (PySem.W.mg_of X G a41) b41 z t__law_take t__law_pick
  have G42 := fun_mk (st := s_F__law_great_number) l42 c42 k42
  have b42 := G42.binds (ps := ["draws"]) fun _ _ _ _ _ _ us hl => match us, hl with | [_], _ => rfl
  have t__law_great_number := w_F__law_great_number (P := l.prog) (w := w) (base := base) G42 (PySem.W.mg_of X G a42) b42 z t__law_take
  have G43 := fun_mk (st := s_F__law_text_value) l43 c43 k43
  have b43 := G43.binds (ps := ["draws", "words"]) fun _ _ _ _ _ _ us hl => match us, hl with | [_, _], _ => rfl
  have t__law_text_value := w_F__law_text_value (P := l.prog) (w := w) (base := base) G43 (PySem.W.mg_of X G a43) b43 z t__law_take t__law_pick t__law_great_number
  have G44 := fun_mk (st := s_F__law_value_text) l44 c44 k44
  have b44 := G44.binds (ps := ["value"]) fun _ _ _ _ _ _ us hl => match us, hl with | [_], _ => rfl
  have t__law_value_text := w_F__law_value_text (P := l.prog) (w := w) (base := base) G44 (PySem.W.mg_of X G a44) b44 z
  have G45 := fun_mk (st := s_F__law_between) l45 c45 k45
  have b45 := G45.binds (ps := ["texts", "sign"]) fun _ _ _ _ _ _ us hl => match us, hl with | [_, _], _ => rfl
  have t__law_between := w_F__law_between (P := l.prog) (w := w) (base := base) G45 (PySem.W.mg_of X G a45) b45 z
  have G46 := fun_mk (st := s_F__law_cells_texts) l46 c46 k46
  have b46 := G46.binds (ps := ["name", "cells", "key"]) fun _ _ _ _ _ _ us hl => match us, hl with | [_, _, _], _ => rfl
  have t__law_cells_texts := w_F__law_cells_texts (P := l.prog) (w := w) (base := base) G46 (PySem.W.mg_of X G a46) b46 z t__law_between
  have G47 := fun_mk (st := s_F__law_line_text) l47 c47 k47
  have b47 := G47.binds (ps := ["tokens"]) fun _ _ _ _ _ _ us hl => match us, hl with | [_], _ => rfl
  have t__law_line_text := w_F__law_line_text (P := l.prog) (w := w) (base := base) G47 (PySem.W.mg_of X G a47) b47 z
  have G48 := fun_mk (st := s_F__law_run) l48 c48 k48
  have b48 := G48.binds (ps := ["line", "at", "chars"]) fun _ _ _ _ _ _ us hl => match us, hl with | [_, _, _], _ => rfl
  have t__law_run := w_F__law_run (P := l.prog) (w := w) (base := base) G48 (PySem.W.mg_of X G a48) b48 z
  have G49 := fun_mk (st := s_F__law_token_end) l49 c49 k49
  have b49 := G49.binds (ps := ["line", "at"]) fun _ _ _ _ _ _ us hl => match us, hl with | [_, _], _ => rfl
  have t__law_token_end := w_F__law_token_end (P := l.prog) (w := w) (base := base) G49 (PySem.W.mg_of X G a49) b49 z t__law_run
  have G50 := fun_mk (st := s_F__law_tokens) l50 c50 k50
  have b50 := G50.binds (ps := ["line"]) fun _ _ _ _ _ _ us hl => match us, hl with | [_], _ => rfl
  have t__law_tokens := w_F__law_tokens (P := l.prog) (w := w) (base := base) G50 (PySem.W.mg_of X G a50) b50 z t__law_run t__law_token_end
  have G51 := fun_mk (st := s_F__law_loose) l51 c51 k51
  have b51 := G51.binds (ps := ["draws", "texts"]) fun _ _ _ _ _ _ us hl => match us, hl with | [_, _], _ => rfl
  have t__law_loose := w_F__law_loose (P := l.prog) (w := w) (base := base) G51 (PySem.W.mg_of X G a51) b51 z t__law_take t__law_tokens
  have G52 := fun_mk (st := s_F__law_text_words) l52 c52 k52
  have b52 := G52.binds (ps := ["draws", "many"]) fun _ _ _ _ _ _ us hl => match us, hl with | [_, _], _ => rfl
  have t__law_text_words := w_F__law_text_words (P := l.prog) (w := w) (base := base) G52 (PySem.W.mg_of X G a52) b52 z t__law_words t__law_pick t__law_take
  have G53 := fun_mk (st := s_F__law_text_schema) l53 c53 k53
  have b53 := G53.binds (ps := ["draws", "names"]) fun _ _ _ _ _ _ us hl => match us, hl with | [_, _], _ => rfl
  have t__law_text_schema := w_F__law_text_schema (P := l.prog) (w := w) (base := base) G53 (PySem.W.mg_of X G a53) b53 z t__law_take
  have G54 := fun_mk (st := s_F__law_table) l54 c54 k54
  have b54 := G54.binds (ps := ["schema", "name"]) fun _ _ _ _ _ _ us hl => match us, hl with | [_, _], _ => rfl
  have t__law_table := w_F__law_table (P := l.prog) (w := w) (base := base) G54 (PySem.W.mg_of X G a54) b54 z
  have G55 := fun_mk (st := s_F__law_term_text) l55 c55 k55
  have b55 := G55.binds (ps := ["term"]) fun _ _ _ _ _ _ us hl => match us, hl with | [_], _ => rfl
  have t__law_term_text := w_F__law_term_text (P := l.prog) (w := w) (base := base) G55 (PySem.W.mg_of X G a55) b55 z t__law_value_text
  have G56 := fun_mk (st := s_F__law_atom_texts) l56 c56 k56
  have b56 := G56.binds (ps := ["schema", "atom"]) fun _ _ _ _ _ _ us hl => match us, hl with | [_, _], _ => rfl
  have t__law_atom_texts := w_F__law_atom_texts (P := l.prog) (w := w) (base := base) G56 (PySem.W.mg_of X G a56) b56 z t__law_term_text t__law_table t__law_cells_texts
  have G57 := fun_mk (st := s_F__law_rule_texts) l57 c57 k57
  have b57 := G57.binds (ps := ["schema", "rule"]) fun _ _ _ _ _ _ us hl => match us, hl with | [_, _], _ => rfl
  have t__law_rule_texts := w_F__law_rule_texts (P := l.prog) (w := w) (base := base) G57 (PySem.W.mg_of X G a57) b57 z t__law_term_text t__law_cells_texts t__law_atom_texts
  have G58 := fun_mk (st := s_F__law_text_how) l58 c58 k58
  have b58 := G58.binds (ps := ["draws"]) fun _ _ _ _ _ _ us hl => match us, hl with | [_], _ => rfl
  have t__law_text_how := w_F__law_text_how (P := l.prog) (w := w) (base := base) G58 (PySem.W.mg_of X G a58) b58 z t__law_how t__law_take t__law_great_number
  have G59 := fun_mk (st := s_F__law_text_literal) l59 c59 k59
  have b59 := G59.binds (ps := ["draws", "schema", "names", "words", "atoms"]) fun _ _ _ _ _ _ us hl => match us, hl with | [_, _, _, _, _], _ => rfl
  have t__law_text_literal := w_F__law_text_literal (P := l.prog) (w := w) (base := base) G59 (PySem.W.mg_of X G a59) b59 z t__law_pick t__law_text_value t__law_term t__law_take t__law_text_how
  have G60 := fun_mk (st := s_F__law_text_rule) l60 c60 k60
  have b60 := G60.binds (ps := ["draws", "schema", "names", "words", "most"]) fun _ _ _ _ _ _ us hl => match us, hl with | [_, _, _, _, _], _ => rfl
  have t__law_text_rule := w_F__law_text_rule (P := l.prog) (w := w) (base := base) G60 (PySem.W.mg_of X G a60) b60 z t__law_take t__law_text_literal t__law_pick t__law_text_value t__law_term
  have G61 := fun_mk (st := s_F__law_read) l61 c61 k61
  have b61 := G61.binds (ps := ["schema", "text"]) fun _ _ _ _ _ _ us hl => match us, hl with | [_, _], _ => rfl
  have t__law_read := w_F__law_read (P := l.prog) (w := w) (base := base) G61 (PySem.W.mg_of X G a61) b61 z t_read_rule
  have G62 := fun_mk (st := s_F_law) l62 c62 k62
  have b62 := G62.binds (ps := ["script"]) fun _ _ _ _ _ _ us hl => match us, hl with | [_], _ => rfl
  exact law_imp (w_F_law (P := l.prog) (w := w) (base := base) G62 z t__law_draws t__law_text_words t__law_take t__law_text_schema t__law_text_rule t__law_rule_texts t__law_line_text t_write_rule t__law_same t__law_loose t__law_read) LW.plain
end LW
open PySem PySem.W PyProof.Rows
theorem PySem.Challenge.cw_doubtbook_k83_rules_read_back_holds : PySem.Challenge.rw_doubtbook_k83_rules_read_back.Holds := by
  w_on; o_law; k_head; (case hw => w_witness2)
  k_fill
  refine L2.walk_of (l := PySem.Challenge.rw_doubtbook_k83_rules_read_back) (n := 63) (k := 14) (x := "script") (CX := fun w => L2.CX PySem.Challenge.rw_doubtbook_k83_rules_read_back.prog w) (sp := fun w => Dl.spLaw _) rfl (by decide) rfl ⟨rfl, by decide, by decide⟩ (fun w h Y => PySem.W.kIn_of Y) ?F (fun _ _ a ns hl hO hS => ⟨a, ns, rfl, hS, hO, hl, fun _ => rfl⟩) (fun _ _ _ _ _ h => Dl.cx_none h)
  case F =>
    intro w mg fa h KX G hmg
    refine' LW.all_mk KX G hmg ?aLine ?pgLine ?hdLine ?poLine ?saLine ?kcLine ?mkLine ?nLine_number ?nLine_tokens ?nLine_many ?aDIGITS ?aSIGNS ?aLETTERS ?aHOWS ?lHOWS ?aBOUNDED ?lBOUNDED ?aTESTS ?lTESTS ?zlen ?zint ?zrange ?ztuple ?zisinstance ?zstr ?zlist ?zbool ?zmax ?zsorted ?zmin ?zabs ?a0 ?l0 ?c0 ?k0 ?a1 ?l1 ?c1 ?k1 ?a2 ?l2 ?c2 ?k2 ?a3 ?l3 ?c3 ?k3 ?a4 ?l4 ?c4 ?k4 ?a5 ?i5 ?l5 ?c5 ?k5 ?a6 ?i6 ?l6 ?c6 ?k6 ?a7 ?i7 ?l7 ?c7 ?k7 ?a8 ?i8 ?l8 ?c8 ?k8 ?a9 ?i9 ?l9 ?c9 ?k9 ?a10 ?i10 ?l10 ?c10 ?k10 ?a11 ?i11 ?l11 ?c11 ?k11 ?a12 ?i12 ?l12 ?c12 ?k12 ?a13 ?i13 ?l13 ?c13 ?k13 ?a14 ?i14 ?l14 ?c14 ?k14 ?a15 ?i15 ?l15 ?c15 ?k15 ?a16 ?l16 ?c16 ?k16 ?a17 ?l17 ?c17 ?k17 ?a18 ?l18 ?c18 ?k18 ?a19 ?l19 ?c19 ?k19 ?a20 ?l20 ?c20 ?k20 ?a21 ?l21 ?c21 ?k21 ?a22 ?l22 ?c22 ?k22 ?a23 ?l23 ?c23 ?k23 ?a24 ?l24 ?c24 ?k24 ?a25 ?l25 ?c25 ?k25 ?a26 ?l26 ?c26 ?k26 ?a27 ?l27 ?c27 ?k27 ?a28 ?l28 ?c28 ?k28 ?a29 ?l29 ?c29 ?k29 ?a30 ?l30 ?c30 ?k30 ?a31 ?l31 ?c31 ?k31 ?a32 ?l32 ?c32 ?k32 ?a33 ?l33 ?c33 ?k33 ?a34 ?l34 ?c34 ?k34 ?a35 ?l35 ?c35 ?k35 ?a36 ?l36 ?c36 ?k36 ?a37 ?l37 ?c37 ?k37 ?a38 ?l38 ?c38 ?k38 ?a39 ?l39 ?c39 ?k39 ?a40 ?l40 ?c40 ?k40 ?a41 ?l41 ?c41 ?k41 ?a42 ?l42 ?c42 ?k42 ?a43 ?l43 ?c43 ?k43 ?a44 ?l44 ?c44 ?k44 ?a45 ?l45 ?c45 ?k45 ?a46 ?l46 ?c46 ?k46 ?a47 ?l47 ?c47 ?k47 ?a48 ?l48 ?c48 ?k48 ?a49 ?l49 ?c49 ?k49 ?a50 ?l50 ?c50 ?k50 ?a51 ?l51 ?c51 ?k51 ?a52 ?l52 ?c52 ?k52 ?a53 ?l53 ?c53 ?k53 ?a54 ?l54 ?c54 ?k54 ?a55 ?l55 ?c55 ?k55 ?a56 ?l56 ?c56 ?k56 ?a57 ?l57 ?c57 ?k57 ?a58 ?l58 ?c58 ?k58 ?a59 ?l59 ?c59 ?k59 ?a60 ?l60 ?c60 ?k60 ?a61 ?l61 ?c61 ?k61 ?a62 ?l62 ?c62 ?k62
    (case aLine => k_is)
    (case pgLine => k_is)
    (case hdLine => k_is)
    (case poLine => k_is)
    (case saLine => k_is)
    (case kcLine => k_is)
    (case mkLine => k_is)
    (case nLine_number => k_is)
    (case nLine_tokens => k_is)
    (case nLine_many => k_is)
    (case aDIGITS => k_is)
    (case aSIGNS => k_is)
    (case aLETTERS => k_is)
    (case aHOWS => k_is)
    (case lHOWS => k_is)
    (case aBOUNDED => k_is)
    (case lBOUNDED => k_is)
    (case aTESTS => k_is)
    (case lTESTS => k_is)
    (case zlen => k_is)
    (case zint => k_is)
    (case zrange => k_is)
    (case ztuple => k_is)
    (case zisinstance => k_is)
    (case zstr => k_is)
    (case zlist => k_is)
    (case zbool => k_is)
    (case zmax => k_is)
    (case zsorted => k_is)
    (case zmin => k_is)
    (case zabs => k_is)
    (case a0 => k_is)
    (case l0 => k_is)
    (case c0 => k_is)
    (case k0 => k_is)
    (case a1 => k_is)
    (case l1 => k_is)
    (case c1 => k_is)
    (case k1 => k_is)
    (case a2 => k_is)
    (case l2 => k_is)
    (case c2 => k_is)
    (case k2 => k_is)
    (case a3 => k_is)
    (case l3 => k_is)
    (case c3 => k_is)
    (case k3 => k_is)
    (case a4 => k_is)
    (case l4 => k_is)
    (case c4 => k_is)
    (case k4 => k_is)
    (case a5 => k_is)
    (case i5 => k_is)
    (case l5 => k_is)
    (case c5 => k_is)
    (case k5 => k_is)
    (case a6 => k_is)
    (case i6 => k_is)
    (case l6 => k_is)
    (case c6 => k_is)
    (case k6 => k_is)
    (case a7 => k_is)
    (case i7 => k_is)
    (case l7 => k_is)
    (case c7 => k_is)
    (case k7 => k_is)
    (case a8 => k_is)
    (case i8 => k_is)
    (case l8 => k_is)
    (case c8 => k_is)
    (case k8 => k_is)
    (case a9 => k_is)
    (case i9 => k_is)
    (case l9 => k_is)
    (case c9 => k_is)
    (case k9 => k_is)
    (case a10 => k_is)
    (case i10 => k_is)
    (case l10 => k_is)
    (case c10 => k_is)
    (case k10 => k_is)
    (case a11 => k_is)
    (case i11 => k_is)
    (case l11 => k_is)
    (case c11 => k_is)
    (case k11 => k_is)
    (case a12 => k_is)
    (case i12 => k_is)
    (case l12 => k_is)
    (case c12 => k_is)
    (case k12 => k_is)
    (case a13 => k_is)
    (case i13 => k_is)
    (case l13 => k_is)
    (case c13 => k_is)
    (case k13 => k_is)
    (case a14 => k_is)
    (case i14 => k_is)
    (case l14 => k_is)
    (case c14 => k_is)
    (case k14 => k_is)
    (case a15 => k_is)
    (case i15 => k_is)
    (case l15 => k_is)
    (case c15 => k_is)
    (case k15 => k_is)
    (case a16 => k_is)
    (case l16 => k_is)
    (case c16 => k_is)
    (case k16 => k_is)
    (case a17 => k_is)
    (case l17 => k_is)
    (case c17 => k_is)
    (case k17 => k_is)
    (case a18 => k_is)
    (case l18 => k_is)
    (case c18 => k_is)
    (case k18 => k_is)
    (case a19 => k_is)
    (case l19 => k_is)
    (case c19 => k_is)
    (case k19 => k_is)
    (case a20 => k_is)
    (case l20 => k_is)
    (case c20 => k_is)
    (case k20 => k_is)
    (case a21 => k_is)
    (case l21 => k_is)
    (case c21 => k_is)
    (case k21 => k_is)
    (case a22 => k_is)
    (case l22 => k_is)
    (case c22 => k_is)
    (case k22 => k_is)
    (case a23 => k_is)
    (case l23 => k_is)
    (case c23 => k_is)
    (case k23 => k_is)
    (case a24 => k_is)
    (case l24 => k_is)
    (case c24 => k_is)
    (case k24 => k_is)
    (case a25 => k_is)
    (case l25 => k_is)
    (case c25 => k_is)
    (case k25 => k_is)
    (case a26 => k_is)
    (case l26 => k_is)
    (case c26 => k_is)
    (case k26 => k_is)
    (case a27 => k_is)
    (case l27 => k_is)
    (case c27 => k_is)
    (case k27 => k_is)
    (case a28 => k_is)
    (case l28 => k_is)
    (case c28 => k_is)
    (case k28 => k_is)
    (case a29 => k_is)
    (case l29 => k_is)
    (case c29 => k_is)
    (case k29 => k_is)
    (case a30 => k_is)
    (case l30 => k_is)
    (case c30 => k_is)
    (case k30 => k_is)
    (case a31 => k_is)
    (case l31 => k_is)
    (case c31 => k_is)
    (case k31 => k_is)
    (case a32 => k_is)
    (case l32 => k_is)
    (case c32 => k_is)
    (case k32 => k_is)
    (case a33 => k_is)
    (case l33 => k_is)
    (case c33 => k_is)
    (case k33 => k_is)
    (case a34 => k_is)
    (case l34 => k_is)
    (case c34 => k_is)
    (case k34 => k_is)
    (case a35 => k_is)
    (case l35 => k_is)
    (case c35 => k_is)
    (case k35 => k_is)
    (case a36 => k_is)
    (case l36 => k_is)
    (case c36 => k_is)
    (case k36 => k_is)
    (case a37 => k_is)
    (case l37 => k_is)
    (case c37 => k_is)
    (case k37 => k_is)
    (case a38 => k_is)
    (case l38 => k_is)
    (case c38 => k_is)
    (case k38 => k_is)
    (case a39 => k_is)
    (case l39 => k_is)
    (case c39 => k_is)
    (case k39 => k_is)
    (case a40 => k_is)
    (case l40 => k_is)
    (case c40 => k_is)
    (case k40 => k_is)
    (case a41 => k_is)
    (case l41 => k_is)
    (case c41 => k_is)
    (case k41 => k_is)
    (case a42 => k_is)
    (case l42 => k_is)
    (case c42 => k_is)
    (case k42 => k_is)
    (case a43 => k_is)
    (case l43 => k_is)
    (case c43 => k_is)
    (case k43 => k_is)
    (case a44 => k_is)
    (case l44 => k_is)
    (case c44 => k_is)
    (case k44 => k_is)
    (case a45 => k_is)
    (case l45 => k_is)
    (case c45 => k_is)
    (case k45 => k_is)
    (case a46 => k_is)
    (case l46 => k_is)
    (case c46 => k_is)
    (case k46 => k_is)
    (case a47 => k_is)
    (case l47 => k_is)
    (case c47 => k_is)
    (case k47 => k_is)
    (case a48 => k_is)
    (case l48 => k_is)
    (case c48 => k_is)
    (case k48 => k_is)
    (case a49 => k_is)
    (case l49 => k_is)
    (case c49 => k_is)
    (case k49 => k_is)
    (case a50 => k_is)
    (case l50 => k_is)
    (case c50 => k_is)
    (case k50 => k_is)
    (case a51 => k_is)
    (case l51 => k_is)
    (case c51 => k_is)
    (case k51 => k_is)
    (case a52 => k_is)
    (case l52 => k_is)
    (case c52 => k_is)
    (case k52 => k_is)
    (case a53 => k_is)
    (case l53 => k_is)
    (case c53 => k_is)
    (case k53 => k_is)
    (case a54 => k_is)
    (case l54 => k_is)
    (case c54 => k_is)
    (case k54 => k_is)
    (case a55 => k_is)
    (case l55 => k_is)
    (case c55 => k_is)
    (case k55 => k_is)
    (case a56 => k_is)
    (case l56 => k_is)
    (case c56 => k_is)
    (case k56 => k_is)
    (case a57 => k_is)
    (case l57 => k_is)
    (case c57 => k_is)
    (case k57 => k_is)
    (case a58 => k_is)
    (case l58 => k_is)
    (case c58 => k_is)
    (case k58 => k_is)
    (case a59 => k_is)
    (case l59 => k_is)
    (case c59 => k_is)
    (case k59 => k_is)
    (case a60 => k_is)
    (case l60 => k_is)
    (case c60 => k_is)
    (case k60 => k_is)
    (case a61 => k_is)
    (case l61 => k_is)
    (case c61 => k_is)
    (case k61 => k_is)
    (case a62 => k_is)
    (case l62 => k_is)
    (case c62 => k_is)
    (case k62 => k_is)

end

