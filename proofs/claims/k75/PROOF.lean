import PyProof.Rows.All
import Wide.All
import OpenK.AllK
import Wide.FinOn
import HandS.ForMost
import HandS.Exc
import HandS.TryOnly
import HandS.WordsExc
import HandS.Deep
import HandS.TupAny
import HandS.IsInst
import HandS.ExcOwn
import HandS.More
import HandS.Text
import HandS.Iter
import HandS.FStr
import HandS.DictComp
import HandS.Zip
import HandS.TupSets
import PySem.Challenge.RW_doubtbook_k75_unified_terms
section
set_option linter.all false
set_option Elab.async false
set_option maxRecDepth 100000
/-! DlCore: a small functional reading of Python over plain data: values D (tuples by value, lists, dicts, instances by
reference), stores, results, and one combinator for each construct. Plain Lean: no program, no machine. -/
set_option linter.all false
set_option Elab.async false
namespace Dl

abbrev Cs := List Nat

inductive D where
  | non | bl (b : Bool) | int (i : Int) | str (x : Cs) | tup (xs : List D) | ref (n : Nat) | fn (x : String)
  /-- a list that is never changed (the script) -/
  | lit (xs : List D)
  deriving Inhabited, Repr

mutual
def D.beq : D → D → Bool
  | .non, .non => true
  | .bl a, .bl b => a == b
  | .int a, .int b => a == b
  | .str a, .str b => a == b
  | .tup a, .tup b => D.beqs a b
  | .ref a, .ref b => a == b
  | .fn a, .fn b => a == b
  | .lit a, .lit b => D.beqs a b
  | _, _ => false
def D.beqs : List D → List D → Bool
  | [], [] => true
  | a :: r, b :: s => D.beq a b && D.beqs r s
  | _, _ => false
end
mutual
theorem D.beq_iff : ∀ a b : D, D.beq a b = true ↔ a = b
  | .non, b => by cases b <;> simp [D.beq]
  | .bl _, b => by cases b <;> simp [D.beq]
  | .int _, b => by cases b <;> simp [D.beq]
  | .str _, b => by cases b <;> simp [D.beq]
  | .tup xs, b => by
    cases b <;> simp [D.beq]
    exact D.beqs_iff xs _
  | .ref _, b => by cases b <;> simp [D.beq]
  | .fn _, b => by cases b <;> simp [D.beq]
  | .lit xs, b => by
    cases b <;> simp [D.beq]
    exact D.beqs_iff xs _
theorem D.beqs_iff : ∀ a b : List D, D.beqs a b = true ↔ a = b
  | [], b => by cases b <;> simp [D.beqs]
  | x :: r, b => by
    cases b with
    | nil => simp [D.beqs]
    | cons y s => simp [D.beqs, D.beq_iff x y, D.beqs_iff r s]
end
instance : DecidableEq D := fun a b => decidable_of_iff (D.beq a b = true) (D.beq_iff a b)

/-- what stands in the store -/
inductive MO where
  | lst (xs : List D)
  | dct (kvs : List (D × D))
  /-- a dict while it is walked -/
  | lck (kvs : List (D × D))
  | set (xs : List D)
  | ins (C : String) (fs : List (String × D))
  deriving DecidableEq, Inhabited, Repr

abbrev Store := List MO
abbrev Env := List (Option D)

/-- an exception: its class, its attributes -/
structure Exc where
  cls : String
  fs : List (String × D)
  deriving DecidableEq, Inhabited, Repr

inductive Res (α : Type) where
  | ok (a : α) (S : Store)
  | exc (e : Exc) (S : Store)
  | stuck
  deriving Repr

def Res.bind {α β : Type} (r : Res α) (f : α → Store → Res β) : Res β :=
  match r with
  | .ok a S => f a S
  | .exc e S => .exc e S
  | .stuck => .stuck
@[simp] theorem Res.bind_ok {α β : Type} (a : α) (S : Store) (f : α → Store → Res β) : (Res.ok a S).bind f = f a S := id rfl
@[simp] theorem Res.bind_exc {α β : Type} (e : Exc) (S : Store) (f : α → Store → Res β) : (Res.exc e S : Res α).bind f = .exc e S := id rfl
@[simp] theorem Res.bind_stuck {α β : Type} (f : α → Store → Res β) : (Res.stuck : Res α).bind f = .stuck := id rfl

/-- the result is a good one of which Q holds, or an exception of which E holds -/
@[irreducible] def Res.sat {α : Type} (r : Res α) (Q : α → Store → Prop) (E : Exc → Store → Prop := fun _ _ => False) : Prop :=
  match r with
  | .ok a S => Q a S
  | .exc e S => E e S
  | .stuck => False
@[simp] theorem Res.sat_ok {α : Type} (a : α) (S : Store) (Q : α → Store → Prop) (E : Exc → Store → Prop) : (Res.ok a S).sat Q E ↔ Q a S := by unfold Res.sat; exact Iff.rfl
@[simp] theorem Res.sat_exc {α : Type} (e : Exc) (S : Store) (Q : α → Store → Prop) (E : Exc → Store → Prop) : (Res.exc e S : Res α).sat Q E ↔ E e S := by unfold Res.sat; exact Iff.rfl
@[simp] theorem Res.sat_stuck {α : Type} (Q : α → Store → Prop) (E : Exc → Store → Prop) : (Res.stuck : Res α).sat Q E ↔ False := by unfold Res.sat; exact Iff.rfl
@[simp] theorem Res.sat_bind {α β : Type} (r : Res α) (f : α → Store → Res β) (Q : β → Store → Prop) (E : Exc → Store → Prop) :
    (r.bind f).sat Q E ↔ r.sat (fun a S => (f a S).sat Q E) E := by
  cases r <;> simp [Res.bind]
theorem Res.sat.imp {α : Type} {r : Res α} {Q Q' : α → Store → Prop} {E E' : Exc → Store → Prop} (h : r.sat Q E) (hQ : ∀ a S, Q a S → Q' a S) (hE : ∀ e S, E e S → E' e S) : r.sat Q' E' := by
  cases r with
  | ok a S => rw [Res.sat_ok] at h ⊢; exact hQ _ _ h
  | exc e S => rw [Res.sat_exc] at h ⊢; exact hE _ _ h
  | stuck => rw [Res.sat_stuck] at h; exact h.elim
theorem Res.sat.mono {α : Type} {r : Res α} {Q Q' : α → Store → Prop} {E : Exc → Store → Prop} (h : r.sat Q E) (hQ : ∀ a S, Q a S → Q' a S) : r.sat Q' E := h.imp hQ fun _ _ h => h
theorem Res.sat.up {α : Type} {r : Res α} {Q Q' : α → Store → Prop} {E' : Exc → Store → Prop} (h : r.sat Q) (hQ : ∀ a S, Q a S → Q' a S) : r.sat Q' E' := h.imp hQ fun _ _ z => z.elim
theorem Res.sat_iff {α : Type} {r : Res α} {Q : α → Store → Prop} : r.sat Q ↔ ∃ a S, r = .ok a S ∧ Q a S := by
  cases r with
  | ok a S => rw [Res.sat_ok]; exact ⟨fun h => ⟨a, S, rfl, h⟩, fun ⟨_, _, e, h⟩ => by cases e; exact h⟩
  | exc e S => rw [Res.sat_exc]; exact ⟨fun h => h.elim, fun ⟨_, _, e, h⟩ => by cases e⟩
  | stuck => rw [Res.sat_stuck]; exact ⟨fun h => h.elim, fun ⟨_, _, e, h⟩ => by cases e⟩

/-- sizeLine of the model -/
def LIM : Nat := 16777216
/-- a while's most turns -/
def FUEL : Nat := 1000000000

abbrev EM := Env → Store → Res D
abbrev TM := Env → Store → Res Bool
abbrev AM := Env → Store → Res (List D)
/-- a def, a built-in, an operator -/
abbrev FM := List D → Store → Res D
inductive Flow where
  | nx (δ : Env) | rt (d : D) | bk (δ : Env) | ct (δ : Env) | ex (e : Exc) (δ : Env)
  deriving Repr
/-- an expression within a statement: an exception becomes a flow -/
def Res.thenS {α : Type} (r : Res α) (δ : Env) (f : α → Store → Res Flow) : Res Flow := match r with
  | .ok a S => f a S
  | .exc e S => .ok (.ex e δ) S
  | .stuck => .stuck
@[simp] theorem Res.thenS_ok {α : Type} (a : α) (S : Store) (δ : Env) (f : α → Store → Res Flow) : (Res.ok a S).thenS δ f = f a S := id rfl
@[simp] theorem Res.thenS_exc {α : Type} (e : Exc) (S : Store) (δ : Env) (f : α → Store → Res Flow) : (Res.exc e S : Res α).thenS δ f = .ok (.ex e δ) S := id rfl
@[simp] theorem Res.thenS_stuck {α : Type} (δ : Env) (f : α → Store → Res Flow) : (Res.stuck : Res α).thenS δ f = .stuck := id rfl
@[simp] theorem Res.sat_thenS {α : Type} (r : Res α) (δ : Env) (f : α → Store → Res Flow) (Q : Flow → Store → Prop) (E : Exc → Store → Prop) :
    (r.thenS δ f).sat Q E ↔ r.sat (fun a S => (f a S).sat Q E) (fun e S => Q (.ex e δ) S) := by
  cases r <;> simp
abbrev SM := Env → Store → Res Flow

/-! ### expressions -/
def varM (i : Nat) : EM := fun δ S => match δ[i]? with | some (some d) => .ok d S | _ => .stuck
def conM (d : D) : EM := fun _ S => .ok d S
def argsM : List EM → AM
  | [] => fun _ S => .ok [] S
  | e :: es => fun δ S => (e δ S).bind fun d S1 => (argsM es δ S1).bind fun ds S2 => .ok (d :: ds) S2
def callM (f : FM) (es : List EM) : EM := fun δ S => (argsM es δ S).bind f
def tupP : FM := fun ds S => if ds.length ≤ LIM then .ok (.tup ds) S else .stuck
def lstP : FM := fun ds S => if ds.length ≤ LIM then .ok (.ref S.length) (S ++ [.lst ds]) else .stuck
def dctP : FM := fun ds S => match ds with | [] => .ok (.ref S.length) (S ++ [.dct []]) | _ => .stuck

/-! ### data, equality, truth -/
mutual
/-- no references within, nested at most n deep -/
def D.flat : Nat → D → Bool
  | n, .tup xs => match n with | 0 => false | n + 1 => D.flats n xs
  | _, .ref _ => false
  | _, .fn _ => false
  | _, .lit _ => false
  | _, .str x => x.all fun c => decide (c < 0x110000)
  | _, _ => true
def D.flats : Nat → List D → Bool
  | _, [] => true
  | n, d :: r => D.flat n d && D.flats n r
end
def b2i (b : Bool) : Int := if b then 1 else 0
mutual
/-- Python's == on data -/
def D.eqv : D → D → Bool
  | .non, .non => true
  | .bl a, .bl b => a == b
  | .bl a, .int b => b2i a == b
  | .int a, .bl b => a == b2i b
  | .int a, .int b => a == b
  | .str a, .str b => a == b
  | .tup a, .tup b => D.eqvs a b
  | _, _ => false
def D.eqvs : List D → List D → Bool
  | [], [] => true
  | a :: r, b :: s => D.eqv a b && D.eqvs r s
  | _, _ => false
end
def DEP : Nat := 60
def lstAt (S : Store) (n : Nat) : Option (List D) := match S[n]? with | some (.lst xs) => some xs | _ => none
def dctAt (S : Store) (n : Nat) : Option (List (D × D)) := match S[n]? with | some (.dct xs) => some xs | some (.lck xs) => some xs | _ => none
/-- none, a bool, an int, a text -/
def D.sc : D → Bool
  | .non => true | .bl _ => true | .int _ => true | .str _ => true | _ => false
/-- scalars that == tells apart as data does -/
def D.scal : D → D → Bool
  | .non, .non => true | .non, .int _ => true | .int _, .non => true | .non, .bl _ => true | .bl _, .non => true | .non, .str _ => true | .str _, .non => true
  | .int _, .int _ => true | .bl _, .bl _ => true | .str _, .str _ => true
  | .int _, .str _ => true | .str _, .int _ => true | .bl _, .str _ => true | .str _, .bl _ => true
  | _, _ => false
def eqP : FM := fun ds S => match ds with
  | [x, y] => if D.scal x y then .ok (.bl (decide (x = y))) S else (match x, y with
    | .ref n, .ref m => (match lstAt S n, lstAt S m with
      | some xs, some ys => if D.flats (DEP - 1) xs && D.flats (DEP - 1) ys then .ok (.bl (D.eqvs xs ys)) S else .stuck
      | _, _ => .stuck)
    | x, y => if D.flat DEP x && D.flat DEP y then .ok (.bl (D.eqv x y)) S else .stuck)
  | _ => .stuck
def notR (r : Res D) : Res D := r.bind fun d S => match d with | .bl b => .ok (.bl (!b)) S | _ => .stuck
def neP : FM := fun ds S => notR (eqP ds S)
def inP : FM := fun ds S => match ds with
  | [x, .ref n] => (match lstAt S n with
    | some ys => if (x.sc && ys.all D.sc) || (D.flat (DEP - 1) x && D.flats (DEP - 1) ys) then .ok (.bl (ys.any fun z => D.eqv z x)) S else .stuck
    | none => .stuck)
  | [x, .tup ys] => if x.sc && ys.all D.sc then .ok (.bl (ys.any fun z => D.eqv z x)) S else .stuck
  | [.str [c], .str ys] => .ok (.bl (decide (c ∈ ys))) S
  | _ => .stuck
def notInP : FM := fun ds S => notR (inP ds S)
def isNonP : FM := fun ds S => match ds with | [d] => .ok (.bl (decide (d = .non))) S | _ => .stuck
def notNonP : FM := fun ds S => match ds with | [d] => .ok (.bl (!decide (d = .non))) S | _ => .stuck
def truth (d : D) (S : Store) : Option Bool := match d with
  | .non => some false
  | .bl b => some b
  | .int i => some (i != 0)
  | .str x => if x.length ≤ LIM then some (x.length != 0) else none
  | .tup xs => some (!xs.isEmpty)
  | .ref n => (match S[n]? with | some (.lst xs) => some (!xs.isEmpty) | some (.dct xs) => some (!xs.isEmpty) | _ => none)
  | .lit xs => some (!xs.isEmpty)
  | .fn _ => none

/-! ### operators -/
def small64 (i : Int) : Bool := decide (-(2 ^ 64) < i) && decide (i < 2 ^ 64)
def addP : FM := fun ds S => match ds with
  | [.int i, .int j] => .ok (.int (i + j)) S
  | [.str x, .str y] => if x.length + y.length ≤ LIM then .ok (.str (x ++ y)) S else .stuck
  | [.tup x, .tup y] => if x.length + y.length ≤ LIM then .ok (.tup (x ++ y)) S else .stuck
  | [.ref n, .ref m] => (match S[n]?, S[m]? with
    | some (.lst xs), some (.lst ys) => if xs.length + ys.length ≤ LIM then .ok (.ref S.length) (S ++ [.lst (xs ++ ys)]) else .stuck
    | _, _ => .stuck)
  | _ => .stuck
def subP : FM := fun ds S => match ds with | [.int i, .int j] => .ok (.int (i - j)) S | _ => .stuck
def mulP : FM := fun ds S => match ds with
  | [.int i, .int j] => if small64 i || small64 j then .ok (.int (i * j)) S else .stuck
  | [.str x, .int j] => if 0 ≤ j ∧ x.length * j.toNat ≤ LIM ∧ j ≤ (LIM : Int) then .ok (.str (List.replicate j.toNat x).flatten) S else .stuck
  | _ => .stuck
def modP : FM := fun ds S => match ds with | [.int i, .int j] => if 0 < j then .ok (.int (i % j)) S else .stuck | _ => .stuck
def fdivP : FM := fun ds S => match ds with | [.int i, .int j] => if 0 < j ∧ j < 1073741824 then .ok (.int (i / j)) S else .stuck | _ => .stuck
def powP : FM := fun ds S => match ds with | [.int i, .int j] => if 0 ≤ j ∧ j ≤ 1000000 ∧ i.natAbs < 2 ^ 64 then .ok (.int (i ^ j.toNat)) S else .stuck | _ => .stuck
def negP : FM := fun ds S => match ds with | [.int i] => .ok (.int (-i)) S | _ => .stuck
/-- lists of codes in order -/
def csLt : Cs → Cs → Bool
  | _, [] => false
  | [], _ :: _ => true
  | a :: r, b :: s => if a = b then csLt r s else decide (a < b)
def ltP : FM := fun ds S => match ds with
  | [.int i, .int j] => .ok (.bl (decide (i < j))) S
  | [.str x, .str y] => .ok (.bl (decide (x < y))) S
  | _ => .stuck
def leP : FM := fun ds S => match ds with
  | [.int i, .int j] => .ok (.bl (decide (i ≤ j))) S
  | [.str x, .str y] => .ok (.bl (!decide (y < x))) S
  | _ => .stuck
def gtP : FM := fun ds S => match ds with
  | [.int i, .int j] => .ok (.bl (decide (j < i))) S
  | [.str x, .str y] => .ok (.bl (decide (y < x))) S
  | _ => .stuck
def geP : FM := fun ds S => match ds with
  | [.int i, .int j] => .ok (.bl (decide (j ≤ i))) S
  | [.str x, .str y] => .ok (.bl (!decide (x < y))) S
  | _ => .stuck

/-! ### tests -/
def tvM (m : EM) : TM := fun δ S => (m δ S).bind fun d S1 => match truth d S1 with | some b => .ok b S1 | none => .stuck
/-- a test whose value is a bool -/
def tbM (m : EM) : TM := fun δ S => (m δ S).bind fun d S1 => match d with | .bl b => .ok b S1 | _ => .stuck
def andT (a b : TM) : TM := fun δ S => (a δ S).bind fun c S1 => if c = true then b δ S1 else .ok false S1
def orT (a b : TM) : TM := fun δ S => (a δ S).bind fun c S1 => if c = true then .ok true S1 else b δ S1
def notT (a : TM) : TM := fun δ S => (a δ S).bind fun c S1 => .ok (!c) S1
def yesT : TM := fun _ S => .ok true S
def ifM (t : TM) (a b : EM) : EM := fun δ S => (t δ S).bind fun c S1 => if c = true then a δ S1 else b δ S1
/-- a and b, a or b, not a as values; a a bool -/
def andV (a b : EM) : EM := fun δ S => (a δ S).bind fun d S1 => match d with | .bl c => if c = true then b δ S1 else .ok (.bl false) S1 | _ => .stuck
def orV (a b : EM) : EM := fun δ S => (a δ S).bind fun d S1 => match d with | .bl c => if c = true then .ok (.bl true) S1 else b δ S1 | _ => .stuck
def notV (a : EM) : EM := fun δ S => (a δ S).bind fun d S1 => match d with | .bl c => .ok (.bl (!c)) S1 | _ => .stuck

/-! ### items and slices -/
def ixN (n : Nat) (i : Int) : Option Nat := if 0 ≤ i then (if i < n then some i.toNat else none) else if -(n : Int) ≤ i then some (i + n).toNat else none
def atI {α : Type} (xs : List α) (i : Int) : Option α := (ixN xs.length i).bind fun j => xs[j]?
def ixP : FM := fun ds S => match ds with
  | [.ref n, .int i] => (match lstAt S n with | some xs => (match atI xs i with | some d => .ok d S | none => .stuck) | none => .stuck)
  | [.tup xs, .int i] => (match atI xs i with | some d => .ok d S | none => .stuck)
  | [.lit xs, .int i] => (match atI xs i with | some d => .ok d S | none => .stuck)
  | [.str x, .int i] => if x.length ≤ LIM then (match atI x i with | some c => .ok (.str [c]) S | none => .stuck) else .stuck
  | _ => .stuck
def sIx (n d : Nat) : Option Int → Nat
  | none => d
  | some v => if v < 0 then (v + n).toNat else min v.toNat n
def cut {α : Type} (xs : List α) (lo hi : Option Int) : List α := (xs.drop (sIx xs.length 0 lo)).take (sIx xs.length xs.length hi - sIx xs.length 0 lo)
def optI : Option EM → Env → Store → Res (Option Int)
  | none => fun _ S => .ok none S
  | some e => fun δ S => (e δ S).bind fun d S1 => match d with | .int i => .ok (some i) S1 | _ => .stuck
def sliceP (d : D) (lo hi : Option Int) (S : Store) : Res D := match d with
  | .ref n => (match lstAt S n with | some xs => .ok (.ref S.length) (S ++ [.lst (cut xs lo hi)]) | none => .stuck)
  | .tup xs => .ok (.tup (cut xs lo hi)) S
  | .lit xs => .ok (.ref S.length) (S ++ [.lst (cut xs lo hi)])
  | .str x => if x.length ≤ LIM then .ok (.str (cut x lo hi)) S else .stuck
  | _ => .stuck
def sliceM (o : EM) (lo hi : Option EM) : EM := fun δ S => (o δ S).bind fun d S1 => (optI lo δ S1).bind fun l S2 => (optI hi δ S2).bind fun h S3 => sliceP d l h S3

/-! ### targets, what is walked, comprehensions -/
inductive Tgt where
  | nm (i : Nat)
  | tp (ts : List Nat)
def setAll : List Nat → List D → Env → Env
  | i :: is, d :: ds, δ => setAll is ds (δ.set i (some d))
  | _, _, δ => δ
def Tgt.put : Tgt → D → Env → Option Env
  | .nm i, d, δ => some (δ.set i (some d))
  | .tp is, .tup ds, δ => if ds.length = is.length then some (setAll is ds δ) else none
  | .tp _, _, _ => none
/-- the items, and that they are still so -/
structure Src where
  items : List D
  still : Store → Bool
abbrev IM := Env → Store → Res Src
def isLst (n : Nat) (xs : List D) (S : Store) : Bool := decide (lstAt S n = some xs)
def always (S : Store) : Bool := true
/-- a list or a tuple -/
def seqI (e : EM) : IM := fun δ S => (e δ S).bind fun d S1 => match d with
  | .ref n => (match lstAt S1 n with | some xs => .ok ⟨xs, isLst n xs⟩ S1 | none => .stuck)
  | .tup xs => .ok ⟨xs, always⟩ S1
  | .lit xs => .ok ⟨xs, always⟩ S1
  | _ => .stuck
def inRange (i : Int) : Bool := decide (-(2 ^ 62) ≤ i) && decide (i < 2 ^ 62)
def rangeL (lo hi : Int) : List D := (List.range (hi - lo).toNat).map fun k : Nat => D.int (lo + k)
def rangeI (es : List EM) : IM := fun δ S => (argsM es δ S).bind fun ds S1 => match ds with
  | [.int j] => if inRange j then .ok ⟨rangeL 0 j, always⟩ S1 else .stuck
  | [.int i, .int j] => if inRange i && inRange j then .ok ⟨rangeL i j, always⟩ S1 else .stuck
  | _ => .stuck
def wipe (δ : Env) : List Nat → Env
  | [] => δ
  | v :: vs => (wipe δ vs).set v none
/-- no exception leaves from here -/
def Res.nox {α : Type} (r : Res α) : Res α := match r with
  | .ok a S => .ok a S
  | _ => .stuck
@[simp] theorem Res.nox_ok {α : Type} (a : α) (S : Store) : (Res.ok a S).nox = .ok a S := id rfl
@[simp] theorem Res.sat_nox {α : Type} (r : Res α) (Q : α → Store → Prop) (E : Exc → Store → Prop) : r.nox.sat Q E ↔ r.sat Q := by
  cases r <;> simp [Res.nox]
theorem Res.nox_eq {α : Type} {r : Res α} {a : α} {S : Store} : r.nox = .ok a S ↔ r = .ok a S := by
  cases r <;> simp [Res.nox]
def lcLoop (still : Store → Bool) (D₀ : Nat) (δ : Env) (tg : Tgt) (tt : TM) (elt : EM) : List D → Store → Res Unit
  | [], S => if still S then .ok () S else .stuck
  | x :: r, S => if still S then (match tg.put x δ with
      | some δ2 => (tt δ2 S).nox.bind fun b S1 => if b = true then (elt δ2 S1).nox.bind fun y S2 => (match S2[D₀]? with
          | some (.lst acc) => if acc.length < LIM then lcLoop still D₀ δ tg tt elt r (S2.set D₀ (.lst (acc ++ [y]))) else .stuck
          | _ => .stuck) else lcLoop still D₀ δ tg tt elt r S1
      | none => .stuck) else .stuck
def lcM (own : List Nat) (src : IM) (tg : Tgt) (tt : TM) (elt : EM) : EM := fun δ S => (src δ S).bind fun s S1 =>
  (lcLoop s.still S1.length (wipe δ own) tg tt elt s.items (S1 ++ [.lst []])).bind fun _ S2 => .ok (.ref S1.length) S2

/-! ### instances of own classes -/
def getF (f : String) : List (String × D) → Option D
  | [] => none
  | p :: r => if p.1 = f then some p.2 else getF f r
def putF (f : String) (d : D) : List (String × D) → List (String × D)
  | [] => [(f, d)]
  | p :: r => if p.1 = f then (f, d) :: r else p :: putF f d r
def insAt (S : Store) (n : Nat) (C : String) : Option (List (String × D)) := match S[n]? with
  | some (.ins C' fs) => if C' = C then some fs else none
  | _ => none
def fldP (C f : String) : FM := fun ds S => match ds with
  | [.ref n] => (match insAt S n C with | some fs => (match getF f fs with | some d => .ok d S | none => .stuck) | none => .stuck)
  | _ => .stuck
/-- o.f = v: v, o -/
def putFP (C f : String) : FM := fun ds S => match ds with
  | [v, .ref n] => (match insAt S n C with | some fs => if fs.length < 100 then .ok .non (S.set n (.ins C (putF f v fs))) else .stuck | none => .stuck)
  | _ => .stuck
/-- o.f += e of ints: o, e -/
def augFP (C f : String) : FM := fun ds S => match ds with
  | [.ref n, .int j] => (match insAt S n C with | some fs => (match getF f fs with | some (.int i) => if fs.length < 100 then .ok .non (S.set n (.ins C (putF f (.int (i + j)) fs))) else .stuck | _ => .stuck) | none => .stuck)
  | _ => .stuck
/-- += of names: ints, texts -/
def addIS : FM := fun ds S => match ds with
  | [.int i, .int j] => .ok (.int (i + j)) S
  | [.str x, .str y] => if x.length + y.length ≤ LIM then .ok (.str (x ++ y)) S else .stuck
  | _ => .stuck
/-- o.m(..) -/
def methI (C m : String) (F : FM) (o : EM) (es : List EM) : EM := fun δ S => (o δ S).bind fun d S1 => match d with
  | .ref n => (match insAt S1 n C with
    | some fs => if getF m fs = none then (argsM es δ S1).bind fun ds S2 => F (d :: ds) S2 else .stuck
    | none => .stuck)
  | _ => .stuck
/-- C(..), F its __init__ -/
def makeM (C : String) (F : FM) (es : List EM) : EM := fun δ S => (argsM es δ S).bind fun ds S1 =>
  (F (.ref S1.length :: ds) (S1 ++ [.ins C []])).bind fun r S2 => if r = .non then .ok (.ref S1.length) S2 else .stuck
/-- a call of the def that a slot holds, one of some -/
def callV (i : Nat) (Fs : List (String × FM)) (es : List EM) : EM := fun δ S => match δ[i]? with
  | some (some (.fn x)) => (match Fs.lookup x with | some F => callM F es δ S | none => .stuck)
  | _ => .stuck

/-! ### statements -/
def noxS (s : SM) : SM := fun δ S => (s δ S).bind fun f S1 => match f with | .ex _ _ => .stuck | _ => .ok f S1
def nilS : SM := fun δ S => .ok (.nx δ) S
def seqS (a b : SM) : SM := fun δ S => (a δ S).bind fun f S1 => match f with | .nx δ1 => b δ1 S1 | _ => .ok f S1
def blkS : List SM → SM
  | [] => nilS
  | [a] => a
  | a :: b :: r => seqS a (blkS (b :: r))
def setS (tg : Tgt) (e : EM) : SM := fun δ S => (e δ S).thenS δ fun d S1 => match tg.put d δ with | some δ1 => .ok (.nx δ1) S1 | none => .stuck
def augS (i : Nat) (p : FM) (e : EM) : SM := fun δ S => match δ[i]? with
  | some (some x) => (e δ S).thenS δ fun y S1 => (p [x, y] S1).thenS δ fun z S2 => .ok (.nx (δ.set i (some z))) S2
  | _ => .stuck
def exprS (e : EM) : SM := fun δ S => (e δ S).thenS δ fun _ S1 => .ok (.nx δ) S1
def retS (e : EM) : SM := fun δ S => (e δ S).thenS δ fun d S1 => .ok (.rt d) S1
def retN : SM := fun _ S => .ok (.rt .non) S
def ifS (t : TM) (a b : SM) : SM := fun δ S => (t δ S).thenS δ fun c S1 => if c = true then a δ S1 else b δ S1
def brkS : SM := fun δ S => .ok (.bk δ) S
def cntS : SM := fun δ S => .ok (.ct δ) S
def neverS : SM := fun _ _ => .stuck
/-- raise C(..), its fields in the order of its __init__ -/
def raiseS (C : String) (fl : List String) (ms : List EM) : SM := fun δ S => (argsM ms δ S).thenS δ fun ds S1 => if ds.length = fl.length then .ok (.ex ⟨C, (fl.zip ds).reverse⟩ δ) S1 else .stuck
/-! what a suite does of the exception that it holds -/
def hRet (h : Exc → Option (List D)) : Exc → Option D := fun e => (h e).bind fun ds => if ds.length ≤ LIM then some (.tup ds) else none
def hCons (h : Exc → Option D) (r : Exc → Option (List D)) : Exc → Option (List D) := fun e => (h e).bind fun d => (r e).map fun ds => d :: ds
def hNil : Exc → Option (List D) := fun _ => some []
def hCon (d : D) : Exc → Option D := fun _ => some d
def hFld (C f : String) : Exc → Option D := fun e => if e.cls = C then getF f e.fs else none
def hIf (p : Exc → Option Bool) (a b : Exc → Option D) : Exc → Option D := fun e => (p e).bind fun t => if t = true then a e else b e
def hNot (p : Exc → Option Bool) : Exc → Option Bool := fun e => (p e).map fun b => !b
def hOr (p q : Exc → Option Bool) : Exc → Option Bool := fun e => (p e).bind fun b => if b = true then some true else q e
/-- isinstance of one class, of any of some; T: which class is below which -/
def hIs (T : String → String → Option Bool) (Cs : List String) : Exc → Option Bool := fun e => Cs.foldr (fun C r => (T e.cls C).bind fun b => if b = true then some true else r) (some false)
def tabT (tab : List (String × String × Bool)) (C D : String) : Option Bool := (tab.find? fun p => decide (p.1 = C ∧ p.2.1 = D)).map fun p => p.2.2
/-- try: s except ..: c tells whether it is caught, h what the suite then returns -/
def tryS (i : Nat) (c : Exc → Option Bool) (h : Exc → Option D) (s : SM) : SM := fun δ S => (s δ S).bind fun f S1 => match f with
  | .ex e δ1 => if i < δ1.length then (match c e with
    | some true => (match h e with | some d => .ok (.rt d) S1 | none => .stuck)
    | some false => .ok (.ex e δ1) S1
    | none => .stuck) else .stuck
  | f => .ok f S1
/-- o[i] = e: e, o, i -/
def putLP : FM := fun ds S => match ds with
  | [v, .ref n, .int k] => (match S[n]? with
    | some (.lst xs) => (match ixN xs.length k with | some j => .ok .non (S.set n (.lst (xs.set j v))) | none => .stuck)
    | _ => .stuck)
  | _ => .stuck
def forLoop (still : Store → Bool) (tg : Tgt) (body : SM) : List D → Env → Store → Res Flow
  | [], δ, S => if still S then .ok (.nx δ) S else .stuck
  | x :: r, δ, S => if still S then (match tg.put x δ with
      | some δ1 => (body δ1 S).bind fun f S1 => (match f with
        | .nx δ2 => forLoop still tg body r δ2 S1
        | .ct δ2 => forLoop still tg body r δ2 S1
        | .bk δ2 => .ok (.nx δ2) S1
        | .rt d => .ok (.rt d) S1
        | .ex e δ2 => .ok (.ex e δ2) S1)
      | none => .stuck) else .stuck
def forS (src : IM) (tg : Tgt) (body : SM) : SM := fun δ S => (src δ S).thenS δ fun s S1 => forLoop s.still tg body s.items δ S1
def whileLoop (t : TM) (body : SM) : Nat → Env → Store → Res Flow
  | 0, _, _ => .stuck
  | n + 1, δ, S => (t δ S).thenS δ fun c S1 => if c = true then (body δ S1).bind fun f S2 => (match f with
        | .nx δ2 => whileLoop t body n δ2 S2
        | .ct δ2 => whileLoop t body n δ2 S2
        | .bk δ2 => .ok (.nx δ2) S2
        | .rt d => .ok (.rt d) S2
        | .ex e δ2 => .ok (.ex e δ2) S2) else .ok (.nx δ) S1
def whileS (t : TM) (body : SM) : SM := whileLoop t body FUEL

/-! ### defs -/
/-- a def of so many parameters and slots -/
def defM (params slots : Nat) (body : SM) : FM := fun ds S => if ds.length = params then
    (body (ds.map some ++ List.replicate (slots - params) none) S).nox.bind fun f S1 => (match f with
      | .rt d => .ok d S1
      | .nx _ => .ok .non S1
      | .ex e _ => .exc e S1
      | _ => .stuck)
  else .stuck

/-! ### built-ins -/
def lenP : FM := fun ds S => match ds with
  | [.str x] => if x.length ≤ LIM then .ok (.int x.length) S else .stuck
  | [.tup xs] => .ok (.int xs.length) S
  | [.lit xs] => .ok (.int xs.length) S
  | [.ref n] => (match S[n]? with
    | some (.lst xs) => .ok (.int xs.length) S
    | some (.dct xs) => .ok (.int xs.length) S
    | _ => .stuck)
  | _ => .stuck
/-- the digits of a number, and what digits are worth -/
def natCs (n : Nat) : Cs := (Nat.toDigits 10 n).map Char.toNat
def intCs (i : Int) : Cs := if i < 0 then 45 :: natCs i.natAbs else natCs i.natAbs
def digV (cs : Cs) : Nat := cs.foldl (fun acc c => acc * 10 + (c - 48)) 0
def isDigit (c : Nat) : Bool := decide (48 ≤ c) && decide (c ≤ 57)
def csInt (cs : Cs) : Option Int := match cs with
  | [] => none
  | 45 :: r => if r ≠ [] ∧ r.all isDigit then some (-(digV r : Int)) else none
  | c :: r => if (c :: r).all isDigit then some (digV (c :: r) : Int) else none
def strP : FM := fun ds S => match ds with
  | [.int i] => if i.natAbs < 2 ^ 1900 then .ok (.str (intCs i)) S else .stuck
  | _ => .stuck
/-- {x} in an f-string -/
def fmtP : FM := fun ds S => match ds with
  | [.int i] => if i.natAbs < 2 ^ 1900 then .ok (.str (intCs i)) S else .stuck
  | [.str x] => if x.length ≤ LIM then .ok (.str x) S else .stuck
  | _ => .stuck
def catM : Cs → List EM → EM
  | acc, [] => fun _ S => .ok (.str acc) S
  | acc, e :: es => fun δ S => (e δ S).bind fun d S1 => match d with
    | .str y => if acc.length + y.length ≤ LIM then catM (acc ++ y) es δ S1 else .stuck
    | _ => .stuck
def intP : FM := fun ds S => match ds with
  | [.str x] => if x.length ≤ 640 then (match csInt x with | some n => .ok (.int n) S | none => .stuck) else .stuck
  | [.int i] => .ok (.int i) S
  | [.bl b] => .ok (.int (b2i b)) S
  | _ => .stuck
def listP : FM := fun ds S => match ds with
  | [.ref n] => (match lstAt S n with | some xs => .ok (.ref S.length) (S ++ [.lst xs]) | none => .stuck)
  | [.tup xs] => .ok (.ref S.length) (S ++ [.lst xs])
  | [.lit xs] => .ok (.ref S.length) (S ++ [.lst xs])
  | _ => .stuck
def tupleP : FM := fun ds S => match ds with
  | [.ref n] => (match lstAt S n with | some xs => .ok (.tup xs) S | none => .stuck)
  | [.tup xs] => .ok (.tup xs) S
  | _ => .stuck
/-- o.append and its like give the receiver's kind in the text; here the types of data -/
def tyN (d : D) (S : Store) : Option String := match d with
  | .non => some "NoneType"
  | .bl _ => some "bool"
  | .int _ => some "int"
  | .str _ => some "str"
  | .tup _ => some "tuple"
  | .ref n => (match S[n]? with | some (.lst _) => some "list" | some (.dct _) => some "dict" | _ => none)
  | .fn _ => none
  | .lit _ => some "list"
def appendP : FM := fun ds S => match ds with
  | [.ref n, d] => (match S[n]? with | some (.lst xs) => if xs.length < LIM then .ok .non (S.set n (.lst (xs ++ [d]))) else .stuck | _ => .stuck)
  | _ => .stuck
/-- a method of a built-in type: the receiver's type is looked at first -/
def methM (T : String) (p : FM) (o : EM) (es : List EM) : EM := fun δ S => (o δ S).bind fun d S1 => if tyN d S1 = some T then (argsM es δ S1).bind fun ds S2 => p (d :: ds) S2 else .stuck
def insertP : FM := fun ds S => match ds with
  | [.ref n, .int i, d] => (match S[n]? with | some (.lst xs) => if xs.length < LIM ∧ 0 ≤ i ∧ i < 2 ^ 62 then .ok .non (S.set n (.lst (xs.take i.toNat ++ [d] ++ xs.drop i.toNat))) else .stuck | _ => .stuck)
  | _ => .stuck
def popP : FM := fun ds S => match ds with
  | [.ref n] => (match S[n]? with | some (.lst xs) => (match xs[xs.length - 1]? with | some d => .ok d (S.set n (.lst xs.dropLast)) | none => .stuck) | _ => .stuck)
  | _ => .stuck
def reverseP : FM := fun ds S => match ds with
  | [.ref n] => (match S[n]? with | some (.lst xs) => .ok .non (S.set n (.lst xs.reverse)) | _ => .stuck)
  | _ => .stuck
def isTy (a b : String) : Bool := a == b || (a == "bool" && b == "int")
def isP (Ts : List String) : FM := fun ds S => match ds with
  | [d] => (match tyN d S with | some t => .ok (.bl (Ts.any fun T => isTy t T)) S | none => .stuck)
  | _ => .stuck
def strsOf : List D → Option (List Cs)
  | [] => some []
  | .str x :: r => (strsOf r).map fun xs => x :: xs
  | _ :: _ => none
def intsOf : List D → Option (List Int)
  | [] => some []
  | .int x :: r => (intsOf r).map fun xs => x :: xs
  | _ :: _ => none
def joinCs (sep : Cs) : List Cs → Cs
  | [] => []
  | [x] => x
  | x :: y :: r => x ++ sep ++ joinCs sep (y :: r)
def joinP : FM := fun ds S => match ds with
  | [.str sep, d] => (match (match d with | .ref n => lstAt S n | .tup xs => some xs | _ => none) with
    | some xs => (match strsOf xs with
      | some ys => if (ys.map List.length).sum + ys.length * sep.length ≤ LIM then .ok (.str (joinCs sep ys)) S else .stuck
      | none => .stuck)
    | none => .stuck)
  | _ => .stuck
def csLe (x y : Cs) : Bool := !decide (y < x)
/-- sorted of texts -/
def sortedSP : FM := fun ds S => match ds with
  | [.ref n] => (match lstAt S n with
    | some xs => (match strsOf xs with
      | some ys => if ys.length < 64 then .ok (.ref S.length) (S ++ [.lst ((ys.mergeSort csLe).map D.str)]) else .stuck
      | none => .stuck)
    | none => .stuck)
  | _ => .stuck
def maxL : Int → List Int → Int
  | a, [] => a
  | a, b :: r => maxL (if b > a then b else a) r
def maxP : FM := fun ds S => match ds with
  | [.ref n] => (match lstAt S n with
    | some xs => (match intsOf xs with
      | some (a :: r) => .ok (.int (maxL a r)) S
      | _ => .stuck)
    | none => .stuck)
  | [.int i, .int j] => .ok (.int (if j > i then j else i)) S
  | _ => .stuck
def absP : FM := fun ds S => match ds with | [.int i] => .ok (.int (if i < 0 then -i else i)) S | _ => .stuck
def minP : FM := fun ds S => match ds with
  | [.int i, .int j] => .ok (.int (if j < i then j else i)) S
  | _ => .stuck
/-! dicts: keys ints or texts -/
def keyD : D → Bool
  | .int _ => true | .str _ => true | _ => false
def dkGet (kvs : List (D × D)) (k : D) : Option D := (kvs.find? fun p => decide (p.1 = k)).map (·.2)
/-- in its place, or at the end -/
def dkPut (kvs : List (D × D)) (k v : D) : List (D × D) := if (kvs.any fun p => decide (p.1 = k)) = true then kvs.map (fun p => if p.1 = k then (p.1, v) else p) else kvs ++ [(k, v)]
/-- d.get(k, x) -/
def dgetP : FM := fun ds S => match ds with
  | [.ref n, k, x] => (match S[n]? with | some (.dct kvs) => if keyD k = true then .ok ((dkGet kvs k).getD x) S else .stuck | _ => .stuck)
  | _ => .stuck
/-- d[k], there -/
def dixP : FM := fun ds S => match ds with
  | [.ref n, k] => (match S[n]? with | some (.dct kvs) => (match dkGet kvs k with | some v => if keyD k = true then .ok v S else .stuck | none => .stuck) | _ => .stuck)
  | _ => .stuck
/-- d[k] = v: v, d, k -/
def dputP : FM := fun ds S => match ds with
  | [v, .ref n, k] => (match S[n]? with | some (.dct kvs) => if keyD k = true ∧ kvs.length < LIM then .ok .non (S.set n (.dct (dkPut kvs k v))) else .stuck | _ => .stuck)
  | _ => .stuck
/-- sorted(d), its keys texts -/
def sortedDP : FM := fun ds S => match ds with
  | [.ref n] => (match S[n]? with
    | some (.dct kvs) => (match strsOf (kvs.map (·.1)) with
      | some xs => if xs.length < 64 then .ok (.ref S.length) (S ++ [.lst ((xs.mergeSort csLe).map D.str)]) else .stuck
      | none => .stuck)
    | _ => .stuck)
  | _ => .stuck
/-- {k: v for kn, vn in d.items()}, d locked meanwhile -/
def dcLoop (n D₀ : Nat) (δ : Env) (i j : Nat) (ke ve : EM) : List (D × D) → Store → Res Unit
  | [], S => .ok () S
  | (a, b) :: r, S => (ke ((δ.set i (some a)).set j (some b)) S).nox.bind fun k S1 => (ve ((δ.set i (some a)).set j (some b)) S1).nox.bind fun v S2 => match S2[D₀]? with
    | some (.dct kvs) => if keyD k = true ∧ kvs.length < LIM then dcLoop n D₀ δ i j ke ve r (S2.set D₀ (.dct (dkPut kvs k v))) else .stuck
    | _ => .stuck
def dcM (own : List Nat) (d i j : Nat) (ke ve : EM) : EM := fun δ S => match δ[d]? with
  | some (some (.ref n)) => (match S[n]? with
    | some (.dct kvs) => (dcLoop n S.length (wipe δ own) i j ke ve kvs (S.set n (.lck kvs) ++ [.dct []])).bind fun _ S2 => (match S2[n]? with
      | some (.lck ks) => .ok (.ref S.length) (S2.set n (.dct ks))
      | _ => .stuck)
    | _ => .stuck)
  | _ => .stuck
/-- zip(a, b), both tuples -/
def zipI (a b : EM) : IM := fun δ S => (argsM [a, b] δ S).bind fun ds S1 => match ds with
  | [.tup xs, .tup ys] => .ok ⟨(xs.zip ys).map fun p => D.tup [p.1, p.2], always⟩ S1
  | _ => .stuck
/-- pairs of a text and a number or a text -/
def pairD : D → Bool
  | .tup [.str _, .int _] => true
  | .tup [.str _, .str _] => true
  | _ => false
/-- each once, in the order they are met -/
def firstD (xs : List D) : List D := xs.foldl (fun acc x => if x ∈ acc then acc else acc ++ [x]) []
/-- len(set(xs)), few different pairs -/
def lenSetP : FM := fun ds S => match ds with
  | [.ref n] => (match lstAt S n with
    | some xs => if xs.all pairD = true ∧ xs.length < 64 ∧ (firstD xs).length ≤ 4 then .ok (.int (firstD xs).length) S else .stuck
    | none => .stuck)
  | _ => .stuck
end Dl

end

section
set_option linter.all false
set_option Elab.async false
set_option maxRecDepth 100000
set_option linter.all false
set_option Elab.async false
/-! DlEv: the combinators applied, for simp; loops by invariants; frames. Plain Lean. -/
namespace DlM
open Dl
section
variable {i : Nat} {δ : Env} {S : Store}
@[scoped simp] theorem varM_ap : varM i δ S = match δ[i]? with | some (some d) => .ok d S | _ => .stuck := id rfl
@[scoped simp] theorem conM_ap (d : D) : conM d δ S = .ok d S := id rfl
@[scoped simp] theorem argsM_nil : argsM [] δ S = .ok [] S := id rfl
@[scoped simp] theorem argsM_cons (e : EM) (es : List EM) : argsM (e :: es) δ S = (e δ S).bind fun d S1 => (argsM es δ S1).bind fun ds S2 => .ok (d :: ds) S2 := id rfl
@[scoped simp] theorem callM_ap (f : FM) (es : List EM) : callM f es δ S = (argsM es δ S).bind f := id rfl
@[scoped simp] theorem tvM_ap (m : EM) : tvM m δ S = (m δ S).bind fun d S1 => match truth d S1 with | some b => .ok b S1 | none => .stuck := id rfl
@[scoped simp] theorem tbM_ap (m : EM) : tbM m δ S = (m δ S).bind fun d S1 => match d with | .bl b => .ok b S1 | _ => .stuck := id rfl
@[scoped simp] theorem andT_ap (a b : TM) : andT a b δ S = (a δ S).bind fun c S1 => if c = true then b δ S1 else .ok false S1 := id rfl
@[scoped simp] theorem orT_ap (a b : TM) : orT a b δ S = (a δ S).bind fun c S1 => if c = true then .ok true S1 else b δ S1 := id rfl
@[scoped simp] theorem notT_ap (a : TM) : notT a δ S = (a δ S).bind fun c S1 => .ok (!c) S1 := id rfl
@[scoped simp] theorem yesT_ap : yesT δ S = .ok true S := id rfl
@[scoped simp] theorem ifM_ap (t : TM) (a b : EM) : ifM t a b δ S = (t δ S).bind fun c S1 => if c = true then a δ S1 else b δ S1 := id rfl
@[scoped simp] theorem andV_ap (a b : EM) : andV a b δ S = (a δ S).bind fun d S1 => match d with | .bl c => if c = true then b δ S1 else .ok (.bl false) S1 | _ => .stuck := id rfl
@[scoped simp] theorem orV_ap (a b : EM) : orV a b δ S = (a δ S).bind fun d S1 => match d with | .bl c => if c = true then .ok (.bl true) S1 else b δ S1 | _ => .stuck := id rfl
@[scoped simp] theorem notV_ap (a : EM) : notV a δ S = (a δ S).bind fun d S1 => match d with | .bl c => .ok (.bl (!c)) S1 | _ => .stuck := id rfl
@[scoped simp] theorem sliceM_ap (o : EM) (lo hi : Option EM) : sliceM o lo hi δ S = (o δ S).bind fun d S1 => (optI lo δ S1).bind fun l S2 => (optI hi δ S2).bind fun h S3 => sliceP d l h S3 := id rfl
@[scoped simp] theorem optI_none : optI none δ S = .ok none S := id rfl
@[scoped simp] theorem optI_some (e : EM) : optI (some e) δ S = (e δ S).bind fun d S1 => match d with | .int i => .ok (some i) S1 | _ => .stuck := id rfl
@[scoped simp] theorem seqI_ap (e : EM) : seqI e δ S = (e δ S).bind fun d S1 => match d with
  | .ref n => (match lstAt S1 n with | some xs => .ok ⟨xs, isLst n xs⟩ S1 | none => .stuck)
  | .tup xs => .ok ⟨xs, always⟩ S1
  | .lit xs => .ok ⟨xs, always⟩ S1
  | _ => .stuck := id rfl
@[scoped simp] theorem rangeI_ap (es : List EM) : rangeI es δ S = (argsM es δ S).bind fun ds S1 => match ds with
  | [.int j] => if inRange j then .ok ⟨rangeL 0 j, always⟩ S1 else .stuck
  | [.int i, .int j] => if inRange i && inRange j then .ok ⟨rangeL i j, always⟩ S1 else .stuck
  | _ => .stuck := id rfl
@[scoped simp] theorem methI_ap (C m : String) (F : FM) (o : EM) (es : List EM) : methI C m F o es δ S = (o δ S).bind fun d S1 => match d with
  | .ref n => (match insAt S1 n C with
    | some fs => if getF m fs = none then (argsM es δ S1).bind fun ds S2 => F (d :: ds) S2 else .stuck
    | none => .stuck)
  | _ => .stuck := id rfl
@[scoped simp] theorem makeM_ap (C : String) (F : FM) (es : List EM) : makeM C F es δ S = (argsM es δ S).bind fun ds S1 =>
  (F (.ref S1.length :: ds) (S1 ++ [.ins C []])).bind fun r S2 => if r = .non then .ok (.ref S1.length) S2 else .stuck := id rfl
@[scoped simp] theorem callV_ap (Fs : List (String × FM)) (es : List EM) : callV i Fs es δ S = match δ[i]? with
  | some (some (.fn x)) => (match Fs.lookup x with | some F => callM F es δ S | none => .stuck)
  | _ => .stuck := id rfl
@[scoped simp] theorem methM_ap (T : String) (p : FM) (o : EM) (es : List EM) : methM T p o es δ S = (o δ S).bind fun d S1 => if tyN d S1 = some T then (argsM es δ S1).bind fun ds S2 => p (d :: ds) S2 else .stuck := id rfl
@[scoped simp] theorem catM_nil (acc : Cs) : catM acc [] δ S = .ok (.str acc) S := id rfl
@[scoped simp] theorem catM_cons (acc : Cs) (e : EM) (es : List EM) : catM acc (e :: es) δ S = (e δ S).bind fun d S1 => match d with
    | .str y => if acc.length + y.length ≤ LIM then catM (acc ++ y) es δ S1 else .stuck
    | _ => .stuck := id rfl
/-! statements -/
@[scoped simp] theorem blkS_nil : blkS [] δ S = .ok (.nx δ) S := id rfl
@[scoped simp] theorem blkS_one (a : SM) : blkS [a] δ S = a δ S := id rfl
@[scoped simp] theorem blkS_cons (a b : SM) (r : List SM) : blkS (a :: b :: r) δ S = (a δ S).bind fun f S1 => match f with | .nx δ1 => blkS (b :: r) δ1 S1 | _ => .ok f S1 := id rfl
@[scoped simp] theorem setS_ap (tg : Tgt) (e : EM) : setS tg e δ S = (e δ S).thenS δ fun d S1 => match tg.put d δ with | some δ1 => .ok (.nx δ1) S1 | none => .stuck := id rfl
@[scoped simp] theorem augS_ap (p : FM) (e : EM) : augS i p e δ S = match δ[i]? with
  | some (some x) => (e δ S).thenS δ fun y S1 => (p [x, y] S1).thenS δ fun z S2 => .ok (.nx (δ.set i (some z))) S2
  | _ => .stuck := id rfl
@[scoped simp] theorem exprS_ap (e : EM) : exprS e δ S = (e δ S).thenS δ fun _ S1 => .ok (.nx δ) S1 := id rfl
@[scoped simp] theorem retS_ap (e : EM) : retS e δ S = (e δ S).thenS δ fun d S1 => .ok (.rt d) S1 := id rfl
@[scoped simp] theorem retN_ap : retN δ S = .ok (.rt .non) S := id rfl
@[scoped simp] theorem ifS_ap (t : TM) (a b : SM) : ifS t a b δ S = (t δ S).thenS δ fun c S1 => if c = true then a δ S1 else b δ S1 := id rfl
@[scoped simp] theorem brkS_ap : brkS δ S = .ok (.bk δ) S := id rfl
@[scoped simp] theorem cntS_ap : cntS δ S = .ok (.ct δ) S := id rfl
@[scoped simp] theorem neverS_ap : neverS δ S = .stuck := id rfl
@[scoped simp] theorem raiseS_ap (C : String) (fl : List String) (ms : List EM) : raiseS C fl ms δ S = (argsM ms δ S).thenS δ fun ds S1 => if ds.length = fl.length then .ok (.ex ⟨C, (fl.zip ds).reverse⟩ δ) S1 else .stuck := id rfl
theorem tryS_ap (c : Exc → Option Bool) (h : Exc → Option D) (s : SM) : tryS i c h s δ S = (s δ S).bind fun f S1 => match f with
  | .ex e δ1 => if i < δ1.length then (match c e with
    | some true => (match h e with | some d => .ok (.rt d) S1 | none => .stuck)
    | some false => .ok (.ex e δ1) S1
    | none => .stuck) else .stuck
  | f => .ok f S1 := id rfl
@[scoped simp] theorem noxS_ap (s : SM) : noxS s δ S = (s δ S).bind fun f S1 => match f with | .ex _ _ => .stuck | _ => .ok f S1 := id rfl
@[scoped simp] theorem forS_ap (src : IM) (tg : Tgt) (body : SM) : forS src tg body δ S = (src δ S).thenS δ fun s S1 => forLoop s.still tg body s.items δ S1 := id rfl
@[scoped simp] theorem whileS_ap (t : TM) (body : SM) : whileS t body δ S = whileLoop t body FUEL δ S := id rfl
@[scoped simp] theorem put_nm (d : D) : (Tgt.nm i).put d δ = some (δ.set i (some d)) := id rfl
@[scoped simp] theorem put_tp (is : List Nat) (ds : List D) : (Tgt.tp is).put (.tup ds) δ = if ds.length = is.length then some (setAll is ds δ) else none := id rfl
@[scoped simp] theorem setAll_nil : setAll [] [] δ = δ := id rfl
@[scoped simp] theorem setAll_cons (is : List Nat) (d : D) (ds : List D) : setAll (i :: is) (d :: ds) δ = setAll is ds (δ.set i (some d)) := id rfl
@[scoped simp] theorem wipe_nil : wipe δ [] = δ := id rfl
@[scoped simp] theorem wipe_cons (v : Nat) (vs : List Nat) : wipe δ (v :: vs) = (wipe δ vs).set v none := id rfl
/-- a def's answer -/
theorem sat_defM {params slots : Nat} {body : SM} {ds : List D} {Q : D → Store → Prop} {E : Exc → Store → Prop} (hl : ds.length = params)
    (h : (body (ds.map some ++ List.replicate (slots - params) none) S).sat fun f S1 => match f with | .rt d => Q d S1 | .nx _ => Q .non S1 | .ex e _ => E e S1 | _ => False) : (defM params slots body ds S).sat Q E := by
  unfold defM
  rw [if_pos hl]
  rw [Res.sat_bind]
  cases e : body (ds.map some ++ List.replicate (slots - params) none) S with
  | stuck => rw [e, Res.sat_stuck] at h; exact h.elim
  | exc y S1 => rw [e, Res.sat_exc] at h; exact h.elim
  | ok f S1 =>
    rw [e, Res.sat_ok] at h
    simp only [Res.nox_ok, Res.sat_ok]
    cases f <;> simpa using h
end
/-! built-ins on shapes -/
section
variable {S : Store}
@[scoped simp] theorem eqP_int (i j : Int) : eqP [.int i, .int j] S = .ok (.bl (decide (i = j))) S := by simp [eqP, D.scal]
@[scoped simp] theorem eqP_str (i j : Cs) : eqP [.str i, .str j] S = .ok (.bl (decide (i = j))) S := by simp [eqP, D.scal]
@[scoped simp] theorem eqP_bl (i j : Bool) : eqP [.bl i, .bl j] S = .ok (.bl (decide (i = j))) S := by simp [eqP, D.scal]
@[scoped simp] theorem eqP_non : eqP [.non, .non] S = .ok (.bl true) S := by simp [eqP, D.scal]
@[scoped simp] theorem neP_ap (ds : List D) : neP ds S = (eqP ds S).bind fun d S => match d with | .bl b => .ok (.bl (!b)) S | _ => .stuck := id rfl
@[scoped simp] theorem notInP_ap (ds : List D) : notInP ds S = (inP ds S).bind fun d S => match d with | .bl b => .ok (.bl (!b)) S | _ => .stuck := id rfl
@[scoped simp] theorem inP_str (c : Nat) (ys : Cs) : inP [.str [c], .str ys] S = .ok (.bl (decide (c ∈ ys))) S := id rfl
@[scoped simp] theorem isNonP_ap (d : D) : isNonP [d] S = .ok (.bl (decide (d = .non))) S := id rfl
@[scoped simp] theorem notNonP_ap (d : D) : notNonP [d] S = .ok (.bl (!decide (d = .non))) S := id rfl
@[scoped simp] theorem addP_int (i j : Int) : addP [.int i, .int j] S = .ok (.int (i + j)) S := id rfl
@[scoped simp] theorem addP_str (i j : Cs) : addP [.str i, .str j] S = if i.length + j.length ≤ LIM then .ok (.str (i ++ j)) S else .stuck := id rfl
@[scoped simp] theorem addP_ref (n m : Nat) : addP [.ref n, .ref m] S = (match S[n]?, S[m]? with
    | some (.lst xs), some (.lst ys) => if xs.length + ys.length ≤ LIM then .ok (.ref S.length) (S ++ [.lst (xs ++ ys)]) else .stuck
    | _, _ => .stuck) := id rfl
@[scoped simp] theorem subP_int (i j : Int) : subP [.int i, .int j] S = .ok (.int (i - j)) S := id rfl
theorem mulP_str (x : Cs) (j : Int) : mulP [.str x, .int j] S = if 0 ≤ j ∧ x.length * j.toNat ≤ LIM ∧ j ≤ (LIM : Int) then .ok (.str (List.replicate j.toNat x).flatten) S else .stuck := id rfl
@[scoped simp] theorem mulP_int (i j : Int) : mulP [.int i, .int j] S = if small64 i || small64 j then .ok (.int (i * j)) S else .stuck := id rfl
@[scoped simp] theorem modP_int (i j : Int) : modP [.int i, .int j] S = if 0 < j then .ok (.int (i % j)) S else .stuck := id rfl
@[scoped simp] theorem fdivP_int (i j : Int) : fdivP [.int i, .int j] S = if 0 < j ∧ j < 1073741824 then .ok (.int (i / j)) S else .stuck := id rfl
@[scoped simp] theorem powP_int (i j : Int) : powP [.int i, .int j] S = if 0 ≤ j ∧ j ≤ 1000000 ∧ i.natAbs < 2 ^ 64 then .ok (.int (i ^ j.toNat)) S else .stuck := id rfl
@[scoped simp] theorem negP_int (i : Int) : negP [.int i] S = .ok (.int (-i)) S := id rfl
@[scoped simp] theorem ltP_int (i j : Int) : ltP [.int i, .int j] S = .ok (.bl (decide (i < j))) S := id rfl
@[scoped simp] theorem leP_int (i j : Int) : leP [.int i, .int j] S = .ok (.bl (decide (i ≤ j))) S := id rfl
@[scoped simp] theorem gtP_int (i j : Int) : gtP [.int i, .int j] S = .ok (.bl (decide (j < i))) S := id rfl
@[scoped simp] theorem geP_int (i j : Int) : geP [.int i, .int j] S = .ok (.bl (decide (j ≤ i))) S := id rfl
@[scoped simp] theorem ixP_ref (n : Nat) (i : Int) : ixP [.ref n, .int i] S = (match lstAt S n with | some xs => (match atI xs i with | some d => .ok d S | none => .stuck) | none => .stuck) := id rfl
@[scoped simp] theorem ixP_tup (xs : List D) (i : Int) : ixP [.tup xs, .int i] S = (match atI xs i with | some d => .ok d S | none => .stuck) := id rfl
@[scoped simp] theorem ixP_lit (xs : List D) (i : Int) : ixP [.lit xs, .int i] S = (match atI xs i with | some d => .ok d S | none => .stuck) := id rfl
@[scoped simp] theorem ixP_str (x : Cs) (i : Int) : ixP [.str x, .int i] S = if x.length ≤ LIM then (match atI x i with | some c => .ok (.str [c]) S | none => .stuck) else .stuck := id rfl
@[scoped simp] theorem sliceP_ref (n : Nat) (lo hi : Option Int) : sliceP (.ref n) lo hi S = (match lstAt S n with | some xs => .ok (.ref S.length) (S ++ [.lst (cut xs lo hi)]) | none => .stuck) := id rfl
@[scoped simp] theorem sliceP_tup (xs : List D) (lo hi : Option Int) : sliceP (.tup xs) lo hi S = .ok (.tup (cut xs lo hi)) S := id rfl
@[scoped simp] theorem sliceP_str (x : Cs) (lo hi : Option Int) : sliceP (.str x) lo hi S = if x.length ≤ LIM then .ok (.str (cut x lo hi)) S else .stuck := id rfl
@[scoped simp] theorem lenP_str (x : Cs) : lenP [.str x] S = if x.length ≤ LIM then .ok (.int x.length) S else .stuck := id rfl
@[scoped simp] theorem lenP_tup (x : List D) : lenP [.tup x] S = .ok (.int x.length) S := id rfl
@[scoped simp] theorem lenP_lit (x : List D) : lenP [.lit x] S = .ok (.int x.length) S := id rfl
@[scoped simp] theorem lenP_ref (n : Nat) : lenP [.ref n] S = (match S[n]? with
    | some (.lst xs) => .ok (.int xs.length) S
    | some (.dct xs) => .ok (.int xs.length) S
    | _ => .stuck) := id rfl
@[scoped simp] theorem strP_int (i : Int) : strP [.int i] S = if i.natAbs < 2 ^ 1900 then .ok (.str (intCs i)) S else .stuck := id rfl
@[scoped simp] theorem fmtP_int (i : Int) : fmtP [.int i] S = if i.natAbs < 2 ^ 1900 then .ok (.str (intCs i)) S else .stuck := id rfl
@[scoped simp] theorem fmtP_str (x : Cs) : fmtP [.str x] S = if x.length ≤ LIM then .ok (.str x) S else .stuck := id rfl
@[scoped simp] theorem intP_str (x : Cs) : intP [.str x] S = if x.length ≤ 640 then (match csInt x with | some n => .ok (.int n) S | none => .stuck) else .stuck := id rfl
@[scoped simp] theorem intP_int (i : Int) : intP [.int i] S = .ok (.int i) S := id rfl
@[scoped simp] theorem intP_bl (b : Bool) : intP [.bl b] S = .ok (.int (b2i b)) S := id rfl
@[scoped simp] theorem listP_ref (n : Nat) : listP [.ref n] S = (match lstAt S n with | some xs => .ok (.ref S.length) (S ++ [.lst xs]) | none => .stuck) := id rfl
@[scoped simp] theorem tupleP_ref (n : Nat) : tupleP [.ref n] S = (match lstAt S n with | some xs => .ok (.tup xs) S | none => .stuck) := id rfl
@[scoped simp] theorem appendP_ref (n : Nat) (d : D) : appendP [.ref n, d] S = (match S[n]? with | some (.lst xs) => if xs.length < LIM then .ok .non (S.set n (.lst (xs ++ [d]))) else .stuck | _ => .stuck) := id rfl
@[scoped simp] theorem popP_ref (n : Nat) : popP [.ref n] S = (match S[n]? with | some (.lst xs) => (match xs[xs.length - 1]? with | some d => .ok d (S.set n (.lst xs.dropLast)) | none => .stuck) | _ => .stuck) := id rfl
@[scoped simp] theorem reverseP_ref (n : Nat) : reverseP [.ref n] S = (match S[n]? with | some (.lst xs) => .ok .non (S.set n (.lst xs.reverse)) | _ => .stuck) := id rfl
@[scoped simp] theorem putLP_ref (v : D) (n : Nat) (k : Int) : putLP [v, .ref n, .int k] S = (match S[n]? with
    | some (.lst xs) => (match ixN xs.length k with | some j => .ok .non (S.set n (.lst (xs.set j v))) | none => .stuck)
    | _ => .stuck) := id rfl
@[scoped simp] theorem isP_ap (Ts : List String) (d : D) : isP Ts [d] S = (match tyN d S with | some t => .ok (.bl (Ts.any fun T => isTy t T)) S | none => .stuck) := id rfl
@[scoped simp] theorem tyN_non : tyN .non S = some "NoneType" := id rfl
@[scoped simp] theorem tyN_bl (b : Bool) : tyN (.bl b) S = some "bool" := id rfl
@[scoped simp] theorem tyN_int (i : Int) : tyN (.int i) S = some "int" := id rfl
@[scoped simp] theorem tyN_str (x : Cs) : tyN (.str x) S = some "str" := id rfl
@[scoped simp] theorem tyN_tup (x : List D) : tyN (.tup x) S = some "tuple" := id rfl
@[scoped simp] theorem tyN_lit (x : List D) : tyN (.lit x) S = some "list" := id rfl
@[scoped simp] theorem tyN_ref (n : Nat) : tyN (.ref n) S = (match S[n]? with | some (.lst _) => some "list" | some (.dct _) => some "dict" | _ => none) := id rfl
theorem tyN_lst {n : Nat} {xs : List D} (h : S[n]? = some (.lst xs)) : tyN (.ref n) S = some "list" := by simp [tyN, h]
theorem lstAt_of {n : Nat} {xs : List D} (h : S[n]? = some (.lst xs)) : lstAt S n = some xs := by simp [lstAt, h]
@[scoped simp] theorem lstP_ap (ds : List D) : lstP ds S = if ds.length ≤ LIM then .ok (.ref S.length) (S ++ [.lst ds]) else .stuck := id rfl
@[scoped simp] theorem tupP_ap (ds : List D) : tupP ds S = if ds.length ≤ LIM then .ok (.tup ds) S else .stuck := id rfl
@[scoped simp] theorem addIS_int (i j : Int) : addIS [.int i, .int j] S = .ok (.int (i + j)) S := id rfl
@[scoped simp] theorem addIS_str (i j : Cs) : addIS [.str i, .str j] S = if i.length + j.length ≤ LIM then .ok (.str (i ++ j)) S else .stuck := id rfl
@[scoped simp] theorem maxP_ref (n : Nat) : maxP [.ref n] S = (match lstAt S n with
    | some xs => (match intsOf xs with
      | some (a :: r) => .ok (.int (maxL a r)) S
      | _ => .stuck)
    | none => .stuck) := id rfl
@[scoped simp] theorem minP_int (i j : Int) : minP [.int i, .int j] S = .ok (.int (if j < i then j else i)) S := id rfl
@[scoped simp] theorem joinP_ref (sep : Cs) (n : Nat) : joinP [.str sep, .ref n] S = (match lstAt S n with
    | some xs => (match strsOf xs with
      | some ys => if (ys.map List.length).sum + ys.length * sep.length ≤ LIM then .ok (.str (joinCs sep ys)) S else .stuck
      | none => .stuck)
    | none => .stuck) := id rfl
end
theorem le_LIM {n : Nat} (h : n ≤ 1000000) : n ≤ LIM := Nat.le_trans h (by decide)
theorem lt_LIM {n : Nat} (h : n ≤ 1000000) : n < LIM := Nat.lt_of_le_of_lt h (by decide)
@[scoped simp] theorem lim_0 : 0 ≤ LIM := by decide
@[scoped simp] theorem lim_1 : 1 ≤ LIM := by decide
@[scoped simp] theorem lim_2 : 2 ≤ LIM := by decide
@[scoped simp] theorem lim_3 : 3 ≤ LIM := by decide
@[scoped simp] theorem lim_4 : 4 ≤ LIM := by decide
@[scoped simp] theorem lim_5 : 5 ≤ LIM := by decide
@[scoped simp] theorem lim_6 : 6 ≤ LIM := by decide
@[scoped simp] theorem lim_7 : 7 ≤ LIM := by decide
@[scoped simp] theorem lim_8 : 8 ≤ LIM := by decide
@[scoped simp] theorem lim_9 : 9 ≤ LIM := by decide
@[scoped simp] theorem lim_10 : 10 ≤ LIM := by decide
@[scoped simp] theorem lim_11 : 11 ≤ LIM := by decide
@[scoped simp] theorem lim_12 : 12 ≤ LIM := by decide
@[scoped simp] theorem lim_13 : 13 ≤ LIM := by decide
@[scoped simp] theorem lim_14 : 14 ≤ LIM := by decide
@[scoped simp] theorem lim_15 : 15 ≤ LIM := by decide
@[scoped simp] theorem limt_0 : 0 < LIM := by decide
@[scoped simp] theorem strsOf_map (xs : List Cs) : strsOf (xs.map D.str) = some xs := by
  induction xs with
  | nil => rfl
  | cons x r ih => simp [strsOf, ih]
@[scoped simp] theorem intsOf_map (xs : List Int) : intsOf (xs.map D.int) = some xs := by
  induction xs with
  | nil => rfl
  | cons x r ih => simp [intsOf, ih]
@[scoped simp] theorem strsOf_cons (x : Cs) (r : List D) : strsOf (.str x :: r) = (strsOf r).map fun xs => x :: xs := id rfl
@[scoped simp] theorem intsOf_cons (x : Int) (r : List D) : intsOf (.int x :: r) = (intsOf r).map fun xs => x :: xs := id rfl
@[scoped simp] theorem strsOf_nil : strsOf [] = some [] := id rfl
@[scoped simp] theorem intsOf_nil : intsOf [] = some [] := id rfl
theorem atI_nat {α : Type} {xs : List α} {k : Nat} {x : α} (h : xs[k]? = some x) : atI xs (k : Int) = some x := by
  have hk : k < xs.length := (List.getElem?_eq_some_iff.mp h).1
  unfold atI ixN
  rw [if_pos (by omega), if_pos (by omega)]
  simpa using h
theorem atI_int {α : Type} {xs : List α} {i : Int} (h0 : 0 ≤ i) (h : i < xs.length) : ∃ x, atI xs i = some x ∧ xs[i.toNat]? = some x := by
  have hk : i.toNat < xs.length := by omega
  refine ⟨xs[i.toNat], ?_, List.getElem?_eq_getElem hk⟩
  have := atI_nat (List.getElem?_eq_getElem hk)
  rwa [Int.toNat_of_nonneg h0] at this
@[scoped simp] theorem atI_zero {α : Type} {x : α} {xs : List α} : atI (x :: xs) 0 = some x := by simp [atI, ixN]
@[scoped simp] theorem atI_one {α : Type} {x y : α} {xs : List α} : atI (x :: y :: xs) 1 = some y := atI_nat (k := 1) rfl
@[scoped simp] theorem atI_two {α : Type} {x y z : α} {xs : List α} : atI (x :: y :: z :: xs) 2 = some z := atI_nat (k := 2) rfl
theorem atI_last {α : Type} {x : α} {xs : List α} : atI (xs ++ [x]) (-1) = some x := by
  unfold atI ixN
  rw [if_neg (by omega), if_pos (by simp; omega)]
  have e : ((-1 : Int) + ((xs ++ [x]).length : Nat)).toNat = xs.length := by rw [List.length_append]; simp only [List.length_singleton]; omega
  rw [e]
  simp
theorem ixN_last {α : Type} {x : α} {xs : List α} : ixN (xs ++ [x]).length (-1) = some xs.length := by
  unfold ixN
  rw [if_neg (by omega), if_pos (by simp; omega)]
  have e : ((-1 : Int) + ((xs ++ [x]).length : Nat)).toNat = xs.length := by rw [List.length_append]; simp only [List.length_singleton]; omega
  rw [e]
theorem ixN_nat {n k : Nat} (h : k < n) : ixN n (k : Int) = some k := by
  unfold ixN
  rw [if_pos (by omega), if_pos (by omega)]
  simp
theorem ixN_int {n : Nat} {i : Int} (h0 : 0 ≤ i) (h : i < n) : ixN n i = some i.toNat := by
  unfold ixN
  rw [if_pos h0, if_pos h]
theorem cut_nat {α : Type} (xs : List α) (a b : Nat) (hb : b ≤ xs.length) : cut xs (some (a : Int)) (some (b : Int)) = (xs.drop a).take (b - a) := by
  unfold cut sIx
  simp only []
  rw [if_neg (by omega), if_neg (by omega)]
  by_cases h : a ≤ xs.length
  · congr 1
    · omega
    · congr 1; omega
  · rw [List.drop_eq_nil_of_le (by omega), List.drop_eq_nil_of_le (by omega)]
    simp
theorem cut_to {α : Type} (xs : List α) (b : Nat) : cut xs none (some (b : Int)) = xs.take b := by
  unfold cut sIx
  simp only [List.drop_zero, Nat.sub_zero]
  rw [if_neg (by omega)]
  simp only [Int.toNat_natCast]
  by_cases h : b ≤ xs.length
  · rw [Nat.min_eq_left h]
  · rw [Nat.min_eq_right (by omega), List.take_of_length_le (by omega), List.take_of_length_le (by omega)]
theorem cut_from {α : Type} (xs : List α) (a : Nat) : cut xs (some (a : Int)) none = xs.drop a := by
  unfold cut sIx
  simp only []
  rw [if_neg (by omega)]
  simp only [Int.toNat_natCast]
  by_cases h : a ≤ xs.length
  · rw [Nat.min_eq_left h]
    exact List.take_of_length_le (by simp)
  · rw [List.drop_eq_nil_of_le (by omega), List.drop_eq_nil_of_le (show xs.length ≤ a by omega)]
    simp
@[scoped simp] theorem rangeL_length (n : Nat) : (rangeL 0 n).length = n := by simp [rangeL]
theorem inRange_nat {n : Nat} (h : n ≤ 1000000000) : inRange n = true := by
  unfold inRange
  simp only [Bool.and_eq_true, decide_eq_true_eq]
  omega
theorem rangeL_get {n k : Nat} (h : k < (rangeL 0 n).length) : (rangeL 0 n)[k] = .int k := by simp [rangeL]
theorem rangeL_get2 {a b : Int} {k : Nat} (h : k < (rangeL a b).length) : (rangeL a b)[k] = .int (a + k) := by simp [rangeL]
theorem rangeL_len2 (a b : Int) : (rangeL a b).length = (b - a).toNat := by simp [rangeL]

theorem sat_seq {a b : SM} {r : List SM} {δ : Env} {S : Store} {Q : Flow → Store → Prop} {E : Exc → Store → Prop} (R : Env → Store → Prop) (h1 : (a δ S).sat (fun f S1 => match f with | .nx δ1 => R δ1 S1 | f => Q f S1) E)
    (h2 : ∀ δ1 S1, R δ1 S1 → (blkS (b :: r) δ1 S1).sat Q E) : (blkS (a :: b :: r) δ S).sat Q E := by
  rw [blkS_cons, Res.sat_bind]
  refine h1.mono fun f S1 h => ?_
  cases f with
  | nx δ1 => exact h2 δ1 S1 h
  | rt d => simpa using h
  | bk d => simpa using h
  | ct d => simpa using h
  | ex e d => simpa using h
/-! loops -/
theorem for_inv {still : Store → Bool} {tg : Tgt} {body : SM} {xs : List D} {δ : Env} {S : Store} {Q : Flow → Store → Prop} {E : Exc → Store → Prop} (I : Nat → Env → Store → Prop) (h0 : I 0 δ S)
    (hs : ∀ k δ S, k ≤ xs.length → I k δ S → still S = true)
    (step : ∀ k (hk : k < xs.length) δ S, I k δ S → ∃ δ1, tg.put xs[k] δ = some δ1 ∧ (body δ1 S).sat (fun f S' => match f with
      | .nx δ' => I (k + 1) δ' S'
      | .ct δ' => I (k + 1) δ' S'
      | .bk δ' => Q (.nx δ') S'
      | .rt d => Q (.rt d) S'
      | .ex e δ' => Q (.ex e δ') S') E)
    (hend : ∀ δ S, I xs.length δ S → Q (.nx δ) S) : (forLoop still tg body xs δ S).sat Q E := by
  have main : ∀ (n k : Nat) (δ : Env) (S : Store), n + k = xs.length → I k δ S → (forLoop still tg body (xs.drop k) δ S).sat Q E := by
    intro n
    induction n with
    | zero =>
      intro k δ S hk hI
      have e : k = xs.length := by omega
      subst e
      rw [List.drop_length]
      unfold forLoop
      rw [if_pos (hs _ _ _ (Nat.le_refl _) hI)]
      rw [Res.sat_ok]
      exact hend _ _ hI
    | succ n ih =>
      intro k δ S hk hI
      have hlt : k < xs.length := by omega
      rw [List.drop_eq_getElem_cons hlt]
      unfold forLoop
      rw [if_pos (hs _ _ _ (by omega) hI)]
      obtain ⟨δ1, e1, h1⟩ := step k hlt δ S hI
      rw [e1]
      simp only [Res.sat_bind]
      refine h1.mono fun f S' h => ?_
      cases f with
      | nx δ' => exact ih (k + 1) δ' S' (by omega) h
      | ct δ' => exact ih (k + 1) δ' S' (by omega) h
      | bk δ' => simpa using h
      | rt d => simpa using h
      | ex e δ' => simpa using h
  have := main xs.length 0 δ S (by omega) h0
  simpa using this
theorem while_inv {t : TM} {body : SM} {Q : Flow → Store → Prop} {E : Exc → Store → Prop} (I : Nat → Env → Store → Prop)
    (step : ∀ n δ S, I n δ S → (t δ S).sat (fun c S1 => if c = true then (body δ S1).sat (fun f S' => match f with
      | .nx δ' => ∃ m, m < n ∧ I m δ' S'
      | .ct δ' => ∃ m, m < n ∧ I m δ' S'
      | .bk δ' => Q (.nx δ') S'
      | .rt d => Q (.rt d) S'
      | .ex e δ' => Q (.ex e δ') S') E else Q (.nx δ) S1) (fun e S1 => Q (.ex e δ) S1)) :
    ∀ (fuel n : Nat) (δ : Env) (S : Store), n < fuel → I n δ S → (whileLoop t body fuel δ S).sat Q E := by
  intro fuel
  induction fuel with
  | zero => intro n δ S h; omega
  | succ fuel ih =>
    intro n δ S hn hI
    unfold whileLoop
    rw [Res.sat_thenS]
    refine (step n δ S hI).mono fun c S1 h => ?_
    by_cases hc : c = true
    · rw [if_pos hc] at h ⊢
      rw [Res.sat_bind]
      refine h.mono fun f S' h => ?_
      cases f with
      | nx δ' => obtain ⟨m, hm, h⟩ := h; exact ih m δ' S' (by omega) h
      | ct δ' => obtain ⟨m, hm, h⟩ := h; exact ih m δ' S' (by omega) h
      | bk δ' => simpa using h
      | rt d => simpa using h
      | ex e δ' => simpa using h
    · rw [if_neg hc] at h ⊢
      simpa using h
theorem while_run {t : TM} {body : SM} {Q : Flow → Store → Prop} {E : Exc → Store → Prop} (I : Nat → Env → Store → Prop) (n : Nat) (hn : n ≤ 100000000) {δ : Env} {S : Store} (h0 : I n δ S)
    (step : ∀ n δ S, I n δ S → (t δ S).sat (fun c S1 => if c = true then (body δ S1).sat (fun f S' => match f with
      | .nx δ' => ∃ m, m < n ∧ I m δ' S'
      | .ct δ' => ∃ m, m < n ∧ I m δ' S'
      | .bk δ' => Q (.nx δ') S'
      | .rt d => Q (.rt d) S'
      | .ex e δ' => Q (.ex e δ') S') E else Q (.nx δ) S1) (fun e S1 => Q (.ex e δ) S1)) : (whileLoop t body FUEL δ S).sat Q E :=
  while_inv I step FUEL n δ S (Nat.lt_of_le_of_lt hn (by decide)) h0
/-- [elt for tg in xs] -/
theorem lc_inv {still : Store → Bool} {D₀ : Nat} {tg : Tgt} {tt : TM} {elt : EM} {xs : List D} {δ : Env} {S : Store} {Q : Unit → Store → Prop} (I : Nat → List D → Store → Prop)
    (h0 : I 0 [] S)
    (hs : ∀ k acc S, k ≤ xs.length → I k acc S → still S = true ∧ S[D₀]? = some (.lst acc) ∧ acc.length ≤ k) (hlen : xs.length ≤ LIM)
    (step : ∀ k (hk : k < xs.length) acc S, I k acc S → ∃ δ1, tg.put xs[k] δ = some δ1 ∧ (tt δ1 S).sat (fun b S1 => if b = true then (elt δ1 S1).sat (fun y S2 => S2[D₀]? = some (.lst acc) ∧ I (k + 1) (acc ++ [y]) (S2.set D₀ (.lst (acc ++ [y])))) else I (k + 1) acc S1))
    (hend : ∀ acc S, I xs.length acc S → Q () S) : (lcLoop still D₀ δ tg tt elt xs S).sat Q := by
  have main : ∀ (n k : Nat) (acc : List D) (S : Store), n + k = xs.length → I k acc S → (lcLoop still D₀ δ tg tt elt (xs.drop k) S).sat Q := by
    intro n
    induction n with
    | zero =>
      intro k acc S hk hI
      have e : k = xs.length := by omega
      subst e
      rw [List.drop_length]
      unfold lcLoop
      rw [if_pos (hs _ _ _ (Nat.le_refl _) hI).1]
      rw [Res.sat_ok]
      exact hend _ _ hI
    | succ n ih =>
      intro k acc S hk hI
      have hlt : k < xs.length := by omega
      rw [List.drop_eq_getElem_cons hlt]
      unfold lcLoop
      rw [if_pos (hs _ _ _ (by omega) hI).1]
      obtain ⟨δ1, e1, h1⟩ := step k hlt acc S hI
      rw [e1]
      simp only []
      rw [Res.sat_bind, Res.sat_nox]
      refine h1.mono fun b S1 h => ?_
      by_cases hb : b = true
      · rw [if_pos hb] at h ⊢
        rw [Res.sat_bind, Res.sat_nox]
        refine h.mono fun y S2 ⟨h2, h3⟩ => ?_
        rw [h2]
        simp only
        have hacc := (hs _ _ _ (by omega) hI).2.2
        rw [if_pos (by omega)]
        exact ih (k + 1) _ _ (by omega) h3
      · rw [if_neg hb] at h ⊢
        exact ih (k + 1) _ _ (by omega) h
  have := main xs.length 0 [] S (by omega) h0
  simpa using this
/-! frames -/
/-- but for what stands at xs, all is as it was -/
structure Fr (xs : List Nat) (S S' : Store) : Prop where
  le : S.length ≤ S'.length
  at_ : ∀ i, i < S.length → i ∉ xs → S'[i]? = S[i]?
theorem Fr.refl {xs : List Nat} {S : Store} : Fr xs S S := ⟨Nat.le_refl _, fun _ _ _ => rfl⟩
theorem Fr.trans {xs : List Nat} {S S1 S2 : Store} (a : Fr xs S S1) (b : Fr xs S1 S2) : Fr xs S S2 := ⟨Nat.le_trans a.le b.le, fun i h n => by rw [b.at_ i (Nat.lt_of_lt_of_le h a.le) n, a.at_ i h n]⟩
theorem Fr.mono {xs ys : List Nat} {S S' : Store} (a : Fr xs S S') (h : ∀ i ∈ xs, i ∈ ys) : Fr ys S S' := ⟨a.le, fun i hi n => a.at_ i hi fun z => n (h i z)⟩
theorem Fr.nil {ys : List Nat} {S S' : Store} (a : Fr [] S S') : Fr ys S S' := a.mono fun _ h => by cases h
/-- what was made within is of no account -/
theorem Fr.cut {xs ys : List Nat} {S S1 : Store} (a : Fr xs S S1) (h : ∀ i ∈ xs, i < S.length → i ∈ ys) : Fr ys S S1 := ⟨a.le, fun i hi n => a.at_ i hi fun z => n (h i z hi)⟩
theorem Fr.app {xs : List Nat} {S T : Store} : Fr xs S (S ++ T) := ⟨by simp, fun i h _ => by rw [List.getElem?_append_left h]⟩
theorem Fr.set {xs : List Nat} {S : Store} {i : Nat} {v : MO} (h : i ∈ xs) : Fr xs S (S.set i v) := ⟨by simp, fun j _ n => by rw [List.getElem?_set_ne (fun e : i = j => n (e ▸ h))]⟩
theorem Fr.get {xs : List Nat} {S S' : Store} {i : Nat} {v : MO} (a : Fr xs S S') (h : S[i]? = some v) (n : i ∉ xs) : S'[i]? = some v := by
  rw [a.at_ i (List.getElem?_eq_some_iff.mp h).1 n]; exact h
theorem Fr.set_new {xs : List Nat} {S S' : Store} {i : Nat} {v : MO} (a : Fr xs S S') (h : S.length ≤ i) : Fr xs S (S'.set i v) := ⟨by simpa using a.le, fun j hj n => by rw [List.getElem?_set_ne (by omega)]; exact a.at_ j hj n⟩
theorem Fr.push {xs : List Nat} {S S' T : Store} (a : Fr xs S S') : Fr xs S (S' ++ T) := a.trans .app
theorem lt_of_get {S : Store} {i : Nat} {v : MO} (h : S[i]? = some v) : i < S.length := (List.getElem?_eq_some_iff.mp h).1
@[scoped simp] theorem lcM_ap {own : List Nat} {src : IM} {tg : Tgt} {tt : TM} {elt : EM} {δ : Env} {S : Store} : lcM own src tg tt elt δ S = (src δ S).bind fun s S1 =>
  (lcLoop s.still S1.length (wipe δ own) tg tt elt s.items (S1 ++ [.lst []])).bind fun _ S2 => .ok (.ref S1.length) S2 := id rfl
/-- without an if -/
theorem lc_all {still : Store → Bool} {D₀ : Nat} {tg : Tgt} {elt : EM} {xs : List D} {δ : Env} {S : Store} {Q : Unit → Store → Prop} (J : Store → Prop) (P : Nat → D → Prop)
    (h0 : J S) (hD : S[D₀]? = some (.lst [])) (hJ : ∀ S v, J S → J (S.set D₀ v)) (hs : ∀ S, J S → still S = true) (hlen : xs.length ≤ LIM)
    (step : ∀ k (hk : k < xs.length) S acc, J S → S[D₀]? = some (.lst acc) → ∃ δ1, tg.put xs[k] δ = some δ1 ∧ (elt δ1 S).sat (fun y S2 => P k y ∧ J S2 ∧ S2[D₀]? = some (.lst acc)))
    (hend : ∀ (ys : List D) S, J S → S[D₀]? = some (.lst ys) → ys.length = xs.length → (∀ (k : Nat) (y : D), ys[k]? = some y → P k y) → Q () S) : (lcLoop still D₀ δ tg yesT elt xs S).sat Q := by
  refine lc_inv (fun k acc S => J S ∧ S[D₀]? = some (.lst acc) ∧ acc.length = k ∧ ∀ (k : Nat) (y : D), acc[k]? = some y → P k y) ⟨h0, hD, rfl, fun k y h => by simp at h⟩ ?_ hlen ?_ ?_
  · rintro k acc S _ ⟨h1, h2, h3, _⟩
    exact ⟨hs S h1, h2, by omega⟩
  · rintro k hk acc S ⟨h1, h2, h3, h4⟩
    obtain ⟨δ1, e1, h⟩ := step k hk S acc h1 h2
    refine ⟨δ1, e1, ?_⟩
    simp only [yesT_ap, Res.sat_ok, if_true]
    refine h.mono fun y S2 ⟨p, j, d⟩ => ⟨d, hJ _ _ j, ?_, by simp [h3], fun k' y' hy => ?_⟩
    · rw [List.getElem?_set_self (lt_of_get d)]
    · rw [List.getElem?_append] at hy
      split at hy
      · exact h4 k' y' hy
      · have e : k' = k := by
          by_cases z : k' - acc.length = 0
          · omega
          · rw [List.getElem?_eq_none (by simp; omega)] at hy
            cases hy
        subst e
        rw [h3, Nat.sub_self] at hy
        cases hy
        exact p
  · rintro acc S ⟨h1, h2, h3, h4⟩
    exact hend acc S h1 h2 h3 h4
theorem inP_strs {S : Store} {n : Nat} {x : Cs} {ws : List Cs} (h : S[n]? = some (.lst (ws.map D.str))) : inP [.str x, .ref n] S = .ok (.bl (decide (x ∈ ws))) S := by
  have e1 : ((ws.map D.str).all D.sc) = true := by simp [D.sc]
  have e2 : (D.str x).sc = true := rfl
  unfold inP
  simp only [lstAt_of h, e1, e2, Bool.and_self, Bool.true_or, if_true]
  congr 2
  rw [Bool.eq_iff_iff]
  simp [D.eqv]
theorem joinCs_nil (zs : List Cs) : joinCs [] zs = zs.flatten := by
  induction zs with
  | nil => rfl
  | cons x r ih =>
    cases r with
    | nil => simp [joinCs]
    | cons y r => simp [joinCs, ih]
theorem maxL_spec : ∀ (r : List Int) (a : Int), maxL a r ∈ a :: r ∧ ∀ x ∈ a :: r, x ≤ maxL a r := by
  intro r
  induction r with
  | nil => intro a; simp [maxL]
  | cons b r ih =>
    intro a
    unfold maxL
    obtain ⟨h1, h2⟩ := ih (if b > a then b else a)
    by_cases hb : b > a
    · rw [if_pos hb] at h1 h2 ⊢
      refine ⟨List.mem_cons_of_mem _ h1, fun x hx => ?_⟩
      rcases List.mem_cons.mp hx with rfl | hx
      · have := h2 b (by simp); omega
      · exact h2 x hx
    · rw [if_neg hb] at h1 h2 ⊢
      refine ⟨?_, fun x hx => ?_⟩
      · rcases List.mem_cons.mp h1 with h1 | h1
        · rw [h1]; simp
        · exact List.mem_cons_of_mem _ (List.mem_cons_of_mem _ h1)
      · rcases List.mem_cons.mp hx with rfl | hx
        · exact h2 x (by simp)
        · rcases List.mem_cons.mp hx with rfl | hx
          · have := h2 a (by simp); omega
          · exact h2 x (List.mem_cons_of_mem _ hx)
theorem ints_of {ys : List D} (h : ∀ (k : Nat) (y : D), ys[k]? = some y → ∃ z, y = D.int z) : ∃ zs : List Int, ys = zs.map D.int := by
  induction ys with
  | nil => exact ⟨[], rfl⟩
  | cons y r ih =>
    obtain ⟨z, rfl⟩ := h 0 y rfl
    obtain ⟨zs, rfl⟩ := ih fun k y hy => h (k + 1) y hy
    exact ⟨z :: zs, rfl⟩
theorem strs_of {P : Cs → Prop} {ys : List D} (h : ∀ (k : Nat) (y : D), ys[k]? = some y → ∃ z, y = D.str z ∧ P z) : ∃ zs : List Cs, ys = zs.map D.str ∧ ∀ z ∈ zs, P z := by
  induction ys with
  | nil => exact ⟨[], rfl, by simp⟩
  | cons y r ih =>
    obtain ⟨z, rfl, hz⟩ := h 0 y rfl
    obtain ⟨zs, rfl, hzs⟩ := ih fun k y hy => h (k + 1) y hy
    exact ⟨z :: zs, rfl, by simpa using ⟨hz, hzs⟩⟩
@[scoped simp] theorem always_ap {S : Store} : always S = true := id rfl
@[scoped simp] theorem isLst_ap {n : Nat} {xs : List D} {S : Store} : isLst n xs S = decide (lstAt S n = some xs) := id rfl
end DlM

end

section
set_option linter.all false
set_option Elab.async false
set_option maxRecDepth 100000
set_option linter.all false
set_option Elab.async false
/-! digits, slices, runs. Plain Lean. -/
namespace DlM
open Dl
theorem natCs_eq (n : Nat) : natCs n = if n < 10 then [48 + n] else natCs (n / 10) ++ [48 + n % 10] := by
  have dc : ∀ d, d < 10 → (Nat.digitChar d).toNat = 48 + d := by decide
  unfold natCs
  rw [Nat.toDigits_eq_if (by omega)]
  by_cases h : n < 10
  · rw [if_pos h, if_pos h]
    simp [dc n h]
  · rw [if_neg h, if_neg h]
    simp [dc (n % 10) (by omega)]
theorem natCs_digit (n : Nat) : ∀ c ∈ natCs n, 48 ≤ c ∧ c ≤ 57 := by
  induction n using Nat.strongRecOn with
  | _ n ih =>
    intro c hc
    rw [natCs_eq] at hc
    by_cases h : n < 10
    · rw [if_pos h] at hc
      rw [List.mem_singleton.mp hc]
      omega
    · rw [if_neg h] at hc
      rcases List.mem_append.mp hc with hc | hc
      · exact ih (n / 10) (by omega) c hc
      · rw [List.mem_singleton.mp hc]
        omega
theorem natCs_ne (n : Nat) : natCs n ≠ [] := by
  rw [natCs_eq]
  split <;> simp
theorem natCs_val (n : Nat) : digV (natCs n) = n := by
  induction n using Nat.strongRecOn with
  | _ n ih =>
    rw [natCs_eq]
    by_cases h : n < 10
    · rw [if_pos h]
      simp [digV]
    · rw [if_neg h]
      have e := ih (n / 10) (by omega)
      unfold digV at e ⊢
      rw [List.foldl_append, e]
      simp
      omega
theorem natCs_len {n k : Nat} (h0 : 0 < k) (h : n < 10 ^ k) : (natCs n).length ≤ k := by
  unfold natCs
  rw [List.length_map]
  exact (Nat.length_toDigits_le_iff (by omega) h0).mpr h
theorem natCs_head (n : Nat) (r : Cs) (h : natCs n = 48 :: r) : n = 0 := by
  induction n using Nat.strongRecOn generalizing r with
  | _ n ih =>
    rw [natCs_eq] at h
    by_cases h1 : n < 10
    · rw [if_pos h1] at h
      injection h with h2 h3
      omega
    · rw [if_neg h1] at h
      obtain ⟨c, t, e⟩ := List.exists_cons_of_ne_nil (natCs_ne (n / 10))
      rw [e] at h
      injection h with h2 h3
      have := ih (n / 10) (by omega) t (by rw [e, h2])
      omega
theorem natCs_zero : natCs 0 = [48] := by rw [natCs_eq]; rfl
theorem intCs_len {i : Int} {k : Nat} (h0 : 0 < k) (h : i.natAbs < 10 ^ k) : (intCs i).length ≤ k + 1 := by
  unfold intCs
  have := natCs_len h0 h
  split
  · simp; omega
  · omega
theorem csInt_intCs (i : Int) : csInt (intCs i) = some i := by
  have hd : (natCs i.natAbs).all isDigit = true := by
    rw [List.all_eq_true]
    intro c hc
    have := natCs_digit _ c hc
    simp [isDigit]
    omega
  unfold intCs
  by_cases h : i < 0
  · rw [if_pos h]
    unfold csInt
    simp only []
    rw [if_pos ⟨natCs_ne _, hd⟩, natCs_val]
    congr 1
    omega
  · rw [if_neg h]
    obtain ⟨c, t, e⟩ := List.exists_cons_of_ne_nil (natCs_ne i.natAbs)
    have hc := natCs_digit i.natAbs c (by rw [e]; simp)
    have e2 := natCs_val i.natAbs
    rw [e] at hd e2 ⊢
    unfold csInt
    split
    · rename_i z; cases z
    · rename_i z; injection z with z; omega
    · rename_i z
      injection z with z1 z2
      subst z1 z2
      rw [if_pos hd, e2]
      congr 1
      omega
theorem intCs_inj {i j : Int} (h : intCs i = intCs j) : i = j := by
  have := csInt_intCs i
  rw [h, csInt_intCs] at this
  exact (Option.some.inj this).symm
theorem intCs_ne (i : Int) : intCs i ≠ [] := by
  unfold intCs
  split
  · simp
  · exact natCs_ne _
/-! slices -/
theorem cut_is {α : Type} {x a b c : List α} {lo hi : Int} (hx : x = a ++ (b ++ c)) (hlo : lo = a.length) (hhi : hi = a.length + b.length) : cut x (some lo) (some hi) = b := by
  subst hx hlo
  have e : hi = ((a.length + b.length : Nat) : Int) := by omega
  rw [e, cut_nat _ _ _ (by simp)]
  simp
theorem atI_is {α : Type} {x a b : List α} {c : α} {i : Int} (hx : x = a ++ c :: b) (hi : i = a.length) : atI x i = some c := by
  subst hx hi
  exact atI_nat (by simp)
/-! runs -/
/-- so many at the beginning are of cs -/
def run (cs : Cs) : Cs → Nat
  | [] => 0
  | c :: r => if c ∈ cs then run cs r + 1 else 0
theorem run_le (cs : Cs) : ∀ y : Cs, run cs y ≤ y.length
  | [] => Nat.le_refl _
  | c :: r => by
    unfold run
    have := run_le cs r
    split
    · simp; omega
    · simp
theorem run_lt (cs : Cs) : ∀ (y : Cs) (j : Nat), j < run cs y → ∃ c, y[j]? = some c ∧ c ∈ cs
  | [], j, h => by simp [run] at h
  | c :: r, j, h => by
    unfold run at h
    by_cases hc : c ∈ cs
    · rw [if_pos hc] at h
      cases j with
      | zero => exact ⟨c, rfl, hc⟩
      | succ j =>
        obtain ⟨d, e1, e2⟩ := run_lt cs r j (by omega)
        exact ⟨d, by simpa using e1, e2⟩
    · rw [if_neg hc] at h
      omega
theorem run_stop (cs : Cs) : ∀ (y : Cs) (c : Nat), y[run cs y]? = some c → c ∉ cs
  | [], c, h => by simp at h
  | d :: r, c, h => by
    unfold run at h
    by_cases hc : d ∈ cs
    · rw [if_pos hc] at h
      exact run_stop cs r c (by simpa using h)
    · rw [if_neg hc] at h
      cases h
      exact hc
theorem run_app {cs w y : Cs} (hw : ∀ c ∈ w, c ∈ cs) (hy : ∀ c, y.head? = some c → c ∉ cs) : run cs (w ++ y) = w.length := by
  induction w with
  | nil =>
    cases y with
    | nil => rfl
    | cons c r =>
      show (if c ∈ cs then _ else _) = _
      rw [if_neg (hy c rfl)]
      rfl
  | cons c r ih =>
    show (if c ∈ cs then run cs (r ++ y) + 1 else 0) = _
    rw [if_pos (hw c (by simp)), ih fun d hd => hw d (List.mem_cons_of_mem _ hd)]
    rfl
theorem run_all {cs w y : Cs} (hw : ∀ c ∈ w, c ∈ cs) : run cs (w ++ y) = w.length + run cs y := by
  induction w with
  | nil => simp
  | cons c r ih =>
    show (if c ∈ cs then run cs (r ++ y) + 1 else 0) = _
    rw [if_pos (hw c (by simp)), ih fun d hd => hw d (List.mem_cons_of_mem _ hd)]
    simp; omega
theorem eq_of_sat {α : Type} {r : Res α} {v : α} {S : Store} (h : r.sat fun d S' => d = v ∧ S' = S) : r = .ok v S := by
  obtain ⟨a, S', e, h1, h2⟩ := Res.sat_iff.mp h
  rw [e, h1, h2]
end DlM

end

section
set_option linter.all false
set_option Elab.async false
set_option maxRecDepth 100000
set_option linter.all false
set_option Elab.async false
set_option maxRecDepth 100000
/-! the readings of the defs, printed by gen.py -/
namespace LW
open Dl
/-- slots: 0 term, 1 mapping, 2 variable, 3 worth -/
def F_put_terms : FM := defM 2 4 (blkS [(forS (seqI (varM 1)) (.tp [2, 3]) (blkS [(ifS (tbM (callM eqP [(varM 0), (callM tupP [(conM (.str [118, 97, 114])), (varM 2)])])) (blkS [(retS (varM 3))]) (blkS []))])), (retS (varM 0))])
/-- slots: 0 term, 1 bound -/
def F_resolved : FM := defM 2 2 (blkS [(ifS (tbM (callM eqP [(callM ixP [(varM 0), (conM (.int 0))]), (conM (.str [118, 97, 114]))])) (blkS [(retS (methM "dict" dgetP (varM 1) [(callM ixP [(varM 0), (conM (.int 1))]), (varM 0)]))]) (blkS [])), (retS (varM 0))])
/-- slots: 0 bound, 1 variable, 2 term, 3 grown, 4 known, 5 worth -/
def F_with_variable : FM := defM 3 6 (blkS [(setS (.nm 3) (dcM [4, 5] 0 4 5 (varM 4) (ifM (tbM (callM eqP [(varM 5), (callM tupP [(conM (.str [118, 97, 114])), (varM 1)])])) (varM 2) (varM 5)))), (exprS (callM dputP [(varM 2), (varM 3), (varM 1)])), (retS (varM 3))])
/-- slots: 0 terms, 1 others, 2 bound, 3 term, 4 other, 5 left, 6 right -/
def F_bound_terms : FM := defM 2 7 (blkS [(setS (.nm 2) (callM dctP [])), (forS (zipI (varM 0) (varM 1)) (.tp [3, 4]) (blkS [(setS (.nm 5) (callM F_resolved [(varM 3), (varM 2)])), (setS (.nm 6) (callM F_resolved [(varM 4), (varM 2)])), (ifS (tbM (callM neP [(varM 5), (varM 6)])) (blkS [(ifS (tbM (callM eqP [(callM ixP [(varM 5), (conM (.int 0))]), (conM (.str [118, 97, 114]))])) (blkS [(setS (.nm 2) (callM F_with_variable [(varM 2), (callM ixP [(varM 5), (conM (.int 1))]), (varM 6)]))]) (blkS [(ifS (tbM (callM eqP [(callM ixP [(varM 6), (conM (.int 0))]), (conM (.str [118, 97, 114]))])) (blkS [(setS (.nm 2) (callM F_with_variable [(varM 2), (callM ixP [(varM 6), (conM (.int 1))]), (varM 5)]))]) (blkS [(retS (conM .non))]))]))]) (blkS []))])), (retS (varM 2))])
/-- slots: 0 terms, 1 others, 2 bound, 3 variable -/
def F_unified : FM := defM 2 4 (blkS [(setS (.nm 2) (callM F_bound_terms [(varM 0), (varM 1)])), (ifS (tbM (callM isNonP [(varM 2)])) (blkS [(retS (conM .non))]) (blkS [])), (retS (callM tupleP [(lcM [3] (seqI (callM sortedDP [(varM 2)])) (.nm 3) yesT (callM tupP [(varM 3), (callM dixP [(varM 2), (varM 3)])]))]))])
/-- slots: 0 script, 1 many, 2 cells, 3 left, 4 draws, 5 k, 6 place, 7 mixed, 8 cell -/
def F__law_draws : FM := defM 2 9 (blkS [(setS (.nm 2) (lcM [8] (seqI (varM 0)) (.nm 8) yesT (callM intP [(varM 8)]))), (ifS (tbM (callM eqP [(callM lenP [(varM 2)]), (conM (.int 0))])) (blkS [(exprS (methM "list" appendP (varM 2) [(conM (.int 0))]))]) (blkS [])), (setS (.nm 3) (callM listP [(varM 2)])), (setS (.nm 4) (callM lstP [])), (forS (rangeI [(varM 1)]) (.nm 5) (blkS [(setS (.nm 6) (callM modP [(varM 5), (callM lenP [(varM 2)])])), (ifS (tbM (callM geP [(callM ixP [(varM 2), (varM 6)]), (callM powP [(conM (.int 10)), (conM (.int 18))])])) (blkS [(exprS (methM "list" appendP (varM 4) [(callM modP [(callM intP [(callM ixP [(varM 3), (varM 6)])]), (conM (.int 1000))])])), (exprS (callM putLP [(callM fdivP [(callM ixP [(varM 3), (varM 6)]), (conM (.int 1000))]), (varM 3), (varM 6)]))]) (blkS [(setS (.nm 7) (callM modP [(callM intP [(callM addP [(callM addP [(callM mulP [(callM ixP [(varM 2), (varM 6)]), (conM (.int 48271))]), (callM mulP [(varM 5), (conM (.int 69621))])]), (conM (.int 11))])]), (conM (.int 2147483647))])), (exprS (methM "list" appendP (varM 4) [(callM modP [(callM intP [(callM addP [(callM addP [(callM mulP [(varM 7), (varM 7)]), (callM mulP [(conM (.int 3)), (varM 7)])]), (varM 5)])]), (conM (.int 1000003))])]))]))])), (exprS (methM "list" reverseP (varM 4) [])), (retS (varM 4))])
/-- slots: 0 draws, 1 many -/
def F__law_take : FM := defM 2 2 (blkS [(ifS (tbM (callM eqP [(callM lenP [(varM 0)]), (conM (.int 0))])) (blkS [(retS (conM (.int 0)))]) (blkS [])), (retS (callM modP [(callM intP [(methM "list" popP (varM 0) [])]), (varM 1)]))])
/-- slots: 0 draws, 1 row -/
def F__law_pick : FM := defM 2 2 (blkS [(retS (callM ixP [(varM 1), (callM F__law_take [(varM 0), (callM lenP [(varM 1)])])]))])
/-- slots: 0 actual, 1 due, 2 k -/
def F__law_same : Nat → FM
  | 0 => fun _ _ => .stuck
  | n + 1 => defM 2 3 (blkS [(ifS (tbM (callM (isP ["tuple", "list"]) [(varM 1)])) (blkS [(ifS (orT (tbM (callM neP [(callM (isP ["tuple"]) [(varM 0)]), (callM (isP ["tuple"]) [(varM 1)])])) (tbM (callM neP [(callM (isP ["list"]) [(varM 0)]), (callM (isP ["list"]) [(varM 1)])]))) (blkS [(retS (conM (.bl false)))]) (blkS [])), (ifS (tbM (callM neP [(callM lenP [(varM 0)]), (callM lenP [(varM 1)])])) (blkS [(retS (conM (.bl false)))]) (blkS [])), (retS (callM notInP [(conM (.bl false)), (lcM [2] (rangeI [(callM lenP [(varM 1)])]) (.nm 2) yesT (callM (F__law_same n) [(callM ixP [(varM 0), (varM 2)]), (callM ixP [(varM 1), (varM 2)])]))]))]) (blkS [])), (ifS (orT (tbM (callM neP [(callM (isP ["bool"]) [(varM 0)]), (callM (isP ["bool"]) [(varM 1)])])) (tbM (callM neP [(callM (isP ["int"]) [(varM 0)]), (callM (isP ["int"]) [(varM 1)])]))) (blkS [(retS (conM (.bl false)))]) (blkS [])), (ifS (orT (tbM (callM neP [(callM (isP ["str"]) [(varM 0)]), (callM (isP ["str"]) [(varM 1)])])) (tbM (callM neP [(callM isNonP [(varM 0)]), (callM isNonP [(varM 1)])]))) (blkS [(retS (conM (.bl false)))]) (blkS [])), (retS (callM eqP [(varM 0), (varM 1)]))])
/-- slots: 0 draws, 1 many, 2 words, 3 k, 4 size, 5 word, 6 j, 7 other -/
def F__law_words : FM := defM 2 8 (blkS [(setS (.nm 2) (callM lstP [])), (forS (rangeI [(varM 1)]) (.nm 3) (blkS [(setS (.nm 4) (callM addP [(conM (.int 1)), (callM F__law_take [(varM 0), (conM (.int 3))])])), (ifS (tbM (callM eqP [(callM F__law_take [(varM 0), (conM (.int 9))]), (conM (.int 0))])) (blkS [(setS (.nm 4) (callM addP [(callM addP [(varM 4), (conM (.int 3))]), (callM F__law_take [(varM 0), (conM (.int 20))])]))]) (blkS [])), (setS (.nm 5) (methM "str" joinP (conM (.str [])) [(lcM [6] (rangeI [(varM 4)]) (.nm 6) yesT (callM ixP [(conM (.str [97, 98, 99, 100, 101, 102, 103, 104, 105, 106, 107, 108, 109, 110, 111, 112, 113, 114, 115, 116, 117, 118, 119, 120, 121, 122])), (callM F__law_take [(varM 0), (conM (.int 26))])]))])), (ifS (tbM (callM inP [(varM 5), (varM 2)])) (blkS [(setS (.nm 5) (callM mulP [(conM (.str [122])), (callM addP [(conM (.int 1)), (callM maxP [(lcM [7] (seqI (varM 2)) (.nm 7) yesT (callM lenP [(varM 7)]))])])]))]) (blkS [])), (exprS (methM "list" appendP (varM 2) [(varM 5)]))])), (retS (varM 2))])
/-- slots: 0 draws, 1 words, 2 number -/
def F__law_values : FM := defM 2 3 (blkS [(setS (.nm 2) (callM subP [(callM F__law_take [(varM 0), (conM (.int 9))]), (conM (.int 3))])), (ifS (tbM (callM eqP [(callM F__law_take [(varM 0), (conM (.int 8))]), (conM (.int 0))])) (blkS [(setS (.nm 2) (callM mulP [(varM 2), (callM F__law_pick [(varM 0), (callM lstP [(conM (.int 1000003)), (callM addP [(callM powP [(conM (.int 10)), (conM (.int 15))]), (conM (.int 37))]), (callM addP [(callM powP [(conM (.int 10)), (conM (.int 25))]), (conM (.int 13))]), (callM addP [(callM powP [(conM (.int 10)), (conM (.int 40))]), (conM (.int 121))]), (callM addP [(callM powP [(conM (.int 10)), (conM (.int 55))]), (conM (.int 3))])])])]))]) (blkS [])), (retS (callM ixP [(callM lstP [(callM lstP [(varM 2), (callM addP [(varM 2), (conM (.int 1))]), (callM F__law_pick [(varM 0), (varM 1)])]), (callM lstP [(callM ixP [(varM 1), (conM (.int 0))]), (varM 2), (callM ixP [(varM 1), (conM (.int 1))])])]), (callM F__law_take [(varM 0), (conM (.int 2))])]))])
/-- slots: 0 draws, 1 variables, 2 values -/
def F__law_term : FM := defM 3 3 (blkS [(ifS (tbM (callM eqP [(callM F__law_take [(varM 0), (conM (.int 5))]), (conM (.int 0))])) (blkS [(retS (callM tupP [(conM (.str [118, 97, 108, 117, 101])), (callM F__law_pick [(varM 0), (varM 2)])]))]) (blkS [])), (retS (callM tupP [(conM (.str [118, 97, 114])), (callM F__law_pick [(varM 0), (varM 1)])]))])
/-- slots: 0 term, 1 mapping, 2 pair -/
def F__law_after : FM := defM 2 3 (blkS [(forS (seqI (varM 1)) (.nm 2) (blkS [(ifS (tbM (callM eqP [(varM 0), (callM tupP [(conM (.str [118, 97, 114])), (callM ixP [(varM 2), (conM (.int 0))])])])) (blkS [(retS (callM ixP [(varM 2), (conM (.int 1))]))]) (blkS []))])), (retS (varM 0))])
/-- slots: 0 thing, 1 row, 2 other -/
def F__law_among : FM := defM 2 3 (blkS [(retS (callM inP [(conM (.bl true)), (lcM [2] (seqI (varM 1)) (.nm 2) yesT (callM (F__law_same 8) [(varM 0), (varM 2)]))]))])
/-- slots: 0 term, 1 whole -/
def F__law_is_term : FM := defM 1 2 (blkS [(ifS (orT (notT (tbM (callM (isP ["tuple"]) [(varM 0)]))) (tbM (callM neP [(callM lenP [(varM 0)]), (conM (.int 2))]))) (blkS [(retS (conM (.bl false)))]) (blkS [])), (ifS (tbM (callM (F__law_same 8) [(callM ixP [(varM 0), (conM (.int 0))]), (conM (.str [118, 97, 114]))])) (blkS [(retS (callM (isP ["str"]) [(callM ixP [(varM 0), (conM (.int 1))])]))]) (blkS [])), (setS (.nm 1) (andV (callM (isP ["int"]) [(callM ixP [(varM 0), (conM (.int 1))])]) (notV (callM (isP ["bool"]) [(callM ixP [(varM 0), (conM (.int 1))])])))), (retS (andV (callM (F__law_same 8) [(callM ixP [(varM 0), (conM (.int 0))]), (conM (.str [118, 97, 108, 117, 101]))]) (orV (varM 1) (callM (isP ["str"]) [(callM ixP [(varM 0), (conM (.int 1))])]))))])
/-- slots: 0 terms, 1 others, 2 classes, 3 k, 4 grown, 5 rest, 6 known -/
def F__law_classes : FM := defM 2 7 (blkS [(setS (.nm 2) (callM lstP [])), (forS (rangeI [(callM lenP [(varM 0)])]) (.nm 3) (blkS [(setS (.nm 4) (callM lstP [(callM ixP [(varM 0), (varM 3)]), (callM ixP [(varM 1), (varM 3)])])), (setS (.nm 5) (callM lstP [])), (forS (seqI (varM 2)) (.nm 6) (blkS [(ifS (orT (tbM (callM inP [(callM ixP [(varM 0), (varM 3)]), (varM 6)])) (tbM (callM inP [(callM ixP [(varM 1), (varM 3)]), (varM 6)]))) (blkS [(setS (.nm 4) (callM addP [(varM 4), (varM 6)]))]) (blkS [(exprS (methM "list" appendP (varM 5) [(varM 6)]))]))])), (setS (.nm 2) (callM addP [(varM 5), (callM lstP [(varM 4)])]))])), (retS (varM 2))])
/-- slots: 0 classes, 1 term, 2 known -/
def F__law_class_of : FM := defM 2 3 (blkS [(forS (seqI (varM 0)) (.nm 2) (blkS [(ifS (tbM (callM inP [(varM 1), (varM 2)])) (blkS [(retS (varM 2))]) (blkS []))])), (retS (callM lstP [(varM 1)]))])
/-- slots: 0 classes, 1 known, 2 term -/
def F__law_clashes : FM := defM 1 3 (blkS [(forS (seqI (varM 0)) (.nm 1) (blkS [(ifS (tbM (callM gtP [(callM lenSetP [(lcM [2] (seqI (varM 1)) (.nm 2) (tbM (callM eqP [(callM ixP [(varM 2), (conM (.int 0))]), (conM (.str [118, 97, 108, 117, 101]))])) (varM 2))]), (conM (.int 1))])) (blkS [(retS (conM (.bl true)))]) (blkS []))])), (retS (conM (.bl false)))])
/-- slots: 0 terms, 1 others, 2 told, 3 classes, 4 k, 5 bound, 6 left, 7 pair, 8 term -/
def F__law_is_unifying : FM := defM 3 9 (blkS [(setS (.nm 3) (callM F__law_classes [(varM 0), (varM 1)])), (ifS (tbM (callM F__law_clashes [(varM 3)])) (blkS [(retS (callM isNonP [(varM 2)]))]) (blkS [])), (ifS (notT (tbM (callM (isP ["tuple"]) [(varM 2)]))) (blkS [(retS (conM (.bl false)))]) (blkS [])), (forS (rangeI [(callM lenP [(varM 2)])]) (.nm 4) (blkS [(ifS (orT (notT (tbM (callM (isP ["tuple"]) [(callM ixP [(varM 2), (varM 4)])]))) (orT (tbM (callM neP [(callM lenP [(callM ixP [(varM 2), (varM 4)])]), (conM (.int 2))])) (notT (tbM (callM (isP ["str"]) [(callM ixP [(callM ixP [(varM 2), (varM 4)]), (conM (.int 0))])]))))) (blkS [(retS (conM (.bl false)))]) (blkS [])), (ifS (orT (notT (tbM (callM F__law_is_term [(callM ixP [(callM ixP [(varM 2), (varM 4)]), (conM (.int 1))])]))) (andT (tbM (callM gtP [(varM 4), (conM (.int 0))])) (tbM (callM geP [(callM ixP [(callM ixP [(varM 2), (callM subP [(varM 4), (conM (.int 1))])]), (conM (.int 0))]), (callM ixP [(callM ixP [(varM 2), (varM 4)]), (conM (.int 0))])])))) (blkS [(retS (conM (.bl false)))]) (blkS []))])), (setS (.nm 5) (lcM [7] (seqI (varM 2)) (.nm 7) yesT (callM tupP [(conM (.str [118, 97, 114])), (callM ixP [(varM 7), (conM (.int 0))])]))), (forS (rangeI [(callM lenP [(varM 2)])]) (.nm 4) (blkS [(ifS (orT (tbM (callM notInP [(callM ixP [(varM 5), (varM 4)]), (callM addP [(callM listP [(varM 0)]), (callM listP [(varM 1)])])])) (tbM (callM inP [(callM ixP [(callM ixP [(varM 2), (varM 4)]), (conM (.int 1))]), (varM 5)]))) (blkS [(retS (conM (.bl false)))]) (blkS [])), (ifS (notT (tbM (callM F__law_among [(callM ixP [(callM ixP [(varM 2), (varM 4)]), (conM (.int 1))]), (callM F__law_class_of [(varM 3), (callM ixP [(varM 5), (varM 4)])])]))) (blkS [(retS (conM (.bl false)))]) (blkS []))])), (setS (.nm 6) (callM tupleP [(lcM [8] (seqI (varM 0)) (.nm 8) yesT (callM F__law_after [(varM 8), (varM 2)]))])), (retS (callM (F__law_same 8) [(callM tupleP [(lcM [8] (seqI (varM 1)) (.nm 8) yesT (callM F__law_after [(varM 8), (varM 2)]))]), (varM 6)]))])
/-- slots: 0 draws, 1 many, 2 words, 3 values, 4 k -/
def F__law_terms : FM := defM 4 5 (blkS [(retS (callM tupleP [(lcM [4] (rangeI [(varM 1)]) (.nm 4) yesT (callM F__law_term [(varM 0), (varM 2), (varM 3)]))]))])
/-- slots: 0 draws, 1 terms, 2 words, 3 values, 4 mapping, 5 word, 6 term -/
def F__law_behind : FM := defM 4 7 (blkS [(setS (.nm 4) (callM lstP [])), (forS (seqI (varM 2)) (.nm 5) (blkS [(ifS (tbM (callM eqP [(callM F__law_take [(varM 0), (conM (.int 2))]), (conM (.int 0))])) (blkS [(exprS (methM "list" appendP (varM 4) [(callM tupP [(varM 5), (callM F__law_term [(varM 0), (varM 2), (varM 3)])])]))]) (blkS []))])), (retS (callM tupleP [(lcM [6] (seqI (varM 1)) (.nm 6) yesT (callM F__law_after [(varM 6), (varM 4)]))]))])
/-- slots: 0 draws, 1 words, 2 first, 3 last, 4 pairs, 5 k, 6 pair -/
def F__law_chain : FM := defM 4 7 (blkS [(setS (.nm 4) (callM lstP [(callM tupP [(callM tupP [(conM (.str [118, 97, 108, 117, 101])), (varM 2)]), (callM tupP [(conM (.str [118, 97, 114])), (callM ixP [(varM 1), (conM (.int 0))])])]), (callM tupP [(callM tupP [(conM (.str [118, 97, 114])), (callM ixP [(varM 1), (conM (.int 6))])]), (callM tupP [(conM (.str [118, 97, 108, 117, 101])), (varM 3)])])])), (forS (rangeI [(conM (.int 6))]) (.nm 5) (blkS [(setS (.nm 6) (callM tupP [(callM tupP [(conM (.str [118, 97, 114])), (callM ixP [(varM 1), (varM 5)])]), (callM tupP [(conM (.str [118, 97, 114])), (callM ixP [(varM 1), (callM addP [(varM 5), (conM (.int 1))])])])])), (exprS (methM "list" insertP (varM 4) [(callM F__law_take [(varM 0), (callM addP [(callM lenP [(varM 4)]), (conM (.int 1))])]), (callM ixP [(callM lstP [(varM 6), (callM tupP [(callM ixP [(varM 6), (conM (.int 1))]), (callM ixP [(varM 6), (conM (.int 0))])])]), (callM F__law_take [(varM 0), (conM (.int 2))])])]))])), (retS (callM lstP [(callM tupleP [(lcM [6] (seqI (varM 4)) (.nm 6) yesT (callM ixP [(varM 6), (conM (.int 0))]))]), (callM tupleP [(lcM [6] (seqI (varM 4)) (.nm 6) yesT (callM ixP [(varM 6), (conM (.int 1))]))])]))])
/-- slots: 0 draws, 1 words, 2 values, 3 mapping, 4 word, 5 asked, 6 term, 7 value -/
def F__law_put_is_right : FM := defM 3 8 (blkS [(setS (.nm 3) (callM lstP [])), (forS (seqI (callM sortedSP [(varM 1)])) (.nm 4) (blkS [(ifS (andT (tbM (callM ltP [(callM lenP [(varM 3)]), (conM (.int 5))])) (tbM (callM eqP [(callM F__law_take [(varM 0), (conM (.int 2))]), (conM (.int 0))]))) (blkS [(exprS (methM "list" appendP (varM 3) [(callM tupP [(varM 4), (callM F__law_term [(varM 0), (varM 1), (varM 2)])])]))]) (blkS []))])), (setS (.nm 5) (callM addP [(lcM [4] (seqI (varM 1)) (.nm 4) yesT (callM tupP [(conM (.str [118, 97, 114])), (varM 4)])), (lcM [7] (seqI (callM addP [(callM listP [(varM 2)]), (callM listP [(varM 1)])])) (.nm 7) yesT (callM tupP [(conM (.str [118, 97, 108, 117, 101])), (varM 7)]))])), (forS (seqI (callM addP [(varM 5), (sliceM (varM 5) none (some (conM (.int 2))))])) (.nm 6) (blkS [(ifS (notT (tbM (callM (F__law_same 8) [(callM F_put_terms [(varM 6), (callM tupleP [(varM 3)])]), (callM F__law_after [(varM 6), (varM 3)])]))) (blkS [(retS (conM (.bl false)))]) (blkS []))])), (retS (conM (.bl true)))])
/-- slots: 0 script, 1 draws, 2 words, 3 values, 4 many, 5 used, 6 terms, 7 pairs, 8 pair -/
def F_law : FM := defM 1 9 (blkS [(setS (.nm 1) (callM F__law_draws [(varM 0), (conM (.int 220))])), (setS (.nm 2) (callM F__law_words [(varM 1), (conM (.int 9))])), (setS (.nm 3) (callM F__law_values [(varM 1), (varM 2)])), (setS (.nm 4) (callM ixP [(callM lstP [(conM (.int 3)), (conM (.int 8)), (conM (.int 0)), (conM (.int 5)), (conM (.int 2)), (conM (.int 8)), (conM (.int 1)), (conM (.int 4))]), (callM F__law_take [(varM 1), (conM (.int 8))])])), (setS (.nm 5) (sliceM (varM 2) none (some (callM ixP [(callM lstP [(conM (.int 2)), (conM (.int 3)), (conM (.int 9)), (conM (.int 6))]), (callM F__law_take [(varM 1), (conM (.int 4))])])))), (setS (.nm 6) (callM F__law_terms [(varM 1), (varM 4), (varM 5), (varM 3)])), (setS (.nm 7) (callM lstP [(callM lstP [(varM 6), (callM F__law_terms [(varM 1), (varM 4), (varM 5), (varM 3)])]), (callM lstP [(varM 6), (callM F__law_behind [(varM 1), (varM 6), (varM 5), (varM 3)])])])), (exprS (methM "list" appendP (varM 7) [(callM F__law_chain [(varM 1), (varM 2), (callM ixP [(varM 3), (conM (.int 0))]), (callM ixP [(varM 3), (conM (.int 0))])])])), (exprS (methM "list" appendP (varM 7) [(callM F__law_chain [(varM 1), (varM 2), (callM ixP [(varM 3), (conM (.int 0))]), (callM ixP [(varM 3), (conM (.int 1))])])])), (forS (seqI (callM addP [(varM 7), (sliceM (varM 7) none (some (conM (.int 3))))])) (.nm 8) (blkS [(ifS (notT (tbM (callM F__law_is_unifying [(callM ixP [(varM 8), (conM (.int 0))]), (callM ixP [(varM 8), (conM (.int 1))]), (callM F_unified [(callM ixP [(varM 8), (conM (.int 0))]), (callM ixP [(varM 8), (conM (.int 1))])])]))) (blkS [(retS (conM (.bl false)))]) (blkS []))])), (retS (callM F__law_put_is_right [(varM 1), (varM 2), (varM 3)]))])
end LW

end

section
set_option linter.all false
set_option Elab.async false
set_option maxRecDepth 100000
namespace LW
open Dl DlM
/-- r holds whole numbers -/
def Ints (S : Store) (r : Nat) : Prop := ∃ xs : List Int, S[r]? = some (.lst (xs.map D.int))
/-- all but the draws is as it was -/
structure Dr (r : Nat) (S S' : Store) : Prop where
  fr : Fr [r] S S'
  whole : Ints S' r
theorem Dr.trans {r : Nat} {S S1 S2 : Store} (a : Dr r S S1) (b : Dr r S1 S2) : Dr r S S2 := ⟨a.fr.trans b.fr, b.whole⟩
theorem Dr.refl {r : Nat} {S : Store} (a : Ints S r) : Dr r S S := ⟨.refl, a⟩
theorem Ints.mono {r : Nat} {S S' : Store} (a : Ints S r) (f : Fr [] S S') : Ints S' r := by
  obtain ⟨xs, h⟩ := a
  exact ⟨xs, f.get h (by simp)⟩
theorem Ints.lt {r : Nat} {S : Store} (a : Ints S r) : r < S.length := by
  obtain ⟨xs, h⟩ := a
  exact lt_of_get h
theorem Dr.of {r : Nat} {S S' : Store} (a : Ints S r) (f : Fr [] S S') : Dr r S S' := ⟨f.nil, a.mono f⟩
theorem Dr.get {r : Nat} {S S' : Store} {i : Nat} {v : MO} (a : Dr r S S') (h : S[i]? = some v) (n : i ≠ r) : S'[i]? = some v := a.fr.get h (by simpa using n)
theorem Dr.le {r : Nat} {S S' : Store} (a : Dr r S S') : S.length ≤ S'.length := a.fr.le
theorem c_take {S : Store} {r : Nat} {m : Int} (h : Ints S r) (hm : 0 < m) : (F__law_take [.ref r, .int m] S).sat fun d S' => ∃ v : Int, d = .int v ∧ 0 ≤ v ∧ v < m ∧ Dr r S S' := by
  obtain ⟨xs, h⟩ := h
  refine sat_defM rfl ?_
  by_cases hx : xs = []
  · subst hx
    simp [h]
    exact ⟨hm, .refl ⟨[], h⟩⟩
  · have hl : (xs.length : Int) ≠ 0 := by
      intro z
      exact hx (List.length_eq_zero_iff.mp (by omega))
    have h1 : xs.length - 1 < xs.length := by
      have : xs.length ≠ 0 := by simpa using hx
      omega
    simp [h, hl, hx, tyN_lst h, h1, hm]
    refine ⟨Int.emod_nonneg _ (by omega), Int.emod_lt_of_pos _ hm, .set (by simp), xs.dropLast, ?_⟩
    rw [List.getElem?_set_self (lt_of_get h), List.map_dropLast]
theorem c_pick {S : Store} {r w : Nat} {row : List D} (h : Ints S r) (hw : S[w]? = some (.lst row)) (hne : row ≠ []) (hn : w ≠ r) : (F__law_pick [.ref r, .ref w] S).sat fun d S' => d ∈ row ∧ Dr r S S' := by
  refine sat_defM rfl ?_
  have hl : (0 : Int) < row.length := by
    have : row.length ≠ 0 := by simpa using hne
    omega
  simp [hw]
  refine (c_take h hl).mono ?_
  rintro d S1 ⟨v, rfl, h0, h1, hd⟩
  obtain ⟨x, e1, e2⟩ := atI_int (xs := row) h0 h1
  simp [lstAt_of (hd.get hw hn), e1]
  exact ⟨List.mem_of_getElem? e2, hd⟩
theorem c_draws (ns : List Int) (many : Nat) (hm : many ≤ 1000) (hl : ns.length ≤ 63) : (F__law_draws [.lit (ns.map D.int), .int many] []).sat fun d S' => ∃ r, d = .ref r ∧ Ints S' r := by
  refine sat_defM rfl ?_
  refine sat_seq (fun δ S => ∃ cs : List Int, cs.length ≤ 63 ∧ δ = [some (.lit (ns.map D.int)), some (.int many), some (.ref 0), none, none, none, none, none, none] ∧ S = [.lst (cs.map D.int)]) ?_ ?_
  · simp
    refine lc_all (fun S => S.length = 1) (fun _ y => ∃ z, y = D.int z) rfl rfl (by simp) (by simp) (le_LIM (by simp; omega)) ?_ ?_
    · intro k hk S acc h1 h2
      refine ⟨_, rfl, ?_⟩
      simp
      exact ⟨h1, h2⟩
    · intro ys S h1 h2 hy hP
      obtain ⟨zs, rfl⟩ := ints_of hP
      obtain ⟨o, rfl⟩ : ∃ o, S = [o] := List.length_eq_one_iff.mp h1
      simp at h2 hy
      subst h2
      simp
      exact ⟨zs, by omega, rfl⟩
  rintro δ S ⟨cs, hcs, rfl, rfl⟩
  refine sat_seq (fun δ S => ∃ cs : List Int, cs.length ≤ 63 ∧ cs.length ≠ 0 ∧ δ = [some (.lit (ns.map D.int)), some (.int many), some (.ref 0), none, none, none, none, none, none] ∧ S = [.lst (cs.map D.int)]) ?_ ?_
  · cases cs with
    | nil =>
      simp [tyN, lt_LIM]
      exact ⟨[0], by simp⟩
    | cons c cs =>
      have h0 : ((cs.length : Int) + 1 = 0) = False := by simp; omega
      simp [h0]
      exact ⟨c :: cs, hcs, by simp, rfl⟩
  rintro δ S ⟨cs, hcs, hne, rfl, rfl⟩
  simp [lstAt, le_LIM]
  rw [if_pos (inRange_nat (by omega))]
  simp
  refine for_inv (fun k δ S => ∃ a5 a6 a7 a8, ∃ ls ds : List Int, δ = [some (.lit (ns.map D.int)), some (.int many), some (.ref 0), some (.ref 1), some (.ref 2), a5, a6, a7, a8] ∧ S = [.lst (cs.map D.int), .lst (ls.map D.int), .lst (ds.map D.int)] ∧ ls.length = cs.length ∧ ds.length = k)
    ⟨none, none, none, none, cs, [], rfl, rfl, rfl, rfl⟩ (by simp) ?_ ?_
  · rintro k hk δ S ⟨a5, a6, a7, a8, ls, ds, rfl, rfl, hls, hds⟩
    refine ⟨_, rfl, ?_⟩
    have hc : 0 < cs.length := by omega
    simp at hk
    rw [rangeL_get]
    obtain ⟨p, hp, e1⟩ : ∃ p, p < cs.length ∧ (k : Int) % (cs.length : Int) = (p : Int) := ⟨k % cs.length, Nat.mod_lt _ (by omega), by simp⟩
    have hp2 : p < ls.length := by omega
    have e2 : atI (cs.map D.int) (p : Int) = some (.int cs[p]) := atI_nat (by simp [hp])
    have e3 : atI (ls.map D.int) (p : Int) = some (.int ls[p]) := atI_nat (by simp [hp2])
    have e4 : ixN ls.length (p : Int) = some p := ixN_nat hp2
    generalize cs[p] = c at e2
    generalize ls[p] = l at e3
    simp only [blkS_cons, blkS_one, setS_ap, callM_ap, argsM_cons, argsM_nil, varM_ap, Res.bind_ok, Res.thenS_ok]
    simp [hc, e1, lstAt, e2, e3, e4, powP, small64]
    have hb0 := Int.emod_nonneg (c * 48271 + k * 69621 + 11) (show (2147483647 : Int) ≠ 0 by omega)
    have hb1 := Int.emod_lt_of_pos (c * 48271 + k * 69621 + 11) (show (0 : Int) < 2147483647 by omega)
    generalize (c * 48271 + k * 69621 + 11) % 2147483647 = y at hb0 hb1
    by_cases hb : 1000000000000000000 ≤ c
    · simp [hb, lt_LIM (show ds.length ≤ 1000000 by omega), lstAt, e3, e4]
      refine ⟨ls.set p (l / 1000), ds ++ [l % 1000], by simp [List.map_set], by simp [hls], by simp [hds]⟩
    · simp [hb, lt_LIM (show ds.length ≤ 1000000 by omega), show -18446744073709551616 < y ∧ y < 18446744073709551616 by omega]
      refine ⟨ls, ds ++ [(y * y + 3 * y + k) % 1000003], by simp, by simp [hls], by simp [hds]⟩
  · rintro δ S ⟨a5, a6, a7, a8, ls, ds, rfl, rfl, hls, hds⟩
    simp
    exact ⟨ds.reverse, by simp⟩
end LW

end

section
set_option linter.all false
set_option Elab.async false
set_option maxRecDepth 100000
namespace LW
open Dl DlM
/-- data without references, so many deep -/
inductive Data : Nat → D → Prop
  | non {n : Nat} : Data n .non
  | bl {n : Nat} (b : Bool) : Data n (.bl b)
  | int {n : Nat} (i : Int) : Data n (.int i)
  | str {n : Nat} (x : Cs) : Data n (.str x)
  | tup {n : Nat} {xs : List D} (hl : xs.length ≤ 1000000) (h : ∀ x ∈ xs, Data n x) : Data (n + 1) (.tup xs)
theorem notIn_false {S : Store} {n : Nat} {ys : List D} (h : S[n]? = some (.lst ys)) (hy : ∀ (k : Nat) (y : D), ys[k]? = some y → y = .bl true) : inP [.bl false, .ref n] S = .ok (.bl false) S := by
  have hy' : ∀ y ∈ ys, y = .bl true := fun y hm => by
    obtain ⟨k, hk⟩ := List.getElem?_of_mem hm
    exact hy k y hk
  have e1 : ys.all D.sc = true := by
    rw [List.all_eq_true]
    intro y hm
    rw [hy' y hm]; rfl
  have e2 : (D.bl false).sc = true := rfl
  unfold inP
  simp only [lstAt_of h, e1, e2, Bool.and_self, Bool.true_or, if_true]
  congr 2
  rw [List.any_eq_false]
  intro y hm
  rw [hy' y hm]; decide
theorem c_same : ∀ (n : Nat) (d : D), Data n d → ∀ S : Store, (F__law_same (n + 1) [d, d] S).sat fun r S' => r = .bl true ∧ Fr [] S S' := by
  intro n
  induction n with
  | zero =>
    intro d hd S
    unfold F__law_same
    refine sat_defM rfl ?_
    cases hd <;> simp [isTy, Fr.refl]
  | succ n ih =>
    intro d hd S
    unfold F__law_same
    refine sat_defM rfl ?_
    cases hd with
    | non => simp [isTy, Fr.refl]
    | bl b => simp [isTy, Fr.refl]
    | int i => simp [isTy, Fr.refl]
    | str x => simp [isTy, Fr.refl]
    | tup hl h =>
      rename_i xs
      have hr : inRange (xs.length : Int) = true := inRange_nat (by omega)
      simp [isTy, hr]
      refine lc_all (fun S' => Fr [] S S' ∧ S.length < S'.length) (fun _ y => y = .bl true) ⟨.app, by simp⟩ (by simp) (fun S' v ⟨h1, h2⟩ => ⟨h1.set_new (Nat.le_refl _), by simpa using h2⟩) (fun _ _ => rfl) (by simpa using le_LIM hl) ?_ ?_
      · rintro k hk S' acc ⟨hf, hlt⟩ hacc
        refine ⟨_, rfl, ?_⟩
        rw [rangeL_get]
        simp at hk
        have e1 : atI xs (k : Int) = some xs[k] := atI_nat (List.getElem?_eq_getElem hk)
        simp [e1]
        refine (ih xs[k] (h _ (List.getElem_mem hk)) S').mono ?_
        rintro d S2 ⟨rfl, hf2⟩
        exact ⟨rfl, ⟨hf.trans hf2, Nat.lt_of_lt_of_le hlt hf2.le⟩, hf2.get hacc (by simp)⟩
      · rintro ys S' ⟨hf, hlt⟩ hys hl2 hP
        simp [notIn_false hys hP]
        exact hf
/-- two lists of the same data -/
theorem c_same_ref {n i j : Nat} {xs : List D} {S : Store} (hi : S[i]? = some (.lst xs)) (hj : S[j]? = some (.lst xs)) (hl : xs.length ≤ 1000000) (h : ∀ x ∈ xs, Data n x) : (F__law_same (n + 1 + 1) [.ref i, .ref j] S).sat fun r S' => r = .bl true ∧ Fr [] S S' := by
  unfold F__law_same
  refine sat_defM rfl ?_
  have hr : inRange (xs.length : Int) = true := inRange_nat (by omega)
  simp [isTy, hi, hj, hr]
  refine lc_all (fun S' => Fr [] S S' ∧ S.length < S'.length) (fun _ y => y = .bl true) ⟨.app, by simp⟩ (by simp) (fun S' v ⟨h1, h2⟩ => ⟨h1.set_new (Nat.le_refl _), by simpa using h2⟩) (fun _ _ => rfl) (by simpa using le_LIM hl) ?_ ?_
  · rintro k hk S' acc ⟨hf, hlt⟩ hacc
    refine ⟨_, rfl, ?_⟩
    rw [rangeL_get]
    simp at hk
    have e1 : atI xs (k : Int) = some xs[k] := atI_nat (List.getElem?_eq_getElem hk)
    simp [e1, lstAt_of (hf.get hi (by simp)), lstAt_of (hf.get hj (by simp))]
    refine (c_same n xs[k] (h _ (List.getElem_mem hk)) S').mono ?_
    rintro d S2 ⟨rfl, hf2⟩
    exact ⟨rfl, ⟨hf.trans hf2, Nat.lt_of_lt_of_le hlt hf2.le⟩, hf2.get hacc (by simp)⟩
  · rintro ys S' ⟨hf, hlt⟩ hys hl2 hP
    simp [notIn_false hys hP]
    exact hf
theorem Data.mono : ∀ {n : Nat} {d : D}, Data n d → ∀ {m : Nat}, n ≤ m → Data m d
  | _, _, .non, _, _ => .non
  | _, _, .bl b, _, _ => .bl b
  | _, _, .int b, _, _ => .int b
  | _, _, .str b, _, _ => .str b
  | _, _, .tup hl h, m, hm => by
    cases m with
    | zero => omega
    | succ m => exact .tup hl fun x hx => (h x hx).mono (by omega)
/-! words, numbers -/
def letter (c : Nat) : Prop := 97 ≤ c ∧ c ≤ 122
structure Word (w : Cs) : Prop where
  ne : w ≠ []
  all : ∀ c ∈ w, letter c
def letters : Cs := [97, 98, 99, 100, 101, 102, 103, 104, 105, 106, 107, 108, 109, 110, 111, 112, 113, 114, 115, 116, 117, 118, 119, 120, 121, 122]
theorem mem_letters {c : Nat} : c ∈ letters ↔ letter c := by
  simp only [letters, letter, List.mem_cons, List.not_mem_nil, or_false]
  omega
/-- what the words of a law are like -/
structure Words (b : Nat) (ws : List Cs) : Prop where
  word : ∀ w ∈ ws, Word w
  len : ∀ w ∈ ws, w.length ≤ b
  nodup : ws.Nodup
theorem Words.snoc {b c : Nat} {ws : List Cs} {w : Cs} (h : Words b ws) (hw : Word w) (hb : b ≤ c) (hl : w.length ≤ c) (hn : w ∉ ws) : Words c (ws ++ [w]) where
  word := fun x hx => by
    rcases List.mem_append.mp hx with hx | hx
    · exact h.word x hx
    · rw [List.mem_singleton.mp hx]; exact hw
  len := fun x hx => by
    rcases List.mem_append.mp hx with hx | hx
    · exact Nat.le_trans (h.len x hx) hb
    · rw [List.mem_singleton.mp hx]; exact hl
  nodup := by
    rw [List.nodup_append]
    refine ⟨h.nodup, by simp, fun a ha b hb e => ?_⟩
    rw [List.mem_singleton.mp hb] at e
    exact hn (e ▸ ha)
end LW

end

section
set_option linter.all false
set_option Elab.async false
set_option maxRecDepth 100000
namespace LW
open Dl DlM
theorem Dr.set_new {r i : Nat} {S S' : Store} {v : MO} (a : Dr r S S') (hr : r < S.length) (h : S.length ≤ i) : Dr r S (S'.set i v) := ⟨a.fr.set_new h, by
  obtain ⟨xs, hx⟩ := a.whole
  exact ⟨xs, by rw [List.getElem?_set_ne (by omega)]; exact hx⟩⟩
theorem Dr.push {r : Nat} {S S' T : Store} (a : Dr r S S') : Dr r S (S' ++ T) := a.trans (.of a.whole .app)
theorem flatten_len1 : ∀ {zs : List Cs}, (∀ z ∈ zs, ∃ c, z = [c] ∧ letter c) → (zs.flatten.length = zs.length ∧ (zs.map List.length).sum = zs.length ∧ ∀ c ∈ zs.flatten, letter c)
  | [], _ => by simp
  | z :: zs, h => by
    obtain ⟨c, rfl, hc⟩ := h z (by simp)
    obtain ⟨h1, h2, h3⟩ := flatten_len1 (zs := zs) fun z hz => h z (List.mem_cons_of_mem _ hz)
    refine ⟨by simp [h1], by simp [h2]; omega, fun c' hc' => ?_⟩
    rw [List.flatten_cons, List.mem_append] at hc'
    rcases hc' with hc' | hc'
    · rw [List.mem_singleton.mp hc']; exact hc
    · exact h3 c' hc'
end LW

end

section
set_option linter.all false
set_option Elab.async false
set_option maxRecDepth 100000
namespace LW
open Dl DlM
theorem c_words_n {S : Store} {r : Nat} (h : Ints S r) (many : Nat) (hm : many ≤ 20) : (F__law_words [.ref r, .int many] S).sat fun d S' => ∃ w ws, d = .ref w ∧ S.length ≤ w ∧ S'[w]? = some (.lst (ws.map D.str)) ∧ ws.length = many ∧ Words 50 ws ∧ Dr r S S' := by
  have hr := h.lt
  refine sat_defM rfl ?_
  simp
  rw [if_pos (inRange_nat (by omega))]
  simp
  refine for_inv (fun k δ S' => ∃ a3 a4 a5 a6 a7, ∃ ws : List Cs, δ = [some (.ref r), some (.int many), some (.ref S.length), a3, a4, a5, a6, a7] ∧ S'[S.length]? = some (.lst (ws.map D.str)) ∧ ws.length = k ∧ Words (30 + k) ws ∧ Dr r S S')
    ⟨none, none, none, none, none, [], rfl, by simp, rfl, ⟨by simp, by simp, by simp⟩, .of h .app⟩ (by simp) ?_ ?_
  · rintro k hk δ S1 ⟨a3, a4, a5, a6, a7, ws, rfl, hw, hl, hws, hd⟩
    refine ⟨_, rfl, ?_⟩
    rw [rangeL_get]
    simp at hk
    -- the size
    refine sat_seq (fun δ S2 => ∃ v : Nat, v ≤ 2 ∧ δ = [some (.ref r), some (.int many), some (.ref S.length), some (.int k), some (.int (1 + v)), a5, a6, a7] ∧ Dr r S1 S2) ?_ ?_
    · simp
      refine (c_take hd.whole (by omega)).mono ?_
      rintro d S2 ⟨v, rfl, h0, h1, h2⟩
      simp
      exact ⟨v.toNat, by omega, by omega, h2⟩
    rintro δ S2 ⟨v, hv, rfl, h2⟩
    refine sat_seq (fun δ S3 => ∃ v : Nat, v ≤ 24 ∧ δ = [some (.ref r), some (.int many), some (.ref S.length), some (.int k), some (.int (1 + v)), a5, a6, a7] ∧ Dr r S1 S3) ?_ ?_
    · simp
      refine (c_take h2.whole (by omega)).mono ?_
      rintro d S3 ⟨u, rfl, h0, h1, h3⟩
      simp
      by_cases hu : u = 0
      · simp [hu]
        refine (c_take h3.whole (by omega)).mono ?_
        rintro d S4 ⟨u2, rfl, h0, h1, h4⟩
        simp
        exact ⟨v + 3 + u2.toNat, by omega, by omega, h2.trans (h3.trans h4)⟩
      · simp [hu]
        exact ⟨v, by omega, rfl, h2.trans h3⟩
    rintro δ S3 ⟨v, hv, rfl, h3⟩
    have hw3 : S3[S.length]? = some (.lst (ws.map D.str)) := h3.get hw (by omega)
    -- the word
    refine sat_seq (fun δ S4 => ∃ x : Cs, Word x ∧ x.length ≤ 25 ∧ δ = [some (.ref r), some (.int many), some (.ref S.length), some (.int k), some (.int (1 + v)), some (.str x), a6, a7] ∧ Dr r S1 S4) ?_ ?_
    · have e1 : ((1 : Int) + v) = ((1 + v : Nat) : Int) := by omega
      simp only [e1]
      simp only [setS_ap, methM_ap, conM_ap, Res.bind_ok, tyN_str, if_true, argsM_cons, argsM_nil, lcM_ap, rangeI_ap, varM_ap, List.getElem?_cons_succ, List.getElem?_cons_zero, inRange_nat (show 1 + v ≤ 1000000000 by omega), Res.sat_thenS, Res.sat_bind, Res.sat_ok]
      refine lc_all (fun S' => Dr r S1 S' ∧ S3.length < S'.length) (fun _ y => ∃ z, y = D.str z ∧ ∃ c, z = [c] ∧ letter c) ⟨h3.push, by simp⟩ (by simp) (fun S' w ⟨z1, z2⟩ => ⟨z1.set_new (by have := hd.le; omega) (by have := h3.le; omega), by simpa using z2⟩) (fun _ _ => rfl) (by rw [rangeL_len2]; exact le_LIM (by omega)) ?_ ?_
      · rintro j hj S' acc ⟨hd4, hlt⟩ hacc
        refine ⟨_, rfl, ?_⟩
        simp
        refine (c_take hd4.whole (by omega)).mono ?_
        rintro d S5 ⟨u, rfl, h0, h1, h5⟩
        obtain ⟨c, e1, e2⟩ := atI_int (xs := letters) h0 (by simpa [letters] using h1)
        have hc := mem_letters.mp (List.mem_of_getElem? e2)
        unfold letters at e1
        simp [e1, LIM]
        exact ⟨hc, ⟨hd4.trans h5, Nat.lt_of_lt_of_le hlt h5.le⟩, h5.get hacc (by have := h3.le; have := hd.le; omega)⟩
      · rintro ys S' ⟨hd4, hlt⟩ hys hl2 hP
        obtain ⟨zs, rfl, hz⟩ := strs_of hP
        obtain ⟨f1, f2, f3⟩ := flatten_len1 hz
        rw [rangeL_len2, List.length_map] at hl2
        simp [lstAt_of hys, f2, joinCs_nil, le_LIM (show zs.length ≤ 1000000 by omega)]
        exact ⟨_, ⟨fun e => by rw [e] at f1; simp at f1; omega, f3⟩, by omega, rfl, hd4⟩
    rintro δ S4 ⟨x, hx, hxl, rfl, h4⟩
    have hw4 : S4[S.length]? = some (.lst (ws.map D.str)) := h4.get hw (by omega)
    refine sat_seq (fun δ S4 => ∃ x : Cs, ∃ a7, Word x ∧ x.length ≤ 31 + k ∧ x ∉ ws ∧ δ = [some (.ref r), some (.int many), some (.ref S.length), some (.int k), some (.int (1 + v)), some (.str x), a6, a7] ∧ Dr r S1 S4) ?_ ?_
    · by_cases hin : x ∈ ws
      · simp [inP_strs hw4, hin, lstAt_of hw4]
        refine lc_all (fun S' => Fr [] S4 S' ∧ S4.length < S'.length) (fun k y => ∃ z, y = D.int z ∧ ∃ w, ws[k]? = some w ∧ z = w.length) ⟨.app, by simp⟩ (by simp) (fun S' w ⟨z1, z2⟩ => ⟨z1.set_new (Nat.le_refl _), by simpa using z2⟩) ?_ (by simp; exact le_LIM (by omega)) ?_ ?_
        · rintro S' ⟨z1, z2⟩
          simp [lstAt_of (z1.get hw4 (by simp))]
        · rintro j hj S' acc ⟨z1, z2⟩ hacc
          refine ⟨_, rfl, ?_⟩
          simp at hj
          have hw5 := hws.len _ (List.getElem_mem hj)
          simp [le_LIM (show (ws[j]).length ≤ 1000000 by omega), hj]
          exact ⟨⟨z1, z2⟩, hacc⟩
        · rintro ys S' ⟨z1, z2⟩ hys hl2 hP
          obtain ⟨zs, rfl⟩ := ints_of (ys := ys) fun k y hy => by
            obtain ⟨z, e, _⟩ := hP k y hy
            exact ⟨z, e⟩
          simp at hl2
          have hP' : ∀ (k : Nat) (z : Int), zs[k]? = some z → ∃ w, ws[k]? = some w ∧ z = w.length := by
            intro k z hz
            obtain ⟨z', e, w, e2, e3⟩ := hP k (.int z) (by simp [hz])
            cases e
            exact ⟨w, e2, e3⟩
          cases zs with
          | nil =>
            have : ws = [] := List.length_eq_zero_iff.mp hl2.symm
            rw [this] at hin
            cases hin
          | cons a zs =>
            simp [lstAt_of hys]
            obtain ⟨m1, m2⟩ := maxL_spec zs a
            obtain ⟨k1, hk1⟩ := List.getElem?_of_mem m1
            obtain ⟨w1, e1, e2⟩ := hP' k1 _ hk1
            have b1 := hws.len w1 (List.mem_of_getElem? e1)
            generalize maxL a zs = mx at m2 e2 ⊢
            have hmx : ∀ w ∈ ws, (w.length : Int) ≤ mx := fun w hw => by
              obtain ⟨k2, hk2⟩ := List.getElem?_of_mem hw
              have hk3 : k2 < (a :: zs).length := by
                have := (List.getElem?_eq_some_iff.mp hk2).1
                omega
              obtain ⟨w2, e3, e4⟩ := hP' k2 _ (List.getElem?_eq_getElem hk3)
              rw [hk2] at e3
              cases e3
              rw [← e4]
              exact m2 _ (List.getElem_mem hk3)
            have c1 : (0 : Int) ≤ 1 + mx ∧ [122].length * (1 + mx).toNat ≤ LIM ∧ 1 + mx ≤ (LIM : Int) := by
              have : LIM = 16777216 := rfl
              rw [List.length_singleton]
              omega
            have c2 : (List.replicate (1 + mx).toNat [122]).flatten = List.replicate (1 + mx).toNat 122 := by
              induction (1 + mx).toNat with
              | zero => rfl
              | succ n ih => simp [List.replicate_succ, ih]
            have c3 : mulP [.str [122], .int (1 + mx)] S' = .ok (.str (List.replicate (1 + mx).toNat 122)) S' := by
              show (if _ then _ else _) = _
              rw [if_pos c1, c2]
            simp [c3]
            refine ⟨_, ⟨fun e => ?_, fun c hc => ?_⟩, by rw [List.length_replicate]; omega, fun hc => ?_, rfl, h4.trans (.of h4.whole z1)⟩
            · have := congrArg List.length e
              simp at this
              omega
            · rw [(List.mem_replicate.mp hc).2]
              exact ⟨by omega, by omega⟩
            · have := hmx _ hc
              simp at this
              omega
      · simp [inP_strs hw4, hin]
        exact ⟨x, hx, by omega, hin, rfl, h4⟩
    rintro δ S5 ⟨x, a7, hx, hxl, hn, rfl, h5⟩
    have hw5 : S5[S.length]? = some (.lst (ws.map D.str)) := h5.get hw (by omega)
    simp [hw5, lt_LIM (show ws.length ≤ 1000000 by omega)]
    refine ⟨ws ++ [x], ?_, by simp [hl], hws.snoc hx (by omega) (by omega) hn, (hd.trans h5).set_new hr (Nat.le_refl _)⟩
    rw [List.getElem?_set_self (lt_of_get hw5)]
    simp
  · rintro δ S1 ⟨a3, a4, a5, a6, a7, ws, rfl, hw, hl, hws, hd⟩
    rw [rangeL_len2] at hl hws
    simp
    exact ⟨ws, hw, by omega, ⟨hws.word, fun w hw => Nat.le_trans (hws.len w hw) (by omega), hws.nodup⟩, hd⟩
theorem Words.mono {b c : Nat} {ws : List Cs} (h : Words b ws) (hb : b ≤ c) : Words c ws := ⟨h.word, fun w hw => Nat.le_trans (h.len w hw) hb, h.nodup⟩
theorem c_words {S : Store} {r : Nat} (h : Ints S r) (many : Nat) (hm : many ≤ 20) : (F__law_words [.ref r, .int many] S).sat fun d S' => ∃ w ws, d = .ref w ∧ S.length ≤ w ∧ S'[w]? = some (.lst (ws.map D.str)) ∧ ws.length = many ∧ Words 60 ws ∧ Dr r S S' :=
  (c_words_n h many hm).mono fun _ _ ⟨w, ws, h1, h2, h3, h4, h5, h6⟩ => ⟨w, ws, h1, h2, h3, h4, h5.mono (by omega), h6⟩
end LW

end

section
set_option linter.all false
set_option Elab.async false
set_option maxRecDepth 100000
namespace LW
open Dl DlM
/-- a pure elt over a list that stands still -/
theorem lc_map {still : Store → Bool} {D₀ : Nat} {tg : Tgt} {elt : EM} {xs : List D} {δ : Env} {S : Store} {Q : Unit → Store → Prop} (f : D → D) (h0 : S[D₀]? = some (.lst [])) (hlen : xs.length ≤ LIM)
    (hs : ∀ S', Fr [D₀] S S' → still S' = true)
    (step : ∀ x ∈ xs, ∃ δ1, tg.put x δ = some δ1 ∧ ∀ S', Fr [D₀] S S' → elt δ1 S' = .ok (f x) S')
    (hend : ∀ S', Fr [D₀] S S' → S'[D₀]? = some (.lst (xs.map f)) → Q () S') : (lcLoop still D₀ δ tg yesT elt xs S).sat Q := by
  refine lc_all (fun S' => Fr [D₀] S S') (fun k y => ∃ x, xs[k]? = some x ∧ y = f x) .refl h0 (fun S' v h => h.trans (.set (by simp))) hs hlen ?_ ?_
  · intro k hk S' acc hf hacc
    obtain ⟨δ1, e1, e2⟩ := step xs[k] (List.getElem_mem hk)
    refine ⟨δ1, e1, ?_⟩
    rw [e2 S' hf, Res.sat_ok]
    exact ⟨⟨xs[k], List.getElem?_eq_getElem hk, rfl⟩, hf, hacc⟩
  · intro ys S' hf hys hl hP
    refine hend S' hf ?_
    rw [hys]
    congr 2
    apply List.ext_getElem?
    intro k
    rw [List.getElem?_map]
    cases e : ys[k]? with
    | none =>
      have : ys.length ≤ k := List.getElem?_eq_none_iff.mp e
      rw [List.getElem?_eq_none (by omega)]
      rfl
    | some y =>
      obtain ⟨x, e1, e2⟩ := hP k y e
      rw [e1, e2]
      rfl
theorem fr_app_new {S S' T : Store} {n : Nat} (hn : n = S.length) (h : Fr [n] (S ++ T) S') : Fr [] S S' := by
  subst hn
  exact ((Fr.app (xs := [S.length])).trans h).cut fun i hi hlt => by simp at hi; omega
end LW

end

section
set_option linter.all false
set_option Elab.async false
set_option maxRecDepth 100000
namespace LW
open Dl DlM
/-! unification: what the program binds against the law's classes -/
inductive UT where
  | var (w : Cs)
  | val (d : D)
deriving DecidableEq
def uD : UT → D
  | .var w => .tup [.str [118, 97, 114], .str w]
  | .val d => .tup [.str [118, 97, 108, 117, 101], d]
theorem uD_inj {a b : UT} : uD a = uD b ↔ a = b := by
  constructor
  · intro h
    cases a <;> cases b <;> simp [uD] at h ⊢ <;> exact h
  · rintro rfl; rfl
abbrev Bnd := List (Cs × UT)
def look (B : Bnd) (w : Cs) : Option UT := (B.find? fun p => decide (p.1 = w)).map (·.2)
def res (B : Bnd) : UT → UT
  | .var w => (look B w).getD (.var w)
  | t => t
def withV (B : Bnd) (w : Cs) (t : UT) : Bnd := (B.map fun p => (p.1, if p.2 = .var w then t else p.2)) ++ [(w, t)]
def stepU (B : Bnd) (t o : UT) : Option Bnd := if res B t = res B o then some B else match res B t with
  | .var w => some (withV B w (res B o))
  | .val _ => match res B o with
    | .var w => some (withV B w (res B t))
    | .val _ => none
def unifyU : List (UT × UT) → Bnd → Option Bnd
  | [], B => some B
  | (t, o) :: ps, B => match stepU B t o with
    | some B' => unifyU ps B'
    | none => none
/-- one pair more: the classes that have one of the two become one -/
def hasC (t o : UT) (k : List UT) : Bool := decide (t ∈ k) || decide (o ∈ k)
def mergeC (C : List (List UT)) (t o : UT) : List (List UT) := (C.filter fun k => !hasC t o k) ++ [[t, o] ++ (C.filter (hasC t o)).flatten]
def classesU : List (UT × UT) → List (List UT) → List (List UT)
  | [], C => C
  | (t, o) :: ps, C => classesU ps (mergeC C t o)
structure Idem (B : Bnd) : Prop where
  nd : (B.map (·.1)).Nodup
  free : ∀ p ∈ B, ∀ w, p.2 = .var w → look B w = none
theorem look_none {B : Bnd} {w : Cs} : look B w = none ↔ w ∉ B.map (·.1) := by
  unfold look
  rw [Option.map_eq_none_iff, List.find?_eq_none]
  simp only [List.mem_map, not_exists, not_and, decide_eq_true_eq]
theorem look_mem {B : Bnd} {w : Cs} {t : UT} (h : look B w = some t) : (w, t) ∈ B := by
  unfold look at h
  rw [Option.map_eq_some_iff] at h
  obtain ⟨p, h1, h2⟩ := h
  have h3 := List.mem_of_find?_eq_some h1
  have h4 : p.1 = w := by simpa using List.find?_some h1
  rw [← h4, ← h2]
  exact h3
theorem look_map {B : Bnd} {w : Cs} {f : UT → UT} : look (B.map fun p => (p.1, f p.2)) w = (look B w).map f := by
  unfold look
  induction B with
  | nil => rfl
  | cons p B ih =>
    rw [List.map_cons, List.find?_cons, List.find?_cons]
    by_cases e : p.1 = w
    · simp [e]
    · simp only [e, decide_false]
      exact ih
theorem look_app {B C : Bnd} {w : Cs} : look (B ++ C) w = (look B w).or (look C w) := by
  unfold look
  rw [List.find?_append]
  cases B.find? _ <;> rfl
theorem res_var {B : Bnd} {w : Cs} : res B (.var w) = (look B w).getD (.var w) := rfl
/-- the new binding, said of the terms -/
theorem res_with {B : Bnd} {w : Cs} {t : UT} (hw : look B w = none) (x : UT) : res (withV B w t) x = if res B x = .var w then t else res B x := by
  cases x with
  | val d => simp [res]
  | var v =>
    have e1 : look (withV B w t) v = ((look B v).map fun u => if u = .var w then t else u).or (if w = v then some t else none) := by
      unfold withV
      rw [look_app, look_map (f := fun u => if u = .var w then t else u)]
      congr 1
      unfold look
      by_cases e : w = v <;> simp [e]
    rw [res_var, res_var, e1]
    cases e2 : look B v with
    | some u => simp
    | none =>
      by_cases e : w = v
      · simp [e]
      · have e' : ¬ v = w := fun z => e z.symm
        simp [e, e']
theorem res_free {B : Bnd} (h : Idem B) {x : UT} {w : Cs} (e : res B x = .var w) : look B w = none := by
  cases x with
  | val d => cases e
  | var v =>
    rw [res_var] at e
    cases e2 : look B v with
    | some u =>
      rw [e2] at e
      have e : u = .var w := e
      exact h.free _ (look_mem e2) w e
    | none =>
      rw [e2] at e
      have e : UT.var v = .var w := e
      cases e
      exact e2
theorem res_res {B : Bnd} (h : Idem B) (x : UT) : res B (res B x) = res B x := by
  cases e : res B x with
  | val d => rfl
  | var w =>
    have := res_free h e
    show (look B w).getD (.var w) = .var w
    rw [this]; rfl
theorem Idem.withV {B : Bnd} (h : Idem B) {w : Cs} {t : UT} (hw : look B w = none) (ht : t ≠ .var w) (hf : ∀ v, t = .var v → look B v = none) : Idem (withV B w t) := by
  have hk : (LW.withV B w t).map (·.1) = B.map (·.1) ++ [w] := by
    unfold LW.withV
    rw [List.map_append, List.map_map]
    rfl
  have hl : ∀ v, look (LW.withV B w t) v = none ↔ look B v = none ∧ v ≠ w := fun v => by
    rw [look_none, look_none, hk]
    simp
  refine ⟨?_, ?_⟩
  · rw [hk, List.nodup_append]
    refine ⟨h.nd, by simp, fun x hx y hy => ?_⟩
    have : y = w := by simpa using hy
    subst this
    rintro rfl
    exact look_none.mp hw hx
  · intro p hp v hv
    rw [hl]
    unfold LW.withV at hp
    rcases List.mem_append.mp hp with hp | hp
    · obtain ⟨q, hq, rfl⟩ := List.mem_map.mp hp
      simp only at hv
      split at hv
      · subst hv
        exact ⟨hf v rfl, fun e => ht (by rw [e])⟩
      · rename_i hne
        exact ⟨h.free q hq v hv, fun e => hne (by rw [hv, e])⟩
    · have : p = (w, t) := by simpa using hp
      subst this
      have hv : t = .var v := hv
      exact ⟨hf v hv, fun e => ht (by rw [hv, e])⟩
/-- what stands between the two -/
structure UJ (B : Bnd) (C : List (List UT)) (P : List UT) : Prop where
  idem : Idem B
  one : ∀ k ∈ C, ∀ x ∈ k, ∀ y ∈ k, res B x = res B y
  two : ∀ x y, res B x = res B y → x = y ∨ ∃ k ∈ C, x ∈ k ∧ y ∈ k
  apart : C.Pairwise fun k l => ∀ x ∈ k, x ∉ l
  from_ : ∀ p ∈ B, UT.var p.1 ∈ P ∧ p.2 ∈ P
theorem UJ.nil : UJ [] [] [] := ⟨⟨by simp, by simp⟩, by simp, fun x y h => .inl (by
  have e : ∀ z : UT, res [] z = z := fun z => by cases z <;> rfl
  rw [e, e] at h; exact h), by simp, by simp⟩
theorem UJ.res_mem {B : Bnd} {C : List (List UT)} {P : List UT} (j : UJ B C P) {x : UT} (h : x ∈ P) : res B x ∈ P := by
  cases x with
  | val d => exact h
  | var w =>
    rw [res_var]
    cases e : look B w with
    | none => exact h
    | some t => exact (j.from_ _ (look_mem e)).2
section
variable {B : Bnd} {C : List (List UT)} {P : List UT} {t o : UT}
theorem mem_merge {k : List UT} : k ∈ mergeC C t o ↔ (k ∈ C ∧ hasC t o k = false) ∨ k = [t, o] ++ (C.filter (hasC t o)).flatten := by
  unfold mergeC
  simp only [List.mem_append, List.mem_filter, List.mem_singleton, Bool.not_eq_true']
theorem mem_grown {x : UT} : x ∈ [t, o] ++ (C.filter (hasC t o)).flatten ↔ x = t ∨ x = o ∨ ∃ k ∈ C, hasC t o k = true ∧ x ∈ k := by
  simp only [List.mem_append, List.mem_cons, List.not_mem_nil, or_false, List.mem_flatten, List.mem_filter, or_assoc]
  constructor
  · rintro (h | h | ⟨k, ⟨h1, h2⟩, h3⟩)
    · exact .inl h
    · exact .inr (.inl h)
    · exact .inr (.inr ⟨k, h1, h2, h3⟩)
  · rintro (h | h | ⟨k, h1, h2, h3⟩)
    · exact .inl h
    · exact .inr (.inl h)
    · exact .inr (.inr ⟨k, ⟨h1, h2⟩, h3⟩)
/-- the elements of the grown class are worth what one of the two is -/
theorem UJ.grown (j : UJ B C P) {x : UT} (h : x ∈ [t, o] ++ (C.filter (hasC t o)).flatten) : res B x = res B t ∨ res B x = res B o := by
  rcases mem_grown.mp h with rfl | rfl | ⟨k, h1, h2, h3⟩
  · exact .inl rfl
  · exact .inr rfl
  · unfold hasC at h2
    rw [Bool.or_eq_true, decide_eq_true_eq, decide_eq_true_eq] at h2
    rcases h2 with h2 | h2
    · exact .inl (j.one k h1 x h3 t h2)
    · exact .inr (j.one k h1 x h3 o h2)
/-- .. and all that are worth it stand there -/
theorem UJ.in_grown (j : UJ B C P) {x : UT} (h : res B x = res B t ∨ res B x = res B o) : x ∈ [t, o] ++ (C.filter (hasC t o)).flatten := by
  rw [mem_grown]
  rcases h with h | h
  · rcases j.two x t h with rfl | ⟨k, h1, h2, h3⟩
    · exact .inl rfl
    · exact .inr (.inr ⟨k, h1, by simp [hasC, h3], h2⟩)
  · rcases j.two x o h with rfl | ⟨k, h1, h2, h3⟩
    · exact .inr (.inl rfl)
    · exact .inr (.inr ⟨k, h1, by simp [hasC, h3], h2⟩)
theorem pair_kept {x y : UT} (h : ∃ k ∈ C, x ∈ k ∧ y ∈ k) : ∃ k ∈ mergeC C t o, x ∈ k ∧ y ∈ k := by
  obtain ⟨k, h1, h2, h3⟩ := h
  cases e : hasC t o k with
  | false => exact ⟨k, mem_merge.mpr (.inl ⟨h1, e⟩), h2, h3⟩
  | true => exact ⟨_, mem_merge.mpr (.inr rfl), mem_grown.mpr (.inr (.inr ⟨k, h1, e, h2⟩)), mem_grown.mpr (.inr (.inr ⟨k, h1, e, h3⟩))⟩
theorem UJ.apart' (j : UJ B C P) : (mergeC C t o).Pairwise fun k l => ∀ x ∈ k, x ∉ l := by
  have sym : ∀ k ∈ C, ∀ l ∈ C, hasC t o k = false → hasC t o l = true → ∀ x ∈ k, x ∉ l := by
    have key : ∀ C : List (List UT), C.Pairwise (fun k l => ∀ x ∈ k, x ∉ l) → ∀ k ∈ C, ∀ l ∈ C, k ≠ l → ∀ x ∈ k, x ∉ l := by
      intro C hC
      induction hC with
      | nil => intro k hk; cases hk
      | @cons a r ha hr ih =>
        intro k hk l hl hne x hx hxl
        rcases List.mem_cons.mp hk with e1 | hk1
        · rcases List.mem_cons.mp hl with e2 | hl1
          · exact hne (e1.trans e2.symm)
          · exact ha l hl1 x (e1 ▸ hx) hxl
        · rcases List.mem_cons.mp hl with e2 | hl1
          · exact ha k hk1 x (e2 ▸ hxl) hx
          · exact ih k hk1 l hl1 hne x hx hxl
    intro k hk l hl h1 h2
    exact key C j.apart k hk l hl (by rintro rfl; rw [h1] at h2; cases h2)
  unfold mergeC
  rw [List.pairwise_append]
  refine ⟨j.apart.filter _, by simp, ?_⟩
  intro k hk l hl x hx hxl
  rw [List.mem_filter] at hk
  have hk2 : hasC t o k = false := by simpa using hk.2
  have : l = [t, o] ++ (C.filter (hasC t o)).flatten := by simpa using hl
  subst this
  rcases mem_grown.mp hxl with rfl | rfl | ⟨m, h1, h2, h3⟩
  · simp [hasC, hx] at hk2
  · simp [hasC, hx] at hk2
  · exact sym k hk.1 m h1 hk2 h2 x hx h3
/-- one pair more -/
theorem UJ.step {B' : Bnd} (j : UJ B C P) (h : stepU B t o = some B') : UJ B' (mergeC C t o) (t :: o :: P) := by
  have up : ∀ p ∈ B, UT.var p.1 ∈ t :: o :: P ∧ p.2 ∈ t :: o :: P := fun p hp => ⟨by simp [(j.from_ p hp).1], by simp [(j.from_ p hp).2]⟩
  -- a binding of w to u, the two worths being var w and u
  have bind : ∀ (w : Cs) (u : UT), look B w = none → u ≠ .var w → (∀ v, u = .var v → look B v = none) → UT.var w ∈ t :: o :: P → u ∈ t :: o :: P →
      ((res B t = .var w ∧ res B o = u) ∨ (res B o = .var w ∧ res B t = u)) → UJ (withV B w u) (mergeC C t o) (t :: o :: P) := by
    intro w u hw hne hf h1 h2 hlr
    have two' : ∀ x, res B x = .var w ∨ res B x = u → x ∈ [t, o] ++ (C.filter (hasC t o)).flatten := by
      intro x hx
      apply j.in_grown
      rcases hlr with ⟨e1, e2⟩ | ⟨e1, e2⟩
      · rw [e1, e2]; exact hx
      · rw [e1, e2]; exact hx.symm
    refine ⟨j.idem.withV hw hne hf, ?_, ?_, j.apart', ?_⟩
    · intro k hk x hx y hy
      rw [res_with hw, res_with hw]
      rcases mem_merge.mp hk with ⟨hk, _⟩ | rfl
      · rw [j.one k hk x hx y hy]
      · have all : ∀ z, z ∈ [t, o] ++ (C.filter (hasC t o)).flatten → (if res B z = .var w then u else res B z) = u := by
          intro z hz
          have := j.grown hz
          rcases hlr with ⟨e1, e2⟩ | ⟨e1, e2⟩
          · rw [e1, e2] at this
            rcases this with e | e
            · rw [if_pos e]
            · rw [e]; split <;> rfl
          · rw [e1, e2] at this
            rcases this with e | e
            · rw [e]; split <;> rfl
            · rw [if_pos e]
        rw [all x hx, all y hy]
    · intro x y hxy
      rw [res_with hw, res_with hw] at hxy
      have both : (res B x = .var w ∨ res B x = u) → (res B y = .var w ∨ res B y = u) → x = y ∨ ∃ k ∈ mergeC C t o, x ∈ k ∧ y ∈ k := fun h1 h2 => .inr ⟨_, mem_merge.mpr (.inr rfl), two' x h1, two' y h2⟩
      by_cases ex : res B x = .var w
      · rw [if_pos ex] at hxy
        by_cases ey : res B y = .var w
        · exact both (.inl ex) (.inl ey)
        · rw [if_neg ey] at hxy
          exact both (.inl ex) (.inr hxy.symm)
      · rw [if_neg ex] at hxy
        by_cases ey : res B y = .var w
        · rw [if_pos ey] at hxy
          exact both (.inr hxy) (.inl ey)
        · rw [if_neg ey] at hxy
          rcases j.two x y hxy with e | e
          · exact .inl e
          · exact .inr (pair_kept e)
    · intro p hp
      unfold withV at hp
      rcases List.mem_append.mp hp with hp | hp
      · obtain ⟨q, hq, rfl⟩ := List.mem_map.mp hp
        refine ⟨(up q hq).1, ?_⟩
        simp only
        split
        · exact h2
        · exact (up q hq).2
      · have : p = (w, u) := by simpa using hp
        subst this
        exact ⟨h1, h2⟩
  have pt : ∀ x, x = t ∨ x = o → res B x ∈ t :: o :: P := by
    intro x hx
    cases e : x with
    | val d => rw [e] at hx; show UT.val d ∈ _; rcases hx with h | h <;> simp [← h]
    | var w =>
      rw [res_var]
      cases e2 : look B w with
      | none =>
        rw [e] at hx
        show UT.var w ∈ _
        rcases hx with h | h <;> simp [← h]
      | some u => exact (up _ (look_mem e2)).2
  have mt := pt t (.inl rfl)
  have mo := pt o (.inr rfl)
  unfold stepU at h
  split at h
  · rename_i heq
    cases h
    refine ⟨j.idem, ?_, ?_, j.apart', up⟩
    · intro k hk x hx y hy
      rcases mem_merge.mp hk with ⟨hk, _⟩ | rfl
      · exact j.one k hk x hx y hy
      · have all : ∀ z, z ∈ [t, o] ++ (C.filter (hasC t o)).flatten → res B z = res B t := fun z hz => by
          rcases j.grown hz with e | e
          · exact e
          · rw [e, heq]
        rw [all x hx, all y hy]
    · intro x y hxy
      rcases j.two x y hxy with e | e
      · exact .inl e
      · exact .inr (pair_kept e)
  · rename_i hne
    split at h
    · rename_i w ew
      cases h
      rw [ew] at mt hne
      exact bind w _ (res_free j.idem ew) (fun e => hne e.symm) (fun v ev => res_free j.idem ev) mt mo (.inl ⟨ew, rfl⟩)
    · rename_i d ed
      split at h
      · rename_i w ew
        cases h
        rw [ew] at mo hne
        exact bind w _ (res_free j.idem ew) hne (fun v ev => res_free j.idem ev) mo mt (.inr ⟨ew, rfl⟩)
      · cases h
/-- two different values in one class -/
def Clash (C : List (List UT)) : Prop := ∃ k ∈ C, ∃ d e, d ≠ e ∧ UT.val d ∈ k ∧ UT.val e ∈ k
theorem UJ.no_clash (j : UJ B C P) : ¬ Clash C := by
  rintro ⟨k, hk, d, e, hne, h1, h2⟩
  have := j.one k hk _ h1 _ h2
  have : UT.val d = .val e := this
  cases this
  exact hne rfl
theorem UJ.fail (j : UJ B C P) (h : stepU B t o = none) : Clash (mergeC C t o) := by
  unfold stepU at h
  split at h
  · cases h
  · rename_i hne
    split at h
    · cases h
    · rename_i d ed
      split at h
      · cases h
      · rename_i e ee
        rw [ed, ee] at hne
        refine ⟨_, mem_merge.mpr (.inr rfl), d, e, fun z => hne (by rw [z]), j.in_grown (.inl ?_), j.in_grown (.inr ?_)⟩
        · rw [ed]; rfl
        · rw [ee]; rfl
theorem Clash.kept (h : Clash C) : Clash (mergeC C t o) := by
  obtain ⟨k, hk, d, e, hne, h1, h2⟩ := h
  obtain ⟨l, hl, h3, h4⟩ := pair_kept (t := t) (o := o) ⟨k, hk, h1, h2⟩
  exact ⟨l, hl, d, e, hne, h3, h4⟩
end
theorem Clash.all : ∀ (ps : List (UT × UT)) {C : List (List UT)}, Clash C → Clash (classesU ps C)
  | [], _, h => h
  | (t, o) :: ps, _, h => Clash.all ps (h.kept (t := t) (o := o))
/-- what is bound at the end is right; nothing bound: a clash -/
theorem unify_ok : ∀ (ps : List (UT × UT)) {B : Bnd} {C : List (List UT)} {P : List UT}, UJ B C P → match unifyU ps B with
    | some B' => ∃ P', UJ B' (classesU ps C) P' ∧ ∀ x ∈ P', x ∈ P ∨ ∃ p ∈ ps, x = p.1 ∨ x = p.2
    | none => Clash (classesU ps C)
  | [], B, C, P, j => ⟨P, j, fun x hx => .inl hx⟩
  | (t, o) :: ps, B, C, P, j => by
    unfold unifyU classesU
    cases e : stepU B t o with
    | none => exact Clash.all ps (j.fail e)
    | some B' =>
      have := unify_ok ps (j.step e)
      simp only
      cases e2 : unifyU ps B' with
      | none => rw [e2] at this; exact this
      | some B2 =>
        rw [e2] at this
        obtain ⟨P', h1, h2⟩ := this
        refine ⟨P', h1, fun x hx => ?_⟩
        rcases h2 x hx with h | ⟨p, hp, h⟩
        · rcases List.mem_cons.mp h with h | h
          · exact .inr ⟨(t, o), by simp, .inl h⟩
          · rcases List.mem_cons.mp h with h | h
            · exact .inr ⟨(t, o), by simp, .inr h⟩
            · exact .inl h
        · exact .inr ⟨p, List.mem_cons_of_mem _ hp, h⟩
end LW

end

section
set_option linter.all false
set_option Elab.async false
set_option maxRecDepth 100000
namespace LW
open Dl DlM
/-! the program's own binding -/
def lowC (x : Cs) : Bool := x.all fun c => decide (c < 0x110000)
/-- a term whose word or value is told -/
def UOk : UT → Prop
  | .var w => lowC w = true
  | .val (.int _) => True
  | .val (.str x) => lowC x = true
  | .val _ => False
theorem flat_u {a : UT} (h : UOk a) : D.flat DEP (uD a) = true := by
  cases a with
  | var w =>
    have : D.flat DEP (uD (.var w)) = (lowC [118, 97, 114] && (lowC w && true)) := rfl
    rw [this, show lowC w = true from h]; rfl
  | val d =>
    cases d with
    | int i => rfl
    | str x =>
      have : D.flat DEP (uD (.val (.str x))) = (lowC [118, 97, 108, 117, 101] && (lowC x && true)) := rfl
      rw [this, show lowC x = true from h]; rfl
    | _ => exact absurd h (by simp [UOk])
theorem eqv_u {a b : UT} (ha : UOk a) (hb : UOk b) : D.eqv (uD a) (uD b) = decide (a = b) := by
  have tv : ([118, 97, 114] == [118, 97, 108, 117, 101]) = false := by decide
  have vt : ([118, 97, 108, 117, 101] == [118, 97, 114]) = false := by decide
  cases a with
  | var w =>
    cases b with
    | var v => by_cases q : w = v <;> simp [uD, D.eqv, D.eqvs, q]
    | val d =>
      cases d with
      | int i => simp [uD, D.eqv, D.eqvs]
      | str y => simp [uD, D.eqv, D.eqvs]
      | _ => exact absurd hb (by simp [UOk])
  | val d =>
    cases b with
    | var v =>
      cases d with
      | int i => simp [uD, D.eqv, D.eqvs]
      | str y => simp [uD, D.eqv, D.eqvs]
      | _ => exact absurd ha (by simp [UOk])
    | val e =>
      cases d with
      | int i =>
        cases e with
        | int j => by_cases q : i = j <;> simp [uD, D.eqv, D.eqvs, q]
        | str y => simp [uD, D.eqv, D.eqvs]
        | _ => exact absurd hb (by simp [UOk])
      | str x =>
        cases e with
        | int j => simp [uD, D.eqv, D.eqvs]
        | str y => by_cases q : x = y <;> simp [uD, D.eqv, D.eqvs, q]
        | _ => exact absurd hb (by simp [UOk])
      | _ => exact absurd ha (by simp [UOk])
theorem eqP_u {S : Store} {a b : UT} (ha : UOk a) (hb : UOk b) : eqP [uD a, uD b] S = .ok (.bl (decide (a = b))) S := by
  have : eqP [uD a, uD b] S = (if D.flat DEP (uD a) && D.flat DEP (uD b) then .ok (.bl (D.eqv (uD a) (uD b))) S else .stuck) := by
    cases a <;> cases b <;> rfl
  rw [this, flat_u ha, flat_u hb, eqv_u ha hb]
  rfl
def bD (B : Bnd) : List (D × D) := B.map fun p => (.str p.1, uD p.2)
theorem get_bD (B : Bnd) (w : Cs) : dkGet (bD B) (.str w) = (look B w).map uD := by
  unfold dkGet look bD
  induction B with
  | nil => rfl
  | cons p B ih =>
    rw [List.map_cons, List.find?_cons, List.find?_cons]
    by_cases e : p.1 = w
    · simp [e]
    · have e' : ¬ D.str p.1 = D.str w := fun z => e (by injection z)
      simp only [e, e', decide_false]
      exact ih
theorem put_new {B : Bnd} {w : Cs} {t : UT} (h : w ∉ B.map (·.1)) : dkPut (bD B) (.str w) (uD t) = bD (B ++ [(w, t)]) := by
  unfold dkPut
  have : ((bD B).any fun p => decide (p.1 = D.str w)) = false := by
    rw [Bool.eq_false_iff]
    intro z
    obtain ⟨p, hp, e⟩ := List.any_eq_true.mp z
    obtain ⟨q, hq, rfl⟩ := List.mem_map.mp hp
    have : q.1 = w := by
      have e : D.str q.1 = D.str w := by simpa using e
      injection e
    exact h (List.mem_map.mpr ⟨q, hq, this⟩)
  rw [this]
  simp [bD]
theorem c_resolved {S : Store} {n : Nat} {B : Bnd} (hn : S[n]? = some (.dct (bD B))) (t : UT) : F_resolved [uD t, .ref n] S = .ok (uD (LW.res B t)) S := by
  refine eq_of_sat (sat_defM rfl ?_)
  cases t with
  | val d => simp [uD, LW.res]
  | var w =>
    have e : dgetP [.ref n, .str w, .tup [.str [118, 97, 114], .str w]] S = .ok (uD (LW.res B (.var w))) S := by
      unfold dgetP
      simp only [hn, keyD, if_true, get_bD, res_var]
      cases look B w <;> rfl
    simp [uD, methM, tyN, hn, e]
/-- the comprehension's loop -/
theorem dc_loop {n m : Nat} {δ : Env} {w : Cs} {t : UT} (hδ : δ.length = 6) (h1 : δ[1]? = some (some (.str w))) (h2 : δ[2]? = some (some (uD t))) (hw : UOk (.var w)) : ∀ (B A : Bnd) (S : Store), (∀ p ∈ B, UOk p.2) → ((A ++ B).map (·.1)).Nodup → (A ++ B).length < LIM → S[m]? = some (.dct (bD (A.map fun p => (p.1, if p.2 = .var w then t else p.2)))) →
    dcLoop n m δ 4 5 (varM 4) (ifM (tbM (callM eqP [(varM 5), (callM tupP [(conM (.str [118, 97, 114])), (varM 1)])])) (varM 2) (varM 5)) (bD B) S = .ok () (S.set m (.dct (bD ((A ++ B).map fun p => (p.1, if p.2 = .var w then t else p.2)))))
  | [], A, S, _, _, _, hm => by
    rw [List.append_nil]
    show Res.ok () S = _
    congr 1
    refine List.ext_getElem? fun i => ?_
    by_cases e : m = i
    · subst e
      rw [List.getElem?_set_self (lt_of_get hm), hm]
    · rw [List.getElem?_set_ne e]
  | (v, u) :: B, A, S, hB, hnd, hl, hm => by
    have hu := hB _ List.mem_cons_self
    have e4 : (((δ.set 4 (some (.str v))).set 5 (some (uD u))))[4]? = some (some (.str v)) := by
      rw [List.getElem?_set_ne (by omega), List.getElem?_set_self (by omega)]
    have e5 : (((δ.set 4 (some (.str v))).set 5 (some (uD u))))[5]? = some (some (uD u)) := by
      rw [List.getElem?_set_self (by simp; omega)]
    have e1 : (((δ.set 4 (some (.str v))).set 5 (some (uD u))))[1]? = some (some (.str w)) := by
      rw [List.getElem?_set_ne (by omega), List.getElem?_set_ne (by omega), h1]
    have e2 : (((δ.set 4 (some (.str v))).set 5 (some (uD u))))[2]? = some (some (uD t)) := by
      rw [List.getElem?_set_ne (by omega), List.getElem?_set_ne (by omega), h2]
    have eq : eqP [uD u, .tup [.str [118, 97, 114], .str w]] S = .ok (.bl (decide (u = .var w))) S := eqP_u (b := .var w) hu hw
    have ev : (ifM (tbM (callM eqP [(varM 5), (callM tupP [(conM (.str [118, 97, 114])), (varM 1)])])) (varM 2) (varM 5)) (((δ.set 4 (some (.str v))).set 5 (some (uD u)))) S = .ok (uD (if u = .var w then t else u)) S := by
      by_cases q : u = .var w
      · rw [decide_eq_true q] at eq
        rw [if_pos q]
        simp [e5, e1, e2, eq]
      · rw [decide_eq_false q] at eq
        rw [if_neg q]
        simp [e5, e1, e2, eq]
    have ek : varM 4 (((δ.set 4 (some (.str v))).set 5 (some (uD u)))) S = .ok (.str v) S := by rw [varM_ap, e4]
    have hnv : v ∉ (A.map fun p => (p.1, if p.2 = .var w then t else p.2)).map (·.1) := by
      rw [List.map_map]
      intro z
      rw [List.map_append, List.nodup_append] at hnd
      exact hnd.2.2 v (by simpa using z) v (by simp) rfl
    show ((varM 4 _ S).nox.bind fun k S1 => _) = _
    rw [ek]
    simp only [Res.nox_ok, Res.bind_ok, ev, hm, keyD, true_and]
    have hA : (bD (A.map fun p => (p.1, if p.2 = .var w then t else p.2))).length < LIM := by simp [bD]; simp at hl; omega
    rw [if_pos hA, put_new hnv]
    have ih := dc_loop (n := n) (m := m) hδ h1 h2 hw B (A ++ [(v, u)]) (S.set m (.dct (bD ((A.map fun p => (p.1, if p.2 = .var w then t else p.2)) ++ [(v, if u = .var w then t else u)])))) (fun p hp => hB p (List.mem_cons_of_mem _ hp)) (by simpa using hnd) (by simp at hl ⊢; omega) (by rw [List.getElem?_set_self (lt_of_get hm)]; simp)
    have e : A ++ [(v, u)] ++ B = A ++ (v, u) :: B := by simp
    rw [e] at ih
    rw [List.set_set] at ih
    exact ih
end LW

end

section
set_option linter.all false
set_option Elab.async false
set_option maxRecDepth 100000
namespace LW
open Dl DlM
theorem c_with {S : Store} {n : Nat} {B : Bnd} {w : Cs} {t : UT} (hn : S[n]? = some (.dct (bD B))) (hB : ∀ p ∈ B, UOk p.2) (hnd : (B.map (·.1)).Nodup) (hl : B.length ≤ 1000) (hw : UOk (.var w)) (hf : look B w = none) :
    (F_with_variable [.ref n, .str w, uD t] S).sat fun d S' => ∃ m, d = .ref m ∧ S.length ≤ m ∧ S'[m]? = some (.dct (bD (withV B w t))) ∧ Fr [] S S' := by
  have hnl := lt_of_get hn
  refine sat_defM rfl ?_
  generalize hX : (B.map fun p => (p.1, if p.2 = .var w then t else p.2)) = X
  have hXk : X.map (·.1) = B.map (·.1) := by rw [← hX, List.map_map]; rfl
  have hXl : X.length = B.length := by rw [← hX]; simp
  have loop := dc_loop (n := n) (m := S.length) (δ := [some (.ref n), some (.str w), some (uD t), none, none, none]) (w := w) (t := t) rfl rfl rfl hw B [] (S.set n (.lck (bD B)) ++ [.dct []]) hB (by simpa using hnd) (lt_LIM (by simp; omega)) (by simp [bD])
  simp only [List.nil_append, hX] at loop
  refine sat_seq (fun δ S1 => δ = [some (.ref n), some (.str w), some (uD t), some (.ref S.length), none, none] ∧ S1[S.length]? = some (.dct (bD X)) ∧ Fr [] S S1) ?_ ?_
  · obtain ⟨T, e1, g1, f1⟩ : ∃ T, dcM [4, 5] 0 4 5 (varM 4) (ifM (tbM (callM eqP [(varM 5), (callM tupP [(conM (.str [118, 97, 114])), (varM 1)])])) (varM 2) (varM 5)) [some (.ref n), some (.str w), some (uD t), none, none, none] S = .ok (.ref S.length) T ∧ T[S.length]? = some (.dct (bD X)) ∧ Fr [] S T := by
      refine ⟨(((S.set n (.lck (bD B))) ++ [MO.dct []]).set S.length (.dct (bD X))).set n (.dct (bD B)), ?_, ?_, by simp, fun i hi _ => ?_⟩
      · unfold dcM
        simp only [List.getElem?_cons_zero, hn]
        have ew : Dl.wipe [some (D.ref n), some (.str w), some (uD t), none, none, none] [4, 5] = [some (.ref n), some (.str w), some (uD t), none, none, none] := rfl
        rw [ew, loop, Res.bind_ok]
        have : (((S.set n (.lck (bD B))) ++ [MO.dct []]).set S.length (.dct (bD X)))[n]? = some (.lck (bD B)) := by
          rw [List.getElem?_set_ne (by omega), List.getElem?_append_left (by simpa using hnl), List.getElem?_set_self hnl]
        simp only [this]
      · rw [List.getElem?_set_ne (by omega), List.getElem?_set_self (by simp)]
      · by_cases e : n = i
        · subst e
          rw [List.getElem?_set_self (by simp; omega), hn]
        · rw [List.getElem?_set_ne e, List.getElem?_set_ne (by omega), List.getElem?_append_left (by simpa using hi), List.getElem?_set_ne e]
    rw [setS_ap]
    show ((dcM [4, 5] 0 4 5 (varM 4) _ [some (.ref n), some (.str w), some (uD t), none, none, none] S).thenS _ _).sat _ _
    rw [e1]
    simp
    exact ⟨g1, f1⟩
  rintro δ S1 ⟨rfl, h1, f1⟩
  have hput : dputP [uD t, .ref S.length, .str w] S1 = .ok .non (S1.set S.length (.dct (bD (withV B w t)))) := by
    unfold dputP
    simp only [h1, keyD, true_and]
    rw [if_pos (by rw [show (bD X).length = X.length by simp [bD], hXl]; exact lt_LIM (by omega)), put_new (by rw [hXk]; exact look_none.mp hf)]
    rw [← hX]
    rfl
  simp [hput]
  exact ⟨by rw [List.getElem?_set_self (lt_of_get h1)], f1.set_new (Nat.le_refl _)⟩
def pairsOf (ts os : List UT) : List (UT × UT) := ts.zip os
def okB (B : Bnd) : Prop := ∀ p ∈ B, UOk (.var p.1) ∧ UOk p.2
theorem okB.res {B : Bnd} (h : okB B) {x : UT} (hx : UOk x) : UOk (LW.res B x) := by
  cases x with
  | val d => exact hx
  | var w =>
    rw [res_var]
    cases e : look B w with
    | none => exact hx
    | some t => exact (h _ (look_mem e)).2
theorem okB.with {B : Bnd} (h : okB B) {w : Cs} {t : UT} (hw : UOk (.var w)) (ht : UOk t) : okB (withV B w t) := by
  intro p hp
  unfold withV at hp
  rcases List.mem_append.mp hp with hp | hp
  · obtain ⟨q, hq, rfl⟩ := List.mem_map.mp hp
    refine ⟨(h q hq).1, ?_⟩
    simp only
    split
    · exact ht
    · exact (h q hq).2
  · have : p = (w, t) := by simpa using hp
    subst this
    exact ⟨hw, ht⟩
def BtI (S : Store) (T O : D) (ps : List (UT × UT)) (k : Nat) (δ : Env) (S' : Store) : Prop := ∃ (n : Nat) (B : Bnd) (C : List (List UT)) (P : List UT) (a3 a4 a5 a6 : Option D), δ = [some T, some O, some (.ref n), a3, a4, a5, a6] ∧ S.length ≤ n ∧ S'[n]? = some (.dct (bD B)) ∧ Fr [] S S' ∧ UJ B C P ∧ okB B ∧ B.length ≤ k ∧ unifyU ps [] = unifyU (ps.drop k) B
def BtO (S : Store) (ps : List (UT × UT)) (d : D) (S' : Store) : Prop := Fr [] S S' ∧ match unifyU ps [] with
  | none => d = .non
  | some B => okB B ∧ B.length ≤ ps.length ∧ ∃ n, d = .ref n ∧ S.length ≤ n ∧ S'[n]? = some (.dct (bD B))
theorem c_bound {S : Store} {ts os : List UT} (ht : ∀ x ∈ ts, UOk x) (ho : ∀ x ∈ os, UOk x) (hl : ts.length ≤ 100) :
    (F_bound_terms [.tup (ts.map uD), .tup (os.map uD)] S).sat (BtO S (ts.zip os)) := by
  have hz : (ts.zip os).length ≤ ts.length := by rw [List.length_zip]; omega
  refine sat_defM rfl ?_
  refine sat_seq (BtI S (.tup (ts.map uD)) (.tup (os.map uD)) (ts.zip os) 0) ?_ ?_
  · simp [dctP]
    exact ⟨S.length, [], [], [], none, none, none, none, rfl, Nat.le_refl _, by simp [bD], .app, UJ.nil, fun p hp => (by cases hp), Nat.le_refl _, rfl⟩
  intro δ S1 hI
  refine sat_seq (BtI S (.tup (ts.map uD)) (.tup (os.map uD)) (ts.zip os) (ts.zip os).length) ?_ ?_
  · obtain ⟨n, B, C, P, a3, a4, a5, a6, rfl, _⟩ := id hI
    have esrc : zipI (varM 0) (varM 1) [some (.tup (ts.map uD)), some (.tup (os.map uD)), some (.ref n), a3, a4, a5, a6] S1 = .ok ⟨(ts.zip os).map fun p => D.tup [uD p.1, uD p.2], always⟩ S1 := by
      unfold zipI
      simp
      rw [List.zip_map, List.map_map]
      rfl
    rw [forS_ap, esrc, Res.thenS_ok]
    refine for_inv (BtI S (.tup (ts.map uD)) (.tup (os.map uD)) (ts.zip os)) hI (by intros; rfl) ?_ ?_
    · rintro k hk δ S2 ⟨n, B, C, P, a3, a4, a5, a6, rfl, hn, g2, f2, j, hok, hBl, hu⟩
      rw [List.length_map] at hk
      have eg : ((ts.zip os).map fun p => D.tup [uD p.1, uD p.2])[k]'(by simpa using hk) = .tup [uD (ts.zip os)[k].1, uD (ts.zip os)[k].2] := by simp
      have hmem := List.getElem_mem hk
      have hdrop : (ts.zip os).drop k = (ts.zip os)[k] :: (ts.zip os).drop (k + 1) := List.drop_eq_getElem_cons hk
      rw [eg]
      generalize (ts.zip os)[k] = pr at hmem hdrop
      obtain ⟨t, o⟩ := pr
      have hto := List.of_mem_zip hmem
      have okt := ht t hto.1
      have oko := ho o hto.2
      rw [hdrop] at hu
      refine ⟨_, rfl, ?_⟩
      have okl := hok.res okt
      have okr := hok.res oko
      refine sat_seq (fun δ S3 => δ = [some (.tup (ts.map uD)), some (.tup (os.map uD)), some (.ref n), some (uD t), some (uD o), some (uD (res B t)), a6] ∧ S2 = S3) (by simp [setAll, c_resolved g2]) ?_
      rintro δ _ ⟨rfl, rfl⟩
      refine sat_seq (fun δ S3 => δ = [some (.tup (ts.map uD)), some (.tup (os.map uD)), some (.ref n), some (uD t), some (uD o), some (uD (res B t)), some (uD (res B o))] ∧ S2 = S3) (by simp [c_resolved g2]) ?_
      rintro δ _ ⟨rfl, rfl⟩
      have eq := eqP_u (S := S2) okl okr
      have hlen : B.length ≤ 1000 := by omega
      have hvals : ∀ p ∈ B, UOk p.2 := fun p hp => (hok p hp).2
      have done : ∀ B', stepU B t o = some B' → unifyU (ts.zip os) [] = unifyU ((ts.zip os).drop (k + 1)) B' := by
        intro B' hs
        rw [hu]
        show (match stepU B t o with | some B' => unifyU _ B' | none => none) = _
        rw [hs]
      by_cases q : res B t = res B o
      · rw [decide_eq_true q] at eq
        have hs : stepU B t o = some B := by unfold stepU; rw [if_pos q]
        simp [eq]
        exact ⟨n, B, _, _, _, _, _, _, rfl, hn, g2, f2, j.step hs, hok, by omega, done _ hs⟩
      · rw [decide_eq_false q] at eq
        have wlen : ∀ w u, (withV B w u).length ≤ k + 1 := fun w u => by unfold withV; simp; omega
        have bind : ∀ (w : Cs) (u : UT) (B' : Bnd), B' = withV B w u → stepU B t o = some B' → look B w = none → UOk (.var w) → UOk u →
            (F_with_variable [.ref n, .str w, uD u] S2).sat fun d S' => BtI S (.tup (ts.map uD)) (.tup (os.map uD)) (ts.zip os) (k + 1) [some (.tup (ts.map uD)), some (.tup (os.map uD)), some d, some (uD t), some (uD o), some (uD (res B t)), some (uD (res B o))] S' := by
          rintro w u B' rfl hs hw ow ou
          refine (c_with g2 hvals j.idem.nd hlen ow hw).mono ?_
          rintro d S3 ⟨m, rfl, hm, g3, f3⟩
          exact ⟨m, _, _, _, _, _, _, _, rfl, by have := f2.le; omega, g3, f2.trans f3, j.step hs, hok.with ow ou, wlen _ _, done _ hs⟩
        cases el : res B t with
        | var w =>
          have hs : stepU B t o = some (withV B w (res B o)) := by unfold stepU; rw [if_neg q, el]
          have := bind w (res B o) _ rfl hs (res_free j.idem el) (by rw [← el]; exact okl) okr
          rw [el] at eq this
          simp [eq]
          simp only [uD] at this ⊢
          simp
          exact this
        | val d =>
          cases er : res B o with
          | var w =>
            have hs : stepU B t o = some (withV B w (res B t)) := by unfold stepU; rw [if_neg q, el, er]
            have := bind w (res B t) _ rfl hs (res_free j.idem er) (by rw [← er]; exact okr) okl
            rw [el, er] at eq this
            simp [eq]
            simp only [uD] at this ⊢
            simp
            exact this
          | val e =>
            have hs : stepU B t o = none := by unfold stepU; rw [if_neg q, el, er]
            have hnone : unifyU (ts.zip os) [] = none := by
              rw [hu]
              show (match stepU B t o with | some B' => unifyU _ B' | none => none) = _
              rw [hs]
            rw [el, er] at eq
            simp [eq]
            simp [uD]
            refine ⟨f2, ?_⟩
            rw [hnone]
    · rintro δ S2 h2
      rw [List.length_map] at h2
      exact h2
  rintro δ S2 ⟨n, B, C, P, a3, a4, a5, a6, rfl, hn, g2, f2, j, hok, hBl, hu⟩
  simp
  refine ⟨f2, ?_⟩
  rw [hu, List.drop_length]
  exact ⟨hok, by simpa using hBl, n, rfl, hn, g2⟩
end LW

end

section
set_option linter.all false
set_option Elab.async false
set_option maxRecDepth 100000
namespace LW
open Dl DlM
/-- what unified tells -/
def toldL (B : Bnd) : List D := ((B.map (·.1)).mergeSort csLe).map fun w => D.tup [.str w, uD (res B (.var w))]
theorem strsOf_keys (B : Bnd) : strsOf ((bD B).map (·.1)) = some (B.map (·.1)) := by
  have : (bD B).map (·.1) = (B.map (·.1)).map D.str := by
    unfold bD
    rw [List.map_map, List.map_map]
    rfl
  rw [this, strsOf_map]
theorem look_some {B : Bnd} {w : Cs} (h : w ∈ B.map (·.1)) : ∃ t, look B w = some t := by
  cases e : look B w with
  | some t => exact ⟨t, rfl⟩
  | none => exact absurd h (look_none.mp e)
theorem c_unified {S : Store} {ts os : List UT} (ht : ∀ x ∈ ts, UOk x) (ho : ∀ x ∈ os, UOk x) (hl : ts.length ≤ 50) :
    (F_unified [.tup (ts.map uD), .tup (os.map uD)] S).sat fun d S' => Fr [] S S' ∧ d = match unifyU (ts.zip os) [] with
      | none => .non
      | some B => .tup (toldL B) := by
  have hz : (ts.zip os).length ≤ ts.length := by rw [List.length_zip]; omega
  refine sat_defM rfl ?_
  refine sat_seq (fun δ S1 => ∃ d, δ = [some (.tup (ts.map uD)), some (.tup (os.map uD)), some d, none] ∧ BtO S (ts.zip os) d S1) ?_ ?_
  · simp
    refine (c_bound ht ho (by omega)).mono ?_
    intro d S1 h
    exact h
  rintro δ S1 ⟨d, rfl, f1, hc⟩
  cases e : unifyU (ts.zip os) [] with
  | none =>
    rw [e] at hc
    subst hc
    simp
    exact f1
  | some B =>
    rw [e] at hc
    obtain ⟨hok, hBl, n, rfl, hn, g1⟩ := hc
    have hBl : B.length ≤ (ts.zip os).length := hBl
    have es : sortedDP [.ref n] S1 = .ok (.ref S1.length) (S1 ++ [.lst (((B.map (·.1)).mergeSort csLe).map D.str)]) := by
      unfold sortedDP
      simp only [g1, strsOf_keys]
      rw [if_pos (by simp; omega)]
    have hnl := lt_of_get g1
    refine sat_seq (fun δ S2 => δ = [some (.tup (ts.map uD)), some (.tup (os.map uD)), some (.ref n), none] ∧ S1 = S2) (by simp) ?_
    rintro δ _ ⟨rfl, rfl⟩
    have hperm : ((B.map (·.1)).mergeSort csLe).Perm (B.map (·.1)) := List.mergeSort_perm _ _
    have hmem : ∀ w ∈ (B.map (·.1)).mergeSort csLe, w ∈ B.map (·.1) := fun w hw => hperm.mem_iff.mp hw
    have hlen : ((B.map (·.1)).mergeSort csLe).length ≤ 50 := by rw [hperm.length_eq]; simp; omega
    simp [es]
    unfold toldL
    generalize (B.map (·.1)).mergeSort csLe = ks at hmem hlen
    have gk : (S1 ++ [MO.lst (ks.map D.str)])[S1.length]? = some (.lst (ks.map D.str)) := by simp
    simp [lstAt_of gk]
    refine lc_map (fun x => match x with | .str w => D.tup [.str w, uD (res B (.var w))] | d => d) (by simp) (by simp; exact le_LIM (by omega)) ?_ ?_ ?_
    · intro S' hf
      have : S'[S1.length]? = some (.lst (ks.map D.str)) := hf.get (by simp) (by simp)
      simp [lstAt_of this]
    · intro x hx
      obtain ⟨w, hw, rfl⟩ := List.mem_map.mp hx
      refine ⟨_, rfl, fun S' hf => ?_⟩
      have gn : S'[n]? = some (.dct (bD B)) := hf.get (by rw [List.getElem?_append_left hnl]; exact g1) (by simp; omega)
      obtain ⟨t, et⟩ := look_some (hmem w hw)
      have : dixP [.ref n, .str w] S' = .ok (uD (res B (.var w))) S' := by
        unfold dixP
        simp only [gn, get_bD, et, Option.map_some, keyD, if_true, res_var, Option.getD_some]
      simp [this]
    · intro S' hf hys
      simp [lstAt_of hys]
      exact f1.trans (((Fr.app (xs := [S1.length + 1])).trans hf).cut fun i hi hlt => by simp at hi; omega)
end LW

end

section
set_option linter.all false
set_option Elab.async false
set_option maxRecDepth 100000
namespace LW
open Dl DlM
/-! terms behind a mapping -/
def pD (p : Cs × UT) : D := .tup [.str p.1, uD p.2]
theorem res_cons {M : Bnd} {p : Cs × UT} {t : UT} : res (p :: M) t = if t = .var p.1 then p.2 else res M t := by
  cases t with
  | val d => simp [res]
  | var w =>
    rw [res_var, res_var]
    unfold look
    rw [List.find?_cons]
    by_cases e : p.1 = w
    · simp [e]
    · have e' : ¬ w = p.1 := fun z => e z.symm
      simp [e, e']
theorem res_nil {t : UT} : res [] t = t := by cases t <;> rfl
theorem c_put_terms {S : Store} {M : Bnd} {t : UT} (ht : UOk t) (hM : ∀ p ∈ M, UOk (.var p.1)) : F_put_terms [uD t, .tup (M.map pD)] S = .ok (uD (res M t)) S := by
  refine eq_of_sat (sat_defM rfl ?_)
  refine sat_seq (fun δ S1 => (∃ a b, δ = [some (uD t), some (.tup (M.map pD)), a, b]) ∧ S = S1 ∧ res M t = t) ?_ ?_
  · simp
    refine for_inv (fun k δ S1 => (∃ a b, δ = [some (uD t), some (.tup (M.map pD)), a, b]) ∧ S = S1 ∧ res M t = res (M.drop k) t) ⟨⟨_, _, rfl⟩, rfl, rfl⟩ (by intros; rfl) ?_ ?_
    · rintro k hk δ S1 ⟨⟨a, b, rfl⟩, rfl, hr⟩
      rw [List.length_map] at hk
      have eg : (M.map pD)[k]'(by simpa using hk) = .tup [.str M[k].1, uD M[k].2] := by simp [pD]
      have hd : M.drop k = M[k] :: M.drop (k + 1) := List.drop_eq_getElem_cons hk
      have hm := hM _ (List.getElem_mem hk)
      rw [eg]
      rw [hd, res_cons] at hr
      generalize M[k] = p at hm hr
      refine ⟨_, rfl, ?_⟩
      have eq : eqP [uD t, .tup [.str [118, 97, 114], .str p.1]] S = .ok (.bl (decide (t = .var p.1))) S := eqP_u (b := .var p.1) ht hm
      by_cases q : t = .var p.1
      · rw [decide_eq_true q] at eq
        rw [if_pos q] at hr
        simp [setAll, eq]
        rw [hr]
      · rw [decide_eq_false q] at eq
        rw [if_neg q] at hr
        simp [setAll, eq]
        exact hr
    · rintro δ S1 ⟨h1, h2, hr⟩
      rw [List.length_map, List.drop_length, res_nil] at hr
      exact ⟨h1, h2, hr⟩
  rintro δ S1 ⟨⟨a, b, rfl⟩, rfl, hr⟩
  simp
  rw [hr]
/-- the law's own: the mapping a tuple -/
theorem c_after {S : Store} {M : Bnd} {t : UT} (ht : UOk t) (hM : ∀ p ∈ M, UOk (.var p.1)) : F__law_after [uD t, .tup (M.map pD)] S = .ok (uD (res M t)) S := by
  refine eq_of_sat (sat_defM rfl ?_)
  refine sat_seq (fun δ S1 => (∃ a, δ = [some (uD t), some (.tup (M.map pD)), a]) ∧ S = S1 ∧ res M t = t) ?_ ?_
  · simp
    refine for_inv (fun k δ S1 => (∃ a, δ = [some (uD t), some (.tup (M.map pD)), a]) ∧ S = S1 ∧ res M t = res (M.drop k) t) ⟨⟨_, rfl⟩, rfl, rfl⟩ (by intros; rfl) ?_ ?_
    · rintro k hk δ S1 ⟨⟨a, rfl⟩, rfl, hr⟩
      rw [List.length_map] at hk
      have eg : (M.map pD)[k]'(by simpa using hk) = .tup [.str M[k].1, uD M[k].2] := by simp [pD]
      have hd : M.drop k = M[k] :: M.drop (k + 1) := List.drop_eq_getElem_cons hk
      have hm := hM _ (List.getElem_mem hk)
      rw [eg]
      rw [hd, res_cons] at hr
      generalize M[k] = p at hm hr
      refine ⟨_, rfl, ?_⟩
      have eq : eqP [uD t, .tup [.str [118, 97, 114], .str p.1]] S = .ok (.bl (decide (t = .var p.1))) S := eqP_u (b := .var p.1) ht hm
      by_cases q : t = .var p.1
      · rw [decide_eq_true q] at eq
        rw [if_pos q] at hr
        simp [eq]
        rw [hr]
      · rw [decide_eq_false q] at eq
        rw [if_neg q] at hr
        simp [eq]
        exact hr
    · rintro δ S1 ⟨h1, h2, hr⟩
      rw [List.length_map, List.drop_length, res_nil] at hr
      exact ⟨h1, h2, hr⟩
  rintro δ S1 ⟨⟨a, rfl⟩, rfl, hr⟩
  simp
  rw [hr]
/-- the law's own: the mapping a list -/
theorem c_afterL {S : Store} {M : Bnd} {t : UT} {n : Nat} (hn : S[n]? = some (.lst (M.map pD))) (ht : UOk t) (hM : ∀ p ∈ M, UOk (.var p.1)) : F__law_after [uD t, .ref n] S = .ok (uD (res M t)) S := by
  refine eq_of_sat (sat_defM rfl ?_)
  refine sat_seq (fun δ S1 => (∃ a, δ = [some (uD t), some (.ref n), a]) ∧ S = S1 ∧ res M t = t) ?_ ?_
  · simp [lstAt_of hn]
    refine for_inv (fun k δ S1 => (∃ a, δ = [some (uD t), some (.ref n), a]) ∧ S = S1 ∧ res M t = res (M.drop k) t) ⟨⟨_, rfl⟩, rfl, rfl⟩ ?_ ?_ ?_
    · rintro k δ S1 _ ⟨_, rfl, _⟩
      simp [lstAt_of hn]
    · rintro k hk δ S1 ⟨⟨a, rfl⟩, rfl, hr⟩
      rw [List.length_map] at hk
      have eg : (M.map pD)[k]'(by simpa using hk) = .tup [.str M[k].1, uD M[k].2] := by simp [pD]
      have hd : M.drop k = M[k] :: M.drop (k + 1) := List.drop_eq_getElem_cons hk
      have hm := hM _ (List.getElem_mem hk)
      rw [eg]
      rw [hd, res_cons] at hr
      generalize M[k] = p at hm hr
      refine ⟨_, rfl, ?_⟩
      have eq : eqP [uD t, .tup [.str [118, 97, 114], .str p.1]] S = .ok (.bl (decide (t = .var p.1))) S := eqP_u (b := .var p.1) ht hm
      by_cases q : t = .var p.1
      · rw [decide_eq_true q] at eq
        rw [if_pos q] at hr
        simp [eq]
        rw [hr]
      · rw [decide_eq_false q] at eq
        rw [if_neg q] at hr
        simp [eq]
        exact hr
    · rintro δ S1 ⟨h1, h2, hr⟩
      rw [List.length_map, List.drop_length, res_nil] at hr
      exact ⟨h1, h2, hr⟩
  rintro δ S1 ⟨⟨a, rfl⟩, rfl, hr⟩
  simp
  rw [hr]
/-- a term among terms -/
theorem in_terms {S : Store} {n : Nat} {k : List UT} {t : UT} (hn : S[n]? = some (.lst (k.map uD))) (ht : UOk t) (hk : ∀ x ∈ k, UOk x) : inP [uD t, .ref n] S = .ok (.bl (decide (t ∈ k))) S := by
  have f1 : D.flat (DEP - 1) (uD t) = true := by
    have := flat_u ht
    cases t with
    | var w => exact this
    | val d =>
      cases d with
      | int i => rfl
      | str x => exact this
      | _ => exact absurd ht (by simp [UOk])
  have f2 : D.flats (DEP - 1) (k.map uD) = true := by
    clear hn
    induction k with
    | nil => rfl
    | cons x k ih =>
      have fx : D.flat (DEP - 1) (uD x) = true := by
        have hx := hk x (by simp)
        have := flat_u hx
        cases x with
        | var w => exact this
        | val d =>
          cases d with
          | int i => rfl
          | str x => exact this
          | _ => exact absurd hx (by simp [UOk])
      show (D.flat (DEP - 1) (uD x) && D.flats (DEP - 1) (k.map uD)) = true
      rw [fx, ih fun y hy => hk y (by simp [hy])]
      rfl
  have f3 : ((k.map uD).any fun z => D.eqv z (uD t)) = decide (t ∈ k) := by
    clear hn f2
    induction k with
    | nil => simp
    | cons x k ih =>
      rw [List.map_cons, List.any_cons, ih fun y hy => hk y (by simp [hy]), eqv_u (hk x (by simp)) ht]
      by_cases q : x = t
      · simp [q]
      · have q' : ¬ t = x := fun z => q z.symm
        simp [q, q']
  unfold inP
  simp only [lstAt_of hn]
  rw [f1, f2, f3]
  simp
end LW

end

section
set_option linter.all false
set_option Elab.async false
set_option maxRecDepth 100000
namespace LW
open Dl DlM
/-! the law's classes -/
theorem addL {S : Store} {a b : Nat} {xs ys : List D} (h1 : S[a]? = some (.lst xs)) (h2 : S[b]? = some (.lst ys)) (hl : xs.length + ys.length ≤ 1000000) : addP [.ref a, .ref b] S = .ok (.ref S.length) (S ++ [.lst (xs ++ ys)]) := by
  simp [h1, h2, le_LIM hl]
theorem app_get2 {S : Store} {n : Nat} {v : MO} (h : S[n]? = some v) (T : Store) : (S ++ T)[n]? = some v := by rw [List.getElem?_append_left (lt_of_get h)]; exact h
theorem classes_snoc (t o : UT) : ∀ (ps : List (UT × UT)) (C : List (List UT)), classesU (ps ++ [(t, o)]) C = mergeC (classesU ps C) t o
  | [], _ => rfl
  | (_, _) :: ps, _ => classes_snoc t o ps _
/-- the list at n has the classes of Z, each at its own place -/
def CL (S : Store) (n : Nat) (Z : List (Nat × List UT)) : Prop := S[n]? = some (.lst (Z.map fun p => D.ref p.1)) ∧ ∀ p ∈ Z, S[p.1]? = some (.lst (p.2.map uD)) ∧ ∀ x ∈ p.2, UOk x
def total (Z : List (Nat × List UT)) : Nat := ((Z.map (·.2)).flatten).length
theorem total_le {Z : List (Nat × List UT)} (f : Nat × List UT → Bool) : total (Z.filter f) ≤ total Z := by
  unfold total
  induction Z with
  | nil => simp
  | cons p Z ih =>
    rw [List.filter_cons]
    split
    · simp at ih ⊢; omega
    · simp at ih ⊢; omega
theorem total_take {Z : List (Nat × List UT)} (k : Nat) : total (Z.take k) ≤ total Z := by
  unfold total
  induction Z generalizing k with
  | nil => simp
  | cons p Z ih =>
    cases k with
    | zero => simp
    | succ k => have := ih k; simp at this ⊢; omega
theorem total_mem {Z : List (Nat × List UT)} {p : Nat × List UT} (h : p ∈ Z) : p.2.length ≤ total Z := by
  unfold total
  induction Z with
  | nil => cases h
  | cons q Z ih =>
    rcases List.mem_cons.mp h with rfl | h
    · simp
    · have := ih h; simp at this ⊢; omega
theorem total_split (Z : List (Nat × List UT)) (f : Nat × List UT → Bool) : total (Z.filter f) + total (Z.filter fun p => !f p) = total Z := by
  unfold total
  induction Z with
  | nil => rfl
  | cons p Z ih =>
    rw [List.filter_cons, List.filter_cons]
    cases f p
    · simp at ih ⊢; omega
    · simp at ih ⊢; omega
def has2 (t o : UT) (p : Nat × List UT) : Bool := hasC t o p.2
def grownL (t o : UT) (Z : List (Nat × List UT)) : List UT := [t, o] ++ ((Z.filter (has2 t o)).map (·.2)).flatten
theorem merge_Z (t o : UT) (Z : List (Nat × List UT)) (g : Nat) : ((Z.filter fun p => !has2 t o p) ++ [(g, grownL t o Z)]).map (·.2) = mergeC (Z.map (·.2)) t o := by
  unfold mergeC grownL
  rw [List.map_append, List.filter_map, List.filter_map]
  rfl
def KnI (S S1 : Store) (T O kd : D) (n : Nat) (t o : UT) (Z : List (Nat × List UT)) (k : Nat) (δ : Env) (S' : Store) : Prop := ∃ (g r : Nat) (a6 : Option D), δ = [some T, some O, some (.ref n), some kd, some (.ref g), some (.ref r), a6] ∧ S1.length ≤ g ∧ S1.length ≤ r ∧ g ≠ r ∧ S'[g]? = some (.lst ((grownL t o (Z.take k)).map uD)) ∧ S'[r]? = some (.lst (((Z.take k).filter fun p => !has2 t o p).map fun p => D.ref p.1)) ∧ Fr [] S1 S'
def ClI (S : Store) (T O : D) (ps : List (UT × UT)) (k : Nat) (δ : Env) (S' : Store) : Prop := ∃ (n : Nat) (Z : List (Nat × List UT)) (a3 a4 a5 a6 : Option D), δ = [some T, some O, some (.ref n), a3, a4, a5, a6] ∧ S.length ≤ n ∧ CL S' n Z ∧ Z.map (·.2) = classesU (ps.take k) [] ∧ total Z ≤ 2 * k ∧ Z.length ≤ k ∧ Fr [] S S'
theorem c_classes {S : Store} {ts os : List UT} (ht : ∀ x ∈ ts, UOk x) (ho : ∀ x ∈ os, UOk x) (he : ts.length = os.length) (hl : ts.length ≤ 50) :
    (F__law_classes [.tup (ts.map uD), .tup (os.map uD)] S).sat fun d S' => ∃ n Z, d = .ref n ∧ S.length ≤ n ∧ CL S' n Z ∧ Z.map (·.2) = classesU (ts.zip os) [] ∧ total Z ≤ 2 * ts.length ∧ Fr [] S S' := by
  have hzl : (ts.zip os).length = ts.length := by rw [List.length_zip]; omega
  refine sat_defM rfl ?_
  refine sat_seq (ClI S (.tup (ts.map uD)) (.tup (os.map uD)) (ts.zip os) 0) ?_ ?_
  · simp
    exact ⟨S.length, [], none, none, none, none, rfl, Nat.le_refl _, ⟨by simp, fun p hp => (by cases hp)⟩, rfl, by simp [total], by simp, .app⟩
  intro δ S1 hI
  refine sat_seq (ClI S (.tup (ts.map uD)) (.tup (os.map uD)) (ts.zip os) ts.length) ?_ ?_
  · obtain ⟨n, Z, a3, a4, a5, a6, rfl, _⟩ := id hI
    simp [inRange_nat (show ts.length ≤ 1000000000 by omega)]
    refine for_inv (ClI S (.tup (ts.map uD)) (.tup (os.map uD)) (ts.zip os)) hI (by intros; rfl) ?_ ?_
    · rintro k hk δ S2 ⟨n, Z, a3, a4, a5, a6, rfl, hn, ⟨hc1, hc2⟩, hZ, htot, hZl, f2⟩
      refine ⟨_, rfl, ?_⟩
      rw [rangeL_get]
      rw [rangeL_length] at hk
      have hk : k < ts.length := by omega
      have hko : k < os.length := by omega
      have et : atI (ts.map uD) (k : Int) = some (uD ts[k]) := atI_nat (by simp [hk])
      have eo : atI (os.map uD) (k : Int) = some (uD os[k]) := atI_nat (by simp [hko])
      have htk := ht _ (List.getElem_mem hk)
      have hok := ho _ (List.getElem_mem hko)
      have htake : (ts.zip os).take (k + 1) = (ts.zip os).take k ++ [(ts[k], os[k])] := by
        rw [List.take_add_one, List.getElem?_eq_getElem (by rw [hzl]; exact hk)]
        simp
      generalize ts[k] = t at et htk htake
      generalize os[k] = o at eo hok htake
      refine sat_seq (fun δ S3 => δ = [some (.tup (ts.map uD)), some (.tup (os.map uD)), some (.ref n), some (.int k), some (.ref S2.length), a5, a6] ∧ S3 = S2 ++ [.lst [uD t, uD o]]) (by simp [et, eo]) ?_
      rintro δ _ ⟨rfl, rfl⟩
      refine sat_seq (KnI S S2 (.tup (ts.map uD)) (.tup (os.map uD)) (.int k) n t o Z 0) ?_ ?_
      · simp
        exact ⟨S2.length, S2.length + 1, a6, rfl, Nat.le_refl _, by omega, by omega, by simp [grownL], by rw [List.getElem?_append_right (by omega)]; simp, .app⟩
      intro δ S3 hI3
      refine sat_seq (KnI S S2 (.tup (ts.map uD)) (.tup (os.map uD)) (.int k) n t o Z Z.length) ?_ ?_
      · obtain ⟨g, r, b6, rfl, _, _, _, _, _, f3⟩ := id hI3
        simp [lstAt_of (f3.get hc1 (by simp))]
        refine for_inv (KnI S S2 (.tup (ts.map uD)) (.tup (os.map uD)) (.int k) n t o Z) hI3 ?_ ?_ ?_
        · rintro j δ S4 _ ⟨_, _, _, _, _, _, _, _, _, f4⟩
          simp [lstAt_of (f4.get hc1 (by simp))]
        · rintro j hj δ S4 ⟨g, r, b6, rfl, hg, hr, hgr, gg, gr, f4⟩
          rw [List.length_map] at hj
          refine ⟨_, rfl, ?_⟩
          have hmem := List.getElem_mem hj
          have eg : (Z.map fun p => D.ref p.1)[j]'(by simpa using hj) = .ref Z[j].1 := by simp
          have htk2 : Z.take (j + 1) = Z.take j ++ [Z[j]] := by
            rw [List.take_add_one, List.getElem?_eq_getElem hj]
            rfl
          rw [eg]
          generalize Z[j] = p at hmem htk2
          obtain ⟨hp1, hp2⟩ := hc2 p hmem
          have hp4 := f4.get hp1 (by simp)
          have hpl := lt_of_get hp1
          have i1 := in_terms hp4 htk hp2
          have i2 := in_terms hp4 hok hp2
          have hp5 := total_mem hmem
          have hgl : (grownL t o (Z.take j)).length ≤ 2 + total Z := by
            have h1 := total_le (Z := Z.take j) (has2 t o)
            have h2 := total_take (Z := Z) j
            unfold grownL
            unfold total at h1
            rw [List.length_append]
            simp at h1 ⊢
            unfold total at h2 ⊢
            simp at h2 ⊢
            omega
          cases eh : has2 t o p with
          | true =>
            have ea := addL gg hp4 (by simp; omega)
            have hgrow : grownL t o (Z.take (j + 1)) = grownL t o (Z.take j) ++ p.2 := by
              rw [htk2]
              unfold grownL
              rw [List.filter_append]
              simp [eh]
            have hrest : ((Z.take (j + 1)).filter fun p => !has2 t o p) = (Z.take j).filter fun p => !has2 t o p := by
              rw [htk2, List.filter_append]
              simp [eh]
            have hc : (orT (tbM (callM inP [(callM ixP [(varM 0), (varM 3)]), (varM 6)])) (tbM (callM inP [(callM ixP [(varM 1), (varM 3)]), (varM 6)]))) [some (.tup (ts.map uD)), some (.tup (os.map uD)), some (.ref n), some (.int k), some (.ref g), some (.ref r), some (.ref p.1)] S4 = .ok true S4 := by
              unfold has2 hasC at eh
              by_cases q : t ∈ p.2
              · simp [et, i1, q]
              · have q2 : o ∈ p.2 := by simpa [q] using eh
                simp [et, eo, i1, i2, q, q2]
            rw [blkS_one]
            show (ifS _ _ _ [some (.tup (ts.map uD)), some (.tup (os.map uD)), some (.ref n), some (.int k), some (.ref g), some (.ref r), some (.ref p.1)] S4).sat _ _
            rw [ifS_ap, hc]
            simp [-addP_ref, ea]
            refine ⟨S4.length, r, _, rfl, by have := f4.le; omega, hr, by have := lt_of_get gr; omega, ?_, ?_, f4.push⟩
            · rw [hgrow]; simp
            · rw [hrest, List.getElem?_append_left (lt_of_get gr)]; exact gr
          | false =>
            have hgrow : grownL t o (Z.take (j + 1)) = grownL t o (Z.take j) := by
              rw [htk2]
              unfold grownL
              rw [List.filter_append]
              simp [eh]
            have hrest : ((Z.take (j + 1)).filter fun p => !has2 t o p) = ((Z.take j).filter fun p => !has2 t o p) ++ [p] := by
              rw [htk2, List.filter_append]
              simp [eh]
            have hc : (orT (tbM (callM inP [(callM ixP [(varM 0), (varM 3)]), (varM 6)])) (tbM (callM inP [(callM ixP [(varM 1), (varM 3)]), (varM 6)]))) [some (.tup (ts.map uD)), some (.tup (os.map uD)), some (.ref n), some (.int k), some (.ref g), some (.ref r), some (.ref p.1)] S4 = .ok false S4 := by
              unfold has2 hasC at eh
              have q1 : t ∉ p.2 := fun z => by simp [z] at eh
              have q2 : o ∉ p.2 := fun z => by simp [z] at eh
              simp [et, eo, i1, i2, q1, q2]
            have hrl : (((Z.take j).filter fun p => !has2 t o p).map fun p => D.ref p.1).length < LIM := by
              refine lt_LIM ?_
              have := List.length_filter_le (fun p => !has2 t o p) (Z.take j)
              rw [List.length_take] at this
              rw [List.length_map]
              omega
            rw [blkS_one]
            show (ifS _ _ _ [some (.tup (ts.map uD)), some (.tup (os.map uD)), some (.ref n), some (.int k), some (.ref g), some (.ref r), some (.ref p.1)] S4).sat _ _
            rw [ifS_ap, hc]
            rw [List.length_map] at hrl
            simp [gr, hrl]
            refine ⟨g, r, _, rfl, hg, hr, hgr, ?_, ?_, f4.set_new hr⟩
            · rw [hgrow, List.getElem?_set_ne (Ne.symm hgr)]; exact gg
            · rw [hrest, List.getElem?_set_self (lt_of_get gr)]; simp
        · intro δ S4 h4
          rw [List.length_map] at h4
          exact h4
      rintro δ S4 ⟨g, r, b6, rfl, hg, hr, hgr, gg, gr, f4⟩
      rw [List.take_length] at gg gr
      have hle4 := f4.le
      have ea := addL (app_get2 gr [MO.lst [D.ref g]]) (show (S4 ++ [MO.lst [D.ref g]])[S4.length]? = some (.lst [D.ref g]) by simp) (by
        have := List.length_filter_le (fun p => !has2 t o p) Z
        simp; omega)
      simp [-addP_ref]
      skip
      rw [ea, Res.sat_ok]
      have hsp := total_split Z (has2 t o)
      refine ⟨S4.length + 1, (Z.filter fun p => !has2 t o p) ++ [(g, grownL t o Z)], some (.int k), some (.ref g), some (.ref r), b6, by simp, by have := f2.le; omega, ⟨?_, ?_⟩, ?_, ?_, ?_, (f2.trans f4).push.push⟩
      · rw [List.getElem?_append_right (by simp)]
        simp [Function.comp_def]
      · intro q hq
        rcases List.mem_append.mp hq with hq | hq
        · have hq2 := (List.mem_filter.mp hq).1
          obtain ⟨z1, z2⟩ := hc2 q hq2
          exact ⟨app_get2 (app_get2 (f4.get z1 (by simp)) _) _, z2⟩
        · have : q = (g, grownL t o Z) := by simpa using hq
          subst this
          refine ⟨app_get2 (app_get2 gg _) _, fun x hx => ?_⟩
          unfold grownL at hx
          rcases List.mem_append.mp hx with hx | hx
          · simp at hx
            rcases hx with rfl | rfl
            · exact htk
            · exact hok
          · obtain ⟨l, hl1, hl2⟩ := List.mem_flatten.mp hx
            obtain ⟨q, hq1, rfl⟩ := List.mem_map.mp hl1
            exact (hc2 q (List.mem_filter.mp hq1).1).2 x hl2
      · rw [merge_Z, hZ, htake, classes_snoc]
      · unfold total at hsp htot ⊢
        unfold grownL
        simp at hsp htot ⊢
        omega
      · have := List.length_filter_le (fun p => !has2 t o p) Z
        simp; omega
    · intro δ S2 h2
      rw [rangeL_length] at h2
      exact h2
  rintro δ S2 ⟨n, Z, a3, a4, a5, a6, rfl, hn, hc, hZ, htot, hZl, f2⟩
  simp
  refine ⟨hn, Z, hc, ?_, by omega, f2⟩
  rw [hZ, ← hzl, List.take_length]
end LW

end

section
set_option linter.all false
set_option Elab.async false
set_option maxRecDepth 100000
namespace LW
open Dl DlM
/-! clashes -/
def isVal : UT → Bool
  | .val _ => true
  | _ => false
theorem first_go : ∀ (xs acc : List D), acc.Nodup → (xs.foldl (fun acc x => if x ∈ acc then acc else acc ++ [x]) acc).Nodup ∧ ∀ x, x ∈ xs.foldl (fun acc x => if x ∈ acc then acc else acc ++ [x]) acc ↔ x ∈ acc ∨ x ∈ xs
  | [], acc, h => ⟨h, by simp⟩
  | y :: xs, acc, h => by
    rw [List.foldl_cons]
    by_cases e : y ∈ acc
    · rw [if_pos e]
      obtain ⟨h1, h2⟩ := first_go xs acc h
      refine ⟨h1, fun x => ?_⟩
      rw [h2]
      constructor
      · rintro (h | h)
        · exact .inl h
        · exact .inr (List.mem_cons_of_mem _ h)
      · rintro (h | h)
        · exact .inl h
        · rcases List.mem_cons.mp h with rfl | h
          · exact .inl e
          · exact .inr h
    · rw [if_neg e]
      have hn : (acc ++ [y]).Nodup := by
        rw [List.nodup_append]
        refine ⟨h, by simp, fun a ha b hb => ?_⟩
        have : b = y := by simpa using hb
        subst this
        rintro rfl
        exact e ha
      obtain ⟨h1, h2⟩ := first_go xs (acc ++ [y]) hn
      refine ⟨h1, fun x => ?_⟩
      rw [h2]
      simp only [List.mem_append, List.mem_cons, List.not_mem_nil, or_false, or_assoc]
theorem first_nodup (xs : List D) : (firstD xs).Nodup := (first_go xs [] List.nodup_nil).1
theorem first_mem (xs : List D) (x : D) : x ∈ firstD xs ↔ x ∈ xs := by
  have := (first_go xs [] List.nodup_nil).2 x
  simpa [firstD] using this
theorem sub_len : ∀ (l V : List D), l.Nodup → (∀ x ∈ l, x ∈ V) → l.length ≤ V.length
  | [], _, _, _ => Nat.zero_le _
  | x :: l, V, hn, hs => by
    obtain ⟨h1, h2⟩ := List.nodup_cons.mp hn
    have hx : x ∈ V := hs x List.mem_cons_self
    have ih := sub_len l (V.erase x) h2 fun y hy => by
      have hne : y ≠ x := by rintro rfl; exact h1 hy
      exact (List.mem_erase_of_ne hne).2 (hs y (List.mem_cons_of_mem _ hy))
    have e := List.length_erase_of_mem hx
    have hp : 0 < V.length := List.length_pos_of_mem hx
    simp
    omega
theorem first_two (xs : List D) : 1 < (firstD xs).length ↔ ∃ x ∈ xs, ∃ y ∈ xs, x ≠ y := by
  constructor
  · intro h
    cases e : firstD xs with
    | nil => rw [e] at h; simp at h
    | cons x l =>
      cases l with
      | nil => rw [e] at h; simp at h
      | cons y l =>
        have hn := first_nodup xs
        rw [e] at hn
        refine ⟨x, (first_mem xs x).mp (by rw [e]; simp), y, (first_mem xs y).mp (by rw [e]; simp), ?_⟩
        rintro rfl
        simp at hn
  · rintro ⟨x, hx, y, hy, hne⟩
    have hx := (first_mem xs x).mpr hx
    have hy := (first_mem xs y).mpr hy
    cases e : firstD xs with
    | nil => rw [e] at hx; cases hx
    | cons z l =>
      cases l with
      | nil =>
        rw [e] at hx hy
        simp at hx hy
        exact absurd (hx.trans hy.symm) hne
      | cons z2 l => simp
theorem pair_u {x : UT} (h : UOk x) : pairD (uD x) = true := by
  cases x with
  | var w => rfl
  | val d =>
    cases d with
    | int i => rfl
    | str y => rfl
    | _ => exact absurd h (by simp [UOk])
/-- no two different values in it -/
def NoC (k : List UT) : Prop := ¬ ∃ d e, d ≠ e ∧ UT.val d ∈ k ∧ UT.val e ∈ k
def NcI (S : Store) (n : Nat) (Z : List (Nat × List UT)) (k : Nat) (δ : Env) (S1 : Store) : Prop := (∃ a b, δ = [some (.ref n), a, b]) ∧ Fr [] S S1 ∧ ∀ p ∈ Z.take k, NoC p.2
theorem c_clashes {S : Store} {n : Nat} {Z : List (Nat × List UT)} {V : List D} (hc : CL S n Z) (hV : ∀ p ∈ Z, ∀ d, UT.val d ∈ p.2 → uD (.val d) ∈ V) (hVl : V.length ≤ 4) (htot : total Z ≤ 60) :
    (F__law_clashes [.ref n] S).sat fun d S' => ∃ b : Bool, d = .bl b ∧ (b = true ↔ Clash (Z.map (·.2))) ∧ Fr [] S S' := by
  obtain ⟨hc1, hc2⟩ := hc
  refine sat_defM rfl ?_
  refine sat_seq (NcI S n Z Z.length) ?_ ?_
  · simp [lstAt_of hc1]
    refine for_inv (NcI S n Z) ⟨⟨_, _, rfl⟩, .refl, by simp⟩ ?_ ?_ ?_
    · rintro k δ S1 _ ⟨_, f1, _⟩
      simp [lstAt_of (f1.get hc1 (by simp))]
    · rintro k hk δ S1 ⟨⟨a, b, rfl⟩, f1, hno⟩
      rw [List.length_map] at hk
      refine ⟨_, rfl, ?_⟩
      have hmem := List.getElem_mem hk
      have eg : (Z.map fun p => D.ref p.1)[k]'(by simpa using hk) = .ref Z[k].1 := by simp
      have htk2 : Z.take (k + 1) = Z.take k ++ [Z[k]] := by
        rw [List.take_add_one, List.getElem?_eq_getElem hk]
        rfl
      rw [eg]
      generalize Z[k] = p at hmem htk2
      obtain ⟨hp1, hp2⟩ := hc2 p hmem
      have hp := f1.get hp1 (by simp)
      have hpl := lt_of_get hp
      have hlen := total_mem hmem
      have hv := hV p hmem
      rw [blkS_one]
      simp [lstAt_of hp]
      refine lc_inv (fun j acc S' => Fr [S1.length] (S1 ++ [.lst []]) S' ∧ S'[S1.length]? = some (.lst acc) ∧ acc = ((p.2.take j).filter isVal).map uD) ⟨.refl, by simp, by simp⟩ ?_ (by simp; exact le_LIM (by omega)) ?_ ?_
      · rintro j acc S' hj ⟨q1, q2, q3⟩
        have := q1.get (app_get2 hp _) (by simp; omega)
        refine ⟨by simp [lstAt_of this], q2, ?_⟩
        rw [q3, List.length_map]
        have := List.length_filter_le isVal (p.2.take j)
        rw [List.length_take] at this
        omega
      · rintro j hj acc S' ⟨q1, q2, q3⟩
        rw [List.length_map] at hj
        refine ⟨_, rfl, ?_⟩
        have ej : (p.2.map uD)[j]'(by simpa using hj) = uD p.2[j] := by simp
        have htj : p.2.take (j + 1) = p.2.take j ++ [p.2[j]] := by
          rw [List.take_add_one, List.getElem?_eq_getElem hj]
          rfl
        rw [ej, htj]
        generalize p.2[j] = x
        cases x with
        | var w =>
          simp [uD]
          refine ⟨q1, q2, ?_⟩
          rw [q3]
          simp [isVal]
        | val d =>
          simp [uD]
          refine ⟨q2, q1.trans (.set (by simp)), by rw [List.getElem?_set_self (lt_of_get q2)], ?_⟩
          rw [q3]
          simp [isVal, uD]
          rfl
      · rintro acc S' ⟨q1, q2, q3⟩
        rw [List.length_map, List.take_length] at q3
        subst q3
        have fS : Fr [] S S' := f1.trans (((Fr.app (xs := [S1.length])).trans q1).cut fun i hi hlt => by simp at hi; omega)
        have hmemv : ∀ x, x ∈ (p.2.filter isVal).map uD ↔ ∃ d, UT.val d ∈ p.2 ∧ x = uD (.val d) := by
          intro x
          simp only [List.mem_map, List.mem_filter]
          constructor
          · rintro ⟨y, ⟨h1, h2⟩, rfl⟩
            cases y with
            | var w => cases h2
            | val d => exact ⟨d, h1, rfl⟩
          · rintro ⟨d, h1, rfl⟩
            exact ⟨.val d, ⟨h1, rfl⟩, rfl⟩
        have hfl : (firstD ((p.2.filter isVal).map uD)).length ≤ 4 := by
          refine Nat.le_trans (sub_len _ V (first_nodup _) fun x hx => ?_) hVl
          obtain ⟨d, h1, rfl⟩ := (hmemv x).mp ((first_mem _ x).mp hx)
          exact hv d h1
        have hls : lenSetP [.ref S1.length] S' = .ok (.int (firstD ((p.2.filter isVal).map uD)).length) S' := by
          unfold lenSetP
          simp only [lstAt_of q2]
          rw [if_pos]
          refine ⟨?_, ?_, hfl⟩
          · rw [List.all_eq_true]
            intro x hx
            obtain ⟨y, hy, rfl⟩ := List.mem_map.mp hx
            exact pair_u (hp2 y (List.mem_filter.mp hy).1)
          · have := List.length_filter_le isVal p.2
            rw [List.length_map]
            omega
        simp [hls]
        have htwo := first_two ((p.2.filter isVal).map uD)
        by_cases q : 1 < (firstD ((p.2.filter isVal).map uD)).length
        · rw [if_pos (show (1 : Int) < ((firstD ((p.2.filter isVal).map uD)).length : Nat) by omega), Res.sat_ok]
          obtain ⟨x, hx, y, hy, hne⟩ := htwo.mp q
          obtain ⟨d, h1, rfl⟩ := (hmemv x).mp hx
          obtain ⟨e, h2, rfl⟩ := (hmemv y).mp hy
          exact .inr ⟨rfl, ⟨p.2, List.mem_map_of_mem hmem, d, e, fun z => hne (by rw [z]), h1, h2⟩, fS⟩
        · rw [if_neg (show ¬ (1 : Int) < ((firstD ((p.2.filter isVal).map uD)).length : Nat) by omega), Res.sat_ok]
          refine ⟨⟨_, _, rfl⟩, fS, ?_⟩
          intro p' hp'
          rw [htk2] at hp'
          rcases List.mem_append.mp hp' with hp' | hp'
          · exact hno p' hp'
          · have : p' = p := by simpa using hp'
            subst this
            rintro ⟨d, e, hne, h1, h2⟩
            exact q (htwo.mpr ⟨_, (hmemv _).mpr ⟨d, h1, rfl⟩, _, (hmemv _).mpr ⟨e, h2, rfl⟩, fun z => hne (by
              have := uD_inj.mp z
              injection this)⟩)
    · intro δ S1 h1
      rw [List.length_map] at h1
      exact h1
  rintro δ S1 ⟨⟨a, b, rfl⟩, f1, hno⟩
  rw [List.take_length] at hno
  simp
  refine ⟨?_, f1⟩
  rintro ⟨k, hk, d, e, hne, h1, h2⟩
  obtain ⟨p, hp, rfl⟩ := List.mem_map.mp hk
  exact hno p hp ⟨d, e, hne, h1, h2⟩
end LW

end

section
set_option linter.all false
set_option Elab.async false
set_option maxRecDepth 100000
namespace LW
open Dl DlM
/-! comparing two terms; the class of a term -/
def leaf : D → Bool
  | .int _ => true
  | .str _ => true
  | _ => false
theorem same_leaf {S : Store} {n : Nat} {a b : D} (ha : leaf a = true) (hb : leaf b = true) : F__law_same (n + 1) [a, b] S = .ok (.bl (decide (a = b))) S := by
  refine eq_of_sat ?_
  unfold F__law_same
  refine sat_defM rfl ?_
  cases a with
  | int i =>
    cases b with
    | int j => simp [isTy]
    | str y => simp [isTy]
    | _ => cases hb
  | str x =>
    cases b with
    | int j => simp [isTy]
    | str y => simp [isTy]
    | _ => cases hb
  | _ => cases ha
theorem in_bools {S : Store} {n : Nat} {ys : List D} (h : S[n]? = some (.lst ys)) (hy : ∀ y ∈ ys, ∃ b, y = .bl b) (b : Bool) : inP [.bl b, .ref n] S = .ok (.bl (decide (D.bl b ∈ ys))) S := by
  have e1 : ys.all D.sc = true := by
    rw [List.all_eq_true]
    intro y hm
    obtain ⟨b, rfl⟩ := hy y hm
    rfl
  have e3 : (ys.any fun z => D.eqv z (.bl b)) = decide (D.bl b ∈ ys) := by
    clear h e1
    induction ys with
    | nil => simp
    | cons y ys ih =>
      obtain ⟨c, rfl⟩ := hy y (by simp)
      rw [List.any_cons, ih fun z hz => hy z (by simp [hz])]
      cases b <;> cases c <;> simp [D.eqv]
  unfold inP
  simp only [lstAt_of h, e1, Bool.and_true]
  have : (D.bl b).sc = true := rfl
  rw [this, e3]
  simp
/-- two pairs of leaves -/
theorem same_pair {S : Store} {n : Nat} {a b c d : D} (ha : leaf a = true) (hb : leaf b = true) (hc : leaf c = true) (hd : leaf d = true) :
    (F__law_same (n + 1 + 1) [.tup [a, b], .tup [c, d]] S).sat fun r S' => r = .bl (decide (D.tup [a, b] = D.tup [c, d])) ∧ Fr [] S S' := by
  unfold F__law_same
  refine sat_defM rfl ?_
  have hr : inRange (2 : Int) = true := inRange_nat (n := 2) (by omega)
  simp [isTy, hr]
  refine lc_all (fun S' => Fr [] S S' ∧ S.length < S'.length) (fun k y => y = .bl (decide ([a, b][k]? = [c, d][k]?))) ⟨.app, by simp⟩ (by simp) (fun S' v ⟨h1, h2⟩ => ⟨h1.set_new (Nat.le_refl _), by simpa using h2⟩) (fun _ _ => rfl) (by rw [show (rangeL 0 2).length = 2 from rfl]; exact le_LIM (by omega)) ?_ ?_
  · rintro k hk S' acc ⟨hf, hlt⟩ hacc
    refine ⟨_, rfl, ?_⟩
    rw [rangeL_get2]
    have hk : k < 2 := hk
    have : k = 0 ∨ k = 1 := by omega
    rcases this with rfl | rfl
    · simp [same_leaf ha hc]
      exact ⟨⟨hf, hlt⟩, hacc⟩
    · simp [same_leaf hb hd]
      exact ⟨⟨hf, hlt⟩, hacc⟩
  · rintro ys S' ⟨hf, hlt⟩ hys hl2 hP
    have hl2 : ys.length = 2 := hl2
    obtain ⟨y0, y1, rfl⟩ : ∃ y0 y1, ys = [y0, y1] := by
      match ys, hl2 with
      | [y0, y1], _ => exact ⟨y0, y1, rfl⟩
    have h0 := hP 0 y0 rfl
    have h1 := hP 1 y1 rfl
    simp at h0 h1
    subst h0 h1
    have hin := in_bools hys (by
      intro y hy
      simp at hy
      rcases hy with rfl | rfl <;> exact ⟨_, rfl⟩) false
    simp [hin]
    exact hf
theorem leaf_u {x : UT} (h : UOk x) : ∃ a b, uD x = .tup [.str a, b] ∧ leaf b = true := by
  cases x with
  | var w => exact ⟨_, _, rfl, rfl⟩
  | val d =>
    cases d with
    | int i => exact ⟨_, _, rfl, rfl⟩
    | str y => exact ⟨_, _, rfl, rfl⟩
    | _ => exact absurd h (by simp [UOk])
theorem same_u {S : Store} {x y : UT} (hx : UOk x) (hy : UOk y) : (F__law_same 8 [uD x, uD y] S).sat fun r S' => r = .bl (decide (x = y)) ∧ Fr [] S S' := by
  obtain ⟨a, b, e1, l1⟩ := leaf_u hx
  obtain ⟨c, d, e2, l2⟩ := leaf_u hy
  have : decide (x = y) = decide (uD x = uD y) := by simp only [uD_inj]
  rw [this, e1, e2]
  exact same_pair (n := 6) rfl l1 rfl l2
def NoT (Z : List (Nat × List UT)) (t : UT) (k : Nat) : Prop := ∀ i p, i < k → Z[i]? = some p → t ∉ p.2
def CoI (S : Store) (n : Nat) (Z : List (Nat × List UT)) (t : UT) (k : Nat) (δ : Env) (S1 : Store) : Prop := (∃ a, δ = [some (.ref n), some (uD t), a]) ∧ S = S1 ∧ NoT Z t k
/-- the class that is told -/
def CoO (S : Store) (Z : List (Nat × List UT)) (t : UT) (d : D) (S' : Store) : Prop := ∃ (m : Nat) (k : List UT), d = .ref m ∧ S'[m]? = some (.lst (k.map uD)) ∧ Fr [] S S' ∧ (∀ x ∈ k, UOk x) ∧ t ∈ k ∧ (k ∈ Z.map (·.2) ∨ ∀ l ∈ Z.map (·.2), t ∉ l) ∧ k.length ≤ total Z + 1
theorem c_class_of {S : Store} {n : Nat} {Z : List (Nat × List UT)} {t : UT} (hc : CL S n Z) (ht : UOk t) :
    (F__law_class_of [.ref n, uD t] S).sat (CoO S Z t) := by
  obtain ⟨hc1, hc2⟩ := hc
  refine sat_defM rfl ?_
  refine sat_seq (CoI S n Z t Z.length) ?_ ?_
  · simp [lstAt_of hc1]
    refine for_inv (CoI S n Z t) ⟨⟨_, rfl⟩, rfl, fun i p h => (by omega)⟩ ?_ ?_ ?_
    · rintro k δ S1 _ ⟨_, rfl, _⟩
      simp [lstAt_of hc1]
    · rintro k hk δ S1 ⟨⟨a, rfl⟩, rfl, hno⟩
      rw [List.length_map] at hk
      refine ⟨_, rfl, ?_⟩
      have hmem := List.getElem_mem hk
      have eg : (Z.map fun p => D.ref p.1)[k]'(by simpa using hk) = .ref Z[k].1 := by simp
      have eg2 := List.getElem?_eq_getElem hk
      rw [eg]
      generalize Z[k] = p at hmem eg2
      obtain ⟨hp1, hp2⟩ := hc2 p hmem
      have i1 := in_terms hp1 ht hp2
      have hlen := total_mem hmem
      by_cases q : t ∈ p.2
      · simp [i1, q]
        exact ⟨p.1, p.2, rfl, hp1, .refl, hp2, q, .inl (List.mem_map_of_mem hmem), by omega⟩
      · simp [i1, q]
        refine ⟨⟨_, rfl⟩, rfl, ?_⟩
        intro i p' hi hp'
        by_cases e : i = k
        · subst e
          rw [eg2] at hp'
          cases hp'
          exact q
        · exact hno i p' (by omega) hp'
    · intro δ S1 h1
      rw [List.length_map] at h1
      exact h1
  rintro δ S1 ⟨⟨a, rfl⟩, rfl, hno⟩
  simp
  refine ⟨S.length, [t], rfl, by simp, .app, by simpa using ht, by simp, .inr ?_, by simp⟩
  intro l hl
  obtain ⟨p, hp, rfl⟩ := List.mem_map.mp hl
  obtain ⟨i, hi, e⟩ := List.getElem_of_mem hp
  exact hno i p hi (by rw [List.getElem?_eq_getElem hi, e])
end LW

end

section
set_option linter.all false
set_option Elab.async false
set_option maxRecDepth 100000
namespace LW
open Dl DlM
/-! a term among terms; what is a term -/
theorem c_among {S : Store} {m : Nat} {k : List UT} {x : UT} (hm : S[m]? = some (.lst (k.map uD))) (hx : UOk x) (hk : ∀ y ∈ k, UOk y) (hl : k.length ≤ 1000) :
    (F__law_among [uD x, .ref m] S).sat fun d S' => d = .bl (decide (x ∈ k)) ∧ Fr [] S S' := by
  have hml := lt_of_get hm
  refine sat_defM rfl ?_
  simp [lstAt_of hm]
  refine lc_all (fun S' => Fr [] S S' ∧ S.length < S'.length) (fun j y => ∃ z, k[j]? = some z ∧ y = .bl (decide (x = z))) ⟨.app, by simp⟩ (by simp) (fun S' v ⟨h1, h2⟩ => ⟨h1.set_new (Nat.le_refl _), by simpa using h2⟩) ?_ (by simp; exact le_LIM (by omega)) ?_ ?_
  · rintro S' ⟨h1, _⟩
    simp [lstAt_of (h1.get hm (by simp))]
  · rintro j hj S' acc ⟨hf, hlt⟩ hacc
    rw [List.length_map] at hj
    refine ⟨_, rfl, ?_⟩
    have ej : (k.map uD)[j]'(by simpa using hj) = uD k[j] := by simp
    have hkj := hk _ (List.getElem_mem hj)
    have ek := List.getElem?_eq_getElem hj
    rw [ej]
    generalize k[j] = z at hkj ek
    simp
    refine (same_u hx hkj).mono ?_
    rintro d S2 ⟨rfl, hf2⟩
    exact ⟨⟨z, ek, rfl⟩, ⟨hf.trans hf2, Nat.lt_of_lt_of_le hlt hf2.le⟩, hf2.get hacc (by simp)⟩
  · rintro ys S' ⟨hf, hlt⟩ hys hl2 hP
    rw [List.length_map] at hl2
    have hb : ∀ y ∈ ys, ∃ b, y = .bl b := fun y hy => by
      obtain ⟨j, hj⟩ := List.getElem?_of_mem hy
      obtain ⟨z, _, rfl⟩ := hP j y hj
      exact ⟨_, rfl⟩
    have hin := in_bools hys hb true
    have hiff : D.bl true ∈ ys ↔ x ∈ k := by
      constructor
      · intro h
        obtain ⟨j, hj⟩ := List.getElem?_of_mem h
        obtain ⟨z, e1, e2⟩ := hP j _ hj
        have : x = z := by
          have : true = decide (x = z) := by injection e2
          exact of_decide_eq_true this.symm
        rw [this]
        exact List.mem_of_getElem? e1
      · intro h
        obtain ⟨j, hj, e⟩ := List.getElem_of_mem h
        have hj2 : j < ys.length := by omega
        obtain ⟨z, e1, e2⟩ := hP j _ (List.getElem?_eq_getElem hj2)
        rw [List.getElem?_eq_getElem hj, e] at e1
        cases e1
        rw [decide_eq_true rfl] at e2
        rw [← e2]
        exact List.getElem_mem hj2
    simp only [hiff] at hin
    simp [hin]
    exact hf
theorem c_is_term {S : Store} {t : UT} (h : UOk t) : F__law_is_term [uD t] S = .ok (.bl true) S := by
  refine eq_of_sat (sat_defM rfl ?_)
  cases t with
  | var w => simp [uD, isTy, same_leaf (n := 7) (a := .str [118, 97, 114]) (b := .str [118, 97, 114]) rfl rfl]
  | val d =>
    have e1 : ∀ S : Store, F__law_same 8 [.str [118, 97, 108, 117, 101], .str [118, 97, 114]] S = .ok (.bl false) S := fun S => same_leaf (n := 7) rfl rfl
    have e2 : ∀ S : Store, F__law_same 8 [.str [118, 97, 108, 117, 101], .str [118, 97, 108, 117, 101]] S = .ok (.bl true) S := fun S => same_leaf (n := 7) rfl rfl
    cases d with
    | int i => simp [uD, isTy, e1, e2]
    | str y => simp [uD, isTy, e1, e2]
    | _ => exact absurd h (by simp [UOk])
end LW

end

section
set_option linter.all false
set_option Elab.async false
set_option maxRecDepth 100000
namespace LW
open Dl DlM
/-! what unified tells, said for the law's checks -/
def keysOf (B : Bnd) : List Cs := (B.map (·.1)).mergeSort csLe
theorem csLe_t {a b c : Cs} (h1 : csLe a b = true) (h2 : csLe b c = true) : csLe a c = true := by
  simp only [csLe, Bool.not_eq_true', decide_eq_false_iff_not, List.not_lt] at *
  exact List.le_trans h1 h2
theorem csLe_all (a b : Cs) : (csLe a b || csLe b a) = true := by
  simp only [csLe, Bool.or_eq_true, Bool.not_eq_true', decide_eq_false_iff_not, List.not_lt]
  exact List.le_total a b
theorem keys_lt {B : Bnd} (h : (B.map (·.1)).Nodup) {i j : Nat} {a b : Cs} (hij : i < j) (ha : (keysOf B)[i]? = some a) (hb : (keysOf B)[j]? = some b) : a < b := by
  have hp : (keysOf B).Perm (B.map (·.1)) := List.mergeSort_perm _ _
  have hn : (keysOf B).Nodup := hp.nodup_iff.mpr h
  have hs : (keysOf B).Pairwise (fun a b => csLe a b = true) := List.pairwise_mergeSort (le := csLe) (fun a b c => csLe_t) csLe_all _
  obtain ⟨hi, ea⟩ := List.getElem?_eq_some_iff.mp ha
  obtain ⟨hj, eb⟩ := List.getElem?_eq_some_iff.mp hb
  have h1 := List.pairwise_iff_getElem.mp hs i j hi hj hij
  have h2 := List.pairwise_iff_getElem.mp hn i j hi hj hij
  rw [ea, eb] at h1 h2
  simp only [csLe, Bool.not_eq_true', decide_eq_false_iff_not, List.not_lt] at h1
  by_cases q : a < b
  · exact q
  · exact absurd (List.le_antisymm h1 (List.not_lt.mp q)) h2
theorem keys_mem {B : Bnd} {w : Cs} (h : w ∈ keysOf B) : w ∈ B.map (·.1) := (List.mergeSort_perm _ _).mem_iff.mp h
/-- one pair of what is told -/
theorem told_one {B : Bnd} {C : List (List UT)} {P : List UT} (j : UJ B C P) {w : Cs} (h : w ∈ keysOf B) : UT.var w ∈ P ∧ res B (.var w) ≠ .var w ∧ (∀ v ∈ keysOf B, res B (.var w) ≠ .var v) ∧ ∃ k ∈ C, UT.var w ∈ k ∧ res B (.var w) ∈ k := by
  have hw := keys_mem h
  obtain ⟨t, et⟩ := look_some hw
  have er : res B (.var w) = t := by rw [res_var, et]; rfl
  have hne : ∀ v ∈ keysOf B, res B (.var w) ≠ .var v := by
    intro v hv e
    have := res_free j.idem e
    exact look_none.mp this (keys_mem hv)
  refine ⟨(j.from_ _ (look_mem et)).1, hne w h, hne, ?_⟩
  rcases j.two (.var w) (res B (.var w)) (res_res j.idem _).symm with e | e
  · exact absurd e.symm (hne w h)
  · exact e
/-- two classes with one element in common are one -/
theorem UJ.same_class {B : Bnd} {C : List (List UT)} {P : List UT} (j : UJ B C P) {k l : List UT} (hk : k ∈ C) (hl : l ∈ C) {x : UT} (h1 : x ∈ k) (h2 : x ∈ l) : k = l := by
  have key : ∀ C : List (List UT), C.Pairwise (fun k l => ∀ x ∈ k, x ∉ l) → k ∈ C → l ∈ C → k = l := by
    intro C hC
    induction hC with
    | nil => intro hk; cases hk
    | @cons a r ha hr ih =>
      intro hk hl
      rcases List.mem_cons.mp hk with e1 | hk1
      · rcases List.mem_cons.mp hl with e2 | hl1
        · exact e1.trans e2.symm
        · exact absurd h2 (ha l hl1 x (e1 ▸ h1))
      · rcases List.mem_cons.mp hl with e2 | hl1
        · exact absurd h1 (ha k hk1 x (e2 ▸ h2))
        · exact ih hk1 hl1
  exact key C j.apart hk hl
/-- the mapping that is told gives what the bindings give -/
def toldM (B : Bnd) : Bnd := (keysOf B).map fun w => (w, res B (.var w))
theorem told_map (B : Bnd) : toldL B = (toldM B).map pD := by
  unfold toldL toldM keysOf
  rw [List.map_map]
  rfl
theorem told_res (B : Bnd) (x : UT) : res (toldM B) x = res B x := by
  cases x with
  | val d => rfl
  | var w =>
    rw [res_var, res_var]
    have key : ∀ ks : List Cs, look (ks.map fun w => (w, res B (.var w))) w = if w ∈ ks then some (res B (.var w)) else none := by
      intro ks
      unfold look
      induction ks with
      | nil => rfl
      | cons v ks ih =>
        rw [List.map_cons, List.find?_cons]
        by_cases e : v = w
        · subst e; simp
        · have e' : ¬ w = v := fun z => e z.symm
          simp only [e, decide_false, List.mem_cons, e', false_or]
          exact ih
    unfold toldM
    rw [key]
    by_cases h : w ∈ keysOf B
    · rw [if_pos h, res_var]; rfl
    · rw [if_neg h]
      have : look B w = none := look_none.mpr fun z => h ((List.mergeSort_perm _ _).mem_iff.mpr z)
      rw [this]
end LW

end

section
set_option linter.all false
set_option Elab.async false
set_option maxRecDepth 100000
namespace LW
open Dl DlM
/-! each pair of terms ends in one class; the values of both tuples behind the mapping -/
theorem pair_all : ∀ (ps : List (UT × UT)) {C : List (List UT)} {x y : UT}, (∃ k ∈ C, x ∈ k ∧ y ∈ k) → ∃ k ∈ classesU ps C, x ∈ k ∧ y ∈ k
  | [], _, _, _, h => h
  | (t, o) :: ps, _, _, _, h => pair_all ps (pair_kept (t := t) (o := o) h)
theorem pairs_in : ∀ (ps : List (UT × UT)) {C : List (List UT)}, ∀ p ∈ ps, ∃ k ∈ classesU ps C, p.1 ∈ k ∧ p.2 ∈ k
  | [], _, p, h => by cases h
  | (t, o) :: ps, C, p, h => by
    rcases List.mem_cons.mp h with rfl | h
    · exact pair_all ps ⟨_, mem_merge.mpr (.inr rfl), mem_grown.mpr (.inl rfl), mem_grown.mpr (.inr (.inl rfl))⟩
    · exact pairs_in ps p h
theorem map_eq {B : Bnd} {P : List UT} {ts os : List UT} (j : UJ B (classesU (ts.zip os) []) P) (he : ts.length = os.length) : ts.map (res B) = os.map (res B) := by
  refine List.ext_getElem (by simp [he]) fun i h1 h2 => ?_
  simp at h1 h2
  have hz : i < (ts.zip os).length := by rw [List.length_zip]; omega
  have hm := List.getElem_mem hz
  obtain ⟨k, hk, h3, h4⟩ := pairs_in (ts.zip os) (C := []) _ hm
  have := j.one k hk _ h3 _ h4
  simpa using this
/-- the elements of the classes come from the tuples -/
theorem classes_from : ∀ (ps : List (UT × UT)) {C : List (List UT)} {Q : UT → Prop}, (∀ k ∈ C, ∀ x ∈ k, Q x) → (∀ p ∈ ps, Q p.1 ∧ Q p.2) → ∀ k ∈ classesU ps C, ∀ x ∈ k, Q x
  | [], _, _, h, _ => h
  | (t, o) :: ps, C, Q, h, hp => by
    refine classes_from ps (C := mergeC C t o) ?_ fun p hq => hp p (List.mem_cons_of_mem _ hq)
    intro k hk x hx
    obtain ⟨ht, ho⟩ := hp (t, o) List.mem_cons_self
    rcases mem_merge.mp hk with ⟨hk, _⟩ | rfl
    · exact h k hk x hx
    · rcases mem_grown.mp hx with rfl | rfl | ⟨l, h1, _, h3⟩
      · exact ht
      · exact ho
      · exact h l h1 x h3
theorem data_u {x : UT} (h : UOk x) : Data 1 (uD x) := by
  obtain ⟨a, b, e, l⟩ := leaf_u h
  rw [e]
  refine .tup (by simp) fun d hd => ?_
  simp at hd
  rcases hd with rfl | rfl
  · exact .str _
  · cases d with
    | int i => exact .int _
    | str y => exact .str _
    | _ => cases l
/-- the terms of a tuple behind a mapping -/
theorem c_behind_all {S : Store} {M : Bnd} {ts : List UT} {δ : Env} {d : D} (hts : ∀ x ∈ ts, UOk x) (hM : ∀ p ∈ M, UOk (.var p.1)) (hl : ts.length ≤ 1000) {i : Nat} (hi : δ[i]? = some (some (.tup (ts.map uD)))) (h2 : δ[2]? = some (some (.tup (M.map pD)))) (h8 : δ.length = 9) :
    ((callM tupleP [(lcM [8] (seqI (varM i)) (.nm 8) yesT (callM F__law_after [(varM 8), (varM 2)]))]) δ S).sat fun d S' => d = .tup ((ts.map (res M)).map uD) ∧ Fr [] S S' := by
  simp [hi]
  refine lc_map (fun x => match x with | .tup [.str a, v] => (if a = [118, 97, 114] then (match v with | .str w => uD (res M (.var w)) | _ => x) else x) | _ => x) (by simp) (by simp; exact le_LIM (by omega)) (fun _ _ => rfl) ?_ ?_
  · intro x hx
    obtain ⟨t, ht, rfl⟩ := List.mem_map.mp hx
    have ok := hts t ht
    refine ⟨(δ.set 8 none).set 8 (some (uD t)), rfl, fun S' _ => ?_⟩
    have e8 : ((δ.set 8 none).set 8 (some (uD t)))[8]? = some (some (uD t)) := by
      rw [List.getElem?_set_self]
      simp [h8]
    have e2 : ((δ.set 8 none).set 8 (some (uD t)))[2]? = some (some (.tup (M.map pD))) := by
      rw [List.getElem?_set_ne (by omega), List.getElem?_set_ne (by omega), h2]
    show (callM F__law_after [(varM 8), (varM 2)]) ((δ.set 8 none).set 8 (some (uD t))) S' = _
    generalize (δ.set 8 none).set 8 (some (uD t)) = δ' at e8 e2
    have : (callM F__law_after [(varM 8), (varM 2)]) δ' S' = .ok (uD (res M t)) S' := by
      simp [e8, e2, c_after ok hM]
    rw [this]
    cases t with
    | var w => simp [uD]
    | val d => simp [uD, res]
  · intro S' hf hys
    simp [lstAt_of hys]
    refine ⟨?_, fr_app_new rfl hf⟩
    intro t ht
    cases t with
    | var w => simp [uD]
    | val d => simp [uD, res]
end LW

end

section
set_option linter.all false
set_option Elab.async false
set_option maxRecDepth 100000
namespace LW
open Dl DlM
/-! what is told is right -/
def tl (o : Option Bnd) : D := match o with
  | none => .non
  | some B => .tup (toldL B)
/-- one of what is told, at its place -/
structure One (M : Bnd) (ts os : List UT) (C : List (List UT)) (k : Nat) (w : Cs) (u : UT) : Prop where
  okw : UOk (.var w)
  oku : UOk u
  mem : UT.var w ∈ ts ∨ UT.var w ∈ os
  free : ∀ p ∈ M, u ≠ .var p.1
  less : ∀ q, 0 < k → M[k - 1]? = some q → q.1 < w
  cls : ∃ l ∈ C, UT.var w ∈ l ∧ u ∈ l
theorem ones {ts os : List UT} {B : Bnd} {P : List UT} (ht : ∀ x ∈ ts, UOk x) (ho : ∀ x ∈ os, UOk x) (j : UJ B (classesU (ts.zip os) []) P) (hP : ∀ x ∈ P, x ∈ [] ∨ ∃ p ∈ ts.zip os, x = p.1 ∨ x = p.2) {k : Nat} {w : Cs} {u : UT} (h : (toldM B)[k]? = some (w, u)) : One (toldM B) ts os (classesU (ts.zip os) []) k w u := by
  have hPm : ∀ x ∈ P, x ∈ ts ∨ x ∈ os := fun x hx => by
    rcases hP x hx with h | ⟨p, hp, h⟩
    · cases h
    · have := List.of_mem_zip (a := p.1) (b := p.2) hp
      rcases h with rfl | rfl
      · exact .inl this.1
      · exact .inr this.2
  have hok : ∀ x ∈ P, UOk x := fun x hx => (hPm x hx).elim (ht x) (ho x)
  unfold toldM at h
  rw [List.getElem?_map] at h
  cases e : (keysOf B)[k]? with
  | none => rw [e] at h; cases h
  | some v =>
    rw [e] at h
    cases h
    have hm := List.mem_of_getElem? e
    obtain ⟨h1, h2, h3, h4⟩ := told_one j hm
    refine ⟨hok _ h1, hok _ (j.res_mem h1), hPm _ h1, ?_, ?_, h4⟩
    · intro p hp
      obtain ⟨v, hv, rfl⟩ := List.mem_map.mp hp
      exact h3 v hv
    · intro q hk hq
      unfold toldM at hq
      rw [List.getElem?_map] at hq
      cases e2 : (keysOf B)[k - 1]? with
      | none => rw [e2] at hq; cases hq
      | some v =>
        rw [e2] at hq
        cases hq
        exact keys_lt j.idem.nd (by omega) e2 e
theorem step_len {B B' : Bnd} {t o : UT} (h : stepU B t o = some B') : B'.length ≤ B.length + 1 := by
  unfold stepU at h
  have hw : ∀ w u, (withV B w u).length ≤ B.length + 1 := fun w u => by unfold withV; simp
  split at h
  · cases h; omega
  · split at h
    · cases h; exact hw _ _
    · split at h
      · cases h; exact hw _ _
      · cases h
theorem unify_len : ∀ (ps : List (UT × UT)) {B B' : Bnd}, unifyU ps B = some B' → B'.length ≤ B.length + ps.length
  | [], B, B', h => by cases h; simp
  | (t, o) :: ps, B, B', h => by
    unfold unifyU at h
    cases e : stepU B t o with
    | none => rw [e] at h; cases h
    | some B1 =>
      rw [e] at h
      have h1 := unify_len ps h
      have h2 := step_len e
      simp only [List.length_cons]
      omega
theorem res_okU {M : Bnd} (h : ∀ p ∈ M, UOk p.2) {t : UT} (ht : UOk t) : UOk (res M t) := by
  cases t with
  | val d => exact ht
  | var w =>
    show UOk ((look M w).getD (.var w))
    cases e : look M w with
    | none => exact ht
    | some p => exact h _ (look_mem e)
def ClO (S : Store) (ts os : List UT) (δ : Env) (S1 : Store) : Prop := ∃ n Z, δ = [some (.tup (ts.map uD)), some (.tup (os.map uD)), some (tl (unifyU (ts.zip os) [])), some (.ref n), none, none, none, none, none] ∧ CL S1 n Z ∧ Z.map (·.2) = classesU (ts.zip os) [] ∧ total Z ≤ 60 ∧ Fr [] S S1
def UfI (S : Store) (a0 a1 a2 a3 : D) (δ : Env) (S1 : Store) : Prop := (∃ a4 a5 a6 a7 a8, δ = [some a0, some a1, some a2, some a3, a4, a5, a6, a7, a8]) ∧ Fr [] S S1
def UfB (S : Store) (a0 a1 a2 a3 : D) (ys : List D) (δ : Env) (S1 : Store) : Prop := ∃ (q : Nat) (a4 a6 a7 a8 : Option D), δ = [some a0, some a1, some a2, some a3, a4, some (.ref q), a6, a7, a8] ∧ S.length ≤ q ∧ S1[q]? = some (.lst ys) ∧ Fr [] S S1
def UfT (S : Store) (a0 a1 a2 l : D) (δ : Env) (S1 : Store) : Prop := (∃ a3 a4 a5 a7 a8, δ = [some a0, some a1, some a2, a3, a4, a5, some l, a7, a8]) ∧ Fr [] S S1
def UfK (S : Store) (a0 a1 a2 a3 a4 : D) (q : Nat) (ys : List D) (δ : Env) (S1 : Store) : Prop := (∃ a6 a7 a8, δ = [some a0, some a1, some a2, some a3, some a4, some (.ref q), a6, a7, a8]) ∧ S1[q]? = some (.lst ys) ∧ Fr [] S S1
theorem c_unifying {S : Store} {ts os : List UT} {V : List D} (ht : ∀ x ∈ ts, UOk x) (ho : ∀ x ∈ os, UOk x) (he : ts.length = os.length) (hl : ts.length ≤ 20) (hV : ∀ x, x ∈ ts ∨ x ∈ os → ∀ d, x = .val d → uD x ∈ V) (hVl : V.length ≤ 4) :
    (F__law_is_unifying [.tup (ts.map uD), .tup (os.map uD), tl (unifyU (ts.zip os) [])] S).sat fun d S' => d = .bl true ∧ Fr [] S S' := by
  have huo := unify_ok (ts.zip os) UJ.nil
  refine sat_defM rfl ?_
  refine sat_seq (ClO S ts os) ?_ ?_
  · simp
    refine (c_classes ht ho he (by omega)).mono ?_
    rintro d S1 ⟨n, Z, rfl, hn, hc, hZ, htot, f1⟩
    exact ⟨n, Z, rfl, hc, hZ, by omega, f1⟩
  rintro δ S1 ⟨n, Z, rfl, hc, hZ, htot, f1⟩
  have hfrom := classes_from (ts.zip os) (C := []) (Q := fun x => x ∈ ts ∨ x ∈ os) (by simp) fun p hp => by
    have := List.of_mem_zip (a := p.1) (b := p.2) hp
    exact ⟨.inl this.1, .inr this.2⟩
  have hVZ : ∀ p ∈ Z, ∀ d, UT.val d ∈ p.2 → uD (.val d) ∈ V := fun p hp d hd => hV _ (hfrom p.2 (by rw [← hZ]; exact List.mem_map_of_mem hp) _ hd) d rfl
  cases e : unifyU (ts.zip os) [] with
  | none =>
    rw [e] at huo
    refine sat_seq (fun _ _ => False) ?_ (fun _ _ z => z.elim)
    simp
    refine (c_clashes hc hVZ hVl htot).mono ?_
    rintro d S2 ⟨b, rfl, hb, f2⟩
    rw [hZ] at hb
    have : b = true := hb.mpr huo
    subst this
    simp [tl]
    exact f1.trans f2
  | some B =>
    rw [e] at huo
    obtain ⟨P, j, hP⟩ := huo
    have hone := fun {k w u} (h : (toldM B)[k]? = some (w, u)) => ones ht ho j hP h
    have hcl := j.no_clash
    have etl : tl (some B) = .tup ((toldM B).map pD) := by rw [← told_map]; rfl
    rw [etl]
    have hMr := told_res B
    have hMu : ∀ p ∈ toldM B, UOk p.2 := fun p hp => by
      obtain ⟨i, hi, e⟩ := List.getElem_of_mem hp
      exact (hone (k := i) (w := p.1) (u := p.2) (by rw [List.getElem?_eq_getElem hi, e])).oku
    have hMw : ∀ p ∈ toldM B, UOk (.var p.1) := fun p hp => by
      obtain ⟨i, hi, e⟩ := List.getElem_of_mem hp
      exact (hone (k := i) (w := p.1) (u := p.2) (by rw [List.getElem?_eq_getElem hi, e])).okw
    have heq : ts.map (res (toldM B)) = os.map (res (toldM B)) := by
      have : res (toldM B) = res B := by funext x; exact hMr x
      rw [this]
      exact map_eq j he
    have hMl : (toldM B).length ≤ 100 := by
      have h1 := unify_len _ e
      have h2 : (ts.zip os).length ≤ ts.length := by rw [List.length_zip]; omega
      have h3 : (toldM B).length = B.length := by simp [toldM, keysOf]
      simp only [List.length_nil] at h1
      omega
    generalize toldM B = M at hone hMw hMu heq hMl etl
    clear hMr etl
    refine sat_seq (UfI S1 (.tup (ts.map uD)) (.tup (os.map uD)) (.tup (M.map pD)) (.ref n)) ?_ ?_
    · simp
      refine (c_clashes hc hVZ hVl htot).mono ?_
      rintro d S2 ⟨b, rfl, hb, f2⟩
      rw [hZ] at hb
      have : b = false := by
        cases b with
        | false => rfl
        | true => exact absurd (hb.mp rfl) hcl
      subst this
      simp
      exact ⟨⟨_, _, _, _, _, rfl⟩, f2⟩
    rintro δ S2 ⟨⟨a4, a5, a6, a7, a8, rfl⟩, f2⟩
    refine sat_seq (UfI S1 (.tup (ts.map uD)) (.tup (os.map uD)) (.tup (M.map pD)) (.ref n)) ?_ ?_
    · simp [isTy]
      exact ⟨⟨_, _, _, _, _, rfl⟩, f2⟩
    rintro δ S3 ⟨⟨a4, a5, a6, a7, a8, rfl⟩, f3⟩
    refine sat_seq (UfI S1 (.tup (ts.map uD)) (.tup (os.map uD)) (.tup (M.map pD)) (.ref n)) ?_ ?_
    · simp [inRange_nat (show M.length ≤ 1000000000 by omega)]
      refine for_inv (fun _ => UfI S1 (.tup (ts.map uD)) (.tup (os.map uD)) (.tup (M.map pD)) (.ref n)) ⟨⟨_, _, _, _, _, rfl⟩, f3⟩ ?_ ?_ ?_
      · rintro k δ S4 _ ⟨⟨_, _, _, _, _, rfl⟩, _⟩
        simp [inRange_nat (show M.length ≤ 1000000000 by omega)]
      · rintro k hk δ S4 ⟨⟨a4, a5, a6, a7, a8, rfl⟩, f4⟩
        rw [rangeL_length] at hk
        have hk : k < M.length := by omega
        refine ⟨_, rfl, ?_⟩
        rw [rangeL_get]
        have e1 : atI (M.map pD) (k : Int) = some (pD M[k]) := atI_nat (by simp [hk])
        have hO := hone (k := k) (w := M[k].1) (u := M[k].2) (List.getElem?_eq_getElem hk)
        have hl2 : ∀ q : Cs × UT, pD q = .tup [.str q.1, uD q.2] := fun _ => rfl
        refine sat_seq (fun δ S5 => δ = [some (.tup (ts.map uD)), some (.tup (os.map uD)), some (.tup (M.map pD)), some (.ref n), some (.int k), a5, a6, a7, a8] ∧ S4 = S5) ?_ ?_
        · simp [e1, hl2, isTy]
        rintro δ _ ⟨rfl, rfl⟩
        have et := c_is_term (S := S4) hO.oku
        cases k with
        | zero =>
          have e2 : atI (M.map pD) 0 = some (pD M[0]) := e1
          simp [e2, hl2, et]
          exact ⟨⟨_, _, _, _, _, rfl⟩, f4⟩
        | succ k0 =>
          have e0 : atI (M.map pD) (k0 : Int) = some (pD M[k0]) := atI_nat (by simp [show k0 < M.length by omega])
          have hlt := hO.less M[k0] (by omega) (List.getElem?_eq_getElem (by omega))
          have e2 : atI (M.map pD) ((k0 : Int) + 1) = some (pD M[k0 + 1]) := e1
          have hlt2 : ¬ M[k0 + 1].1 ≤ M[k0].1 := by rw [List.not_le]; exact hlt
          have hpos : (0 : Int) < (k0 : Int) + 1 := by omega
          have eg : geP [.str M[k0].1, .str M[k0 + 1].1] S4 = .ok (.bl false) S4 := by
            simp only [geP]
            simp [hlt]
          simp [e2, e0, hl2, et, hpos, eg]
          exact ⟨⟨_, _, _, _, _, rfl⟩, f4⟩
      · intro δ S4 h
        exact h
    rintro δ S4 ⟨⟨a4, a5, a6, a7, a8, rfl⟩, f4⟩
    refine sat_seq (UfB S1 (.tup (ts.map uD)) (.tup (os.map uD)) (.tup (M.map pD)) (.ref n) (M.map fun p => uD (.var p.1))) ?_ ?_
    · simp
      refine lc_map (fun x => match x with | .tup (a :: _) => .tup [.str [118, 97, 114], a] | _ => x) (by simp) (by simp; exact le_LIM (by omega)) (fun _ _ => rfl) ?_ ?_
      · intro x hx
        obtain ⟨p, hp, rfl⟩ := List.mem_map.mp hx
        refine ⟨_, rfl, fun S' _ => ?_⟩
        simp [pD]
      · intro S' hf hS'
        have hle := f4.le
        refine ⟨S4.length, a4, a6, a7, a8, rfl, hle, ?_, f4.trans (fr_app_new rfl hf)⟩
        rw [hS', List.map_map]
        rfl
    intro δ S5 hB
    refine sat_seq (UfB S1 (.tup (ts.map uD)) (.tup (os.map uD)) (.tup (M.map pD)) (.ref n) (M.map fun p => uD (.var p.1))) ?_ ?_
    · obtain ⟨q, a4, a6, a7, a8, rfl, hq, gq, f5⟩ := id hB
      simp [inRange_nat (show M.length ≤ 1000000000 by omega)]
      refine for_inv (fun _ => UfB S1 (.tup (ts.map uD)) (.tup (os.map uD)) (.tup (M.map pD)) (.ref n) (M.map fun p => uD (.var p.1))) hB (by intros; rfl) ?_ ?_
      · rintro k hk δ S6 ⟨q, a4, a6, a7, a8, rfl, hq, gq, f6⟩
        rw [rangeL_length] at hk
        have hk : k < M.length := by omega
        refine ⟨_, rfl, ?_⟩
        rw [rangeL_get]
        have e1 : atI (M.map pD) (k : Int) = some (pD M[k]) := atI_nat (by simp [hk])
        have e2 : atI (M.map fun p => uD (.var p.1)) (k : Int) = some (uD (.var M[k].1)) := atI_nat (by simp [hk])
        have hO := hone (k := k) (w := M[k].1) (u := M[k].2) (List.getElem?_eq_getElem hk)
        have hl2 : ∀ q : Cs × UT, pD q = .tup [.str q.1, uD q.2] := fun _ => rfl
        have hMl2 := hMl
        have emp : (M.map fun p => uD (.var p.1)) = (M.map fun p => UT.var p.1).map uD := by rw [List.map_map]; rfl
        refine sat_seq (UfK S1 (.tup (ts.map uD)) (.tup (os.map uD)) (.tup (M.map pD)) (.ref n) (.int k) q (M.map fun p => uD (.var p.1))) ?_ ?_
        · have ein : inP [uD (.var M[k].1), .ref (S6.length + 1 + 1)] (S6 ++ [.lst (ts.map uD)] ++ [.lst (os.map uD)] ++ [.lst (ts.map uD ++ os.map uD)]) = .ok (.bl true) (S6 ++ [.lst (ts.map uD)] ++ [.lst (os.map uD)] ++ [.lst (ts.map uD ++ os.map uD)]) := by
            have := in_terms (S := S6 ++ [.lst (ts.map uD)] ++ [.lst (os.map uD)] ++ [.lst (ts.map uD ++ os.map uD)]) (n := S6.length + 1 + 1) (k := ts ++ os) (t := .var M[k].1) (by rw [List.getElem?_append_right (by simp)]; simp) hO.okw (by simpa using fun x hx => hx.elim (ht x) (ho x))
            rw [this]
            simp [hO.mem]
          have eadd : addP [.ref S6.length, .ref (S6.length + 1)] (S6 ++ [.lst (ts.map uD)] ++ [.lst (os.map uD)]) = .ok (.ref (S6.length + 1 + 1)) (S6 ++ [.lst (ts.map uD)] ++ [.lst (os.map uD)] ++ [.lst (ts.map uD ++ os.map uD)]) := by
            have := addL (S := S6 ++ [.lst (ts.map uD)] ++ [.lst (os.map uD)]) (a := S6.length) (b := S6.length + 1) (xs := ts.map uD) (ys := os.map uD) (by simp) (by simp) (by simp; omega)
            rw [this]
            simp
          have gq2 : (S6 ++ [.lst (ts.map uD)] ++ [.lst (os.map uD)] ++ [.lst (ts.map uD ++ os.map uD)])[q]? = some (.lst (M.map fun p => uD (.var p.1))) := by
            rw [List.append_assoc, List.append_assoc]
            exact ((Fr.app (xs := [])).get gq (by simp))
          have ein2 : inP [uD M[k].2, .ref q] (S6 ++ [.lst (ts.map uD)] ++ [.lst (os.map uD)] ++ [.lst (ts.map uD ++ os.map uD)]) = .ok (.bl false) (S6 ++ [.lst (ts.map uD)] ++ [.lst (os.map uD)] ++ [.lst (ts.map uD ++ os.map uD)]) := by
            have := in_terms (k := M.map fun p => UT.var p.1) (by rw [gq2, emp]) hO.oku (fun x hx => by obtain ⟨p, hp, rfl⟩ := List.mem_map.mp hx; exact hMw p hp)
            rw [this]
            have hno : M[k].2 ∉ M.map fun p => UT.var p.1 := fun hx => by
              obtain ⟨p, hp, e⟩ := List.mem_map.mp hx
              exact hO.free p hp e.symm
            simp only [decide_eq_false hno]
          have hF : Fr [] S6 (S6 ++ [.lst (ts.map uD)] ++ [.lst (os.map uD)] ++ [.lst (ts.map uD ++ os.map uD)]) := by
            rw [List.append_assoc, List.append_assoc]
            exact .app
          simp only [List.append_assoc, List.cons_append, List.nil_append, Nat.add_assoc, Nat.reduceAdd] at ein eadd ein2 gq2 hF
          have hLE : ts.length + os.length ≤ LIM := le_LIM (by omega)
          have elt : ∀ (xs : List D) (S : Store), listP [.tup xs] S = .ok (.ref S.length) (S ++ [.lst xs]) := fun _ _ => rfl
          simp [elt, hLE, lstAt_of gq, e1, e2, eadd, ein, ein2, hl2, lstAt_of gq2]
          exact ⟨⟨_, _, _, rfl⟩, gq2, f6.trans hF⟩
        rintro δ S7 ⟨⟨a6, a7, a8, rfl⟩, gq7, f7⟩
        have hc7 : CL S7 n Z := ⟨f7.get hc.1 (by simp), fun p hp => ⟨f7.get (hc.2 p hp).1 (by simp), (hc.2 p hp).2⟩⟩
        simp [e1, e2, hl2, lstAt_of gq7]
        refine (c_class_of hc7 hO.okw).mono ?_
        rintro d S8 ⟨m, K, rfl, gm, f8, hK, hwK, hKZ, hKl⟩
        refine (c_among gm hO.oku hK (by omega)).mono ?_
        rintro d S9 ⟨rfl, f9⟩
        have hin : M[k].2 ∈ K := by
          obtain ⟨l, hl, h1, h2⟩ := hO.cls
          rw [hZ] at hKZ
          rcases hKZ with hKZ | hKZ
          · rw [j.same_class hKZ hl hwK h1]
            exact h2
          · exact absurd h1 (hKZ l hl)
        simp [hin]
        exact ⟨q, _, _, _, _, rfl, hq, (f8.trans f9).get gq7 (by simp), f7.trans (f8.trans f9)⟩
      · intro δ S6 h
        exact h
    rintro δ S6 ⟨q, a4, a6, a7, a8, rfl, hq, gq, f6⟩
    refine sat_seq (UfT S1 (.tup (ts.map uD)) (.tup (os.map uD)) (.tup (M.map pD)) (.tup ((ts.map (res M)).map uD))) ?_ ?_
    · rw [setS_ap, Res.sat_thenS]
      refine (c_behind_all (d := .non) (i := 0) ht hMw (by omega) rfl rfl rfl).mono ?_
      rintro d S7 ⟨rfl, f7⟩
      simp only [Tgt.put, List.set_cons_succ, List.set_cons_zero, List.length_cons, List.length_nil, Res.sat_ok]
      exact ⟨⟨_, _, _, _, _, rfl⟩, f6.trans f7⟩
    rintro δ S7 ⟨⟨a3, a4, a5, a7, a8, rfl⟩, f7⟩
    have key := c_behind_all (d := .non) (S := S7) (δ := [some (.tup (ts.map uD)), some (.tup (os.map uD)), some (.tup (M.map pD)), a3, a4, a5, some (.tup ((ts.map (res M)).map uD)), a7, a8]) (i := 1) ho hMw (by omega) rfl rfl rfl
    generalize (callM tupleP [(lcM [8] (seqI (varM 1)) (.nm 8) yesT (callM F__law_after [(varM 8), (varM 2)]))]) = E at key ⊢
    generalize eL : (ts.map (res M)).map uD = L at key ⊢
    simp
    refine key.mono ?_
    rintro d S8 ⟨rfl, f8⟩
    rw [← heq, eL]
    have hdat : Data 7 (.tup L) := by
      subst eL
      refine .tup (by simp; omega) fun x hx => ?_
      obtain ⟨y, hy, rfl⟩ := List.mem_map.mp hx
      obtain ⟨t, ht1, rfl⟩ := List.mem_map.mp hy
      exact (data_u (res_okU hMu (ht t ht1))).mono (by omega)
    refine (c_same 7 _ hdat S8).mono ?_
    rintro d S9 ⟨rfl, f9⟩
    exact ⟨rfl, f1.trans (f7.trans (f8.trans f9))⟩
end LW

end

section
set_option linter.all false
set_option Elab.async false
set_option maxRecDepth 100000
namespace LW
open Dl DlM
/-! terms drawn from words and values -/
def InT (ws : List Cs) (vs : List D) (t : UT) : Prop := (∃ x ∈ ws, t = .var x) ∨ (∃ d ∈ vs, t = .val d)
theorem c_term {S : Store} {r w v : Nat} {ws : List Cs} {vs : List D} (h : Ints S r) (hw : S[w]? = some (.lst (ws.map D.str))) (hv : S[v]? = some (.lst vs)) (hwne : ws ≠ []) (hvne : vs ≠ []) (hnw : w ≠ r) (hnv : v ≠ r) :
    (F__law_term [.ref r, .ref w, .ref v] S).sat fun d S' => ∃ t, d = uD t ∧ InT ws vs t ∧ Dr r S S' := by
  refine sat_defM rfl ?_
  refine sat_seq (fun δ S1 => δ = [some (.ref r), some (.ref w), some (.ref v)] ∧ Dr r S S1) ?_ ?_
  · simp
    refine (c_take h (by omega)).mono ?_
    rintro d S1 ⟨n, rfl, _, _, h1⟩
    simp
    by_cases q : n = 0
    · simp [q]
      refine (c_pick h1.whole (h1.get hv hnv) hvne hnv).mono ?_
      rintro d S2 ⟨hd, h2⟩
      exact ⟨.val d, rfl, .inr ⟨d, hd, rfl⟩, h1.trans h2⟩
    · simp [q]
      exact h1
  rintro δ S1 ⟨rfl, h1⟩
  simp
  refine (c_pick h1.whole (h1.get hw hnw) (by simpa using hwne) hnw).mono ?_
  rintro d S2 ⟨hd, h2⟩
  obtain ⟨x, hx, rfl⟩ := List.mem_map.mp hd
  exact ⟨.var x, rfl, .inl ⟨x, hx, rfl⟩, h1.trans h2⟩
theorem us_of {P : UT → Prop} : ∀ {ys : List D}, (∀ (k : Nat) (y : D), ys[k]? = some y → ∃ t, y = uD t ∧ P t) → ∃ ts : List UT, ys = ts.map uD ∧ ∀ t ∈ ts, P t
  | [], _ => ⟨[], rfl, by simp⟩
  | y :: ys, h => by
    obtain ⟨t, rfl, ht⟩ := h 0 y rfl
    obtain ⟨ts, rfl, hts⟩ := us_of (ys := ys) fun k y hy => h (k + 1) y hy
    exact ⟨t :: ts, rfl, by simpa using ⟨ht, hts⟩⟩
theorem c_terms {S : Store} {r w v many : Nat} {ws : List Cs} {vs : List D} (h : Ints S r) (hw : S[w]? = some (.lst (ws.map D.str))) (hv : S[v]? = some (.lst vs)) (hwne : ws ≠ []) (hvne : vs ≠ []) (hnw : w ≠ r) (hnv : v ≠ r) (hm : many ≤ 1000) :
    (F__law_terms [.ref r, .int many, .ref w, .ref v] S).sat fun d S' => ∃ ts : List UT, d = .tup (ts.map uD) ∧ ts.length = many ∧ (∀ t ∈ ts, InT ws vs t) ∧ Dr r S S' := by
  have hr := h.lt
  refine sat_defM rfl ?_
  simp [inRange_nat (show many ≤ 1000000000 by omega)]
  refine lc_all (fun S' => Dr r S S' ∧ S.length < S'.length) (fun _ y => ∃ t, y = uD t ∧ InT ws vs t) ⟨(Dr.refl h).push, by simp⟩ (by simp) (fun S' w ⟨z1, z2⟩ => ⟨z1.set_new (by omega) (Nat.le_refl _), by simpa using z2⟩) (fun _ _ => rfl) (by rw [rangeL_length]; exact le_LIM (by omega)) ?_ ?_
  · rintro j hj S' acc ⟨h1, hlt⟩ hacc
    refine ⟨_, rfl, ?_⟩
    simp
    refine (c_term h1.whole (h1.get hw hnw) (h1.get hv hnv) hwne hvne hnw hnv).mono ?_
    rintro d S5 ⟨t, rfl, ht, h2⟩
    exact ⟨⟨t, rfl, ht⟩, ⟨h1.trans h2, Nat.lt_of_lt_of_le hlt h2.le⟩, h2.get hacc (by omega)⟩
  · rintro ys S' ⟨h1, hlt⟩ hys hl2 hP
    obtain ⟨ts, rfl, hts⟩ := us_of hP
    rw [rangeL_length, List.length_map] at hl2
    simp [lstAt_of hys]
    exact ⟨ts, rfl, by omega, hts, h1⟩
end LW

end

section
set_option linter.all false
set_option Elab.async false
set_option maxRecDepth 100000
namespace LW
open Dl DlM
/-! the values: whole numbers and words -/
def VOk (S : Store) (r : Nat) (ws : List Cs) (d : D) (S' : Store) : Prop := ∃ (p : Nat) (vs : List D), d = .ref p ∧ S.length ≤ p ∧ S'[p]? = some (.lst vs) ∧ vs.length = 3 ∧ (∀ x ∈ vs, (∃ i, x = .int i) ∨ ∃ w ∈ ws, x = .str w) ∧ Dr r S S'
theorem c_values {S : Store} {r w : Nat} {ws : List Cs} (h : Ints S r) (hw : S[w]? = some (.lst (ws.map D.str))) (hnw : w ≠ r) (hl : 2 ≤ ws.length) :
    (F__law_values [.ref r, .ref w] S).sat (VOk S r ws) := by
  have hr := h.lt
  have hwl := lt_of_get hw
  refine sat_defM rfl ?_
  refine sat_seq (fun δ S1 => ∃ i : Int, -3 ≤ i ∧ i ≤ 5 ∧ δ = [some (.ref r), some (.ref w), some (.int i)] ∧ Dr r S S1) ?_ ?_
  · simp
    refine (c_take h (by omega)).mono ?_
    rintro d S1 ⟨n, rfl, _, _, h1⟩
    simp
    exact ⟨n - 3, by omega, by omega, rfl, h1⟩
  rintro δ S1 ⟨i, hi1, hi2, rfl, h1⟩
  have hsm : small64 i = true := by unfold small64; simp; omega
  refine sat_seq (fun δ S1 => ∃ i : Int, δ = [some (.ref r), some (.ref w), some (.int i)] ∧ Dr r S S1) ?_ ?_
  · simp
    refine (c_take h1.whole (by omega)).mono ?_
    rintro d S2 ⟨n, rfl, _, _, h2⟩
    simp
    by_cases q : n = 0
    · simp [q]
      have hle := h2.le
      have hle1 := h1.le
      refine (c_pick (h1.trans h2).push.whole (by rw [List.getElem?_append_right (Nat.le_refl _)]; simp; rfl) (by simp) (by omega)).mono ?_
      rintro d S3 ⟨hd, h4⟩
      obtain ⟨j, rfl⟩ : ∃ j, d = .int j := by
        simp at hd
        rcases hd with h | h | h | h | h <;> exact ⟨_, h⟩
      simp [hsm]
      exact (h1.trans h2).push.trans h4
    · simp [q]
      exact h1.trans h2
  rintro δ S2 ⟨i, rfl, h2⟩
  simp
  have hw2 := h2.get hw hnw
  have hle2 := h2.le
  refine (c_pick h2.whole hw2 (by intro e; rw [List.map_eq_nil_iff] at e; subst e; simp at hl) hnw).mono ?_
  rintro d S3 ⟨hd, h3⟩
  obtain ⟨x, hx, rfl⟩ := List.mem_map.mp hd
  have hle3 := h3.le
  have hw3 := (h2.trans h3).get hw hnw
  have hw4 : (S3 ++ [MO.lst [D.int i, .int (i + 1), .str x]])[w]? = some (.lst (ws.map D.str)) := by
    rw [List.getElem?_append_left (lt_of_get hw3)]
    exact hw3
  have e0 : atI (ws.map D.str) 0 = some (.str ws[0]) := atI_nat (k := 0) (by simp)
  have e1 : atI (ws.map D.str) 1 = some (.str ws[1]) := atI_nat (k := 1) (by simp)
  simp [lstAt_of hw4, e0, e1]
  have h5 := (h2.trans h3).push (T := [MO.lst [D.int i, D.int (i + 1), D.str x], MO.lst [D.str ws[0], D.int i, D.str ws[1]], MO.lst [D.ref S3.length, D.ref (S3.length + 1)]])
  refine (c_take h5.whole (by omega)).mono ?_
  rintro d S4 ⟨v, rfl, hv0, hv1, h6⟩
  have g1 := h6.get (i := S3.length) (v := .lst [D.int i, D.int (i + 1), D.str x]) (by simp) (by omega)
  have g2 := h6.get (i := S3.length + 1) (v := .lst [D.str ws[0], D.int i, D.str ws[1]]) (by simp) (by omega)
  have g3 := h6.get (i := S3.length + 1 + 1) (v := .lst [D.ref S3.length, D.ref (S3.length + 1)]) (by rw [List.getElem?_append_right (by omega), show S3.length + 1 + 1 - S3.length = 2 by omega]; rfl) (by omega)
  rcases (show v = 0 ∨ v = 1 by omega) with rfl | rfl
  · simp [lstAt_of g3, atI, ixN]
    exact ⟨_, _, rfl, by omega, g1, rfl, by simp [hx], h5.trans h6⟩
  · simp [lstAt_of g3, atI, ixN]
    exact ⟨_, _, rfl, by omega, g2, rfl, by simp, h5.trans h6⟩
end LW

end

section
set_option linter.all false
set_option Elab.async false
set_option maxRecDepth 100000
namespace LW
open Dl DlM
/-! terms behind a drawn mapping -/
def BhI (S : Store) (r : Nat) (T : D) (w v : Nat) (ws : List Cs) (vs : List D) (k : Nat) (δ : Env) (S' : Store) : Prop := ∃ (n : Nat) (M : Bnd) (a5 a6 : Option D), δ = [some (.ref r), some T, some (.ref w), some (.ref v), some (.ref n), a5, a6] ∧ S.length ≤ n ∧ S'[n]? = some (.lst (M.map pD)) ∧ M.length ≤ k ∧ (∀ p ∈ M, p.1 ∈ ws ∧ InT ws vs p.2) ∧ Dr r S S'
theorem c_behind {S : Store} {r w v : Nat} {ts : List UT} {ws : List Cs} {vs : List D} (h : Ints S r) (hw : S[w]? = some (.lst (ws.map D.str))) (hv : S[v]? = some (.lst vs)) (hwne : ws ≠ []) (hvne : vs ≠ []) (hnw : w ≠ r) (hnv : v ≠ r) (hwl : ws.length ≤ 20) (hW : ∀ x ∈ ws, UOk (.var x)) (hT : ∀ t ∈ ts, UOk t) (hl : ts.length ≤ 1000) :
    (F__law_behind [.ref r, .tup (ts.map uD), .ref w, .ref v] S).sat fun d S' => ∃ M : Bnd, d = .tup ((ts.map (res M)).map uD) ∧ (∀ p ∈ M, p.1 ∈ ws ∧ InT ws vs p.2) ∧ Dr r S S' := by
  have hr := h.lt
  have hwlt := lt_of_get hw
  refine sat_defM rfl ?_
  refine sat_seq (BhI S r (.tup (ts.map uD)) w v ws vs 0) ?_ ?_
  · simp
    exact ⟨S.length, [], _, _, rfl, Nat.le_refl _, by simp, by simp, by simp, (Dr.refl h).push⟩
  intro δ S1 hI
  refine sat_seq (BhI S r (.tup (ts.map uD)) w v ws vs ws.length) ?_ ?_
  · obtain ⟨n, M, a5, a6, rfl, hn, gn, hM, hP, h1⟩ := id hI
    simp [lstAt_of (h1.get hw hnw)]
    refine for_inv (BhI S r (.tup (ts.map uD)) w v ws vs) hI ?_ ?_ ?_
    · rintro k δ S2 _ ⟨n, M, a5, a6, rfl, hn, gn, hM, hP, h2⟩
      simp [lstAt_of (h2.get hw hnw)]
    · rintro k hk δ S2 ⟨n, M, a5, a6, rfl, hn, gn, hM, hP, h2⟩
      rw [List.length_map] at hk
      refine ⟨_, rfl, ?_⟩
      have eg : (ws.map D.str)[k]'(by simpa using hk) = .str ws[k] := by simp
      have hm := List.getElem_mem hk
      rw [eg]
      generalize ws[k] = x at hm
      have hnr : n ≠ r := by omega
      simp
      refine (c_take h2.whole (by omega)).mono ?_
      rintro d S3 ⟨u, rfl, _, _, h3⟩
      have h23 := h2.trans h3
      have gn3 := h3.get gn hnr
      by_cases q : u = 0
      · simp [q, gn3]
        refine (c_term h23.whole (h23.get hw hnw) (h23.get hv hnv) hwne hvne hnw hnv).mono ?_
        rintro d S4 ⟨t, rfl, ht, h4⟩
        have gn4 := h4.get gn3 hnr
        simp [gn4]
        rw [if_pos (lt_LIM (by omega)), Res.sat_ok]
        refine ⟨n, M ++ [(x, t)], _, _, rfl, hn, ?_, by simp; omega, ?_, (h23.trans h4).set_new hr hn⟩
        · rw [List.getElem?_set_self (lt_of_get gn4)]
          simp [pD]
        · intro p hp
          rcases List.mem_append.mp hp with hp | hp
          · exact hP p hp
          · simp at hp
            subst hp
            exact ⟨hm, ht⟩
      · simp [q]
        exact ⟨n, M, _, _, rfl, hn, gn3, by omega, hP, h23⟩
    · intro δ S2 h
      rw [List.length_map] at h
      exact h
  rintro δ S2 ⟨n, M, a5, a6, rfl, hn, gn, hM, hP, h2⟩
  have hMw : ∀ p ∈ M, UOk (.var p.1) := fun p hp => hW _ (hP p hp).1
  have hnl := lt_of_get gn
  simp
  refine lc_map (fun x => match x with | .tup [.str a, y] => (if a = [118, 97, 114] then (match y with | .str w => uD (res M (.var w)) | _ => x) else x) | _ => x) (by simp) (by simp; exact le_LIM (by omega)) (fun _ _ => rfl) ?_ ?_
  · intro x hx
    obtain ⟨t, ht, rfl⟩ := List.mem_map.mp hx
    have ok := hT t ht
    refine ⟨_, rfl, fun S' hf => ?_⟩
    have gn' : S'[n]? = some (.lst (M.map pD)) := hf.get (by rw [List.getElem?_append_left hnl]; exact gn) (by simp; omega)
    simp [c_afterL gn' ok hMw]
    cases t with
    | var w => simp [uD]
    | val d => simp [uD, res]
  · intro S' hf hys
    simp [lstAt_of hys]
    refine ⟨M, ?_, fun a b hab => hP (a, b) hab, h2.trans (Dr.of h2.whole (fr_app_new rfl hf))⟩
    intro t ht
    cases t with
    | var w => simp [uD]
    | val d => simp [uD, res]
end LW

end

section
set_option linter.all false
set_option Elab.async false
set_option maxRecDepth 100000
namespace LW
open Dl DlM
/-! what is put is right -/
def PrI (S : Store) (r w v : Nat) (ws : List Cs) (vs : List D) (δ : Env) (S' : Store) : Prop := ∃ (n : Nat) (M : Bnd) (a4 a5 a6 a7 : Option D), δ = [some (.ref r), some (.ref w), some (.ref v), some (.ref n), a4, a5, a6, a7] ∧ S.length ≤ n ∧ S'[n]? = some (.lst (M.map pD)) ∧ M.length ≤ 5 ∧ (∀ p ∈ M, p.1 ∈ ws ∧ InT ws vs p.2) ∧ Dr r S S'
def PrJ (S : Store) (r w v : Nat) (ws : List Cs) (vs : List D) (q : Nat) (K : List Cs) (δ : Env) (S' : Store) : Prop := ∃ (n : Nat) (M : Bnd) (a4 a5 a6 a7 : Option D), δ = [some (.ref r), some (.ref w), some (.ref v), some (.ref n), a4, a5, a6, a7] ∧ S.length ≤ n ∧ n < q ∧ S'[n]? = some (.lst (M.map pD)) ∧ M.length ≤ 5 ∧ (∀ p ∈ M, p.1 ∈ ws ∧ InT ws vs p.2) ∧ Dr r S S' ∧ S'[q]? = some (.lst (K.map D.str))
theorem c_put_is_right {S : Store} {r w v : Nat} {ws : List Cs} {vs : List D} (h : Ints S r) (hw : S[w]? = some (.lst (ws.map D.str))) (hv : S[v]? = some (.lst vs)) (hwne : ws ≠ []) (hvne : vs ≠ []) (hnw : w ≠ r) (hnv : v ≠ r) (hwl : ws.length ≤ 20) (hvl : vs.length ≤ 20) (hW : ∀ x ∈ ws, UOk (.var x)) (hV : ∀ d ∈ vs, UOk (.val d)) :
    (F__law_put_is_right [.ref r, .ref w, .ref v] S).sat fun d S' => d = .bl true := by
  have hr := h.lt
  refine sat_defM rfl ?_
  refine sat_seq (PrI S r w v ws vs) ?_ ?_
  · simp
    exact ⟨S.length, [], _, _, _, _, rfl, Nat.le_refl _, by simp, by simp, by simp, (Dr.refl h).push⟩
  intro δ S1 hI
  refine sat_seq (PrI S r w v ws vs) ?_ ?_
  · obtain ⟨n, M, a4, a5, a6, a7, rfl, hn, gn, hM, hP, h1⟩ := id hI
    simp [lstAt_of (h1.get hw hnw)]
    have hperm := List.mergeSort_perm ws csLe
    have hml : (ws.mergeSort csLe).length = ws.length := hperm.length_eq
    have hmm : ∀ x ∈ ws.mergeSort csLe, x ∈ ws := fun x hx => hperm.mem_iff.mp hx
    generalize eK : ws.mergeSort csLe = K at hml hmm
    have es : sortedSP [.ref w] S1 = .ok (.ref S1.length) (S1 ++ [.lst (K.map D.str)]) := by
      unfold sortedSP
      simp [lstAt_of (h1.get hw hnw), strsOf_map, show ws.length < 64 by omega, eK]
    have h1l := h1.le
    have hwlt := lt_of_get hw
    simp [es, lstAt_of (show (S1 ++ [MO.lst (K.map D.str)])[S1.length]? = some (.lst (K.map D.str)) by simp)]
    have hnl := lt_of_get gn
    refine for_inv (fun _ => PrJ S r w v ws vs S1.length K) ⟨n, M, _, _, _, _, rfl, hn, hnl, by rw [List.getElem?_append_left hnl]; exact gn, hM, hP, h1.push, by simp⟩ ?_ ?_ ?_
    · rintro k δ S2 _ ⟨n, M, a4, a5, a6, a7, rfl, hn, hnl, gn, hM, hP, h2, gq⟩
      simp [isLst, lstAt_of gq]
    · rintro k hk δ S2 ⟨n, M, a4, a5, a6, a7, rfl, hn, hnl, gn, hM, hP, h2, gq⟩
      rw [List.length_map] at hk
      refine ⟨_, rfl, ?_⟩
      have eg : (K.map D.str)[k]'(by simpa using hk) = .str K[k] := by simp
      have hm := hmm _ (List.getElem_mem hk)
      rw [eg]
      generalize K[k] = x at hm
      have hnr : n ≠ r := by omega
      have hqr : S1.length ≠ r := Nat.ne_of_gt (Nat.lt_of_lt_of_le hr (Nat.le_trans hn (Nat.le_of_lt hnl)))
      have h5 : (M.map pD).length = M.length := by simp
      by_cases q5 : M.length < 5
      · have q5' : (M.length : Int) < 5 := by exact_mod_cast q5
        simp [gn, q5, q5']
        refine (c_take h2.whole (by omega)).mono ?_
        rintro d S3 ⟨u, rfl, _, _, h3⟩
        have h23 := h2.trans h3
        have gn3 := h3.get gn hnr
        have gq3 := h3.get gq hqr
        by_cases q : u = 0
        · simp [q, gn3]
          refine (c_term h23.whole (h23.get hw hnw) (h23.get hv hnv) hwne hvne hnw hnv).mono ?_
          rintro d S4 ⟨t, rfl, ht, h4⟩
          have gn4 := h4.get gn3 hnr
          have gq4 := h4.get gq3 hqr
          simp [gn4]
          rw [if_pos (lt_LIM (by omega)), Res.sat_ok]
          refine ⟨n, M ++ [(x, t)], _, _, _, _, rfl, hn, hnl, ?_, by simp; omega, ?_, (h23.trans h4).set_new hr hn, ?_⟩
          · rw [List.getElem?_set_self (lt_of_get gn4)]
            simp [pD]
          · intro p hp
            rcases List.mem_append.mp hp with hp | hp
            · exact hP p hp
            · simp at hp
              subst hp
              exact ⟨hm, ht⟩
          · rw [List.getElem?_set_ne (by omega)]
            exact gq4
        · simp [q]
          exact ⟨n, M, _, _, _, _, rfl, hn, hnl, gn3, hM, hP, h23, gq3⟩
      · have q5' : ¬ (M.length : Int) < 5 := by omega
        simp [gn, q5, q5']
        exact ⟨n, M, _, _, _, _, rfl, hn, hnl, gn, hM, hP, h2, gq⟩
    · rintro δ S2 ⟨n, M, a4, a5, a6, a7, rfl, hn, hnl, gn, hM, hP, h2, gq⟩
      exact ⟨n, M, _, _, _, _, rfl, hn, gn, hM, hP, h2⟩
  rintro δ S2 ⟨n, M, a4, a5, a6, a7, rfl, hn, gn, hM, hP, h2⟩
  have hMw : ∀ p ∈ M, UOk (.var p.1) := fun p hp => hW _ (hP p hp).1
  refine sat_seq (fun δ S3 => ∃ (q : Nat) (us : List UT) (a4 a6 a7 : Option D), δ = [some (.ref r), some (.ref w), some (.ref v), some (.ref n), a4, some (.ref q), a6, a7] ∧ S3[q]? = some (.lst (us.map uD)) ∧ us.length ≤ 100 ∧ (∀ u ∈ us, UOk u) ∧ S3[n]? = some (.lst (M.map pD))) ?_ ?_
  · have hw2 := h2.get hw hnw
    have hv2 := h2.get hv hnv
    have hle := h2.le
    simp [lstAt_of hw2]
    have hwlt := lt_of_get hw2
    have hvlt := lt_of_get hv2
    have hnlt := lt_of_get gn
    refine lc_map (fun x => .tup [.str [118, 97, 114], x]) (by simp) (by simp; exact le_LIM (by omega)) (fun S' hf => by simp [isLst, lstAt_of (hf.get (by rw [List.getElem?_append_left hwlt]; exact hw2) (by simp; omega))]) ?_ ?_
    · intro x hx
      exact ⟨_, rfl, fun S' _ => by simp⟩
    · intro S3 f3 g3
      have F3 := fr_app_new rfl f3
      simp [lstAt_of (F3.get hw2 (by simp)), lstAt_of (F3.get hv2 (by simp))]
      have hw3 := F3.get hw2 (by simp)
      have hw4 : (S3 ++ [MO.lst vs])[w]? = some (.lst (ws.map D.str)) := by
        rw [List.getElem?_append_left (lt_of_get hw3)]
        exact hw3
      have g5 : (S3 ++ [MO.lst vs, MO.lst (ws.map D.str)])[S3.length]? = some (.lst vs) := by simp
      have g6 : (S3 ++ [MO.lst vs, MO.lst (ws.map D.str)])[S3.length + 1]? = some (.lst (ws.map D.str)) := by simp
      have hLE2 : vs.length + ws.length ≤ LIM := le_LIM (by omega)
      have g7 : (S3 ++ [MO.lst vs, MO.lst (ws.map D.str), MO.lst (vs ++ ws.map D.str)])[S3.length + 2]? = some (.lst (vs ++ ws.map D.str)) := by simp
      simp [lstAt_of hw4, hLE2]
      rw [lstAt_of g7]
      simp
      have hb : (S3 ++ [MO.lst vs, MO.lst (ws.map D.str), MO.lst (vs ++ ws.map D.str), MO.lst []])[S3.length + 2]? = some (.lst (vs ++ ws.map D.str)) := by simp
      have ha : (S3 ++ [MO.lst vs, MO.lst (ws.map D.str), MO.lst (vs ++ ws.map D.str), MO.lst []])[S2.length]? = some (.lst ((ws.map D.str).map fun x => .tup [.str [118, 97, 114], x])) := by
        rw [List.getElem?_append_left (lt_of_get g3)]
        exact g3
      have hc : (S3 ++ [MO.lst vs, MO.lst (ws.map D.str), MO.lst (vs ++ ws.map D.str), MO.lst []])[n]? = some (.lst (M.map pD)) := by
        have gn3 := F3.get gn (by simp)
        rw [List.getElem?_append_left (lt_of_get gn3)]
        exact gn3
      have hd : (S3 ++ [MO.lst vs, MO.lst (ws.map D.str), MO.lst (vs ++ ws.map D.str), MO.lst []])[S3.length + 3]? = some (.lst []) := by simp
      have hs3 : S2.length < S3.length := lt_of_get g3
      have hn3 : n < S3.length := lt_of_get (F3.get gn (by simp))
      refine lc_map (fun x => .tup [.str [118, 97, 108, 117, 101], x]) hd (by simp; exact le_LIM (by omega)) (fun S' hf => by simp [isLst, lstAt_of (hf.get hb (by simp))]) ?_ ?_
      · intro x hx
        exact ⟨_, rfl, fun S' _ => by simp⟩
      · intro S4 f4 g4
        have ha4 := f4.get ha (by simp; omega)
        have hc4 := f4.get hc (by simp; omega)
        have hLE3 : ws.length + (vs.length + ws.length) ≤ LIM := le_LIM (by omega)
        rw [ha4, g4]
        simp [hLE3]
        refine ⟨ws.map UT.var ++ (vs.map UT.val ++ ws.map fun x => UT.val (.str x)), ?_, by simp; omega, ?_, ?_⟩
        · simp [uD, Function.comp_def]
        · intro u hu
          rcases List.mem_append.mp hu with hu | hu
          · obtain ⟨x, hx, rfl⟩ := List.mem_map.mp hu
            exact hW x hx
          · rcases List.mem_append.mp hu with hu | hu
            · obtain ⟨x, hx, rfl⟩ := List.mem_map.mp hu
              exact hV x hx
            · obtain ⟨x, hx, rfl⟩ := List.mem_map.mp hu
              exact hW x hx
        · rw [List.getElem?_append_left (lt_of_get hc4)]
          exact hc4
  rintro δ S3 ⟨q, us, a4, a6, a7, rfl, gq, hul, hus, gn3⟩
  have ecut : cut (us.map uD) none (some 2) = (us.map uD).take 2 := by
    simp [cut, sIx, List.take_eq_take_iff]
  have g2 : (S3 ++ [MO.lst ((us.map uD).take 2)])[q]? = some (.lst (us.map uD)) := by
    rw [List.getElem?_append_left (lt_of_get gq)]
    exact gq
  have hLE : us.length + min 2 us.length ≤ LIM := le_LIM (by omega)
  simp [lstAt_of gq, ecut, g2, hLE]
  have g4 : (S3 ++ [MO.lst ((us.map uD).take 2), MO.lst (us.map uD ++ (us.map uD).take 2)])[S3.length + 1]? = some (.lst (us.map uD ++ (us.map uD).take 2)) := by simp
  have gn4 : (S3 ++ [MO.lst ((us.map uD).take 2), MO.lst (us.map uD ++ (us.map uD).take 2)])[n]? = some (.lst (M.map pD)) := by
    rw [List.getElem?_append_left (lt_of_get gn3)]
    exact gn3
  have hL : ∀ x ∈ us.map uD ++ (us.map uD).take 2, ∃ u, x = uD u ∧ UOk u := fun x hx => by
    have : x ∈ us.map uD := (List.mem_append.mp hx).elim id List.mem_of_mem_take
    obtain ⟨u, hu, rfl⟩ := List.mem_map.mp this
    exact ⟨u, rfl, hus u hu⟩
  generalize (S3 ++ [MO.lst ((us.map uD).take 2), MO.lst (us.map uD ++ (us.map uD).take 2)]) = S4 at g4 gn4 ⊢
  generalize us.map uD ++ (us.map uD).take 2 = L at g4 hL
  simp [lstAt_of g4]
  refine for_inv (fun _ δ S5 => (∃ a6, δ = [some (.ref r), some (.ref w), some (.ref v), some (.ref n), a4, some (.ref q), a6, a7]) ∧ Fr [] S4 S5) ⟨⟨_, rfl⟩, .refl⟩ ?_ ?_ ?_
  · rintro k δ S5 _ ⟨_, f5⟩
    simp [isLst, lstAt_of (f5.get g4 (by simp))]
  · rintro k hk δ S5 ⟨⟨a6, rfl⟩, f5⟩
    refine ⟨_, rfl, ?_⟩
    obtain ⟨u, eu, hu⟩ := hL _ (List.getElem_mem hk)
    rw [eu]
    have gn5 := f5.get gn4 (by simp)
    simp [lstAt_of gn5, c_put_terms hu hMw, c_afterL gn5 hu hMw]
    have hMu : ∀ p ∈ M, UOk p.2 := fun p hp => by
      rcases (hP p hp).2 with ⟨x, hx, e⟩ | ⟨d, hd, e⟩
      · rw [e]; exact hW x hx
      · rw [e]; exact hV d hd
    have ok := res_okU hMu hu
    refine (same_u ok ok).mono ?_
    rintro d S6 ⟨rfl, f6⟩
    simp
    exact f5.trans f6
  · rintro δ S5 ⟨⟨a6, rfl⟩, f5⟩
    simp
end LW

end

section
set_option linter.all false
set_option Elab.async false
set_option maxRecDepth 100000
namespace LW
open Dl DlM
/-! the chain of equalities -/
def eD (p : UT × UT) : D := .tup [uD p.1, uD p.2]
def EOk (V : List D) (p : UT × UT) : Prop := (UOk p.1 ∧ ∀ d, p.1 = .val d → d ∈ V) ∧ (UOk p.2 ∧ ∀ d, p.2 = .val d → d ∈ V)
def ChI (S : Store) (r w : Nat) (a b : D) (k : Nat) (δ : Env) (S' : Store) : Prop := ∃ (n : Nat) (ps : List (UT × UT)) (a5 a6 : Option D), δ = [some (.ref r), some (.ref w), some a, some b, some (.ref n), a5, a6] ∧ S.length ≤ n ∧ S'[n]? = some (.lst (ps.map eD)) ∧ ps.length = k + 2 ∧ (∀ p ∈ ps, EOk [a, b] p) ∧ Dr r S S'
theorem insertP_at {S : Store} {n : Nat} {i : Int} {d : D} {xs : List D} (h : S[n]? = some (.lst xs)) (hl : xs.length ≤ 100000) (h0 : 0 ≤ i) (h1 : i ≤ 100000) : insertP [.ref n, .int i, d] S = .ok .non (S.set n (.lst (xs.take i.toNat ++ [d] ++ xs.drop i.toNat))) := by
  unfold insertP
  simp only [h]
  rw [if_pos ⟨lt_LIM (by omega), h0, by omega⟩]
theorem eok_var {V : List D} {x : Cs} (h : UOk (.var x)) : UOk (.var x) ∧ ∀ d, UT.var x = .val d → d ∈ V := ⟨h, fun d z => by cases z⟩
theorem c_chain {S : Store} {r w : Nat} {ws : List Cs} {a b : D} (h : Ints S r) (hw : S[w]? = some (.lst (ws.map D.str))) (hnw : w ≠ r) (hwl : ws.length = 9) (hW : ∀ x ∈ ws, UOk (.var x)) (ha : UOk (.val a)) (hb : UOk (.val b)) :
    (F__law_chain [.ref r, .ref w, a, b] S).sat fun d S' => ∃ (q : Nat) (ts os : List UT), d = .ref q ∧ S.length ≤ q ∧ S'[q]? = some (.lst [.tup (ts.map uD), .tup (os.map uD)]) ∧ ts.length = 8 ∧ os.length = 8 ∧ (∀ x ∈ ts, UOk x ∧ ∀ d, x = .val d → d ∈ [a, b]) ∧ (∀ x ∈ os, UOk x ∧ ∀ d, x = .val d → d ∈ [a, b]) ∧ Dr r S S' := by
  have hr := h.lt
  have hwlt := lt_of_get hw
  have gw : ∀ (i : Nat) (hi : i < ws.length), atI (ws.map D.str) (i : Int) = some (.str ws[i]) := fun i hi => atI_nat (by simp [hi])
  have hWi : ∀ (i : Nat) (hi : i < ws.length), UOk (.var ws[i]) := fun i hi => hW _ (List.getElem_mem hi)
  refine sat_defM rfl ?_
  refine sat_seq (ChI S r w a b 0) ?_ ?_
  · have g0 := gw 0 (by omega)
    have g6 := gw 6 (by omega)
    rw [show ((0 : Nat) : Int) = 0 from rfl] at g0
    rw [show ((6 : Nat) : Int) = 6 from rfl] at g6
    simp [lstAt_of hw, g0, g6]
    refine ⟨S.length, [(.val a, .var ws[0]), (.var ws[6], .val b)], _, _, rfl, Nat.le_refl _, by simp [eD, uD], rfl, ?_, (Dr.refl h).push⟩
    intro p hp
    simp at hp
    rcases hp with rfl | rfl
    · exact ⟨⟨ha, fun d z => by cases z; simp⟩, eok_var (hWi _ _)⟩
    · exact ⟨eok_var (hWi _ _), ⟨hb, fun d z => by cases z; simp⟩⟩
  intro δ S1 hI
  refine sat_seq (ChI S r w a b 6) ?_ ?_
  · obtain ⟨n, ps, a5, a6, rfl, hn, gn, hl, hP, h1⟩ := id hI
    simp [show inRange 6 = true from inRange_nat (n := 6) (by omega)]
    refine for_inv (ChI S r w a b) hI (fun _ _ _ _ _ => rfl) ?_ ?_
    · rintro k hk δ S2 ⟨n, ps, a5, a6, rfl, hn, gn, hl, hP, h2⟩
      have hk6 : k < 6 := by
        have e : (rangeL 0 6).length = 6 := rangeL_length 6
        omega
      refine ⟨_, rfl, ?_⟩
      rw [show (rangeL 0 6)[k] = .int k from rangeL_get (n := 6) hk]
      have hnr : n ≠ r := by omega
      have gk := gw k (by omega)
      have gk1 := gw (k + 1) (by omega)
      rw [show ((k + 1 : Nat) : Int) = (k : Int) + 1 by omega] at gk1
      have hw2 := h2.get hw hnw
      simp [lstAt_of hw2, gk, gk1, gn]
      rw [show (ps.length : Int) + 1 = ((ps.length + 1 : Nat) : Int) by omega]
      refine (c_take h2.whole (by omega)).mono ?_
      rintro d S3 ⟨u, rfl, hu0, hu1, h3⟩
      have h23 := h2.trans h3
      have gn3 := h3.get gn hnr
      have hle := h23.le
      refine (c_take (h23.push (T := [MO.lst [D.tup [D.tup [.str [118, 97, 114], .str ws[k]], .tup [.str [118, 97, 114], .str ws[k + 1]]], D.tup [D.tup [.str [118, 97, 114], .str ws[k + 1]], .tup [.str [118, 97, 114], .str ws[k]]]]])).whole (by omega)).mono ?_
      rintro d S4 ⟨v, rfl, hv0, hv1, h4⟩
      have g4 := h4.get (i := S3.length) (v := MO.lst [D.tup [D.tup [.str [118, 97, 114], .str ws[k]], .tup [.str [118, 97, 114], .str ws[k + 1]]], D.tup [D.tup [.str [118, 97, 114], .str ws[k + 1]], .tup [.str [118, 97, 114], .str ws[k]]]]) (by simp) (by omega)
      have gn4 := h4.get (show (S3 ++ [MO.lst [D.tup [D.tup [.str [118, 97, 114], .str ws[k]], .tup [.str [118, 97, 114], .str ws[k + 1]]], D.tup [D.tup [.str [118, 97, 114], .str ws[k + 1]], .tup [.str [118, 97, 114], .str ws[k]]]]])[n]? = some (.lst (ps.map eD)) by rw [List.getElem?_append_left (lt_of_get gn3)]; exact gn3) hnr
      have h5 := (h23.push (T := [MO.lst [D.tup [D.tup [.str [118, 97, 114], .str ws[k]], .tup [.str [118, 97, 114], .str ws[k + 1]]], D.tup [D.tup [.str [118, 97, 114], .str ws[k + 1]], .tup [.str [118, 97, 114], .str ws[k]]]]])).trans h4
      have key : ∀ p : UT × UT, EOk [a, b] p → (match insertP [.ref n, .int u, eD p] S4 with
          | .ok _ S5 => ∃ (n' : Nat) (qs : List (UT × UT)), n' = n ∧ S5[n']? = some (.lst (qs.map eD)) ∧ qs.length = k + 1 + 2 ∧ (∀ p ∈ qs, EOk [a, b] p) ∧ Dr r S S5
          | _ => False) := by
        intro p hp
        rw [insertP_at gn4 (by simp; omega) hu0 (by omega)]
        refine ⟨n, ps.take u.toNat ++ [p] ++ ps.drop u.toNat, rfl, ?_, by simp; omega, ?_, h5.set_new hr hn⟩
        · rw [List.getElem?_set_self (lt_of_get gn4)]
          simp [List.map_take, List.map_drop]
        · intro z hz
          rcases List.mem_append.mp hz with hz | hz
          · rcases List.mem_append.mp hz with hz | hz
            · exact hP z (List.mem_of_mem_take hz)
            · simp at hz
              subst hz
              exact hp
          · exact hP z (List.mem_of_mem_drop hz)
      have o1 : EOk [a, b] (.var ws[k], .var ws[k + 1]) := ⟨eok_var (hWi _ _), eok_var (hWi _ _)⟩
      have o2 : EOk [a, b] (.var ws[k + 1], .var ws[k]) := ⟨eok_var (hWi _ _), eok_var (hWi _ _)⟩
      rcases (show v = 0 ∨ v = 1 by omega) with rfl | rfl
      · simp [lstAt_of g4]
        have := key _ o1
        simp only [eD, uD] at this
        split at this
        rotate_left
        · exact this.elim
        rename_i e
        rw [e]
        obtain ⟨n', qs, rfl, q1, q2, q3, q4⟩ := this
        simp
        exact ⟨_, qs, _, _, rfl, hn, q1, q2, q3, q4⟩
      · simp [lstAt_of g4]
        have := key _ o2
        simp only [eD, uD] at this
        split at this
        rotate_left
        · exact this.elim
        rename_i e
        rw [e]
        obtain ⟨n', qs, rfl, q1, q2, q3, q4⟩ := this
        simp
        exact ⟨_, qs, _, _, rfl, hn, q1, q2, q3, q4⟩
    · intro δ S2 h
      rwa [show (rangeL 0 6).length = 6 from rangeL_length 6] at h
  rintro δ S2 ⟨n, ps, a5, a6, rfl, hn, gn, hl, hP, h2⟩
  have hnl := lt_of_get gn
  simp [lstAt_of gn]
  have g1 : (S2 ++ [MO.lst []])[n]? = some (.lst (ps.map eD)) := by rw [List.getElem?_append_left hnl]; exact gn
  refine lc_map (fun x => match x with | .tup [p, _] => p | d => d) (by simp) (by simp; exact le_LIM (by omega)) (fun S' hf => by simp [isLst, lstAt_of (hf.get g1 (by simp; omega))]) ?_ ?_
  · intro x hx
    obtain ⟨p, hp, rfl⟩ := List.mem_map.mp hx
    exact ⟨_, rfl, fun S' hf => by simp [eD]⟩
  intro S3 f3 g3
  have F3 := fr_app_new rfl f3
  have gn3 := F3.get gn (by simp)
  have hnl3 := lt_of_get gn3
  simp [lstAt_of g3, lstAt_of gn3]
  have g4 : (S3 ++ [MO.lst []])[n]? = some (.lst (ps.map eD)) := by rw [List.getElem?_append_left hnl3]; exact gn3
  refine lc_map (fun x => match x with | .tup [_, p] => p | d => d) (by simp) (by simp; exact le_LIM (by omega)) (fun S' hf => by simp [isLst, lstAt_of (hf.get g4 (by simp; omega))]) ?_ ?_
  · intro x hx
    obtain ⟨p, hp, rfl⟩ := List.mem_map.mp hx
    exact ⟨_, rfl, fun S' hf => by simp [eD]⟩
  intro S4 f4 g5
  have F4 := fr_app_new rfl f4
  simp [lstAt_of g5]
  have hle := h2.le
  have hle3 := F3.le
  have hle4 := F4.le
  refine ⟨by omega, ps.map (·.1), ps.map (·.2), by simp [eD], by simp; omega, by simp; omega, ?_, ?_, ((h2.trans (Dr.of h2.whole F3)).trans (Dr.of (h2.trans (Dr.of h2.whole F3)).whole F4)).push⟩
  · intro x hx
    obtain ⟨p, hp, rfl⟩ := List.mem_map.mp hx
    simpa using (hP p hp).1
  · intro x hx
    obtain ⟨p, hp, rfl⟩ := List.mem_map.mp hx
    simpa using (hP p hp).2
end LW

end

section
set_option linter.all false
set_option Elab.async false
set_option maxRecDepth 100000
namespace LW
open Dl DlM
/-! the law k75 -/
def VE (vs : List D) (x : UT) : Prop := UOk x ∧ ∀ d, x = .val d → d ∈ vs
/-- a pair of tuples -/
def PG (vs : List D) (S : Store) (p : Nat) : Prop := ∃ ts os : List UT, S[p]? = some (.lst [.tup (ts.map uD), .tup (os.map uD)]) ∧ ts.length = os.length ∧ ts.length ≤ 8 ∧ (∀ x ∈ ts, VE vs x) ∧ (∀ x ∈ os, VE vs x)
structure J1 (r w : Nat) (ws : List Cs) (S : Store) : Prop where
  dr : Ints S r
  gw : S[w]? = some (.lst (ws.map D.str))
  len : ws.length = 9
  wd : Words 60 ws
  ne : w ≠ r
theorem J1.mono {r w : Nat} {ws : List Cs} {S S' : Store} (j : J1 r w ws S) (h : Dr r S S') : J1 r w ws S' := ⟨h.whole, h.get j.gw j.ne, j.len, j.wd, j.ne⟩
theorem J1.ok {r w : Nat} {ws : List Cs} {S : Store} (j : J1 r w ws S) : ∀ x ∈ ws, UOk (.var x) := fun x hx => by
  show x.all _ = true
  rw [List.all_eq_true]
  intro c hc
  have := (j.wd.word x hx).all c hc
  unfold letter at this
  simp
  omega
structure J2 (r w v : Nat) (ws : List Cs) (vs : List D) (S : Store) : Prop extends J1 r w ws S where
  gv : S[v]? = some (.lst vs)
  vl : vs.length = 3
  vok : ∀ d ∈ vs, UOk (.val d)
  nev : v ≠ r
theorem J2.mono {r w v : Nat} {ws : List Cs} {vs : List D} {S S' : Store} (j : J2 r w v ws vs S) (h : Dr r S S') : J2 r w v ws vs S' := ⟨j.toJ1.mono h, h.get j.gv j.nev, j.vl, j.vok, j.nev⟩
theorem in_ve {ws us : List Cs} {vs : List D} (hu : ∀ x ∈ us, x ∈ ws) (hw : ∀ x ∈ ws, UOk (.var x)) (hv : ∀ d ∈ vs, UOk (.val d)) {t : UT} (h : InT us vs t) : VE vs t := by
  rcases h with ⟨x, hx, rfl⟩ | ⟨d, hd, rfl⟩
  · exact ⟨hw x (hu x hx), fun d z => by cases z⟩
  · exact ⟨hv d hd, fun e z => by cases z; exact hd⟩
theorem res_ve {vs : List D} {M : Bnd} (h : ∀ p ∈ M, VE vs p.2) {t : UT} (ht : VE vs t) : VE vs (res M t) := by
  cases t with
  | val d => exact ht
  | var w =>
    rw [res_var]
    cases e : look M w with
    | none => exact ht
    | some u => exact h _ (look_mem e)
theorem pg_ok {vs : List D} {S : Store} {p : Nat} (h : PG vs S p) (hvl : vs.length = 3) : ∃ a b, S[p]? = some (.lst [a, b]) ∧ ∀ S1 : Store, (F_unified [a, b] S1).sat fun d S2 => Fr [] S1 S2 ∧ ∀ S3 : Store, (F__law_is_unifying [a, b, d] S3).sat fun e S4 => e = .bl true ∧ Fr [] S3 S4 := by
  obtain ⟨ts, os, g, he, hl, ht, ho⟩ := h
  refine ⟨_, _, g, fun S1 => ?_⟩
  refine (c_unified (fun x hx => (ht x hx).1) (fun x hx => (ho x hx).1) (by omega)).mono ?_
  rintro d S2 ⟨f, hd⟩
  refine ⟨f, fun S3 => ?_⟩
  have hd : d = tl (unifyU (ts.zip os) []) := hd
  subst hd
  refine c_unifying (V := vs.map fun d => uD (.val d)) (fun x hx => (ht x hx).1) (fun x hx => (ho x hx).1) he (by omega) ?_ (by simp; omega)
  rintro x hx d rfl
  refine List.mem_map.mpr ⟨d, ?_, rfl⟩
  rcases hx with hx | hx
  · exact (ht _ hx).2 d rfl
  · exact (ho _ hx).2 d rfl
theorem PG.mono {vs : List D} {S S' : Store} {p r : Nat} (h : PG vs S p) (f : Dr r S S') (hp : p ≠ r) : PG vs S' p := by
  obtain ⟨ts, os, g, q⟩ := h
  exact ⟨ts, os, f.get g hp, q⟩
theorem PG.fr {vs : List D} {S S' : Store} {p : Nat} (h : PG vs S p) (f : Fr [] S S') : PG vs S' p := by
  obtain ⟨ts, os, g, q⟩ := h
  exact ⟨ts, os, f.get g (by simp), q⟩
theorem pick_nat {xs : List D} {m : Nat} (P : Nat → Prop) (h : ∀ x ∈ xs, ∃ k : Nat, x = .int k ∧ P k) {i : Int} (h0 : 0 ≤ i) (h1 : i < xs.length) : ∃ k : Nat, atI xs i = some (.int k) ∧ P k := by
  obtain ⟨x, e1, e2⟩ := atI_int h0 h1
  obtain ⟨k, rfl, hk⟩ := h x (List.mem_of_getElem? e2)
  exact ⟨k, e1, hk⟩
def R2 (L : D) (r : Nat) (δ : Env) (S : Store) : Prop := ∃ w ws, δ = [some L, some (.ref r), some (.ref w), none, none, none, none, none, none] ∧ J1 r w ws S
def R3 (L : D) (r w : Nat) (ws : List Cs) (δ : Env) (S : Store) : Prop := ∃ v vs, δ = [some L, some (.ref r), some (.ref w), some (.ref v), none, none, none, none, none] ∧ J2 r w v ws vs S
def R5 (L : D) (r w v : Nat) (ws : List Cs) (vs : List D) (m : Nat) (δ : Env) (S : Store) : Prop := ∃ (u : Nat) (us : List Cs), δ = [some L, some (.ref r), some (.ref w), some (.ref v), some (.int m), some (.ref u), none, none, none] ∧ J2 r w v ws vs S ∧ S[u]? = some (.lst (us.map D.str)) ∧ us ≠ [] ∧ (∀ x ∈ us, x ∈ ws) ∧ us.length ≤ 9 ∧ u ≠ r
def R6 (L : D) (r w v u : Nat) (ws us : List Cs) (vs : List D) (m : Nat) (δ : Env) (S : Store) : Prop := ∃ ts : List UT, δ = [some L, some (.ref r), some (.ref w), some (.ref v), some (.int m), some (.ref u), some (.tup (ts.map uD)), none, none] ∧ J2 r w v ws vs S ∧ S[u]? = some (.lst (us.map D.str)) ∧ ts.length = m ∧ ∀ x ∈ ts, VE vs x
def R4 (L : D) (r w v : Nat) (ws : List Cs) (vs : List D) (m : Nat) (δ : Env) (S : Store) : Prop := δ = [some L, some (.ref r), some (.ref w), some (.ref v), some (.int m), none, none, none, none] ∧ J2 r w v ws vs S
def R7 (L : D) (r w v : Nat) (ws : List Cs) (vs : List D) (k : Nat) (δ : Env) (S : Store) : Prop := ∃ (a4 a5 a6 : Option D) (n : Nat) (qs : List Nat), δ = [some L, some (.ref r), some (.ref w), some (.ref v), a4, a5, a6, some (.ref n), none] ∧ J2 r w v ws vs S ∧ S[n]? = some (.lst (qs.map D.ref)) ∧ qs.length = k ∧ (∀ q ∈ qs, PG vs S q ∧ q ≠ r) ∧ n ≠ r ∧ (∀ q ∈ qs, q ≠ n)
theorem law_sat (ns : List Int) (hl : ns.length ≤ 63) : (F_law [.lit (ns.map D.int)] []).sat fun d _ => d = .bl true := by
  refine sat_defM rfl ?_
  refine sat_seq (fun δ S => ∃ r, δ = [some (.lit (ns.map D.int)), some (.ref r), none, none, none, none, none, none, none] ∧ Ints S r) ?_ ?_
  · simp
    refine (c_draws ns 220 (by omega) hl).mono ?_
    rintro d S1 ⟨r, rfl, h⟩
    exact ⟨r, rfl, h⟩
  rintro δ S1 ⟨r, rfl, h1⟩
  generalize D.lit (ns.map D.int) = L
  refine sat_seq (R2 L r) ?_ ?_
  · simp
    refine (c_words h1 9 (by omega)).mono ?_
    rintro d S2 ⟨w, ws, rfl, hw, gw, hwl, hwd, h2⟩
    exact ⟨w, ws, rfl, h2.whole, gw, hwl, hwd, by have := h1.lt; omega⟩
  rintro δ S2 ⟨w, ws, rfl, j2⟩
  refine sat_seq (R3 L r w ws) ?_ ?_
  · simp
    refine (c_values j2.dr j2.gw j2.ne (by rw [j2.len]; omega)).mono ?_
    rintro d S3 ⟨v, vs, rfl, hv, gv, hvl, hvo, h3⟩
    refine ⟨v, vs, rfl, j2.mono h3, gv, hvl, ?_, by have := j2.dr.lt; omega⟩
    intro d hd
    rcases hvo d hd with ⟨i, rfl⟩ | ⟨x, hx, rfl⟩
    · exact trivial
    · exact j2.ok x hx
  rintro δ S3 ⟨v, vs, rfl, j3⟩
  refine sat_seq (fun δ S => ∃ m : Nat, m ≤ 8 ∧ R4 L r w v ws vs m δ S) ?_ ?_
  · simp
    refine (c_take (Dr.push (Dr.refl j3.dr)).whole (by omega)).mono ?_
    rintro d S4 ⟨u, rfl, hu0, hu1, h4⟩
    have g4 := h4.get (i := S3.length) (v := .lst [.int 3, .int 8, .int 0, .int 5, .int 2, .int 8, .int 1, .int 4]) (by simp) (by have := j3.dr.lt; omega)
    obtain ⟨k, e, hk⟩ := pick_nat (m := 0) (xs := [.int 3, .int 8, .int 0, .int 5, .int 2, .int 8, .int 1, .int 4]) (fun k => k ≤ 8) (by
      intro x hx
      simp at hx
      rcases hx with rfl | rfl | rfl | rfl | rfl | rfl | rfl | rfl
      · exact ⟨3, rfl, by omega⟩
      · exact ⟨8, rfl, by omega⟩
      · exact ⟨0, rfl, by omega⟩
      · exact ⟨5, rfl, by omega⟩
      · exact ⟨2, rfl, by omega⟩
      · exact ⟨8, rfl, by omega⟩
      · exact ⟨1, rfl, by omega⟩
      · exact ⟨4, rfl, by omega⟩) hu0 (by simpa using hu1)
    simp [lstAt_of g4, e]
    exact ⟨k, hk, rfl, j3.mono ((Dr.push (Dr.refl j3.dr)).trans h4)⟩
  rintro δ S4 ⟨m, hm, rfl, j4⟩
  refine sat_seq (R5 L r w v ws vs m) ?_ ?_
  · simp
    have d4 := Dr.push (T := [MO.lst [D.int 2, D.int 3, D.int 9, D.int 6]]) (Dr.refl j4.dr)
    refine (c_take d4.whole (by omega)).mono ?_
    rintro d S5 ⟨u, rfl, hu0, hu1, h5⟩
    have g5 := h5.get (i := S4.length) (v := .lst [.int 2, .int 3, .int 9, .int 6]) (by simp) (by have := j4.dr.lt; omega)
    obtain ⟨k, e, hk⟩ := pick_nat (m := 0) (xs := [.int 2, .int 3, .int 9, .int 6]) (fun k => 2 ≤ k) (by
      intro x hx
      simp at hx
      rcases hx with rfl | rfl | rfl | rfl
      · exact ⟨2, rfl, by omega⟩
      · exact ⟨3, rfl, by omega⟩
      · exact ⟨9, rfl, by omega⟩
      · exact ⟨6, rfl, by omega⟩) hu0 (by simpa using hu1)
    have j5 := j4.mono (d4.trans h5)
    simp [lstAt_of g5, e, lstAt_of j5.gw, cut_to]
    have hlw := j5.len
    refine ⟨_, ws.take k, rfl, j5.mono (Dr.push (Dr.refl j5.dr)), by simp, ?_, fun x hx => List.mem_of_mem_take hx, by simp; omega, by have := j5.dr.lt; omega⟩
    · intro z
      have := congrArg List.length z
      rw [List.length_take, List.length_nil] at this
      omega
  rintro δ S5 ⟨u, us, rfl, j5, gu, hune, hus, hul, hur⟩
  have hvne : vs ≠ [] := by
    intro z
    have := j5.vl
    rw [z] at this
    simp at this
  refine sat_seq (R6 L r w v u ws us vs m) ?_ ?_
  · simp
    refine (c_terms j5.dr gu j5.gv hune hvne hur j5.nev (show m ≤ 1000 by omega)).mono ?_
    rintro d S6 ⟨ts, rfl, htl, ht, h6⟩
    exact ⟨ts, rfl, j5.mono h6, h6.get gu hur, htl, fun x hx => in_ve hus j5.ok j5.vok (ht x hx)⟩
  rintro δ S6 ⟨ts, rfl, j6, gu6, htl, ht⟩
  refine sat_seq (R7 L r w v ws vs 2) ?_ ?_
  · simp
    refine (c_terms j6.dr gu6 j6.gv hune hvne hur j6.nev (show m ≤ 1000 by omega)).mono ?_
    rintro d S7 ⟨os, rfl, hol, ho, h7⟩
    have j7 := j6.mono h7
    have d7 := Dr.push (T := [MO.lst [.tup (ts.map uD), .tup (os.map uD)]]) (Dr.refl j7.dr)
    have j8 := j7.mono d7
    have gu8 := d7.get (h7.get gu6 hur) hur
    have hr := j7.dr.lt
    refine (c_behind j8.dr gu8 j8.gv hune hvne hur j8.nev (by omega) (fun x hx => j8.ok x (hus x hx)) (fun x hx => (ht x hx).1) (by omega)).mono ?_
    rintro d S8 ⟨M, rfl, hM, h8⟩
    have j9 := j8.mono h8
    have hle := h8.le
    simp at hle
    simp
    have d9 := Dr.push (T := [MO.lst [.tup (ts.map uD), .tup ((ts.map (res M)).map uD)], MO.lst [.ref S7.length, .ref S8.length]]) (Dr.refl j9.dr)
    simp only [List.map_map] at d9
    refine ⟨_, _, _, _, [S7.length, S8.length], rfl, j9.mono d9, ?_, rfl, ?_, by omega, by simp; omega⟩
    · rw [List.getElem?_append_right (by omega), show S8.length + 1 - S8.length = 1 by omega]
      rfl
    · intro q hq
      simp at hq
      rcases hq with rfl | rfl
      · refine ⟨⟨ts, os, ?_, by omega, by omega, ht, fun x hx => in_ve hus j6.ok j6.vok (ho x hx)⟩, by omega⟩
        rw [List.getElem?_append_left (by omega)]
        exact h8.get (by simp) (by omega)
      · refine ⟨⟨ts, ts.map (res M), by simp, by simp, by omega, ht, ?_⟩, by omega⟩
        intro x hx
        obtain ⟨y, hy, rfl⟩ := List.mem_map.mp hx
        exact res_ve (fun p hp => in_ve hus j6.ok j6.vok (hM p hp).2) (ht y hy)
  have chain : ∀ (k : Nat) (δ : Env) (S7 : Store) (i : Nat), i < 2 → k ≤ 3 → R7 L r w v ws vs k δ S7 → (exprS (methM "list" appendP (varM 7) [(callM F__law_chain [(varM 1), (varM 2), (callM ixP [(varM 3), (conM (.int 0))]), (callM ixP [(varM 3), (conM (.int i))])])]) δ S7).sat fun f S1 => match f with | .nx δ1 => R7 L r w v ws vs (k + 1) δ1 S1 | f => False := by
    rintro k δ S7 i hi hk ⟨a4, a5, a6, n, qs, rfl, j7, gn, hql, hq, hnr, hqn⟩
    have hvl := j7.vl
    have e0 : atI vs 0 = some vs[0] := atI_nat (k := 0) (by simp)
    have ei : atI vs i = some vs[i] := atI_nat (by simp)
    have hr := j7.dr.lt
    have hnl := lt_of_get gn
    simp [lstAt_of j7.gv, e0, ei, gn]
    refine (c_chain j7.dr j7.gw j7.ne j7.len j7.ok (j7.vok _ (List.getElem_mem _)) (j7.vok _ (List.getElem_mem _))).mono ?_
    rintro d S8 ⟨q, ts, os, rfl, hq8, gq, htl, hol, hts, hos, h8⟩
    have gn8 := h8.get gn hnr
    have j8 := j7.mono h8
    have hin : ∀ x ∈ [vs[0], vs[i]], x ∈ vs := by
      intro x hx
      simp at hx
      rcases hx with rfl | rfl <;> exact List.getElem_mem _
    simp [gn8]
    rw [if_pos (lt_LIM (by omega)), Res.sat_ok]
    have g9 : ∀ {x : Nat} {y : MO}, S8[x]? = some y → x ≠ n → (S8.set n (.lst (qs.map D.ref ++ [.ref q])))[x]? = some y := fun h1 h2 => by rw [List.getElem?_set_ne (Ne.symm h2)]; exact h1
    have hqr : q ≠ r := by omega
    have hqn' : q ≠ n := by omega
    obtain ⟨xs, hxs⟩ := j8.dr
    have hwn : w ≠ n := by
      rintro rfl
      have := gn8.symm.trans j8.gw
      injection this with this
      injection this with this
      have := congrArg List.length this
      simp [j8.len] at this
      omega
    have hvn : v ≠ n := by
      rintro rfl
      have := gn8.symm.trans j8.gv
      injection this with this
      injection this with this
      have hm : vs[0] ∈ qs.map D.ref := by rw [this]; exact List.getElem_mem _
      obtain ⟨y, _, hy⟩ := List.mem_map.mp hm
      have := j8.vok _ (List.getElem_mem (show 0 < vs.length by omega))
      rw [← hy] at this
      exact this
    refine ⟨_, _, _, _, qs ++ [q], rfl, ⟨⟨⟨xs, g9 hxs hnr.symm⟩, g9 j8.gw hwn, j8.len, j8.wd, j8.ne⟩, g9 j8.gv hvn, j8.vl, j8.vok, j8.nev⟩, ?_, by simp; omega, ?_, hnr, ?_⟩
    · rw [List.getElem?_set_self (lt_of_get gn8)]
      simp
    · intro p hp
      rcases List.mem_append.mp hp with hp | hp
      · obtain ⟨⟨ts, os, g, z⟩, h2⟩ := hq p hp
        exact ⟨⟨ts, os, g9 (h8.get g h2) (hqn p hp), z⟩, h2⟩
      · simp at hp
        subst hp
        exact ⟨⟨ts, os, g9 gq hqn', by omega, by omega, fun x hx => ⟨(hts x hx).1, fun d hd => hin _ ((hts x hx).2 d hd)⟩, fun x hx => ⟨(hos x hx).1, fun d hd => hin _ ((hos x hx).2 d hd)⟩⟩, hqr⟩
    · intro p hp
      rcases List.mem_append.mp hp with hp | hp
      · exact hqn p hp
      · simp at hp
        subst hp
        exact hqn'
  intro δ S7 h7
  refine sat_seq (R7 L r w v ws vs 3) ?_ ?_
  · refine (chain 2 δ S7 0 (by omega) (by omega) h7).mono fun f S8 h => ?_
    cases f with
    | nx δ1 => exact h
    | _ => exact h.elim
  intro δ S8 h8
  refine sat_seq (R7 L r w v ws vs 4) ?_ ?_
  · refine (chain 3 δ S8 1 (by omega) (by omega) h8).mono fun f S8 h => ?_
    cases f with
    | nx δ1 => exact h
    | _ => exact h.elim
  rintro δ S9 ⟨a4, a5, a6, n, qs, rfl, j9, gn, hql, hq, hnr, hqn⟩
  refine sat_seq (fun δ S => (∃ a8, δ = [some L, some (.ref r), some (.ref w), some (.ref v), a4, a5, a6, some (.ref n), a8]) ∧ J2 r w v ws vs S) ?_ ?_
  · have hc : cut (qs.map D.ref) none (some 3) = (qs.take 3).map D.ref := by
      rw [show (3 : Int) = ((3 : Nat) : Int) from rfl, cut_to, List.map_take]
    have gn1 : (S9 ++ [MO.lst ((qs.take 3).map D.ref)])[n]? = some (.lst (qs.map D.ref)) := by rw [List.getElem?_append_left (lt_of_get gn)]; exact gn
    have hLE : qs.length + min 3 qs.length ≤ LIM := le_LIM (by omega)
    rw [List.map_take] at hc gn1
    simp [lstAt_of gn, hc, gn1, hLE]
    have g2 : (S9 ++ [MO.lst ((qs.map D.ref).take 3), MO.lst (qs.map D.ref ++ (qs.map D.ref).take 3)])[S9.length + 1]? = some (.lst (qs.map D.ref ++ (qs.map D.ref).take 3)) := by simp
    have F : Fr [] S9 (S9 ++ [MO.lst ((qs.map D.ref).take 3), MO.lst (qs.map D.ref ++ (qs.map D.ref).take 3)]) := .app
    generalize S9 ++ [MO.lst ((qs.map D.ref).take 3), MO.lst (qs.map D.ref ++ (qs.map D.ref).take 3)] = S10 at g2 F ⊢
    have hL : ∀ x ∈ qs.map D.ref ++ (qs.map D.ref).take 3, ∃ q, x = .ref q ∧ PG vs S9 q := by
      intro x hx
      have : x ∈ qs.map D.ref := (List.mem_append.mp hx).elim id List.mem_of_mem_take
      obtain ⟨q, hq', rfl⟩ := List.mem_map.mp this
      exact ⟨q, rfl, (hq q hq').1⟩
    generalize qs.map D.ref ++ (qs.map D.ref).take 3 = X at g2 hL ⊢
    simp [lstAt_of g2]
    refine for_inv (fun _ δ S => (∃ a8, δ = [some L, some (.ref r), some (.ref w), some (.ref v), a4, a5, a6, some (.ref n), a8]) ∧ Fr [] S10 S) ⟨⟨_, rfl⟩, .refl⟩ ?_ ?_ ?_
    · rintro k δ S _ ⟨_, f⟩
      simp [isLst, lstAt_of (f.get g2 (by simp))]
    · rintro k hk δ S ⟨⟨a8, rfl⟩, f⟩
      refine ⟨_, rfl, ?_⟩
      obtain ⟨q, eq, hg⟩ := hL _ (List.getElem_mem hk)
      rw [eq]
      obtain ⟨a, b, gab, huni⟩ := pg_ok ((hg.fr F).fr f) j9.vl
      simp [lstAt_of gab]
      refine (huni S).mono ?_
      rintro d S2 ⟨f2, hun⟩
      refine (hun S2).mono ?_
      rintro e S4 ⟨rfl, f4⟩
      simp
      exact (f.trans f2).trans f4
    · rintro δ S ⟨⟨a8, rfl⟩, f⟩
      exact ⟨⟨_, rfl⟩, j9.mono (.of j9.dr (F.trans f))⟩
  rintro δ S ⟨⟨a8, rfl⟩, j⟩
  simp
  have hlw := j.len
  have hlv := j.vl
  refine (c_put_is_right j.dr j.gw j.gv (by rintro rfl; simp at hlw) hvne j.ne j.nev (by omega) (by omega) j.ok j.vok).mono ?_
  rintro d S' rfl
  rfl
theorem plain : ∀ ns : List Int, ns.length ≤ 63 → ∃ S', F_law [.lit (ns.map D.int)] [] = .ok (.bl true) S' := fun ns hl => by
  obtain ⟨d, S', e, rfl⟩ := Res.sat_iff.mp (law_sat ns hl)
  exact ⟨S', e⟩
end LW

end

section
set_option linter.all false
set_option Elab.async false
set_option maxRecDepth 100000
set_option Elab.async false
set_option linter.all false
set_option maxRecDepth 100000
set_option maxHeartbeats 4000000
namespace Dl
open PySem PySem.Spec PyProof.Rows L2

def toS (x : Cs) : Str := ⟨x.toArray⟩
theorem toS_append (x y : Cs) : toS x ++ toS y = toS (x ++ y) := by
  show Str.mk _ = _
  simp [toS]
theorem toS_length (x : Cs) : (toS x).length = x.length := by simp [toS, Str.length]
theorem toS_list (x : Cs) : (toS x).cps.toList = x := by simp [toS]
theorem toS_of (z : Str) : toS z.cps.toList = z := by cases z; simp [toS]
theorem toS_inj {x y : Cs} : toS x = toS y ↔ x = y := ⟨fun h => by rw [← toS_list x, h, toS_list], fun h => by rw [h]⟩
theorem LIM_eq : LIM = sizeLine := by rw [sizeLine_eq]; rfl

/-- a list that is never changed -/
def SqK (K : PySem.W.Frag) (H : Hp) (a : Addr) (vs : List V) : Prop := (∃ o, H a = some (.frz o (.lst vs))) ∨ (SqL K (fun _ => none) a vs)
theorem SqK.sql {K : PySem.W.Frag} {H : Hp} {a : Addr} {vs : List V} (h : SqK K H a vs) : SqL K H a vs := by
  rcases h with h | h
  · exact .inl (.inr h)
  · rcases h with (h | ⟨_, h⟩) | h
    · cases h
    · cases h
    · exact .inr h
section
variable (K : PySem.W.Frag) (mg : Str → Option Value) (H : Hp) (ι : List Addr)
mutual
/-- the value v stands for d -/
inductive Rp : V → D → Prop
  | non : Rp .non .non
  | bl (b : Bool) : Rp (.bl b) (.bl b)
  | int (i : Int) : Rp (.int i) (.int i)
  | str (x : Cs) : Rp (.str (toS x)) (.str x)
  | tup {a : Addr} {vs : List V} {xs : List D} : SqT K H a vs → vs.length ≤ sizeLine → Rps vs xs → Rp (.ref a) (.tup xs)
  | ref {n : Nat} {a : Addr} : ι[n]? = some a → Rp (.ref a) (.ref n)
  | fn {x : String} {a : Addr} : mg (Str.ofString x) = some (.ref a) → Rp (.ref a) (.fn x)
  | lit {a : Addr} {vs : List V} {xs : List D} : SqK K H a vs → vs.length ≤ sizeLine → Rps vs xs → Rp (.ref a) (.lit xs)
inductive Rps : List V → List D → Prop
  | nil : Rps [] []
  | cons {v : V} {vs : List V} {d : D} {ds : List D} : Rp v d → Rps vs ds → Rps (v :: vs) (d :: ds)
end
/-- the heap and the names of objects grow -/
structure Grow (H' : Hp) (ι' : List Addr) : Prop where
  pre : ι <+: ι'
  tup : ∀ a vs, SqT K H a vs → SqT K H' a vs
  frz : ∀ a o u, H a = some (.frz o u) → H' a = some (.frz o u)
end
section
variable {K : PySem.W.Frag} {mg : Str → Option Value} {H H' H2 : Hp} {ι ι' ι2 : List Addr}
theorem Grow.refl : Grow K H ι H ι := ⟨List.prefix_rfl, fun _ _ h => h, fun _ _ _ h => h⟩
theorem Grow.trans (a : Grow K H ι H' ι') (b : Grow K H' ι' H2 ι2) : Grow K H ι H2 ι2 := ⟨a.pre.trans b.pre, fun x vs h => b.tup x vs (a.tup x vs h), fun x o u h => b.frz x o u (a.frz x o u h)⟩
theorem pre_get {α : Type} {l l' : List α} (h : l <+: l') {n : Nat} {a : α} (e : l[n]? = some a) : l'[n]? = some a := by
  obtain ⟨t, rfl⟩ := h
  obtain ⟨hn, _⟩ := List.getElem?_eq_some_iff.mp e
  rw [List.getElem?_append_left hn]; exact e
mutual
theorem Rp.mono (g : Grow K H ι H' ι') : ∀ {v : V} {d : D}, Rp K mg H ι v d → Rp K mg H' ι' v d
  | _, .non, h => by cases h; exact .non
  | _, .bl _, h => by cases h; exact .bl _
  | _, .int _, h => by cases h; exact .int _
  | _, .str _, h => by cases h; exact .str _
  | _, .tup _, h => by
    cases h with
    | tup h1 h2 h3 => exact .tup (g.tup _ _ h1) h2 (Rps.mono g h3)
  | _, .ref _, h => by
    cases h with
    | ref h => exact .ref (pre_get g.pre h)
  | _, .fn _, h => by
    cases h with
    | fn h => exact .fn h
  | _, .lit _, h => by
    cases h with
    | lit h1 h2 h3 => exact .lit (h1.elim (fun ⟨o, z⟩ => .inl ⟨o, g.frz _ _ _ z⟩) .inr) h2 (Rps.mono g h3)
theorem Rps.mono (g : Grow K H ι H' ι') : ∀ {vs : List V} {ds : List D}, Rps K mg H ι vs ds → Rps K mg H' ι' vs ds
  | _, [], h => by cases h; exact .nil
  | _, _ :: _, h => by
    cases h with
    | cons h1 h2 => exact .cons (Rp.mono g h1) (Rps.mono g h2)
end
theorem Rps.length : ∀ {vs : List V} {ds : List D}, Rps K mg H ι vs ds → vs.length = ds.length
  | _, [], h => by cases h; rfl
  | _, _ :: _, h => by
    cases h with
    | cons _ h2 => simp [Rps.length h2]
theorem Rps.get : ∀ {vs : List V} {ds : List D} {i : Nat} {d : D}, Rps K mg H ι vs ds → ds[i]? = some d → ∃ v, vs[i]? = some v ∧ Rp K mg H ι v d
  | _, [], _, _, _, e => by simp at e
  | _, _ :: _, 0, _, h, e => by
    cases h with
    | cons h1 h2 => simp at e; subst e; exact ⟨_, rfl, h1⟩
  | _, _ :: _, i + 1, d, h, e => by
    cases h with
    | cons h1 h2 =>
      obtain ⟨v, e1, e2⟩ := Rps.get (i := i) (d := d) h2 (by simpa using e)
      exact ⟨v, by simpa using e1, e2⟩
theorem Rps.append : ∀ {vs ws : List V} {ds es : List D}, Rps K mg H ι vs ds → Rps K mg H ι ws es → Rps K mg H ι (vs ++ ws) (ds ++ es)
  | _, _, [], _, h, q => by cases h; exact q
  | _, _, _ :: _, _, h, q => by
    cases h with
    | cons h1 h2 => exact .cons h1 (Rps.append h2 q)
theorem Rps.drop : ∀ {vs : List V} {ds : List D} (n : Nat), Rps K mg H ι vs ds → Rps K mg H ι (vs.drop n) (ds.drop n)
  | _, _, 0, h => h
  | _, [], _ + 1, h => by cases h; exact .nil
  | _, _ :: _, n + 1, h => by
    cases h with
    | cons h1 h2 => exact Rps.drop n h2
theorem Rps.take : ∀ {vs : List V} {ds : List D} (n : Nat), Rps K mg H ι vs ds → Rps K mg H ι (vs.take n) (ds.take n)
  | _, _, 0, h => .nil
  | _, [], _ + 1, h => by cases h; exact .nil
  | _, _ :: _, n + 1, h => by
    cases h with
    | cons h1 h2 => exact .cons h1 (Rps.take n h2)
theorem Rps.reverse : ∀ {vs : List V} {ds : List D}, Rps K mg H ι vs ds → Rps K mg H ι vs.reverse ds.reverse
  | _, [], h => by cases h; exact .nil
  | _, _ :: _, h => by
    cases h with
    | cons h1 h2 => rw [List.reverse_cons, List.reverse_cons]; exact Rps.append (Rps.reverse h2) (.cons h1 .nil)
theorem Rps.set {v : V} {d : D} (r : Rp K mg H ι v d) : ∀ {vs : List V} {ds : List D} (i : Nat), Rps K mg H ι vs ds → Rps K mg H ι (vs.set i v) (ds.set i d)
  | _, [], _, h => by cases h; exact .nil
  | _, _ :: _, 0, h => by
    cases h with
    | cons h1 h2 => exact .cons r h2
  | _, _ :: _, i + 1, h => by
    cases h with
    | cons h1 h2 => exact .cons h1 (Rps.set r i h2)
theorem Rps.dropLast {vs : List V} {ds : List D} (h : Rps K mg H ι vs ds) : Rps K mg H ι vs.dropLast ds.dropLast := by
  rw [List.dropLast_eq_take, List.dropLast_eq_take, h.length]
  exact h.take _
end

/-! ### the store -/
section
variable (K : PySem.W.Frag) (mg : Str → Option Value) (H : Hp) (ι : List Addr)
def kD : Key → D
  | .inl i => .int i
  | .inr x => .str x.cps.toList
inductive Rkv : List (Key × V) → List (D × D) → Prop
  | nil : Rkv [] []
  | cons {k : Key} {v : V} {vs : List (Key × V)} {d : D} {ds : List (D × D)} : Rp K mg H ι v d → Rkv vs ds → Rkv ((k, v) :: vs) ((kD k, d) :: ds)
inductive Rfs : List (Str × V) → List (String × D) → Prop
  | nil : Rfs [] []
  | cons {k : String} {v : V} {vs : List (Str × V)} {d : D} {ds : List (String × D)} : Rp K mg H ι v d → Rfs vs ds → Rfs ((Str.ofString k, v) :: vs) ((k, d) :: ds)
/-- the object at a stands for o -/
def RO (a : Addr) : MO → Prop
  | .lst xs => ∃ vs, H a = some (.lst vs) ∧ Rps K mg H ι vs xs
  | .dct kvs => ∃ vs, H a = some (.dK vs) ∧ Rkv K mg H ι vs kvs
  | .lck kvs => ∃ o vs, H a = some (.frz o (.dK vs)) ∧ Rkv K mg H ι vs kvs
  | .set _ => False
  | .ins C fs => ∃ c dx vs, mg (Str.ofString C) = some (.ref c) ∧ H a = some (.ins c dx vs) ∧ Rfs K mg H ι vs fs
structure RS (S : Store) : Prop where
  len : ι.length = S.length
  nd : ι.Nodup
  at_ : ∀ (n : Nat) (o : MO) (a : Addr), S[n]? = some o → ι[n]? = some a → RO K mg H ι a o
structure Rel (σ : L2.St) (δ : Env) (S : Store) : Prop where
  len : δ.length = σ.length
  env : ∀ (i : Nat) (d : D), δ[i]? = some (some d) → ∃ v, σ[i]? = some (some v) ∧ Rp K mg H ι v d
  sto : RS K mg H ι S
end
section
variable {K : PySem.W.Frag} {mg : Str → Option Value} {H H' H2 : Hp} {ι ι' ι2 : List Addr} {S : Store}
theorem Rkv.mono (g : Grow K H ι H' ι') : ∀ {vs : List (Key × V)} {ds : List (D × D)}, Rkv K mg H ι vs ds → Rkv K mg H' ι' vs ds
  | _, _, .nil => .nil
  | _, _, .cons h1 h2 => .cons (h1.mono g) (Rkv.mono g h2)
theorem Rfs.mono (g : Grow K H ι H' ι') : ∀ {vs : List (Str × V)} {ds : List (String × D)}, Rfs K mg H ι vs ds → Rfs K mg H' ι' vs ds
  | _, _, .nil => .nil
  | _, _, .cons h1 h2 => .cons (h1.mono g) (Rfs.mono g h2)
theorem RO.some {a : Addr} {o : MO} (h : RO K mg H ι a o) : ∃ u, H a = some u ∧ ∀ xs, u ≠ .tup xs := by
  cases o with
  | lst xs => obtain ⟨vs, e, _⟩ := h; exact ⟨_, e, fun _ z => by cases z⟩
  | dct xs => obtain ⟨vs, e, _⟩ := h; exact ⟨_, e, fun _ z => by cases z⟩
  | lck xs => obtain ⟨o, vs, e, _⟩ := h; exact ⟨_, e, fun _ z => by cases z⟩
  | set xs => exact h.elim
  | ins C fs => obtain ⟨c, dx, vs, _, e, _⟩ := h; exact ⟨_, e, fun _ z => by cases z⟩
theorem RO.keep {a : Addr} {o : MO} (g : Grow K H ι H' ι') (e : H' a = H a) (h : RO K mg H ι a o) : RO K mg H' ι' a o := by
  cases o with
  | lst xs => obtain ⟨vs, q, r⟩ := h; exact ⟨vs, e.trans q, r.mono g⟩
  | dct xs => obtain ⟨vs, q, r⟩ := h; exact ⟨vs, e.trans q, r.mono g⟩
  | lck xs => obtain ⟨o, vs, q, r⟩ := h; exact ⟨o, vs, e.trans q, r.mono g⟩
  | set xs => exact h.elim
  | ins C fs => obtain ⟨c, dx, vs, m, q, r⟩ := h; exact ⟨c, dx, vs, m, e.trans q, r.mono g⟩
theorem RS.addr (r : RS K mg H ι S) {n : Nat} {o : MO} (e : S[n]? = some o) : ∃ a, ι[n]? = some a ∧ RO K mg H ι a o := by
  obtain ⟨hn, _⟩ := List.getElem?_eq_some_iff.mp e
  have hl : n < ι.length := by rw [r.len]; exact hn
  exact ⟨ι[n], List.getElem?_eq_getElem hl, r.at_ n o _ e (List.getElem?_eq_getElem hl)⟩
theorem RS.obj (r : RS K mg H ι S) {n : Nat} {a : Addr} (e : ι[n]? = some a) : ∃ o, S[n]? = some o ∧ RO K mg H ι a o := by
  obtain ⟨hn, _⟩ := List.getElem?_eq_some_iff.mp e
  have hl : n < S.length := by rw [← r.len]; exact hn
  exact ⟨S[n], List.getElem?_eq_getElem hl, r.at_ n _ _ (List.getElem?_eq_getElem hl) e⟩
theorem RS.live (r : RS K mg H ι S) {a : Addr} (h : a ∈ ι) : ∃ u, H a = some u ∧ ∀ xs, u ≠ .tup xs := by
  obtain ⟨n, e⟩ := List.getElem?_of_mem h
  obtain ⟨o, _, q⟩ := r.obj e
  exact q.some
theorem SqT.upd_new {p : Addr} {o : HO} (hp : H p = none) {a : Addr} {vs : List V} (h : SqT K H a vs) : SqT K (upd H p o) a vs := by
  rcases h with (h | ⟨u, h⟩) | h
  · exact .inl (.inl (by rw [upd_ne (ne_of_none h hp)]; exact h))
  · exact .inl (.inr ⟨u, by rw [upd_ne (ne_of_none h hp)]; exact h⟩)
  · exact .inr h
theorem Grow.new {p : Addr} {o : HO} (hp : H p = none) : Grow K H ι (upd H p o) ι := ⟨List.prefix_rfl, fun _ _ h => SqT.upd_new hp h, fun _ _ _ h => by rw [upd_ne (ne_of_none h hp)]; exact h⟩
theorem Grow.alloc {p : Addr} {o : HO} (hp : H p = none) : Grow K H ι (upd H p o) (ι ++ [p]) := ⟨List.prefix_append _ _, fun _ _ h => SqT.upd_new hp h, fun _ _ _ h => by rw [upd_ne (ne_of_none h hp)]; exact h⟩
/-- an object that is not tracked in the store is laid -/
theorem RS.new (r : RS K mg H ι S) {p : Addr} {o : HO} (hp : H p = none) : RS K mg (upd H p o) ι S :=
  ⟨r.len, r.nd, fun n mo a e1 e2 => (r.at_ n mo a e1 e2).keep (Grow.new hp) (upd_ne fun z => by
    obtain ⟨u, hu, _⟩ := (r.at_ n mo a e1 e2).some
    rw [z, hp] at hu; cases hu)⟩
theorem RS.alloc (r : RS K mg H ι S) {p : Addr} {o : HO} {mo : MO} (hp : H p = none) (h : RO K mg (upd H p o) (ι ++ [p]) p mo) : RS K mg (upd H p o) (ι ++ [p]) (S ++ [mo]) := by
  have np : p ∉ ι := fun z => by
    obtain ⟨u, hu, _⟩ := r.live z
    rw [hp] at hu; cases hu
  refine ⟨by simp [r.len], ?_, fun n o' a e1 e2 => ?_⟩
  · rw [List.nodup_append]
    exact ⟨r.nd, by simp, fun x hx y hy => by simp at hy; subst hy; exact fun z => np (z ▸ hx)⟩
  · by_cases hn : n < S.length
    · rw [List.getElem?_append_left hn] at e1
      rw [List.getElem?_append_left (by rw [r.len]; exact hn)] at e2
      refine (r.at_ n o' a e1 e2).keep (Grow.alloc hp) (upd_ne fun z => ?_)
      exact np (z ▸ List.mem_of_getElem? e2)
    · have en : n = S.length := by
        obtain ⟨h1, _⟩ := List.getElem?_eq_some_iff.mp e1
        simp at h1; omega
      subst en
      simp at e1
      rw [← r.len] at e2
      simp at e2
      subst e1; subst e2
      exact h
theorem Grow.write {a : Addr} {o u : HO} (e : H a = some u) (nt : ∀ xs, u ≠ .tup xs) (nf : ∀ ob w, u ≠ .frz ob w) : Grow K H ι (upd H a o) ι := by
  refine ⟨List.prefix_rfl, fun b vs h => ?_, fun b ob w h => by rw [upd_ne (ne_of h e fun z => nf _ _ z.symm)]; exact h⟩
  rcases h with (h | ⟨w, h⟩) | h
  · exact .inl (.inl (by rw [upd_ne (ne_of h e fun z => nt _ z.symm)]; exact h))
  · exact .inl (.inr ⟨w, by rw [upd_ne (ne_of h e fun z => nf _ _ z.symm)]; exact h⟩)
  · exact .inr h
theorem RS.write (r : RS K mg H ι S) {n : Nat} {a : Addr} {o : HO} {mo : MO} (hn : ι[n]? = some a) (g : Grow K H ι (upd H a o) ι) (h : RO K mg (upd H a o) ι a mo) : RS K mg (upd H a o) ι (S.set n mo) := by
  refine ⟨by simp [r.len], r.nd, fun m o' b e1 e2 => ?_⟩
  by_cases hm : m = n
  · subst hm
    have hl : m < S.length := by
      obtain ⟨h1, _⟩ := List.getElem?_eq_some_iff.mp hn
      rw [← r.len]; exact h1
    rw [List.getElem?_set_self hl] at e1
    cases e1
    rw [hn] at e2; cases e2
    exact h
  · rw [List.getElem?_set_ne (Ne.symm hm)] at e1
    refine (r.at_ m o' b e1 e2).keep g (upd_ne fun z => ?_)
    subst z
    obtain ⟨h1, q1⟩ := List.getElem?_eq_some_iff.mp hn
    obtain ⟨h2, q2⟩ := List.getElem?_eq_some_iff.mp e2
    exact hm ((List.getElem_inj r.nd).mp (q2.trans q1.symm))
theorem Rel.mono {σ : L2.St} {δ : Env} {S' : Store} (r : Rel K mg H ι σ δ S) (g : Grow K H ι H' ι') (h : RS K mg H' ι' S') : Rel K mg H' ι' σ δ S' :=
  ⟨r.len, fun i d e => let ⟨v, q, p⟩ := r.env i d e; ⟨v, q, p.mono g⟩, h⟩
theorem Rel.set {σ : L2.St} {δ : Env} (r : Rel K mg H ι σ δ S) {i : Nat} {v : V} {d : D} (q : Rp K mg H ι v d) : Rel K mg H ι (σ.set i (some v)) (δ.set i (some d)) S := by
  refine ⟨by simp [r.len], fun j d' e => ?_, r.sto⟩
  by_cases h : j = i
  · subst h
    have hj : j < δ.length := by
      obtain ⟨h1, _⟩ := List.getElem?_eq_some_iff.mp e
      simpa using h1
    rw [List.getElem?_set_self hj] at e
    cases e
    exact ⟨v, by rw [List.getElem?_set_self (by rw [← r.len]; exact hj)], q⟩
  · rw [List.getElem?_set_ne (Ne.symm h)] at e
    obtain ⟨w, e1, e2⟩ := r.env j d' e
    exact ⟨w, by rw [List.getElem?_set_ne (Ne.symm h)]; exact e1, e2⟩
end

/-! ### the judgements -/
/-- an exception e lies so: its class, its own dict -/
def RX (K : PySem.W.Frag) (mg : Str → Option Value) (H : Hp) (ι : List Addr) (e : Exc) (cls : Value) (dx : Option Addr) : Prop :=
  ∃ c, cls = .ref c ∧ mg (Str.ofString e.cls) = some (.ref c) ∧ match dx with
    | none => e.fs = []
    | some d => ∃ fs, H d = some (.xd fs) ∧ Rfs K mg H ι fs e.fs
def PostE (K : PySem.W.Frag) (mg : Str → Option Value) (W : WX) (σ : L2.St) (H : Hp) (ι : List Addr) (r : Res D) (Q : VK) : Prop := match r with
  | .ok d S' => ∀ v H' ι', Grow K H ι H' ι' → RS K mg H' ι' S' → Rp K mg H' ι' v d → Q v H'
  | .exc e S' => ∀ cls dx H' ι', Grow K H ι H' ι' → RS K mg H' ι' S' → RX K mg H' ι' e cls dx → W cls dx σ H'
  | .stuck => False
def PostA (K : PySem.W.Frag) (mg : Str → Option Value) (W : WX) (σ : L2.St) (H : Hp) (ι : List Addr) (r : Res (List D)) (Q : List V → Hp → Prop) : Prop := match r with
  | .ok d S' => ∀ v H' ι', Grow K H ι H' ι' → RS K mg H' ι' S' → Rps K mg H' ι' v d → Q v H'
  | .exc e S' => ∀ cls dx H' ι', Grow K H ι H' ι' → RS K mg H' ι' S' → RX K mg H' ι' e cls dx → W cls dx σ H'
  | .stuck => False
def PostT (K : PySem.W.Frag) (mg : Str → Option Value) (W : WX) (σ : L2.St) (H : Hp) (ι : List Addr) (r : Res Bool) (Q : Bool → Hp → Prop) : Prop := match r with
  | .ok b S' => ∀ H' ι', Grow K H ι H' ι' → RS K mg H' ι' S' → Q b H'
  | .exc e S' => ∀ cls dx H' ι', Grow K H ι H' ι' → RS K mg H' ι' S' → RX K mg H' ι' e cls dx → W cls dx σ H'
  | .stuck => False
def PostS (K : PySem.W.Frag) (mg : Str → Option Value) (W : WX) (D : Ends) (H : Hp) (ι : List Addr) (r : Res Flow) : Prop := match r with
  | .ok (.nx δ') S' => ∀ σ' H' ι', Grow K H ι H' ι' → Rel K mg H' ι' σ' δ' S' → D.nx σ' H'
  | .ok (.bk δ') S' => ∀ σ' H' ι', Grow K H ι H' ι' → Rel K mg H' ι' σ' δ' S' → D.bk σ' H'
  | .ok (.ct δ') S' => ∀ σ' H' ι', Grow K H ι H' ι' → Rel K mg H' ι' σ' δ' S' → D.ct σ' H'
  | .ok (.rt d) S' => ∀ v H' ι', Grow K H ι H' ι' → RS K mg H' ι' S' → Rp K mg H' ι' v d → D.rt v H'
  | .ok (.ex e δ') S' => ∀ cls dx σ' H' ι', Grow K H ι H' ι' → Rel K mg H' ι' σ' δ' S' → RX K mg H' ι' e cls dx → W cls dx σ' H'
  | _ => False
def cE (K : PySem.W.Frag) (mg : Str → Option Value) (W : WX) (m : EM) : TE := fun σ H Q => ∃ δ S ι, Rel K mg H ι σ δ S ∧ PostE K mg W σ H ι (m δ S) Q
def cA (K : PySem.W.Frag) (mg : Str → Option Value) (W : WX) (m : AM) : TA := fun σ H Q => ∃ δ S ι, Rel K mg H ι σ δ S ∧ PostA K mg W σ H ι (m δ S) Q
def cT (K : PySem.W.Frag) (mg : Str → Option Value) (W : WX) (m : TM) : TT := fun σ H Q => ∃ δ S ι, Rel K mg H ι σ δ S ∧ PostT K mg W σ H ι (m δ S) Q
def cS (K : PySem.W.Frag) (mg : Str → Option Value) (W : WX) (m : SM) : TS := fun D σ H => ∃ δ S ι, Rel K mg H ι σ δ S ∧ PostS K mg W D H ι (m δ S)
abbrev SE (X : Cx) (W : WX) (e : Expr) (m : EM) : Prop := PE X e (cE X.K X.mg W m)
abbrev SA (X : Cx) (W : WX) (e : List Expr) (m : List EM) : Prop := PA X e (cA X.K X.mg W (argsM m))
abbrev ST (X : Cx) (W : WX) (e : Expr) (m : TM) : Prop := PT X e (cT X.K X.mg W m)
abbrev SW (X : Cx) (W : WX) (e : Expr) (m : TM) : Prop := PW X e (cT X.K X.mg W m)
abbrev SS (X : Cx) (W : WX) (s : Stmt) (m : SM) : Prop := PS X s (cS X.K X.mg W m)
abbrev SSs (X : Cx) (W : WX) (s : List Stmt) (m : SM) : Prop := PSs X s (cS X.K X.mg W m)
section
variable {X : Cx}
theorem pe_imp {e : Expr} {t t' : TE} (h : PE X e t) (i : ∀ σ H Q, t' σ H Q → t σ H Q) : PE X e t' := ⟨fun pins s σ H Q I hw => h.run pins s σ H Q I (i _ _ _ hw)⟩
theorem pa_imp {e : List Expr} {t t' : TA} (h : PA X e t) (i : ∀ σ H Q, t' σ H Q → t σ H Q) : PA X e t' := ⟨fun pos pins s σ H Q I hw => h.run pos pins s σ H Q I (i _ _ _ hw)⟩
theorem pt_imp {e : Expr} {t t' : TT} (h : PT X e t) (i : ∀ σ H Q, t' σ H Q → t σ H Q) : PT X e t' := ⟨fun pins s σ H Q I hw => h.run pins s σ H Q I (i _ _ _ hw)⟩
theorem pw_imp {e : Expr} {t t' : TT} (h : PW X e t) (i : ∀ σ H Q, t' σ H Q → t σ H Q) : PW X e t' := ⟨fun wh pins s σ H Q I hw => h.run wh pins s σ H Q I (i _ _ _ hw)⟩
theorem ps_imp {e : Stmt} {t t' : TS} (h : PS X e t) (i : ∀ D σ H, t' D σ H → t D σ H) : PS X e t' := ⟨fun pins s σ H D I hw => h.run pins s σ H D I (i _ _ _ hw)⟩
theorem pss_imp {e : List Stmt} {t t' : TS} (h : PSs X e t) (i : ∀ D σ H, t' D σ H → t D σ H) : PSs X e t' := ⟨fun pins s σ H D I hw => h.run pins s σ H D I (i _ _ _ hw)⟩
end
section
variable {K : PySem.W.Frag} {mg : Str → Option Value} {W : WX} {σ : L2.St} {H H1 : Hp} {ι ι1 : List Addr}
theorem PostE.imp {r : Res D} {Q Q' : VK} (h : PostE K mg W σ H ι r Q) (i : ∀ v H', Q v H' → Q' v H') : PostE K mg W σ H ι r Q' := by
  cases r with
  | ok d S => exact fun v H' ι' a b c => i _ _ (h v H' ι' a b c)
  | exc e S => exact h
  | stuck => exact h
theorem PostE.back {r : Res D} {Q : VK} (g : Grow K H ι H1 ι1) (h : PostE K mg W σ H ι r Q) : PostE K mg W σ H1 ι1 r Q := by
  cases r with
  | ok d S => exact fun v H' ι' a b c => h v H' ι' (g.trans a) b c
  | exc e S => exact fun c dx H' ι' a b d => h c dx H' ι' (g.trans a) b d
  | stuck => exact h
theorem PostA.back {r : Res (List D)} {Q : List V → Hp → Prop} (g : Grow K H ι H1 ι1) (h : PostA K mg W σ H ι r Q) : PostA K mg W σ H1 ι1 r Q := by
  cases r with
  | ok d S => exact fun v H' ι' a b c => h v H' ι' (g.trans a) b c
  | exc e S => exact fun c dx H' ι' a b d => h c dx H' ι' (g.trans a) b d
  | stuck => exact h
theorem PostT.back {r : Res Bool} {Q : Bool → Hp → Prop} (g : Grow K H ι H1 ι1) (h : PostT K mg W σ H ι r Q) : PostT K mg W σ H1 ι1 r Q := by
  cases r with
  | ok d S => exact fun H' ι' a b => h H' ι' (g.trans a) b
  | exc e S => exact fun c dx H' ι' a b d => h c dx H' ι' (g.trans a) b d
  | stuck => exact h
theorem PostS.back {r : Res Flow} {D : Ends} (g : Grow K H ι H1 ι1) (h : PostS K mg W D H ι r) : PostS K mg W D H1 ι1 r := by
  cases r with
  | ok f S =>
    cases f with
    | nx δ => exact fun σ' H' ι' a b => h σ' H' ι' (g.trans a) b
    | bk δ => exact fun σ' H' ι' a b => h σ' H' ι' (g.trans a) b
    | ct δ => exact fun σ' H' ι' a b => h σ' H' ι' (g.trans a) b
    | rt d => exact fun v H' ι' a b c => h v H' ι' (g.trans a) b c
    | ex e δ => exact fun c dx σ' H' ι' a b d => h c dx σ' H' ι' (g.trans a) b d
  | exc e S => exact h
  | stuck => exact h
/-- m, then f -/
theorem PostE.seq {r : Res D} {f : D → Store → Res D} {Q : VK} (h : PostE K mg W σ H ι (r.bind f) Q)
    {Q' : VK} (q : ∀ v H' ι' d S', r = .ok d S' → Grow K H ι H' ι' → RS K mg H' ι' S' → Rp K mg H' ι' v d → PostE K mg W σ H' ι' (f d S') Q → Q' v H') : PostE K mg W σ H ι r Q' := by
  cases r with
  | ok d S => exact fun v H' ι' a b c => q v H' ι' d S rfl a b c (h.back a)
  | exc e S => exact h
  | stuck => exact h
theorem PostA.seq {r : Res (List D)} {f : List D → Store → Res D} {Q : VK} (h : PostE K mg W σ H ι (r.bind f) Q)
    {Q' : List V → Hp → Prop} (q : ∀ v H' ι' d S', r = .ok d S' → Grow K H ι H' ι' → RS K mg H' ι' S' → Rps K mg H' ι' v d → PostE K mg W σ H' ι' (f d S') Q → Q' v H') : PostA K mg W σ H ι r Q' := by
  cases r with
  | ok d S => exact fun v H' ι' a b c => q v H' ι' d S rfl a b c (h.back a)
  | exc e S => exact h
  | stuck => exact h
end
end Dl

end

section
set_option linter.all false
set_option Elab.async false
set_option maxRecDepth 100000
set_option Elab.async false
set_option linter.all false
set_option maxRecDepth 100000
set_option maxHeartbeats 4000000
namespace Dl
open PySem PySem.Spec PyProof.Rows L2

section
variable {X : Cx} {W : WX} {e a b c : Expr} {es : List Expr} {m m' : EM} {ms : List EM} {pos : Pos}

/-! ### names, constants, arguments -/
theorem se_var (i : Nat) {x : Str} (hN : X.N[i]? = some x := by rfl) (hv : Vis X.env.scope x := by first | exact Or.inl rfl | exact Or.inr (Or.inl rfl) | exact Or.inr (Or.inr rfl)) (hd : (x == ("__debug__" : Str)) = false := by decide)
    (hcd : (x == ("__classdict__" : Str)) = false := by decide) : SE X W (.Name x pos) (varM i) := by
  refine pe_imp (pe_var hN hv hd hcd) fun σ H Q h => ?_
  obtain ⟨δ, S, ι, r, h⟩ := h
  unfold varM at h
  split at h
  · rename_i d e
    obtain ⟨v, e1, e2⟩ := r.env i d e
    exact ⟨v, e1, h v H ι .refl r.sto e2⟩
  · exact h.elim
theorem se_con {e : Expr} {v : V} {d : D} (h : PE X e (tC v)) (q : ∀ H ι, Rp X.K X.mg H ι v d) : SE X W e (conM d) := by
  refine pe_imp h fun σ H Q h => ?_
  obtain ⟨δ, S, ι, r, h⟩ := h
  exact h v H ι .refl r.sto (q H ι)
theorem se_int {i : Int} {j pos} : SE X W (.Constant (.int i) j pos) (conM (.int i)) := se_con pe_int fun _ _ => .int i
theorem se_bl {i : Bool} {j pos} : SE X W (.Constant (.bool i) j pos) (conM (.bl i)) := se_con pe_bl fun _ _ => .bl i
theorem se_non {j pos} : SE X W (.Constant .none j pos) (conM .non) := se_con pe_non fun _ _ => .non
theorem se_str {x : Str} (c : Cs) {j pos} (h : x = toS c := by decide +kernel) : SE X W (.Constant (.str x) j pos) (conM (.str c)) := by
  subst h
  exact se_con pe_str fun _ _ => .str c
/-- a def of the module as a value -/
theorem se_fn {x : Str} {f : Addr} (y : String) (hg : Gl X x) (hx : x = Str.ofString y) (hm : X.mg x = some (.ref f)) (hd : (x == ("__debug__" : Str)) = false := by decide) : SE X W (.Name x pos) (conM (.fn y)) := by
  subst hx
  exact se_con (pe_glob (v := .ref f) hg hm rfl hd) fun _ _ => .fn hm
theorem sa_nil : SA X W [] [] := by
  refine pa_imp pa_nil fun σ H Q h => ?_
  obtain ⟨δ, S, ι, r, h⟩ := h
  exact h [] H ι .refl r.sto .nil
theorem sa_cons (h1 : SE X W e m) (h2 : SA X W es ms) (hs : starEach (e :: es) X.env = (false, eval e X.env) :: starEach es X.env := by rfl) : SA X W (e :: es) (m :: ms) := by
  refine pa_imp (pa_cons h1 h2 hs) fun σ H Q h => ?_
  obtain ⟨δ, S, ι, r, h⟩ := h
  refine ⟨δ, S, ι, r, ?_⟩
  have h : PostA X.K X.mg W σ H ι ((m δ S).bind fun d S1 => (argsM ms δ S1).bind fun ds S2 => .ok (d :: ds) S2) Q := h
  cases e1 : m δ S with
  | ok d S1 =>
    rw [e1] at h
    intro v H1 ι1 g1 r1 p1
    refine ⟨δ, S1, ι1, r.mono g1 r1, ?_⟩
    cases e2 : argsM ms δ S1 with
    | ok ds S2 =>
      simp only [Res.bind_ok, e2] at h
      intro vs H2 ι2 g2 r2 p2
      exact h (v :: vs) H2 ι2 (g1.trans g2) r2 (.cons (p1.mono g2) p2)
    | exc x S2 =>
      simp only [Res.bind_ok, e2] at h
      exact fun c dx H' ι' g q z => h c dx H' ι' (g1.trans g) q z
    | stuck =>
      simp only [Res.bind_ok, e2] at h
      exact h
  | exc x S1 => rw [e1] at h; exact h
  | stuck => rw [e1] at h; exact h

/-! ### what is done with values -/
/-- the operation r on values does what p does on data -/
structure SimN (K : PySem.W.Frag) (mg : Str → Option Value) (r : List V → Hp → VK → Prop) (p : FM) : Prop where
  run : ∀ (xs : List V) (ds : List D) (H : Hp) (S : Store) (ι : List Addr) (d : D) (S' : Store) (Q : VK), RS K mg H ι S → Rps K mg H ι xs ds → p ds S = .ok d S' →
    (∀ v H' ι', Grow K H ι H' ι' → RS K mg H' ι' S' → Rp K mg H' ι' v d → Q v H') → r xs H Q
  nox : ∀ ds S e S', p ds S ≠ .exc e S'
/-- behind the arguments -/
theorem callN {K : PySem.W.Frag} {mg : Str → Option Value} {σ : L2.St} {H : Hp} {Q : VK} {r : List V → Hp → VK → Prop} {p : FM} (s : SimN K mg r p) (h : cE K mg W (callM p ms) σ H Q) : tCB r (cA K mg W (argsM ms)) σ H Q := by
  obtain ⟨δ, S, ι, rl, h⟩ := h
  refine ⟨δ, S, ι, rl, ?_⟩
  have h : PostE K mg W σ H ι ((argsM ms δ S).bind p) Q := h
  refine PostA.seq h fun v H' ι' ds S1 e g r1 q hp => ?_
  cases e2 : p ds S1 with
  | ok d S' => rw [e2] at hp; exact s.run v ds H' S1 ι' d S' Q r1 q e2 hp
  | exc x S' => exact (s.nox _ _ _ _ e2).elim
  | stuck => rw [e2] at hp; exact hp.elim
/-- of two -/
structure Sim2 (K : PySem.W.Frag) (mg : Str → Option Value) (r : R2) (p : FM) : Prop where
  run : ∀ (x y : V) (dx dy : D) (H : Hp) (S : Store) (ι : List Addr) (d : D) (S' : Store) (Q : VK), RS K mg H ι S → Rp K mg H ι x dx → Rp K mg H ι y dy → p [dx, dy] S = .ok d S' →
    (∀ v H' ι', Grow K H ι H' ι' → RS K mg H' ι' S' → Rp K mg H' ι' v d → Q v H') → r x y H Q
  nox : ∀ ds S e S', p ds S ≠ .exc e S'
theorem bind_inv {α β : Type} {r : Res α} {f : α → Store → Res β} {b : β} {S : Store} (h : r.bind f = .ok b S) : ∃ a S1, r = .ok a S1 ∧ f a S1 = .ok b S := by
  cases r with
  | ok a S1 => exact ⟨a, S1, rfl, h⟩
  | exc e S1 => cases h
  | stuck => cases h
theorem opN {K : PySem.W.Frag} {mg : Str → Option Value} {σ : L2.St} {H : Hp} {Q : VK} {r : R2} {p : FM} (s : Sim2 K mg r p) (h : cE K mg W (callM p [m, m']) σ H Q) : tOp r (cE K mg W m) (cE K mg W m') σ H Q := by
  obtain ⟨δ, S, ι, rl, h⟩ := h
  refine ⟨δ, S, ι, rl, ?_⟩
  have h : PostE K mg W σ H ι (((m δ S).bind fun d S1 => (argsM [m'] δ S1).bind fun ds S2 => .ok (d :: ds) S2).bind p) Q := h
  cases e1 : m δ S with
  | ok d S1 =>
    rw [e1] at h
    intro v H1 ι1 g1 r1 p1
    refine ⟨δ, S1, ι1, rl.mono g1 r1, ?_⟩
    have h : PostE K mg W σ H ι ((((m' δ S1).bind fun d S2 => .ok [d] S2).bind fun ds S2 => .ok (d :: ds) S2).bind p) Q := h
    cases e2 : m' δ S1 with
    | ok d' S2 =>
      rw [e2] at h
      have h : PostE K mg W σ H ι (p [d, d'] S2) Q := h
      intro u H2 ι2 g2 r2 p2
      cases e3 : p [d, d'] S2 with
      | ok z S3 =>
        rw [e3] at h
        exact s.run v u d d' H2 S2 ι2 z S3 Q r2 (p1.mono g2) p2 e3 fun w H3 ι3 g3 r3 p3 => h w H3 ι3 ((g1.trans g2).trans g3) r3 p3
      | exc x S3 => exact (s.nox _ _ _ _ e3).elim
      | stuck => rw [e3] at h; exact h.elim
    | exc x S2 =>
      rw [e2] at h
      exact fun c dx H' ι' g q z => h c dx H' ι' (g1.trans g) q z
    | stuck => rw [e2] at h; exact h
  | exc x S1 => rw [e1] at h; exact h
  | stuck => rw [e1] at h; exact h
theorem se_op {op : Operator} {r : R2} {p : FM} (ho : OpR X (binaryOp op) r) (s : Sim2 X.K X.mg r p) (ha : SE X W a m) (hb : SE X W b m') : SE X W (.BinOp a op b pos) (callM p [m, m']) :=
  pe_imp (pe_op ho ha hb) fun _ _ _ h => opN s h
theorem se_cmp {op : CmpOp} {r : R2} {p : FM} (ho : OpR X (compareOp op) r) (s : Sim2 X.K X.mg r p) (ha : SE X W a m) (hb : SE X W b m') (hm : behindInMarks op b = false) : SE X W (.Compare a [op] [b] pos) (callM p [m, m']) :=
  pe_imp (pe_cmpR ho ha hb hm) fun _ _ _ h => opN s h
theorem tbT {K : PySem.W.Frag} {mg : Str → Option Value} {σ : L2.St} {H : Hp} {Q : Bool → Hp → Prop} {t : TE} (i : ∀ {Q}, cE K mg W m σ H Q → t σ H Q) (h : cT K mg W (tbM m) σ H Q) : tTest t σ H Q := by
  obtain ⟨δ, S, ι, rl, h⟩ := h
  refine i ⟨δ, S, ι, rl, ?_⟩
  have h : PostT K mg W σ H ι ((m δ S).bind fun d S1 => match d with | .bl b => .ok b S1 | _ => .stuck) Q := h
  cases e1 : m δ S with
  | ok d S1 =>
    rw [e1] at h
    intro v H1 ι1 g1 r1 p1
    cases d with
    | bl b => cases p1; exact ⟨b, rfl, h H1 ι1 g1 r1⟩
    | _ => exact h.elim
  | exc x S1 => rw [e1] at h; exact h
  | stuck => rw [e1] at h; exact h
theorem st_cmp {op : CmpOp} {r : R2} {p : FM} (ho : OpR X (compareOp op) r) (s : Sim2 X.K X.mg r p) (ha : SE X W a m) (hb : SE X W b m') (hm : behindInMarks op b = false) : ST X W (.Compare a [op] [b] pos) (tbM (callM p [m, m'])) :=
  pt_imp (pt_cmpR ho ha hb hm) fun _ _ _ h => tbT (fun h => opN s h) h
/-- an expression whose value is a bool, as a test -/
theorem st_val (ha : SE X W e m) (he : ∀ whole, isTrue e X.env whole = (do let v ← whole; standAt e.pos; holding [v] (truthy v)) := by intro _; rfl) : ST X W e (tbM m) :=
  pt_imp (pt_val ha he) fun _ _ _ h => tbT (fun h => h) h

/-! ### and, or, not -/
variable {tA tB : TM} {rest : List Expr}
theorem PostT.seq {K : PySem.W.Frag} {mg : Str → Option Value} {σ : L2.St} {H : Hp} {ι : List Addr} {r : Res Bool} {f : Bool → Store → Res Bool} {Q : Bool → Hp → Prop} (h : PostT K mg W σ H ι (r.bind f) Q)
    {Q' : Bool → Hp → Prop} (q : ∀ H' ι' d S', r = .ok d S' → Grow K H ι H' ι' → RS K mg H' ι' S' → PostT K mg W σ H' ι' (f d S') Q → Q' d H') : PostT K mg W σ H ι r Q' := by
  cases r with
  | ok d S => exact fun H' ι' a b => q H' ι' d S rfl a b (h.back a)
  | exc e S => exact h
  | stuck => exact h
theorem PostT.seqE {K : PySem.W.Frag} {mg : Str → Option Value} {σ : L2.St} {H : Hp} {ι : List Addr} {r : Res Bool} {f : Bool → Store → Res D} {Q : VK} (h : PostE K mg W σ H ι (r.bind f) Q)
    {Q' : Bool → Hp → Prop} (q : ∀ H' ι' d S', r = .ok d S' → Grow K H ι H' ι' → RS K mg H' ι' S' → PostE K mg W σ H' ι' (f d S') Q → Q' d H') : PostT K mg W σ H ι r Q' := by
  cases r with
  | ok d S => exact fun H' ι' a b => q H' ι' d S rfl a b (h.back a)
  | exc e S => exact h
  | stuck => exact h
theorem sw_and1 (ha : ST X W a tA) : SW X W (.BoolOp .And [a] pos) tA := pw_and1 ha
theorem sw_or1 (ha : ST X W a tA) : SW X W (.BoolOp .Or [a] pos) tA := pw_or1 ha
theorem sw_and (ha : ST X W a tA) (hb : SW X W (.BoolOp .And (b :: rest) pos) tB) : SW X W (.BoolOp .And (a :: b :: rest) pos) (andT tA tB) := by
  refine pw_imp (pw_and ha hb) fun σ H Q h => ?_
  obtain ⟨δ, S, ι, r, h⟩ := h
  refine ⟨δ, S, ι, r, PostT.seq h fun H' ι' d S' _ g r1 h1 => ?_⟩
  cases d with
  | true => exact iteT ⟨δ, S', ι', r.mono g r1, h1⟩
  | false => exact iteF (h1 H' ι' .refl r1)
theorem sw_or (ha : ST X W a tA) (hb : SW X W (.BoolOp .Or (b :: rest) pos) tB) : SW X W (.BoolOp .Or (a :: b :: rest) pos) (orT tA tB) := by
  refine pw_imp (pw_or ha hb) fun σ H Q h => ?_
  obtain ⟨δ, S, ι, r, h⟩ := h
  refine ⟨δ, S, ι, r, PostT.seq h fun H' ι' d S' _ g r1 h1 => ?_⟩
  cases d with
  | true => exact iteT (h1 H' ι' .refl r1)
  | false => exact iteF ⟨δ, S', ι', r.mono g r1, h1⟩
theorem st_w (h : SW X W e tA) : ST X W e tA := h.pt
theorem st_not (ha : ST X W a tA) : ST X W (.UnaryOp .Not a pos) (notT tA) := by
  refine pt_imp (pt_not ha) fun σ H Q h => ?_
  obtain ⟨δ, S, ι, r, h⟩ := h
  exact ⟨δ, S, ι, r, PostT.seq h fun H' ι' d S' _ g r1 h1 => h1 H' ι' .refl r1⟩
theorem se_one {op} (h : SE X W a m) : SE X W (.BoolOp op [a] pos) m := pe_one h
theorem se_and (ha : SE X W a m) (hb : SE X W (.BoolOp .And (b :: rest) pos) m') : SE X W (.BoolOp .And (a :: b :: rest) pos) (andV m m') := by
  refine pe_imp (pe_and ha hb) fun σ H Q h => ?_
  obtain ⟨δ, S, ι, r, h⟩ := h
  refine ⟨δ, S, ι, r, PostE.seq h fun v H' ι' d S' _ g r1 p1 h1 => ?_⟩
  cases d with
  | bl k =>
    cases p1
    refine ⟨k, rfl, ?_⟩
    cases k with
    | true => exact iteT ⟨δ, S', ι', r.mono g r1, h1⟩
    | false => exact iteF (h1 _ H' ι' .refl r1 (.bl false))
  | _ => exact h1.elim
theorem se_or (ha : SE X W a m) (hb : SE X W (.BoolOp .Or (b :: rest) pos) m') : SE X W (.BoolOp .Or (a :: b :: rest) pos) (orV m m') := by
  refine pe_imp (pe_or ha hb) fun σ H Q h => ?_
  obtain ⟨δ, S, ι, r, h⟩ := h
  refine ⟨δ, S, ι, r, PostE.seq h fun v H' ι' d S' _ g r1 p1 h1 => ?_⟩
  cases d with
  | bl k =>
    cases p1
    refine ⟨k, rfl, ?_⟩
    cases k with
    | false => exact iteF ⟨δ, S', ι', r.mono g r1, h1⟩
    | true => exact iteT (h1 _ H' ι' .refl r1 (.bl true))
  | _ => exact h1.elim
theorem se_not (ha : SE X W a m) : SE X W (.UnaryOp .Not a pos) (notV m) := by
  refine pe_imp (pe_not ha) fun σ H Q h => ?_
  obtain ⟨δ, S, ι, r, h⟩ := h
  refine ⟨δ, S, ι, r, PostE.seq h fun v H' ι' d S' _ g r1 p1 h1 => ?_⟩
  cases d with
  | bl k => cases p1; exact ⟨k, rfl, h1 _ H' ι' .refl r1 (.bl _)⟩
  | _ => exact h1.elim
theorem se_ifExp {c : Expr} (hc : ST X W c tA) (ha : SE X W a m) (hb : SE X W b m') : SE X W (.IfExp c a b pos) (ifM tA m m') := by
  refine pe_imp (pe_ifExp hc ha hb) fun σ H Q h => ?_
  obtain ⟨δ, S, ι, r, h⟩ := h
  refine ⟨δ, S, ι, r, PostT.seqE h fun H' ι' d S' _ g r1 h1 => ?_⟩
  cases d with
  | true => exact iteT ⟨δ, S', ι', r.mono g r1, h1⟩
  | false => exact iteF ⟨δ, S', ι', r.mono g r1, h1⟩
end
end Dl

end

section
set_option linter.all false
set_option Elab.async false
set_option maxRecDepth 100000
set_option Elab.async false
set_option linter.all false
set_option maxRecDepth 100000
set_option maxHeartbeats 4000000
namespace Dl
open PySem PySem.Spec PyProof.Rows L2

section
variable {K : PySem.W.Frag} {mg : Str → Option Value} {H H' : Hp} {ι ι' : List Addr} {S : Store}
/-! ### reading the store -/
theorem RS.lst (r : RS K mg H ι S) {n : Nat} {a : Addr} {xs : List D} (hn : ι[n]? = some a) (e : S[n]? = some (.lst xs)) : ∃ vs, H a = some (.lst vs) ∧ Rps K mg H ι vs xs := r.at_ n _ a e hn
theorem RS.lstAt (r : RS K mg H ι S) {n : Nat} {a : Addr} {xs : List D} (hn : ι[n]? = some a) (e : lstAt S n = some xs) : ∃ vs, SqL K H a vs ∧ Rps K mg H ι vs xs := by
  unfold Dl.lstAt at e
  split at e
  · rename_i ys e1; cases e
    obtain ⟨vs, h1, h2⟩ := r.at_ n _ a e1 hn
    exact ⟨vs, .inl (.inl h1), h2⟩
  · cases e
/-- a tracked list written -/
theorem RS.put (r : RS K mg H ι S) {n : Nat} {a : Addr} {vs ws : List V} {ys : List D} (hn : ι[n]? = some a) (h : H a = some (.lst vs)) (q : Rps K mg H ι ws ys) :
    Grow K H ι (upd H a (.lst ws)) ι ∧ RS K mg (upd H a (.lst ws)) ι (S.set n (.lst ys)) := by
  have g : Grow K H ι (upd H a (.lst ws)) ι := Grow.write h (fun _ z => by cases z) (fun _ _ z => by cases z)
  exact ⟨g, r.write hn g ⟨ws, upd_same, q.mono g⟩⟩
/-- a new list -/
theorem RS.newL (r : RS K mg H ι S) {p : Addr} {ws : List V} {ys : List D} (hp : H p = none) (q : Rps K mg H ι ws ys) :
    Grow K H ι (upd H p (.lst ws)) (ι ++ [p]) ∧ RS K mg (upd H p (.lst ws)) (ι ++ [p]) (S ++ [.lst ys]) ∧ Rp K mg (upd H p (.lst ws)) (ι ++ [p]) (.ref p) (.ref S.length) := by
  have g : Grow K H ι (upd H p (.lst ws)) (ι ++ [p]) := Grow.alloc hp
  refine ⟨g, r.alloc hp ⟨ws, upd_same, q.mono g⟩, .ref ?_⟩
  rw [← r.len]; simp
/-- a new tuple -/
theorem RS.mkT (r : RS K mg H ι S) {p : Addr} {ws : List V} {ys : List D} (hp : H p = none) (hl : ws.length ≤ sizeLine) (q : Rps K mg H ι ws ys) :
    Grow K H ι (upd H p (.tup ws)) ι ∧ RS K mg (upd H p (.tup ws)) ι S ∧ Rp K mg (upd H p (.tup ws)) ι (.ref p) (.tup ys) := by
  have g : Grow K H ι (upd H p (.tup ws)) ι := Grow.new hp
  exact ⟨g, r.new hp, .tup (.inl (.inl upd_same)) hl (q.mono g)⟩
theorem Rps.one {vs : List V} {d : D} (h : Rps K mg H ι vs [d]) : ∃ v, vs = [v] ∧ Rp K mg H ι v d := by
  cases h with
  | cons h1 h2 => cases h2; exact ⟨_, rfl, h1⟩
theorem Rps.two {vs : List V} {d e : D} (h : Rps K mg H ι vs [d, e]) : ∃ v u, vs = [v, u] ∧ Rp K mg H ι v d ∧ Rp K mg H ι u e := by
  cases h with
  | cons h1 h2 =>
    obtain ⟨u, rfl, h3⟩ := h2.one
    exact ⟨_, _, rfl, h1, h3⟩
theorem Rp.ref_inv {v : V} {n : Nat} (h : Rp K mg H ι v (.ref n)) : ∃ a, v = .ref a ∧ ι[n]? = some a := by
  cases h with
  | ref h => exact ⟨_, rfl, h⟩
theorem Rp.lit_inv {v : V} {xs : List D} (h : Rp K mg H ι v (.lit xs)) : ∃ a vs, v = .ref a ∧ SqL K H a vs ∧ vs.length ≤ sizeLine ∧ Rps K mg H ι vs xs := by
  cases h with
  | lit h1 h2 h3 => exact ⟨_, _, rfl, h1.sql, h2, h3⟩
theorem Rp.tup_inv {v : V} {xs : List D} (h : Rp K mg H ι v (.tup xs)) : ∃ a vs, v = .ref a ∧ SqT K H a vs ∧ vs.length ≤ sizeLine ∧ Rps K mg H ι vs xs := by
  cases h with
  | tup h1 h2 h3 => exact ⟨_, _, rfl, h1, h2, h3⟩
end

section
variable {X : Cx} {W : WX} {e a b c : Expr} {es : List Expr} {m m' : EM} {ms : List EM} {pos : Pos}
theorem ite_ok {p : Prop} [Decidable p] {α : Type} {a d : α} {S S' : Store} (h : (if p then Res.ok a S else Res.stuck) = Res.ok d S') : p ∧ a = d ∧ S = S' := by
  split at h
  · rename_i q; cases h; exact ⟨q, rfl, rfl⟩
  · cases h
theorem ite_exc {p : Prop} [Decidable p] {α : Type} {a : α} {S S' : Store} {x : Exc} : (if p then Res.ok a S else Res.stuck) ≠ Res.exc x S' := by
  split <;> exact fun z => by cases z

/-! ### tuples, lists -/
theorem sim_tup {K : PySem.W.Frag} {mg : Str → Option Value} : SimN K mg (fun xs H Q => xs.length ≤ sizeLine ∧ ∀ p, H p = none → Q (.ref p) (upd H p (.tup xs))) tupP where
  run := fun xs ds H S ι d S' Q r q e h => by
    obtain ⟨hl, rfl, rfl⟩ := ite_ok e
    rw [LIM_eq, ← q.length] at hl
    refine ⟨hl, fun p hp => ?_⟩
    obtain ⟨g, r', q'⟩ := r.mkT hp hl q
    exact h _ _ _ g r' q'
  nox := fun _ _ _ _ => ite_exc
theorem se_tup {k} (h : SA X W es ms) : SE X W (.Tuple es k pos) (callM tupP ms) := pe_imp (pe_tup h) fun _ _ _ q => callN sim_tup q
theorem sim_lst {K : PySem.W.Frag} {mg : Str → Option Value} : SimN K mg (fun xs H Q => xs.length ≤ sizeLine ∧ ∀ p, H p = none → Q (.ref p) (upd H p (.lst xs))) lstP where
  run := fun xs ds H S ι d S' Q r q e h => by
    obtain ⟨hl, rfl, rfl⟩ := ite_ok e
    rw [LIM_eq, ← q.length] at hl
    refine ⟨hl, fun p hp => ?_⟩
    obtain ⟨g, r', q'⟩ := r.newL hp q
    exact h _ _ _ g r' q'
  nox := fun _ _ _ _ => ite_exc
theorem se_lst (h : SA X W es ms) : SE X W (.List es pos) (callM lstP ms) := pe_imp (pe_lst h) fun _ _ _ q => callN sim_lst q

/-! ### arithmetic -/
def rAddA (K : PySem.W.Frag) : R2 := fun x y H Q => (rI0 fun i j => .int (i + j)) x y H Q ∨ (∃ i j, x = .str i ∧ y = .str j ∧ i.length + j.length ≤ sizeLine ∧ Q (.str (i ++ j)) H) ∨ rCatA K x y H Q ∨ rCat x y H Q
theorem op_addA : OpR X (binaryOp .Add) (rAddA X.K) := op_add.or (op_add_str.or (op_catA.or op_cat))
theorem sim_add {K : PySem.W.Frag} {mg : Str → Option Value} : Sim2 K mg (rAddA K) addP where
  run := fun x y dx dy H S ι d S' Q r px py e h => by
    unfold addP at e
    split at e
    · rename_i i j q
      cases q; cases e; cases px; cases py
      exact .inl ⟨_, _, rfl, rfl, h _ H ι .refl r (.int _)⟩
    · rename_i i j q
      cases q
      obtain ⟨hl, rfl, rfl⟩ := ite_ok e
      cases px; cases py
      refine .inr (.inl ⟨_, _, rfl, rfl, ?_, ?_⟩)
      · rw [toS_length, toS_length, ← LIM_eq]; exact hl
      · rw [toS_append]; exact h _ H ι .refl r (.str _)
    · rename_i xs ys q
      cases q
      obtain ⟨hl, rfl, rfl⟩ := ite_ok e
      obtain ⟨a, vs, rfl, h1, h2, h3⟩ := px.tup_inv
      obtain ⟨b, ws, rfl, k1, k2, k3⟩ := py.tup_inv
      have hl' : vs.length + ws.length ≤ sizeLine := by rw [← LIM_eq, h3.length, k3.length]; exact hl
      refine .inr (.inr (.inl ⟨a, b, vs, ws, rfl, rfl, h1, k1, hl', fun z => ?_, fun z1 z2 => ?_, fun _ _ p hp => ?_⟩))
      · subst z; cases h3; exact h _ H ι .refl r (.tup k1 k2 k3)
      · subst z2; cases k3; rw [List.append_nil] at h; exact h _ H ι .refl r (.tup h1 h2 h3)
      · obtain ⟨g, r', q'⟩ := r.mkT hp (ws := vs ++ ws) (by simpa using hl') (h3.append k3)
        exact h _ _ _ g r' q'
    · rename_i n m q
      cases q
      split at e
      · rename_i xs ys e1 e2
        obtain ⟨hl, rfl, rfl⟩ := ite_ok e
        obtain ⟨a, rfl, ha⟩ := px.ref_inv
        obtain ⟨b, rfl, hb⟩ := py.ref_inv
        obtain ⟨vs, h1, h2⟩ := r.lst ha e1
        obtain ⟨ws, k1, k2⟩ := r.lst hb e2
        refine .inr (.inr (.inr ⟨a, b, vs, ws, rfl, rfl, h1, k1, ?_, fun p hp => ?_⟩))
        · rw [← LIM_eq, h2.length, k2.length]; exact hl
        · obtain ⟨g, r', q'⟩ := r.newL hp (h2.append k2)
          exact h _ _ _ g r' q'
      · cases e
    · cases e
  nox := fun ds S x S' z => by
    unfold addP at z
    split at z <;> first | cases z | exact ite_exc z | (split at z <;> first | cases z | exact ite_exc z)
theorem se_add (ha : SE X W a m) (hb : SE X W b m') : SE X W (.BinOp a .Add b pos) (callM addP [m, m']) := se_op op_addA sim_add ha hb
theorem sim_sub {K : PySem.W.Frag} {mg : Str → Option Value} : Sim2 K mg (rI0 fun i j => .int (i - j)) subP where
  run := fun x y dx dy H S ι d S' Q r px py e h => by
    unfold subP at e
    split at e
    · rename_i i j q
      cases q; cases e; cases px; cases py
      exact ⟨_, _, rfl, rfl, h _ H ι .refl r (.int _)⟩
    · cases e
  nox := fun ds S x S' z => by
    unfold subP at z
    split at z <;> cases z
theorem se_sub (ha : SE X W a m) (hb : SE X W b m') : SE X W (.BinOp a .Sub b pos) (callM subP [m, m']) := se_op op_sub sim_sub ha hb
/-- s * n, 0 ≤ n -/
theorem op_mul_str : OpR X (binaryOp .Mult) (fun x y H Q => ∃ z i, x = .str z ∧ y = .int i ∧ 0 ≤ i ∧ i ≤ (sizeLine : Int) ∧ z.length * i.toNat ≤ sizeLine ∧ Q (.str ⟨(List.replicate i.toNat z.cps.toList).flatten.toArray⟩) H) := by
  intro pins s σ H x y v u Q I rx ry h
  obtain ⟨z, i, rfl, rfl, h0, h1, hz, q⟩ := h
  obtain ⟨t, rfl⟩ := rx
  obtain ⟨t', rfl⟩ := ry
  have e : Txt.mul z i = ⟨(List.replicate i.toNat z.cps.toList).flatten.toArray⟩ := by
    unfold Txt.mul
    by_cases hi0 : i < 1
    · rw [if_pos hi0]
      have : i = 0 := by omega
      subst this
      rfl
    rw [if_neg hi0]
    split
    · rename_i hc
      cases z with
      | mk cps =>
      rcases Bool.or_eq_true _ _ ▸ hc with c | c
      · have : i = 1 := by simpa using c
        subst this
        simp
      · have : cps.size = 0 := by simpa [Str.length] using c
        have e0 : cps = #[] := Array.eq_empty_of_size_eq_zero this
        subst e0
        simp
    · cases z with
      | mk cps =>
      have : ∀ (n : Nat) (acc : Array Nat), (List.replicate n cps).foldl (· ++ ·) acc = acc ++ (List.replicate n cps.toList).flatten.toArray := by
        intro n
        induction n with
        | zero => intro acc; simp
        | succ n ih => intro acc; rw [List.replicate_succ, List.foldl_cons, ih, List.replicate_succ, List.flatten_cons]; rw [Array.append_assoc]; congr 1; apply Array.toList_inj.mp; simp
      rw [this]
      simp
  have hs := sizeLine_eq
  refine SB.mul (x := z) (n := i) ⟨?_, fun _ _ => ?_, fun _ _ => ?_⟩ fun t'' k => ⟨.str ⟨(List.replicate i.toNat z.cps.toList).flatten.toArray⟩, H, I.tok _, ⟨t'', by rw [e]⟩, q⟩
  · rw [Bool.or_eq_false_iff]
    exact ⟨decide_eq_false (by omega), decide_eq_false (by omega)⟩
  · rename_i hi1 _
    have h0 : 0 < i := by omega
    have h2 : z.length ≤ sizeLine := by
      have : z.length * 1 ≤ z.length * i.toNat := Nat.mul_le_mul_left _ (by omega)
      omega
    have hs' : (sizeLine : Int) = 16777216 := by rw [hs]; rfl
    have h3 : (sizeLine : Int) * i ≤ 2 ^ 63 - 1 := by
      rw [hs'] at h1 ⊢
      omega
    have : (sizeLine : Int) ≤ (2 ^ 63 - 1) / i := (Int.le_ediv_iff_mul_le h0).mpr h3
    omega
  · unfold Builtin.Str.tooLong
    simpa using hz
def rMulA : R2 := fun x y H Q => (rI CMul fun i j => .int (i * j)) x y H Q ∨ (∃ z i, x = .str z ∧ y = .int i ∧ 0 ≤ i ∧ i ≤ (sizeLine : Int) ∧ z.length * i.toNat ≤ sizeLine ∧ Q (.str ⟨(List.replicate i.toNat z.cps.toList).flatten.toArray⟩) H)
theorem sim_mul {K : PySem.W.Frag} {mg : Str → Option Value} : Sim2 K mg rMulA mulP where
  run := fun x y dx dy H S ι d S' Q r px py e h => by
    unfold mulP at e
    split at e
    · rename_i i j q
      cases q
      obtain ⟨hc, rfl, rfl⟩ := ite_ok e
      cases px; cases py
      refine .inl ⟨_, _, rfl, rfl, ?_, h _ H ι .refl r (.int _)⟩
      simp only [small64, Bool.or_eq_true, Bool.and_eq_true, decide_eq_true_eq] at hc
      exact hc
    · rename_i i j q
      cases q
      obtain ⟨⟨h0, h1, h2⟩, rfl, rfl⟩ := ite_ok e
      cases px; cases py
      refine .inr ⟨_, _, rfl, rfl, h0, by rw [← LIM_eq]; exact h2, by rw [← LIM_eq, toS_length]; exact h1, ?_⟩
      rw [toS_list]
      exact h _ H ι .refl r (.str _)
    · cases e
  nox := fun ds S x S' z => by
    unfold mulP at z
    split at z <;> first | cases z | exact ite_exc z
theorem se_mul (ha : SE X W a m) (hb : SE X W b m') : SE X W (.BinOp a .Mult b pos) (callM mulP [m, m']) := se_op (op_mul.or op_mul_str) sim_mul ha hb
theorem sim_mod {K : PySem.W.Frag} {mg : Str → Option Value} : Sim2 K mg (rI (fun _ j => 0 < j) fun i j => .int (i % j)) modP where
  run := fun x y dx dy H S ι d S' Q r px py e h => by
    unfold modP at e
    split at e
    · rename_i i j q
      cases q
      obtain ⟨hc, rfl, rfl⟩ := ite_ok e
      cases px; cases py
      exact ⟨_, _, rfl, rfl, hc, h _ H ι .refl r (.int _)⟩
    · cases e
  nox := fun ds S x S' z => by
    unfold modP at z
    split at z <;> first | cases z | exact ite_exc z
theorem se_mod (ha : SE X W a m) (hb : SE X W b m') : SE X W (.BinOp a .Mod b pos) (callM modP [m, m']) := se_op op_mod sim_mod ha hb
theorem sim_fdiv {K : PySem.W.Frag} {mg : Str → Option Value} : Sim2 K mg (rI CDiv fun i j => .int (i / j)) fdivP where
  run := fun x y dx dy H S ι d S' Q r px py e h => by
    unfold fdivP at e
    split at e
    · rename_i i j q
      cases q
      obtain ⟨hc, rfl, rfl⟩ := ite_ok e
      cases px; cases py
      exact ⟨_, _, rfl, rfl, hc, h _ H ι .refl r (.int _)⟩
    · cases e
  nox := fun ds S x S' z => by
    unfold fdivP at z
    split at z <;> first | cases z | exact ite_exc z
theorem se_fdiv (ha : SE X W a m) (hb : SE X W b m') : SE X W (.BinOp a .FloorDiv b pos) (callM fdivP [m, m']) := se_op op_fdiv sim_fdiv ha hb
theorem sim_pow {K : PySem.W.Frag} {mg : Str → Option Value} : Sim2 K mg (rI CPow fun i j => .int (i ^ j.toNat)) powP where
  run := fun x y dx dy H S ι d S' Q r px py e h => by
    unfold powP at e
    split at e
    · rename_i i j q
      cases q
      obtain ⟨hc, rfl, rfl⟩ := ite_ok e
      cases px; cases py
      exact ⟨_, _, rfl, rfl, hc, h _ H ι .refl r (.int _)⟩
    · cases e
  nox := fun ds S x S' z => by
    unfold powP at z
    split at z <;> first | cases z | exact ite_exc z
theorem se_pow (ha : SE X W a m) (hb : SE X W b m') : SE X W (.BinOp a .Pow b pos) (callM powP [m, m']) := se_op op_pow sim_pow ha hb
theorem se_neg (ha : SE X W a m) : SE X W (.UnaryOp .USub a pos) (callM negP [m]) := by
  refine pe_imp (pe_un un_neg ha) fun σ H Q h => ?_
  obtain ⟨δ, S, ι, r, h⟩ := h
  refine ⟨δ, S, ι, r, ?_⟩
  have h : PostE X.K X.mg W σ H ι (((m δ S).bind fun d S1 => .ok [d] S1).bind negP) Q := h
  cases e1 : m δ S with
  | ok d S1 =>
    rw [e1] at h
    intro v H' ι' g r1 p1
    cases d with
    | int i => cases p1; exact ⟨i, rfl, h _ H' ι' g r1 (.int _)⟩
    | _ => exact h.elim
  | exc x S1 => rw [e1] at h; exact h
  | stuck => rw [e1] at h; exact h

/-! ### comparisons -/
theorem sim_lt {K : PySem.W.Frag} {mg : Str → Option Value} : Sim2 K mg (fun x y H Q => (rI0 fun i j => .bl (decide (i < j))) x y H Q ∨ (∃ i j, x = .str i ∧ y = .str j ∧ Q (.bl (decide (i.cps.toList < j.cps.toList))) H)) ltP := by
  refine ⟨fun x y dx dy H S ι d S' Q r px py e h => ?_, fun ds S x S' z => ?_⟩
  · unfold ltP at e
    split at e
    · rename_i i j q
      cases q; cases e; cases px; cases py
      exact .inl ⟨_, _, rfl, rfl, h _ H ι .refl r (.bl _)⟩
    · rename_i i j q
      cases q; cases e; cases px; cases py
      refine .inr ⟨_, _, rfl, rfl, ?_⟩
      rw [toS_list, toS_list]
      exact h _ H ι .refl r (.bl _)
    · cases e
  · unfold ltP at z
    split at z <;> cases z
end
end Dl

end

section
set_option linter.all false
set_option Elab.async false
set_option maxRecDepth 100000
set_option Elab.async false
set_option linter.all false
set_option maxRecDepth 100000
set_option maxHeartbeats 4000000
namespace Dl
open PySem PySem.Spec PyProof.Rows L2

/-! ### data as the library's -/
mutual
def D.py : D → PyData
  | .non => .none
  | .bl b => .bool b
  | .int i => .int i
  | .str x => .str (toS x)
  | .tup xs => .tuple (D.pys xs)
  | .ref _ => .none
  | .fn _ => .none
  | .lit _ => .none
def D.pys : List D → List PyData
  | [] => []
  | d :: r => D.py d :: D.pys r
end
theorem toS_beq (x y : Cs) : (toS x == toS y) = (x == y) := by
  rw [Bool.eq_iff_iff, beq_iff_eq, beq_iff_eq, toS_inj]
mutual
theorem D.eqv_py : ∀ (n m : Nat) (x y : D), D.flat n x = true → D.flat m y = true → PyData.eqv (D.py x) (D.py y) = D.eqv x y
  | n, m, .non, y, hx, hy => by cases y <;> simp_all [D.py, PyData.eqv, D.eqv, D.flat]
  | n, m, .bl _, y, hx, hy => by cases y <;> simp_all [D.py, PyData.eqv, D.eqv, D.flat, b2i]
  | n, m, .int _, y, hx, hy => by cases y <;> simp_all [D.py, PyData.eqv, D.eqv, D.flat, b2i]
  | n, m, .str _, y, hx, hy => by cases y <;> simp_all [D.py, PyData.eqv, D.eqv, D.flat, toS_beq]
  | n, m, .tup xs, y, hx, hy => by
    cases y with
    | tup ys =>
      cases n with
      | zero => simp [D.flat] at hx
      | succ n =>
        cases m with
        | zero => simp [D.flat] at hy
        | succ m =>
          simp only [D.flat] at hx hy
          simp only [D.py, PyData.eqv, D.eqv]
          exact D.eqvs_py n m xs ys hx hy
    | _ => simp_all [D.py, PyData.eqv, D.eqv, D.flat]
  | n, m, .ref _, y, hx, hy => by simp [D.flat] at hx
  | n, m, .fn _, y, hx, hy => by simp [D.flat] at hx
  | n, m, .lit _, y, hx, hy => by simp [D.flat] at hx
theorem D.eqvs_py : ∀ (n m : Nat) (x y : List D), D.flats n x = true → D.flats m y = true → PyData.eqvAll (D.pys x) (D.pys y) = D.eqvs x y
  | n, m, [], y, hx, hy => by cases y <;> simp_all [D.pys, PyData.eqvAll, D.eqvs]
  | n, m, a :: r, y, hx, hy => by
    cases y with
    | nil => simp_all [D.pys, PyData.eqvAll, D.eqvs]
    | cons b s =>
      simp only [D.flats, Bool.and_eq_true] at hx hy
      simp only [D.pys, PyData.eqvAll, D.eqvs, D.eqv_py n m a b hx.1 hy.1, D.eqvs_py n m r s hx.2 hy.2]
end
mutual
theorem D.lay_py : ∀ (n : Nat) (x : D), D.flat n x = true → (D.py x).canLay0 = true ∧ (D.py x).depth ≤ n
  | n, .non, hx => by simp [D.py, PyData.canLay0, PyData.depth]
  | n, .bl _, hx => by simp [D.py, PyData.canLay0, PyData.depth]
  | n, .int _, hx => by simp [D.py, PyData.canLay0, PyData.depth]
  | n, .str x, hx => by
    simp only [D.flat] at hx
    simp only [D.py, PyData.canLay0, PyData.depth]
    refine ⟨?_, Nat.zero_le _⟩
    unfold PyData.strOk toS
    simpa using hx
  | n, .tup xs, hx => by
    cases n with
    | zero => simp [D.flat] at hx
    | succ n =>
      simp only [D.flat] at hx
      obtain ⟨h1, h2⟩ := D.lays_py n xs hx
      simp only [D.py, PyData.canLay0, PyData.depth]
      exact ⟨h1, by omega⟩
  | n, .ref _, hx => by simp [D.flat] at hx
  | n, .fn _, hx => by simp [D.flat] at hx
  | n, .lit _, hx => by simp [D.flat] at hx
theorem D.lays_py : ∀ (n : Nat) (x : List D), D.flats n x = true → PyData.canLayAll0 (D.pys x) = true ∧ PyData.depthAll (D.pys x) ≤ n
  | n, [], hx => by simp [D.pys, PyData.canLayAll0, PyData.depthAll]
  | n, a :: r, hx => by
    simp only [D.flats, Bool.and_eq_true] at hx
    obtain ⟨h1, h2⟩ := D.lay_py n a hx.1
    obtain ⟨h3, h4⟩ := D.lays_py n r hx.2
    simp only [D.pys, PyData.canLayAll0, PyData.depthAll, h1, h3]
    exact ⟨rfl, by omega⟩
end
theorem D.shaped_py {n : Nat} {x : D} (h : D.flat n x = true) (hn : n ≤ 64) : SeqAt.shaped (D.py x) = true := by
  obtain ⟨h1, h2⟩ := D.lay_py n x h
  show ((D.py x).canLay0 && decide ((D.py x).depth ≤ 64)) = true
  rw [h1, decide_eq_true (by omega)]; rfl
theorem D.shaped_pys {n : Nat} {x : List D} (h : D.flats n x = true) (hn : n < 64) : SeqAt.shaped (.list (D.pys x)) = true := by
  obtain ⟨h1, h2⟩ := D.lays_py n x h
  show (PyData.canLay0 (.list (D.pys x)) && decide (PyData.depth (.list (D.pys x)) ≤ 64)) = true
  have h3 : PyData.depth (.list (D.pys x)) ≤ 64 := by
    simp only [PyData.depth]
    omega
  rw [decide_eq_true h3, Bool.and_true]
  simp only [PyData.canLay0, h1]
section
variable {K : PySem.W.Frag} {mg : Str → Option Value} {H H' : Hp} {ι ι' : List Addr} {S : Store}
mutual
theorem Rp.dp : ∀ {n : Nat} {v : V} {d : D}, Rp K mg H ι v d → D.flat n d = true → Dp K H v (D.py d)
  | _, _, .non, h, _ => by cases h; exact .non
  | _, _, .bl _, h, _ => by cases h; exact .bl _
  | _, _, .int _, h, _ => by cases h; exact .int _
  | _, _, .str _, h, _ => by cases h; exact .str _
  | n, _, .tup xs, h, f => by
    cases n with
    | zero => simp [D.flat] at f
    | succ n =>
      simp only [D.flat] at f
      cases h with
      | tup h1 h2 h3 => exact .tup h1 (Rps.dp h3 f)
  | _, _, .ref _, _, f => by simp [D.flat] at f
  | _, _, .fn _, _, f => by simp [D.flat] at f
  | _, _, .lit _, _, f => by simp [D.flat] at f
theorem Rps.dp : ∀ {n : Nat} {v : List V} {d : List D}, Rps K mg H ι v d → D.flats n d = true → DpAll K H v (D.pys d)
  | _, _, [], h, _ => by cases h; exact .nil
  | _, _, _ :: _, h, f => by
    simp only [D.flats, Bool.and_eq_true] at f
    cases h with
    | cons h1 h2 => exact .cons (Rp.dp h1 f.1) (Rps.dp h2 f.2)
end
theorem RS.listDp (r : RS K mg H ι S) {v : V} {n : Nat} {xs : List D} {k : Nat} (p : Rp K mg H ι v (.ref n)) (e : Dl.lstAt S n = some xs) (f : D.flats k xs = true) : Dp K H v (.list (D.pys xs)) := by
  obtain ⟨a, rfl, ha⟩ := p.ref_inv
  obtain ⟨vs, h1, h2⟩ := r.lstAt ha e
  exact .lst h1 (h2.dp f)
theorem Rp.sc_eq {x y : V} {dx dy : D} (px : Rp K mg H ι x dx) (py : Rp K mg H ι y dy) (h : D.scal dx dy = true) : scal x y = true ∧ decide (x = y) = decide (dx = dy) := by
  cases dx <;> cases dy <;> first
    | (exfalso; exact Bool.false_ne_true h)
    | (cases px; cases py; refine ⟨rfl, ?_⟩; simp [toS_inj])
theorem Rp.scV {x : V} {d : D} (p : Rp K mg H ι x d) (h : d.sc = true) : flatV x = true := by
  cases d <;> first | (exfalso; exact Bool.false_ne_true h) | (cases p; rfl)
theorem Rps.scV : ∀ {xs : List V} {ds : List D}, Rps K mg H ι xs ds → ds.all D.sc = true → xs.all flatV = true
  | _, [], h, _ => by cases h; rfl
  | _, d :: ds, h, f => by
    simp only [List.all_cons, Bool.and_eq_true] at f
    cases h with
    | cons h1 h2 => simp only [List.all_cons, h1.scV f.1, Rps.scV h2 f.2, Bool.and_self]
theorem Rp.eqV {x y : V} {dx dy : D} (px : Rp K mg H ι x dx) (py : Rp K mg H ι y dy) (h1 : dx.sc = true) (h2 : dy.sc = true) : eqV x y = D.eqv dx dy := by
  cases dx <;> cases dy <;> first
    | (exfalso; exact Bool.false_ne_true h1)
    | (exfalso; exact Bool.false_ne_true h2)
    | (cases px; cases py; simp [L2.eqV, D.eqv, b2i, toS_beq])
theorem Rps.inV {x : V} {d : D} (p : Rp K mg H ι x d) (hx : d.sc = true) : ∀ {xs : List V} {ds : List D}, Rps K mg H ι xs ds → ds.all D.sc = true → inV x xs = ds.any fun z => D.eqv z d
  | _, [], h, _ => by cases h; rfl
  | _, e :: ds, h, f => by
    simp only [List.all_cons, Bool.and_eq_true] at f
    cases h with
    | cons h1 h2 =>
      have := Rps.inV p hx h2 f.2
      unfold L2.inV at this ⊢
      simp only [List.any_cons, this, h1.eqV p f.1 hx]
theorem pys_any {d : D} {n : Nat} (hd : D.flat n d = true) {k : Nat} : ∀ {ds : List D}, D.flats k ds = true → ((D.pys ds).any fun z => PyData.eqv z (D.py d)) = ds.any fun z => D.eqv z d
  | [], _ => rfl
  | e :: ds, f => by
    simp only [D.flats, Bool.and_eq_true] at f
    simp only [D.pys, List.any_cons, pys_any hd f.2, D.eqv_py k n e d f.1 hd]
end
section
variable {X : Cx} {W : WX} {e a b c : Expr} {es : List Expr} {m m' : EM} {ms : List EM} {pos : Pos}
def rEqA (K : PySem.W.Frag) : R2 := fun x y H Q => rEq x y H Q ∨ rEqD K x y H Q
theorem op_eqA (hu : X.A.units + 64 < cLine) : OpR X (compareOp .Eq) (rEqA X.K) := op_eq.or (op_eqD hu)
def rNeA (K : PySem.W.Frag) : R2 := fun x y H Q => rNe x y H Q ∨ rNeD K x y H Q
theorem op_neA (hu : X.A.units + 64 < cLine) : OpR X (compareOp .NotEq) (rNeA X.K) := op_ne.or (op_neD hu)
/-- what eqP tells: its bool, the store is kept -/
theorem eqP_cases {K : PySem.W.Frag} {mg : Str → Option Value} {H : Hp} {ι : List Addr} {S S' : Store} {x y : V} {dx dy d : D} (r : RS K mg H ι S) (px : Rp K mg H ι x dx) (py : Rp K mg H ι y dy) (e : eqP [dx, dy] S = .ok d S') :
    S' = S ∧ ∃ b, d = .bl b ∧ ((scal x y = true ∧ decide (x = y) = b) ∨ ∃ p q, Dp K H x p ∧ Dp K H y q ∧ SeqAt.shaped p = true ∧ SeqAt.shaped q = true ∧ PyData.eqv p q = b) := by
  unfold eqP at e
  simp only at e
  split at e
  · rename_i h
    cases e
    obtain ⟨h1, h2⟩ := px.sc_eq py h
    exact ⟨rfl, _, rfl, .inl ⟨h1, h2⟩⟩
  · split at e
    · rename_i n m _
      split at e
      · rename_i xs ys e1 e2
        obtain ⟨hc, rfl, rfl⟩ := ite_ok e
        rw [Bool.and_eq_true] at hc
        refine ⟨rfl, _, rfl, .inr ⟨_, _, r.listDp px e1 hc.1, r.listDp py e2 hc.2, D.shaped_pys hc.1 (by decide), D.shaped_pys hc.2 (by decide), ?_⟩⟩
        simp only [PyData.eqv]
        exact D.eqvs_py _ _ _ _ hc.1 hc.2
      · cases e
    · obtain ⟨hc, rfl, rfl⟩ := ite_ok e
      rw [Bool.and_eq_true] at hc
      exact ⟨rfl, _, rfl, .inr ⟨_, _, px.dp hc.1, py.dp hc.2, D.shaped_py hc.1 (by decide), D.shaped_py hc.2 (by decide), D.eqv_py _ _ _ _ hc.1 hc.2⟩⟩
theorem eqP_nox (ds : List D) (S : Store) (x : Exc) (S' : Store) : eqP ds S ≠ .exc x S' := fun z => by
  unfold eqP at z
  repeat (first | cases z | exact ite_exc z | split at z)
theorem sim_eq {K : PySem.W.Frag} {mg : Str → Option Value} : Sim2 K mg (rEqA K) eqP where
  run := fun x y dx dy H S ι d S' Q r px py e h => by
    obtain ⟨rfl, b, rfl, q⟩ := eqP_cases r px py e
    have hb := h _ H ι .refl r (.bl b)
    rcases q with ⟨h1, h2⟩ | ⟨p, q, h1, h2, h3, h4, h5⟩
    · exact .inl ⟨h1, by rw [h2]; exact hb⟩
    · exact .inr ⟨p, q, h1, h2, h3, h4, by rw [h5]; exact hb⟩
  nox := eqP_nox
theorem sim_ne {K : PySem.W.Frag} {mg : Str → Option Value} : Sim2 K mg (rNeA K) neP where
  run := fun x y dx dy H S ι d S' Q r px py e h => by
    obtain ⟨d1, S1, e1, e2⟩ := bind_inv e
    obtain ⟨rfl, b, rfl, q⟩ := eqP_cases r px py e1
    cases e2
    have hb := h _ H ι .refl r (.bl (!b))
    rcases q with ⟨h1, h2⟩ | ⟨p, q, h1, h2, h3, h4, h5⟩
    · exact .inl ⟨h1, by rw [h2]; exact hb⟩
    · exact .inr ⟨p, q, h1, h2, h3, h4, by rw [h5]; exact hb⟩
  nox := fun ds S x S' z => by
    unfold neP notR at z
    cases e : eqP ds S with
    | ok d S1 =>
      rw [e] at z
      simp only [Res.bind_ok] at z
      split at z <;> cases z
    | exc y S1 => exact eqP_nox _ _ _ _ e
    | stuck => rw [e] at z; cases z
/-! in -/
def rInA (K : PySem.W.Frag) : R2 := fun x y H Q => rIn K false x y H Q ∨ rInD K x y H Q ∨ (∃ c z, x = .str ⟨#[c]⟩ ∧ y = .str z ∧ Q (.bl (decide (c ∈ z.cps.toList))) H)
def rNotInA (K : PySem.W.Frag) : R2 := fun x y H Q => rIn K true x y H Q ∨ rNotInD K x y H Q ∨ (∃ c z, x = .str ⟨#[c]⟩ ∧ y = .str z ∧ Q (.bl (!decide (c ∈ z.cps.toList))) H)
theorem inP_cases {K : PySem.W.Frag} {mg : Str → Option Value} {H : Hp} {ι : List Addr} {S S' : Store} {x y : V} {dx dy d : D} (r : RS K mg H ι S) (px : Rp K mg H ι x dx) (py : Rp K mg H ι y dy) (e : inP [dx, dy] S = .ok d S') :
    S' = S ∧ ∃ b, d = .bl b ∧ ((∃ p xs, y = .ref p ∧ (SqL K H p xs ∨ SqT K H p xs) ∧ flatV x = true ∧ xs.all flatV = true ∧ inV x xs = b) ∨
      (∃ p q, Dp K H x p ∧ Dp K H y (.list q) ∧ SeqAt.shaped p = true ∧ SeqAt.shaped (.list q) = true ∧ (q.any fun z => PyData.eqv z p) = b) ∨ ∃ c z, x = .str ⟨#[c]⟩ ∧ y = .str z ∧ decide (c ∈ z.cps.toList) = b) := by
  unfold inP at e
  split at e
  · rename_i x' n q
    cases q
    split at e
    · rename_i ys e1
      obtain ⟨hc, rfl, rfl⟩ := ite_ok e
      refine ⟨rfl, _, rfl, ?_⟩
      obtain ⟨a, rfl, ha⟩ := py.ref_inv
      obtain ⟨vs, h1, h2⟩ := r.lstAt ha e1
      rcases Bool.or_eq_true _ _ ▸ hc with hc | hc
      · rw [Bool.and_eq_true] at hc
        exact .inl ⟨a, vs, rfl, .inl h1, px.scV hc.1, h2.scV hc.2, Rps.inV px hc.1 h2 hc.2⟩
      · rw [Bool.and_eq_true] at hc
        exact .inr (.inl ⟨_, _, px.dp hc.1, .lst h1 (h2.dp hc.2), D.shaped_py hc.1 (by decide), D.shaped_pys hc.2 (by decide), pys_any hc.1 hc.2⟩)
    · cases e
  · rename_i x' ys q
    cases q
    obtain ⟨hc, rfl, rfl⟩ := ite_ok e
    rw [Bool.and_eq_true] at hc
    obtain ⟨a, vs, rfl, h1, _, h2⟩ := py.tup_inv
    exact ⟨rfl, _, rfl, .inl ⟨a, vs, rfl, .inr h1, px.scV hc.1, h2.scV hc.2, Rps.inV px hc.1 h2 hc.2⟩⟩
  · rename_i c ys q
    cases q; cases e; cases px; cases py
    exact ⟨rfl, _, rfl, .inr (.inr ⟨c, _, rfl, rfl, by rw [toS_list]⟩)⟩
  · cases e
theorem inP_nox (ds : List D) (S : Store) (x : Exc) (S' : Store) : inP ds S ≠ .exc x S' := fun z => by
  unfold inP at z
  repeat (first | cases z | exact ite_exc z | split at z)
theorem op_in1 : OpR X (compareOp .In) (fun x y H Q => ∃ c z, x = .str ⟨#[c]⟩ ∧ y = .str z ∧ Q (.bl (decide (c ∈ z.cps.toList))) H) := by
  intro pins s σ H x y v u Q I rx ry h
  obtain ⟨c, z, rfl, rfl, q⟩ := h
  exact op_in_sign pins s σ H _ _ v u Q I rx ry ⟨c, z, rfl, rfl, q⟩
theorem op_notIn1 : OpR X (compareOp .NotIn) (fun x y H Q => ∃ c z, x = .str ⟨#[c]⟩ ∧ y = .str z ∧ Q (.bl (!decide (c ∈ z.cps.toList))) H) := by
  intro pins s σ H x y v u Q I rx ry h
  obtain ⟨c, z, rfl, rfl, q⟩ := h
  exact op_notIn_sign pins s σ H _ _ v u Q I rx ry ⟨c, z, rfl, rfl, q⟩
theorem op_inA (hu : X.A.units + 65 < cLine) : OpR X (compareOp .In) (rInA X.K) := op_in_seq.or ((op_inD hu).or op_in1)
theorem op_notInA (hu : X.A.units + 65 < cLine) : OpR X (compareOp .NotIn) (rNotInA X.K) := op_notIn_seq.or ((op_notInD hu).or op_notIn1)
theorem sim_in {K : PySem.W.Frag} {mg : Str → Option Value} : Sim2 K mg (rInA K) inP where
  run := fun x y dx dy H S ι d S' Q r px py e h => by
    obtain ⟨rfl, b, rfl, q⟩ := inP_cases r px py e
    have hb := h _ H ι .refl r (.bl b)
    rcases q with ⟨p, xs, h1, h2, h3, h4, h5⟩ | ⟨p, q, h1, h2, h3, h4, h5⟩ | ⟨c, z, h1, h2, h3⟩
    · exact .inl ⟨p, xs, h1, h2, h3, h4, by rw [h5]; exact hb⟩
    · exact .inr (.inl ⟨p, q, h1, h2, h3, h4, by rw [h5]; exact hb⟩)
    · exact .inr (.inr ⟨c, z, h1, h2, by rw [h3]; exact hb⟩)
  nox := inP_nox
theorem sim_notIn {K : PySem.W.Frag} {mg : Str → Option Value} : Sim2 K mg (rNotInA K) notInP where
  run := fun x y dx dy H S ι d S' Q r px py e h => by
    obtain ⟨d1, S1, e1, e2⟩ := bind_inv e
    obtain ⟨rfl, b, rfl, q⟩ := inP_cases r px py e1
    cases e2
    have hb := h _ H ι .refl r (.bl (!b))
    rcases q with ⟨p, xs, h1, h2, h3, h4, h5⟩ | ⟨p, q, h1, h2, h3, h4, h5⟩ | ⟨c, z, h1, h2, h3⟩
    · exact .inl ⟨p, xs, h1, h2, h3, h4, by simp only [if_true]; rw [h5]; exact hb⟩
    · exact .inr (.inl ⟨p, q, h1, h2, h3, h4, by rw [h5]; exact hb⟩)
    · exact .inr (.inr ⟨c, z, h1, h2, by rw [h3]; exact hb⟩)
  nox := fun ds S x S' z => by
    unfold notInP notR at z
    cases e : inP ds S with
    | ok d S1 =>
      rw [e] at z
      simp only [Res.bind_ok] at z
      split at z <;> cases z
    | exc y S1 => exact inP_nox _ _ _ _ e
    | stuck => rw [e] at z; cases z
/-! the other orders -/
theorem sim_gt {K : PySem.W.Frag} {mg : Str → Option Value} : Sim2 K mg (fun x y H Q => (rI0 fun i j => .bl (decide (j < i))) x y H Q ∨ (∃ i j, x = .str i ∧ y = .str j ∧ Q (.bl (decide (j.cps.toList < i.cps.toList))) H)) gtP := by
  refine ⟨fun x y dx dy H S ι d S' Q r px py e h => ?_, fun ds S x S' z => ?_⟩
  · unfold gtP at e
    split at e
    · rename_i i j q
      cases q; cases e; cases px; cases py
      exact .inl ⟨_, _, rfl, rfl, h _ H ι .refl r (.bl _)⟩
    · rename_i i j q
      cases q; cases e; cases px; cases py
      refine .inr ⟨_, _, rfl, rfl, ?_⟩
      rw [toS_list, toS_list]
      exact h _ H ι .refl r (.bl _)
    · cases e
  · unfold gtP at z
    split at z <;> cases z
theorem sim_ge {K : PySem.W.Frag} {mg : Str → Option Value} : Sim2 K mg (fun x y H Q => (rI0 fun i j => .bl (decide (j ≤ i))) x y H Q ∨ (∃ i j, x = .str i ∧ y = .str j ∧ Q (.bl (!decide (i.cps.toList < j.cps.toList))) H)) geP := by
  refine ⟨fun x y dx dy H S ι d S' Q r px py e h => ?_, fun ds S x S' z => ?_⟩
  · unfold geP at e
    split at e
    · rename_i i j q
      cases q; cases e; cases px; cases py
      exact .inl ⟨_, _, rfl, rfl, h _ H ι .refl r (.bl _)⟩
    · rename_i i j q
      cases q; cases e; cases px; cases py
      refine .inr ⟨_, _, rfl, rfl, ?_⟩
      rw [toS_list, toS_list]
      exact h _ H ι .refl r (.bl _)
    · cases e
  · unfold geP at z
    split at z <;> cases z
theorem sim_le {K : PySem.W.Frag} {mg : Str → Option Value} : Sim2 K mg (fun x y H Q => (rI0 fun i j => .bl (decide (i ≤ j))) x y H Q ∨ (∃ i j, x = .str i ∧ y = .str j ∧ Q (.bl (!decide (j.cps.toList < i.cps.toList))) H)) leP := by
  refine ⟨fun x y dx dy H S ι d S' Q r px py e h => ?_, fun ds S x S' z => ?_⟩
  · unfold leP at e
    split at e
    · rename_i i j q
      cases q; cases e; cases px; cases py
      exact .inl ⟨_, _, rfl, rfl, h _ H ι .refl r (.bl _)⟩
    · rename_i i j q
      cases q; cases e; cases px; cases py
      refine .inr ⟨_, _, rfl, rfl, ?_⟩
      rw [toS_list, toS_list]
      exact h _ H ι .refl r (.bl _)
    · cases e
  · unfold leP at z
    split at z <;> cases z
end
end Dl

end

section
set_option linter.all false
set_option Elab.async false
set_option maxRecDepth 100000
set_option Elab.async false
set_option linter.all false
set_option maxRecDepth 100000
set_option maxHeartbeats 4000000
namespace Dl
open PySem PySem.Spec PyProof.Rows L2

section
variable {X : Cx} {W : WX} {e a b c : Expr} {es : List Expr} {m m' : EM} {ms : List EM} {pos : Pos} {k : Nat}
theorem hu64 (hr : Room k X.A) : X.A.units + 64 < cLine := hr.units
theorem hu65 (hr : Room k X.A) : X.A.units + 65 < cLine := by have := hr.un; omega
theorem se_eq (hr : Room k X.A) (ha : SE X W a m) (hb : SE X W b m') : SE X W (.Compare a [.Eq] [b] pos) (callM eqP [m, m']) := se_cmp (op_eqA (hu64 hr)) sim_eq ha hb (nomark _)
theorem st_eq (hr : Room k X.A) (ha : SE X W a m) (hb : SE X W b m') : ST X W (.Compare a [.Eq] [b] pos) (tbM (callM eqP [m, m'])) := st_cmp (op_eqA (hu64 hr)) sim_eq ha hb (nomark _)
theorem se_ne (hr : Room k X.A) (ha : SE X W a m) (hb : SE X W b m') : SE X W (.Compare a [.NotEq] [b] pos) (callM neP [m, m']) := se_cmp (op_neA (hu64 hr)) sim_ne ha hb (nomark _)
theorem st_ne (hr : Room k X.A) (ha : SE X W a m) (hb : SE X W b m') : ST X W (.Compare a [.NotEq] [b] pos) (tbM (callM neP [m, m'])) := st_cmp (op_neA (hu64 hr)) sim_ne ha hb (nomark _)
theorem se_in (hr : Room k X.A) (ha : SE X W a m) (hb : SE X W b m') (hm : behindInMarks .In b = false := by rfl) : SE X W (.Compare a [.In] [b] pos) (callM inP [m, m']) := se_cmp (op_inA (hu65 hr)) sim_in ha hb hm
theorem st_in (hr : Room k X.A) (ha : SE X W a m) (hb : SE X W b m') (hm : behindInMarks .In b = false := by rfl) : ST X W (.Compare a [.In] [b] pos) (tbM (callM inP [m, m'])) := st_cmp (op_inA (hu65 hr)) sim_in ha hb hm
theorem se_notIn (hr : Room k X.A) (ha : SE X W a m) (hb : SE X W b m') (hm : behindInMarks .NotIn b = false := by rfl) : SE X W (.Compare a [.NotIn] [b] pos) (callM notInP [m, m']) := se_cmp (op_notInA (hu65 hr)) sim_notIn ha hb hm
theorem st_notIn (hr : Room k X.A) (ha : SE X W a m) (hb : SE X W b m') (hm : behindInMarks .NotIn b = false := by rfl) : ST X W (.Compare a [.NotIn] [b] pos) (tbM (callM notInP [m, m'])) := st_cmp (op_notInA (hu65 hr)) sim_notIn ha hb hm
theorem se_lt (ha : SE X W a m) (hb : SE X W b m') : SE X W (.Compare a [.Lt] [b] pos) (callM ltP [m, m']) := se_cmp (op_lt.or op_lt_str) sim_lt ha hb (nomark _)
theorem st_lt (ha : SE X W a m) (hb : SE X W b m') : ST X W (.Compare a [.Lt] [b] pos) (tbM (callM ltP [m, m'])) := st_cmp (op_lt.or op_lt_str) sim_lt ha hb (nomark _)
theorem se_le (ha : SE X W a m) (hb : SE X W b m') : SE X W (.Compare a [.LtE] [b] pos) (callM leP [m, m']) := se_cmp (op_le.or op_le_str) sim_le ha hb (nomark _)
theorem st_le (ha : SE X W a m) (hb : SE X W b m') : ST X W (.Compare a [.LtE] [b] pos) (tbM (callM leP [m, m'])) := st_cmp (op_le.or op_le_str) sim_le ha hb (nomark _)
theorem se_gt (ha : SE X W a m) (hb : SE X W b m') : SE X W (.Compare a [.Gt] [b] pos) (callM gtP [m, m']) := se_cmp (op_gt.or op_gt_str) sim_gt ha hb (nomark _)
theorem st_gt (ha : SE X W a m) (hb : SE X W b m') : ST X W (.Compare a [.Gt] [b] pos) (tbM (callM gtP [m, m'])) := st_cmp (op_gt.or op_gt_str) sim_gt ha hb (nomark _)
theorem se_ge (ha : SE X W a m) (hb : SE X W b m') : SE X W (.Compare a [.GtE] [b] pos) (callM geP [m, m']) := se_cmp (op_ge.or op_ge_str) sim_ge ha hb (nomark _)
theorem st_ge (ha : SE X W a m) (hb : SE X W b m') : ST X W (.Compare a [.GtE] [b] pos) (tbM (callM geP [m, m'])) := st_cmp (op_ge.or op_ge_str) sim_ge ha hb (nomark _)
theorem Rp.non_iff {K : PySem.W.Frag} {mg : Str → Option Value} {H : Hp} {ι : List Addr} {v : V} {d : D} (p : Rp K mg H ι v d) : decide (v = .non) = decide (d = .non) := by
  cases p <;> simp
theorem call1 {K : PySem.W.Frag} {mg : Str → Option Value} {σ : L2.St} {H : Hp} {Q : VK} {p : FM} (h : cE K mg W (callM p [m]) σ H Q) (r : V → Hp → VK → Prop)
    (s : ∀ v d H ι S Q, RS K mg H ι S → Rp K mg H ι v d → PostE K mg W σ H ι (p [d] S) Q → r v H Q) : cE K mg W m σ H (fun v H1 => r v H1 Q) := by
  obtain ⟨δ, S, ι, rl, h⟩ := h
  refine ⟨δ, S, ι, rl, ?_⟩
  have h : PostE K mg W σ H ι (((m δ S).bind fun d S1 => .ok [d] S1).bind p) Q := h
  cases e1 : m δ S with
  | ok d S1 =>
    rw [e1] at h
    intro v H' ι' g r1 p1
    exact s v d H' ι' S1 Q r1 p1 (PostE.back g h)
  | exc x S1 => rw [e1] at h; exact h
  | stuck => rw [e1] at h; exact h
theorem se_isN {j pos'} (ha : SE X W a m) : SE X W (.Compare a [.Is] [.Constant .none j pos'] pos) (callM isNonP [m]) :=
  pe_imp (pe_cmp (pc_isN ha)) fun σ H Q h => call1 h (fun v H Q => Q (.bl (decide (v = .non))) H) fun v d H ι S Q r p h => by
    rw [p.non_iff]
    exact h _ H ι .refl r (.bl _)
theorem se_notN {j pos'} (ha : SE X W a m) : SE X W (.Compare a [.IsNot] [.Constant .none j pos'] pos) (callM notNonP [m]) :=
  pe_imp (pe_cmp (pc_notN ha)) fun σ H Q h => call1 h (fun v H Q => Q (.bl (!decide (v = .non))) H) fun v d H ι S Q r p h => by
    rw [p.non_iff]
    exact h _ H ι .refl r (.bl _)
theorem st_isN {j pos'} (ha : SE X W a m) : ST X W (.Compare a [.Is] [.Constant .none j pos'] pos) (tbM (callM isNonP [m])) := by
  refine pt_imp (pt_cmp (pc_isN ha)) fun σ H Q h => tbT (fun h => ?_) h
  exact call1 h (fun v H Q => Q (.bl (decide (v = .non))) H) fun v d H ι S Q r p h => by
    rw [p.non_iff]
    exact h _ H ι .refl r (.bl _)
theorem st_notN {j pos'} (ha : SE X W a m) : ST X W (.Compare a [.IsNot] [.Constant .none j pos'] pos) (tbM (callM notNonP [m])) := by
  refine pt_imp (pt_cmp (pc_notN ha)) fun σ H Q h => tbT (fun h => ?_) h
  exact call1 h (fun v H Q => Q (.bl (!decide (v = .non))) H) fun v d H ι S Q r p h => by
    rw [p.non_iff]
    exact h _ H ι .refl r (.bl _)

/-! ### items -/
theorem Rps.atI {K : PySem.W.Frag} {mg : Str → Option Value} {H : Hp} {ι : List Addr} {vs : List V} {ds : List D} {i : Int} {d : D} (h : Rps K mg H ι vs ds) (e : Dl.atI ds i = some d) : ∃ v, L2.atI vs i = some v ∧ Rp K mg H ι v d := by
  unfold Dl.atI at e
  cases e1 : Dl.ixN ds.length i with
  | none => rw [e1] at e; cases e
  | some j =>
    rw [e1] at e
    obtain ⟨v, q1, q2⟩ := h.get (i := j) (d := d) e
    refine ⟨v, ?_, q2⟩
    unfold L2.atI
    have : L2.ixN vs.length i = some j := by rw [h.length]; exact e1
    rw [this]; exact q1
theorem sim_ix {K : PySem.W.Frag} {mg : Str → Option Value} : Sim2 K mg (rIx K) ixP where
  run := fun x y dx dy H S ι d S' Q r px py e h => by
    unfold ixP at e
    split at e
    · rename_i n i q
      cases q
      split at e
      · rename_i xs e1
        split at e
        · rename_i z e2
          cases e
          obtain ⟨a, rfl, ha⟩ := px.ref_inv
          obtain ⟨vs, h1, h2⟩ := r.lstAt ha e1
          obtain ⟨v, h3, h4⟩ := h2.atI e2
          cases py
          exact .inl ⟨a, vs, i, v, rfl, rfl, h1, h3, h v H ι .refl r h4⟩
        · cases e
      · cases e
    · rename_i xs i q
      cases q
      split at e
      · rename_i z e2
        cases e
        obtain ⟨a, vs, rfl, h1, _, h2⟩ := px.tup_inv
        obtain ⟨v, h3, h4⟩ := h2.atI e2
        cases py
        exact .inr (.inl ⟨a, vs, i, v, rfl, rfl, h1, h3, h v H ι .refl r h4⟩)
      · cases e
    · rename_i xs i q
      cases q
      split at e
      · rename_i z e2
        cases e
        obtain ⟨a, vs, rfl, h1, _, h2⟩ := px.lit_inv
        obtain ⟨v, h3, h4⟩ := h2.atI e2
        cases py
        exact .inl ⟨a, vs, i, v, rfl, rfl, h1, h3, h v H ι .refl r h4⟩
      · cases e
    · rename_i xs i q
      cases q
      split at e
      · rename_i hl
        split at e
        · rename_i z e2
          cases e; cases px; cases py
          refine .inr (.inr ⟨_, i, z, rfl, rfl, by rw [toS_length, ← LIM_eq]; exact hl, ?_, h _ H ι .refl r (.str [z])⟩)
          rw [toS_list]; exact e2
        · cases e
      · cases e
    · cases e
  nox := fun ds S x S' z => by
    unfold ixP at z
    repeat (first | cases z | exact ite_exc z | split at z)
theorem se_ix (ha : SE X W a m) (hb : SE X W b m') (hs : PlainIx b := by exact fun _ _ => rfl) : SE X W (.Subscript a b pos) (callM ixP [m, m']) :=
  pe_imp (pe_ix ix_seq ha hb hs) fun _ _ _ h => opN sim_ix h

/-! ### slices -/
theorem Rps.cut {K : PySem.W.Frag} {mg : Str → Option Value} {H : Hp} {ι : List Addr} {vs : List V} {ds : List D} (lo hi : Option Int) (h : Rps K mg H ι vs ds) : Rps K mg H ι (cutV vs lo hi) (Dl.cut ds lo hi) := by
  unfold cutV Dl.cut
  rw [h.length]
  exact (h.drop _).take _
abbrev SO (X : Cx) (W : WX) (e : Option Expr) (m : Option EM) : Prop := PO X e (fun σ H Q => ∃ δ S ι, Rel X.K X.mg H ι σ δ S ∧ match optI m δ S with
  | .ok o S' => ∀ H' ι', Grow X.K H ι H' ι' → RS X.K X.mg H' ι' S' → Q o H'
  | .exc e S' => ∀ cls dx H' ι', Grow X.K H ι H' ι' → RS X.K X.mg H' ι' S' → RX X.K X.mg H' ι' e cls dx → W cls dx σ H'
  | .stuck => False)
theorem po_imp {e : Option Expr} {t t' : TO} (h : PO X e t) (i : ∀ σ H Q, t' σ H Q → t σ H Q) : PO X e t' := ⟨fun pins s σ H Q I hw => h.run pins s σ H Q I (i _ _ _ hw)⟩
theorem so_none : SO X W none none := po_imp po_none fun σ H Q h => by
  obtain ⟨δ, S, ι, r, h⟩ := h
  exact h H ι .refl r.sto
theorem so_some (h : SE X W e m) : SO X W (some e) (some m) := po_imp (po_some h) fun σ H Q h => by
  obtain ⟨δ, S, ι, r, h⟩ := h
  refine ⟨δ, S, ι, r, ?_⟩
  unfold optI at h
  cases e1 : m δ S with
  | ok d S1 =>
    simp only [e1, Res.bind_ok] at h
    intro v H' ι' g r1 p1
    cases d with
    | int i => cases p1; exact ⟨i, rfl, h H' ι' g r1⟩
    | _ => exact h.elim
  | exc x S1 => simp only [e1, Res.bind_exc] at h; exact h
  | stuck => simp only [e1, Res.bind_stuck] at h
def rSlAll (K : PySem.W.Frag) : V → Option Int → Option Int → Hp → VK → Prop := fun x lo hi H Q => rSlL K x lo hi H Q ∨ rSlA K x lo hi H Q ∨ rSlS x lo hi H Q
theorem sl_all : SlR X (rSlAll X.K) := sl_list.or (sl_tupA.or sl_str)
theorem cut_whole {ds : List D} {lo hi : Option Int} (h : HT.sIx ds.length 0 lo = 0 ∧ HT.sIx ds.length ds.length hi = ds.length) : Dl.cut ds lo hi = ds := by
  have h1 : Dl.sIx ds.length 0 lo = 0 := h.1
  have h2 : Dl.sIx ds.length ds.length hi = ds.length := h.2
  unfold Dl.cut
  rw [h1, h2]; simp
theorem se_slice {lo hi : Option Expr} {ml mh : Option EM} {p2} (he : SE X W e m) (hl : SO X W lo ml) (hu : SO X W hi mh) : SE X W (.Subscript e (.Slice lo hi none p2) pos) (sliceM m ml mh) := by
  refine pe_imp (pe_slice sl_all he hl hu) fun σ H Q h => ?_
  obtain ⟨δ, S, ι, rl, h⟩ := h
  refine ⟨δ, S, ι, rl, PostE.seq h fun v H1 ι1 d S1 _ g1 r1 p1 h1 => ?_⟩
  refine ⟨δ, S1, ι1, rl.mono g1 r1, ?_⟩
  cases e1 : optI ml δ S1 with
  | stuck => rw [e1] at h1; exact h1
  | exc x S2 => rw [e1] at h1; exact h1
  | ok l S2 =>
    rw [e1] at h1
    intro H2 ι2 g2 r2
    refine ⟨δ, S2, ι2, rl.mono (g1.trans g2) r2, ?_⟩
    have h1 := PostE.back g2 h1
    simp only [Res.bind_ok] at h1
    cases e2 : optI mh δ S2 with
    | stuck => rw [e2] at h1; exact h1
    | exc x S3 => rw [e2] at h1; exact h1
    | ok u S3 =>
      rw [e2] at h1
      intro H3 ι3 g3 r3
      have h1 := PostE.back g3 h1
      simp only [Res.bind_ok] at h1
      have p3 := p1.mono (g2.trans g3)
      unfold sliceP at h1
      split at h1
      · rename_i n
        split at h1
        · rename_i xs e3
          obtain ⟨a, rfl, ha⟩ := p3.ref_inv
          obtain ⟨vs, q1, q2⟩ := r3.lstAt ha e3
          refine .inl ⟨a, vs, rfl, q1, fun p hp => ?_⟩
          obtain ⟨g, r', q'⟩ := r3.newL hp (q2.cut l u)
          exact h1 _ _ _ g r' q'
        · exact h1.elim
      · rename_i xs
        obtain ⟨a, vs, rfl, q1, q2, q3⟩ := p3.tup_inv
        refine .inr (.inl ⟨a, vs, rfl, q1, fun hw => ?_, fun _ p hp => ?_⟩)
        · rw [q3.length] at hw
          rw [cut_whole hw] at h1
          exact h1 _ H3 ι3 .refl r3 (.tup q1 q2 q3)
        · obtain ⟨g, r', q'⟩ := r3.mkT hp (ws := cutV vs l u) (Nat.le_trans (cutV_length vs l u) q2) (q3.cut l u)
          exact h1 _ _ _ g r' q'
      · rename_i xs
        obtain ⟨a, vs, rfl, q1, q2, q3⟩ := p3.lit_inv
        refine .inl ⟨a, vs, rfl, q1, fun p hp => ?_⟩
        obtain ⟨g, r', q'⟩ := r3.newL hp (q3.cut l u)
        exact h1 _ _ _ g r' q'
      · rename_i xs _ _ _
        split at h1
        · rename_i hz
          cases p3
          refine .inr (.inr ⟨_, rfl, by rw [toS_length, ← LIM_eq]; exact hz, ?_⟩)
          have : cutS (toS xs) l u = toS (Dl.cut xs l u) := by
            unfold cutS Dl.cut
            rw [toS_list, toS_length]; rfl
          rw [this]
          exact h1 _ H3 ι3 .refl r3 (.str _)
        · exact h1.elim
      · exact h1.elim
end
end Dl

end

section
set_option linter.all false
set_option Elab.async false
set_option maxRecDepth 100000
set_option Elab.async false
set_option linter.all false
set_option maxRecDepth 100000
set_option maxHeartbeats 4000000
namespace Dl
open PySem PySem.Spec PyProof.Rows L2

/-! ### defs -/
def PostC (K : PySem.W.Frag) (mg : Str → Option Value) (H : Hp) (ι : List Addr) (r : Res D) (Q : VK) (E : XK) : Prop := match r with
  | .ok d S' => ∀ v H' ι', Grow K H ι H' ι' → RS K mg H' ι' S' → Rp K mg H' ι' v d → Q v H'
  | .exc e S' => ∀ cls dx H' ι', Grow K H ι H' ι' → RS K mg H' ι' S' → RX K mg H' ι' e cls dx → E cls dx H'
  | .stuck => False
/-- what a def that does as F promises -/
def spOf (K : PySem.W.Frag) (mg : Str → Option Value) (F : FM) (n : Nat) : Sp := fun vs H Q E => vs.length = n ∧ ∃ ds S ι, RS K mg H ι S ∧ Rps K mg H ι vs ds ∧ PostC K mg H ι (F ds S) Q E
/-- the def x of the module does as F, at most lv calls deep -/
structure FT (P : Program) (w : World) (K : PySem.W.Frag) (mg : Str → Option Value) (base : Heap) (lv : Nat) (x : String) (F : FM) (n : Nat) : Prop where
  ex : ∃ (f : Addr) (fd : FuncData) (ps : List Str), FnOk P w K mg base (L2.CX P w) lv f fd ps (spOf K mg F n) ∧ mg (Str.ofString x) = some (.ref f) ∧ PySem.W.keepIn K (.ref f) = true ∧ Binds K fd ps []
section
variable {X : Cx} {W : WX} {e o a b c : Expr} {es : List Expr} {m m' : EM} {ms : List EM} {p pos apos : Pos} {k n lv : Nat} {F : FM} {x : Str}
theorem callF {K : PySem.W.Frag} {mg : Str → Option Value} {σ : L2.St} {H : Hp} {Q : VK} (hn : ms.length = n) (h : cE K mg W (callM F ms) σ H Q) : tCallS (spOf K mg F n) (WE W) (cA K mg W (argsM ms)) σ H Q := by
  obtain ⟨δ, S, ι, rl, h⟩ := h
  refine ⟨δ, S, ι, rl, ?_⟩
  have h : PostE K mg W σ H ι ((argsM ms δ S).bind F) Q := h
  have ln : ∀ (ms : List EM) (S : Store) (ds : List D) (S1 : Store), argsM ms δ S = .ok ds S1 → ds.length = ms.length := by
    intro ms
    induction ms with
    | nil => intro S ds S1 e; cases e; rfl
    | cons m ms ih =>
      intro S ds S1 e
      obtain ⟨d, S2, e1, e2⟩ := bind_inv e
      obtain ⟨ds', S3, e3, e4⟩ := bind_inv e2
      cases e4
      simp [ih _ _ _ e3]
  refine PostA.seq h fun v H' ι' ds S1 e g r1 q hp => ⟨by rw [q.length, ln _ _ _ _ e, hn], ds, S1, ι', r1, q, ?_⟩
  cases e2 : F ds S1 with
  | ok d S' => rw [e2] at hp; exact hp
  | exc x S' => rw [e2] at hp; exact hp
  | stuck => rw [e2] at hp; exact hp.elim
theorem se_call (hr : Room k X.A) (tk : Takes X W) {y : String} (T : FT X.prog X.w X.K X.mg X.base lv y F n) (hk : lv ≤ k) (hx : x = Str.ofString y) (hg : Gl X x) (ha : SA X W (e :: es) ms) (hn : ms.length = n := by rfl) (hdb : (x == ("__debug__" : Str)) = false := by decide)
    (he : starEach (e :: es) X.env = (false, eval e X.env) :: starEach es X.env := by rfl) (hpl : (backTo pos (starEach es X.env)).any (·.1) = false := by rfl) : SE X W (.Call (.Name x p) (e :: es) [] pos) (callM F ms) := by
  subst hx
  obtain ⟨f, fd, ps, G, hm, hkp, hb⟩ := T.ex
  exact pe_imp (pe_callS G (hr.mono hk) hg hm hkp hb (fun σ => passAt tk σ) ha hdb he hpl) fun _ _ _ h => callF hn h
theorem se_call0 (hr : Room k X.A) (tk : Takes X W) {y : String} (T : FT X.prog X.w X.K X.mg X.base lv y F 0) (hk : lv ≤ k) (hx : x = Str.ofString y) (hg : Gl X x) (hdb : (x == ("__debug__" : Str)) = false := by decide) :
    SE X W (.Call (.Name x p) [] [] pos) (callM F []) := by
  subst hx
  obtain ⟨f, fd, ps, G, hm, hkp, hb⟩ := T.ex
  refine pe_imp (t := tCallS (spOf X.K X.mg F 0) (WE W) tNil) ⟨fun pins s σ H Q I h => ?_⟩ fun σ H Q h => ?_
  · refine wpAny_Call_Name_kw (ld_glob I hg hm ?_ hdb)
    exact PySem.W.callWith_K0 I.kIn hkp (run_fnS (us := []) G (hr.mono hk) hb (passAt tk σ) I .nil h)
  · obtain ⟨δ, S, ι, r, q⟩ := callF (n := 0) rfl h
    exact q [] H ι .refl r.sto .nil
/-- a def's body -/
theorem fn_core {P : Program} {w : World} {K : PySem.W.Frag} {mg : Str → Option Value} {base : Heap} {f : Addr} {fd : FuncData} {N ps : List Str} {st : Stmt} {x qual : Str} {body : SM} {slots : Nat}
    (G : Fun K x qual st f fd) (S : FnScope N ps (defScope st)) (hN : N.length = slots) (hn : ps.length = n)
    (hbody : ∀ (cdv : Value) (A : Around) (outer : List PySem.Env) (s : Shared) (H : Hp) (E : XK), Room lv (A.deeper (envOfC qual (defScope st) s.heap.objs.size f cdv)) →
      Takes (cxOf (L2.CX P w) P w K mg base N qual (defScope st) f cdv A outer s H E) (fun cls dx _ H => E cls dx H) →
      PassesOwn (model P w) (A.deeper (envOfC qual (defScope st) s.heap.objs.size f cdv)) (envOfC qual (defScope st) s.heap.objs.size f cdv) (cxOf (L2.CX P w) P w K mg base N qual (defScope st) f cdv A outer s H E).xe →
      SSs (cxOf (L2.CX P w) P w K mg base N qual (defScope st) f cdv A outer s H E) (fun cls dx _ H => E cls dx H) (defBody st) body) : FnOk P w K mg base (L2.CX P w) (lv + 1) f fd ps (spOf K mg (defM n slots body) n) := by
  refine Fun.okX G S (fun vs H Q E h => by rw [hn]; exact h.1) fun cdv A outer s H vs Q E hr h => ?_
  refine ⟨_, hbody cdv A outer s H E hr (takes_of rfl rfl rfl rfl) (passes_of (X := cxOf (L2.CX P w) P w K mg base N qual (defScope st) f cdv A outer s H E) rfl), ?_⟩
  obtain ⟨hl, ds, St, ι, r, q, h⟩ := h
  have hd : ds.length = n := by rw [← q.length]; exact hl
  refine ⟨ds.map some ++ List.replicate (slots - n) none, St, ι, ⟨?_, fun i d e => ?_, r⟩, ?_⟩
  · unfold L2.start
    simp [hN, hd, hl]
  · have hi : i < ds.length := by
      by_cases hi : i < ds.length
      · exact hi
      · rw [List.getElem?_append_right (by simpa using hi), List.getElem?_replicate] at e
        split at e <;> cases e
    rw [List.getElem?_append_left (by simpa using hi), List.getElem?_map] at e
    have e' : ds[i]? = some d := by
      cases e2 : ds[i]? with
      | none => rw [e2] at e; cases e
      | some z => rw [e2] at e; cases e; rfl
    obtain ⟨v, e1, e2⟩ := q.get e'
    refine ⟨v, ?_, e2⟩
    unfold L2.start
    rw [List.getElem?_append_left (by simpa [q.length] using hi), List.getElem?_map, e1]; rfl
  · unfold defM at h
    rw [if_pos hd] at h
    cases e1 : body (ds.map some ++ List.replicate (slots - n) none) St with
    | stuck => rw [e1] at h; exact h.elim
    | exc x S1 =>
      rw [e1] at h
      exact h.elim
    | ok fl S1 =>
      rw [e1] at h
      cases fl with
      | nx δ' => exact fun σ' H' ι' g rl => h .non H' ι' g rl.sto .non
      | rt d => exact h
      | bk δ' => exact h.elim
      | ct δ' => exact h.elim
      | ex x δ' => exact fun cls dx σ' H' ι' g rl z => h cls dx H' ι' g rl.sto z
end
/-- a def of the module -/
theorem ft_of {P : Program} {w : World} {K : PySem.W.Frag} {mg : Str → Option Value} {base : Heap} {f : Addr} {fd : FuncData} {ps : List Str} {y : String} {F : FM} {n lv : Nat}
    (G : FnOk P w K mg base (L2.CX P w) lv f fd ps (spOf K mg F n)) (hm : mg (Str.ofString y) = some (.ref f)) (hk : PySem.W.keepIn K (.ref f) = true) (hb : Binds K fd ps []) : FT P w K mg base lv y F n := ⟨f, fd, ps, G, hm, hk, hb⟩
theorem FT.mono {P : Program} {w : World} {K : PySem.W.Frag} {mg : Str → Option Value} {base : Heap} {y : String} {F : FM} {n lv lv' : Nat} (T : FT P w K mg base lv y F n) (h : lv ≤ lv') : FT P w K mg base lv' y F n := by
  obtain ⟨f, fd, ps, G, h1, h2, h3⟩ := T.ex
  exact ⟨f, fd, ps, G.mono h, h1, h2, h3⟩
/-- what the law's own def is to promise -/
def spLaw (K : PySem.W.Frag) : Sp := fun vs H Q _ => ∃ (a : Addr) (ns : List Int), vs = [.ref a] ∧ SqL K H a (ns.map V.int) ∧ Only H ∧ ns.length ≤ 63 ∧ ∀ H', Q (.bl true) H'
theorem law_imp {P : Program} {w : World} {K : PySem.W.Frag} {mg : Str → Option Value} {base : Heap} {f : Addr} {fd : FuncData} {ps : List Str} {F : FM} {lv : Nat} (G : FnOk P w K mg base (L2.CX P w) lv f fd ps (spOf K mg F 1))
    (h : ∀ ns : List Int, ns.length ≤ 63 → ∃ S', F [.lit (ns.map D.int)] [] = .ok (.bl true) S') : FnOk P w K mg base (L2.CX P w) lv f fd ps (spLaw K) := by
  refine G.imp fun vs H Q E q => ?_
  obtain ⟨a, ns, rfl, hs, hO, hl, q⟩ := q
  obtain ⟨S', e⟩ := h ns hl
  have hints : ∀ l : List Int, Rps K mg H [] (l.map V.int) (l.map D.int) := by
    intro l
    induction l with
    | nil => exact .nil
    | cons x l ih => exact .cons (.int x) ih
  have hK : SqK K H a (ns.map V.int) := by
    rcases hs with (hs | hs) | hs
    · rcases hO a with z | ⟨o, xs, z⟩
      · rw [z] at hs; cases hs
      · rw [z] at hs; cases hs
    · exact .inl hs
    · exact .inr (.inr hs)
  refine ⟨rfl, [.lit (ns.map D.int)], [], [], ⟨rfl, List.nodup_nil, fun n o a e _ => by simp at e⟩, .cons (.lit hK (by simp; rw [sizeLine_eq]; omega) (hints ns)) .nil, ?_⟩
  rw [e]
  intro v H' ι' _ _ p
  cases p
  exact q H'
theorem cx_none {P : Program} {w : World} {H : Hp} {s : Shared} {e : Value} {s' : Shared} (h : L2.CX P w [] H s (fun _ _ _ => False) e s') : False := by
  obtain ⟨_, _, _, _, _, _, _, _, _, _, _, _, z⟩ := h
  exact z
end Dl

end

section
set_option linter.all false
set_option Elab.async false
set_option maxRecDepth 100000
set_option Elab.async false
set_option linter.all false
set_option maxRecDepth 100000
set_option maxHeartbeats 4000000
namespace Dl
open PySem PySem.Spec PyProof.Rows L2

section
variable {K : PySem.W.Frag} {mg : Str → Option Value} {W : WX} {σ : L2.St} {δ : Dl.Env} {H : Hp} {ι : List Addr} {S : Store}
theorem PostS.seqE {r : Res D} {f : D → Store → Res Flow} {D : Ends} (rl : Rel K mg H ι σ δ S) (h : PostS K mg W D H ι (r.thenS δ f))
    {Q' : VK} (q : ∀ v H' ι' d S', r = .ok d S' → Grow K H ι H' ι' → RS K mg H' ι' S' → Rp K mg H' ι' v d → PostS K mg W D H' ι' (f d S') → Q' v H') : PostE K mg W σ H ι r Q' := by
  cases r with
  | ok d S => exact fun v H' ι' a b c => q v H' ι' d S rfl a b c (h.back a)
  | exc e S => exact fun c dx H' ι' g q z => h c dx σ H' ι' g (rl.mono g q) z
  | stuck => exact h
theorem PostS.seqT {r : Res Bool} {f : Bool → Store → Res Flow} {D : Ends} (rl : Rel K mg H ι σ δ S) (h : PostS K mg W D H ι (r.thenS δ f))
    {Q' : Bool → Hp → Prop} (q : ∀ H' ι' d S', r = .ok d S' → Grow K H ι H' ι' → RS K mg H' ι' S' → PostS K mg W D H' ι' (f d S') → Q' d H') : PostT K mg W σ H ι r Q' := by
  cases r with
  | ok d S => exact fun H' ι' a b => q H' ι' d S rfl a b (h.back a)
  | exc e S => exact fun c dx H' ι' g q z => h c dx σ H' ι' g (rl.mono g q) z
  | stuck => exact h
theorem PostS.imp {r : Res Flow} {D D' : Ends} (h : PostS K mg W D H ι r) (h1 : ∀ σ H, D.nx σ H → D'.nx σ H) (h2 : ∀ v H, D.rt v H → D'.rt v H) (h3 : ∀ σ H, D.bk σ H → D'.bk σ H) (h4 : ∀ σ H, D.ct σ H → D'.ct σ H) : PostS K mg W D' H ι r := by
  cases r with
  | ok f S =>
    cases f with
    | nx δ => exact fun σ' H' ι' a b => h1 _ _ (h σ' H' ι' a b)
    | bk δ => exact fun σ' H' ι' a b => h3 _ _ (h σ' H' ι' a b)
    | ct δ => exact fun σ' H' ι' a b => h4 _ _ (h σ' H' ι' a b)
    | rt d => exact fun v H' ι' a b c => h2 _ _ (h v H' ι' a b c)
    | ex e δ => exact h
  | exc e S => exact h
  | stuck => exact h
end

section
variable {X : Cx} {W : WX} {e o a b c : Expr} {es : List Expr} {m m' : EM} {ms : List EM} {p pos apos : Pos} {k n lv : Nat} {x : Str}
variable {st : Stmt} {sts rest : List Stmt} {s s' : SM} {ss : List SM} {t : TM}
/-! ### blocks -/
theorem ss_nil : SSs X W [] (blkS []) := pss_imp pss_nil fun D σ H h => by
  obtain ⟨δ, S, ι, r, h⟩ := h
  exact h σ H ι .refl r
theorem ss_one (h : SS X W st s) : SSs X W [st] (blkS [s]) := pss_one h
theorem ss_cons {s2 : SM} (h : SS X W st s) (h2 : SSs X W rest (blkS (s2 :: ss))) : SSs X W (st :: rest) (blkS (s :: s2 :: ss)) := by
  refine pss_imp (pss_cons h h2) fun D σ H q => ?_
  obtain ⟨δ, S, ι, r, q⟩ := q
  refine ⟨δ, S, ι, r, ?_⟩
  have q : PostS X.K X.mg W D H ι ((s δ S).bind fun f S1 => match f with | .nx δ1 => blkS (s2 :: ss) δ1 S1 | _ => .ok f S1) := q
  cases e1 : s δ S with
  | stuck => rw [e1] at q; exact q
  | exc x S1 => rw [e1] at q; exact q
  | ok f S1 =>
    rw [e1] at q
    cases f with
    | nx δ1 => exact fun σ' H' ι' g r1 => ⟨δ1, S1, ι', r1, PostS.back g q⟩
    | bk δ1 => exact q
    | ct δ1 => exact q
    | rt d => exact q
    | ex y δ1 => exact q
/-! ### small statements -/
theorem ss_pass : SS X W (.Pass pos) nilS := ps_imp ps_pass fun D σ H h => by
  obtain ⟨δ, S, ι, r, h⟩ := h
  exact h σ H ι .refl r
theorem ss_brk : SS X W (.Break pos) brkS := ps_imp ps_break fun D σ H h => by
  obtain ⟨δ, S, ι, r, h⟩ := h
  exact h σ H ι .refl r
theorem ss_cnt : SS X W (.Continue pos) cntS := ps_imp ps_continue fun D σ H h => by
  obtain ⟨δ, S, ι, r, h⟩ := h
  exact h σ H ι .refl r
theorem ss_never : SS X W st neverS := ps_imp ps_never fun D σ H h => by
  obtain ⟨δ, S, ι, r, h⟩ := h
  exact h.elim
theorem ss_expr (h : SE X W e m) (hs : swapsWith e none pos.line X.env = pure false := by rfl) : SS X W (.Expr e pos) (exprS m) := ps_imp (ps_expr h hs) fun D σ H q => by
  obtain ⟨δ, S, ι, r, q⟩ := q
  exact ⟨δ, S, ι, r, PostS.seqE r q fun v H' ι' d S' _ g r1 _ q1 => q1 σ H' ι' .refl (r.mono g r1)⟩
theorem ss_ret (h : SE X W e m) : SS X W (.Return (some e) pos) (retS m) := ps_imp (ps_ret h) fun D σ H q => by
  obtain ⟨δ, S, ι, r, q⟩ := q
  exact ⟨δ, S, ι, r, PostS.seqE r q fun v H' ι' d S' _ g r1 p1 q1 => q1 v H' ι' .refl r1 p1⟩
theorem ss_retN : SS X W (.Return none pos) retN := ps_imp ps_retN fun D σ H q => by
  obtain ⟨δ, S, ι, r, q⟩ := q
  exact q .non H ι .refl r.sto .non
theorem ss_if {sa sb : List Stmt} {s1 s2 : SM} (hc : ST X W c t) (ha : SSs X W sa s1) (hb : SSs X W sb s2) : SS X W (.If c sa sb pos) (ifS t s1 s2) := ps_imp (ps_if hc ha hb) fun D σ H q => by
  obtain ⟨δ, S, ι, r, q⟩ := q
  refine ⟨δ, S, ι, r, PostS.seqT r q fun H' ι' d S' _ g r1 q1 => ?_⟩
  cases d with
  | true => exact iteT ⟨δ, S', ι', r.mono g r1, q1⟩
  | false => exact iteF ⟨δ, S', ι', r.mono g r1, q1⟩

/-! ### targets -/
def Tgt.names : Tgt → List Nat
  | .nm i => [i]
  | .tp is => is
def gNames : List Nat → TGs
  | [] => gNil
  | i :: is => gCons (gName i) (gNames is)
def Tgt.g (K : PySem.W.Frag) : Tgt → TG
  | .nm i => gName i
  | .tp is => gTup K is.length (gNames is)
def setAllV : List Nat → List V → L2.St → L2.St
  | i :: is, v :: vs, σ => setAllV is vs (σ.set i (some v))
  | _, _, σ => σ
theorem gNames_run {Q : L2.St → Hp → Prop} {H : Hp} : ∀ {is : List Nat} {vs : List V} {σ : L2.St}, vs.length = is.length → Q (setAllV is vs σ) H → gNames is vs σ H Q
  | [], [], σ, _, q => ⟨rfl, q⟩
  | i :: is, v :: vs, σ, hl, q => ⟨v, vs, rfl, gNames_run (by simpa using hl) q⟩
  | [], _ :: _, _, hl, _ => by simp at hl
  | _ :: _, [], _, hl, _ => by simp at hl
theorem Rel.setAll {K : PySem.W.Frag} {mg : Str → Option Value} {H : Hp} {ι : List Addr} {S : Store} : ∀ {is : List Nat} {vs : List V} {ds : List D} {σ : L2.St} {δ : Dl.Env}, Rel K mg H ι σ δ S → Rps K mg H ι vs ds → Rel K mg H ι (setAllV is vs σ) (Dl.setAll is ds δ) S
  | [], _, _, _, _, r, _ => by simpa [setAllV, Dl.setAll] using r
  | _ :: _, _, [], _, _, r, h => by cases h; simpa [setAllV, Dl.setAll] using r
  | i :: is, _, d :: ds, _, _, r, h => by
    cases h with
    | cons h1 h2 => exact Rel.setAll (is := is) (Rel.set (i := i) r h1) h2
/-- what a target's store does with the slots -/
def Tgt.putV : Tgt → V → List V → L2.St → L2.St
  | .nm i, v, _, σ => σ.set i (some v)
  | .tp is, _, vs, σ => setAllV is vs σ
theorem Tgt.run {K : PySem.W.Frag} {mg : Str → Option Value} {H : Hp} {ι : List Addr} {S : Store} {tg : Tgt} {v : V} {d : D} {σ : L2.St} {δ δ' : Dl.Env} {Q : L2.St → Hp → Prop} (r : Rel K mg H ι σ δ S) (p : Rp K mg H ι v d) (e : tg.put d δ = some δ')
    (h : ∀ vs, Rel K mg H ι (tg.putV v vs σ) δ' S → Q (tg.putV v vs σ) H) : tg.g K v σ H Q := by
  cases tg with
  | nm i =>
    cases e
    exact h [] (r.set p)
  | tp is =>
    cases d with
    | tup ds =>
      obtain ⟨a, vs, rfl, h1, _, h2⟩ := p.tup_inv
      unfold Tgt.put at e
      simp only at e
      split at e
      · rename_i hl
        cases e
        refine ⟨a, vs, rfl, h1, by rw [h2.length, hl], gNames_run (by rw [h2.length, hl]) (h vs (Rel.setAll r h2))⟩
      · cases e
    | _ => cases e
/-- a target as it stands in the text -/
abbrev SG (X : Cx) (e : Expr) (tg : Tgt) : Prop := PG X e (tg.g X.K)
theorem sg_nm (i : Nat) (hN : X.N.Nodup) (hi : X.N[i]? = some x := by rfl) (hx : Loc X.env.scope x := by first | exact .inl rfl | exact .inr rfl) (hf : X.fn x = true ∨ X.env.scope.names.lookup x = some .local := by first | exact .inl rfl | exact .inr rfl | assumption) : SG X (.Name x pos) (.nm i) := pg_name hN hi hx hf
abbrev SGs (X : Cx) (es : List Expr) (is : List Nat) : Prop := PGs X es (gNames is)
theorem sgs_nil : SGs X [] [] := pgs_nil
theorem sgs_cons {i : Nat} {is : List Nat} (h1 : SG X e (.nm i)) (h2 : SGs X es is) (hs : (assignEach (e :: es) X.env).map (·.2) = assign e X.env :: (assignEach es X.env).map (·.2) := by rfl) : SGs X (e :: es) (i :: is) := pgs_cons h1 h2 hs
theorem sg_tp {j : Nat} {is : List Nat} (hc : X.calm = true) (h : SGs X es is) (hn : (assignEach es X.env).length = is.length := by rfl) (hst : (assignEach es X.env).findIdx? (·.1) = none := by rfl) : SG X (.Tuple es j pos) (.tp is) := pg_tup hc h hn hst
theorem asg_run {K : PySem.W.Frag} {mg : Str → Option Value} {D : Ends} {σ : L2.St} {H : Hp} {tg : Tgt} {te : TE} (i : ∀ {Q}, cE K mg W m σ H Q → te σ H Q) (q : cS K mg W (setS tg m) D σ H) : tAsg te (tg.g K) D σ H := by
  obtain ⟨δ, S, ι, r, q⟩ := q
  refine i ⟨δ, S, ι, r, PostS.seqE r q fun v H' ι' d S' _ g r1 p1 q1 => ?_⟩
  cases e : tg.put d δ with
  | none => rw [e] at q1; exact q1.elim
  | some δ' =>
    rw [e] at q1
    exact Tgt.run (r.mono g r1) p1 e fun vs r2 => q1 _ H' ι' .refl r2
theorem ss_set (i : Nat) {pos' : Pos} (hN : X.N.Nodup) (he : SE X W e m) (hi : X.N[i]? = some x := by rfl) (hx : Loc X.env.scope x := by first | exact .inl rfl | exact .inr rfl) (hs : swapsWith e (some (.Name x pos')) pos.line X.env = pure false := by rfl)
    (hf : X.fn x = true ∨ X.env.scope.names.lookup x = some .local := by first | exact .inl rfl | exact .inr rfl | assumption) : SS X W (.Assign [.Name x pos'] e pos) (setS (.nm i) m) :=
  ps_imp (ps_set (i := i) hN hi hx he hs hf) fun D σ H q => asg_run (tg := .nm i) (fun h => h) q
theorem ss_asg {tge : Expr} {tg : Tgt} (he : SE X W e m) (hg : SG X tge tg) (hs : swapsWithSole [tge] e pos.line X.env = pure false := by rfl) (hw : swappedStores [tge] e X.env = pure none := by rfl)
    (h1 : (assignEach [tge] X.env).map (·.2) = [assign tge X.env] := by rfl) : SS X W (.Assign [tge] e pos) (setS tg m) :=
  ps_imp (ps_asg he hg hs hw h1) fun D σ H q => asg_run (tg := tg) (fun h => h) q
/-- name op= e -/
theorem ss_aug (i : Nat) {op : Operator} {r : R2} {f : FM} {pos' : Pos} (ho : OpR X (inplaceOp op) r) (sm : Sim2 X.K X.mg r f) (hN : X.N.Nodup) (he : SE X W e m) (hi : X.N[i]? = some x := by rfl) (hx : Loc X.env.scope x := by first | exact .inl rfl | exact .inr rfl)
    (hf : X.fn x = true ∨ X.env.scope.names.lookup x = some .local := by first | exact .inl rfl | exact .inr rfl | assumption) : SS X W (.AugAssign (.Name x pos') op e pos) (augS i f m) := by
  refine ps_imp (ps_aug (i := i) hN hi hx he (fun pins s σ H x y v u Q I rx ry h => ho pins s σ H x y v u Q I rx ry h) hf) fun D σ H q => ?_
  obtain ⟨δ, S, ι, rl, q⟩ := q
  unfold augS at q
  split at q
  · rename_i dx e1
    obtain ⟨v, e2, p0⟩ := rl.env i dx e1
    refine ⟨v, e2, δ, S, ι, rl, PostS.seqE rl q fun w H1 ι1 dy S1 _ g r1 p1 q1 => ?_⟩
    cases e3 : f [dx, dy] S1 with
    | stuck => rw [e3] at q1; exact q1.elim
    | exc y S2 => exact (sm.nox _ _ _ _ e3).elim
    | ok z S2 =>
      rw [e3] at q1
      refine sm.run v w dx dy H1 S1 ι1 z S2 _ r1 (p0.mono g) p1 e3 fun u H2 ι2 g2 r2 p2 => ?_
      exact q1 _ H2 ι2 g2 ((rl.mono (g.trans g2) r2).set p2)
  · exact q.elim

/-! ### loops -/
/-- what is walked: its items at each turn -/
def PostI (K : PySem.W.Frag) (mg : Str → Option Value) (W : WX) (σ : L2.St) (H : Hp) (ι : List Addr) (r : Res Src) (R : It → Hp → Prop) : Prop := match r with
  | .ok s S' => ∀ J H' ι', Grow K H ι H' ι' → RS K mg H' ι' S' →
      (∀ i d H2 ι2 S2, Grow K H' ι' H2 ι2 → RS K mg H2 ι2 S2 → s.still S2 = true → s.items[i]? = some d → J.go i H2 ∧ ∀ x H3, J.yld i H2 x H3 → ∃ ι3, Grow K H2 ι2 H3 ι3 ∧ RS K mg H3 ι3 S2 ∧ Rp K mg H3 ι3 x d) →
      (∀ H2 ι2 S2, Grow K H' ι' H2 ι2 → RS K mg H2 ι2 S2 → s.still S2 = true → J.stop s.items.length H2) → R J H'
  | .exc e S' => ∀ cls dx H' ι', Grow K H ι H' ι' → RS K mg H' ι' S' → RX K mg H' ι' e cls dx → W cls dx σ H'
  | .stuck => False
def cI (K : PySem.W.Frag) (mg : Str → Option Value) (W : WX) (m : IM) : TI := fun σ H R => ∃ δ S ι, Rel K mg H ι σ δ S ∧ PostI K mg W σ H ι (m δ S) R
abbrev SI (X : Cx) (W : WX) (tg e : Expr) (m : IM) : Prop := PI X tg e (cI X.K X.mg W m)
theorem pi_imp {tg e : Expr} {t t' : TI} (h : PI X tg e t) (i : ∀ σ H R, t' σ H R → t σ H R) : PI X tg e t' := ⟨fun pins s σ H R I hw => h.run pins s σ H R I (i _ _ _ hw)⟩
theorem PI.or {tg e : Expr} {t' : TI} (h : ∀ σ H R, t' σ H R → ∃ t, PI X tg e t ∧ t σ H R) : PI X tg e t' := ⟨fun pins s σ H R I hw => by
  obtain ⟨t, h1, h2⟩ := h σ H R hw
  exact h1.run pins s σ H R I h2⟩
theorem forGo {K : PySem.W.Frag} {mg : Str → Option Value} {tg : Tgt} {tb : TS} {D : Ends} {s : Src} {body : SM} {J : It} {H0 : Hp} {ι0 : List Addr} {σ : L2.St} {δ : Dl.Env} {S : Store} (hb : ∀ D σ H, cS K mg W body D σ H → tb D σ H)
    (hgo : ∀ i d H2 ι2 S2, Grow K H0 ι0 H2 ι2 → RS K mg H2 ι2 S2 → s.still S2 = true → s.items[i]? = some d → J.go i H2 ∧ ∀ x H3, J.yld i H2 x H3 → ∃ ι3, Grow K H2 ι2 H3 ι3 ∧ RS K mg H3 ι3 S2 ∧ Rp K mg H3 ι3 x d)
    (hst : ∀ H2 ι2 S2, Grow K H0 ι0 H2 ι2 → RS K mg H2 ι2 S2 → s.still S2 = true → J.stop s.items.length H2)
    (rl : Rel K mg H0 ι0 σ δ S) (h : PostS K mg W D H0 ι0 (forLoop s.still tg body s.items δ S)) :
    ∃ W : Nat → Nat → L2.St → Hp → Prop, (∃ m, W 0 m σ H0) ∧ ∀ i m σ H, W i m σ H →
      (J.stop i H ∧ D.nx σ H) ∨ (J.go i H ∧ ∃ N : L2.St → Hp → Prop, (∀ σ' H', N σ' H' → ∃ m', m' < m ∧ W (i + 1) m' σ' H') ∧ ∀ x H', J.yld i H x H' → tg.g K x σ H' fun σ2 H2 => tb { D with nx := N, ct := N, bk := D.nx } σ2 H2) := by
  refine ⟨fun i m σ H => ∃ δ S ι, i + m = s.items.length ∧ Grow K H0 ι0 H ι ∧ Rel K mg H ι σ δ S ∧ PostS K mg W D H ι (forLoop s.still tg body (s.items.drop i) δ S), ⟨s.items.length, δ, S, ι0, by simp, .refl, rl, by simpa using h⟩, ?_⟩
  rintro i m σ H ⟨δ, S, ι, hm, g, rl, h⟩
  by_cases hi : i < s.items.length
  · have hd : s.items.drop i = s.items[i] :: s.items.drop (i + 1) := List.drop_eq_getElem_cons hi
    rw [hd] at h
    unfold forLoop at h
    split at h
    · rename_i hstill
      obtain ⟨h1, h2⟩ := hgo i s.items[i] H ι S g rl.sto hstill (List.getElem?_eq_getElem hi)
      refine .inr ⟨h1, fun σ' H' => ∃ δ S ι, i + 1 + (m - 1) = s.items.length ∧ Grow K H0 ι0 H' ι ∧ Rel K mg H' ι σ' δ S ∧ PostS K mg W D H' ι (forLoop s.still tg body (s.items.drop (i + 1)) δ S), fun σ' H' hN => ⟨m - 1, by omega, hN⟩, fun x H' hy => ?_⟩
      obtain ⟨ι3, g3, r3, p3⟩ := h2 x H' hy
      cases e : tg.put s.items[i] δ with
      | none => rw [e] at h; exact h.elim
      | some δ1 =>
        rw [e] at h
        refine Tgt.run (rl.mono g3 r3) p3 e fun vs r4 => hb _ _ _ ⟨δ1, S, ι3, r4, ?_⟩
        have h := PostS.back g3 h
        cases e1 : body δ1 S with
        | stuck => simp only [e1] at h; exact h
        | exc y S1 => simp only [e1] at h; exact h
        | ok f S1 =>
          simp only [e1, Res.bind_ok] at h
          cases f with
          | nx δ2 => exact fun σ' H2 ι2 g2 r2 => ⟨δ2, S1, ι2, by omega, (g.trans g3).trans g2, r2, PostS.back g2 h⟩
          | ct δ2 => exact fun σ' H2 ι2 g2 r2 => ⟨δ2, S1, ι2, by omega, (g.trans g3).trans g2, r2, PostS.back g2 h⟩
          | bk δ2 => exact h
          | rt d => exact h
          | ex y δ2 => exact h
    · exact h.elim
  · have e : i = s.items.length := by omega
    subst e
    rw [List.drop_length] at h
    unfold forLoop at h
    split at h
    · rename_i hstill
      exact .inl ⟨hst H ι S g rl.sto hstill, h σ H ι .refl rl⟩
    · exact h.elim
theorem ss_for {tge iter : Expr} {tg : Tgt} {body : List Stmt} {im : IM} (hp : PassesOwn (model X.prog X.w) X.A X.env X.xe) (hc : X.calm = true) (hi : SI X W tge iter im) (hg : SG X tge tg) (hb : SSs X W body s)
    (hs : ∀ x, foldedSetIterable iter X.env x = pure x := by intro _; rfl) : SS X W (.For tge iter body [] pos) (forS im tg s) := by
  refine ps_imp (ps_for hp hc hi hg hb hs) fun D σ H q => ?_
  obtain ⟨δ, S, ι, r, q⟩ := q
  refine ⟨δ, S, ι, r, ?_⟩
  have q : PostS X.K X.mg W D H ι ((im δ S).thenS δ fun s1 S1 => forLoop s1.still tg s s1.items δ S1) := q
  cases e1 : im δ S with
  | stuck => rw [e1] at q; exact q
  | exc y S1 => rw [e1] at q; exact fun c dx H' ι' g q1 z => q c dx σ H' ι' g (r.mono g q1) z
  | ok s1 S1 =>
    rw [e1] at q
    intro J H1 ι1 g1 r1 hgo hst
    exact forGo (fun D σ H h => h) hgo hst (r.mono g1 r1) (PostS.back g1 q)
theorem ss_while {body : List Stmt} (hp : PassesOwn (model X.prog X.w) X.A X.env X.xe) (hc : ST X W c t) (hb : SSs X W body s) : SS X W (.While c body [] pos) (whileS t s) := by
  refine ps_imp (ps_while hp hc hb) fun D σ H q => ?_
  obtain ⟨δ, S, ι, r, q⟩ := q
  refine ⟨fun m σ H => ∃ δ S ι, Rel X.K X.mg H ι σ δ S ∧ PostS X.K X.mg W D H ι (whileLoop t s m δ S), ⟨FUEL, δ, S, ι, r, q⟩, ?_⟩
  rintro m σ H ⟨δ, S, ι, r, q⟩
  refine ⟨δ, S, ι, r, ?_⟩
  cases m with
  | zero => exact q.elim
  | succ m =>
    refine PostS.seqT r q fun H' ι' d S' _ g r1 q1 => ?_
    cases d with
    | false => exact iteF (q1 σ H' ι' .refl (r.mono g r1))
    | true =>
      refine iteT ⟨fun σ' H' => ∃ δ S ι, Rel X.K X.mg H' ι σ' δ S ∧ PostS X.K X.mg W D H' ι (whileLoop t s m δ S), fun σ' H' hN => ⟨m, Nat.lt_succ_self m, hN⟩, δ, S', ι', r.mono g r1, ?_⟩
      have q1 : PostS X.K X.mg W D H' ι' ((s δ S').bind fun f S2 => (match f with
        | .nx δ2 => whileLoop t s m δ2 S2
        | .ct δ2 => whileLoop t s m δ2 S2
        | .bk δ2 => .ok (.nx δ2) S2
        | .rt d => .ok (.rt d) S2
        | .ex e δ2 => .ok (.ex e δ2) S2)) := q1
      cases e1 : s δ S' with
      | stuck => rw [e1] at q1; exact q1
      | exc y S1 => rw [e1] at q1; exact q1
      | ok f S1 =>
        rw [e1] at q1
        cases f with
        | nx δ2 => exact fun σ' H2 ι2 g2 r2 => ⟨δ2, S1, ι2, r2, PostS.back g2 q1⟩
        | ct δ2 => exact fun σ' H2 ι2 g2 r2 => ⟨δ2, S1, ι2, r2, PostS.back g2 q1⟩
        | bk δ2 => exact q1
        | rt d => exact q1
        | ex y δ2 => exact q1
/-! what is walked -/
theorem si_seq {tg : Expr} (he : SE X W e m) : SI X W tg e (seqI m) := by
  refine PI.or fun σ H R h => ?_
  obtain ⟨δ, S, ι, r, h⟩ := h
  have h : PostI X.K X.mg W σ H ι ((m δ S).bind fun d S1 => match d with
    | .ref n => (match lstAt S1 n with | some xs => .ok ⟨xs, isLst n xs⟩ S1 | none => .stuck)
    | .tup xs => .ok ⟨xs, always⟩ S1
    | .lit xs => .ok ⟨xs, always⟩ S1
    | _ => .stuck) R := h
  have go : ∀ (R' : VK), (∀ v H' ι' d S', m δ S = .ok d S' → Grow X.K H ι H' ι' → RS X.K X.mg H' ι' S' → Rp X.K X.mg H' ι' v d → R' v H') → cE X.K X.mg W m σ H R' := fun R' q => by
    refine ⟨δ, S, ι, r, ?_⟩
    cases e1 : m δ S with
    | ok d S1 => exact fun v H' ι' g r1 p1 => q v H' ι' d S1 e1 g r1 p1
    | exc y S1 => rw [e1] at h; exact h
    | stuck => rw [e1] at h; exact h
  cases e1 : m δ S with
  | stuck => rw [e1] at h; exact h.elim
  | exc y S1 => exact ⟨_, pi_tup he, go _ fun v H' ι' d S' e => by rw [e1] at e; cases e⟩
  | ok d S1 =>
    rw [e1] at h
    cases d with
    | ref n =>
      simp only [Res.bind_ok] at h
      cases e2 : lstAt S1 n with
      | none => rw [e2] at h; exact h.elim
      | some xs =>
        rw [e2] at h
        refine ⟨_, pi_list he, go _ fun v H' ι' d S' e g r1 p1 => ?_⟩
        rw [e1] at e; cases e
        obtain ⟨a, rfl, ha⟩ := p1.ref_inv
        obtain ⟨vs, k1, k2⟩ := r1.lstAt ha e2
        refine ⟨a, rfl, ⟨vs, k1⟩, h (Itl X.K a) H' ι' g r1 (fun i d H2 ι2 S2 g2 r2 hs hd => ?_) fun H2 ι2 S2 g2 r2 hs => ?_⟩
        · have hs : lstAt S2 n = some xs := of_decide_eq_true hs
          obtain ⟨ws, q1, q2⟩ := r2.lstAt (pre_get g2.pre ha) hs
          obtain ⟨w, q3, q4⟩ := q2.get hd
          refine ⟨⟨ws, w, q1, q3⟩, fun x H3 hy => ?_⟩
          obtain ⟨rfl, hy⟩ := hy
          have : w = x := Option.some.inj (q3.symm.trans (hy ws q1))
          exact ⟨ι2, .refl, r2, this ▸ q4⟩
        · have hs : lstAt S2 n = some xs := of_decide_eq_true hs
          obtain ⟨ws, q1, q2⟩ := r2.lstAt (pre_get g2.pre ha) hs
          exact ⟨ws, q1, by rw [q2.length]; exact Nat.le_refl _⟩
    | tup xs =>
      refine ⟨_, pi_tup he, go _ fun v H' ι' d S' e g r1 p1 => ?_⟩
      rw [e1] at e; cases e
      obtain ⟨a, vs, rfl, k1, _, k2⟩ := p1.tup_inv
      refine ⟨a, rfl, ⟨vs, k1⟩, h (Itt X.K a) H' ι' g r1 (fun i d H2 ι2 S2 g2 r2 hs hd => ?_) fun H2 ι2 S2 g2 r2 hs => ?_⟩
      · have q1 := g2.tup a vs k1
        obtain ⟨w, q3, q4⟩ := (k2.mono g2).get hd
        refine ⟨⟨vs, w, q1, q3⟩, fun x H3 hy => ?_⟩
        obtain ⟨rfl, hy⟩ := hy
        have : w = x := Option.some.inj (q3.symm.trans (hy vs q1))
        exact ⟨ι2, .refl, r2, this ▸ q4⟩
      · exact ⟨vs, g2.tup a vs k1, by rw [k2.length]; exact Nat.le_refl _⟩
    | lit xs =>
      refine ⟨_, pi_list he, go _ fun v H' ι' d S' e g r1 p1 => ?_⟩
      rw [e1] at e; cases e
      cases p1 with
      | lit k1 kl k2 =>
      rename_i a vs
      have kk : ∀ {H2 ι2}, Grow X.K H' ι' H2 ι2 → SqL X.K H2 a vs := fun {H2 ι2} g2 => SqK.sql (k1.elim (fun ⟨o, z⟩ => .inl ⟨o, g2.frz _ _ _ z⟩) .inr)
      refine ⟨a, rfl, ⟨vs, k1.sql⟩, h (Itl X.K a) H' ι' g r1 (fun i d H2 ι2 S2 g2 r2 hs hd => ?_) fun H2 ι2 S2 g2 r2 hs => ?_⟩
      · obtain ⟨w, q3, q4⟩ := (k2.mono g2).get hd
        refine ⟨⟨vs, w, kk g2, q3⟩, fun x H3 hy => ?_⟩
        obtain ⟨rfl, hy⟩ := hy
        have : w = x := Option.some.inj (q3.symm.trans (hy vs (kk g2)))
        exact ⟨ι2, .refl, r2, this ▸ q4⟩
      · exact ⟨vs, kk g2, by rw [k2.length]; exact Nat.le_refl _⟩
    | _ => exact h.elim
theorem rangeL_get {lo hi : Int} {i : Nat} {d : D} (h : (rangeL lo hi)[i]? = some d) : i < (hi - lo).toNat ∧ d = .int (lo + i) := by
  unfold rangeL at h
  rw [List.getElem?_map] at h
  cases e : (List.range (hi - lo).toNat)[i]? with
  | none => rw [e] at h; cases h
  | some j =>
    rw [e] at h
    obtain ⟨h1, h2⟩ := List.getElem?_eq_some_iff.mp e
    rw [List.length_range] at h1
    rw [List.getElem_range] at h2
    subst h2
    cases h
    exact ⟨h1, rfl⟩
theorem rangeL_length (lo hi : Int) : (rangeL lo hi).length = (hi - lo).toNat := by simp [rangeL]
theorem range_go {K : PySem.W.Frag} {mg : Str → Option Value} {lo hi : Int} {H : Hp} {ι : List Addr} {S : Store} {R : It → Hp → Prop} {H' : Hp} {ι' : List Addr} (g : Grow K H ι H' ι') (r : RS K mg H' ι' S) {n : Nat} (hn : n = (hi - lo).toNat) {W : WX} {σ : L2.St}
    (h : PostI K mg W σ H ι (.ok ⟨rangeL lo hi, always⟩ S) R) : R (Itr lo n) H' := by
  subst hn
  refine h (Itr lo (hi - lo).toNat) H' ι' g r (fun i d H2 ι2 S2 g2 r2 _ hd => ?_) fun H2 ι2 S2 g2 r2 _ => ?_
  · obtain ⟨h1, rfl⟩ := rangeL_get hd
    refine ⟨h1, fun x H3 hy => ?_⟩
    obtain ⟨rfl, rfl⟩ := hy
    exact ⟨ι2, .refl, r2, .int _⟩
  · show (hi - lo).toNat ≤ (rangeL lo hi).length
    rw [rangeL_length]; exact Nat.le_refl _
theorem si_range1 {tg : Expr} (hg : Gl X "range") (hm : X.mg "range" = none) (ha : SA X W [a] [m]) (hs : starEach [a] X.env = [(false, eval a X.env)] := by rfl) : SI X W tg (.Call (.Name "range" p) [a] [] pos) (rangeI [m]) := by
  refine pi_imp (pi_range1 hg hm ha hs) fun σ H R h => ?_
  obtain ⟨δ, S, ι, r, h⟩ := h
  refine ⟨δ, S, ι, r, ?_⟩
  unfold rangeI at h
  cases e1 : argsM [m] δ S with
  | stuck => simp only [e1] at h; exact h
  | exc y S1 => simp only [e1] at h; exact h
  | ok ds S1 =>
    simp only [e1, Res.bind_ok] at h
    intro vs H' ι' g r1 q1
    split at h
    · rename_i j
      obtain ⟨v, rfl, p⟩ := q1.one
      cases p
      split at h
      · rename_i hj
        unfold inRange at hj
        rw [Bool.and_eq_true, decide_eq_true_eq, decide_eq_true_eq] at hj
        exact ⟨j, rfl, hj.1, hj.2, range_go g r1 (by simp) h⟩
      · exact h.elim
    · rename_i i j
      have := q1.length
      unfold argsM at e1
      obtain ⟨d, S2, e2, e3⟩ := bind_inv e1
      obtain ⟨d', S3, e4, e5⟩ := bind_inv e3
      cases e4; cases e5
    · exact h.elim
theorem si_range2 {tg : Expr} (hg : Gl X "range") (hm : X.mg "range" = none) (ha : SA X W [a, b] [m, m']) (hs : starEach [a, b] X.env = [(false, eval a X.env), (false, eval b X.env)] := by rfl) (hs2 : starEach [b] X.env = [(false, eval b X.env)] := by rfl) : SI X W tg (.Call (.Name "range" p) [a, b] [] pos) (rangeI [m, m']) := by
  refine pi_imp (pi_range2 hg hm ha hs hs2) fun σ H R h => ?_
  obtain ⟨δ, S, ι, r, h⟩ := h
  refine ⟨δ, S, ι, r, ?_⟩
  unfold rangeI at h
  cases e1 : argsM [m, m'] δ S with
  | stuck => simp only [e1] at h; exact h
  | exc y S1 => simp only [e1] at h; exact h
  | ok ds S1 =>
    simp only [e1, Res.bind_ok] at h
    intro vs H' ι' g r1 q1
    split at h
    · rename_i j
      unfold argsM at e1
      obtain ⟨d, S2, e2, e3⟩ := bind_inv e1
      obtain ⟨d', S3, e4, e5⟩ := bind_inv e3
      unfold argsM at e4
      obtain ⟨d2, S4, e6, e7⟩ := bind_inv e4
      obtain ⟨d3, S5, e8, e9⟩ := bind_inv e7
      cases e9; cases e5
    · rename_i i j
      obtain ⟨v, u, rfl, p1, p2⟩ := q1.two
      cases p1; cases p2
      split at h
      · rename_i hj
        unfold inRange at hj
        simp only [Bool.and_eq_true, decide_eq_true_eq] at hj
        exact ⟨i, j, rfl, ⟨hj.1.1, hj.1.2, hj.2.1, hj.2.2⟩, range_go g r1 rfl h⟩
      · exact h.elim
    · exact h.elim
end
end Dl

end

section
set_option linter.all false
set_option Elab.async false
set_option maxRecDepth 100000
set_option Elab.async false
set_option linter.all false
set_option maxRecDepth 100000
set_option maxHeartbeats 4000000
namespace Dl
open PySem PySem.Spec PyProof.Rows L2

abbrev W0 : WX := fun _ _ _ _ => False
section
variable {X : Cx} {W : WX} {e o a b c elt tge iter : Expr} {es ifs : List Expr} {m m' : EM} {ms : List EM} {p pos apos : Pos} {k n lv : Nat} {x : Str}
abbrev STs (X : Cx) (W : WX) (e : List Expr) (m : TM) : Prop := PTs X e (cT X.K X.mg W m)
theorem sts_nil : STs X W [] yesT := ⟨fun pins s σ H Q I h => by
  obtain ⟨δ, S, ι, r, h⟩ := h
  exact pts_nil.run pins s σ H Q I (h H ι .refl r.sto)⟩
theorem sts_one {t : TM} (h : ST X W c t) : STs X W [c] t := pts_one h
theorem wipe_set {σ : L2.St} {i : Nat} {v : Option V} : ∀ {vs : List Nat}, i ∈ vs → L2.wipe (σ.set i v) vs = L2.wipe σ vs
  | [], h => by cases h
  | j :: vs, h => by
    unfold L2.wipe
    by_cases hj : i ∈ vs
    · rw [wipe_set hj]
    · have e : i = j := by
        rcases List.mem_cons.mp h with e | e
        · exact e
        · exact absurd e hj
      subst e
      have : ∀ (us : List Nat) (σ : L2.St), i ∉ us → L2.wipe (σ.set i v) us = (L2.wipe σ us).set i v := by
        intro us
        induction us with
        | nil => intro σ _; rfl
        | cons u us ih =>
          intro σ hu
          unfold L2.wipe
          simp only [List.mem_cons, not_or] at hu
          rw [ih σ hu.2, List.set_comm _ _ hu.1]
      rw [this vs σ hj, List.set_set]
theorem wipe_setAllV {vs : List Nat} : ∀ {is : List Nat} {ws : List V} {σ : L2.St}, (∀ i ∈ is, i ∈ vs) → L2.wipe (setAllV is ws σ) vs = L2.wipe σ vs
  | [], _, σ, _ => by simp [setAllV]
  | _ :: _, [], σ, _ => by simp [setAllV]
  | i :: is, w :: ws, σ, h => by
    unfold setAllV
    rw [wipe_setAllV (is := is) fun j hj => h j (List.mem_cons_of_mem _ hj), wipe_set (h i List.mem_cons_self)]
theorem wipe_putV {vs : List Nat} {tg : Tgt} {v : V} {ws : List V} {σ : L2.St} (h : ∀ i ∈ tg.names, i ∈ vs) : L2.wipe (tg.putV v ws σ) vs = L2.wipe σ vs := by
  cases tg with
  | nm i => exact wipe_set (h i (by simp [Tgt.names]))
  | tp is => exact wipe_setAllV h
theorem wipe_wipe {σ : L2.St} : ∀ {vs : List Nat}, L2.wipe (L2.wipe σ vs) vs = L2.wipe σ vs := fun {vs} => by
  have : ∀ (us : List Nat), (∀ u ∈ us, u ∈ vs) → L2.wipe (L2.wipe σ us) vs = L2.wipe σ vs := by
    intro us
    induction us with
    | nil => intro _; rfl
    | cons u us ih =>
      intro h
      show L2.wipe ((L2.wipe σ us).set u none) vs = _
      rw [wipe_set (h u List.mem_cons_self), ih fun z hz => h z (List.mem_cons_of_mem _ hz)]
  exact this vs fun _ h => h
theorem Rel.wipe {K : PySem.W.Frag} {mg : Str → Option Value} {H : Hp} {ι : List Addr} {S : Store} {σ : L2.St} {δ : Dl.Env} (r : Rel K mg H ι σ δ S) : ∀ vs : List Nat, Rel K mg H ι (L2.wipe σ vs) (Dl.wipe δ vs) S
  | [] => r
  | v :: vs => by
    have q := Rel.wipe r vs
    refine ⟨by simp [L2.wipe, Dl.wipe, q.len], fun i d e => ?_, q.sto⟩
    unfold Dl.wipe at e
    by_cases h : i = v
    · subst h
      rw [List.getElem?_set] at e
      simp at e
    · rw [List.getElem?_set_ne (Ne.symm h)] at e
      obtain ⟨w, e1, e2⟩ := q.env i d e
      exact ⟨w, by unfold L2.wipe; rw [List.getElem?_set_ne (Ne.symm h)]; exact e1, e2⟩
/-- [elt for tg in iter if ..] -/
theorem lc_run {K : PySem.W.Frag} {mg : Str → Option Value} {tg : Tgt} {own : List Nat} {im : IM} {tt : TM} {σ : L2.St} {H : Hp} {Q : VK} (hown : ∀ i ∈ tg.names, i ∈ own) (h : cE K mg W (lcM own im tg tt m) σ H Q) :
    tLc (cI K mg W im) (tg.g K) (cT K mg W0 tt) (cE K mg W0 m) own σ H Q := by
  obtain ⟨δ, S, ι, r, h⟩ := h
  refine ⟨δ, S, ι, r, ?_⟩
  have h : PostE K mg W σ H ι ((im δ S).bind fun s S1 => (lcLoop s.still S1.length (Dl.wipe δ own) tg tt m s.items (S1 ++ [.lst []])).bind fun _ S2 => .ok (.ref S1.length) S2) Q := h
  cases e1 : im δ S with
  | stuck => rw [e1] at h; exact h
  | exc y S1 => rw [e1] at h; exact h
  | ok s S1 =>
    rw [e1] at h
    intro J H1 ι1 g1 r1 hgo hst A hA
    have h := PostE.back g1 h
    simp only [Res.bind_ok] at h
    obtain ⟨g2, r2, p2⟩ := RS.newL r1 (ws := []) (ys := []) hA .nil
    have hn2 : (ι1 ++ [A])[S1.length]? = some A := by
      obtain ⟨_, q, q2⟩ := p2.ref_inv
      cases q; exact q2
    refine ⟨fun i m' H' => ∃ S' ι', i + m' = s.items.length ∧ Grow K H1 ι1 H' ι' ∧ Grow K (upd H1 A (.lst [])) (ι1 ++ [A]) H' ι' ∧ RS K mg H' ι' S' ∧ PostE K mg W σ H' ι' ((lcLoop s.still S1.length (Dl.wipe δ own) tg tt m (s.items.drop i) S').bind fun _ S2 => .ok (.ref S1.length) S2) Q,
      ⟨s.items.length, _, _, by simp, g2, .refl, r2, by simpa using PostE.back g2 h⟩, ?_⟩
    rintro i m' H' ⟨S', ι', hm, g, ga, rs, h⟩
    by_cases hi : i < s.items.length
    · have hd : s.items.drop i = s.items[i] :: s.items.drop (i + 1) := List.drop_eq_getElem_cons hi
      rw [hd] at h
      unfold lcLoop at h
      split at h
      · rename_i hstill
        obtain ⟨h1, h2⟩ := hgo i s.items[i] H' ι' S' g rs hstill (List.getElem?_eq_getElem hi)
        refine .inr ⟨h1, fun H' => ∃ S' ι', i + 1 + (m' - 1) = s.items.length ∧ Grow K H1 ι1 H' ι' ∧ Grow K (upd H1 A (.lst [])) (ι1 ++ [A]) H' ι' ∧ RS K mg H' ι' S' ∧ PostE K mg W σ H' ι' ((lcLoop s.still S1.length (Dl.wipe δ own) tg tt m (s.items.drop (i + 1)) S').bind fun _ S2 => .ok (.ref S1.length) S2) Q,
          fun H' hN => ⟨m' - 1, by omega, hN⟩, fun x H3 hy => ?_⟩
        obtain ⟨ι3, g3, r3, p3⟩ := h2 x H3 hy
        cases e : tg.put s.items[i] (Dl.wipe δ own) with
        | none => rw [e] at h; exact h.elim
        | some δ1 =>
          rw [e] at h
          have rl : Rel K mg H3 ι3 (L2.wipe σ own) (Dl.wipe δ own) S' := (Rel.wipe r own).mono (g1.trans (g.trans g3)) r3
          refine Tgt.run rl p3 e fun vs r4 => ⟨by rw [wipe_putV hown, wipe_wipe], δ1, S', ι3, r4, ?_⟩
          have h := PostE.back g3 h
          cases e2 : tt δ1 S' with
          | stuck => simp only [e2] at h; exact h
          | exc y S2 => simp only [e2] at h; exact h.elim
          | ok bb S2 =>
            simp only [e2, Res.nox_ok, Res.bind_ok] at h
            intro H4 ι4 g4 r5
            have h := PostE.back g4 h
            cases bb with
            | false => exact iteF ⟨S2, ι4, by omega, (g.trans g3).trans g4, (ga.trans g3).trans g4, r5, h⟩
            | true =>
              refine iteT ⟨δ1, S2, ι4, r4.mono g4 r5, ?_⟩
              simp only [if_true] at h
              cases e3 : m δ1 S2 with
              | stuck => simp only [e3] at h; exact h
              | exc y S3 => simp only [e3] at h; exact h.elim
              | ok d S3 =>
                simp only [e3, Res.nox_ok, Res.bind_ok] at h
                intro v H5 ι5 g5 r6 p6
                have h := PostE.back g5 h
                split at h
                · rename_i acc e4
                  split at h
                  · rename_i hl
                    have gA : Grow K (upd H1 A (.lst [])) (ι1 ++ [A]) H5 ι5 := ((ga.trans g3).trans g4).trans g5
                    have hA5 : ι5[S1.length]? = some A := pre_get gA.pre hn2
                    obtain ⟨ws, q1, q2⟩ := r6.lst hA5 e4
                    obtain ⟨g7, r7⟩ := r6.put (ws := ws ++ [v]) (ys := acc ++ [d]) hA5 q1 (q2.append (.cons p6 .nil))
                    refine ⟨ws, q1, by rw [q2.length, ← LIM_eq]; exact hl, ?_⟩
                    exact ⟨_, ι5, by omega, (((g.trans g3).trans g4).trans g5).trans g7, gA.trans g7, r7, PostE.back g7 h⟩
                  · exact h.elim
                · exact h.elim
      · exact h.elim
    · have e : i = s.items.length := by omega
      subst e
      rw [List.drop_length] at h
      unfold lcLoop at h
      split at h
      · rename_i hstill
        refine .inl ⟨hst H' ι' S' g rs hstill, ?_⟩
        exact h _ H' ι' .refl rs (.ref (pre_get ga.pre hn2))
      · exact h.elim
variable {scope : Scope} {own : List (Str × Nat)} {tg : Tgt} {im : IM} {tt : TM}
theorem se_lc (hc : X.calm = true) (hN : X.N.Nodup) (hi : SI X W tge iter im) (ok : blkC X.N X.env.scope scope own = true)
    (hg : ∀ (s : Shared) (H : Hp) (C : Addr) (cl : List (Str × Addr)) (fp : List Addr), SG (X.blk s H scope (compEnvC scope cl C X.env) fp) tge tg)
    (ht : ∀ (s : Shared) (H : Hp) (C : Addr) (cl : List (Str × Addr)) (fp : List Addr), STs (X.blk s H scope (compEnvC scope cl C X.env) fp) W0 ifs tt)
    (he : ∀ (s : Shared) (H : Hp) (C : Addr) (cl : List (Str × Addr)) (fp : List Addr), SE (X.blk s H scope (compEnvC scope cl C X.env) fp) W0 elt m)
    (hown : (tg.names.all fun i => (own.map (·.2)).contains i) = true := by rfl) (hs : ∀ x, foldedSetIterable iter X.env x = pure x := by intro _; rfl) :
    SE X W (.ListComp elt [⟨tge, iter, ifs, 0⟩] scope pos) (lcM (own.map (·.2)) im tg tt m) :=
  pe_imp (pe_lc hc hN hi (blkOk_by ok) hg ht he hs) fun σ H Q h => lc_run (fun i hi => by simpa using List.all_eq_true.mp hown i hi) h
/-- name = [..] where the name is stored within -/
theorem ss_setLc (i : Nat) {y : Str} {py spos : Pos} (hc : X.calm = true) (hN : X.N.Nodup) (hsw : swapsWith (.ListComp elt [⟨tge, iter, ifs, 0⟩] scope pos) (some (.Name y py)) spos.line X.env = pure true) (hi : SI X W tge iter im) (ok : blkC X.N X.env.scope scope own = true)
    (hg : ∀ (s : Shared) (H : Hp) (C : Addr) (cl : List (Str × Addr)) (fp : List Addr), SG (X.blk s H scope (compEnvC scope cl C X.env) fp) tge tg)
    (ht : ∀ (s : Shared) (H : Hp) (C : Addr) (cl : List (Str × Addr)) (fp : List Addr), STs (X.blk s H scope (compEnvC scope cl C X.env) fp) W0 ifs tt)
    (he : ∀ (s : Shared) (H : Hp) (C : Addr) (cl : List (Str × Addr)) (fp : List Addr), SE (X.blk s H scope (compEnvC scope cl C X.env) fp) W0 elt m)
    (hy : X.N[i]? = some y := by rfl) (hyl : X.env.scope.names.lookup y = some .local := by rfl)
    (hown : (tg.names.all fun i => (own.map (·.2)).contains i) = true := by rfl) (hs : ∀ x, foldedSetIterable iter X.env x = pure x := by intro _; rfl) :
    SS X W (.Assign [.Name y py] (.ListComp elt [⟨tge, iter, ifs, 0⟩] scope pos) spos) (setS (.nm i) (lcM (own.map (·.2)) im tg tt m)) :=
  ps_imp (ps_setLc hc hN hy hyl hsw hi (blkOk_by ok) hg ht he hs) fun D σ H q => asg_run (tg := .nm i) (fun h => lc_run (fun i hi => by simpa using List.all_eq_true.mp hown i hi) h) q
end
end Dl

end

section
set_option linter.all false
set_option Elab.async false
set_option maxRecDepth 100000
set_option Elab.async false
set_option linter.all false
set_option maxRecDepth 100000
set_option maxHeartbeats 4000000
namespace Dl
open PySem PySem.Spec PyProof.Rows L2

section
variable {X : Cx} {W : WX} {e o a b c elt tge iter : Expr} {es ifs : List Expr} {m m' : EM} {ms : List EM} {p pos apos : Pos} {k n lv : Nat} {x : Str} {f : FM} {id T : String} {r : List V → Hp → VK → Prop}
/-! ### built-ins by name -/
theorem se_callB (hc : CallR X (.builtin id) r) (s : SimN X.K X.mg r f) (hg : Gl X x) (hm : X.mg x = none) (hv : bootBuiltins x = some (.builtin id)) (ha : SA X W (e :: es) ms) (hn : x ≠ "__name__" := by decide) (hdb : (x == ("__debug__" : Str)) = false := by decide)
    (he : starEach (e :: es) X.env = (false, eval e X.env) :: starEach es X.env := by rfl) (hpl : (backTo pos (starEach es X.env)).any (·.1) = false := by rfl) : SE X W (.Call (.Name x p) (e :: es) [] pos) (callM f ms) :=
  pe_imp (pe_callB hc hg hm hv ha hn hdb he hpl) fun _ _ _ h => callN s h
theorem se_callTy (hc : CallR X (.type T) r) (s : SimN X.K X.mg r f) (hg : Gl X x) (hm : X.mg x = none) (hv : bootBuiltins x = some (.type T)) (ha : SA X W (e :: es) ms) (hn : x ≠ "__name__" := by decide) (hdb : (x == ("__debug__" : Str)) = false := by decide)
    (he : starEach (e :: es) X.env = (false, eval e X.env) :: starEach es X.env := by rfl) (hpl : (backTo pos (starEach es X.env)).any (·.1) = false := by rfl) : SE X W (.Call (.Name x p) (e :: es) [] pos) (callM f ms) :=
  pe_imp (pe_callTy hc hg hm hv ha hn hdb he hpl) fun _ _ _ h => callN s h
theorem Rkv.length {K : PySem.W.Frag} {mg : Str → Option Value} {H : Hp} {ι : List Addr} : ∀ {vs : List (Key × V)} {ds : List (D × D)}, Rkv K mg H ι vs ds → vs.length = ds.length
  | _, _, .nil => rfl
  | _, _, .cons _ h => by simp [Rkv.length h]
def rLenA (K : PySem.W.Frag) : List V → Hp → VK → Prop := fun xs H Q => (∃ p ys, xs = [.ref p] ∧ (SqL K H p ys ∨ SqT K H p ys) ∧ Q (.int ys.length) H) ∨ (∃ z, xs = [.str z] ∧ z.length ≤ sizeLine ∧ Q (.int z.length) H) ∨ (∃ d kvs, xs = [.ref d] ∧ H d = some (.dK kvs) ∧ Q (.int kvs.length) H)
theorem sim_len {K : PySem.W.Frag} {mg : Str → Option Value} : SimN K mg (rLenA K) lenP where
  run := fun xs ds H S ι d S' Q r q e h => by
    unfold lenP at e
    split at e
    · obtain ⟨hl, rfl, rfl⟩ := ite_ok e
      obtain ⟨v, rfl, p⟩ := q.one
      cases p
      refine .inr (.inl ⟨_, rfl, by rw [toS_length, ← LIM_eq]; exact hl, ?_⟩)
      rw [toS_length]
      exact h _ H ι .refl r (.int _)
    · cases e
      obtain ⟨v, rfl, p⟩ := q.one
      obtain ⟨a, vs, rfl, h1, _, h2⟩ := p.tup_inv
      exact .inl ⟨a, vs, rfl, .inr h1, by rw [h2.length]; exact h _ H ι .refl r (.int _)⟩
    · cases e
      obtain ⟨v, rfl, p⟩ := q.one
      obtain ⟨a, vs, rfl, h1, _, h2⟩ := p.lit_inv
      exact .inl ⟨a, vs, rfl, .inl h1, by rw [h2.length]; exact h _ H ι .refl r (.int _)⟩
    · rename_i n
      obtain ⟨v, rfl, p⟩ := q.one
      obtain ⟨a, rfl, ha⟩ := p.ref_inv
      split at e
      · rename_i ys e1
        cases e
        obtain ⟨vs, h1, h2⟩ := r.lst ha e1
        exact .inl ⟨a, vs, rfl, .inl (.inl (.inl h1)), by rw [h2.length]; exact h _ H ι .refl r (.int _)⟩
      · rename_i ys e1
        cases e
        obtain ⟨vs, h1, h2⟩ := r.at_ n _ a e1 ha
        exact .inr (.inr ⟨a, vs, rfl, h1, by rw [h2.length]; exact h _ H ι .refl r (.int _)⟩)
      · cases e
    · cases e
  nox := fun ds S x S' z => by
    unfold lenP at z
    repeat (first | cases z | exact ite_exc z | split at z)
theorem se_len (hg : Gl X "len") (hm : X.mg "len" = none) (ha : SA X W [e] [m]) (he : starEach [e] X.env = (false, eval e X.env) :: starEach [] X.env := by rfl) : SE X W (.Call (.Name "len" p) [e] [] pos) (callM lenP [m]) :=
  se_callB (call_len_seq.or (call_len_str.or call_lenD)) sim_len hg hm PySem.boot_len ha (he := he)
theorem csInt_text {x : Cs} {n : Int} (h : csInt x = some n) (hl : x.length ≤ 640) : PySem.intText? (toS x) = some n := by
  have all : ∀ {r : Cs}, r.all isDigit = true → NumText.AllDigits r := fun {r} h c hc => by
    have := List.all_eq_true.mp h c hc
    simpa [isDigit] using this
  unfold csInt at h
  split at h
  · cases h
  · rename_i r
    split at h
    · rename_i hc
      cases h
      have := intText_neg (x := toS (45 :: r)) (cs := r) (toS_list _) (all hc.2) hc.1 (by rw [toS_length]; omega)
      exact this
    · cases h
  · rename_i c r _
    split at h
    · rename_i hc
      cases h
      have := intText_digits (x := toS (c :: r)) (by rw [toS_list]; exact all hc) (by rw [toS_list]; simp) (by rw [toS_length]; omega)
      rw [toS_list] at this
      exact this
    · cases h
theorem sim_int {K : PySem.W.Frag} {mg : Str → Option Value} : SimN K mg (fun xs H Q => ((∃ i, xs = [.int i] ∧ Q (.int i) H) ∨ ∃ k, xs = [.bl k] ∧ Q (.int (if k then 1 else 0)) H) ∨ ∃ a n, xs = [.str a] ∧ PySem.intText? a = some n ∧ a.length ≤ 640 ∧ Q (.int n) H) intP where
  run := fun xs ds H S ι d S' Q r q e h => by
    unfold intP at e
    split at e
    · split at e
      · rename_i hl
        split at e
        · rename_i n e1
          cases e
          obtain ⟨v, rfl, p⟩ := q.one
          cases p
          exact .inr ⟨_, n, rfl, csInt_text e1 hl, by rw [toS_length]; exact hl, h _ H ι .refl r (.int _)⟩
        · cases e
      · cases e
    · cases e
      obtain ⟨v, rfl, p⟩ := q.one
      cases p
      exact .inl (.inl ⟨_, rfl, h _ H ι .refl r (.int _)⟩)
    · cases e
      obtain ⟨v, rfl, p⟩ := q.one
      cases p
      exact .inl (.inr ⟨_, rfl, h _ H ι .refl r (.int _)⟩)
    · cases e
  nox := fun ds S x S' z => by
    unfold intP at z
    repeat (first | cases z | exact ite_exc z | split at z)
theorem se_intP (hg : Gl X "int") (hm : X.mg "int" = none) (ha : SA X W [e] [m]) (he : starEach [e] X.env = (false, eval e X.env) :: starEach [] X.env := by rfl) : SE X W (.Call (.Name "int" p) [e] [] pos) (callM intP [m]) :=
  se_callTy (call_int1.or call_int_str) sim_int hg hm boot_int ha (he := he)
theorem intCs_toS (i : Int) : Str.ofString (toString i) = toS (intCs i) := by
  rw [Str.ofString_eq_toList]
  unfold toS intCs natCs
  congr 1
  cases i with
  | ofNat n =>
    have h : ¬ (Int.ofNat n < 0) := by simp
    rw [if_neg h]
    have : (toString (Int.ofNat n)).toList = Nat.toDigits 10 n := by
      show (toString n).toList = _
      rw [Nat.toString_eq_repr, Nat.repr]; simp
    rw [this]; rfl
  | negSucc n =>
    have h : Int.negSucc n < 0 := Int.negSucc_lt_zero n
    rw [if_pos h]
    have : (toString (Int.negSucc n)).toList = '-' :: Nat.toDigits 10 (n + 1) := by
      show ("-" ++ toString (n + 1)).toList = _
      rw [String.toList_append, Nat.toString_eq_repr, Nat.repr]; simp
    rw [this]; rfl
theorem log_small {n : Nat} (h : n < 2 ^ 1900) : n.log2 < 1920 := by
  by_cases h0 : n = 0
  · subst h0; decide
  · have := (Nat.log2_lt h0).mpr h
    omega
theorem sim_str {K : PySem.W.Frag} {mg : Str → Option Value} : SimN K mg (fun xs H Q => ∃ i, xs = [.int i] ∧ i.natAbs.log2 < 1920 ∧ Q (.str (toString i)) H) strP where
  run := fun xs ds H S ι d S' Q r q e h => by
    unfold strP at e
    split at e
    · rename_i i
      obtain ⟨hl, rfl, rfl⟩ := ite_ok e
      obtain ⟨v, rfl, p⟩ := q.one
      cases p
      refine ⟨_, rfl, log_small hl, ?_⟩
      show Q (.str (Str.ofString (toString i))) H
      rw [intCs_toS]
      exact h _ H ι .refl r (.str _)
    · cases e
  nox := fun ds S x S' z => by
    unfold strP at z
    repeat (first | cases z | exact ite_exc z | split at z)
theorem se_str' (hg : Gl X "str") (hm : X.mg "str" = none) (ha : SA X W [e] [m]) (he : starEach [e] X.env = (false, eval e X.env) :: starEach [] X.env := by rfl) : SE X W (.Call (.Name "str" p) [e] [] pos) (callM strP [m]) :=
  se_callTy call_str_int sim_str hg hm (by decide +kernel) ha (he := he)
theorem sim_list {K : PySem.W.Frag} {mg : Str → Option Value} : SimN K mg (fun xs H Q => ∃ p ys, xs = [.ref p] ∧ (SqL K H p ys ∨ SqT K H p ys) ∧ ∀ l, H l = none → Q (.ref l) (upd H l (.lst ys))) listP where
  run := fun xs ds H S ι d S' Q r q e h => by
    unfold listP at e
    split at e
    · obtain ⟨v, rfl, p⟩ := q.one
      obtain ⟨a, rfl, ha⟩ := p.ref_inv
      split at e
      · rename_i ys e1
        cases e
        obtain ⟨vs, h1, h2⟩ := r.lstAt ha e1
        refine ⟨a, vs, rfl, .inl h1, fun l hl => ?_⟩
        obtain ⟨g, r', q'⟩ := r.newL hl h2
        exact h _ _ _ g r' q'
      · cases e
    · cases e
      obtain ⟨v, rfl, p⟩ := q.one
      obtain ⟨a, vs, rfl, h1, _, h2⟩ := p.tup_inv
      refine ⟨a, vs, rfl, .inr h1, fun l hl => ?_⟩
      obtain ⟨g, r', q'⟩ := r.newL hl h2
      exact h _ _ _ g r' q'
    · cases e
      obtain ⟨v, rfl, p⟩ := q.one
      obtain ⟨a, vs, rfl, h1, _, h2⟩ := p.lit_inv
      refine ⟨a, vs, rfl, .inl h1, fun l hl => ?_⟩
      obtain ⟨g, r', q'⟩ := r.newL hl h2
      exact h _ _ _ g r' q'
    · cases e
  nox := fun ds S x S' z => by
    unfold listP at z
    repeat (first | cases z | exact ite_exc z | split at z)
theorem se_list (hg : Gl X "list") (hm : X.mg "list" = none) (ha : SA X W [e] [m]) (he : starEach [e] X.env = (false, eval e X.env) :: starEach [] X.env := by rfl) : SE X W (.Call (.Name "list" p) [e] [] pos) (callM listP [m]) :=
  se_callTy call_list_of sim_list hg hm boot_list ha (he := he)
theorem SqL.len {K : PySem.W.Frag} {H : Hp} {a : Addr} {xs : List V} : True := trivial
/-- tuple(list): the model's own bound on lengths is asked -/
theorem call_tuple_ofL : CallR X (.type "tuple") (fun xs H Q => ∃ p ys, xs = [.ref p] ∧ ((SqL X.K H p ys ∧ (ys.length ≤ sizeLine → ∀ l, H l = none → Q (.ref l) (upd H l (.tup ys)))) ∨ (SqT X.K H p ys ∧ Q (.ref p) H))) := by
  intro pins s σ H xs us Q I r h
  obtain ⟨p, ys, rfl, h⟩ := h
  rcases h with ⟨h1, h2⟩ | h
  · obtain ⟨_, _, _, hz⟩ := I.list h1
    exact call_tuple_of pins s σ H _ us Q I r ⟨p, ys, rfl, .inl ⟨h1, h2 hz⟩⟩
  · exact call_tuple_of pins s σ H _ us Q I r ⟨p, ys, rfl, .inr h⟩
theorem sim_tuple {K : PySem.W.Frag} {mg : Str → Option Value} : SimN K mg (fun xs H Q => ∃ p ys, xs = [.ref p] ∧ ((SqL K H p ys ∧ (ys.length ≤ sizeLine → ∀ l, H l = none → Q (.ref l) (upd H l (.tup ys)))) ∨ (SqT K H p ys ∧ Q (.ref p) H))) tupleP where
  run := fun xs ds H S ι d S' Q r q e h => by
    unfold tupleP at e
    split at e
    · obtain ⟨v, rfl, p⟩ := q.one
      obtain ⟨a, rfl, ha⟩ := p.ref_inv
      split at e
      · rename_i ys e1
        cases e
        obtain ⟨vs, h1, h2⟩ := r.lstAt ha e1
        refine ⟨a, vs, rfl, .inl ⟨h1, fun hz l hl => ?_⟩⟩
        obtain ⟨g, r', q'⟩ := r.mkT hl hz h2
        exact h _ _ _ g r' q'
      · cases e
    · cases e
      obtain ⟨v, rfl, p⟩ := q.one
      obtain ⟨a, vs, rfl, h1, h2, h3⟩ := p.tup_inv
      exact ⟨a, vs, rfl, .inr ⟨h1, h _ H ι .refl r (.tup h1 h2 h3)⟩⟩
    · cases e
  nox := fun ds S x S' z => by
    unfold tupleP at z
    repeat (first | cases z | exact ite_exc z | split at z)
theorem se_tuple (hg : Gl X "tuple") (hm : X.mg "tuple" = none) (ha : SA X W [e] [m]) (he : starEach [e] X.env = (false, eval e X.env) :: starEach [] X.env := by rfl) : SE X W (.Call (.Name "tuple" p) [e] [] pos) (callM tupleP [m]) :=
  se_callTy call_tuple_ofL sim_tuple hg hm boot_tuple ha (he := he)

/-! ### methods of built-in types -/
structure SimM (K : PySem.W.Frag) (mg : Str → Option Value) (r : V → List V → Hp → VK → Prop) (f : FM) : Prop where
  run : ∀ (x : V) (xs : List V) (dx : D) (ds : List D) (H : Hp) (S : Store) (ι : List Addr) (d : D) (S' : Store) (Q : VK), RS K mg H ι S → Rp K mg H ι x dx → Rps K mg H ι xs ds → f (dx :: ds) S = .ok d S' →
    (∀ v H' ι', Grow K H ι H' ι' → RS K mg H' ι' S' → Rp K mg H' ι' v d → Q v H') → r x xs H Q
  nox : ∀ ds S e S', f ds S ≠ .exc e S'
theorem tyV_of {K : PySem.W.Frag} {mg : Str → Option Value} {H : Hp} {ι : List Addr} {S : Store} {v : V} {d : D} {T : String} (r : RS K mg H ι S) (p : Rp K mg H ι v d) (e : tyN d S = some T) (hT : T = "list" ∨ T = "str") : tyV K T v H := by
  cases d with
  | str x => cases p; cases e; rfl
  | ref n =>
    obtain ⟨a, rfl, ha⟩ := p.ref_inv
    unfold tyN at e
    simp only at e
    split at e
    · rename_i xs e1; cases e
      obtain ⟨vs, h1, _⟩ := r.lst ha e1
      exact .inl ⟨rfl, vs, .inl (.inl h1)⟩
    · cases e
      rcases hT with h | h <;> exact absurd h (by decide)
    · cases e
  | lit xs =>
    obtain ⟨a, vs, rfl, h1, _, _⟩ := p.lit_inv
    cases e
    exact .inl ⟨rfl, vs, h1⟩
  | _ => cases e <;> (rcases hT with h | h <;> exact absurd h (by decide))
theorem meth_run {K : PySem.W.Frag} {mg : Str → Option Value} {σ : L2.St} {H : Hp} {Q : VK} {r : V → List V → Hp → VK → Prop} (s : SimM K mg r f) (hT : T = "list" ∨ T = "str") (h : cE K mg W (methM T f m ms) σ H Q) : tBM K T r (cE K mg W m) (cA K mg W (argsM ms)) σ H Q := by
  obtain ⟨δ, S, ι, rl, h⟩ := h
  refine ⟨δ, S, ι, rl, ?_⟩
  have h : PostE K mg W σ H ι ((m δ S).bind fun d S1 => if tyN d S1 = some T then (argsM ms δ S1).bind fun ds S2 => f (d :: ds) S2 else .stuck) Q := h
  refine PostE.seq h fun v H1 ι1 d S1 _ g1 r1 p1 h1 => ?_
  split at h1
  · rename_i ht
    refine ⟨tyV_of r1 p1 ht hT, δ, S1, ι1, rl.mono g1 r1, PostA.seq h1 fun vs H2 ι2 ds S2 _ g2 r2 q2 h2 => ?_⟩
    cases e : f (d :: ds) S2 with
    | stuck => rw [e] at h2; exact h2.elim
    | exc y S3 => exact (s.nox _ _ _ _ e).elim
    | ok z S3 => rw [e] at h2; exact s.run v vs d ds H2 S2 ι2 z S3 Q r2 (p1.mono g2) q2 e h2
  · exact h1.elim
theorem meth_run0 {K : PySem.W.Frag} {mg : Str → Option Value} {σ : L2.St} {H : Hp} {Q : VK} {r : V → List V → Hp → VK → Prop} (s : SimM K mg r f) (hT : T = "list" ∨ T = "str") (h : cE K mg W (methM T f m []) σ H Q) : tBM0 K T r (cE K mg W m) σ H Q := by
  obtain ⟨δ, S, ι, rl, h⟩ := meth_run s hT h
  refine ⟨δ, S, ι, rl, PostE.imp h fun v H' q => ⟨q.1, ?_⟩⟩
  obtain ⟨δ', S', ι', rl', q'⟩ := q.2
  exact q' [] H' ι' .refl rl'.sto .nil
/-- o.name(e, ..), o.name(): a method of a built-in type -/
theorem se_bm {name : Str} {apos : Pos} {r : V → List V → Hp → VK → Prop} (pa : PlainAttrs T) (slot : Slot T name id) (hty : typeOf (.builtin id) = pure (.type "method_descriptor")) (hm : MtR X id r) (s : SimM X.K X.mg r f) (hT : T = "list" ∨ T = "str") (ho : SE X W o m) (ha : SA X W (e :: es) ms)
    (hbase : attributeBase o name X.env (eval o X.env) = eval o X.env := by rfl)
    (hfew : ((backTo pos (starEach (e :: es) X.env)).all (fun x => !x.1) && (backToKw pos (keywordEach [] X.env)).all (fun x => x.1.isSome)
      && decide ((e :: es).length + ([] : List Keyword).length + (if ([] : List Keyword).isEmpty then 0 else 1) < 30)) = true := by rfl)
    (hline : (apos.endLine == pos.line) = true := by rfl) (hs : starEach (e :: es) X.env = (false, eval e X.env) :: starEach es X.env := by rfl) (hplain : (backTo pos (starEach es X.env)).any (·.1) = false := by rfl) :
    SE X W (.Call (.Attribute o name apos) (e :: es) [] pos) (methM T f m ms) :=
  pe_imp (pe_bm pa slot hty hm ho ha hbase hfew hline hs hplain) fun _ _ _ h => meth_run s hT h
theorem se_bm0 {name : Str} {apos : Pos} {r : V → List V → Hp → VK → Prop} (pa : PlainAttrs T) (slot : Slot T name id) (hty : typeOf (.builtin id) = pure (.type "method_descriptor")) (hm : MtR X id r) (s : SimM X.K X.mg r f) (hT : T = "list" ∨ T = "str") (ho : SE X W o m)
    (hbase : attributeBase o name X.env (eval o X.env) = eval o X.env := by rfl) (hline : (apos.endLine == pos.line) = true := by rfl) :
    SE X W (.Call (.Attribute o name apos) [] [] pos) (methM T f m []) :=
  pe_imp (pe_bm0 pa slot hty hm ho hbase hline) fun _ _ _ h => meth_run0 s hT h
theorem sim_append {K : PySem.W.Frag} {mg : Str → Option Value} : SimM K mg rAppend appendP where
  run := fun x xs dx ds H S ι d S' Q r px q e h => by
    unfold appendP at e
    split at e
    · rename_i n z e0
      cases e0
      split at e
      · rename_i ys e1
        obtain ⟨hl, rfl, rfl⟩ := ite_ok e
        obtain ⟨v, rfl, p⟩ := q.one
        obtain ⟨a, rfl, ha⟩ := px.ref_inv
        obtain ⟨vs, h1, h2⟩ := r.lst ha e1
        obtain ⟨g, r'⟩ := r.put ha h1 (h2.append (.cons p .nil))
        exact ⟨a, vs, v, rfl, rfl, h1, by rw [h2.length, ← LIM_eq]; exact hl, h _ _ ι g r' .non⟩
      · cases e
    · cases e
  nox := fun ds S x S' z => by
    unfold appendP at z
    repeat (first | cases z | exact ite_exc z | split at z)
theorem sim_insert {K : PySem.W.Frag} {mg : Str → Option Value} : SimM K mg (fun x vs H Q => ∃ (l : Addr) (xs : List V) (i : Int) (y : V), x = .ref l ∧ vs = [.int i, y] ∧ H l = some (.lst xs) ∧ xs.length < sizeLine ∧ 0 ≤ i ∧ i < 2 ^ 63 ∧
    Q .non (upd H l (.lst (xs.take i.toNat ++ [y] ++ xs.drop i.toNat)))) insertP where
  run := fun x xs dx ds H S ι d S' Q r px q e h => by
    unfold insertP at e
    split at e
    · rename_i n i z e0
      cases e0
      split at e
      · rename_i ys e1
        obtain ⟨⟨hl, h0, hi⟩, rfl, rfl⟩ := ite_ok e
        obtain ⟨v, u, rfl, p, p'⟩ := q.two
        cases p
        obtain ⟨a, rfl, ha⟩ := px.ref_inv
        obtain ⟨vs, h1, h2⟩ := r.lst ha e1
        obtain ⟨g, r'⟩ := r.put ha h1 (((h2.take i.toNat).append (.cons p' .nil)).append (h2.drop i.toNat))
        exact ⟨a, vs, i, u, rfl, rfl, h1, by rw [h2.length, ← LIM_eq]; exact hl, h0, by omega, h _ _ ι g r' .non⟩
      · cases e
    · cases e
  nox := fun ds S x S' z => by
    unfold insertP at z
    repeat (first | cases z | exact ite_exc z | split at z)
theorem sim_pop {K : PySem.W.Frag} {mg : Str → Option Value} : SimM K mg rPop popP where
  run := fun x xs dx ds H S ι d S' Q r px q e h => by
    unfold popP at e
    split at e
    · rename_i n e0
      cases e0
      cases q
      split at e
      · rename_i ys e1
        split at e
        · rename_i z e2
          cases e
          obtain ⟨a, rfl, ha⟩ := px.ref_inv
          obtain ⟨vs, h1, h2⟩ := r.lst ha e1
          obtain ⟨v, q1, q2⟩ := h2.get e2
          obtain ⟨g, r'⟩ := r.put ha h1 h2.dropLast
          exact ⟨a, vs, v, rfl, rfl, h1, by rw [h2.length]; exact q1, h _ _ ι g r' (q2.mono g)⟩
        · cases e
      · cases e
    · cases e
  nox := fun ds S x S' z => by
    unfold popP at z
    repeat (first | cases z | exact ite_exc z | split at z)
theorem sim_reverse {K : PySem.W.Frag} {mg : Str → Option Value} : SimM K mg rReverse reverseP where
  run := fun x xs dx ds H S ι d S' Q r px q e h => by
    unfold reverseP at e
    split at e
    · rename_i n e0
      cases e0
      cases q
      split at e
      · rename_i ys e1
        cases e
        obtain ⟨a, rfl, ha⟩ := px.ref_inv
        obtain ⟨vs, h1, h2⟩ := r.lst ha e1
        obtain ⟨g, r'⟩ := r.put ha h1 h2.reverse
        exact ⟨a, vs, rfl, rfl, h1, h _ _ ι g r' .non⟩
      · cases e
    · cases e
  nox := fun ds S x S' z => by
    unfold reverseP at z
    repeat (first | cases z | exact ite_exc z | split at z)
end
end Dl

end

section
set_option linter.all false
set_option Elab.async false
set_option maxRecDepth 100000
set_option Elab.async false
set_option linter.all false
set_option maxRecDepth 100000
set_option maxHeartbeats 4000000
namespace Dl
open PySem PySem.Spec PyProof.Rows L2

def tyNames : List String := ["NoneType", "bool", "int", "str", "tuple", "list", "dict"]
def tyAsk : List String := ["bool", "int", "str", "tuple", "list", "dict"]
theorem kit_table : ∀ t ∈ tyNames, ∀ T ∈ tyAsk, kitB t T = some (isTy t T) := by decide +kernel
theorem tyN_mem {d : D} {S : Store} {t : String} (h : tyN d S = some t) : t ∈ tyNames := by
  unfold tyN at h
  split at h <;> first
    | (cases h; decide)
    | (split at h <;> first | (cases h; decide) | cases h)
    | cases h
section
variable {X : Cx} {W : WX} {e o a b c elt tge iter : Expr} {es ifs : List Expr} {m m' : EM} {ms : List EM} {p pos apos : Pos} {k n lv : Nat} {x : Str} {f : FM} {id T : String} {r : List V → Hp → VK → Prop}
theorem tyX_of {K : PySem.W.Frag} {mg : Str → Option Value} {H : Hp} {ι : List Addr} {S : Store} {v : V} {d : D} {t : String} (r : RS K mg H ι S) (p : Rp K mg H ι v d) (h : tyN d S = some t) : TyX K H v (.type t) := by
  cases d with
  | non => cases p; cases h; exact .base .non
  | bl b => cases p; cases h; exact .base (.bl b)
  | int b => cases p; cases h; exact .base (.int b)
  | str b => cases p; cases h; exact .base (.str _)
  | tup xs =>
    obtain ⟨a, vs, rfl, h1, _, _⟩ := p.tup_inv
    cases h
    rcases h1 with (h1 | ⟨u, h1⟩) | ⟨o, its, nn, h1, h2, _⟩
    · exact .base (.tup h1)
    · exact .fTuple h1
    · exact .kTuple h1 h2
  | ref n =>
    obtain ⟨a, rfl, ha⟩ := p.ref_inv
    unfold tyN at h
    simp only at h
    split at h
    · rename_i xs e1; cases h
      obtain ⟨vs, h1, _⟩ := r.lst ha e1
      exact .base (.lst h1)
    · rename_i xs e1; cases h
      obtain ⟨vs, h1, _⟩ := r.at_ n _ a e1 ha
      exact .base (.dK h1)
    · cases h
  | fn x => cases h
  | lit xs =>
    cases h
    cases p with
    | lit h1 _ _ =>
    rcases h1 with ⟨o, h1⟩ | ((h1 | ⟨_, h1⟩) | ⟨o, its, nn, h1, h2, _⟩)
    · exact .base (.frz h1)
    · cases h1
    · cases h1
    · exact .kList h1 h2
theorem isP_inv {Ts : List String} {d z : D} {S S' : Store} (e : isP Ts [d] S = .ok z S') : ∃ t, tyN d S = some t ∧ z = .bl (Ts.any fun T => isTy t T) ∧ S' = S := by
  unfold isP at e
  simp only at e
  split at e
  · rename_i t ht; cases e; exact ⟨t, ht, rfl, rfl⟩
  · cases e
theorem isP_nox {Ts : List String} (ds : List D) (S : Store) (x : Exc) (S' : Store) : isP Ts ds S ≠ .exc x S' := fun z => by
  unfold isP at z
  repeat (first | cases z | split at z)
theorem se_is (T : String) {xT : Str} (hT : T ∈ tyAsk) (hg : Gl X "isinstance") (hm : X.mg "isinstance" = none) (hgT : Gl X xT) (hmT : X.mg xT = none) (hv : bootBuiltins xT = some (.type T)) (ha : SE X W e m) {pT : Pos}
    (hn : xT ≠ "__name__" := by decide) (hd : (xT == ("__debug__" : Str)) = false := by decide)
    (he : starEach [e, .Name xT pT] X.env = (false, eval e X.env) :: starEach [.Name xT pT] X.env := by rfl) (he2 : starEach [.Name xT pT] X.env = (false, eval (.Name xT pT) X.env) :: starEach [] X.env := by rfl) (hpl : (backTo pos (starEach [.Name xT pT] X.env)).any (·.1) = false := by rfl) :
    SE X W (.Call (.Name "isinstance" p) [e, .Name xT pT] [] pos) (callM (isP [T]) [m]) := by
  refine pe_imp (pe_callB call_isi hg hm (by decide +kernel) (pa_cons ha (pa_cons (pe_bltn (v := .ty T) hgT hmT hv rfl hn hd) pa_nil (hs := he2)) (hs := he)) (he := he) (hpl := hpl)) fun σ H Q h => ?_
  refine call1 h (fun v H Q => rIsi X.K [v, .ty T] H Q) fun v d H ι S Q r p h => ?_
  cases e1 : isP [T] [d] S with
  | stuck => rw [e1] at h; exact h.elim
  | exc y S1 => exact (isP_nox _ _ _ _ e1).elim
  | ok z S1 =>
    rw [e1] at h
    obtain ⟨t, ht, rfl, rfl⟩ := isP_inv e1
    have hk := kit_table t (tyN_mem ht) T hT
    refine ⟨v, .ty T, .type t, .type T, isTy t T, rfl, .ty T, tyX_of r p ht, kit_ty hk, ?_⟩
    have := h (.bl (isTy t T)) H ι .refl r
    simp only [List.any_cons, List.any_nil, Bool.or_false] at this
    exact this (.bl _)
/-- isinstance(e, (T, U)) -/
theorem se_is2 (T U : String) {xT xU : Str} (hT : T ∈ tyAsk) (hU : U ∈ tyAsk) (hg : Gl X "isinstance") (hm : X.mg "isinstance" = none) (hgT : Gl X xT) (hmT : X.mg xT = none) (hv : bootBuiltins xT = some (.type T)) (hgU : Gl X xU) (hmU : X.mg xU = none) (hvU : bootBuiltins xU = some (.type U)) (ha : SE X W e m) {pT pU pos2 : Pos} {kk}
    (hn : xT ≠ "__name__" := by decide) (hd : (xT == ("__debug__" : Str)) = false := by decide) (hnU : xU ≠ "__name__" := by decide) (hdU : (xU == ("__debug__" : Str)) = false := by decide)
    (he : starEach [e, .Tuple [.Name xT pT, .Name xU pU] kk pos2] X.env = (false, eval e X.env) :: starEach [.Tuple [.Name xT pT, .Name xU pU] kk pos2] X.env := by rfl)
    (he2 : starEach [.Tuple [.Name xT pT, .Name xU pU] kk pos2] X.env = (false, eval (.Tuple [.Name xT pT, .Name xU pU] kk pos2) X.env) :: starEach [] X.env := by rfl)
    (he3 : starEach [.Name xT pT, .Name xU pU] X.env = (false, eval (.Name xT pT) X.env) :: starEach [.Name xU pU] X.env := by rfl)
    (he4 : starEach [.Name xU pU] X.env = (false, eval (.Name xU pU) X.env) :: starEach [] X.env := by rfl)
    (hpl : (backTo pos (starEach [.Tuple [.Name xT pT, .Name xU pU] kk pos2] X.env)).any (·.1) = false := by rfl) :
    SE X W (.Call (.Name "isinstance" p) [e, .Tuple [.Name xT pT, .Name xU pU] kk pos2] [] pos) (callM (isP [T, U]) [m]) := by
  refine pe_imp (pe_callB call_isiT hg hm (by decide +kernel) (pa_cons ha (pa_cons (pe_tup (pa_cons (pe_bltn (v := .ty T) hgT hmT hv rfl hn hd) (pa_cons (pe_bltn (v := .ty U) hgU hmU hvU rfl hnU hdU) pa_nil (hs := he4)) (hs := he3))) pa_nil (hs := he2)) (hs := he)) (he := he) (hpl := hpl)) fun σ H Q h => ?_
  refine call1 h (fun v H Q => [V.ty T, V.ty U].length ≤ sizeLine ∧ ∀ pp, H pp = none → rIsiT X.K [v, .ref pp] (upd H pp (.tup [.ty T, .ty U])) Q) fun v d H ι S Q r p h => ?_
  cases e1 : isP [T, U] [d] S with
  | stuck => rw [e1] at h; exact h.elim
  | exc y S1 => exact (isP_nox _ _ _ _ e1).elim
  | ok z S1 =>
    rw [e1] at h
    obtain ⟨t, ht, rfl, rfl⟩ := isP_inv e1
    have hk := kit_table t (tyN_mem ht) T hT
    have hk2 := kit_table t (tyN_mem ht) U hU
    refine ⟨by show 2 ≤ sizeLine; decide, fun pp hp => ?_⟩
    have g : Grow X.K H ι (upd H pp (.tup [.ty T, .ty U])) ι := Grow.new hp
    refine ⟨v, pp, [.ty T, .ty U], .type t, [.type T, .type U], isTy t T || isTy t U, rfl, upd_same, .cons (.ty T) (.cons (.ty U) .nil), tyX_of (r.new hp) (p.mono g) ht, ?_, ?_⟩
    · refine kitAny_cons (kit_ty hk) (fun hb => kitAny_cons (r := isTy t T || isTy t U) (kit_ty hk2) (fun hb2 => ?_) fun hb2 => ?_) fun hb => by rw [hb]; rfl
      · rw [hb, hb2]; rfl
      · rw [hb, hb2]; rfl
    · have := h (.bl (isTy t T || isTy t U)) _ ι g (r.new hp)
      simp only [List.any_cons, List.any_nil, Bool.or_false] at this
      exact this (.bl _)

/-! ### texts, sorted, max -/
theorem strsOf_map : ∀ {ds : List D} {xs : List Cs}, strsOf ds = some xs → ds = xs.map D.str
  | [], _, h => by cases h; rfl
  | .str x :: r, _, h => by
    unfold strsOf at h
    cases e : strsOf r with
    | none => rw [e] at h; cases h
    | some ys => rw [e] at h; cases h; rw [strsOf_map e]; rfl
  | .non :: _, _, h => by cases h
  | .bl _ :: _, _, h => by cases h
  | .int _ :: _, _, h => by cases h
  | .tup _ :: _, _, h => by cases h
  | .ref _ :: _, _, h => by cases h
  | .fn _ :: _, _, h => by cases h
  | .lit _ :: _, _, h => by cases h
theorem intsOf_map : ∀ {ds : List D} {xs : List Int}, intsOf ds = some xs → ds = xs.map D.int
  | [], _, h => by cases h; rfl
  | .int x :: r, _, h => by
    unfold intsOf at h
    cases e : intsOf r with
    | none => rw [e] at h; cases h
    | some ys => rw [e] at h; cases h; rw [intsOf_map e]; rfl
  | .non :: _, _, h => by cases h
  | .bl _ :: _, _, h => by cases h
  | .str _ :: _, _, h => by cases h
  | .tup _ :: _, _, h => by cases h
  | .ref _ :: _, _, h => by cases h
  | .fn _ :: _, _, h => by cases h
  | .lit _ :: _, _, h => by cases h
theorem Rps.strs {K : PySem.W.Frag} {mg : Str → Option Value} {H : Hp} {ι : List Addr} : ∀ {xs : List Cs} {vs : List V}, Rps K mg H ι vs (xs.map D.str) → vs = (xs.map toS).map V.str
  | [], _, h => by cases h; rfl
  | x :: xs, _, h => by
    cases h with
    | cons h1 h2 => cases h1; rw [Rps.strs h2]; rfl
theorem Rps.ofStrs {K : PySem.W.Frag} {mg : Str → Option Value} {H : Hp} {ι : List Addr} : ∀ {xs : List Cs}, Rps K mg H ι ((xs.map toS).map V.str) (xs.map D.str)
  | [] => .nil
  | x :: xs => .cons (.str x) Rps.ofStrs
theorem Rps.ints {K : PySem.W.Frag} {mg : Str → Option Value} {H : Hp} {ι : List Addr} : ∀ {xs : List Int} {vs : List V}, Rps K mg H ι vs (xs.map D.int) → vs = xs.map V.int
  | [], _, h => by cases h; rfl
  | x :: xs, _, h => by
    cases h with
    | cons h1 h2 => cases h1; rw [Rps.ints h2]; rfl
theorem join_toS (sep : Cs) : ∀ ys : List Cs, Txt.join (toS sep) (ys.map toS) = toS (joinCs sep ys) := by
  have key : ∀ (r : List Cs) (acc : Cs), (r.map toS).foldl (fun acc p => acc ++ (toS sep).cps ++ p.cps) acc.toArray = (acc ++ (r.map fun y => sep ++ y).flatten).toArray := by
    intro r
    induction r with
    | nil => intro acc; simp
    | cons y r ih =>
      intro acc
      rw [List.map_cons, List.foldl_cons]
      have : acc.toArray ++ (toS sep).cps ++ (toS y).cps = (acc ++ sep ++ y).toArray := by simp [toS]
      rw [this, ih]
      simp
  have j2 : ∀ (r : List Cs) (x : Cs), joinCs sep (x :: r) = x ++ (r.map fun y => sep ++ y).flatten := by
    intro r
    induction r with
    | nil => intro x; simp [joinCs]
    | cons y r ih => intro x; rw [joinCs, ih]; simp
  intro ys
  cases ys with
  | nil => rfl
  | cons x r =>
    show Str.mk _ = _
    rw [j2]
    have := key r x
    simp only [List.map_cons, List.drop_succ_cons, List.drop_zero, List.headD_cons]
    show Str.mk (List.foldl _ (toS x).cps _) = _
    rw [show (toS x).cps = x.toArray from rfl, this]; rfl
theorem sim_join {K : PySem.W.Frag} {mg : Str → Option Value} : SimM K mg (fun x xs H Q => ∃ a p, ∃ ys : List Str, x = .str a ∧ xs = [.ref p] ∧ (SqL K H p (ys.map V.str) ∨ SqT K H p (ys.map V.str)) ∧
    (ys.map (·.length)).sum + ys.length * a.length ≤ 16777216 ∧ Q (.str (Txt.join a ys)) H) joinP where
  run := fun x xs dx ds H S ι d S' Q r px q e h => by
    unfold joinP at e
    split at e
    · rename_i sep z e0
      cases e0
      cases px
      obtain ⟨v, rfl, p⟩ := q.one
      split at e
      · rename_i ys e1
        split at e
        · rename_i zs e2
          obtain ⟨hl, rfl, rfl⟩ := ite_ok e
          have := strsOf_map e2
          subst this
          have hlen : ((zs.map toS).map (·.length)).sum + (zs.map toS).length * (toS sep).length ≤ 16777216 := by
            rw [List.map_map, List.length_map, toS_length]
            have : ((fun x : Str => x.length) ∘ toS) = List.length := by funext c; exact toS_length c
            rw [this]; exact hl
          have hq := h (.str (toS (joinCs sep zs))) H ι .refl r (.str _)
          rw [← join_toS] at hq
          cases z with
          | ref n =>
            obtain ⟨a, rfl, ha⟩ := p.ref_inv
            obtain ⟨vs, h1, h2⟩ := r.lstAt ha e1
            have := h2.strs
            subst this
            exact ⟨_, a, zs.map toS, rfl, rfl, .inl h1, hlen, hq⟩
          | tup xs =>
            cases e1
            obtain ⟨a, vs, rfl, h1, _, h2⟩ := p.tup_inv
            have := h2.strs
            subst this
            exact ⟨_, a, zs.map toS, rfl, rfl, .inr h1, hlen, hq⟩
          | _ => cases e1
        · cases e
      · cases e
    · cases e
  nox := fun ds S x S' z => by
    unfold joinP at z
    repeat (first | cases z | exact ite_exc z | split at z)
theorem se_join {apos : Pos} (ho : SE X W o m) (he : SE X W e m') (hs : starEach [e] X.env = [(false, eval e X.env)] := by rfl) (hbase : attributeBase o "join" X.env (eval o X.env) = eval o X.env := by rfl) (hline : (apos.endLine == pos.line) = true := by rfl) :
    SE X W (.Call (.Attribute o "join" apos) [e] [] pos) (methM "str" joinP m [m']) :=
  pe_imp (pe_join ho he hs hbase hline) fun σ H Q h => by
    obtain ⟨δ, S, ι, rl, h⟩ := h
    refine ⟨δ, S, ι, rl, ?_⟩
    have h : PostE X.K X.mg W σ H ι ((m δ S).bind fun d S1 => if tyN d S1 = some "str" then ((m' δ S1).bind fun d2 S2 => (Res.ok [d2] S2 : Res (List D))).bind fun ds S2 => joinP (d :: ds) S2 else .stuck) Q := h
    refine PostE.seq h fun v H1 ι1 d S1 _ g1 r1 p1 h1 => ?_
    split at h1
    · rename_i ht
      refine ⟨?_, δ, S1, ι1, rl.mono g1 r1, ?_⟩
      · cases d with
        | str x => cases p1; exact ⟨_, rfl⟩
        | ref n =>
          unfold tyN at ht
          simp only at ht
          split at ht <;> first | exact absurd ht (by decide) | cases ht
        | _ => simp [tyN] at ht
      · cases e2 : m' δ S1 with
        | stuck => rw [e2] at h1; exact h1
        | exc y S2 => rw [e2] at h1; exact h1
        | ok d2 S2 =>
          rw [e2] at h1
          intro u H2 ι2 g2 r2 p2
          have h1 : PostE X.K X.mg W σ H1 ι1 (joinP [d, d2] S2) Q := h1
          cases e3 : joinP [d, d2] S2 with
          | stuck => rw [e3] at h1; exact h1.elim
          | exc y S3 => exact (sim_join.nox (K := X.K) (mg := X.mg) _ _ _ _ e3).elim
          | ok z S3 =>
            rw [e3] at h1
            exact sim_join.run v [u] d [d2] H2 S2 ι2 z S3 Q r2 (p1.mono g2) (.cons p2 .nil) e3 (PostE.back g2 h1)
    · exact h1.elim

/-! sorted of texts -/
theorem csLe_trans {a b c : Cs} (h1 : csLe a b = true) (h2 : csLe b c = true) : csLe a c = true := by
  simp only [csLe, Bool.not_eq_true', decide_eq_false_iff_not, List.not_lt] at *
  exact List.le_trans h1 h2
theorem csLe_antisymm {a b : Cs} (h1 : csLe a b = true) (h2 : csLe b a = true) : a = b := by
  simp only [csLe, Bool.not_eq_true', decide_eq_false_iff_not, List.not_lt] at *
  exact List.le_antisymm h1 h2
theorem csLe_total (a b : Cs) : (csLe a b || csLe b a) = true := by
  simp only [csLe, Bool.or_eq_true, Bool.not_eq_true', decide_eq_false_iff_not, List.not_lt]
  exact List.le_total a b
theorem risingS_pair : ∀ {r : List Str} {p : Str}, risingS p r = true → ((p :: r).map fun z => z.cps.toList).Pairwise (fun a b => csLe a b = true)
  | [], p, _ => by simp
  | x :: r, p, h => by
    have h : (!ltCps x.cps.toList p.cps.toList && risingS x r) = true := h
    rw [Bool.and_eq_true, ltCps_eq] at h
    have ih := risingS_pair h.2
    rw [List.map_cons, List.pairwise_cons]
    refine ⟨fun z hz => ?_, ih⟩
    rw [List.map_cons] at hz ih
    rcases List.mem_cons.mp hz with rfl | hz
    · exact h.1
    · exact csLe_trans h.1 ((List.pairwise_cons.mp ih).1 z hz)
theorem sortedS_unique {ys : List Str} {xs : List Cs} (hp : ys.Perm (xs.map toS)) (hs : sortedS ys = true) : ys = (xs.mergeSort csLe).map toS := by
  have h1 : (ys.map fun z => z.cps.toList).Pairwise (fun a b => csLe a b = true) := by
    cases ys with
    | nil => simp
    | cons y r => exact risingS_pair hs
  have h2 : (xs.mergeSort csLe).Pairwise (fun a b => csLe a b = true) := List.pairwise_mergeSort (le := csLe) (fun a b c => csLe_trans) csLe_total xs
  have hp2 : (ys.map fun z => z.cps.toList).Perm (xs.mergeSort csLe) := by
    have := hp.map fun z : Str => z.cps.toList
    rw [List.map_map] at this
    have e : ((fun z : Str => z.cps.toList) ∘ toS) = id := by funext c; exact toS_list c
    rw [e, List.map_id] at this
    exact this.trans (List.mergeSort_perm xs csLe).symm
  have e := List.Perm.eq_of_pairwise (le := fun a b => csLe a b = true) (fun a b _ _ => csLe_antisymm) h1 h2 hp2
  rw [← e, List.map_map]
  have : (toS ∘ fun z : Str => z.cps.toList) = id := by funext c; exact toS_of c
  rw [this, List.map_id]
theorem sim_sortedS {K : PySem.W.Frag} {mg : Str → Option Value} : SimN K mg (rSortedS K) sortedSP where
  run := fun xs ds H S ι d S' Q r q e h => by
    unfold sortedSP at e
    split at e
    · obtain ⟨v, rfl, p⟩ := q.one
      obtain ⟨a, rfl, ha⟩ := p.ref_inv
      split at e
      · rename_i ys e1
        split at e
        · rename_i zs e2
          obtain ⟨hl, rfl, rfl⟩ := ite_ok e
          have := strsOf_map e2
          subst this
          obtain ⟨vs, h1, h2⟩ := r.lstAt ha e1
          have := h2.strs
          subst this
          refine ⟨a, zs.map toS, rfl, h1, by rw [List.length_map]; exact hl, fun ws pp hp hs hn => ?_⟩
          rw [sortedS_unique hp hs]
          obtain ⟨g, r', q'⟩ := r.newL hn (Rps.ofStrs (K := K) (mg := mg) (H := H) (ι := ι) (xs := zs.mergeSort csLe))
          exact h _ _ _ g r' q'
        · cases e
      · cases e
    · cases e
  nox := fun ds S x S' z => by
    unfold sortedSP at z
    repeat (first | cases z | exact ite_exc z | split at z)
theorem se_sortedS (hg : Gl X "sorted") (hm : X.mg "sorted" = none) (ha : SA X W [e] [m]) (he : starEach [e] X.env = (false, eval e X.env) :: starEach [] X.env := by rfl) : SE X W (.Call (.Name "sorted" p) [e] [] pos) (callM sortedSP [m]) :=
  se_callB cr_sortedS sim_sortedS hg hm (by decide +kernel) ha (he := he)
theorem maxL_spec : ∀ (r : List Int) (a : Int), maxL a r ∈ a :: r ∧ ∀ y ∈ a :: r, y ≤ maxL a r
  | [], a => by simp [maxL]
  | b :: r, a => by
    unfold maxL
    obtain ⟨h1, h2⟩ := maxL_spec r (if b > a then b else a)
    refine ⟨?_, fun y hy => ?_⟩
    · rcases List.mem_cons.mp h1 with h | h
      · split at h
        · rename_i hb
          rw [if_pos hb, h]; simp
        · rename_i hb
          rw [if_neg hb, h]; simp
      · exact List.mem_cons_of_mem _ (List.mem_cons_of_mem _ h)
    · have h3 := h2 _ List.mem_cons_self
      rcases List.mem_cons.mp hy with rfl | hy
      · split at h3 <;> rename_i hb <;> simp only [hb, if_true, if_false] <;> omega
      · rcases List.mem_cons.mp hy with rfl | hy
        · split at h3 <;> rename_i hb <;> simp only [hb, if_true, if_false] <;> omega
        · exact h2 y (List.mem_cons_of_mem _ hy)
theorem sim_max {K : PySem.W.Frag} {mg : Str → Option Value} : SimN K mg (fun xs H Q => rMax K xs H Q ∨ (∃ i j, xs = [.int i, .int j] ∧ Q (.int (if j > i then j else i)) H)) maxP where
  run := fun xs ds H S ι d S' Q r q e h => by
    unfold maxP at e
    split at e
    · obtain ⟨v, rfl, p⟩ := q.one
      obtain ⟨a, rfl, ha⟩ := p.ref_inv
      split at e
      · rename_i ys e1
        split at e
        · rename_i z zs e2
          cases e
          have := intsOf_map e2
          subst this
          obtain ⟨vs, h1, h2⟩ := r.lstAt ha e1
          have := h2.ints
          subst this
          refine .inl ⟨a, z :: zs, rfl, h1, by simp, fun mm hm hall => ?_⟩
          obtain ⟨k1, k2⟩ := maxL_spec zs z
          have : mm = maxL z zs := Int.le_antisymm (k2 _ hm) (hall _ k1)
          rw [this]
          exact h _ H ι .refl r (.int _)
        · cases e
      · cases e
    · cases e
      obtain ⟨v, u, rfl, p1, p2⟩ := q.two
      cases p1; cases p2
      exact .inr ⟨_, _, rfl, h _ H ι .refl r (.int _)⟩
    · cases e
  nox := fun ds S x S' z => by
    unfold maxP at z
    repeat (first | cases z | exact ite_exc z | split at z)
theorem se_max (hc : X.calm = true) (hg : Gl X "max") (hm : X.mg "max" = none) (ha : SA X W (e :: es) ms) (he : starEach (e :: es) X.env = (false, eval e X.env) :: starEach es X.env := by rfl) (hpl : (backTo pos (starEach es X.env)).any (·.1) = false := by rfl) : SE X W (.Call (.Name "max" p) (e :: es) [] pos) (callM maxP ms) :=
  se_callB ((cr_max hc).or (call_max2 hc)) sim_max hg hm (by decide +kernel) ha (he := he) (hpl := hpl)
theorem sim_abs {K : PySem.W.Frag} {mg : Str → Option Value} : SimN K mg (fun xs H Q => ∃ i, xs = [.int i] ∧ Q (.int (if i < 0 then -i else i)) H) absP where
  run := fun xs ds H S ι d S' Q r q e h => by
    unfold absP at e
    split at e
    · cases e
      obtain ⟨v, rfl, p1⟩ := q.one
      cases p1
      exact ⟨_, rfl, h _ H ι .refl r (.int _)⟩
    · cases e
  nox := fun ds S x S' z => by
    unfold absP at z
    repeat (first | cases z | exact ite_exc z | split at z)
theorem se_abs (hg : Gl X "abs") (hm : X.mg "abs" = none) (ha : SA X W (e :: es) ms) (he : starEach (e :: es) X.env = (false, eval e X.env) :: starEach es X.env := by rfl) (hpl : (backTo pos (starEach es X.env)).any (·.1) = false := by rfl) : SE X W (.Call (.Name "abs" p) (e :: es) [] pos) (callM absP ms) :=
  se_callB call_abs sim_abs hg hm (by decide +kernel) ha (he := he) (hpl := hpl)
theorem sim_min {K : PySem.W.Frag} {mg : Str → Option Value} : SimN K mg (fun xs H Q => ∃ i j, xs = [.int i, .int j] ∧ Q (.int (if j < i then j else i)) H) minP where
  run := fun xs ds H S ι d S' Q r q e h => by
    unfold minP at e
    split at e
    · cases e
      obtain ⟨v, u, rfl, p1, p2⟩ := q.two
      cases p1; cases p2
      exact ⟨_, _, rfl, h _ H ι .refl r (.int _)⟩
    · cases e
  nox := fun ds S x S' z => by
    unfold minP at z
    repeat (first | cases z | exact ite_exc z | split at z)
theorem se_min (hc : X.calm = true) (hg : Gl X "min") (hm : X.mg "min" = none) (ha : SA X W (e :: es) ms) (he : starEach (e :: es) X.env = (false, eval e X.env) :: starEach es X.env := by rfl) (hpl : (backTo pos (starEach es X.env)).any (·.1) = false := by rfl) : SE X W (.Call (.Name "min" p) (e :: es) [] pos) (callM minP ms) :=
  se_callB (call_min2 hc) sim_min hg hm (by decide +kernel) ha (he := he) (hpl := hpl)

/-! ### stores -/
theorem ss_putL (ho : SE X W o m) (hi : SE X W b m') {v : Expr} {mv : EM} (hv : SE X W v mv) (hs : swapsWithSole [.Subscript o b apos] v pos.line X.env = pure false := by rfl) (hw : swappedStores [.Subscript o b apos] v X.env = pure none := by rfl)
    (h1 : (assignEach [.Subscript o b apos] X.env).map (·.2) = [assign (.Subscript o b apos) X.env] := by rfl) (ha : ∀ v, assign (.Subscript o b apos) X.env v = (do
      let ov ← holding [v] (eval o X.env)
      let iv ← holding [v, ov] (eval b X.env)
      standAt apos
      holding [v, ov, iv] (setItem ov iv v)
      release [v, ov, iv] []) := by intro _; rfl) : SS X W (.Assign [.Subscript o b apos] v pos) (exprS (callM putLP [mv, m, m'])) := by
  refine ps_imp (ps_asg hv (pg_sub ho hi set_list ha) hs hw h1) fun D' σ H q => ?_
  obtain ⟨δ, S, ι, r, q⟩ := q
  refine ⟨δ, S, ι, r, ?_⟩
  have q : PostS X.K X.mg W D' H ι (((mv δ S).bind fun d S1 => ((m δ S1).bind fun d2 S2 => ((m' δ S2).bind fun d3 S3 => (Res.ok [d3] S3 : Res (List D))).bind fun ds S4 => .ok (d2 :: ds) S4).bind fun ds S5 => .ok (d :: ds) S5).bind putLP |>.thenS δ fun _ S1 => .ok (.nx δ) S1) := q
  cases e1 : mv δ S with
  | stuck => rw [e1] at q; exact q
  | exc y S1 => rw [e1] at q; exact fun c dx H' ι' g q1 z => q c dx σ H' ι' g (r.mono g q1) z
  | ok d1 S1 =>
    rw [e1] at q
    intro v1 H1 ι1 g1 r1 p1
    refine ⟨δ, S1, ι1, r.mono g1 r1, ?_⟩
    have q := PostS.back g1 q
    cases e2 : m δ S1 with
    | stuck => simp only [Res.bind_ok, e2] at q; exact q
    | exc y S2 => simp only [Res.bind_ok, e2] at q; exact fun c dx H' ι' g q1 z => q c dx σ H' ι' g (r.mono (g1.trans g) q1) z
    | ok d2 S2 =>
      simp only [Res.bind_ok, e2] at q
      intro v2 H2 ι2 g2 r2 p2
      refine ⟨δ, S2, ι2, r.mono (g1.trans g2) r2, ?_⟩
      have q := PostS.back g2 q
      cases e3 : m' δ S2 with
      | stuck => simp only [e3] at q; exact q
      | exc y S3 => simp only [e3] at q; exact fun c dx H' ι' g q1 z => q c dx σ H' ι' g (r.mono ((g1.trans g2).trans g) q1) z
      | ok d3 S3 =>
        simp only [Res.bind_ok, e3] at q
        intro v3 H3 ι3 g3 r3 p3
        have q := PostS.back g3 q
        have p2 := p2.mono g3
        have p1 := p1.mono (g2.trans g3)
        cases e4 : putLP [d1, d2, d3] S3 with
        | stuck => rw [e4] at q; exact q.elim
        | exc y S4 =>
          unfold putLP at e4
          repeat (first | cases e4 | split at e4)
        | ok z S4 =>
          rw [e4] at q
          unfold putLP at e4
          split at e4
          · rename_i v n kk e0
            cases e0
            split at e4
            · rename_i xs e5
              split at e4
              · rename_i j e6
                cases e4
                obtain ⟨a, rfl, hA⟩ := p2.ref_inv
                cases p3
                obtain ⟨vs, h1, h2⟩ := r3.lst hA e5
                obtain ⟨g4, r4⟩ := r3.put hA h1 (h2.set p1 j)
                refine ⟨a, vs, kk, j, rfl, rfl, h1, by rw [h2.length]; exact e6, ?_⟩
                exact q σ _ ι3 g4 (r.mono (((g1.trans g2).trans g3).trans g4) r4)
              · cases e4
            · cases e4
          · cases e4
end
end Dl

end

section
set_option linter.all false
set_option Elab.async false
set_option maxRecDepth 100000
set_option Elab.async false
set_option linter.all false
set_option maxRecDepth 100000
set_option maxHeartbeats 4000000
namespace Dl
open PySem PySem.Spec PyProof.Rows L2

theorem ofString_inj {a b : String} (h : Str.ofString a = Str.ofString b) : a = b := by
  rw [Str.ofString_eq_toList, Str.ofString_eq_toList] at h
  have h1 := congrArg (fun z : Str => z.cps.toList) h
  simp only at h1
  have : a.toList = b.toList := by
    have inj : ∀ (x y : List Char), x.map Char.toNat = y.map Char.toNat → x = y := by
      intro x
      induction x with
      | nil => intro y hy; cases y <;> simp_all
      | cons c x ih =>
        intro y hy
        cases y with
        | nil => simp at hy
        | cons d y =>
          simp only [List.map_cons, List.cons.injEq] at hy
          have hc : c = d := by
            have : c.val.toNat = d.val.toNat := hy.1
            exact Char.ext (UInt32.toNat_inj.mp this)
          rw [hc, ih y hy.2]
    exact inj _ _ h1
  exact String.toList_inj.mp this

/-! ### f-strings -/
section
variable {X : Cx} {W : WX} {e o a b c elt tge iter : Expr} {es ifs : List Expr} {m m' : EM} {ms : List EM} {p pos apos : Pos} {k n lv : Nat} {x : Str} {f : FM}
theorem se_fmt (he : SE X W e m) : SE X W (.FormattedValue e (-1) none pos) (callM fmtP [m]) := by
  refine pe_imp (pe_fmt he) fun σ H Q h => call1 h (fun x H1 Q => (∃ y : Str, x = .str y ∧ y.length ≤ sizeLine ∧ Q (.str y) H1) ∨ ∃ i : Int, x = .int i ∧ i.natAbs.log2 < 1920 ∧ Q (.str (toString i)) H1) fun v d H ι S Q r p h => ?_
  cases e1 : fmtP [d] S with
  | stuck => rw [e1] at h; exact h.elim
  | exc y S1 =>
    unfold fmtP at e1
    repeat (first | cases e1 | split at e1)
  | ok z S1 =>
    rw [e1] at h
    unfold fmtP at e1
    split at e1
    · rename_i i q
      cases q
      obtain ⟨hl, rfl, rfl⟩ := ite_ok e1
      cases p
      refine .inr ⟨_, rfl, log_small hl, ?_⟩
      show Q (.str (Str.ofString (toString i))) H
      rw [intCs_toS]
      exact h _ H ι .refl r (.str _)
    · rename_i i q
      cases q
      obtain ⟨hl, rfl, rfl⟩ := ite_ok e1
      cases p
      exact .inl ⟨_, rfl, by rw [toS_length, ← LIM_eq]; exact hl, h _ H ι .refl r (.str _)⟩
    · cases e1
inductive SJ (X : Cx) (W : WX) : List Expr → List EM → Prop where
  | nil : SJ X W [] []
  | cons {e : Expr} {m : EM} {es : List Expr} {ms : List EM} (h : SE X W e m) (r : SJ X W es ms) : SJ X W (e :: es) (m :: ms)
theorem SJ.pj (h : SJ X W es ms) : PJ X es (ms.map (cE X.K X.mg W)) := by
  induction h with
  | nil => exact .nil
  | cons h r ih => exact .cons h ih
theorem cat_run {K : PySem.W.Frag} {mg : Str → Option Value} : ∀ {ms : List EM} {acc : Cs} {σ : L2.St} {H : Hp} {Q : VK}, cE K mg W (catM acc ms) σ H Q → tJs (ms.map (cE K mg W)) (toS acc) σ H fun out H1 => Q (.str out) H1
  | [], acc, σ, H, Q, h => by
    obtain ⟨δ, S, ι, r, h⟩ := h
    exact h _ H ι .refl r.sto (.str _)
  | m :: ms, acc, σ, H, Q, h => by
    obtain ⟨δ, S, ι, r, h⟩ := h
    refine ⟨δ, S, ι, r, ?_⟩
    have h : PostE K mg W σ H ι ((m δ S).bind fun d S1 => match d with
      | .str y => if acc.length + y.length ≤ LIM then catM (acc ++ y) ms δ S1 else .stuck
      | _ => .stuck) Q := h
    refine PostE.seq h fun v H' ι' d S' _ g r1 p1 h1 => ?_
    split at h1
    · rename_i y
      split at h1
      · rename_i hl
        cases p1
        refine ⟨_, rfl, by rw [toS_append, toS_length, ← LIM_eq]; simpa using hl, ?_⟩
        rw [toS_append]
        exact cat_run ⟨δ, S', ι', r.mono g r1, h1⟩
      · exact h1.elim
    · exact h1.elim
theorem se_joined {v1 v2 : Expr} {rest : List Expr} (h : SJ X W (v1 :: v2 :: rest) ms) : SE X W (.JoinedStr (v1 :: v2 :: rest) pos) (catM [] ms) :=
  pe_imp (pe_joined h.pj) fun σ H Q q => cat_run q

/-! ### classes -/
/-- a class of the text: its address, its fields -/
structure CT (K : PySem.W.Frag) (mg : Str → Option Value) (C : String) (flds : List String) : Prop where
  ex : ∃ c, mg (Str.ofString C) = some (.ref c) ∧ Cls K c ∧ ∀ f ∈ flds, NoAttr K c (Str.ofString f)
/-- a method of it -/
structure MT (P : Program) (w : World) (K : PySem.W.Frag) (mg : Str → Option Value) (base : Heap) (lv : Nat) (C m : String) (F : FM) (n : Nat) : Prop where
  ex : ∃ (c f : Addr) (fd : FuncData) (ps : List Str), mg (Str.ofString C) = some (.ref c) ∧ Cls K c ∧ Meth K c (Str.ofString m) f ∧ FnOk P w K mg base (L2.CX P w) lv f fd ps (spOf K mg F n) ∧ Binds K fd ps []
/-- its making -/
structure KT (P : Program) (w : World) (K : PySem.W.Frag) (mg : Str → Option Value) (base : Heap) (lv : Nat) (C : String) (F : FM) (n : Nat) : Prop where
  ex : ∃ (c f : Addr) (fd : FuncData) (ps : List Str), mg (Str.ofString C) = some (.ref c) ∧ Mk K c f ∧ FnOk P w K mg base (L2.CX P w) lv f fd ps (spOf K mg F n) ∧ Binds K fd ps []
theorem Rfs.lookup {K : PySem.W.Frag} {mg : Str → Option Value} {H : Hp} {ι : List Addr} {f : String} : ∀ {vs : List (Str × V)} {fs : List (String × D)}, Rfs K mg H ι vs fs →
    (∀ d, getF f fs = some d → ∃ v, vs.lookup (Str.ofString f) = some v ∧ Rp K mg H ι v d) ∧ (getF f fs = none → vs.lookup (Str.ofString f) = none)
  | _, _, .nil => ⟨fun d h => (by cases h), fun _ => rfl⟩
  | _, _, .cons (k := k) (v := v) (vs := vs) (d := d) (ds := ds) h1 h2 => by
    have ih := Rfs.lookup (f := f) h2
    unfold getF
    simp only
    by_cases hk : k = f
    · subst hk
      rw [if_pos rfl]
      refine ⟨fun d' h => ?_, fun h => by cases h⟩
      cases h
      exact ⟨v, by simp [List.lookup], h1⟩
    · rw [if_neg hk]
      have hb : (Str.ofString f == Str.ofString k) = false := beq_eq_false_iff_ne.mpr fun z => hk (ofString_inj z).symm
      simp only [List.lookup, hb]
      exact ih
theorem Rfs.put {K : PySem.W.Frag} {mg : Str → Option Value} {H : Hp} {ι : List Addr} {f : String} {v : V} {d : D} (p : Rp K mg H ι v d) : ∀ {vs : List (Str × V)} {fs : List (String × D)}, Rfs K mg H ι vs fs →
    Rfs K mg H ι (L2.putF (Str.ofString f) v vs) (Dl.putF f d fs)
  | _, _, .nil => .cons p .nil
  | _, _, .cons (k := k) (v := w) (vs := vs) (d := e) (ds := ds) h1 h2 => by
    unfold L2.putF Dl.putF
    simp only
    by_cases hk : k = f
    · subst hk
      rw [if_pos rfl, if_pos rfl]
      exact .cons p h2
    · rw [if_neg hk, if_neg fun z => hk (ofString_inj z)]
      exact .cons h1 (Rfs.put p h2)
theorem Rfs.length {K : PySem.W.Frag} {mg : Str → Option Value} {H : Hp} {ι : List Addr} : ∀ {vs : List (Str × V)} {fs : List (String × D)}, Rfs K mg H ι vs fs → vs.length = fs.length
  | _, _, .nil => rfl
  | _, _, .cons _ h => by simp [Rfs.length h]
theorem RS.ins {K : PySem.W.Frag} {mg : Str → Option Value} {H : Hp} {ι : List Addr} {S : Store} {n : Nat} {a : Addr} {C : String} {fs : List (String × D)} (r : RS K mg H ι S) (ha : ι[n]? = some a) (e : insAt S n C = some fs) :
    ∃ c dx vs, mg (Str.ofString C) = some (.ref c) ∧ H a = some (.ins c dx vs) ∧ Rfs K mg H ι vs fs := by
  unfold insAt at e
  split at e
  · rename_i C' fs' e1
    split at e
    · rename_i hC
      subst hC
      cases e
      exact r.at_ n _ a e1 ha
    · cases e
  · cases e
theorem RS.putIns {K : PySem.W.Frag} {mg : Str → Option Value} {H : Hp} {ι : List Addr} {S : Store} {n : Nat} {a c dx : Addr} {C : String} {vs ws : List (Str × V)} {fs : List (String × D)} (r : RS K mg H ι S) (ha : ι[n]? = some a)
    (hC : mg (Str.ofString C) = some (.ref c)) (e : H a = some (.ins c dx vs)) (q : Rfs K mg H ι ws fs) : Grow K H ι (upd H a (.ins c dx ws)) ι ∧ RS K mg (upd H a (.ins c dx ws)) ι (S.set n (.ins C fs)) := by
  have g : Grow K H ι (upd H a (.ins c dx ws)) ι := Grow.write e (fun _ z => by cases z) (fun _ _ z => by cases z)
  exact ⟨g, r.write ha g ⟨c, dx, ws, hC, upd_same, q.mono g⟩⟩
theorem se_fld {C f : String} {flds : List String} {x : Str} (T : CT X.K X.mg C flds) (hf : f ∈ flds) (he : SE X W e m) (hx : x = Str.ofString f := by rfl) (hb : attributeBase e x X.env (eval e X.env) = eval e X.env := by rfl) : SE X W (.Attribute e x pos) (callM (fldP C f) [m]) := by
  subst hx
  refine pe_imp (pe_fld he hb) fun σ H Q h => call1 h (fun x H1 Q => ∃ a C dx fs v, x = .ref a ∧ H1 a = some (.ins C dx fs) ∧ Cls X.K C ∧ NoAttr X.K C (Str.ofString f) ∧ fs.lookup (Str.ofString f) = some v ∧ Q v H1) fun v d H ι S Q r p h => ?_
  cases d with
  | ref n =>
    unfold fldP at h
    simp only at h
    split at h
    · rename_i fs e1
      split at h
      · rename_i d e2
        obtain ⟨a, rfl, ha⟩ := p.ref_inv
        obtain ⟨c, dx, vs, h1, h2, h3⟩ := r.ins ha e1
        obtain ⟨c', k1, k2, k3⟩ := T.ex
        rw [h1] at k1; cases k1
        obtain ⟨v, q1, q2⟩ := (h3.lookup (f := f)).1 d e2
        exact ⟨a, c, dx, vs, v, rfl, h2, k2, k3 f hf, q1, h v H ι .refl r q2⟩
      · exact h.elim
    · exact h.elim
  | _ => exact h.elim
theorem ss_fld {C f : String} {flds : List String} {x : Str} {pos' : Pos} {v : Expr} {mv : EM} (T : CT X.K X.mg C flds) (hf : f ∈ flds) (ho : SE X W o m) (hv : SE X W v mv) (hx : x = Str.ofString f := by rfl) (hs : swapsWith v (some (.Attribute o x pos')) pos.line X.env = pure false := by rfl) :
    SS X W (.Assign [.Attribute o x pos'] v pos) (exprS (callM (putFP C f) [mv, m])) := by
  subst hx
  refine ps_imp (ps_fld ho hv hs) fun D' σ H q => ?_
  obtain ⟨δ, S, ι, r, q⟩ := q
  refine ⟨δ, S, ι, r, ?_⟩
  have q : PostS X.K X.mg W D' H ι (((mv δ S).bind fun d S1 => ((m δ S1).bind fun d2 S2 => (Res.ok [d2] S2 : Res (List D))).bind fun ds S5 => .ok (d :: ds) S5).bind (putFP C f) |>.thenS δ fun _ S1 => .ok (.nx δ) S1) := q
  cases e1 : mv δ S with
  | stuck => rw [e1] at q; exact q
  | exc y S1 => rw [e1] at q; exact fun c dx H' ι' g q1 z => q c dx σ H' ι' g (r.mono g q1) z
  | ok d1 S1 =>
    rw [e1] at q
    intro v1 H1 ι1 g1 r1 p1
    refine ⟨δ, S1, ι1, r.mono g1 r1, ?_⟩
    have q := PostS.back g1 q
    cases e2 : m δ S1 with
    | stuck => simp only [Res.bind_ok, e2] at q; exact q
    | exc y S2 => simp only [Res.bind_ok, e2] at q; exact fun c dx H' ι' g q1 z => q c dx σ H' ι' g (r.mono (g1.trans g) q1) z
    | ok d2 S2 =>
      simp only [Res.bind_ok, e2] at q
      intro v2 H2 ι2 g2 r2 p2
      have q := PostS.back g2 q
      have p1 := p1.mono g2
      cases e4 : putFP C f [d1, d2] S2 with
      | stuck => rw [e4] at q; exact q.elim
      | exc y S4 =>
        unfold putFP at e4
        repeat (first | cases e4 | split at e4)
      | ok z S4 =>
        rw [e4] at q
        unfold putFP at e4
        split at e4
        · rename_i vv n e0
          cases e0
          split at e4
          · rename_i fs e5
            obtain ⟨hl, rfl, rfl⟩ := ite_ok e4
            obtain ⟨a, rfl, ha⟩ := p2.ref_inv
            obtain ⟨c, dx, vs, h1, h2, h3⟩ := r2.ins ha e5
            obtain ⟨c', k1, k2, k3⟩ := T.ex
            rw [h1] at k1; cases k1
            obtain ⟨g3, r3⟩ := r2.putIns ha h1 h2 (h3.put (f := f) p1)
            refine ⟨a, c, dx, vs, rfl, h2, k2, k3 f hf, by rw [h3.length]; omega, ?_⟩
            exact q σ _ ι2 g3 (r.mono ((g1.trans g2).trans g3) r3)
          · cases e4
        · cases e4
/-- the added thing is a written int -/
theorem ss_fldinc {C f : String} {flds : List String} {x : Str} {tpos : Pos} {j : Int} {kk jpos} (T : CT X.K X.mg C flds) (hf : f ∈ flds) (ho : SE X W o m) (hx : x = Str.ofString f := by rfl) :
    SS X W (.AugAssign (.Attribute o x tpos) .Add (.Constant (.int j) kk jpos) pos) (exprS (callM (augFP C f) [m, conM (.int j)])) := by
  subst hx
  refine ps_imp (ps_fldaug ho (pe_int (X := X) (i := j) (j := kk) (pos := jpos)) in_add) fun D' σ H q => ?_
  obtain ⟨δ, S, ι, r, q⟩ := q
  refine ⟨δ, S, ι, r, ?_⟩
  have q : PostS X.K X.mg W D' H ι (((m δ S).bind fun d S1 => (Res.ok [d, .int j] S1 : Res (List D))).bind (augFP C f) |>.thenS δ fun _ S1 => .ok (.nx δ) S1) := q
  cases e1 : m δ S with
  | stuck => rw [e1] at q; exact q
  | exc y S1 => rw [e1] at q; exact fun c dx H' ι' g q1 z => q c dx σ H' ι' g (r.mono g q1) z
  | ok d1 S1 =>
    rw [e1] at q
    intro v1 H1 ι1 g1 r1 p1
    have q := PostS.back g1 q
    simp only [Res.bind_ok] at q
    cases e4 : augFP C f [d1, .int j] S1 with
    | stuck => rw [e4] at q; exact q.elim
    | exc y S4 =>
      unfold augFP at e4
      repeat (first | cases e4 | split at e4)
    | ok z S4 =>
      rw [e4] at q
      unfold augFP at e4
      split at e4
      · rename_i n jj e0
        cases e0
        split at e4
        · rename_i fs e5
          split at e4
          · rename_i i e6
            obtain ⟨hl, rfl, rfl⟩ := ite_ok e4
            obtain ⟨a, rfl, ha⟩ := p1.ref_inv
            obtain ⟨c, dx, vs, h1, h2, h3⟩ := r1.ins ha e5
            obtain ⟨c', k1, k2, k3⟩ := T.ex
            rw [h1] at k1; cases k1
            obtain ⟨w, q1, q2⟩ := (h3.lookup (f := f)).1 _ e6
            cases q2
            obtain ⟨g3, r3⟩ := r1.putIns ha h1 h2 (h3.put (f := f) (.int (i + j)))
            refine ⟨a, c, dx, vs, .int i, rfl, h2, k2, k3 f hf, q1, i, j, rfl, rfl, dx, vs, h2, by rw [h3.length]; omega, ?_⟩
            exact q σ _ ι1 g3 (r.mono (g1.trans g3) r3)
          · cases e4
        · cases e4
      · cases e4
/-- o.m(..) -/
theorem metI {K : PySem.W.Frag} {mg : Str → Option Value} {σ : L2.St} {H : Hp} {Q : VK} {C mm : String} {F : FM} {c : Addr} (hC : mg (Str.ofString C) = some (.ref c)) (hn : ms.length + 1 = n) (h : cE K mg W (methI C mm F m ms) σ H Q) :
    cE K mg W m σ H fun x H1 => ∃ a dx fs, x = .ref a ∧ H1 a = some (.ins c dx fs) ∧ fs.lookup (Str.ofString mm) = none ∧ cA K mg W (argsM ms) σ H1 fun vs H2 => spOf K mg F n (x :: vs) H2 Q (WE W σ) := by
  obtain ⟨δ, S, ι, rl, h⟩ := h
  refine ⟨δ, S, ι, rl, ?_⟩
  have h : PostE K mg W σ H ι ((m δ S).bind fun d S1 => match d with
    | .ref n => (match insAt S1 n C with
      | some fs => if getF mm fs = none then (argsM ms δ S1).bind fun ds S2 => F (d :: ds) S2 else .stuck
      | none => .stuck)
    | _ => .stuck) Q := by
    unfold methI at h
    cases e1 : m δ S with
    | stuck => rw [e1] at h; exact h
    | exc y S1 => rw [e1] at h; exact h
    | ok d S1 => rw [e1] at h; cases d <;> exact h
  refine PostE.seq h fun v H1 ι1 d S1 _ g1 r1 p1 h1 => ?_
  split at h1
  · rename_i nn _
    split at h1
    · rename_i fs e1
      split at h1
      · rename_i hl
        obtain ⟨a, rfl, ha⟩ := p1.ref_inv
        obtain ⟨c', dx, vs, k1, k2, k3⟩ := r1.ins ha e1
        rw [hC] at k1; cases k1
        refine ⟨a, dx, vs, rfl, k2, (k3.lookup (f := mm)).2 hl, δ, S1, ι1, rl.mono g1 r1, PostA.seq h1 fun us H2 ι2 ds S2 e2 g2 r2 q2 h2 => ?_⟩
        refine ⟨?_, .ref nn :: ds, S2, ι2, r2, .cons (p1.mono g2) q2, ?_⟩
        · have ln : ∀ (ms : List EM) (S : Store) (ds : List D) (S1 : Store), argsM ms δ S = .ok ds S1 → ds.length = ms.length := by
            intro ms
            induction ms with
            | nil => intro S ds S1 e; cases e; rfl
            | cons m ms ih =>
              intro S ds S1 e
              obtain ⟨d, S2, e1, e2⟩ := bind_inv e
              obtain ⟨ds', S3, e3, e4⟩ := bind_inv e2
              cases e4
              simp [ih _ _ _ e3]
          rw [List.length_cons, q2.length, ln _ _ _ _ e2, hn]
        · cases e3 : F (.ref nn :: ds) S2 with
          | ok d S' => rw [e3] at h2; exact h2
          | exc x S' => rw [e3] at h2; exact h2
          | stuck => rw [e3] at h2; exact h2.elim
      · exact h1.elim
    · exact h1.elim
  · exact h1.elim
theorem se_meth {C mm : String} {F : FM} {pl : Sem Bool} {x : Str} (hr : Room k X.A) (tk : Takes X W) (T : MT X.prog X.w X.K X.mg X.base lv C mm F n) (hk : lv ≤ k) (ho : SE X W o m) (ha : SA X W (e :: es) ms) (hx : x = Str.ofString mm := by rfl) (hn : ms.length + 1 = n := by rfl)
    (hst : starEach (e :: es) X.env = (false, eval e X.env) :: starEach es X.env := by rfl) (hpl : (backTo pos (starEach es X.env)).any (·.1) = false := by rfl)
    (ht : eval (.Call (.Attribute o x apos) (e :: es) [] pos) X.env = (do
      let ov ← eval o X.env
      standAt apos.atName
      let (f, first) ← holding [ov] (getMethod ov x pl)
      callWith pos f first (backTo pos (starEach (e :: es) X.env)) (backToKw pos (keywordEach [] X.env))) := by rfl) : SE X W (.Call (.Attribute o x apos) (e :: es) [] pos) (methI C mm F m ms) := by
  subst hx
  obtain ⟨c, f, fd, ps, h1, h2, h3, h4, h5⟩ := T.ex
  refine pe_imp (t := fun σ H Q => cE X.K X.mg W m σ H fun x H1 => ∃ a dx fs, x = .ref a ∧ H1 a = some (.ins c dx fs) ∧ fs.lookup (Str.ofString mm) = none ∧ cA X.K X.mg W (argsM ms) σ H1 fun vs H2 => spOf X.K X.mg F n (x :: vs) H2 Q (WE W σ)) ⟨fun pins s σ H Q I h => ?_⟩ fun σ H Q h => metI h1 hn h
  refine PySem.W.methodCall_KW (pl := pl) (thn (ho.run pins s σ H _ I h) fun u s1 ⟨x, H1, I1, rx, a, dx, fs, ex, ea, l, q⟩ => ?_) ht
  subst ex
  obtain rfl : u = Value.ref a := rx
  refine getmeth_ok I1 ea h2 h3 l ?_
  refine PySem.W.callWith_K (first := [.ref a]) (h₀ := X.base) I.ok.mod.kin h3.kp (thn (ha.run pos pins s1 σ H1 _ I1 q) fun us s2 ⟨vs, H2, I2, r, q2⟩ => ⟨I2.kIn, ?_⟩) hst hpl
  exact run_fnS (us := .ref a :: us) (vs := .ref a :: vs) h4 (hr.mono hk) h5 (passAt tk σ) I2 (.cons rfl r) q2
theorem se_meth0 {C mm : String} {F : FM} {pl : Sem Bool} {x : Str} (hr : Room k X.A) (tk : Takes X W) (T : MT X.prog X.w X.K X.mg X.base lv C mm F 1) (hk : lv ≤ k) (ho : SE X W o m) (hx : x = Str.ofString mm := by rfl)
    (ht : eval (.Call (.Attribute o x apos) [] [] pos) X.env = (do
      let ov ← eval o X.env
      standAt apos.atName
      let (f, first) ← holding [ov] (getMethod ov x pl)
      callWith pos f first (backTo pos (starEach [] X.env)) (backToKw pos (keywordEach [] X.env))) := by rfl) : SE X W (.Call (.Attribute o x apos) [] [] pos) (methI C mm F m []) := by
  subst hx
  obtain ⟨c, f, fd, ps, h1, h2, h3, h4, h5⟩ := T.ex
  refine pe_imp (t := fun σ H Q => cE X.K X.mg W m σ H fun x H1 => ∃ a dx fs, x = .ref a ∧ H1 a = some (.ins c dx fs) ∧ fs.lookup (Str.ofString mm) = none ∧ spOf X.K X.mg F 1 [x] H1 Q (WE W σ)) ⟨fun pins s σ H Q I h => ?_⟩ fun σ H Q h => ?_
  · refine PySem.W.methodCall_KW (pl := pl) (thn (ho.run pins s σ H _ I h) fun u s1 ⟨x, H1, I1, rx, a, dx, fs, ex, ea, l, q⟩ => ?_) ht
    subst ex
    obtain rfl : u = Value.ref a := rx
    refine getmeth_ok I1 ea h2 h3 l ?_
    exact PySem.W.callWith_K0 (first := [.ref a]) I1.kIn h3.kp (run_fnS (us := [.ref a]) (vs := [.ref a]) h4 (hr.mono hk) h5 (passAt tk σ) I1 (.cons rfl .nil) q)
  · obtain ⟨δ, S, ι, r, q⟩ := metI (ms := []) (n := 1) h1 rfl h
    refine ⟨δ, S, ι, r, PostE.imp q fun v H' z => ?_⟩
    obtain ⟨a, dx, fs, z1, z2, z3, δ', S', ι', r', z4⟩ := z
    exact ⟨a, dx, fs, z1, z2, z3, z4 [] H' ι' .refl r'.sto .nil⟩
/-- C(..) -/
theorem se_make {C : String} {F : FM} {x : Str} (hr : Room k X.A) (tk : Takes X W) (T : KT X.prog X.w X.K X.mg X.base lv C F n) (hk : lv + 1 ≤ k) (hx : x = Str.ofString C) (hg : Gl X x) (ha : SA X W (e :: es) ms) (hn : ms.length + 1 = n := by rfl) (hdb : (x == ("__debug__" : Str)) = false := by decide)
    (he : starEach (e :: es) X.env = (false, eval e X.env) :: starEach es X.env := by rfl) (hpl : (backTo pos (starEach es X.env)).any (·.1) = false := by rfl) : SE X W (.Call (.Name x p) (e :: es) [] pos) (makeM C F ms) := by
  subst hx
  obtain ⟨c, f, fd, ps, h1, h2, h3, h4⟩ := T.ex
  have hx : ∀ σ, Passes (L2.CX X.prog X.w) { X with xe := X.xe } (WE W σ) → True := fun _ _ => trivial
  refine pe_imp (t := fun σ H Q => cA X.K X.mg W (argsM ms) σ H fun vs H1 => ∀ x dx, H1 x = none → H1 dx = none → dx ≠ x → spOf X.K X.mg F n (.ref x :: vs) (upd (upd H1 dx (.own x)) x (.ins c dx [])) (fun v H2 => v = .non ∧ Q (.ref x) H2) (WE W σ)) ⟨fun pins s σ H Q I h => ?_⟩ fun σ H Q h => ?_
  · refine wpAny_Call_Name_kw (ld_glob I hg h1 ?_ hdb)
    refine PySem.W.callWith_K (h₀ := X.base) I.ok.mod.kin h2.kp (thn (ha.run pos pins s σ H _ I h) fun us s1 ⟨vs, H1, I1, r, q⟩ => ⟨I1.kIn, ?_⟩) he hpl
    have hq := q (s1.heap.objs.size + 1) s1.heap.objs.size (I1.hok.fresh (Nat.le_succ _)) (I1.hok.fresh (Nat.le_refl _)) (Nat.ne_of_lt (Nat.lt_succ_self _))
    have I2 := Inv.made (C := c) I1
    have r2 : Vals (V.ref (s1.heap.objs.size + 1) :: vs) (Value.ref (s1.heap.objs.size + 1) :: us) := .cons rfl r
    have hl : (Value.ref (s1.heap.objs.size + 1) :: us ++ []).length = ps.length := by
      have z := r2.length
      rw [h3.len _ _ _ _ hq] at z
      rw [List.append_nil]; exact z.symm
    have hb := h4 ⟨_, _, _, _, _⟩ (Value.ref (s1.heap.objs.size + 1) :: us) I2.kIn hl
    rw [List.append_nil] at hb
    refine wpAny_call (make_map (f := f) I1.kIn h2.makes h2.init (beq_iff_eq.mp h2.fn) (codeAny_mono (h3.run _ X.stack _ _ ⟨Value.ref (s1.heap.objs.size + 1) :: us, []⟩ (Value.ref (s1.heap.objs.size + 1) :: us) _ _ (WE W σ) ((hr.mono hk).make c us [])
      (I2.env0.make c us []) hb r2 hq) fun rr s' hq' => ?_))
    cases rr with
    | error ee => exact passAt tk σ pins _ _ ee s' I2 hq'
    | ok fl =>
      cases fl with
      | ret u =>
        obtain ⟨v, H', I3, rv, ev, q3⟩ := I2.after hq'
        subst ev
        exact ⟨rv, ⟨V.ref (s1.heap.objs.size + 1), H', I3, rfl, q3⟩⟩
      | next => exact False.elim hq'
      | brk => exact False.elim hq'
      | cont => exact False.elim hq'
  · obtain ⟨δ, S, ι, r, h⟩ := h
    refine ⟨δ, S, ι, r, ?_⟩
    have h : PostE X.K X.mg W σ H ι ((argsM ms δ S).bind fun ds S1 => (F (.ref S1.length :: ds) (S1 ++ [.ins C []])).bind fun r S2 => if r = .non then .ok (.ref S1.length) S2 else .stuck) Q := h
    refine PostA.seq h fun vs H1 ι1 ds S1 e1 g1 r1 q1 h' => fun y dy hy hdy hne => ?_
    have g2 : Grow X.K H1 ι1 (upd H1 dy (.own y)) ι1 := Grow.new hdy
    have r2 := r1.new (o := .own y) hdy
    have hy2 : (upd H1 dy (.own y)) y = none := by rw [upd_ne (Ne.symm hne)]; exact hy
    have g3 : Grow X.K (upd H1 dy (.own y)) ι1 (upd (upd H1 dy (.own y)) y (.ins c dy [])) (ι1 ++ [y]) := Grow.alloc hy2
    have r3 : RS X.K X.mg (upd (upd H1 dy (.own y)) y (.ins c dy [])) (ι1 ++ [y]) (S1 ++ [.ins C []]) := r2.alloc hy2 ⟨c, dy, [], h1, upd_same, .nil⟩
    have hy3 : (ι1 ++ [y])[S1.length]? = some y := by rw [← r1.len]; simp
    refine ⟨?_, .ref S1.length :: ds, _, _, r3, .cons (.ref hy3) (q1.mono (g2.trans g3)), ?_⟩
    · have ln : ∀ (ms : List EM) (S : Store) (ds : List D) (S1 : Store), argsM ms δ S = .ok ds S1 → ds.length = ms.length := by
        intro ms
        induction ms with
        | nil => intro S ds S1 e; cases e; rfl
        | cons m ms ih =>
          intro S ds S1 e
          obtain ⟨d, S2, e1, e2⟩ := bind_inv e
          obtain ⟨ds', S3, e3, e4⟩ := bind_inv e2
          cases e4
          simp [ih _ _ _ e3]
      rw [List.length_cons, q1.length, ln _ _ _ _ e1, hn]
    · have h' := PostE.back (g2.trans g3) h'
      cases e3 : F (.ref S1.length :: ds) (S1 ++ [.ins C []]) with
      | stuck => rw [e3] at h'; exact h'.elim
      | exc x S' => rw [e3] at h'; exact h'
      | ok d S' =>
        rw [e3] at h'
        simp only [Res.bind_ok] at h'
        intro v H' ι' g4 r4 p4
        split at h'
        · rename_i hd
          subst hd
          cases p4
          exact ⟨rfl, h' _ H' ι' g4 r4 (.ref (pre_get g4.pre hy3))⟩
        · exact h'.elim
/-- a call of the def that a slot holds -/
theorem se_callV (i : Nat) {Fs : List (String × FM)} (hr : Room k X.A) (tk : Takes X W) (hF : ∀ y F, Fs.lookup y = some F → ∃ lv, lv ≤ k ∧ FT X.prog X.w X.K X.mg X.base lv y F n) (ha : SA X W (e :: es) ms) (hN : X.N[i]? = some x := by rfl) (hv : Vis X.env.scope x := by first | exact Or.inl rfl | exact Or.inr (Or.inl rfl) | exact Or.inr (Or.inr rfl)) (hn : ms.length = n := by rfl)
    (hdb : (x == ("__debug__" : Str)) = false := by decide) (hcd : (x == ("__classdict__" : Str)) = false := by decide)
    (he : starEach (e :: es) X.env = (false, eval e X.env) :: starEach es X.env := by rfl) (hpl : (backTo pos (starEach es X.env)).any (·.1) = false := by rfl) : SE X W (.Call (.Name x p) (e :: es) [] pos) (callV i Fs ms) := by
  refine ⟨fun pins s σ H Q I h => ?_⟩
  obtain ⟨δ, S, ι, rl, h⟩ := h
  unfold callV at h
  split at h
  · rename_i y e1
    split at h
    · rename_i F e2
      obtain ⟨v, e3, p3⟩ := rl.env i _ e1
      obtain ⟨lv, hk, T⟩ := hF y F e2
      obtain ⟨f, fd, ps, G, hm, hkp, hb⟩ := T.ex
      cases p3 with
      | fn hm' =>
        rw [hm] at hm'; cases hm'
        refine wpAny_Call_Name_kw (thn ((pe_var (pos := p) hN hv hdb hcd).run pins s σ H (fun v H1 => v = .ref f ∧ H1 = H) I ⟨.ref f, e3, rfl, rfl⟩) fun u s1 ⟨v, H1, I1, r1, q1⟩ => ?_)
        obtain ⟨rfl, rfl⟩ := q1
        cases r1
        have q := callF (K := X.K) (mg := X.mg) (W := W) (σ := σ) (Q := Q) hn (show cE X.K X.mg W (callM F ms) σ _ Q from ⟨δ, S, ι, rl, h⟩)
        refine PySem.W.callWith_K (h₀ := X.base) I.ok.mod.kin hkp (thn (ha.run pos pins s1 σ _ _ I1 q) fun us s2 ⟨vs, H2, I2, r, q⟩ => ⟨I2.kIn, ?_⟩) he hpl
        exact run_fnS G (hr.mono hk) hb (passAt tk σ) I2 r q
    · exact h.elim
  · exact h.elim
end
end Dl

end

section
set_option linter.all false
set_option Elab.async false
set_option maxRecDepth 100000
set_option Elab.async false
set_option linter.all false
set_option maxRecDepth 100000
set_option maxHeartbeats 4000000
namespace Dl
open PySem PySem.Spec PyProof.Rows L2

/-- a name of the module that holds data -/
structure GD (K : PySem.W.Frag) (mg : Str → Option Value) (x : String) (d : D) : Prop where
  ex : ∃ v u, mg (Str.ofString x) = some u ∧ RelV v u ∧ ∀ H ι, Rp K mg H ι v d
theorem gd_str {K : PySem.W.Frag} {mg : Str → Option Value} {x : String} {s : Str} {t : Tok} {c : Cs} (h : mg (Str.ofString x) = some (.str s t)) (e : s = toS c := by decide +kernel) : GD K mg x (.str c) := by
  subst e
  exact ⟨.str (toS c), _, h, ⟨t, rfl⟩, fun _ _ => .str c⟩
/-- texts in a tuple that the top has made -/
inductive StrVals : List Value → List Cs → Prop
  | nil : StrVals [] []
  | cons {s : Str} {t : Tok} {r : List Value} {c : Cs} {cs : List Cs} (e : s = toS c) (h : StrVals r cs) : StrVals (.str s t :: r) (c :: cs)
theorem StrVals.vals {us : List Value} {cs : List Cs} (h : StrVals us cs) : Vals (cs.map fun c => V.str (toS c)) us := by
  induction h with
  | nil => exact .nil
  | cons e h ih => subst e; exact .cons ⟨_, rfl⟩ ih
theorem gd_tup {K : PySem.W.Frag} {mg : Str → Option Value} {x : String} {a : Addr} {od : Option Addr} {its : List Value} {n : Nat} {sl : Array (Option Value)} {cs : List Cs} (h : mg (Str.ofString x) = some (.ref a)) (l : K.lookup a = some ⟨.type "tuple", od, .seq its.toArray n, sl⟩)
    (hv : StrVals its cs) (hl : cs.length ≤ 1000) : GD K mg x (.tup (cs.map D.str)) := by
  have e := hv.vals.length
  rw [List.length_map] at e
  refine ⟨.ref a, _, h, rfl, fun H ι => .tup (.inr ⟨_, its.toArray, n, l, rfl, rfl, ?_, hv.vals⟩) ?_ ?_⟩
  · rw [sizeLine_eq]
    simp
    omega
  · rw [sizeLine_eq, List.length_map]
    omega
  · clear hv hl l e
    induction cs with
    | nil => exact .nil
    | cons c cs ih => exact .cons (.str c) ih
section
variable {X : Cx} {W : WX} {e o a b c elt tge iter : Expr} {es ifs : List Expr} {m m' : EM} {ms : List EM} {p pos apos : Pos} {k n lv : Nat} {x : Str} {f : FM}
theorem se_glob {y : String} {d : D} (T : GD X.K X.mg y d) (hg : Gl X x) (hx : x = Str.ofString y) (hd : (x == ("__debug__" : Str)) = false := by decide) : SE X W (.Name x pos) (conM d) := by
  subst hx
  obtain ⟨v, u, h1, h2, h3⟩ := T.ex
  exact se_con (pe_glob hg h1 h2 hd) h3
theorem se_fnT {y : String} {F : FM} (T : FT X.prog X.w X.K X.mg X.base lv y F n) (hx : x = Str.ofString y) (hg : Gl X x) (hd : (x == ("__debug__" : Str)) = false := by decide) : SE X W (.Name x pos) (conM (.fn y)) := by
  obtain ⟨f, fd, ps, _, h, _, _⟩ := T.ex
  exact se_fn y hg hx (by rw [hx]; exact h) hd
theorem sim_addIS {K : PySem.W.Frag} {mg : Str → Option Value} : Sim2 K mg (fun x y H Q => (rI0 fun i j => .int (i + j)) x y H Q ∨ (∃ i j, x = .str i ∧ y = .str j ∧ i.length + j.length ≤ sizeLine ∧ Q (.str (i ++ j)) H)) addIS where
  run := fun x y dx dy H S ι d S' Q r px py e h => by
    unfold addIS at e
    split at e
    · rename_i i j q
      cases q; cases e; cases px; cases py
      exact .inl ⟨_, _, rfl, rfl, h _ H ι .refl r (.int _)⟩
    · rename_i i j q
      cases q
      obtain ⟨hl, rfl, rfl⟩ := ite_ok e
      cases px; cases py
      refine .inr ⟨_, _, rfl, rfl, ?_, ?_⟩
      · rw [toS_length, toS_length, ← LIM_eq]; exact hl
      · rw [toS_append]; exact h _ H ι .refl r (.str _)
    · cases e
  nox := fun ds S x S' z => by
    unfold addIS at z
    repeat (first | cases z | exact ite_exc z | split at z)
theorem ss_augAdd (i : Nat) {pos' : Pos} (hN : X.N.Nodup) (he : SE X W e m) (hi : X.N[i]? = some x := by rfl) (hx : Loc X.env.scope x := by first | exact .inl rfl | exact .inr rfl)
    (hf : X.fn x = true ∨ X.env.scope.names.lookup x = some .local := by first | exact .inl rfl | exact .inr rfl | assumption) : SS X W (.AugAssign (.Name x pos') .Add e pos) (augS i addIS m) :=
  ss_aug i (iop_add.or iop_add_str) sim_addIS hN he hi hx hf
/-- a try whose body raises nothing -/
theorem ss_thru {body : List Stmt} {h₀ : ExceptHandler} {hs : List ExceptHandler} {s : SM} (hb : SSs X.nox W0 body s) : SS X W (.Try body (h₀ :: hs) [] [] pos) (noxS s) := by
  refine ps_imp (ps_try_thru0 hb) fun D σ H q => ?_
  obtain ⟨δ, S, ι, r, q⟩ := q
  refine ⟨δ, S, ι, r, ?_⟩
  have q : PostS X.K X.mg W D H ι ((s δ S).bind fun f S1 => match f with | .ex _ _ => .stuck | _ => .ok f S1) := q
  cases e1 : s δ S with
  | stuck => rw [e1] at q; exact q.elim
  | exc y S1 => rw [e1] at q; exact q.elim
  | ok f S1 =>
    rw [e1] at q
    cases f with
    | nx δ' => exact q
    | bk δ' => exact q
    | ct δ' => exact q
    | rt d => exact q
    | ex y δ' => exact q.elim
end
/-- the names that a def may hold -/
theorem held_nil {P : Program} {w : World} {K : PySem.W.Frag} {mg : Str → Option Value} {base : Heap} {k n : Nat} : ∀ (y : String) (F : FM), ([] : List (String × FM)).lookup y = some F → ∃ lv, lv ≤ k ∧ FT P w K mg base lv y F n := fun _ _ e => by cases e
theorem held_cons {P : Program} {w : World} {K : PySem.W.Frag} {mg : Str → Option Value} {base : Heap} {k n lv0 : Nat} {y0 : String} {F0 : FM} {r : List (String × FM)} (T : FT P w K mg base lv0 y0 F0 n) (hk : lv0 ≤ k) (h : ∀ (y : String) (F : FM), r.lookup y = some F → ∃ lv, lv ≤ k ∧ FT P w K mg base lv y F n) :
    ∀ (y : String) (F : FM), ((y0, F0) :: r).lookup y = some F → ∃ lv, lv ≤ k ∧ FT P w K mg base lv y F n := fun y F e => by
  rw [List.lookup_cons] at e
  split at e
  · rename_i c
    cases beq_iff_eq.mp c
    cases e
    exact ⟨lv0, hk, T⟩
  · exact h y F e
theorem fn_stuck {P : Program} {w : World} {K : PySem.W.Frag} {mg : Str → Option Value} {base : Heap} {f : Addr} {fd : FuncData} {ps : List Str} {lv n : Nat} : FnOk P w K mg base (L2.CX P w) lv f fd ps (spOf K mg (fun _ _ => .stuck) n) := by
  refine ⟨fun vs H Q E h => ?_, fun A outer s H args us vs Q E _ _ _ _ h => ?_⟩
  · obtain ⟨_, ds, S, ι, _, _, h⟩ := h
    exact h.elim
  · obtain ⟨_, ds, S, ι, _, _, h⟩ := h
    exact h.elim
end Dl

end

section
set_option linter.all false
set_option Elab.async false
set_option maxRecDepth 100000
set_option Elab.async false
set_option linter.all false
set_option maxRecDepth 100000
set_option maxHeartbeats 4000000
namespace Dl
open PySem PySem.Spec PyProof.Rows L2
/-! dicts -/
theorem kD_inj {a b : Key} : kD a = kD b ↔ a = b := by
  constructor
  · intro h
    cases a with
    | inl i =>
      cases b with
      | inl j => cases h; rfl
      | inr y => cases h
    | inr x =>
      cases b with
      | inl j => cases h
      | inr y =>
        have h : D.str x.cps.toList = .str y.cps.toList := h
        injection h with h
        rw [← toS_of x, ← toS_of y, h]
  · rintro rfl; rfl
section
variable {K : PySem.W.Frag} {mg : Str → Option Value} {H H' : Hp} {ι ι' : List Addr} {S : Store}
theorem key_of {v : V} {d : D} (p : Rp K mg H ι v d) (h : keyD d = true) : ∃ k : Key, v = kV k ∧ kD k = d := by
  cases p with
  | int i => exact ⟨.inl i, rfl, rfl⟩
  | str x => exact ⟨.inr (toS x), rfl, by show D.str (toS x).cps.toList = _; rw [toS_list]⟩
  | _ => cases h
theorem Rkv.val (k : Key) : ∀ {vs : List (Key × V)} {ds : List (D × D)}, Rkv K mg H ι vs ds → (valV vs k = none ∧ dkGet ds (kD k) = none) ∨ ∃ v d, valV vs k = some v ∧ dkGet ds (kD k) = some d ∧ Rp K mg H ι v d
  | _, _, .nil => .inl ⟨rfl, rfl⟩
  | _ :: us, _ :: es, .cons (k := k') (v := v) (d := d) p r => by
    by_cases e : k' = k
    · subst e
      exact .inr ⟨v, d, valV_pos rfl, by simp [dkGet], p⟩
    · have e' : ¬ kD k' = kD k := fun z => e (kD_inj.mp z)
      have e1 : valV ((k', v) :: us) k = valV us k := valV_neg e
      rcases Rkv.val k r with ⟨h1, h2⟩ | ⟨w, z, h1, h2, h3⟩
      · refine .inl ⟨e1.trans h1, ?_⟩
        unfold dkGet at h2 ⊢
        rw [List.find?_cons]
        simp only [e', decide_false]
        exact h2
      · refine .inr ⟨w, z, e1.trans h1, ?_, h3⟩
        unfold dkGet at h2 ⊢
        rw [List.find?_cons]
        simp only [e', decide_false]
        exact h2
theorem Rkv.any (k : Key) : ∀ {vs : List (Key × V)} {ds : List (D × D)}, Rkv K mg H ι vs ds → (vs.any fun kv => decide (kv.1 = k)) = (ds.any fun p => decide (p.1 = kD k))
  | _, _, .nil => rfl
  | _, _, .cons (k := k') _ r => by
    rw [List.any_cons, List.any_cons, Rkv.any k r]
    congr 1
    by_cases e : k' = k
    · simp [e]
    · have e' : ¬ kD k' = kD k := fun z => e (kD_inj.mp z)
      simp [e, e']
theorem Rkv.map (k : Key) {v : V} {d : D} (p : Rp K mg H ι v d) : ∀ {vs : List (Key × V)} {ds : List (D × D)}, Rkv K mg H ι vs ds → Rkv K mg H ι (vs.map fun kv => if kv.1 = k then (kv.1, v) else kv) (ds.map fun q => if q.1 = kD k then (q.1, d) else q)
  | _, _, .nil => .nil
  | _, _, .cons (k := k') q r => by
    rw [List.map_cons, List.map_cons]
    by_cases e : k' = k
    · subst e
      simp only [if_true]
      exact .cons p (Rkv.map k' p r)
    · have e' : ¬ kD k' = kD k := fun z => e (kD_inj.mp z)
      simp only [if_neg e, if_neg e']
      exact .cons q (Rkv.map k p r)
theorem Rkv.snoc (k : Key) {v : V} {d : D} (p : Rp K mg H ι v d) : ∀ {vs : List (Key × V)} {ds : List (D × D)}, Rkv K mg H ι vs ds → Rkv K mg H ι (vs ++ [(k, v)]) (ds ++ [(kD k, d)])
  | _, _, .nil => .cons p .nil
  | _, _, .cons q r => .cons q (Rkv.snoc k p r)
theorem Rkv.put (k : Key) {v : V} {d : D} (p : Rp K mg H ι v d) {vs : List (Key × V)} {ds : List (D × D)} (r : Rkv K mg H ι vs ds) : Rkv K mg H ι (putK vs k v) (dkPut ds (kD k) d) := by
  unfold putK dkPut
  rw [Rkv.any k r]
  split
  · exact Rkv.map k p r
  · exact Rkv.snoc k p r
theorem RS.dct (r : RS K mg H ι S) {n : Nat} {a : Addr} {kvs : List (D × D)} (ha : ι[n]? = some a) (e : S[n]? = some (.dct kvs)) : ∃ vs, H a = some (.dK vs) ∧ Rkv K mg H ι vs kvs := r.at_ n _ a e ha
theorem Grow.dput {a : Addr} {vs ws : List (Key × V)} (h : H a = some (.dK vs)) : Grow K H ι (upd H a (.dK ws)) ι := Grow.write h (fun _ z => by cases z) (fun _ _ z => by cases z)
theorem RS.dput (r : RS K mg H ι S) {n : Nat} {a : Addr} {vs ws : List (Key × V)} {ds : List (D × D)} (ha : ι[n]? = some a) (h : H a = some (.dK vs)) (q : Rkv K mg H ι ws ds) : Grow K H ι (upd H a (.dK ws)) ι ∧ RS K mg (upd H a (.dK ws)) ι (S.set n (.dct ds)) :=
  ⟨Grow.dput h, r.write ha (Grow.dput h) ⟨ws, upd_same .., q.mono (Grow.dput h)⟩⟩
end
theorem argsM_two {a b : EM} {δ : Dl.Env} {S : Store} {g : List D → Store → Res D} : (argsM [a, b] δ S).bind g = (a δ S).bind fun d S1 => (b δ S1).bind fun d2 S2 => g [d, d2] S2 := by
  show (((a δ S).bind fun d S1 => (argsM [b] δ S1).bind fun ds S2 => Res.ok (d :: ds) S2)).bind g = _
  cases a δ S with
  | stuck => rfl
  | exc e S1 => rfl
  | ok d S1 =>
    show (((b δ S1).bind fun d S1 => (Res.ok [] S1).bind fun ds S2 => Res.ok (d :: ds) S2).bind fun ds S2 => Res.ok (d :: ds) S2).bind g = _
    show _ = (b δ S1).bind fun d2 S2 => g [d, d2] S2
    cases b δ S1 with
    | stuck => rfl
    | exc e S1 => rfl
    | ok d S1 => rfl
section
variable {X : Cx} {W : WX} {o e f : Expr} {m k' x' : EM} {apos cpos pos : Pos}
/-- {} -/
theorem se_dnew : SE X W (.Dict [] [] pos) (callM dctP []) :=
  pe_imp pe_dnewK fun σ H Q h => by
    obtain ⟨δ, S, ι, rl, h⟩ := h
    intro p hp
    have h : PostE X.K X.mg W σ H ι (.ok (.ref S.length) (S ++ [.dct []])) Q := h
    refine h _ _ (ι ++ [p]) (Grow.alloc hp) (rl.sto.alloc hp ⟨[], upd_same .., .nil⟩) (.ref ?_)
    rw [← rl.sto.len]
    simp
/-- d.get(k, x) -/
theorem se_dget2 (hu : X.A.units + 1 < cLine) (ho : SE X W o m) (he : SE X W e k') (hf : SE X W f x') (m2 : M2 X o "get" apos e f cpos) : SE X W (.Call (.Attribute o "get" apos) [e, f] [] cpos) (methM "dict" dgetP m [k', x']) :=
  pe_imp (pe_dget2 hu ho he hf m2) fun σ H Q h => by
    obtain ⟨δ, S, ι, rl, h⟩ := h
    refine ⟨δ, S, ι, rl, ?_⟩
    have h : PostE X.K X.mg W σ H ι ((m δ S).bind fun d S1 => if tyN d S1 = some "dict" then (argsM [k', x'] δ S1).bind fun ds S2 => dgetP (d :: ds) S2 else .stuck) Q := h
    refine PostE.seq h fun v H1 ι1 d S1 _ g1 r1 p1 h1 => ?_
    split at h1
    rotate_left
    · exact h1.elim
    rename_i ht
    obtain ⟨n, kvs, rfl, en⟩ : ∃ n kvs, d = .ref n ∧ S1[n]? = some (.dct kvs) := by
      cases d with
      | ref n =>
        unfold tyN at ht
        simp only at ht
        split at ht
        · simp at ht
        · rename_i kvs e; exact ⟨n, kvs, rfl, e⟩
        · simp at ht
      | _ => simp [tyN] at ht
    obtain ⟨a, rfl, ha⟩ := p1.ref_inv
    obtain ⟨vs, h2, q2⟩ := r1.dct ha en
    refine ⟨a, rfl, .inl ⟨vs, .inl h2⟩, δ, S1, ι1, rl.mono g1 r1, ?_⟩
    have h1 : PostE X.K X.mg W σ H1 ι1 ((k' δ S1).bind fun d2 S2 => ((x' δ S2).bind fun d3 S3 => dgetP [.ref n, d2, d3] S3)) Q := by
      rw [argsM_two] at h1
      exact h1
    refine PostE.seq h1 fun y H2 ι2 d2 S2 _ g2 r2 p2 h3 => ?_
    refine ⟨δ, S2, ι2, (rl.mono g1 r1).mono g2 r2, PostE.seq h3 fun z H3 ι3 d3 S3 _ g3 r3 p3 h4 => ?_⟩
    have ha3 := pre_get (g2.trans g3).pre ha
    cases e4 : dgetP [.ref n, d2, d3] S3 with
    | stuck => rw [e4] at h4; exact h4.elim
    | exc _ _ =>
      unfold dgetP at e4
      repeat (first | cases e4 | exact (ite_exc e4).elim | split at e4)
    | ok w S4 =>
      rw [e4] at h4
      unfold dgetP at e4
      simp only at e4
      split at e4
      · rename_i kvs3 e5
        obtain ⟨hk, rfl, rfl⟩ := ite_ok e4
        obtain ⟨vs3, h5, q5⟩ := r3.dct ha3 e5
        obtain ⟨k, rfl, hk2⟩ := key_of (p2.mono g3) hk
        refine ⟨_, DGet.k h5, ?_⟩
        rcases q5.val k with ⟨z1, z2⟩ | ⟨v', d', z1, z2, z3⟩
        · rw [z1]
          rw [← hk2, z2] at h4
          exact h4 _ _ _ .refl r3 p3
        · rw [z1]
          rw [← hk2, z2] at h4
          exact h4 _ _ _ .refl r3 z3
      · cases e4
/-- d[k], there -/
theorem se_dix (hu : X.A.units + 1 < cLine) (ho : SE X W o m) (he : SE X W e k') (hs : NoSl e) : SE X W (.Subscript o e pos) (callM dixP [m, k']) :=
  pe_imp (pe_dget hu ho he hs) fun σ H Q h => by
    obtain ⟨δ, S, ι, rl, h⟩ := h
    refine ⟨δ, S, ι, rl, ?_⟩
    have h : PostE X.K X.mg W σ H ι ((argsM [m, k'] δ S).bind dixP) Q := h
    rw [argsM_two] at h
    refine PostE.seq h fun v H1 ι1 d S1 _ g1 r1 p1 h1 => ?_
    refine ⟨δ, S1, ι1, rl.mono g1 r1, PostE.seq h1 fun y H2 ι2 d2 S2 _ g2 r2 p2 h3 => ?_⟩
    cases e4 : dixP [d, d2] S2 with
    | stuck => rw [e4] at h3; exact h3.elim
    | exc _ _ =>
      unfold dixP at e4
      repeat (first | cases e4 | exact (ite_exc e4).elim | split at e4)
    | ok w S4 =>
      rw [e4] at h3
      unfold dixP at e4
      split at e4
      · rename_i n k e0
        cases e0
        obtain ⟨a, rfl, ha⟩ := p1.ref_inv
        have ha2 := pre_get g2.pre ha
        split at e4
        · rename_i kvs e5
          split at e4
          · rename_i vv e6
            obtain ⟨hk, rfl, rfl⟩ := ite_ok e4
            obtain ⟨vs, h5, q5⟩ := r2.dct ha2 e5
            obtain ⟨kk, rfl, hk2⟩ := key_of p2 hk
            rcases q5.val kk with ⟨z1, z2⟩ | ⟨v', d', z1, z2, z3⟩
            · rw [hk2, e6] at z2; cases z2
            · rw [hk2, e6] at z2
              cases z2
              exact ⟨a, v', rfl, by rw [← z1]; exact DGet.k h5, h3 _ _ _ .refl r2 z3⟩
          · cases e4
        · cases e4
      · cases e4
/-- d[k] = v -/
theorem ss_dput {v : Expr} {mv : EM} {pos' : Pos} (hu : X.A.units + 1 < cLine) (ho : SE X W o m) (he : SE X W e k') (hv : SE X W v mv) (hs : swapsWith v (some (.Subscript o e pos')) pos.line X.env = pure false := by rfl) : SS X W (.Assign [.Subscript o e pos'] v pos) (exprS (callM dputP [mv, m, k'])) := by
  refine ps_imp (ps_dput hu ho he hv hs) fun D' σ H q => ?_
  obtain ⟨δ, S, ι, r, q⟩ := q
  refine ⟨δ, S, ι, r, ?_⟩
  have q : PostS X.K X.mg W D' H ι (((mv δ S).bind fun d S1 => ((m δ S1).bind fun d2 S2 => ((k' δ S2).bind fun d3 S3 => (Res.ok [d3] S3 : Res (List D))).bind fun ds S4 => .ok (d2 :: ds) S4).bind fun ds S5 => .ok (d :: ds) S5).bind dputP |>.thenS δ fun _ S1 => .ok (.nx δ) S1) := q
  cases e1 : mv δ S with
  | stuck => rw [e1] at q; exact q
  | exc y S1 => rw [e1] at q; exact fun c dx H' ι' g q1 z => q c dx σ H' ι' g (r.mono g q1) z
  | ok d1 S1 =>
    rw [e1] at q
    intro v1 H1 ι1 g1 r1 p1
    refine ⟨δ, S1, ι1, r.mono g1 r1, ?_⟩
    have q := PostS.back g1 q
    cases e2 : m δ S1 with
    | stuck => simp only [Res.bind_ok, e2] at q; exact q
    | exc y S2 => simp only [Res.bind_ok, e2] at q; exact fun c dx H' ι' g q1 z => q c dx σ H' ι' g (r.mono (g1.trans g) q1) z
    | ok d2 S2 =>
      simp only [Res.bind_ok, e2] at q
      intro v2 H2 ι2 g2 r2 p2
      refine ⟨δ, S2, ι2, r.mono (g1.trans g2) r2, ?_⟩
      have q := PostS.back g2 q
      cases e3 : k' δ S2 with
      | stuck => simp only [e3] at q; exact q
      | exc y S3 => simp only [e3] at q; exact fun c dx H' ι' g q1 z => q c dx σ H' ι' g (r.mono ((g1.trans g2).trans g) q1) z
      | ok d3 S3 =>
        simp only [Res.bind_ok, e3] at q
        intro v3 H3 ι3 g3 r3 p3
        have q := PostS.back g3 q
        have p2 := p2.mono g3
        have p1 := p1.mono (g2.trans g3)
        cases e4 : dputP [d1, d2, d3] S3 with
        | stuck => rw [e4] at q; exact q.elim
        | exc y S4 =>
          unfold dputP at e4
          repeat (first | cases e4 | exact (ite_exc e4).elim | split at e4)
        | ok z S4 =>
          rw [e4] at q
          unfold dputP at e4
          split at e4
          · rename_i v n kk e0
            cases e0
            split at e4
            · rename_i kvs e5
              obtain ⟨⟨hk, hl⟩, rfl, rfl⟩ := ite_ok e4
              obtain ⟨a, rfl, hA⟩ := p2.ref_inv
              obtain ⟨vs, h1, h2⟩ := r3.dct hA e5
              obtain ⟨kz, rfl, hk2⟩ := key_of p3 hk
              have hput := h2.put kz p1
              rw [hk2] at hput
              obtain ⟨g4, r4⟩ := r3.dput hA h1 hput
              refine ⟨a, _, rfl, DPut.k h1 (by rw [h2.length, ← LIM_eq]; exact hl), ?_⟩
              exact q σ _ ι3 g4 (r.mono (((g1.trans g2).trans g3).trans g4) r4)
            · cases e4
          · cases e4
theorem keys_strs {K : PySem.W.Frag} {mg : Str → Option Value} {H : Hp} {ι : List Addr} : ∀ {vs : List (Key × V)} {ds : List (D × D)} {xs : List Cs}, Rkv K mg H ι vs ds → ds.map (·.1) = xs.map D.str → vs.map (·.1) = (xs.map toS).map Sum.inr
  | _, _, [], .nil, _ => rfl
  | _, _, x :: xs, .cons (k := k) p r, h => by
    simp only [List.map_cons, List.cons.injEq] at h ⊢
    refine ⟨?_, keys_strs r h.2⟩
    have := h.1
    have e : kD (.inr (toS x)) = D.str x := by show D.str (toS x).cps.toList = _; rw [toS_list]
    rw [← e] at this
    exact kD_inj.mp this
theorem sim_sortedD {K : PySem.W.Frag} {mg : Str → Option Value} : SimN K mg (fun xs H Q => ∃ (a : Addr) (kvs : List (Key × V)) (ks : List Str), xs = [.ref a] ∧ Rd H a (.dK kvs) ∧ kvs.map (·.1) = ks.map Sum.inr ∧ ks.length < 64 ∧ ∀ ys p, ys.Perm ks → sortedS ys = true → H p = none → Q (.ref p) (upd H p (.lst (ys.map V.str)))) sortedDP where
  run := fun xs ds H S ι d S' Q r q e h => by
    unfold sortedDP at e
    split at e
    · obtain ⟨v, rfl, p⟩ := q.one
      obtain ⟨a, rfl, ha⟩ := p.ref_inv
      split at e
      · rename_i kvs e1
        split at e
        · rename_i zs e2
          obtain ⟨hl, rfl, rfl⟩ := ite_ok e
          have := strsOf_map e2
          obtain ⟨vs, h1, h2⟩ := r.dct ha e1
          refine ⟨a, vs, zs.map toS, rfl, .inl h1, keys_strs h2 this, by rw [List.length_map]; exact hl, fun ws pp hp hs hn => ?_⟩
          rw [sortedS_unique hp hs]
          obtain ⟨g, r', q'⟩ := r.newL hn (Rps.ofStrs (K := K) (mg := mg) (H := H) (ι := ι) (xs := zs.mergeSort csLe))
          exact h _ _ _ g r' q'
        · cases e
      · cases e
    · cases e
  nox := fun ds S x S' z => by
    unfold sortedDP at z
    repeat (first | cases z | exact ite_exc z | split at z)
theorem se_sortedD {p : Pos} (hcalm : X.calm = true) (hg : Gl X "sorted") (hm : X.mg "sorted" = none) (ha : SA X W [e] [m]) (he : starEach [e] X.env = (false, eval e X.env) :: starEach [] X.env := by rfl) : SE X W (.Call (.Name "sorted" p) [e] [] pos) (callM sortedDP [m]) :=
  se_callB (call_sortedD hcalm) sim_sortedD hg hm (by decide +kernel) ha (he := he)
end
/-! ### a dict that is walked -/
/-- what the data asks of a growing heap -/
structure GrowW (K : PySem.W.Frag) (H : Hp) (ι : List Addr) (H' : Hp) (ι' : List Addr) : Prop where
  pre : ι <+: ι'
  tup : ∀ a vs, SqT K H a vs → SqT K H' a vs
  frz : ∀ a o u, H a = some (.frz o (.lst u)) → H' a = some (.frz o (.lst u))
section
variable {K : PySem.W.Frag} {mg : Str → Option Value} {H H' : Hp} {ι ι' : List Addr} {S : Store}
mutual
theorem Rp.monoW (g : GrowW K H ι H' ι') : ∀ {v : V} {d : D}, Rp K mg H ι v d → Rp K mg H' ι' v d
  | _, .non, h => by cases h; exact .non
  | _, .bl _, h => by cases h; exact .bl _
  | _, .int _, h => by cases h; exact .int _
  | _, .str _, h => by cases h; exact .str _
  | _, .tup _, h => by
    cases h with
    | tup h1 h2 h3 => exact .tup (g.tup _ _ h1) h2 (Rps.monoW g h3)
  | _, .ref _, h => by
    cases h with
    | ref h => exact .ref (pre_get g.pre h)
  | _, .fn _, h => by
    cases h with
    | fn h => exact .fn h
  | _, .lit _, h => by
    cases h with
    | lit h1 h2 h3 => exact .lit (h1.elim (fun ⟨o, z⟩ => .inl ⟨o, g.frz _ _ _ z⟩) .inr) h2 (Rps.monoW g h3)
theorem Rps.monoW (g : GrowW K H ι H' ι') : ∀ {vs : List V} {ds : List D}, Rps K mg H ι vs ds → Rps K mg H' ι' vs ds
  | _, [], h => by cases h; exact .nil
  | _, _ :: _, h => by
    cases h with
    | cons h1 h2 => exact .cons (Rp.monoW g h1) (Rps.monoW g h2)
end
theorem Rkv.monoW (g : GrowW K H ι H' ι') : ∀ {vs : List (Key × V)} {ds : List (D × D)}, Rkv K mg H ι vs ds → Rkv K mg H' ι' vs ds
  | _, _, .nil => .nil
  | _, _, .cons h1 h2 => .cons (h1.monoW g) (Rkv.monoW g h2)
theorem Rfs.monoW (g : GrowW K H ι H' ι') : ∀ {vs : List (Str × V)} {ds : List (String × D)}, Rfs K mg H ι vs ds → Rfs K mg H' ι' vs ds
  | _, _, .nil => .nil
  | _, _, .cons h1 h2 => .cons (h1.monoW g) (Rfs.monoW g h2)
theorem RO.keepW {a : Addr} {o : MO} (g : GrowW K H ι H' ι') (e : H' a = H a) (h : RO K mg H ι a o) : RO K mg H' ι' a o := by
  cases o with
  | lst xs => obtain ⟨vs, q, r⟩ := h; exact ⟨vs, e.trans q, r.monoW g⟩
  | dct xs => obtain ⟨vs, q, r⟩ := h; exact ⟨vs, e.trans q, r.monoW g⟩
  | lck xs => obtain ⟨o, vs, q, r⟩ := h; exact ⟨o, vs, e.trans q, r.monoW g⟩
  | set xs => exact h.elim
  | ins C fs => obtain ⟨c, dx, vs, m, q, r⟩ := h; exact ⟨c, dx, vs, m, e.trans q, r.monoW g⟩
/-- a locked dict is set free -/
theorem GrowW.free {a : Addr} {od : Obj} {vs ws : List (Key × V)} (e : H a = some (.frz od (.dK vs))) : GrowW K H ι (upd H a (.dK ws)) ι := by
  refine ⟨List.prefix_rfl, fun b us h => ?_, fun b ob w h => by rw [upd_ne (ne_of h e fun z => by cases z)]; exact h⟩
  rcases h with (h | ⟨w, h⟩) | h
  · exact .inl (.inl (by rw [upd_ne (ne_of h e fun z => by cases z)]; exact h))
  · exact .inl (.inr ⟨w, by rw [upd_ne (ne_of h e fun z => by cases z)]; exact h⟩)
  · exact .inr h
theorem RS.free (r : RS K mg H ι S) {n : Nat} {a : Addr} {od : Obj} {vs : List (Key × V)} {ds : List (D × D)} (hn : ι[n]? = some a) (e : H a = some (.frz od (.dK vs))) (q : Rkv K mg H ι vs ds) : RS K mg (upd H a (.dK vs)) ι (S.set n (.dct ds)) := by
  have g : GrowW K H ι (upd H a (.dK vs)) ι := GrowW.free e
  refine ⟨by simp [r.len], r.nd, fun m o' b e1 e2 => ?_⟩
  by_cases hm : m = n
  · subst hm
    have hl : m < S.length := by
      obtain ⟨h1, _⟩ := List.getElem?_eq_some_iff.mp hn
      rw [← r.len]; exact h1
    rw [List.getElem?_set_self hl] at e1
    cases e1
    rw [hn] at e2; cases e2
    exact ⟨vs, upd_same .., q.monoW g⟩
  · rw [List.getElem?_set_ne (Ne.symm hm)] at e1
    refine (r.at_ m o' b e1 e2).keepW g (upd_ne fun z => ?_)
    subst z
    obtain ⟨h1, q1⟩ := List.getElem?_eq_some_iff.mp hn
    obtain ⟨h2, q2⟩ := List.getElem?_eq_some_iff.mp e2
    exact hm ((List.getElem_inj r.nd).mp (q2.trans q1.symm))
/-- a dict is locked, things grow, it is set free -/
theorem Grow.over {a : Addr} {od : Obj} {vs : List (Key × V)} (e : H a = some (.dK vs)) (g : Grow K (upd H a (.frz od (.dK vs))) ι H' ι') : Grow K H ι (upd H' a (.dK vs)) ι' := by
  have ne : ∀ b o, H b = some o → (∀ ks, o ≠ .dK ks) → b ≠ a := fun b o h n z => by
    rw [z, e] at h; cases h; exact n _ rfl
  refine ⟨g.pre, fun b us h => ?_, fun b o u h => ?_⟩
  · have hb : SqT K (upd H a (.frz od (.dK vs))) b us ∧ (b ≠ a ∨ SqT K (fun _ => none) b us) := by
      rcases h with (h | ⟨w, h⟩) | h
      · have := ne b _ h (fun _ z => by cases z)
        exact ⟨.inl (.inl (by rw [upd_ne this]; exact h)), .inl this⟩
      · have := ne b _ h (fun _ z => by cases z)
        exact ⟨.inl (.inr ⟨w, by rw [upd_ne this]; exact h⟩), .inl this⟩
      · exact ⟨.inr h, .inr (.inr h)⟩
    have h1 := g.tup b us hb.1
    rcases hb.2 with h2 | h2
    · rcases h1 with (h | ⟨w, h⟩) | h
      · exact .inl (.inl (by rw [upd_ne h2]; exact h))
      · exact .inl (.inr ⟨w, by rw [upd_ne h2]; exact h⟩)
      · exact .inr h
    · rcases h2 with (h | ⟨w, h⟩) | h
      · cases h
      · cases h
      · exact .inr h
  · have hb := ne b _ h (fun _ z => by cases z)
    rw [upd_ne hb]
    exact g.frz b o u (by rw [upd_ne hb]; exact h)
end
end Dl

end

section
set_option linter.all false
set_option Elab.async false
set_option maxRecDepth 100000
set_option Elab.async false
set_option linter.all false
set_option maxRecDepth 100000
set_option maxHeartbeats 4000000
namespace Dl
open PySem PySem.Spec PyProof.Rows L2
/-! dict comprehensions over d.items() -/
section
variable {K : PySem.W.Frag} {mg : Str → Option Value} {H H' : Hp} {ι ι' : List Addr} {S : Store}
theorem Rp.key {k : Key} : Rp K mg H ι (kV k) (kD k) := by
  cases k with
  | inl i => exact .int i
  | inr x =>
    have := Rp.str (K := K) (mg := mg) (H := H) (ι := ι) x.cps.toList
    rw [toS_of] at this
    exact this
theorem Rkv.get : ∀ {vs : List (Key × V)} {ds : List (D × D)} {i : Nat} {k : Key} {v : V}, Rkv K mg H ι vs ds → vs[i]? = some (k, v) → ∃ d, ds[i]? = some (kD k, d) ∧ Rp K mg H ι v d
  | _, _, i, _, _, .nil, h => by simp at h
  | _, _, 0, _, _, .cons (d := d) p r, h => by
    simp at h
    obtain ⟨rfl, rfl⟩ := h
    exact ⟨d, by simp, p⟩
  | _, _, i + 1, _, _, .cons p r, h => by
    obtain ⟨d, h1, h2⟩ := Rkv.get (i := i) r (by simpa using h)
    exact ⟨d, by simpa using h1, h2⟩
end
theorem dc_run {K : PySem.W.Frag} {mg : Str → Option Value} {W : WX} {own : List Nat} {di i j : Nat} {ke ve : EM} {σ : L2.St} {H : Hp} {Q : VK} (hi : i ∈ own) (hj : j ∈ own) (h : cE K mg W (dcM own di i j ke ve) σ H Q) :
    ∃ d u, H d = some u ∧ Mut (some u) ∧ ∀ (od : Obj) (Q' : VK), (∀ v H', H' d = some (.frz od u) → Q v (upd H' d u) → Q' v H') → tDc (iItems (cE K mg W (varM di))) ((Tgt.tp [i, j]).g K) tYes (cE K mg W0 ke) (cE K mg W0 ve) own σ (upd H d (.frz od u)) Q' := by
  obtain ⟨δ, S, ι, r, h⟩ := h
  generalize hres : dcM own di i j ke ve δ S = res at h
  unfold dcM at hres
  split at hres
  rotate_left
  · subst hres; exact h.elim
  rename_i n e1
  split at hres
  rotate_left
  · subst hres; exact h.elim
  rename_i kvs e2
  obtain ⟨v, ev, pv⟩ := r.env di _ e1
  obtain ⟨a, rfl, ha⟩ := pv.ref_inv
  obtain ⟨vs, h1, h2⟩ := r.sto.dct ha e2
  refine ⟨a, .dK vs, h1, trivial, fun od Q' hQ => ?_⟩
  have gl : Grow K H ι (upd H a (.frz od (.dK vs))) ι := Grow.write h1 (fun _ z => by cases z) (fun _ _ z => by cases z)
  have rl := r.sto.write (mo := .lck kvs) ha gl ⟨od, vs, upd_same .., h2.mono gl⟩
  refine ⟨δ, S.set n (.lck kvs), ι, r.mono gl rl, ?_⟩
  have ev' : varM di δ (S.set n (.lck kvs)) = .ok (.ref n) (S.set n (.lck kvs)) := by unfold varM; rw [e1]
  rw [ev']
  intro v2 H2 ι2 g2 r2 p2
  obtain ⟨a', rfl, ha'⟩ := p2.ref_inv
  have ea : a' = a := by
    have := pre_get g2.pre ha
    rw [this] at ha'
    exact (Option.some.inj ha').symm
  subst ea
  have f2 : H2 a' = some (.frz od (.dK vs)) := g2.frz _ _ _ (upd_same ..)
  refine ⟨a', od, vs, rfl, f2, fun A hA => ?_⟩
  have rA : RS K mg (upd H2 A (.dK [])) (ι2 ++ [A]) (S.set n (.lck kvs) ++ [.dct []]) := r2.alloc hA ⟨[], upd_same .., .nil⟩
  have gA : Grow K H2 ι2 (upd H2 A (.dK [])) (ι2 ++ [A]) := Grow.alloc hA
  have hn2 : (ι2 ++ [A])[S.length]? = some A := by
    have : ι2.length = S.length := by rw [r2.len, List.length_set]
    rw [← this]
    simp
  have hkv : Rkv K mg H2 ι2 vs kvs := (h2.mono gl).mono g2
  refine ⟨fun i0 m' H' => ∃ S' ι', i0 + m' = kvs.length ∧ Grow K H2 ι2 H' ι' ∧ Grow K (upd H2 A (.dK [])) (ι2 ++ [A]) H' ι' ∧ RS K mg H' ι' S' ∧ ((dcLoop n S.length (Dl.wipe δ own) i j ke ve (kvs.drop i0) S').bind fun _ S2 => (match S2[n]? with
      | some (.lck ks) => .ok (.ref S.length) (S2.set n (.dct ks))
      | _ => .stuck)) = res,
    ⟨kvs.length, _, _, by simp, gA, .refl, rA, by rw [List.drop_zero]; exact hres⟩, ?_⟩
  rintro i0 m' H' ⟨S', ι', hm, g, ga, rs, he⟩
  have f' : H' a' = some (.frz od (.dK vs)) := g.frz _ _ _ f2
  have ha'' := pre_get g.pre ha'
  by_cases hlt : i0 < kvs.length
  · refine .inr ⟨⟨f', by rw [h2.length]; exact hlt⟩, fun H' => ∃ S' ι', i0 + 1 + (m' - 1) = kvs.length ∧ Grow K H2 ι2 H' ι' ∧ Grow K (upd H2 A (.dK [])) (ι2 ++ [A]) H' ι' ∧ RS K mg H' ι' S' ∧ ((dcLoop n S.length (Dl.wipe δ own) i j ke ve (kvs.drop (i0 + 1)) S').bind fun _ S2 => (match S2[n]? with
      | some (.lck ks) => .ok (.ref S.length) (S2.set n (.dct ks))
      | _ => .stuck)) = res, fun H' hN => ⟨m' - 1, by omega, hN⟩, ?_⟩
    rintro x H3 ⟨T, k, v, ek, rfl, hT, rfl⟩
    obtain ⟨d, ed, pd⟩ := (hkv.mono g).get ek
    have g3 : Grow K H' ι' (upd H' T (.tup [kV k, v])) ι' := Grow.new hT
    have r3 := rs.new (o := .tup [kV k, v]) hT
    have p3 : Rp K mg (upd H' T (.tup [kV k, v])) ι' (.ref T) (.tup [kD k, d]) := .tup (.inl (.inl (upd_same ..))) (by rw [sizeLine_eq]; simp) (.cons Rp.key (.cons (pd.mono g3) .nil))
    have hd : kvs.drop i0 = (kD k, d) :: kvs.drop (i0 + 1) := by
      rw [List.drop_eq_getElem_cons hlt]
      congr 1
      rw [List.getElem?_eq_getElem hlt] at ed
      exact Option.some.inj ed
    rw [hd] at he
    unfold dcLoop at he
    have rw1 : Rel K mg (upd H' T (.tup [kV k, v])) ι' (L2.wipe σ own) (Dl.wipe δ own) S' := (Rel.wipe r own).mono (((gl.trans g2).trans g).trans g3) r3
    refine Tgt.run (tg := .tp [i, j]) rw1 p3 rfl fun us r4 => ⟨by rw [wipe_putV (tg := .tp [i, j]) (by simp [Tgt.names, hi, hj]), wipe_wipe], ?_⟩
    have r4 : Rel K mg (upd H' T (.tup [kV k, v])) ι' _ (((Dl.wipe δ own).set i (some (kD k))).set j (some d)) S' := r4
    unfold tYes
    refine (show ∀ {A B : Prop}, A → (if true = true then A else B) from fun h => by rw [if_pos rfl]; exact h) ?_
    refine ⟨_, S', ι', r4, ?_⟩
    cases e3 : ke (((Dl.wipe δ own).set i (some (kD k))).set j (some d)) S' with
    | stuck => rw [e3] at he; subst he; exact h.elim
    | exc y S4 => rw [e3] at he; subst he; exact h.elim
    | ok kd S4 =>
      rw [e3] at he
      simp only [Res.nox_ok, Res.bind_ok] at he
      intro y H4 ι4 g4 r5 p4
      refine ⟨_, S4, ι4, r4.mono g4 r5, ?_⟩
      cases e4 : ve (((Dl.wipe δ own).set i (some (kD k))).set j (some d)) S4 with
      | stuck => rw [e4] at he; subst he; exact h.elim
      | exc y S5 => rw [e4] at he; subst he; exact h.elim
      | ok vd S5 =>
        rw [e4] at he
        simp only [Res.nox_ok, Res.bind_ok] at he
        intro z H5 ι5 g5 r6 p5
        split at he
        rotate_left
        · subst he; exact h.elim
        rename_i acc e5
        split at he
        rotate_left
        · subst he; exact h.elim
        rename_i hkl
        obtain ⟨kk, rfl, hk2⟩ := key_of (p4.mono g5) hkl.1
        have gA5 : Grow K (upd H2 A (.dK [])) (ι2 ++ [A]) H5 ι5 := ((ga.trans g3).trans g4).trans g5
        have hA5 : ι5[S.length]? = some A := pre_get gA5.pre hn2
        obtain ⟨ws, q1, q2⟩ := r6.dct hA5 e5
        have hput := q2.put kk p5
        rw [hk2] at hput
        obtain ⟨g7, r7⟩ := r6.dput hA5 q1 hput
        refine ⟨ws, kk, rfl, q1, by rw [q2.length, ← LIM_eq]; exact hkl.2, ?_⟩
        exact ⟨_, ι5, by omega, (((g.trans g3).trans g4).trans g5).trans g7, gA5.trans g7, r7, he⟩
  · have e : i0 = kvs.length := by omega
    subst e
    rw [List.drop_length] at he
    unfold dcLoop at he
    refine .inl ⟨⟨f', by rw [h2.length]; exact Nat.le_refl _⟩, hQ _ _ f' ?_⟩
    simp only [Res.bind_ok] at he
    split at he
    rotate_left
    · subst he; exact h.elim
    rename_i ks e5
    subst he
    obtain ⟨o6, ws, q1, q2⟩ := rs.at_ n _ a' e5 ha''
    rw [f'] at q1
    cases q1
    exact h _ _ ι' (Grow.over h1 (g2.trans g)) (rs.free ha'' f' q2) (.ref (pre_get ga.pre hn2))
section
variable {X : Cx} {W : WX} {o kx vx : Expr} {ke ve : EM} {elts : List Expr} {kk : Nat} {tpos apos cpos pos : Pos} {scope : Scope} {own : List (Str × Nat)} {i j di : Nat}
/-- {kx: vx for a, b in o.items()} -/
theorem se_dc (hc : X.calm = true) (hN : X.N.Nodup) (ho : SE X W o (varM di)) (ok : blkC X.N X.env.scope scope own = true)
    (hg : ∀ (s : Shared) (H : Hp) (C : Addr) (cl : List (Str × Addr)) (fp : List Addr), SG (X.blk s H scope (compEnvC scope cl C X.env) fp) (.Tuple elts kk tpos) (.tp [i, j]))
    (hk : ∀ (s : Shared) (H : Hp) (C : Addr) (cl : List (Str × Addr)) (fp : List Addr), SE (X.blk s H scope (compEnvC scope cl C X.env) fp) W0 kx ke)
    (he : ∀ (s : Shared) (H : Hp) (C : Addr) (cl : List (Str × Addr)) (fp : List Addr), SE (X.blk s H scope (compEnvC scope cl C X.env) fp) W0 vx ve)
    (hown : ((own.map (·.2)).contains i && (own.map (·.2)).contains j) = true := by rfl)
    (hbase : attributeBase o "items" X.env (eval o X.env) = eval o X.env := by rfl) (hline : (apos.endLine == cpos.line) = true := by rfl)
    (hs : ∀ x, foldedSetIterable (.Call (.Attribute o "items" apos) [] [] cpos) X.env x = pure x := by intro _; rfl) :
    SE X W (.DictComp kx vx [⟨.Tuple elts kk tpos, .Call (.Attribute o "items" apos) [] [] cpos, [], 0⟩] scope pos) (dcM (own.map (·.2)) di i j ke ve) :=
  pe_imp (pe_lock (pe_dc hc hN (pi_items ho hbase hline) (blkOk_by ok) hg (fun _ _ _ _ _ => pts_nil) hk he hs)) fun σ H Q h => by
    rw [Bool.and_eq_true] at hown
    obtain ⟨d, u, h1, h2, h3⟩ := dc_run (by simpa using hown.1) (by simpa using hown.2) h
    exact ⟨d, u, h1, h2, fun od => h3 od _ fun v H' f q => ⟨f, q⟩⟩
/-- name = {..}, the name stored within the comprehension's frame -/
theorem ps_nameDc {n : Nat} {y : Str} {py : Pos} {tg iter : Expr} {ifs : List Expr} {spos : Pos} {wi : TI} {g : TG} {tt : TT} {tk tv : TE} (calm : X.calm = true) (nd : X.N.Nodup) (place : X.N[n]? = some y) (loc : X.env.scope.names.lookup y = some .local)
    (used : swapsWith (.DictComp kx vx [⟨tg, iter, ifs, 0⟩] scope pos) (some (.Name y py)) spos.line X.env = pure true) (pi : PI X tg iter wi) (blk : BlkOk X.N X.env.scope scope own)
    (pg : ∀ (s : Shared) (H : Hp) (C : Addr) (cl : List (Str × Addr)) (fp : List Addr), PG (X.blk s H scope (compEnvC scope cl C X.env) fp) tg g)
    (pt : ∀ (s : Shared) (H : Hp) (C : Addr) (cl : List (Str × Addr)) (fp : List Addr), PTs (X.blk s H scope (compEnvC scope cl C X.env) fp) ifs tt)
    (pk : ∀ (s : Shared) (H : Hp) (C : Addr) (cl : List (Str × Addr)) (fp : List Addr), PE (X.blk s H scope (compEnvC scope cl C X.env) fp) kx tk)
    (pv : ∀ (s : Shared) (H : Hp) (C : Addr) (cl : List (Str × Addr)) (fp : List Addr), PE (X.blk s H scope (compEnvC scope cl C X.env) fp) vx tv) (fold : ∀ x, foldedSetIterable iter X.env x = pure x) :
    PS X (.Assign [.Name y py] (.DictComp kx vx [⟨tg, iter, ifs, 0⟩] scope pos) spos) (tAsg (tDc wi g tt tk tv (own.map (·.2))) (gName n)) := by
  constructor
  intro pins s σ H D I hw
  rw [exec_Assign_Name_used _ _ _ _ used]
  refine wpAny_bind (wpAny_standAt (wpAny_bind ?_))
  change wpAny _ X.A (do let _ ← comprehension (.DictComp kx vx [⟨tg, iter, ifs, 0⟩] scope pos) scope X.env (firstIterPos [⟨tg, iter, ifs, 0⟩] pos) newDict false (eval iter X.env) (some (assign (.Name y py) X.env))) _ _ s
  have hw : tDc wi g tt tk tv (own.map (·.2)) σ H (fun x H1 => gName n x σ H1 D.nx) := hw
  refine wpAny_bind (thn (dc_core (Qf := fun _ t => SP X pins D .next t) calm nd I pi blk pg pt pk pv fold hw fun A C t k H2 I2 q ns fr => ?_) fun _ t hq => wpAny_pure (wpAny_pure hq))
  change wpAny _ _ (assign (.Name y py) X.env (.ref A)) _ _ _
  refine wpAny_assign_Name (store_ok2 (v := V.ref A) I2 nd place (.inl loc) rfl (fun t2 I3 far => ?_) (.inr loc))
  obtain ⟨b, sb, hb⟩ := far
  have ne : C ≠ b := by
    rcases hb with e | e
    · exact e ▸ fr.2.1
    · exact fun z => fr.2.2.2.2.1 y b e z.symm
  exact ⟨k, ns.sameBut sb ne, fun h3 sb3 => ⟨_, H2, I3.turned (t' := t2.toks) (fun c o hc e => (sb3.2 c hc).trans e) fr.1 fr.2.1 fr.2.2.2.1 fr.2.2.2.2.1 fr.2.2.2.2.2, q⟩⟩
/-- name = {kx: vx for a, b in o.items()} -/
theorem ss_setDc (n : Nat) {y : Str} {py spos : Pos} (hc : X.calm = true) (hN : X.N.Nodup) (hsw : swapsWith (.DictComp kx vx [⟨.Tuple elts kk tpos, .Call (.Attribute o "items" apos) [] [] cpos, [], 0⟩] scope pos) (some (.Name y py)) spos.line X.env = pure true) (ho : SE X W o (varM di)) (ok : blkC X.N X.env.scope scope own = true)
    (hg : ∀ (s : Shared) (H : Hp) (C : Addr) (cl : List (Str × Addr)) (fp : List Addr), SG (X.blk s H scope (compEnvC scope cl C X.env) fp) (.Tuple elts kk tpos) (.tp [i, j]))
    (hk : ∀ (s : Shared) (H : Hp) (C : Addr) (cl : List (Str × Addr)) (fp : List Addr), SE (X.blk s H scope (compEnvC scope cl C X.env) fp) W0 kx ke)
    (he : ∀ (s : Shared) (H : Hp) (C : Addr) (cl : List (Str × Addr)) (fp : List Addr), SE (X.blk s H scope (compEnvC scope cl C X.env) fp) W0 vx ve)
    (hy : X.N[n]? = some y := by rfl) (hyl : X.env.scope.names.lookup y = some .local := by rfl)
    (hown : ((own.map (·.2)).contains i && (own.map (·.2)).contains j) = true := by rfl)
    (hbase : attributeBase o "items" X.env (eval o X.env) = eval o X.env := by rfl) (hline : (apos.endLine == cpos.line) = true := by rfl)
    (hs : ∀ x, foldedSetIterable (.Call (.Attribute o "items" apos) [] [] cpos) X.env x = pure x := by intro _; rfl) :
    SS X W (.Assign [.Name y py] (.DictComp kx vx [⟨.Tuple elts kk tpos, .Call (.Attribute o "items" apos) [] [] cpos, [], 0⟩] scope pos) spos) (setS (.nm n) (dcM (own.map (·.2)) di i j ke ve)) :=
  ps_imp (ps_lock (ps_nameDc hc hN hy hyl hsw (pi_items ho hbase hline) (blkOk_by ok) hg (fun _ _ _ _ _ => pts_nil) hk he hs)) fun D σ H q => by
    rw [Bool.and_eq_true] at hown
    have q2 : tAsg (fun σ H Q => ∃ d u, H d = some u ∧ Mut (some u) ∧ ∀ (od : Obj) (Q' : VK), (∀ v H', H' d = some (.frz od u) → Q v (upd H' d u) → Q' v H') → tDc (iItems (cE X.K X.mg W (varM di))) ((Tgt.tp [i, j]).g X.K) tYes (cE X.K X.mg W0 ke) (cE X.K X.mg W0 ve) (own.map (·.2)) σ (upd H d (.frz od u)) Q') (gName n) D σ H :=
      asg_run (tg := .nm n) (fun h => dc_run (by simpa using hown.1) (by simpa using hown.2) h) q
    obtain ⟨d, u, h1, h2, h3⟩ := q2
    exact ⟨d, u, h1, h2, fun od => h3 od _ fun v H' f z => ⟨f, z⟩⟩
theorem sw_dict {gs : List Comprehension} {py : Pos} {y : Str} {l : Nat} {env : PySem.Env} (kind : env.scope.kind = .function) (loc : env.scope.names.lookup y = some .local) (one : (py.line == pos.line) = true)
    (out : (scope.names.any fun (n, k) => n == y && (k == .local || k == .cell)) = false) : swapsWith (.DictComp kx vx gs scope pos) (some (.Name y py)) l env = pure true := by
  have e1 : env.kindOf y = some .local := loc
  have e2 : env.blockKind = .function := by unfold Env.blockKind; rw [kind]; rfl
  unfold swapsWith
  simp only [e1, e2, out, Expr.pos, one]
  rfl
theorem hu1 {k : Nat} (hr : Room k X.A) : X.A.units + 1 < cLine := by have := hu64 hr; omega
/-- for a, b in zip(x, y), x and y tuples -/
theorem si_zipT {e e2 : Expr} {m m' : EM} {p : Pos} (hg : Gl X "zip") (hm : X.mg "zip" = none) (ha : SA X W [e, e2] [m, m'])
    (hs : starEach [e, e2] X.env = (false, eval e X.env) :: starEach [e2] X.env := by rfl) (hpl : (backTo pos (starEach [e2] X.env)).any (·.1) = false := by rfl) :
    SI X W (.Tuple elts kk tpos) (.Call (.Name "zip" p) [e, e2] [] pos) (zipI m m') := by
  refine pi_imp (RZ.pi_zipA hg hm ha hs hpl) fun σ H R h => ?_
  obtain ⟨δ, S, ι, r, h⟩ := h
  refine ⟨δ, S, ι, r, ?_⟩
  unfold zipI at h
  cases e1 : argsM [m, m'] δ S with
  | stuck => simp only [e1] at h; exact h
  | exc y S1 => simp only [e1] at h; exact h
  | ok ds S1 =>
    simp only [e1, Res.bind_ok] at h
    intro vs H' ι' g r1 q1
    split at h
    rotate_left
    · exact h.elim
    rename_i xs ys
    obtain ⟨v, u, rfl, p1, p2⟩ := q1.two
    obtain ⟨a, vs, rfl, k1, _, k2⟩ := p1.tup_inv
    obtain ⟨b, us, rfl, l1, _, l2⟩ := p2.tup_inv
    refine ⟨a, b, vs, us, rfl, .inr ⟨k1, l1, h (RZ.ItzT X.K a b) H' ι' g r1 (fun i d H2 ι2 S2 g2 r2 hs hd => ?_) fun H2 ι2 S2 g2 r2 hs => ?_⟩⟩
    · have q1 := g2.tup a vs k1
      have q2 := g2.tup b us l1
      rw [List.getElem?_map] at hd
      cases ez : (xs.zip ys)[i]? with
      | none => rw [ez] at hd; cases hd
      | some z =>
        rw [ez] at hd
        cases hd
        obtain ⟨z1, z2⟩ := z
        rw [List.getElem?_zip_eq_some] at ez
        obtain ⟨w, q3, q4⟩ := (k2.mono g2).get ez.1
        obtain ⟨w', q5, q6⟩ := (l2.mono g2).get ez.2
        refine ⟨⟨vs, us, w, w', q1, q2, q3, q5⟩, fun x H3 hy => ?_⟩
        obtain ⟨T, x1, y1, rfl, hT, rfl, hx, hy⟩ := hy
        have e1 : w = x1 := Option.some.inj (q3.symm.trans (hx vs q1))
        have e2 : w' = y1 := Option.some.inj (q5.symm.trans (hy us q2))
        subst e1 e2
        have g3 : Grow X.K H2 ι2 (upd H2 T (.tup [w, w'])) ι2 := Grow.new hT
        exact ⟨ι2, g3, r2.new hT, .tup (.inl (.inl (upd_same ..))) (by rw [sizeLine_eq]; simp) (.cons (q4.mono g3) (.cons (q6.mono g3) .nil))⟩
    · refine ⟨vs, us, g2.tup a vs k1, g2.tup b us l1, ?_⟩
      rw [k2.length, l2.length, List.length_map, List.length_zip]
      omega
end
end Dl

end

section
set_option linter.all false
set_option Elab.async false
set_option maxRecDepth 100000
set_option Elab.async false
set_option linter.all false
set_option maxRecDepth 100000
set_option maxHeartbeats 4000000
namespace Dl
open PySem PySem.Spec PyProof.Rows L2
/-! len(set(xs)): few different tuples of ints and texts (the table is never laid anew) -/
abbrev KTup (P : Program) (w : World) (h : Heap) (k : List Key) (b : Addr) : Prop := IsTupleKey (mixKind P w) h k b
abbrev kHash (P : Program) (w : World) (k : List Key) : Int := tupleKeyHash (mixKind P w) k
def leafV (v : Value) : Prop := (∃ i t, v = Value.int i t) ∨ ∃ x t, v = Value.str x t
section
variable {P : Program} {w : World} {A : Around} {E : Value → Shared → Prop} {s : Shared}
theorem leaf_items {k : List Key} {vs : List Value} (h : ItemsAre (mixKind P w) k vs) : ∀ v ∈ vs, leafV v := by
  induction h with
  | nil => intro v z; cases z
  | cons h1 _ ih =>
    intro v z
    rcases List.mem_cons.mp z with rfl | z
    · rcases keyIs_shape h1 with ⟨i, t, _, e⟩ | ⟨x, t, _, e⟩
      · exact .inl ⟨i, t, e⟩
      · exact .inr ⟨x, t, e⟩
    · exact ih v z
theorem leaf_noclass {v : Value} (h : leafV v) (n : Nat) : ofAClassStatement n v = pure false := by
  rcases h with ⟨i, t, rfl⟩ | ⟨x, t, rfl⟩ <;> cases n <;> rfl
theorem leaf_hash {v : Value} (h : leafV v) (n : Nat) : ∃ c, hashByValue n v = pure c := by
  rcases h with ⟨i, t, rfl⟩ | ⟨x, t, rfl⟩
  · exact ⟨true, by cases n <;> rfl⟩
  · exact ⟨false, by cases n <;> rfl⟩
theorem ktup_noclass {k : List Key} {b : Addr} {Q : Bool → Shared → Prop} (hk : KTup P w s.heap k b) (h : Q false s) : wpAny (model P w) A (ofAClassStatement 8 (.ref b)) Q E s := by
  have ty := hk.typeIs
  obtain ⟨o, items, n, g1, _, g2, g3⟩ := hk
  have lf := leaf_items g3
  unfold ofAClassStatement
  refine wpAny_bind (wpAny_typeOf ty ?_)
  have e0 : (("tuple" : String) == "tuple") = true := by decide
  simp only [e0, if_true]
  refine wpAny_bind (wpAny_pure ?_)
  simp only [Bool.not_true, Bool.false_eq_true, if_false]
  show wpAny _ _ (seqItems? (.ref b) >>= _) _ _ s
  refine wpAny_bind (wpAny_seqItems g1 g2 (wpAny_bind ?_))
  show wpAny _ _ (forIn items _ _) _ _ s
  rw [← Array.forIn_toList]
  refine wpAny_forIn_list _ (fun l r s1 => (r.1 = none ∧ s1 = s) ∧ ∀ v ∈ l, leafV v) _ ?_ ?_ _ _ ⟨⟨rfl, rfl⟩, lf⟩
  · rintro v l r s1 ⟨⟨hr, rfl⟩, hl⟩
    rw [leaf_noclass (hl v List.mem_cons_self)]
    refine wpAny_bind (wpAny_pure ?_)
    simp only [Bool.false_eq_true, if_false]
    exact wpAny_pure ⟨⟨rfl, rfl⟩, fun u z => hl u (List.mem_cons_of_mem _ z)⟩
  · rintro ⟨r1, r2⟩ s1 ⟨⟨hr, rfl⟩, _⟩
    cases hr
    exact wpAny_pure h
theorem ktup_hash {k : List Key} {b : Addr} {Q : Bool → Shared → Prop} (hk : KTup P w s.heap k b) (h : ∀ c, Q c s) : wpAny (model P w) A (hashByValue 8 (.ref b)) Q E s := by
  have ty := hk.typeIs
  obtain ⟨o, items, n, g1, _, g2, g3⟩ := hk
  have lf := leaf_items g3
  unfold hashByValue
  refine wpAny_bind (wpAny_specialOf ty F.slot_tuple_hash.lookup ?_)
  show wpAny _ _ (seqItems? (.ref b) >>= _) _ _ s
  refine wpAny_bind (wpAny_seqItems g1 g2 (wpAny_bind ?_))
  show wpAny _ _ (forIn items _ _) _ _ s
  rw [← Array.forIn_toList]
  refine wpAny_forIn_list _ (fun l r s1 => (r.1 = none ∧ s1 = s) ∧ ∀ v ∈ l, leafV v) _ ?_ ?_ _ _ ⟨⟨rfl, rfl⟩, lf⟩
  · rintro v l r s1 ⟨⟨hr, rfl⟩, hl⟩
    obtain ⟨c, e⟩ := leaf_hash (hl v List.mem_cons_self) 7
    rw [e]
    refine wpAny_bind (wpAny_pure ?_)
    cases c with
    | true =>
      simp only [Bool.not_true, Bool.false_eq_true, if_false]
      exact wpAny_pure ⟨⟨rfl, rfl⟩, fun u z => hl u (List.mem_cons_of_mem _ z)⟩
    | false =>
      simp only [Bool.not_false, if_true]
      exact wpAny_pure (wpAny_pure (h false))
  · rintro ⟨r1, r2⟩ s1 ⟨⟨hr, rfl⟩, _⟩
    cases hr
    exact wpAny_pure (h true)
theorem ktup_unseen {k : List Key} {b : Addr} {Q : Bool → Shared → Prop} (hk : KTup P w s.heap k b) {ys : List Value} (hy : ∀ y ∈ ys, ∃ k' c, y = Value.ref c ∧ KTup P w s.heap k' c) (h : Q false s) :
    wpAny (model P w) A (searchCouldBeSeen (.ref b) ys) Q E s := by
  unfold searchCouldBeSeen
  refine wpAny_bind (wpAny_forIn_list _ (fun l r s1 => (r.1 = none ∧ s1 = s) ∧ ∀ y ∈ l, ∃ k' c, y = Value.ref c ∧ KTup P w s.heap k' c) _ ?_ ?_ _ _ ⟨⟨rfl, rfl⟩, hy⟩)
  · rintro v l r s1 ⟨⟨hr, rfl⟩, hl⟩
    obtain ⟨k', c, rfl, hc⟩ := hl v List.mem_cons_self
    have next : (none = (none : Option Bool) ∧ s1 = s1) ∧ ∀ y ∈ l, ∃ k' c, y = Value.ref c ∧ KTup P w s1.heap k' c := ⟨⟨rfl, rfl⟩, fun u z => hl u (List.mem_cons_of_mem _ z)⟩
    by_cases q : (b == c || (carriedByValue (.ref b) && carriedByValue (.ref c))) = true
    · exact wp_if_pos q (wpAny_pure next)
    · refine wp_if_neg q ?_
      refine wpAny_bind (wpAny_eqIsQuiet_tuple hk ?_)
      refine wp_if_neg (by decide) ?_
      refine wpAny_bind (wpAny_eqIsQuiet_tuple hc ?_)
      refine wp_if_neg (by decide) ?_
      refine wpAny_bind (ktup_noclass hk (wp_if_neg (by decide) (wpAny_bind (ktup_noclass hc (wp_if_neg (by decide) ?_)))))
      exact wpAny_pure next
  · rintro ⟨r1, r2⟩ s1 ⟨⟨hr, rfl⟩, _⟩
    cases hr
    exact wpAny_pure h

/-- the set at a: its rows (address, keys) in the table's order -/
structure KSet (P : Program) (w : World) (h : Heap) (a : Addr) (L : List (Addr × List Key)) (es : Array (Int × Value)) (ep : Nat) (t : SetTable) : Prop where
  obj : ∃ o, h.get? a = some o ∧ o.ExactSet ∧ o.data = .set es ep t
  ent : es.toList = L.map fun p => (kHash P w p.2, Value.ref p.1)
  tab : TabOk t (L.map fun p => kHash P w p.2)
  uni : (L.map (·.2)).Nodup
  kt : ∀ p ∈ L, KTup P w h p.2 p.1
  m7 : t.mask = 7
  few : L.length ≤ 4
variable {a : Addr} {L : List (Addr × List Key)} {es : Array (Int × Value)} {ep : Nat} {t : SetTable}
theorem KSet.sz (R : KSet P w s.heap a L es ep t) : es.size = L.length := by
  rw [← Array.length_toList, R.ent, List.length_map]
theorem KSet.pl (R : KSet P w s.heap a L es ep t) : t.place.size = L.length := by
  rw [R.tab.sz, List.length_map]
theorem KSet.fit (R : KSet P w s.heap a L es ep t) : t.fits es.size = true := by
  have h1 := R.pl
  have h2 := R.sz
  have h3 := R.few
  have h4 := R.m7
  unfold SetTable.fits SetTable.fill
  rw [R.tab.dm, h1, h2, h4]
  simp
  omega
theorem KSet.at_ (R : KSet P w s.heap a L es ep t) {i : Nat} {p : Addr × List Key} (h : L[i]? = some p) : es[i]? = some (kHash P w p.2, Value.ref p.1) := by
  rw [← Array.getElem?_toList, R.ent, List.getElem?_map, h]
  rfl
theorem KSet.stays (R : KSet P w s.heap a L es ep t) : ¬ t.gaveWay = true := by
  unfold SetTable.gaveWay
  rw [R.m7]
  decide
theorem probe_clean (m : Nat) : ∀ (n : Nat) (p : SetTable.Probe), p.dummy = none → (nth m p n).dummy = none
  | 0, _, h => h
  | n + 1, p, h => probe_clean m n (adv m p) (by unfold adv; split <;> exact h)
/-- the search, from the c-th place on -/
theorem kset_search (R : KSet P w s.heap a L es ep t) {x : Addr} {k : List Key} (hx : KTup P w s.heap k x) (hu : A.units < cLine) {K : Nat} (hKf : K < 10 * SetTable.turns t.mask)
    (hK : way t.mask (kHash P w k) K ∉ t.place.toList) (hKb : ∀ c, c < K → way t.mask (kHash P w k) c ∈ t.place.toList) {Q : SetFound → Shared → Prop}
    (yes : k ∈ L.map (·.2) → Q (.there none) s) (no : k ∉ L.map (·.2) → Q (.free (way t.mask (kHash P w k) K) false) s) :
    ∀ (f c : Nat) (st : Option SetTable.Probe), st.getD (t.probeStart (kHash P w k)) = nth t.mask (runAt t.mask (SetTable.bits (kHash P w k) % (t.mask + 1)) (SetTable.bits (kHash P w k))) c → c ≤ K → K - c < f →
      (∀ (i : Nat) p, L[i]? = some p → p.2 = k → ∃ c', c ≤ c' ∧ c' < K ∧ t.place.toList[i]? = some (way t.mask (kHash P w k) c')) →
      wpAny (model P w) A (setSearchFrom a (.ref x) (kHash P w k) true f st) Q E s := by
  obtain ⟨o, go, gx, gd⟩ := R.obj
  intro f
  induction f with
  | zero => intro c st _ _ hf; omega
  | succ f ih =>
    intro c st hst hc hf hre
    rw [setSearchFrom_succ]
    refine wpAny_bind (wpAny_setState_of go gd R.fit (wp_if_neg R.stays ?_))
    generalize hp0 : runAt t.mask (SetTable.bits (kHash P w k) % (t.mask + 1)) (SetTable.bits (kHash P w k)) = p0 at hst ih
    have wy : ∀ n, (nth t.mask p0 n).j = way t.mask (kHash P w k) n := fun n => by rw [← hp0]
    have sh : ∀ q, nth t.mask (nth t.mask p0 c) q = nth t.mask p0 (c + q) := fun q => (nth_add t.mask c _ q).symm
    have spec := go_spec t R.tab.ris R.tab.dm (fun i => (es[i]?.map (·.1)).getD 0) (kHash P w k) (10 * SetTable.turns t.mask) (K - c) (nth t.mask p0 c) (probe_clean _ _ _ (by rw [← hp0]; rfl)) (by omega)
      (fun q hq => by rw [sh, wy]; exact hKb (c + q) (by omega)) (by rw [sh, wy, show c + (K - c) = K by omega]; exact hK)
    have hat : ∀ (i : Nat) p, L[i]? = some p → (es[i]?.map (·.1)).getD 0 = kHash P w p.2 := fun i p hp => by rw [R.at_ hp]; rfl
    rw [← hst] at spec
    have past : ∀ q i, (∀ k' i', k' < q → t.place.toList[i']? = some (way t.mask (kHash P w k) (c + k')) → (es[i']?.map fun z : Int × Value => z.1).getD 0 ≠ kHash P w k) → ∀ p : Addr × List Key, L[i]? = some p → p.2 = k → ∃ c', c + q ≤ c' ∧ c' < K ∧ t.place.toList[i]? = some (way t.mask (kHash P w k) c') := fun q i hno p hp hk => by
      obtain ⟨c', a1, a2, a3⟩ := hre i p hp hk
      refine ⟨c', ?_, a2, a3⟩
      rcases Nat.lt_or_ge c' (c + q) with z | z
      · exact absurd ((hat i p hp).trans (by rw [hk])) (hno (c' - c) i (by omega) (by rw [show c + (c' - c) = c' by omega]; exact a3))
      · exact z
    rcases spec with ⟨q, i, hq, hi, hh, hno, hpr⟩ | ⟨hno, hpr⟩
    · have hpr' : t.probe (fun i => (es[i]?.map (·.1)).getD 0) (kHash P w k) (st.getD (t.probeStart (kHash P w k))) = some (.candidate (way t.mask (kHash P w k) (c + q)) i (nth t.mask p0 (c + (q + 1)))) := by
        rw [hst] at hpr ⊢
        rw [sh, sh, wy] at hpr
        exact hpr
      rw [hpr']
      rw [hst, sh, wy] at hi
      have hno' : ∀ k' i', k' < q → t.place.toList[i']? = some (way t.mask (kHash P w k) (c + k')) → (es[i']?.map fun z : Int × Value => z.1).getD 0 ≠ kHash P w k := fun k' i' h1 h2 => hno k' i' h1 (by rw [hst, sh, wy]; exact h2)
      have hil : i < L.length := by
        have := (List.getElem?_eq_some_iff.mp hi).1
        rw [Array.length_toList, R.pl] at this
        exact this
      obtain ⟨p, hp⟩ : ∃ p, L[i]? = some p := ⟨_, List.getElem?_eq_getElem hil⟩
      have hpm := List.mem_of_getElem? hp
      have live := slot_live R.tab.ris hi
      have rest : wpAny (model P w) A (searchRest a (.ref x) (kHash P w k) true f es t (way t.mask (kHash P w k) (c + q)) i (nth t.mask p0 (c + (q + 1)))) Q E s := by
        unfold searchRest
        rw [R.at_ hp]
        refine wpAny_bind (wpAny_holding (wpAny_eqBool_tuple hu (R.kt p hpm) hx (wpAny_bind (wpAny_setState_of go gd R.fit ?_))))
        by_cases e : p.2 = k
        · exact wp_if_pos (by simp [e]) (wpAny_pure (yes (List.mem_map.mpr ⟨p, hpm, e⟩)))
        · refine wp_if_neg (by simp [e]) ?_
          rw [sameMem]
          simp only [if_true, live, R.at_ hp]
          refine wpAny_bind (wpAny_isSame_ref_self (wpAny_bind (wpAny_pure ?_)))
          simp only [if_true]
          refine wp_if_neg (by simp [e]) (ih (c + (q + 1)) _ rfl (by omega) (by omega) fun i0 p0' h0 hk0 => ?_)
          obtain ⟨c', a1, a2, a3⟩ := past q i0 hno' p0' h0 hk0
          refine ⟨c', ?_, a2, a3⟩
          rcases Nat.lt_or_ge (c + q) c' with y | y
          · omega
          · exfalso
            have ec : c' = c + q := by omega
            rw [ec] at a3
            have s0 := slot_live R.tab.ris a3
            rw [live] at s0
            injection s0 with s0
            rw [← s0, hp] at h0
            cases h0
            exact e hk0
      by_cases hl : t.led = true
      · exact wp_if_neg (by simp [hl]) rest
      · refine wp_if_pos (by simp [hl]) (wpAny_bind (ktup_unseen hx (fun y hy => ?_) (wp_if_neg (by decide) rest)))
        obtain ⟨e, he, rfl⟩ := List.mem_map.mp hy
        have he' : e ∈ es := (show e ∈ es ∧ e.1 = kHash P w k by simpa using he).1
        have he2 : e ∈ es.toList := by simpa using he'
        rw [R.ent] at he2
        obtain ⟨p2, hp2, rfl⟩ := List.mem_map.mp he2
        exact ⟨p2.2, p2.1, rfl, R.kt p2 hp2⟩
    · have hpr' : t.probe (fun i => (es[i]?.map (·.1)).getD 0) (kHash P w k) (st.getD (t.probeStart (kHash P w k))) = some (.empty (way t.mask (kHash P w k) K) none) := by
        rw [hst] at hpr ⊢
        rw [sh, wy, show c + (K - c) = K by omega] at hpr
        exact hpr
      rw [hpr']
      refine wpAny_pure (no fun hm => ?_)
      obtain ⟨p, hp, hk⟩ := List.mem_map.mp hm
      obtain ⟨i, hi⟩ := List.getElem?_of_mem hp
      obtain ⟨c', a1, a2, a3⟩ := past (K - c) i (fun k' i' h1 h2 => hno k' i' h1 (by rw [hst, sh, wy]; exact h2)) p hi hk
      omega

theorem kset_find (R : KSet P w s.heap a L es ep t) {x : Addr} {k : List Key} (hx : KTup P w s.heap k x) (hu : A.units < cLine) {Q : SetFound → Shared → Prop} (yes : k ∈ L.map (·.2) → Q (.there none) s)
    (no : ∀ K, k ∉ L.map (·.2) → way t.mask (kHash P w k) K ∉ t.place.toList → (∀ c, c < K → way t.mask (kHash P w k) c ∈ t.place.toList) → Q (.free (way t.mask (kHash P w k) K) false) s) :
    wpAny (model P w) A (setSearch a (.ref x) (kHash P w k) true) Q E s := by
  have h7 := R.m7
  have h4 := R.few
  obtain ⟨K, hKf, hK, hKb⟩ := R.tab.first (by rw [List.length_map]; omega) (kHash P w k)
  have small : K < 100000 := by
    have e : SetTable.turns t.mask = SetTable.turns 7 := by rw [h7]
    rw [e] at hKf
    have : 10 * SetTable.turns 7 ≤ 1000 := by unfold SetTable.turns; omega
    omega
  unfold setSearch
  refine kset_search R hx hu hKf hK hKb yes (fun z => no K z hK hKb) 100000 0 none rfl (Nat.zero_le _) (by omega) fun i p hp hk => ?_
  have hil : i < t.place.toList.length := by
    rw [Array.length_toList, R.pl]
    exact (List.getElem?_eq_some_iff.mp hp).1
  have hj := List.getElem?_eq_getElem hil
  obtain ⟨c, hc, e⟩ := R.tab.before hK (h := kHash P w k) (by rw [List.getElem?_map, hp, ← hk]; rfl) hj
  exact ⟨c, Nat.zero_le _, hc, by rw [hj, e]⟩
theorem ktup_old {h h' : Heap} {k : List Key} {b : Addr} (x : KTup P w h k b) (g : ∀ o, h.get? b = some o → h'.get? b = some o) : KTup P w h' k b := by
  obtain ⟨o, items, n, ho, r⟩ := x
  exact ⟨o, items, n, g o ho, r⟩
theorem ktup_ne {h : Heap} {k : List Key} {b : Addr} (x : KTup P w h k b) {o : Obj} (ho : h.get? a = some o) (hd : o.data = .set es ep t) : b ≠ a := by
  rintro rfl
  obtain ⟨o', items, n, ho', _, hd', _⟩ := x
  rw [ho] at ho'
  cases ho'
  rw [hd] at hd'
  cases hd'
/-- one more -/
theorem kset_add (R : KSet P w s.heap a L es ep t) {x : Addr} {k : List Key} (hx : KTup P w s.heap k x) (hu : A.units < cLine) (hfew : k ∉ L.map (·.2) → L.length + 1 ≤ 4) {Q : Bool → Shared → Prop}
    (hQ : ∀ b h' L' es' ep' t', Heap.SameBut a s.heap h' → KSet P w h' a L' es' ep' t' → (k ∈ L.map (·.2) ∧ L' = L ∨ k ∉ L.map (·.2) ∧ L'.Perm ((x, k) :: L)) → Q b { s with heap := h' }) :
    wpAny (model P w) A (setAddHashed a (.ref x) (kHash P w k)) Q E s := by
  obtain ⟨o, go, gx, gd⟩ := R.obj
  unfold setAddHashed
  refine wpAny_holding ?_
  rw [show (100000 : Nat) = 99999 + 1 from rfl, setAddHashedIn_succ]
  refine wpAny_bind (wpAny_setState_of go gd R.fit (wp_if_neg (by simp [byScan, Value.scannable]) ?_))
  refine wpAny_bind (kset_find R hx hu (fun hm => ?_) fun K hm hK hb => ?_)
  · exact wpAny_pure (hQ false s.heap L es ep t (Heap.SameBut.refl a s.heap) R (.inl ⟨hm, rfl⟩))
  refine wpAny_bind (wpAny_setState_of go gd R.fit ?_)
  obtain ⟨q1, q2, q3, q4, q5, q6, q7, q8, q9⟩ := R.tab.put hK hb
  have h4 := hfew hm
  dsimp only
  generalize hpt : t.put (way t.mask (kHash P w k) K) = pt at q1 q3 q4 q5 q6 q7 q8 q9 ⊢
  obtain ⟨t1, p⟩ := pt
  dsimp only at q1 q3 q4 q5 q6 q7 q8 q9 ⊢
  subst q1
  generalize SetTable.below t.place (way t.mask (kHash P w k) K) = p at q2 q3 ⊢
  have full : ∀ t2 : SetTable, t2.place = t1.place → t2.dummies = t1.dummies → t2.mask = t1.mask → ¬ t2.tooFull = true := fun t2 e1 e2 e3 => by
    have e : t2.fill = t1.fill := by unfold SetTable.fill; rw [e1, e2]
    unfold SetTable.tooFull
    rw [e, e3, q9, q4, R.m7, List.length_map]
    simp
    omega
  have put_ent : (SetTable.insertAt es p (kHash P w k, Value.ref x)).toList = (L.take p ++ (x, k) :: L.drop p).map fun p => (kHash P w p.2, Value.ref p.1) := by
    rw [SetTable.toList_insertAt, R.ent, List.map_append, List.map_cons, List.map_take, List.map_drop]
  have pm := put_perm L p (x, k)
  have hhs : (L.take p ++ (x, k) :: L.drop p).map (fun p => kHash P w p.2) = (L.map fun p => kHash P w p.2).take p ++ kHash P w k :: (L.map fun p => kHash P w p.2).drop p := by
    rw [List.map_append, List.map_cons, List.map_take, List.map_drop]
  rw [← hhs] at q3
  have hes : (SetTable.insertAt es p (kHash P w k, Value.ref x)).size = L.length + 1 := by
    rw [← Array.length_toList, put_ent, List.length_map, pm.length_eq, List.length_cons]
  generalize SetTable.insertAt es p (kHash P w k, Value.ref x) = es1 at put_ent hes ⊢
  generalize L.take p ++ (x, k) :: L.drop p = L1 at pm q3 put_ent
  have fin : ∀ t2 : SetTable, t2.place = t1.place → t2.dummies = t1.dummies → t2.mask = t1.mask → Q true { s with heap := s.heap.update a (Obj.putSet es1 t2) } := fun t2 e1 e2 e3 => by
    have sb : Heap.SameBut a s.heap (s.heap.update a (Obj.putSet es1 t2)) := Heap.SameBut.update ..
    refine hQ true _ L1 es1 (ep + 1) t2 sb ⟨⟨_, store_at go gd, ⟨gx.1, gx.2.1, gx.2.2⟩, rfl⟩, put_ent, ⟨by rw [e1]; exact q3.ris, by rw [e2]; exact q3.dm, by rw [e1]; exact q3.sz, by rw [e3]; exact q3.mok, by rw [e1, e3]; exact q3.bd, by rw [e1, e3]; exact q3.reach⟩, ?_, fun p hp => ?_, by rw [e3, q4, R.m7], by rw [pm.length_eq, List.length_cons]; exact h4⟩ (.inr ⟨hm, pm⟩)
    · refine (pm.map (·.2)).nodup_iff.mpr ?_
      rw [List.map_cons]
      exact List.nodup_cons.mpr ⟨hm, R.uni⟩
    · have old : KTup P w s.heap p.2 p.1 := by
        rcases List.mem_cons.mp (pm.mem_iff.mp hp) with rfl | hp
        · exact hx
        · exact R.kt p hp
      exact ktup_old old fun o' e => (sb.2 p.1 (ktup_ne old go gd)).trans e
  have last : ∀ (c : Bool), wpAny (model P w) A (do
      storeSet a es1 (if c = true then t1 else { t1 with plain := false })
      if (!false && (if c = true then t1 else { t1 with plain := false }).tooFull) = true then setRelay a (SetTable.grown (es.size + 1))
      return true) Q E s := fun c => by
    have c1 : (if c = true then t1 else { t1 with plain := false }).place = t1.place := by cases c <;> rfl
    have c2 : (if c = true then t1 else { t1 with plain := false }).dummies = t1.dummies := by cases c <;> rfl
    have c3 : (if c = true then t1 else { t1 with plain := false }).mask = t1.mask := by cases c <;> rfl
    generalize (if c = true then t1 else { t1 with plain := false }) = t2 at c1 c2 c3 ⊢
    refine wpAny_bind (wpAny_storeSet_of go gd (wp_if_neg (by simp [full t2 c1 c2 c3]) ?_) (by rw [hes, sizeLine_eq]; omega))
    exact wpAny_pure (fin t2 c1 c2 c3)
  by_cases hp1 : t1.plain = true
  · exact wp_if_pos hp1 (wpAny_bind (ktup_hash hx last))
  · exact wp_if_neg hp1 (wpAny_bind (wpAny_pure (last true)))
theorem few_sub {α : Type} [DecidableEq α] : ∀ (l V : List α), l.Nodup → (∀ x ∈ l, x ∈ V) → l.length ≤ V.length
  | [], _, _, _ => Nat.zero_le _
  | x :: l, V, hn, h => by
    obtain ⟨h1, h2⟩ := List.nodup_cons.mp hn
    have hx := h x (by simp)
    have ih := few_sub l (V.erase x) h2 fun y hy => (List.mem_erase_of_ne fun e => h1 (by rw [← e]; exact hy)).2 (h y (List.mem_cons_of_mem _ hy))
    rw [List.length_erase_of_mem hx] at ih
    have := List.length_pos_of_mem hx
    rw [List.length_cons]
    omega
/-- what the set has of the first i -/
structure KGot (ks : List (Addr × List Key)) (i : Nat) (L : List (Addr × List Key)) : Prop where
  sub : ∀ p ∈ L, p ∈ ks.take i
  all : ∀ p ∈ ks.take i, p.2 ∈ L.map (·.2)
theorem KGot.next {ks L L' : List (Addr × List Key)} {i : Nat} {p : Addr × List Key} (g : KGot ks i L) (h : ks[i]? = some p) (q : p.2 ∈ L.map (·.2) ∧ L' = L ∨ p.2 ∉ L.map (·.2) ∧ L'.Perm (p :: L)) : KGot ks (i + 1) L' := by
  have e : ks.take (i + 1) = ks.take i ++ [p] := by rw [List.take_succ, h]; rfl
  rcases q with ⟨hm, rfl⟩ | ⟨hm, pm⟩
  · refine ⟨fun r hr => by rw [e]; exact List.mem_append_left _ (g.sub r hr), fun r hr => ?_⟩
    rw [e] at hr
    rcases List.mem_append.mp hr with z | z
    · exact g.all r z
    · rw [List.mem_singleton.mp z]
      exact hm
  · refine ⟨fun r hr => ?_, fun r hr => ?_⟩
    · rw [e]
      rcases List.mem_cons.mp (pm.mem_iff.mp hr) with rfl | z
      · exact List.mem_append_right _ (by simp)
      · exact List.mem_append_left _ (g.sub r z)
    · rw [(pm.map (·.2)).mem_iff, List.map_cons]
      rw [e] at hr
      rcases List.mem_append.mp hr with z | z
      · exact List.mem_cons_of_mem _ (g.all r z)
      · rw [List.mem_singleton.mp z]
        exact List.mem_cons_self
def setNew (w : World) : Obj := { cls := .type "set", dict := none, data := .set #[] 0 (.fresh 0 0 (!w.params.followText "set-order")) }
theorem kset_new {h : Heap} (ho : h.get? a = some (setNew w)) : KSet P w h a [] #[] 0 (.fresh 0 0 (!w.params.followText "set-order")) :=
  ⟨⟨_, ho, ⟨rfl, rfl, rfl⟩, rfl⟩, rfl, ⟨List.Pairwise.nil, rfl, rfl, .inl rfl, fun x hx => (by cases hx), fun i h j hi => (by simp at hi)⟩, List.nodup_nil, fun p hp => (by cases hp), rfl, by simp⟩
theorem KSet.stay {h h' : Heap} (R : KSet P w h a L es ep t) (g : ∀ o, h.get? a = some o → h'.get? a = some o) (gt : ∀ p ∈ L, KTup P w h' p.2 p.1) : KSet P w h' a L es ep t := by
  obtain ⟨o, ho, r⟩ := R.obj
  exact ⟨⟨o, g o ho, r⟩, R.ent, R.tab, R.uni, gt, R.m7, R.few⟩
/-- the walk that fills it -/
theorem kset_fill {I : Addr} {fp wr : List Addr} {G : Array GenState → Array GenState → Prop} {n : Nat} {Pv : Nat → Value → Prop} {St : Nat → Shared → Prop} {R : Result → Shared → Prop}
    (W : WalksS P w A.in1 I fp wr G n Pv St) (Z : Addr) (hZ : Z ∉ fp) (ks : List (Addr × List Key)) (V : List (List Key)) (hV : ∀ p ∈ ks, p.2 ∈ V) (hV4 : V.length ≤ 4) (hn : n = ks.length)
    (hval : ∀ i v, Pv i v → ∃ p, ks[i]? = some p ∧ v = .ref p.1) (h0 : Heap) (hk : ∀ p ∈ ks, KTup P w h0 p.2 p.1) (hz : h0.get? Z = none) (hw0 : ∀ b ∈ wr, h0.get? b = none) (hu : A.in1.units < cLine) :
    ∀ (d i : Nat) (s : Shared), n - i = d → i ≤ n → St i s → (∀ b o, h0.get? b = some o → s.heap.get? b = some o) → (∃ L es ep t, KSet P w s.heap Z L es ep t ∧ KGot ks i L) →
      (∀ s' L es ep t, Moved (Z :: wr) G s s' → KSet P w s'.heap Z L es ep t → KGot ks n L → (∀ b o, h0.get? b = some o → s'.heap.get? b = some o) → R (.ok (.ret .none)) s') →
      codeAny (model P w) A (.builtin "set.update.loop" ⟨[.ref Z, .ref I], []⟩) R s := by
  have hZw : Z ∉ wr := fun z => hZ (W.sub _ z)
  have wide : ∀ b ∈ wr, b ∈ Z :: wr := fun b hb => List.mem_cons_of_mem _ hb
  have keep : ∀ {s s' : Shared}, Moved wr G s s' → (∀ b o, h0.get? b = some o → s.heap.get? b = some o) → ∀ b o, h0.get? b = some o → s'.heap.get? b = some o := fun hm hkp b o e =>
    hm.heap b o (fun hb => by rw [hw0 b hb] at e; cases e) (hkp b o e)
  intro d
  induction d with
  | zero =>
    rintro i s hd hi hst hkp ⟨L, es, ep, t, hS, g⟩ hR
    obtain rfl : i = n := by omega
    refine codeAny_builtin F.entry_set_update_loop ?_
    rw [Around.under_plainId F.plain_set_update_loop _]
    show wpAny _ A.in1 (pyNext (.ref I) >>= _) _ _ s
    refine wpAny_bind (W.done s _ _ hst fun s' hm => ?_)
    show wpAny _ A.in1 (ret Value.none) _ _ s'
    have hkp' := keep hm hkp
    exact wpAny_pure (hR s' L es ep t (hm.mono wide) (hS.stay (fun o e => hm.heap Z o hZw e) fun p hp => ktup_old (hk p (List.mem_of_mem_take (g.sub p hp))) (hkp' p.1)) g hkp')
  | succ d ih =>
    rintro i s hd hi hst hkp ⟨L, es, ep, t, hS, g⟩ hR
    refine codeAny_builtin F.entry_set_update_loop ?_
    rw [Around.under_plainId F.plain_set_update_loop _]
    show wpAny _ A.in1 (pyNext (.ref I) >>= _) _ _ s
    refine wpAny_bind (W.item i s _ _ (by omega) hst fun v s' hP hst' hm => ?_)
    obtain ⟨p, hp, rfl⟩ := hval i v hP
    have hkp' := keep hm hkp
    have hS' : KSet P w s'.heap Z L es ep t := hS.stay (fun o e => hm.heap Z o hZw e) fun q hq => ktup_old (hk q (List.mem_of_mem_take (g.sub q hq))) (hkp' q.1)
    have hx : KTup P w s'.heap p.2 p.1 := ktup_old (hk p (List.mem_of_getElem? hp)) (hkp' p.1)
    show wpAny _ A.in1 (holding [Value.ref p.1] (setAdd Z (.ref p.1)) >>= _) _ _ s'
    refine wpAny_bind (wpAny_holding ?_)
    unfold setAdd
    refine wpAny_holding (wpAny_bind (wpAny_pyHash_tuple hu hx ?_))
    refine kset_add (s := { s' with toks := s'.toks + (p.2.length + 1) }) hS' hx hu (fun z => ?_) fun b h' L' es' ep' t' hsb hS2 hc => ?_
    · have := few_sub (p.2 :: L.map (·.2)) V (List.nodup_cons.mpr ⟨z, hS'.uni⟩) fun y hy => by
        rcases List.mem_cons.mp hy with rfl | hy
        · exact hV p (List.mem_of_getElem? hp)
        · obtain ⟨q, hq, rfl⟩ := List.mem_map.mp hy
          exact hV q (List.mem_of_mem_take (g.sub q hq))
      rw [List.length_cons, List.length_map] at this
      omega
    have hkp2 : ∀ b o, h0.get? b = some o → h'.get? b = some o := fun b o e => (hsb.2 b (fun z => by rw [z, hz] at e; cases e)).trans (hkp' b o e)
    refine wpAny_pure ⟨plainId_quiet F.plain_set_update_loop _, ih (i + 1) _ (by omega) (by omega) (W.frame _ s' _ _ hst' (Nat.le_add_right _ _) fun b hb o e => ?_) hkp2 ⟨L', es', ep', t', hS2, g.next hp hc⟩ fun s'' L2 es2 ep2 t2 hm2 hS3 g3 hkp3 => ?_⟩
    · exact (hsb.2 b fun h : b = Z => hZ (h ▸ hb)).trans e
    · refine hR s'' L2 es2 ep2 t2 (Moved.trans W.gtrans ((hm.mono wide).then_heap (Nat.le_add_right _ _) fun b o hb e => ?_) hm2) hS3 g3 hkp3
      exact (hsb.2 b fun h : b = Z => hb (h ▸ List.mem_cons_self)).trans e

set_option maxHeartbeats 8000000 in
/-- set(xs), xs a list -/
theorem kset_call {l : Addr} {items : Array Value} (ks : List (Addr × List Key)) (V : List (List Key)) (hV : ∀ p ∈ ks, p.2 ∈ V) (hV4 : V.length ≤ 4) {Q : Value → Shared → Prop} (hh : A.handled = none) (hl : s.heap.IsList l items) (hit : items.toList = ks.map fun p => Value.ref p.1)
    (hk : ∀ p ∈ ks, KTup P w s.heap p.2 p.1) (hu : A.units + 3 < cLine)
    (h : ∀ (h' : Heap) (tk : Nat) L es ep t, KSet P w h' s.heap.objs.size L es ep t → KGot ks ks.length L → (∀ b o, s.heap.get? b = some o → h'.get? b = some o) → Q (.ref s.heap.objs.size) { s with heap := h', toks := tk }) :
    wpAny (model P w) A (call (.type "set") [.ref l]) Q E s := by
  have isz : items.size = ks.length := by rw [← Array.length_toList, hit, List.length_map]
  obtain ⟨c, tl, hmro⟩ := F.called_set.mro
  have hmade := F.called_set.made
  have hsub := F.called_set.sub
  refine wpAny_call (codeAny_of_tree ?_)
  show wpAny _ _ (callAny (.type "set") _) _ _ _
  refine wpAny_pure ⟨Code.quiet_builtin _ (by decide +kernel), codeAny_builtin F.entry_type_call ?_⟩
  rw [Around.under_plain (weight_type_call_type "set" [.ref l] []) rfl]
  have f1 := F.called_set.notType
  have f2 := F.called_set.canCreate
  have f3 := F.typeCall_set_1 (.ref l)
  repeat (any_goals (first | assumption | wp_step))
  refine codeAny_mono (code_set_led1 (.ref l) (E := E) (Q₁ := fun x s₁ => x = .ref s.heap.objs.size ∧ s₁ = { s with heap := s.heap.push (setNew w) }) ⟨rfl, rfl⟩) fun r s₁ hr => ?_
  cases r with
  | error e => exact hr
  | ok fl =>
    cases fl with
    | ret obj =>
      obtain ⟨rfl, rfl⟩ := hr
      have gS : (s.heap.push (setNew w)).get? s.heap.objs.size = some (setNew w) := Heap.get?_push_size _ rfl
      have tS : Shared.TypeIs { s with heap := s.heap.push (setNew w) } (.ref s.heap.objs.size) "set" := ⟨_, gS, rfl⟩
      have f4 := F.called_set.init.lookup
      have f5 := F.called_set.init.bind (.ref s.heap.objs.size)
      repeat (any_goals (first | assumption | wp_step))
      refine codeAny_mono (codeAny_call_builtin (R := wants (fun r s₂ => r = .none ∧ ∃ h' tk L es ep t, s₂ = { s with heap := h', toks := tk } ∧ KSet P w h' s.heap.objs.size L es ep t ∧ KGot ks ks.length L ∧
          (∀ b o, s.heap.get? b = some o → h'.get? b = some o)) E) F.called_set.init.plain F.entry_set_init (check_set_init_1 tS ?_)) fun r₂ s₂ hr₂ => ?_
      · obtain ⟨⟨oc, od, odt, osl⟩, hol, hcl, nl, hdl⟩ := hl
        simp only at hcl hdl
        subst hcl; subst hdl
        have hol' : (s.heap.push (setNew w)).get? l = some { cls := .type "list", dict := od, data := .seq items nl, slots := osl } := Heap.get?_push_of_some _ hol
        have k1 := F.sub_list_set
        have k2 := F.sub_list_frozenset
        have k3 : (Value.type "list" == Value.type "dict") = false := by decide
        have hl1 : (s.heap.push (setNew w)).IsList l items := ⟨_, hol', rfl, nl, rfl⟩
        have hlS : l < s.heap.objs.size := Heap.lt_size hol
        unfold Builtin.«set.__init__» noKeywords Builtin.Frozenset.updateFrom
        generalize hPI : pyIter = PI
        wp_walk
        subst hPI
        refine wpAny_pyIter_list hl1 (wpAny_bind (wpAny_runValue ?_))
        have hz1 : (s.heap.push (setNew w)).objs.size = s.heap.objs.size + 1 := Heap.size_push ..
        have free : ∀ b, s.heap.objs.size ≤ b → s.heap.get? b = none := fun b hb => by
          cases q : s.heap.get? b with
          | none => rfl
          | some o => exact absurd (Heap.lt_size q) (Nat.not_lt.mpr hb)
        refine kset_fill ((Walks.list (show A.in1.in1.in1.handled = none by simp [hh]) _ l (by rw [hz1]; exact Nat.ne_of_lt (Nat.lt_succ_of_lt hlS)) items).toS) s.heap.objs.size
          (by rw [hz1]; simp only [List.mem_cons, List.not_mem_nil, or_false, not_or]; exact ⟨Nat.ne_of_lt (Nat.lt_succ_self _), Nat.ne_of_gt hlS⟩) ks V hV hV4 isz (fun i v hv => ?_) s.heap hk (free _ (Nat.le_refl _)) (fun b hb => free b (by
            rw [List.mem_singleton.mp hb, hz1]
            exact Nat.le_succ _)) hu (items.size - 0) 0 _ (by omega) (Nat.zero_le _)
          ⟨⟨_, Heap.get?_push_size _ rfl, rfl, rfl⟩, (hl1.push _)⟩ (fun b o e => Heap.get?_push_of_some _ (Heap.get?_push_of_some _ e)) ?_ ?_
        · have q : items.toList[i]? = some v := by rw [Array.getElem?_toList]; exact hv
          rw [hit, List.getElem?_map] at q
          cases hq : ks[i]? with
          | none => rw [hq] at q; cases q
          | some p =>
            rw [hq] at q
            exact ⟨p, rfl, (Option.some.inj q).symm⟩
        · exact ⟨[], #[], 0, _, kset_new (Heap.get?_push_of_some _ gS), ⟨fun p hp => (by cases hp), fun p hp => by simp at hp⟩⟩
        · rintro ⟨h', g2, d', tk', os'⟩ L es ep t hm hS' g' hkp
          have eg : g2 = s.gens := hm.gens
          have ed : d' = s.drawn := hm.drawn
          have eo : os' = s.os := hm.os
          subst eg ed eo
          rw [isz] at g'
          exact wpAny_pure (wpAny_pure ⟨rfl, h', tk', L, es, ep, t, rfl, hS', g', hkp⟩)
      · cases r₂ with
        | error e => exact hr₂
        | ok fl₂ =>
          cases fl₂ with
          | ret r =>
            obtain ⟨rfl, h', tk, L, es, ep, t, rfl, hS', g', hk'⟩ := hr₂
            repeat (any_goals (first | assumption | wp_step))
            exact h _ _ _ _ _ _ hS' g' hk'
          | _ => exact hr₂.elim
    | _ => exact hr.elim
end
end Dl

end

section
set_option linter.all false
set_option Elab.async false
set_option maxRecDepth 100000
set_option Elab.async false
set_option linter.all false
set_option maxRecDepth 100000
set_option maxHeartbeats 4000000
namespace Dl
open PySem PySem.Spec PyProof.Rows L2
section
variable {X : Cx}
theorem mix_items : ∀ {k : List Key} {us : List Value}, Vals (k.map kV) us → ItemsAre (mixKind X.prog X.w) k us
  | [], _, .nil => .nil
  | .inl i :: k, _, .cons r t => by
    obtain ⟨tk, rfl⟩ := r
    exact .cons (mixKind_int X.prog X.w i tk) (mix_items t)
  | .inr x :: k, _, .cons r t => by
    obtain ⟨tk, rfl⟩ := r
    exact .cons (mixKind_str X.prog X.w x tk) (mix_items t)
theorem ktup_of {pins : List (Addr × Obj)} {σ : L2.St} {H : Hp} {s : Shared} {b : Addr} {k : List Key} (I : Inv X pins σ H s) (h : SqT X.K H b (k.map kV)) : KTup X.prog X.w s.heap k b := by
  obtain ⟨its, r, ⟨o, ho, hc, n, hd⟩, _⟩ := I.tuple h
  exact ⟨o, its.toArray, n, ho, hc, hd, by simpa using mix_items r⟩
theorem refs_only : ∀ {ks : List (Addr × List Key)} {us : List Value}, Vals (ks.map fun p => V.ref p.1) us → us = ks.map fun p => Value.ref p.1
  | [], _, .nil => rfl
  | p :: ks, _, .cons r t => by
    cases r
    rw [refs_only t]
    rfl
def tLenSet (K : PySem.W.Frag) (ta : TE) : TE := fun σ H Q => ta σ H fun x H1 => ∃ (l : Addr) (ks : List (Addr × List Key)) (Z : List (List Key)), x = V.ref l ∧ SqL K H1 l (ks.map fun p => V.ref p.1) ∧ (∀ p ∈ ks, SqT K H1 p.1 (p.2.map kV)) ∧ (∀ p ∈ ks, p.2 ∈ Z) ∧ Z.length ≤ 4 ∧
  ∀ L : List (List Key), L.Nodup → (∀ k, k ∈ L ↔ k ∈ ks.map (·.2)) → Q (.int L.length) H1
theorem pe_lenSet {a : Expr} {ta : TE} {p p2 q pos : Pos} (hc : X.calm = true) (hu : X.A.units + 64 < cLine) (hg : Gl X "len") (hm : X.mg "len" = none) (hg2 : Gl X "set") (hm2 : X.mg "set" = none) (ha : PE X a ta)
    (na : starEach [a] X.env = (false, eval a X.env) :: starEach [] X.env := by rfl) : PE X (.Call (.Name "len" p) [.Call (.Name "set" p2) [a] [] q] [] pos) (tLenSet X.K ta) := by
  refine ⟨fun pins s σ H Q I h => Call_ (ld_blt I hg hm PySem.boot_len ?_)⟩
  refine PyProof.Rows.callWith_builtin1 (PyProof.Rows.args_cons ?_ rfl) rfl rfl
  refine Call_ (ld_blt I hg2 hm2 PyProof.Rows.boot_set ?_)
  refine PyProof.Rows.callWith_type1 (PyProof.Rows.args_cons (thn (ha.run pins s σ H _ I h) fun v s1 ⟨x, H1, I1, r1, q1⟩ => PyProof.Rows.args_nil ?_) na) na rfl
  obtain ⟨l, ks, V, rfl, hq, hk, hV, hV4, q1⟩ := q1
  cases r1
  obtain ⟨its, r, pl, hz⟩ := I1.list hq
  refine kset_call (P := X.prog) (w := X.w) ks V hV hV4 (I1.ok.hd hc) pl.isList (by simpa using refs_only r) (fun p hp => ktup_of I1 (hk p hp)) (by omega) fun h' tk L es ep t R g k => ?_
  have hsz := KSet.sz (s := { s1 with heap := h', toks := tk }) R
  have hft := KSet.fit (s := { s1 with heap := h', toks := tk }) R
  have h4 := R.few
  refine PyProof.Rows.args_nil ?_
  obtain ⟨o, ho, hex, hd⟩ := R.obj
  have I2 : Inv X pins σ H1 { s1 with heap := h', toks := tk } := I1.kept k
  refine call_len_set ho hex hd hft (by rw [hsz]; omega) ⟨.int L.length, H1, I2.tok _, ⟨_, by rw [hsz]⟩, ?_⟩
  have := q1 (L.map (·.2)) R.uni fun y => ⟨fun z => ?_, fun z => ?_⟩
  · rw [List.length_map] at this
    exact this
  · obtain ⟨p, hp, rfl⟩ := List.mem_map.mp z
    exact List.mem_map_of_mem (List.mem_of_mem_take (g.sub p hp))
  · obtain ⟨p, hp, rfl⟩ := List.mem_map.mp z
    exact g.all p (by rw [List.take_length]; exact hp)
end
/-! the keys of a pair -/
def dK : D → List Key
  | .tup [.str a, .int i] => [.inr (toS a), .inl i]
  | .tup [.str a, .str b] => [.inr (toS a), .inr (toS b)]
  | _ => []
theorem dK_inj {x y : D} (hx : pairD x = true) (hy : pairD y = true) (h : dK x = dK y) : x = y := by
  have sh : ∀ z : D, pairD z = true → (∃ a i, z = .tup [.str a, .int i]) ∨ ∃ a b, z = .tup [.str a, .str b] := by
    intro z hz
    unfold pairD at hz
    split at hz
    · exact .inl ⟨_, _, rfl⟩
    · exact .inr ⟨_, _, rfl⟩
    · cases hz
  rcases sh x hx with ⟨a, i, rfl⟩ | ⟨a, b, rfl⟩ <;> rcases sh y hy with ⟨c, j, rfl⟩ | ⟨c, e, rfl⟩
  · simp [dK, toS_inj] at h; simp [h]
  · simp [dK] at h
  · simp [dK] at h
  · simp [dK, toS_inj] at h; simp [h]
theorem firstD_go : ∀ (xs acc : List D), acc.Nodup → (xs.foldl (fun acc x => if x ∈ acc then acc else acc ++ [x]) acc).Nodup ∧ ∀ x, x ∈ xs.foldl (fun acc x => if x ∈ acc then acc else acc ++ [x]) acc ↔ x ∈ acc ∨ x ∈ xs
  | [], acc, h => ⟨h, by simp⟩
  | y :: xs, acc, h => by
    rw [List.foldl_cons]
    by_cases q : y ∈ acc
    · rw [if_pos q]
      obtain ⟨h1, h2⟩ := firstD_go xs acc h
      refine ⟨h1, fun x => (h2 x).trans ?_⟩
      rw [List.mem_cons]
      constructor
      · rintro (z | z)
        · exact .inl z
        · exact .inr (.inr z)
      · rintro (z | rfl | z)
        · exact .inl z
        · exact .inl q
        · exact .inr z
    · rw [if_neg q]
      obtain ⟨h1, h2⟩ := firstD_go xs (acc ++ [y]) (List.nodup_append.mpr ⟨h, by simp, fun a ha b hb e => by simp at hb; subst hb; subst e; exact q ha⟩)
      refine ⟨h1, fun x => (h2 x).trans ?_⟩
      simp only [List.mem_append, List.mem_cons, List.not_mem_nil, or_false]
      exact or_assoc
section
variable {K : PySem.W.Frag} {mg : Str → Option Value} {H : Hp} {ι : List Addr}
theorem pair_rows : ∀ {vs : List V} {xs : List D}, Rps K mg H ι vs xs → xs.all pairD = true → ∃ ks : List (Addr × List Key), vs = ks.map (fun p => V.ref p.1) ∧ (∀ p ∈ ks, SqT K H p.1 (p.2.map kV)) ∧ ks.map (·.2) = xs.map dK
  | _, _, .nil, _ => ⟨[], rfl, fun p hp => (by cases hp), rfl⟩
  | _, _, .cons (v := v0) (d := x) p r, h => by
    rw [List.all_cons, Bool.and_eq_true] at h
    obtain ⟨ks, e1, e2, e3⟩ := pair_rows r h.2
    have hx := h.1
    have one : ∃ (b : Addr), v0 = V.ref b ∧ SqT K H b ((dK x).map kV) := by
      unfold pairD at hx
      split at hx
      · obtain ⟨b, us, rfl, hT, _, q⟩ := p.tup_inv
        obtain ⟨v, u, rfl, p1, p2⟩ := q.two
        cases p1
        cases p2
        exact ⟨b, rfl, hT⟩
      · obtain ⟨b, us, rfl, hT, _, q⟩ := p.tup_inv
        obtain ⟨v, u, rfl, p1, p2⟩ := q.two
        cases p1
        cases p2
        exact ⟨b, rfl, hT⟩
      · cases hx
    obtain ⟨b, rfl, hT⟩ := one
    refine ⟨(b, dK x) :: ks, by rw [e1]; rfl, fun q hq => ?_, by rw [List.map_cons, List.map_cons, e3]⟩
    rcases List.mem_cons.mp hq with rfl | hq
    · exact hT
    · exact e2 q hq
end
section
variable {X : Cx} {W : WX} {e : Expr} {m : EM}
/-- len(set(xs)), xs a list of pairs -/
theorem se_lenSet {k : Nat} {p p2 q pos : Pos} (hr : Room k X.A) (hg : Gl X "len") (hm : X.mg "len" = none) (hg2 : Gl X "set") (hm2 : X.mg "set" = none) (ha : SE X W e m) (hc : X.calm = true := by rfl)
    (na : starEach [e] X.env = (false, eval e X.env) :: starEach [] X.env := by rfl) : SE X W (.Call (.Name "len" p) [.Call (.Name "set" p2) [e] [] q] [] pos) (callM lenSetP [m]) :=
  pe_imp (pe_lenSet hc (hu64 hr) hg hm hg2 hm2 ha na) fun σ H Q h => by
    obtain ⟨δ, S, ι, r, h⟩ := h
    refine ⟨δ, S, ι, r, ?_⟩
    replace h : PostE X.K X.mg W σ H ι (((m δ S).bind fun d S1 => Res.ok [d] S1).bind lenSetP) Q := by
      have e0 : callM lenSetP [m] δ S = ((m δ S).bind fun d S1 => Res.ok [d] S1).bind lenSetP := rfl
      rw [← e0]
      exact h
    cases e1 : m δ S with
    | stuck => rw [e1] at h; exact h
    | exc x S1 => rw [e1] at h; exact h
    | ok d S1 =>
      rw [e1] at h
      replace h : PostE X.K X.mg W σ H ι (lenSetP [d] S1) Q := h
      intro v H1 ι1 g1 r1 p1
      unfold lenSetP at h
      split at h
      rotate_left
      · exact h.elim
      rename_i n ed
      cases ed
      split at h
      rotate_left
      · exact h.elim
      rename_i xs ex
      split at h
      rotate_left
      · exact h.elim
      rename_i hp
      obtain ⟨a, rfl, ha'⟩ := p1.ref_inv
      obtain ⟨vs, s1, q1⟩ := r1.lstAt ha' ex
      obtain ⟨ks, rfl, t1, t2⟩ := pair_rows q1 hp.1
      obtain ⟨f1, f2⟩ := firstD_go xs [] List.nodup_nil
      have f2 : ∀ x, x ∈ firstD xs ↔ x ∈ xs := fun x => (f2 x).trans (by simp)
      have f1 : (firstD xs).Nodup := f1
      have hpx := List.all_eq_true.mp hp.1
      have nd : ((firstD xs).map dK).Nodup := List.pairwise_map.mpr (List.Pairwise.imp_of_mem (fun {x y} hx hy ne z => ne (dK_inj (hpx x ((f2 x).mp hx)) (hpx y ((f2 y).mp hy)) z)) f1)
      have mem : ∀ y, y ∈ (firstD xs).map dK ↔ y ∈ ks.map (·.2) := fun y => by
        rw [t2]
        simp only [List.mem_map, f2]
      refine ⟨a, ks, (firstD xs).map dK, rfl, s1, t1, fun p hp => (mem _).mpr (List.mem_map_of_mem hp), by rw [List.length_map]; exact hp.2.2, fun L hL hLm => ?_⟩
      have l1 := few_sub L _ hL fun y hy => (mem y).mpr ((hLm y).mp hy)
      have l2 := few_sub _ L nd fun y hy => (hLm y).mpr ((mem y).mp hy)
      rw [List.length_map] at l1 l2
      have le : L.length = (firstD xs).length := by omega
      rw [le]
      exact h _ _ _ g1 r1 (.int _)
end
end Dl

end

section
set_option linter.all false
set_option Elab.async false
set_option maxRecDepth 100000
set_option linter.all false
set_option Elab.async false
set_option maxRecDepth 100000
set_option maxHeartbeats 4000000
/-! each def does as its reading says, printed by gen.py -/
namespace LW
open PySem PySem.Spec PyProof.Rows L2 Dl
def topS (i : Nat) : Stmt := PySem.Challenge.pw_doubtbook_k75_unified_terms.main.body.getD i (.Pass ⟨0, 0, 0, 0⟩)
/-- these built-ins have their own names -/
structure Z (mg : Str → Option Value) : Prop where
  zip : mg "zip" = none
  tuple : mg "tuple" = none
  sorted : mg "sorted" = none
  int : mg "int" = none
  len : mg "len" = none
  list : mg "list" = none
  range : mg "range" = none
  isinstance : mg "isinstance" = none
  bool : mg "bool" = none
  str : mg "str" = none
  max : mg "max" = none
  set : mg "set" = none
section
variable {P : Program} {w : World} {K : PySem.W.Frag} {mg : Str → Option Value} {base : Heap}
abbrev s_F_put_terms : Stmt := topS 1
theorem sc_F_put_terms : FnScope ["term", "mapping", "variable", "worth"] ["term", "mapping"] (defScope s_F_put_terms) := ⟨rfl, rfl, rfl, by decide +kernel, rfl, by decide +kernel, by decide +kernel⟩
theorem w_F_put_terms {fa : Addr} {fd : FuncData} (G : Fun K "put_terms" "put_terms" s_F_put_terms fa fd) (hm : mg (Str.ofString "put_terms") = some (.ref fa)) (hb : Binds K fd ["term", "mapping"] []) (z : Z mg) : FT P w K mg base 1 "put_terms" F_put_terms 2 :=
  ft_of (fn_core (lv := 0) G sc_F_put_terms rfl rfl fun cdv A outer s H E hr tk po => 
      (ss_cons (ss_for (tg := (.tp [2, 3])) po rfl (si_seq (se_var 1)) (sg_tp rfl (sgs_cons (sg_nm 2 sc_F_put_terms.nd) (sgs_cons (sg_nm 3 sc_F_put_terms.nd) sgs_nil))) (ss_one (ss_if (st_eq hr (se_var 0) (se_tup (sa_cons (se_str [118, 97, 114]) (sa_cons (se_var 2) sa_nil)))) (ss_one (ss_ret (se_var 3))) ss_nil)))
      (ss_one (ss_ret (se_var 0))))) hm G.kp hb
abbrev s_F_resolved : Stmt := topS 2
theorem sc_F_resolved : FnScope ["term", "bound"] ["term", "bound"] (defScope s_F_resolved) := ⟨rfl, rfl, rfl, by decide +kernel, rfl, by decide +kernel, by decide +kernel⟩
theorem w_F_resolved {fa : Addr} {fd : FuncData} (G : Fun K "resolved" "resolved" s_F_resolved fa fd) (hm : mg (Str.ofString "resolved") = some (.ref fa)) (hb : Binds K fd ["term", "bound"] []) (z : Z mg) : FT P w K mg base 1 "resolved" F_resolved 2 :=
  ft_of (fn_core (lv := 0) G sc_F_resolved rfl rfl fun cdv A outer s H E hr tk po => 
      (ss_cons (ss_if (st_eq hr (se_ix (se_var 0) se_int) (se_str [118, 97, 114])) (ss_one (ss_ret (se_dget2 (hu1 hr) (se_var 1) (se_ix (se_var 0) se_int) (se_var 0) ⟨by rfl, by rfl, by rfl, by rfl⟩))) ss_nil)
      (ss_one (ss_ret (se_var 0))))) hm G.kp hb
abbrev s_F_with_variable : Stmt := topS 3
theorem sc_F_with_variable : FnScope ["bound", "variable", "term", "grown", "known", "worth"] ["bound", "variable", "term"] (defScope s_F_with_variable) := ⟨rfl, rfl, rfl, by decide +kernel, rfl, by decide +kernel, by decide +kernel⟩
theorem w_F_with_variable {fa : Addr} {fd : FuncData} (G : Fun K "with_variable" "with_variable" s_F_with_variable fa fd) (hm : mg (Str.ofString "with_variable") = some (.ref fa)) (hb : Binds K fd ["bound", "variable", "term"] []) (z : Z mg) : FT P w K mg base 1 "with_variable" F_with_variable 3 :=
  ft_of (fn_core (lv := 0) G sc_F_with_variable rfl rfl fun cdv A outer s H E hr tk po => 
      (ss_cons (ss_setDc 3 (own := [("known", 4), ("worth", 5)]) rfl sc_F_with_variable.nd (sw_dict rfl rfl rfl (by decide +kernel)) (se_var 0) (by show blkC ["bound", "variable", "term", "grown", "known", "worth"] (defScope s_F_with_variable) _ _ = true; decide +kernel) (fun _ _ _ _ _ => (sg_tp rfl (sgs_cons (sg_nm 4 sc_F_with_variable.nd) (sgs_cons (sg_nm 5 sc_F_with_variable.nd) sgs_nil)))) (fun _ _ _ _ _ => (se_var 4)) (fun _ _ _ _ _ => (se_ifExp (st_eq hr (se_var 5) (se_tup (sa_cons (se_str [118, 97, 114]) (sa_cons (se_var 1) sa_nil)))) (se_var 2) (se_var 5))))
      (ss_cons (ss_dput (hu1 hr) (se_var 3) (se_var 1) (se_var 2))
      (ss_one (ss_ret (se_var 3)))))) hm G.kp hb
abbrev s_F_bound_terms : Stmt := topS 4
theorem sc_F_bound_terms : FnScope ["terms", "others", "bound", "term", "other", "left", "right"] ["terms", "others"] (defScope s_F_bound_terms) := ⟨rfl, rfl, rfl, by decide +kernel, rfl, by decide +kernel, by decide +kernel⟩
theorem w_F_bound_terms {fa : Addr} {fd : FuncData} (G : Fun K "bound_terms" "bound_terms" s_F_bound_terms fa fd) (hm : mg (Str.ofString "bound_terms") = some (.ref fa)) (hb : Binds K fd ["terms", "others"] []) (z : Z mg) (t_resolved : FT P w K mg base 1 "resolved" F_resolved 2) (t_with_variable : FT P w K mg base 1 "with_variable" F_with_variable 3) : FT P w K mg base 2 "bound_terms" F_bound_terms 2 :=
  ft_of (fn_core (lv := 1) G sc_F_bound_terms rfl rfl fun cdv A outer s H E hr tk po => 
      (ss_cons (ss_set 2 sc_F_bound_terms.nd se_dnew)
      (ss_cons (ss_for (tg := (.tp [3, 4])) po rfl (si_zipT (by rfl) z.zip (sa_cons (se_var 0) (sa_cons (se_var 1) sa_nil))) (sg_tp rfl (sgs_cons (sg_nm 3 sc_F_bound_terms.nd) (sgs_cons (sg_nm 4 sc_F_bound_terms.nd) sgs_nil))) (ss_cons (ss_set 5 sc_F_bound_terms.nd (se_call hr tk t_resolved (by decide) rfl (by rfl) (sa_cons (se_var 3) (sa_cons (se_var 2) sa_nil))))
      (ss_cons (ss_set 6 sc_F_bound_terms.nd (se_call hr tk t_resolved (by decide) rfl (by rfl) (sa_cons (se_var 4) (sa_cons (se_var 2) sa_nil))))
      (ss_one (ss_if (st_ne hr (se_var 5) (se_var 6)) (ss_one (ss_if (st_eq hr (se_ix (se_var 5) se_int) (se_str [118, 97, 114])) (ss_one (ss_set 2 sc_F_bound_terms.nd (se_call hr tk t_with_variable (by decide) rfl (by rfl) (sa_cons (se_var 2) (sa_cons (se_ix (se_var 5) se_int) (sa_cons (se_var 6) sa_nil)))))) (ss_one (ss_if (st_eq hr (se_ix (se_var 6) se_int) (se_str [118, 97, 114])) (ss_one (ss_set 2 sc_F_bound_terms.nd (se_call hr tk t_with_variable (by decide) rfl (by rfl) (sa_cons (se_var 2) (sa_cons (se_ix (se_var 6) se_int) (sa_cons (se_var 5) sa_nil)))))) (ss_one (ss_ret se_non)))))) ss_nil)))))
      (ss_one (ss_ret (se_var 2)))))) hm G.kp hb
abbrev s_F_unified : Stmt := topS 5
theorem sc_F_unified : FnScope ["terms", "others", "bound", "variable"] ["terms", "others"] (defScope s_F_unified) := ⟨rfl, rfl, rfl, by decide +kernel, rfl, by decide +kernel, by decide +kernel⟩
theorem w_F_unified {fa : Addr} {fd : FuncData} (G : Fun K "unified" "unified" s_F_unified fa fd) (hm : mg (Str.ofString "unified") = some (.ref fa)) (hb : Binds K fd ["terms", "others"] []) (z : Z mg) (t_bound_terms : FT P w K mg base 2 "bound_terms" F_bound_terms 2) : FT P w K mg base 3 "unified" F_unified 2 :=
  ft_of (fn_core (lv := 2) G sc_F_unified rfl rfl fun cdv A outer s H E hr tk po => 
      (ss_cons (ss_set 2 sc_F_unified.nd (se_call hr tk t_bound_terms (by decide) rfl (by rfl) (sa_cons (se_var 0) (sa_cons (se_var 1) sa_nil))))
      (ss_cons (ss_if (st_isN (se_var 2)) (ss_one (ss_ret se_non)) ss_nil)
      (ss_one (ss_ret (se_tuple (by rfl) z.tuple (sa_cons (se_lc (own := [("variable", 3)]) (tg := (.nm 3)) rfl sc_F_unified.nd (si_seq (se_sortedD rfl (by rfl) z.sorted (sa_cons (se_var 2) sa_nil))) (by show blkC ["terms", "others", "bound", "variable"] (defScope s_F_unified) _ _ = true; decide +kernel) (fun _ _ _ _ _ => (sg_nm 3 sc_F_unified.nd)) (fun _ _ _ _ _ => sts_nil) (fun _ _ _ _ _ => (se_tup (sa_cons (se_var 3) (sa_cons (se_dix (hu1 hr) (se_var 2) (se_var 3) (by intro _ _; rfl)) sa_nil))))) sa_nil))))))) hm G.kp hb
abbrev s_F__law_draws : Stmt := topS 7
theorem sc_F__law_draws : FnScope ["script", "many", "cells", "left", "draws", "k", "place", "mixed", "cell"] ["script", "many"] (defScope s_F__law_draws) := ⟨rfl, rfl, rfl, by decide +kernel, rfl, by decide +kernel, by decide +kernel⟩
theorem w_F__law_draws {fa : Addr} {fd : FuncData} (G : Fun K "_law_draws" "_law_draws" s_F__law_draws fa fd) (hm : mg (Str.ofString "_law_draws") = some (.ref fa)) (hb : Binds K fd ["script", "many"] []) (z : Z mg) : FT P w K mg base 1 "_law_draws" F__law_draws 2 :=
  ft_of (fn_core (lv := 0) G sc_F__law_draws rfl rfl fun cdv A outer s H E hr tk po => 
      (ss_cons (ss_setLc 2 (own := [("cell", 8)]) (tg := (.nm 8)) rfl sc_F__law_draws.nd (sw_true rfl rfl rfl (by decide +kernel)) (si_seq (se_var 0)) (by show blkC ["script", "many", "cells", "left", "draws", "k", "place", "mixed", "cell"] (defScope s_F__law_draws) _ _ = true; decide +kernel) (fun _ _ _ _ _ => (sg_nm 8 sc_F__law_draws.nd)) (fun _ _ _ _ _ => sts_nil) (fun _ _ _ _ _ => (se_intP (by rfl) z.int (sa_cons (se_var 8) sa_nil))))
      (ss_cons (ss_if (st_eq hr (se_len (by rfl) z.len (sa_cons (se_var 2) sa_nil)) se_int) (ss_one (ss_expr (se_bm PySem.F.plainAttrs_list PySem.F.slot_list_append PySem.F.type_list_append mt_append sim_append (.inl rfl) (se_var 2) (sa_cons se_int sa_nil)))) ss_nil)
      (ss_cons (ss_set 3 sc_F__law_draws.nd (se_list (by rfl) z.list (sa_cons (se_var 2) sa_nil)))
      (ss_cons (ss_set 4 sc_F__law_draws.nd (se_lst sa_nil))
      (ss_cons (ss_for (tg := (.nm 5)) po rfl (si_range1 (by rfl) z.range (sa_cons (se_var 1) sa_nil)) (sg_nm 5 sc_F__law_draws.nd) (ss_cons (ss_set 6 sc_F__law_draws.nd (se_mod (se_var 5) (se_len (by rfl) z.len (sa_cons (se_var 2) sa_nil))))
      (ss_one (ss_if (st_ge (se_ix (se_var 2) (se_var 6)) (se_pow se_int se_int)) (ss_cons (ss_expr (se_bm PySem.F.plainAttrs_list PySem.F.slot_list_append PySem.F.type_list_append mt_append sim_append (.inl rfl) (se_var 4) (sa_cons (se_mod (se_intP (by rfl) z.int (sa_cons (se_ix (se_var 3) (se_var 6)) sa_nil)) se_int) sa_nil)))
      (ss_one (ss_putL (se_var 3) (se_var 6) (se_fdiv (se_ix (se_var 3) (se_var 6)) se_int)))) (ss_cons (ss_set 7 sc_F__law_draws.nd (se_mod (se_intP (by rfl) z.int (sa_cons (se_add (se_add (se_mul (se_ix (se_var 2) (se_var 6)) se_int) (se_mul (se_var 5) se_int)) se_int) sa_nil)) se_int))
      (ss_one (ss_expr (se_bm PySem.F.plainAttrs_list PySem.F.slot_list_append PySem.F.type_list_append mt_append sim_append (.inl rfl) (se_var 4) (sa_cons (se_mod (se_intP (by rfl) z.int (sa_cons (se_add (se_add (se_mul (se_var 7) (se_var 7)) (se_mul se_int (se_var 7))) (se_var 5)) sa_nil)) se_int) sa_nil)))))))))
      (ss_cons (ss_expr (se_bm0 PySem.F.plainAttrs_list PySem.F.slot_list_reverse PySem.F.type_list_reverse mt_reverse sim_reverse (.inl rfl) (se_var 4)))
      (ss_one (ss_ret (se_var 4)))))))))) hm G.kp hb
abbrev s_F__law_take : Stmt := topS 8
theorem sc_F__law_take : FnScope ["draws", "many"] ["draws", "many"] (defScope s_F__law_take) := ⟨rfl, rfl, rfl, by decide +kernel, rfl, by decide +kernel, by decide +kernel⟩
theorem w_F__law_take {fa : Addr} {fd : FuncData} (G : Fun K "_law_take" "_law_take" s_F__law_take fa fd) (hm : mg (Str.ofString "_law_take") = some (.ref fa)) (hb : Binds K fd ["draws", "many"] []) (z : Z mg) : FT P w K mg base 1 "_law_take" F__law_take 2 :=
  ft_of (fn_core (lv := 0) G sc_F__law_take rfl rfl fun cdv A outer s H E hr tk po => 
      (ss_cons (ss_if (st_eq hr (se_len (by rfl) z.len (sa_cons (se_var 0) sa_nil)) se_int) (ss_one (ss_ret se_int)) ss_nil)
      (ss_one (ss_ret (se_mod (se_intP (by rfl) z.int (sa_cons (se_bm0 PySem.F.plainAttrs_list PySem.F.slot_list_pop PySem.F.type_list_pop mt_pop sim_pop (.inl rfl) (se_var 0)) sa_nil)) (se_var 1)))))) hm G.kp hb
abbrev s_F__law_pick : Stmt := topS 9
theorem sc_F__law_pick : FnScope ["draws", "row"] ["draws", "row"] (defScope s_F__law_pick) := ⟨rfl, rfl, rfl, by decide +kernel, rfl, by decide +kernel, by decide +kernel⟩
theorem w_F__law_pick {fa : Addr} {fd : FuncData} (G : Fun K "_law_pick" "_law_pick" s_F__law_pick fa fd) (hm : mg (Str.ofString "_law_pick") = some (.ref fa)) (hb : Binds K fd ["draws", "row"] []) (z : Z mg) (t__law_take : FT P w K mg base 1 "_law_take" F__law_take 2) : FT P w K mg base 2 "_law_pick" F__law_pick 2 :=
  ft_of (fn_core (lv := 1) G sc_F__law_pick rfl rfl fun cdv A outer s H E hr tk po => 
      (ss_one (ss_ret (se_ix (se_var 1) (se_call hr tk t__law_take (by decide) rfl (by rfl) (sa_cons (se_var 0) (sa_cons (se_len (by rfl) z.len (sa_cons (se_var 1) sa_nil)) sa_nil))))))) hm G.kp hb
abbrev s_F__law_same : Stmt := topS 10
theorem sc_F__law_same : FnScope ["actual", "due", "k"] ["actual", "due"] (defScope s_F__law_same) := ⟨rfl, rfl, rfl, by decide +kernel, rfl, by decide +kernel, by decide +kernel⟩
theorem w_F__law_same {fa : Addr} {fd : FuncData} (G : Fun K "_law_same" "_law_same" s_F__law_same fa fd) (hm : mg (Str.ofString "_law_same") = some (.ref fa)) (hb : Binds K fd ["actual", "due"] []) (z : Z mg) : ∀ n : Nat, FT P w K mg base (n + 0) "_law_same" (F__law_same n) 2
  | 0 => ft_of fn_stuck hm G.kp hb
  | n + 1 => by
    have t__law_same := w_F__law_same G hm hb z n
    have e : n + 1 + 0 = n + 0 + 1 := by omega
    rw [e]
    exact ft_of (fn_core (lv := n + 0) G sc_F__law_same rfl rfl fun cdv A outer s H E hr tk po => 
      (ss_cons (ss_if (st_val (se_is2 "tuple" "list" (by decide) (by decide) (by rfl) z.isinstance (by rfl) z.tuple (by decide +kernel) (by rfl) z.list (by decide +kernel) (se_var 1))) (ss_cons (ss_if (st_w (sw_or (st_ne hr (se_is "tuple" (by decide) (by rfl) z.isinstance (by rfl) z.tuple (by decide +kernel) (se_var 0)) (se_is "tuple" (by decide) (by rfl) z.isinstance (by rfl) z.tuple (by decide +kernel) (se_var 1))) (sw_or1 (st_ne hr (se_is "list" (by decide) (by rfl) z.isinstance (by rfl) z.list (by decide +kernel) (se_var 0)) (se_is "list" (by decide) (by rfl) z.isinstance (by rfl) z.list (by decide +kernel) (se_var 1)))))) (ss_one (ss_ret se_bl)) ss_nil)
      (ss_cons (ss_if (st_ne hr (se_len (by rfl) z.len (sa_cons (se_var 0) sa_nil)) (se_len (by rfl) z.len (sa_cons (se_var 1) sa_nil))) (ss_one (ss_ret se_bl)) ss_nil)
      (ss_one (ss_ret (se_notIn hr se_bl (se_lc (own := [("k", 2)]) (tg := (.nm 2)) rfl sc_F__law_same.nd (si_range1 (by rfl) z.range (sa_cons (se_len (by rfl) z.len (sa_cons (se_var 1) sa_nil)) sa_nil)) (by show blkC ["actual", "due", "k"] (defScope s_F__law_same) _ _ = true; decide +kernel) (fun _ _ _ _ _ => (sg_nm 2 sc_F__law_same.nd)) (fun _ _ _ _ _ => sts_nil) (fun _ _ _ _ _ => (se_call hr takes0 t__law_same (Nat.le_refl _) rfl (by rfl) (sa_cons (se_ix (se_var 0) (se_var 2)) (sa_cons (se_ix (se_var 1) (se_var 2)) sa_nil)))))))))) ss_nil)
      (ss_cons (ss_if (st_w (sw_or (st_ne hr (se_is "bool" (by decide) (by rfl) z.isinstance (by rfl) z.bool (by decide +kernel) (se_var 0)) (se_is "bool" (by decide) (by rfl) z.isinstance (by rfl) z.bool (by decide +kernel) (se_var 1))) (sw_or1 (st_ne hr (se_is "int" (by decide) (by rfl) z.isinstance (by rfl) z.int (by decide +kernel) (se_var 0)) (se_is "int" (by decide) (by rfl) z.isinstance (by rfl) z.int (by decide +kernel) (se_var 1)))))) (ss_one (ss_ret se_bl)) ss_nil)
      (ss_cons (ss_if (st_w (sw_or (st_ne hr (se_is "str" (by decide) (by rfl) z.isinstance (by rfl) z.str (by decide +kernel) (se_var 0)) (se_is "str" (by decide) (by rfl) z.isinstance (by rfl) z.str (by decide +kernel) (se_var 1))) (sw_or1 (st_ne hr (se_isN (se_var 0)) (se_isN (se_var 1)))))) (ss_one (ss_ret se_bl)) ss_nil)
      (ss_one (ss_ret (se_eq hr (se_var 0) (se_var 1)))))))) hm G.kp hb
abbrev s_F__law_words : Stmt := topS 11
theorem sc_F__law_words : FnScope ["draws", "many", "words", "k", "size", "word", "j", "other"] ["draws", "many"] (defScope s_F__law_words) := ⟨rfl, rfl, rfl, by decide +kernel, rfl, by decide +kernel, by decide +kernel⟩
theorem w_F__law_words {fa : Addr} {fd : FuncData} (G : Fun K "_law_words" "_law_words" s_F__law_words fa fd) (hm : mg (Str.ofString "_law_words") = some (.ref fa)) (hb : Binds K fd ["draws", "many"] []) (z : Z mg) (t__law_take : FT P w K mg base 1 "_law_take" F__law_take 2) : FT P w K mg base 2 "_law_words" F__law_words 2 :=
  ft_of (fn_core (lv := 1) G sc_F__law_words rfl rfl fun cdv A outer s H E hr tk po => 
      (ss_cons (ss_set 2 sc_F__law_words.nd (se_lst sa_nil))
      (ss_cons (ss_for (tg := (.nm 3)) po rfl (si_range1 (by rfl) z.range (sa_cons (se_var 1) sa_nil)) (sg_nm 3 sc_F__law_words.nd) (ss_cons (ss_set 4 sc_F__law_words.nd (se_add se_int (se_call hr tk t__law_take (by decide) rfl (by rfl) (sa_cons (se_var 0) (sa_cons se_int sa_nil)))))
      (ss_cons (ss_if (st_eq hr (se_call hr tk t__law_take (by decide) rfl (by rfl) (sa_cons (se_var 0) (sa_cons se_int sa_nil))) se_int) (ss_one (ss_set 4 sc_F__law_words.nd (se_add (se_add (se_var 4) se_int) (se_call hr tk t__law_take (by decide) rfl (by rfl) (sa_cons (se_var 0) (sa_cons se_int sa_nil)))))) ss_nil)
      (ss_cons (ss_set 5 sc_F__law_words.nd (se_join (se_str []) (se_lc (own := [("j", 6)]) (tg := (.nm 6)) rfl sc_F__law_words.nd (si_range1 (by rfl) z.range (sa_cons (se_var 4) sa_nil)) (by show blkC ["draws", "many", "words", "k", "size", "word", "j", "other"] (defScope s_F__law_words) _ _ = true; decide +kernel) (fun _ _ _ _ _ => (sg_nm 6 sc_F__law_words.nd)) (fun _ _ _ _ _ => sts_nil) (fun _ _ _ _ _ => (se_ix (se_str [97, 98, 99, 100, 101, 102, 103, 104, 105, 106, 107, 108, 109, 110, 111, 112, 113, 114, 115, 116, 117, 118, 119, 120, 121, 122]) (se_call hr takes0 t__law_take (by decide) rfl (by rfl) (sa_cons (se_var 0) (sa_cons se_int sa_nil))))))))
      (ss_cons (ss_if (st_in hr (se_var 5) (se_var 2)) (ss_one (ss_set 5 sc_F__law_words.nd (se_mul (se_str [122]) (se_add se_int (se_max rfl (by rfl) z.max (sa_cons (se_lc (own := [("other", 7)]) (tg := (.nm 7)) rfl sc_F__law_words.nd (si_seq (se_var 2)) (by show blkC ["draws", "many", "words", "k", "size", "word", "j", "other"] (defScope s_F__law_words) _ _ = true; decide +kernel) (fun _ _ _ _ _ => (sg_nm 7 sc_F__law_words.nd)) (fun _ _ _ _ _ => sts_nil) (fun _ _ _ _ _ => (se_len (by rfl) z.len (sa_cons (se_var 7) sa_nil)))) sa_nil)))))) ss_nil)
      (ss_one (ss_expr (se_bm PySem.F.plainAttrs_list PySem.F.slot_list_append PySem.F.type_list_append mt_append sim_append (.inl rfl) (se_var 2) (sa_cons (se_var 5) sa_nil)))))))))
      (ss_one (ss_ret (se_var 2)))))) hm G.kp hb
abbrev s_F__law_values : Stmt := topS 12
theorem sc_F__law_values : FnScope ["draws", "words", "number"] ["draws", "words"] (defScope s_F__law_values) := ⟨rfl, rfl, rfl, by decide +kernel, rfl, by decide +kernel, by decide +kernel⟩
theorem w_F__law_values {fa : Addr} {fd : FuncData} (G : Fun K "_law_values" "_law_values" s_F__law_values fa fd) (hm : mg (Str.ofString "_law_values") = some (.ref fa)) (hb : Binds K fd ["draws", "words"] []) (z : Z mg) (t__law_take : FT P w K mg base 1 "_law_take" F__law_take 2) (t__law_pick : FT P w K mg base 2 "_law_pick" F__law_pick 2) : FT P w K mg base 3 "_law_values" F__law_values 2 :=
  ft_of (fn_core (lv := 2) G sc_F__law_values rfl rfl fun cdv A outer s H E hr tk po => 
      (ss_cons (ss_set 2 sc_F__law_values.nd (se_sub (se_call hr tk t__law_take (by decide) rfl (by rfl) (sa_cons (se_var 0) (sa_cons se_int sa_nil))) se_int))
      (ss_cons (ss_if (st_eq hr (se_call hr tk t__law_take (by decide) rfl (by rfl) (sa_cons (se_var 0) (sa_cons se_int sa_nil))) se_int) (ss_one (ss_set 2 sc_F__law_values.nd (se_mul (se_var 2) (se_call hr tk t__law_pick (by decide) rfl (by rfl) (sa_cons (se_var 0) (sa_cons (se_lst (sa_cons se_int (sa_cons (se_add (se_pow se_int se_int) se_int) (sa_cons (se_add (se_pow se_int se_int) se_int) (sa_cons (se_add (se_pow se_int se_int) se_int) (sa_cons (se_add (se_pow se_int se_int) se_int) sa_nil)))))) sa_nil)))))) ss_nil)
      (ss_one (ss_ret (se_ix (se_lst (sa_cons (se_lst (sa_cons (se_var 2) (sa_cons (se_add (se_var 2) se_int) (sa_cons (se_call hr tk t__law_pick (by decide) rfl (by rfl) (sa_cons (se_var 0) (sa_cons (se_var 1) sa_nil))) sa_nil)))) (sa_cons (se_lst (sa_cons (se_ix (se_var 1) se_int) (sa_cons (se_var 2) (sa_cons (se_ix (se_var 1) se_int) sa_nil)))) sa_nil))) (se_call hr tk t__law_take (by decide) rfl (by rfl) (sa_cons (se_var 0) (sa_cons se_int sa_nil))))))))) hm G.kp hb
abbrev s_F__law_term : Stmt := topS 13
theorem sc_F__law_term : FnScope ["draws", "variables", "values"] ["draws", "variables", "values"] (defScope s_F__law_term) := ⟨rfl, rfl, rfl, by decide +kernel, rfl, by decide +kernel, by decide +kernel⟩
theorem w_F__law_term {fa : Addr} {fd : FuncData} (G : Fun K "_law_term" "_law_term" s_F__law_term fa fd) (hm : mg (Str.ofString "_law_term") = some (.ref fa)) (hb : Binds K fd ["draws", "variables", "values"] []) (z : Z mg) (t__law_take : FT P w K mg base 1 "_law_take" F__law_take 2) (t__law_pick : FT P w K mg base 2 "_law_pick" F__law_pick 2) : FT P w K mg base 3 "_law_term" F__law_term 3 :=
  ft_of (fn_core (lv := 2) G sc_F__law_term rfl rfl fun cdv A outer s H E hr tk po => 
      (ss_cons (ss_if (st_eq hr (se_call hr tk t__law_take (by decide) rfl (by rfl) (sa_cons (se_var 0) (sa_cons se_int sa_nil))) se_int) (ss_one (ss_ret (se_tup (sa_cons (se_str [118, 97, 108, 117, 101]) (sa_cons (se_call hr tk t__law_pick (by decide) rfl (by rfl) (sa_cons (se_var 0) (sa_cons (se_var 2) sa_nil))) sa_nil))))) ss_nil)
      (ss_one (ss_ret (se_tup (sa_cons (se_str [118, 97, 114]) (sa_cons (se_call hr tk t__law_pick (by decide) rfl (by rfl) (sa_cons (se_var 0) (sa_cons (se_var 1) sa_nil))) sa_nil))))))) hm G.kp hb
abbrev s_F__law_after : Stmt := topS 14
theorem sc_F__law_after : FnScope ["term", "mapping", "pair"] ["term", "mapping"] (defScope s_F__law_after) := ⟨rfl, rfl, rfl, by decide +kernel, rfl, by decide +kernel, by decide +kernel⟩
theorem w_F__law_after {fa : Addr} {fd : FuncData} (G : Fun K "_law_after" "_law_after" s_F__law_after fa fd) (hm : mg (Str.ofString "_law_after") = some (.ref fa)) (hb : Binds K fd ["term", "mapping"] []) (z : Z mg) : FT P w K mg base 1 "_law_after" F__law_after 2 :=
  ft_of (fn_core (lv := 0) G sc_F__law_after rfl rfl fun cdv A outer s H E hr tk po => 
      (ss_cons (ss_for (tg := (.nm 2)) po rfl (si_seq (se_var 1)) (sg_nm 2 sc_F__law_after.nd) (ss_one (ss_if (st_eq hr (se_var 0) (se_tup (sa_cons (se_str [118, 97, 114]) (sa_cons (se_ix (se_var 2) se_int) sa_nil)))) (ss_one (ss_ret (se_ix (se_var 2) se_int))) ss_nil)))
      (ss_one (ss_ret (se_var 0))))) hm G.kp hb
abbrev s_F__law_among : Stmt := topS 15
theorem sc_F__law_among : FnScope ["thing", "row", "other"] ["thing", "row"] (defScope s_F__law_among) := ⟨rfl, rfl, rfl, by decide +kernel, rfl, by decide +kernel, by decide +kernel⟩
theorem w_F__law_among {fa : Addr} {fd : FuncData} (G : Fun K "_law_among" "_law_among" s_F__law_among fa fd) (hm : mg (Str.ofString "_law_among") = some (.ref fa)) (hb : Binds K fd ["thing", "row"] []) (z : Z mg) (t__law_same : FT P w K mg base 8 "_law_same" (F__law_same 8) 2) : FT P w K mg base 9 "_law_among" F__law_among 2 :=
  ft_of (fn_core (lv := 8) G sc_F__law_among rfl rfl fun cdv A outer s H E hr tk po => 
      (ss_one (ss_ret (se_in hr se_bl (se_lc (own := [("other", 2)]) (tg := (.nm 2)) rfl sc_F__law_among.nd (si_seq (se_var 1)) (by show blkC ["thing", "row", "other"] (defScope s_F__law_among) _ _ = true; decide +kernel) (fun _ _ _ _ _ => (sg_nm 2 sc_F__law_among.nd)) (fun _ _ _ _ _ => sts_nil) (fun _ _ _ _ _ => (se_call hr takes0 t__law_same (by decide) rfl (by rfl) (sa_cons (se_var 0) (sa_cons (se_var 2) sa_nil))))))))) hm G.kp hb
abbrev s_F__law_is_term : Stmt := topS 16
theorem sc_F__law_is_term : FnScope ["term", "whole"] ["term"] (defScope s_F__law_is_term) := ⟨rfl, rfl, rfl, by decide +kernel, rfl, by decide +kernel, by decide +kernel⟩
theorem w_F__law_is_term {fa : Addr} {fd : FuncData} (G : Fun K "_law_is_term" "_law_is_term" s_F__law_is_term fa fd) (hm : mg (Str.ofString "_law_is_term") = some (.ref fa)) (hb : Binds K fd ["term"] []) (z : Z mg) (t__law_same : FT P w K mg base 8 "_law_same" (F__law_same 8) 2) : FT P w K mg base 9 "_law_is_term" F__law_is_term 1 :=
  ft_of (fn_core (lv := 8) G sc_F__law_is_term rfl rfl fun cdv A outer s H E hr tk po => 
      (ss_cons (ss_if (st_w (sw_or (st_not (st_val (se_is "tuple" (by decide) (by rfl) z.isinstance (by rfl) z.tuple (by decide +kernel) (se_var 0)))) (sw_or1 (st_ne hr (se_len (by rfl) z.len (sa_cons (se_var 0) sa_nil)) se_int)))) (ss_one (ss_ret se_bl)) ss_nil)
      (ss_cons (ss_if (st_val (se_call hr tk t__law_same (by decide) rfl (by rfl) (sa_cons (se_ix (se_var 0) se_int) (sa_cons (se_str [118, 97, 114]) sa_nil)))) (ss_one (ss_ret (se_is "str" (by decide) (by rfl) z.isinstance (by rfl) z.str (by decide +kernel) (se_ix (se_var 0) se_int)))) ss_nil)
      (ss_cons (ss_set 1 sc_F__law_is_term.nd (se_and (se_is "int" (by decide) (by rfl) z.isinstance (by rfl) z.int (by decide +kernel) (se_ix (se_var 0) se_int)) (se_one (se_not (se_is "bool" (by decide) (by rfl) z.isinstance (by rfl) z.bool (by decide +kernel) (se_ix (se_var 0) se_int))))))
      (ss_one (ss_ret (se_and (se_call hr tk t__law_same (by decide) rfl (by rfl) (sa_cons (se_ix (se_var 0) se_int) (sa_cons (se_str [118, 97, 108, 117, 101]) sa_nil))) (se_one (se_or (se_var 1) (se_one (se_is "str" (by decide) (by rfl) z.isinstance (by rfl) z.str (by decide +kernel) (se_ix (se_var 0) se_int)))))))))))) hm G.kp hb
abbrev s_F__law_classes : Stmt := topS 17
theorem sc_F__law_classes : FnScope ["terms", "others", "classes", "k", "grown", "rest", "known"] ["terms", "others"] (defScope s_F__law_classes) := ⟨rfl, rfl, rfl, by decide +kernel, rfl, by decide +kernel, by decide +kernel⟩
theorem w_F__law_classes {fa : Addr} {fd : FuncData} (G : Fun K "_law_classes" "_law_classes" s_F__law_classes fa fd) (hm : mg (Str.ofString "_law_classes") = some (.ref fa)) (hb : Binds K fd ["terms", "others"] []) (z : Z mg) : FT P w K mg base 1 "_law_classes" F__law_classes 2 :=
  ft_of (fn_core (lv := 0) G sc_F__law_classes rfl rfl fun cdv A outer s H E hr tk po => 
      (ss_cons (ss_set 2 sc_F__law_classes.nd (se_lst sa_nil))
      (ss_cons (ss_for (tg := (.nm 3)) po rfl (si_range1 (by rfl) z.range (sa_cons (se_len (by rfl) z.len (sa_cons (se_var 0) sa_nil)) sa_nil)) (sg_nm 3 sc_F__law_classes.nd) (ss_cons (ss_set 4 sc_F__law_classes.nd (se_lst (sa_cons (se_ix (se_var 0) (se_var 3)) (sa_cons (se_ix (se_var 1) (se_var 3)) sa_nil))))
      (ss_cons (ss_set 5 sc_F__law_classes.nd (se_lst sa_nil))
      (ss_cons (ss_for (tg := (.nm 6)) po rfl (si_seq (se_var 2)) (sg_nm 6 sc_F__law_classes.nd) (ss_one (ss_if (st_w (sw_or (st_in hr (se_ix (se_var 0) (se_var 3)) (se_var 6)) (sw_or1 (st_in hr (se_ix (se_var 1) (se_var 3)) (se_var 6))))) (ss_one (ss_set 4 sc_F__law_classes.nd (se_add (se_var 4) (se_var 6)))) (ss_one (ss_expr (se_bm PySem.F.plainAttrs_list PySem.F.slot_list_append PySem.F.type_list_append mt_append sim_append (.inl rfl) (se_var 5) (sa_cons (se_var 6) sa_nil)))))))
      (ss_one (ss_set 2 sc_F__law_classes.nd (se_add (se_var 5) (se_lst (sa_cons (se_var 4) sa_nil)))))))))
      (ss_one (ss_ret (se_var 2)))))) hm G.kp hb
abbrev s_F__law_class_of : Stmt := topS 18
theorem sc_F__law_class_of : FnScope ["classes", "term", "known"] ["classes", "term"] (defScope s_F__law_class_of) := ⟨rfl, rfl, rfl, by decide +kernel, rfl, by decide +kernel, by decide +kernel⟩
theorem w_F__law_class_of {fa : Addr} {fd : FuncData} (G : Fun K "_law_class_of" "_law_class_of" s_F__law_class_of fa fd) (hm : mg (Str.ofString "_law_class_of") = some (.ref fa)) (hb : Binds K fd ["classes", "term"] []) (z : Z mg) : FT P w K mg base 1 "_law_class_of" F__law_class_of 2 :=
  ft_of (fn_core (lv := 0) G sc_F__law_class_of rfl rfl fun cdv A outer s H E hr tk po => 
      (ss_cons (ss_for (tg := (.nm 2)) po rfl (si_seq (se_var 0)) (sg_nm 2 sc_F__law_class_of.nd) (ss_one (ss_if (st_in hr (se_var 1) (se_var 2)) (ss_one (ss_ret (se_var 2))) ss_nil)))
      (ss_one (ss_ret (se_lst (sa_cons (se_var 1) sa_nil)))))) hm G.kp hb
abbrev s_F__law_clashes : Stmt := topS 19
theorem sc_F__law_clashes : FnScope ["classes", "known", "term"] ["classes"] (defScope s_F__law_clashes) := ⟨rfl, rfl, rfl, by decide +kernel, rfl, by decide +kernel, by decide +kernel⟩
theorem w_F__law_clashes {fa : Addr} {fd : FuncData} (G : Fun K "_law_clashes" "_law_clashes" s_F__law_clashes fa fd) (hm : mg (Str.ofString "_law_clashes") = some (.ref fa)) (hb : Binds K fd ["classes"] []) (z : Z mg) : FT P w K mg base 1 "_law_clashes" F__law_clashes 1 :=
  ft_of (fn_core (lv := 0) G sc_F__law_clashes rfl rfl fun cdv A outer s H E hr tk po => 
      (ss_cons (ss_for (tg := (.nm 1)) po rfl (si_seq (se_var 0)) (sg_nm 1 sc_F__law_clashes.nd) (ss_one (ss_if (st_gt (se_lenSet hr (by rfl) z.len (by rfl) z.set (se_lc (own := [("term", 2)]) (tg := (.nm 2)) rfl sc_F__law_clashes.nd (si_seq (se_var 1)) (by show blkC ["classes", "known", "term"] (defScope s_F__law_clashes) _ _ = true; decide +kernel) (fun _ _ _ _ _ => (sg_nm 2 sc_F__law_clashes.nd)) (fun _ _ _ _ _ => (sts_one (st_eq hr (se_ix (se_var 2) se_int) (se_str [118, 97, 108, 117, 101])))) (fun _ _ _ _ _ => (se_var 2)))) se_int) (ss_one (ss_ret se_bl)) ss_nil)))
      (ss_one (ss_ret se_bl)))) hm G.kp hb
abbrev s_F__law_is_unifying : Stmt := topS 20
theorem sc_F__law_is_unifying : FnScope ["terms", "others", "told", "classes", "k", "bound", "left", "pair", "term"] ["terms", "others", "told"] (defScope s_F__law_is_unifying) := ⟨rfl, rfl, rfl, by decide +kernel, rfl, by decide +kernel, by decide +kernel⟩
theorem w_F__law_is_unifying {fa : Addr} {fd : FuncData} (G : Fun K "_law_is_unifying" "_law_is_unifying" s_F__law_is_unifying fa fd) (hm : mg (Str.ofString "_law_is_unifying") = some (.ref fa)) (hb : Binds K fd ["terms", "others", "told"] []) (z : Z mg) (t__law_classes : FT P w K mg base 1 "_law_classes" F__law_classes 2) (t__law_clashes : FT P w K mg base 1 "_law_clashes" F__law_clashes 1) (t__law_is_term : FT P w K mg base 9 "_law_is_term" F__law_is_term 1) (t__law_class_of : FT P w K mg base 1 "_law_class_of" F__law_class_of 2) (t__law_among : FT P w K mg base 9 "_law_among" F__law_among 2) (t__law_after : FT P w K mg base 1 "_law_after" F__law_after 2) (t__law_same : FT P w K mg base 8 "_law_same" (F__law_same 8) 2) : FT P w K mg base 10 "_law_is_unifying" F__law_is_unifying 3 :=
  ft_of (fn_core (lv := 9) G sc_F__law_is_unifying rfl rfl fun cdv A outer s H E hr tk po => 
      (ss_cons (ss_set 3 sc_F__law_is_unifying.nd (se_call hr tk t__law_classes (by decide) rfl (by rfl) (sa_cons (se_var 0) (sa_cons (se_var 1) sa_nil))))
      (ss_cons (ss_if (st_val (se_call hr tk t__law_clashes (by decide) rfl (by rfl) (sa_cons (se_var 3) sa_nil))) (ss_one (ss_ret (se_isN (se_var 2)))) ss_nil)
      (ss_cons (ss_if (st_not (st_val (se_is "tuple" (by decide) (by rfl) z.isinstance (by rfl) z.tuple (by decide +kernel) (se_var 2)))) (ss_one (ss_ret se_bl)) ss_nil)
      (ss_cons (ss_for (tg := (.nm 4)) po rfl (si_range1 (by rfl) z.range (sa_cons (se_len (by rfl) z.len (sa_cons (se_var 2) sa_nil)) sa_nil)) (sg_nm 4 sc_F__law_is_unifying.nd) (ss_cons (ss_if (st_w (sw_or (st_not (st_val (se_is "tuple" (by decide) (by rfl) z.isinstance (by rfl) z.tuple (by decide +kernel) (se_ix (se_var 2) (se_var 4))))) (sw_or (st_ne hr (se_len (by rfl) z.len (sa_cons (se_ix (se_var 2) (se_var 4)) sa_nil)) se_int) (sw_or1 (st_not (st_val (se_is "str" (by decide) (by rfl) z.isinstance (by rfl) z.str (by decide +kernel) (se_ix (se_ix (se_var 2) (se_var 4)) se_int)))))))) (ss_one (ss_ret se_bl)) ss_nil)
      (ss_one (ss_if (st_w (sw_or (st_not (st_val (se_call hr tk t__law_is_term (by decide) rfl (by rfl) (sa_cons (se_ix (se_ix (se_var 2) (se_var 4)) se_int) sa_nil)))) (sw_or1 (st_w (sw_and (st_gt (se_var 4) se_int) (sw_and1 (st_ge (se_ix (se_ix (se_var 2) (se_sub (se_var 4) se_int)) se_int) (se_ix (se_ix (se_var 2) (se_var 4)) se_int)))))))) (ss_one (ss_ret se_bl)) ss_nil))))
      (ss_cons (ss_setLc 5 (own := [("pair", 7)]) (tg := (.nm 7)) rfl sc_F__law_is_unifying.nd (sw_true rfl rfl rfl (by decide +kernel)) (si_seq (se_var 2)) (by show blkC ["terms", "others", "told", "classes", "k", "bound", "left", "pair", "term"] (defScope s_F__law_is_unifying) _ _ = true; decide +kernel) (fun _ _ _ _ _ => (sg_nm 7 sc_F__law_is_unifying.nd)) (fun _ _ _ _ _ => sts_nil) (fun _ _ _ _ _ => (se_tup (sa_cons (se_str [118, 97, 114]) (sa_cons (se_ix (se_var 7) se_int) sa_nil)))))
      (ss_cons (ss_for (tg := (.nm 4)) po rfl (si_range1 (by rfl) z.range (sa_cons (se_len (by rfl) z.len (sa_cons (se_var 2) sa_nil)) sa_nil)) (sg_nm 4 sc_F__law_is_unifying.nd) (ss_cons (ss_if (st_w (sw_or (st_notIn hr (se_ix (se_var 5) (se_var 4)) (se_add (se_list (by rfl) z.list (sa_cons (se_var 0) sa_nil)) (se_list (by rfl) z.list (sa_cons (se_var 1) sa_nil)))) (sw_or1 (st_in hr (se_ix (se_ix (se_var 2) (se_var 4)) se_int) (se_var 5))))) (ss_one (ss_ret se_bl)) ss_nil)
      (ss_one (ss_if (st_not (st_val (se_call hr tk t__law_among (by decide) rfl (by rfl) (sa_cons (se_ix (se_ix (se_var 2) (se_var 4)) se_int) (sa_cons (se_call hr tk t__law_class_of (by decide) rfl (by rfl) (sa_cons (se_var 3) (sa_cons (se_ix (se_var 5) (se_var 4)) sa_nil))) sa_nil))))) (ss_one (ss_ret se_bl)) ss_nil))))
      (ss_cons (ss_set 6 sc_F__law_is_unifying.nd (se_tuple (by rfl) z.tuple (sa_cons (se_lc (own := [("term", 8)]) (tg := (.nm 8)) rfl sc_F__law_is_unifying.nd (si_seq (se_var 0)) (by show blkC ["terms", "others", "told", "classes", "k", "bound", "left", "pair", "term"] (defScope s_F__law_is_unifying) _ _ = true; decide +kernel) (fun _ _ _ _ _ => (sg_nm 8 sc_F__law_is_unifying.nd)) (fun _ _ _ _ _ => sts_nil) (fun _ _ _ _ _ => (se_call hr takes0 t__law_after (by decide) rfl (by rfl) (sa_cons (se_var 8) (sa_cons (se_var 2) sa_nil))))) sa_nil)))
      (ss_one (ss_ret (se_call hr tk t__law_same (by decide) rfl (by rfl) (sa_cons (se_tuple (by rfl) z.tuple (sa_cons (se_lc (own := [("term", 8)]) (tg := (.nm 8)) rfl sc_F__law_is_unifying.nd (si_seq (se_var 1)) (by show blkC ["terms", "others", "told", "classes", "k", "bound", "left", "pair", "term"] (defScope s_F__law_is_unifying) _ _ = true; decide +kernel) (fun _ _ _ _ _ => (sg_nm 8 sc_F__law_is_unifying.nd)) (fun _ _ _ _ _ => sts_nil) (fun _ _ _ _ _ => (se_call hr takes0 t__law_after (by decide) rfl (by rfl) (sa_cons (se_var 8) (sa_cons (se_var 2) sa_nil))))) sa_nil)) (sa_cons (se_var 6) sa_nil))))))))))))) hm G.kp hb
abbrev s_F__law_terms : Stmt := topS 21
theorem sc_F__law_terms : FnScope ["draws", "many", "words", "values", "k"] ["draws", "many", "words", "values"] (defScope s_F__law_terms) := ⟨rfl, rfl, rfl, by decide +kernel, rfl, by decide +kernel, by decide +kernel⟩
theorem w_F__law_terms {fa : Addr} {fd : FuncData} (G : Fun K "_law_terms" "_law_terms" s_F__law_terms fa fd) (hm : mg (Str.ofString "_law_terms") = some (.ref fa)) (hb : Binds K fd ["draws", "many", "words", "values"] []) (z : Z mg) (t__law_term : FT P w K mg base 3 "_law_term" F__law_term 3) : FT P w K mg base 4 "_law_terms" F__law_terms 4 :=
  ft_of (fn_core (lv := 3) G sc_F__law_terms rfl rfl fun cdv A outer s H E hr tk po => 
      (ss_one (ss_ret (se_tuple (by rfl) z.tuple (sa_cons (se_lc (own := [("k", 4)]) (tg := (.nm 4)) rfl sc_F__law_terms.nd (si_range1 (by rfl) z.range (sa_cons (se_var 1) sa_nil)) (by show blkC ["draws", "many", "words", "values", "k"] (defScope s_F__law_terms) _ _ = true; decide +kernel) (fun _ _ _ _ _ => (sg_nm 4 sc_F__law_terms.nd)) (fun _ _ _ _ _ => sts_nil) (fun _ _ _ _ _ => (se_call hr takes0 t__law_term (by decide) rfl (by rfl) (sa_cons (se_var 0) (sa_cons (se_var 2) (sa_cons (se_var 3) sa_nil)))))) sa_nil))))) hm G.kp hb
abbrev s_F__law_behind : Stmt := topS 22
theorem sc_F__law_behind : FnScope ["draws", "terms", "words", "values", "mapping", "word", "term"] ["draws", "terms", "words", "values"] (defScope s_F__law_behind) := ⟨rfl, rfl, rfl, by decide +kernel, rfl, by decide +kernel, by decide +kernel⟩
theorem w_F__law_behind {fa : Addr} {fd : FuncData} (G : Fun K "_law_behind" "_law_behind" s_F__law_behind fa fd) (hm : mg (Str.ofString "_law_behind") = some (.ref fa)) (hb : Binds K fd ["draws", "terms", "words", "values"] []) (z : Z mg) (t__law_take : FT P w K mg base 1 "_law_take" F__law_take 2) (t__law_term : FT P w K mg base 3 "_law_term" F__law_term 3) (t__law_after : FT P w K mg base 1 "_law_after" F__law_after 2) : FT P w K mg base 4 "_law_behind" F__law_behind 4 :=
  ft_of (fn_core (lv := 3) G sc_F__law_behind rfl rfl fun cdv A outer s H E hr tk po => 
      (ss_cons (ss_set 4 sc_F__law_behind.nd (se_lst sa_nil))
      (ss_cons (ss_for (tg := (.nm 5)) po rfl (si_seq (se_var 2)) (sg_nm 5 sc_F__law_behind.nd) (ss_one (ss_if (st_eq hr (se_call hr tk t__law_take (by decide) rfl (by rfl) (sa_cons (se_var 0) (sa_cons se_int sa_nil))) se_int) (ss_one (ss_expr (se_bm PySem.F.plainAttrs_list PySem.F.slot_list_append PySem.F.type_list_append mt_append sim_append (.inl rfl) (se_var 4) (sa_cons (se_tup (sa_cons (se_var 5) (sa_cons (se_call hr tk t__law_term (by decide) rfl (by rfl) (sa_cons (se_var 0) (sa_cons (se_var 2) (sa_cons (se_var 3) sa_nil)))) sa_nil))) sa_nil)))) ss_nil)))
      (ss_one (ss_ret (se_tuple (by rfl) z.tuple (sa_cons (se_lc (own := [("term", 6)]) (tg := (.nm 6)) rfl sc_F__law_behind.nd (si_seq (se_var 1)) (by show blkC ["draws", "terms", "words", "values", "mapping", "word", "term"] (defScope s_F__law_behind) _ _ = true; decide +kernel) (fun _ _ _ _ _ => (sg_nm 6 sc_F__law_behind.nd)) (fun _ _ _ _ _ => sts_nil) (fun _ _ _ _ _ => (se_call hr takes0 t__law_after (by decide) rfl (by rfl) (sa_cons (se_var 6) (sa_cons (se_var 4) sa_nil))))) sa_nil))))))) hm G.kp hb
abbrev s_F__law_chain : Stmt := topS 23
theorem sc_F__law_chain : FnScope ["draws", "words", "first", "last", "pairs", "k", "pair"] ["draws", "words", "first", "last"] (defScope s_F__law_chain) := ⟨rfl, rfl, rfl, by decide +kernel, rfl, by decide +kernel, by decide +kernel⟩
theorem w_F__law_chain {fa : Addr} {fd : FuncData} (G : Fun K "_law_chain" "_law_chain" s_F__law_chain fa fd) (hm : mg (Str.ofString "_law_chain") = some (.ref fa)) (hb : Binds K fd ["draws", "words", "first", "last"] []) (z : Z mg) (t__law_take : FT P w K mg base 1 "_law_take" F__law_take 2) : FT P w K mg base 2 "_law_chain" F__law_chain 4 :=
  ft_of (fn_core (lv := 1) G sc_F__law_chain rfl rfl fun cdv A outer s H E hr tk po => 
      (ss_cons (ss_set 4 sc_F__law_chain.nd (se_lst (sa_cons (se_tup (sa_cons (se_tup (sa_cons (se_str [118, 97, 108, 117, 101]) (sa_cons (se_var 2) sa_nil))) (sa_cons (se_tup (sa_cons (se_str [118, 97, 114]) (sa_cons (se_ix (se_var 1) se_int) sa_nil))) sa_nil))) (sa_cons (se_tup (sa_cons (se_tup (sa_cons (se_str [118, 97, 114]) (sa_cons (se_ix (se_var 1) se_int) sa_nil))) (sa_cons (se_tup (sa_cons (se_str [118, 97, 108, 117, 101]) (sa_cons (se_var 3) sa_nil))) sa_nil))) sa_nil))))
      (ss_cons (ss_for (tg := (.nm 5)) po rfl (si_range1 (by rfl) z.range (sa_cons se_int sa_nil)) (sg_nm 5 sc_F__law_chain.nd) (ss_cons (ss_set 6 sc_F__law_chain.nd (se_tup (sa_cons (se_tup (sa_cons (se_str [118, 97, 114]) (sa_cons (se_ix (se_var 1) (se_var 5)) sa_nil))) (sa_cons (se_tup (sa_cons (se_str [118, 97, 114]) (sa_cons (se_ix (se_var 1) (se_add (se_var 5) se_int)) sa_nil))) sa_nil))))
      (ss_one (ss_expr (se_bm PySem.F.plainAttrs_list PySem.F.slot_list_insert PySem.F.type_list_insert mt_insert sim_insert (.inl rfl) (se_var 4) (sa_cons (se_call hr tk t__law_take (by decide) rfl (by rfl) (sa_cons (se_var 0) (sa_cons (se_add (se_len (by rfl) z.len (sa_cons (se_var 4) sa_nil)) se_int) sa_nil))) (sa_cons (se_ix (se_lst (sa_cons (se_var 6) (sa_cons (se_tup (sa_cons (se_ix (se_var 6) se_int) (sa_cons (se_ix (se_var 6) se_int) sa_nil))) sa_nil))) (se_call hr tk t__law_take (by decide) rfl (by rfl) (sa_cons (se_var 0) (sa_cons se_int sa_nil)))) sa_nil)))))))
      (ss_one (ss_ret (se_lst (sa_cons (se_tuple (by rfl) z.tuple (sa_cons (se_lc (own := [("pair", 6)]) (tg := (.nm 6)) rfl sc_F__law_chain.nd (si_seq (se_var 4)) (by show blkC ["draws", "words", "first", "last", "pairs", "k", "pair"] (defScope s_F__law_chain) _ _ = true; decide +kernel) (fun _ _ _ _ _ => (sg_nm 6 sc_F__law_chain.nd)) (fun _ _ _ _ _ => sts_nil) (fun _ _ _ _ _ => (se_ix (se_var 6) se_int))) sa_nil)) (sa_cons (se_tuple (by rfl) z.tuple (sa_cons (se_lc (own := [("pair", 6)]) (tg := (.nm 6)) rfl sc_F__law_chain.nd (si_seq (se_var 4)) (by show blkC ["draws", "words", "first", "last", "pairs", "k", "pair"] (defScope s_F__law_chain) _ _ = true; decide +kernel) (fun _ _ _ _ _ => (sg_nm 6 sc_F__law_chain.nd)) (fun _ _ _ _ _ => sts_nil) (fun _ _ _ _ _ => (se_ix (se_var 6) se_int))) sa_nil)) sa_nil)))))))) hm G.kp hb
abbrev s_F__law_put_is_right : Stmt := topS 24
theorem sc_F__law_put_is_right : FnScope ["draws", "words", "values", "mapping", "word", "asked", "term", "value"] ["draws", "words", "values"] (defScope s_F__law_put_is_right) := ⟨rfl, rfl, rfl, by decide +kernel, rfl, by decide +kernel, by decide +kernel⟩
theorem w_F__law_put_is_right {fa : Addr} {fd : FuncData} (G : Fun K "_law_put_is_right" "_law_put_is_right" s_F__law_put_is_right fa fd) (hm : mg (Str.ofString "_law_put_is_right") = some (.ref fa)) (hb : Binds K fd ["draws", "words", "values"] []) (z : Z mg) (t__law_take : FT P w K mg base 1 "_law_take" F__law_take 2) (t__law_term : FT P w K mg base 3 "_law_term" F__law_term 3) (t_put_terms : FT P w K mg base 1 "put_terms" F_put_terms 2) (t__law_after : FT P w K mg base 1 "_law_after" F__law_after 2) (t__law_same : FT P w K mg base 8 "_law_same" (F__law_same 8) 2) : FT P w K mg base 9 "_law_put_is_right" F__law_put_is_right 3 :=
  ft_of (fn_core (lv := 8) G sc_F__law_put_is_right rfl rfl fun cdv A outer s H E hr tk po => 
      (ss_cons (ss_set 3 sc_F__law_put_is_right.nd (se_lst sa_nil))
      (ss_cons (ss_for (tg := (.nm 4)) po rfl (si_seq (se_sortedS (by rfl) z.sorted (sa_cons (se_var 1) sa_nil))) (sg_nm 4 sc_F__law_put_is_right.nd) (ss_one (ss_if (st_w (sw_and (st_lt (se_len (by rfl) z.len (sa_cons (se_var 3) sa_nil)) se_int) (sw_and1 (st_eq hr (se_call hr tk t__law_take (by decide) rfl (by rfl) (sa_cons (se_var 0) (sa_cons se_int sa_nil))) se_int)))) (ss_one (ss_expr (se_bm PySem.F.plainAttrs_list PySem.F.slot_list_append PySem.F.type_list_append mt_append sim_append (.inl rfl) (se_var 3) (sa_cons (se_tup (sa_cons (se_var 4) (sa_cons (se_call hr tk t__law_term (by decide) rfl (by rfl) (sa_cons (se_var 0) (sa_cons (se_var 1) (sa_cons (se_var 2) sa_nil)))) sa_nil))) sa_nil)))) ss_nil)))
      (ss_cons (ss_set 5 sc_F__law_put_is_right.nd (se_add (se_lc (own := [("word", 4)]) (tg := (.nm 4)) rfl sc_F__law_put_is_right.nd (si_seq (se_var 1)) (by show blkC ["draws", "words", "values", "mapping", "word", "asked", "term", "value"] (defScope s_F__law_put_is_right) _ _ = true; decide +kernel) (fun _ _ _ _ _ => (sg_nm 4 sc_F__law_put_is_right.nd)) (fun _ _ _ _ _ => sts_nil) (fun _ _ _ _ _ => (se_tup (sa_cons (se_str [118, 97, 114]) (sa_cons (se_var 4) sa_nil))))) (se_lc (own := [("value", 7)]) (tg := (.nm 7)) rfl sc_F__law_put_is_right.nd (si_seq (se_add (se_list (by rfl) z.list (sa_cons (se_var 2) sa_nil)) (se_list (by rfl) z.list (sa_cons (se_var 1) sa_nil)))) (by show blkC ["draws", "words", "values", "mapping", "word", "asked", "term", "value"] (defScope s_F__law_put_is_right) _ _ = true; decide +kernel) (fun _ _ _ _ _ => (sg_nm 7 sc_F__law_put_is_right.nd)) (fun _ _ _ _ _ => sts_nil) (fun _ _ _ _ _ => (se_tup (sa_cons (se_str [118, 97, 108, 117, 101]) (sa_cons (se_var 7) sa_nil)))))))
      (ss_cons (ss_for (tg := (.nm 6)) po rfl (si_seq (se_add (se_var 5) (se_slice (se_var 5) so_none (so_some se_int)))) (sg_nm 6 sc_F__law_put_is_right.nd) (ss_one (ss_if (st_not (st_val (se_call hr tk t__law_same (by decide) rfl (by rfl) (sa_cons (se_call hr tk t_put_terms (by decide) rfl (by rfl) (sa_cons (se_var 6) (sa_cons (se_tuple (by rfl) z.tuple (sa_cons (se_var 3) sa_nil)) sa_nil))) (sa_cons (se_call hr tk t__law_after (by decide) rfl (by rfl) (sa_cons (se_var 6) (sa_cons (se_var 3) sa_nil))) sa_nil))))) (ss_one (ss_ret se_bl)) ss_nil)))
      (ss_one (ss_ret se_bl))))))) hm G.kp hb
abbrev s_F_law : Stmt := topS 25
theorem sc_F_law : FnScope ["script", "draws", "words", "values", "many", "used", "terms", "pairs", "pair"] ["script"] (defScope s_F_law) := ⟨rfl, rfl, rfl, by decide +kernel, rfl, by decide +kernel, by decide +kernel⟩
theorem w_F_law {fa : Addr} {fd : FuncData} (G : Fun K "law" "law" s_F_law fa fd) (z : Z mg) (t__law_draws : FT P w K mg base 1 "_law_draws" F__law_draws 2) (t__law_words : FT P w K mg base 2 "_law_words" F__law_words 2) (t__law_values : FT P w K mg base 3 "_law_values" F__law_values 2) (t__law_take : FT P w K mg base 1 "_law_take" F__law_take 2) (t__law_terms : FT P w K mg base 4 "_law_terms" F__law_terms 4) (t__law_behind : FT P w K mg base 4 "_law_behind" F__law_behind 4) (t__law_chain : FT P w K mg base 2 "_law_chain" F__law_chain 4) (t_unified : FT P w K mg base 3 "unified" F_unified 2) (t__law_is_unifying : FT P w K mg base 10 "_law_is_unifying" F__law_is_unifying 3) (t__law_put_is_right : FT P w K mg base 9 "_law_put_is_right" F__law_put_is_right 3) : FnOk P w K mg base (L2.CX P w) 11 fa fd ["script"] (spOf K mg F_law 1) :=
  fn_core (lv := 10) G sc_F_law rfl rfl fun cdv A outer s H E hr tk po => 
      (ss_cons (ss_set 1 sc_F_law.nd (se_call hr tk t__law_draws (by decide) rfl (by rfl) (sa_cons (se_var 0) (sa_cons se_int sa_nil))))
      (ss_cons (ss_set 2 sc_F_law.nd (se_call hr tk t__law_words (by decide) rfl (by rfl) (sa_cons (se_var 1) (sa_cons se_int sa_nil))))
      (ss_cons (ss_set 3 sc_F_law.nd (se_call hr tk t__law_values (by decide) rfl (by rfl) (sa_cons (se_var 1) (sa_cons (se_var 2) sa_nil))))
      (ss_cons (ss_set 4 sc_F_law.nd (se_ix (se_lst (sa_cons se_int (sa_cons se_int (sa_cons se_int (sa_cons se_int (sa_cons se_int (sa_cons se_int (sa_cons se_int (sa_cons se_int sa_nil))))))))) (se_call hr tk t__law_take (by decide) rfl (by rfl) (sa_cons (se_var 1) (sa_cons se_int sa_nil)))))
      (ss_cons (ss_set 5 sc_F_law.nd (se_slice (se_var 2) so_none (so_some (se_ix (se_lst (sa_cons se_int (sa_cons se_int (sa_cons se_int (sa_cons se_int sa_nil))))) (se_call hr tk t__law_take (by decide) rfl (by rfl) (sa_cons (se_var 1) (sa_cons se_int sa_nil)))))))
      (ss_cons (ss_set 6 sc_F_law.nd (se_call hr tk t__law_terms (by decide) rfl (by rfl) (sa_cons (se_var 1) (sa_cons (se_var 4) (sa_cons (se_var 5) (sa_cons (se_var 3) sa_nil))))))
      (ss_cons (ss_set 7 sc_F_law.nd (se_lst (sa_cons (se_lst (sa_cons (se_var 6) (sa_cons (se_call hr tk t__law_terms (by decide) rfl (by rfl) (sa_cons (se_var 1) (sa_cons (se_var 4) (sa_cons (se_var 5) (sa_cons (se_var 3) sa_nil))))) sa_nil))) (sa_cons (se_lst (sa_cons (se_var 6) (sa_cons (se_call hr tk t__law_behind (by decide) rfl (by rfl) (sa_cons (se_var 1) (sa_cons (se_var 6) (sa_cons (se_var 5) (sa_cons (se_var 3) sa_nil))))) sa_nil))) sa_nil))))
      (ss_cons (ss_expr (se_bm PySem.F.plainAttrs_list PySem.F.slot_list_append PySem.F.type_list_append mt_append sim_append (.inl rfl) (se_var 7) (sa_cons (se_call hr tk t__law_chain (by decide) rfl (by rfl) (sa_cons (se_var 1) (sa_cons (se_var 2) (sa_cons (se_ix (se_var 3) se_int) (sa_cons (se_ix (se_var 3) se_int) sa_nil))))) sa_nil)))
      (ss_cons (ss_expr (se_bm PySem.F.plainAttrs_list PySem.F.slot_list_append PySem.F.type_list_append mt_append sim_append (.inl rfl) (se_var 7) (sa_cons (se_call hr tk t__law_chain (by decide) rfl (by rfl) (sa_cons (se_var 1) (sa_cons (se_var 2) (sa_cons (se_ix (se_var 3) se_int) (sa_cons (se_ix (se_var 3) se_int) sa_nil))))) sa_nil)))
      (ss_cons (ss_for (tg := (.nm 8)) po rfl (si_seq (se_add (se_var 7) (se_slice (se_var 7) so_none (so_some se_int)))) (sg_nm 8 sc_F_law.nd) (ss_one (ss_if (st_not (st_val (se_call hr tk t__law_is_unifying (by decide) rfl (by rfl) (sa_cons (se_ix (se_var 8) se_int) (sa_cons (se_ix (se_var 8) se_int) (sa_cons (se_call hr tk t_unified (by decide) rfl (by rfl) (sa_cons (se_ix (se_var 8) se_int) (sa_cons (se_ix (se_var 8) se_int) sa_nil))) sa_nil)))))) (ss_one (ss_ret se_bl)) ss_nil)))
      (ss_one (ss_ret (se_call hr tk t__law_put_is_right (by decide) rfl (by rfl) (sa_cons (se_var 1) (sa_cons (se_var 2) (sa_cons (se_var 3) sa_nil))))))))))))))))
end
end LW

end

section
set_option linter.all false
set_option Elab.async false
set_option maxRecDepth 100000
set_option linter.all false
set_option Elab.async false
set_option maxRecDepth 100000
set_option maxHeartbeats 0
/-! what the top has written, and the end, printed by gen.py -/
namespace LW
open PySem PySem.Spec PyProof.Rows L2 Dl
theorem all_mk {l : PySem.W.OpenLaw} {w : World} {K : PySem.W.Frag} {h : Heap} {mg : Str → Option Value} {fa : Addr} {f0 f1 f2 f3 f4 f5 f6 f7 f8 f9 f10 f11 f12 f13 f14 f15 f16 f17 f18 f19 f20 f21 f22 f23 : Addr}
    {od0 an0 od1 an1 od2 an2 od3 an3 od4 an4 od5 an5 od6 an6 od7 an7 od8 an8 od9 an9 od10 an10 od11 an11 od12 an12 od13 an13 od14 an14 od15 an15 od16 an16 od17 an17 od18 an18 od19 an19 od20 an20 od21 an21 od22 an22 od23 an23 : Option Addr}
    {sl0 sl1 sl2 sl3 sl4 sl5 sl6 sl7 sl8 sl9 sl10 sl11 sl12 sl13 sl14 sl15 sl16 sl17 sl18 sl19 sl20 sl21 sl22 sl23 : Array (Option Value)}
    {oc0 kV0 dc0 pm0 cd0 ct0 oc1 kV1 dc1 pm1 cd1 ct1 oc2 kV2 dc2 pm2 cd2 ct2 oc3 kV3 dc3 pm3 cd3 ct3 oc4 kV4 dc4 pm4 cd4 ct4 oc5 kV5 dc5 pm5 cd5 ct5 oc6 kV6 dc6 pm6 cd6 ct6 oc7 kV7 dc7 pm7 cd7 ct7 oc8 kV8 dc8 pm8 cd8 ct8 oc9 kV9 dc9 pm9 cd9 ct9 oc10 kV10 dc10 pm10 cd10 ct10 oc11 kV11 dc11 pm11 cd11 ct11 oc12 kV12 dc12 pm12 cd12 ct12 oc13 kV13 dc13 pm13 cd13 ct13 oc14 kV14 dc14 pm14 cd14 ct14 oc15 kV15 dc15 pm15 cd15 ct15 oc16 kV16 dc16 pm16 cd16 ct16 oc17 kV17 dc17 pm17 cd17 ct17 oc18 kV18 dc18 pm18 cd18 ct18 oc19 kV19 dc19 pm19 cd19 ct19 oc20 kV20 dc20 pm20 cd20 ct20 oc21 kV21 dc21 pm21 cd21 ct21 oc22 kV22 dc22 pm22 cd22 ct22 oc23 kV23 dc23 pm23 cd23 ct23 : Value}
    (X : K.In h) (G : h.Ns mainGlobals mg) (hfa : mg "law" = some (.ref fa))
    (zzip : PySem.W.nsIn K mainGlobals "zip" = some none)
    (ztuple : PySem.W.nsIn K mainGlobals "tuple" = some none)
    (zsorted : PySem.W.nsIn K mainGlobals "sorted" = some none)
    (zint : PySem.W.nsIn K mainGlobals "int" = some none)
    (zlen : PySem.W.nsIn K mainGlobals "len" = some none)
    (zlist : PySem.W.nsIn K mainGlobals "list" = some none)
    (zrange : PySem.W.nsIn K mainGlobals "range" = some none)
    (zisinstance : PySem.W.nsIn K mainGlobals "isinstance" = some none)
    (zbool : PySem.W.nsIn K mainGlobals "bool" = some none)
    (zstr : PySem.W.nsIn K mainGlobals "str" = some none)
    (zmax : PySem.W.nsIn K mainGlobals "max" = some none)
    (zset : PySem.W.nsIn K mainGlobals "set" = some none)
    (a0 : PySem.W.nsIn K mainGlobals "put_terms" = some (some (.ref f0)))
    (l0 : K.lookup f0 = some ⟨oc0, od0, .func (PySem.W.fnOf "put_terms" "put_terms" (defArgs s_F_put_terms) (defBody s_F_put_terms) (defScope s_F_put_terms) .none kV0 dc0 pm0 an0 cd0 ct0), sl0⟩)
    (c0 : PySem.W.codeIn K cd0 "put_terms" = true)
    (k0 : PySem.W.keepIn K (.ref f0) = true)
    (a1 : PySem.W.nsIn K mainGlobals "resolved" = some (some (.ref f1)))
    (l1 : K.lookup f1 = some ⟨oc1, od1, .func (PySem.W.fnOf "resolved" "resolved" (defArgs s_F_resolved) (defBody s_F_resolved) (defScope s_F_resolved) .none kV1 dc1 pm1 an1 cd1 ct1), sl1⟩)
    (c1 : PySem.W.codeIn K cd1 "resolved" = true)
    (k1 : PySem.W.keepIn K (.ref f1) = true)
    (a2 : PySem.W.nsIn K mainGlobals "with_variable" = some (some (.ref f2)))
    (l2 : K.lookup f2 = some ⟨oc2, od2, .func (PySem.W.fnOf "with_variable" "with_variable" (defArgs s_F_with_variable) (defBody s_F_with_variable) (defScope s_F_with_variable) .none kV2 dc2 pm2 an2 cd2 ct2), sl2⟩)
    (c2 : PySem.W.codeIn K cd2 "with_variable" = true)
    (k2 : PySem.W.keepIn K (.ref f2) = true)
    (a3 : PySem.W.nsIn K mainGlobals "bound_terms" = some (some (.ref f3)))
    (l3 : K.lookup f3 = some ⟨oc3, od3, .func (PySem.W.fnOf "bound_terms" "bound_terms" (defArgs s_F_bound_terms) (defBody s_F_bound_terms) (defScope s_F_bound_terms) .none kV3 dc3 pm3 an3 cd3 ct3), sl3⟩)
    (c3 : PySem.W.codeIn K cd3 "bound_terms" = true)
    (k3 : PySem.W.keepIn K (.ref f3) = true)
    (a4 : PySem.W.nsIn K mainGlobals "unified" = some (some (.ref f4)))
    (l4 : K.lookup f4 = some ⟨oc4, od4, .func (PySem.W.fnOf "unified" "unified" (defArgs s_F_unified) (defBody s_F_unified) (defScope s_F_unified) .none kV4 dc4 pm4 an4 cd4 ct4), sl4⟩)
    (c4 : PySem.W.codeIn K cd4 "unified" = true)
    (k4 : PySem.W.keepIn K (.ref f4) = true)
    (a5 : PySem.W.nsIn K mainGlobals "_law_draws" = some (some (.ref f5)))
    (l5 : K.lookup f5 = some ⟨oc5, od5, .func (PySem.W.fnOf "_law_draws" "_law_draws" (defArgs s_F__law_draws) (defBody s_F__law_draws) (defScope s_F__law_draws) .none kV5 dc5 pm5 an5 cd5 ct5), sl5⟩)
    (c5 : PySem.W.codeIn K cd5 "_law_draws" = true)
    (k5 : PySem.W.keepIn K (.ref f5) = true)
    (a6 : PySem.W.nsIn K mainGlobals "_law_take" = some (some (.ref f6)))
    (l6 : K.lookup f6 = some ⟨oc6, od6, .func (PySem.W.fnOf "_law_take" "_law_take" (defArgs s_F__law_take) (defBody s_F__law_take) (defScope s_F__law_take) .none kV6 dc6 pm6 an6 cd6 ct6), sl6⟩)
    (c6 : PySem.W.codeIn K cd6 "_law_take" = true)
    (k6 : PySem.W.keepIn K (.ref f6) = true)
    (a7 : PySem.W.nsIn K mainGlobals "_law_pick" = some (some (.ref f7)))
    (l7 : K.lookup f7 = some ⟨oc7, od7, .func (PySem.W.fnOf "_law_pick" "_law_pick" (defArgs s_F__law_pick) (defBody s_F__law_pick) (defScope s_F__law_pick) .none kV7 dc7 pm7 an7 cd7 ct7), sl7⟩)
    (c7 : PySem.W.codeIn K cd7 "_law_pick" = true)
    (k7 : PySem.W.keepIn K (.ref f7) = true)
    (a8 : PySem.W.nsIn K mainGlobals "_law_same" = some (some (.ref f8)))
    (l8 : K.lookup f8 = some ⟨oc8, od8, .func (PySem.W.fnOf "_law_same" "_law_same" (defArgs s_F__law_same) (defBody s_F__law_same) (defScope s_F__law_same) .none kV8 dc8 pm8 an8 cd8 ct8), sl8⟩)
    (c8 : PySem.W.codeIn K cd8 "_law_same" = true)
    (k8 : PySem.W.keepIn K (.ref f8) = true)
    (a9 : PySem.W.nsIn K mainGlobals "_law_words" = some (some (.ref f9)))
    (l9 : K.lookup f9 = some ⟨oc9, od9, .func (PySem.W.fnOf "_law_words" "_law_words" (defArgs s_F__law_words) (defBody s_F__law_words) (defScope s_F__law_words) .none kV9 dc9 pm9 an9 cd9 ct9), sl9⟩)
    (c9 : PySem.W.codeIn K cd9 "_law_words" = true)
    (k9 : PySem.W.keepIn K (.ref f9) = true)
    (a10 : PySem.W.nsIn K mainGlobals "_law_values" = some (some (.ref f10)))
    (l10 : K.lookup f10 = some ⟨oc10, od10, .func (PySem.W.fnOf "_law_values" "_law_values" (defArgs s_F__law_values) (defBody s_F__law_values) (defScope s_F__law_values) .none kV10 dc10 pm10 an10 cd10 ct10), sl10⟩)
    (c10 : PySem.W.codeIn K cd10 "_law_values" = true)
    (k10 : PySem.W.keepIn K (.ref f10) = true)
    (a11 : PySem.W.nsIn K mainGlobals "_law_term" = some (some (.ref f11)))
    (l11 : K.lookup f11 = some ⟨oc11, od11, .func (PySem.W.fnOf "_law_term" "_law_term" (defArgs s_F__law_term) (defBody s_F__law_term) (defScope s_F__law_term) .none kV11 dc11 pm11 an11 cd11 ct11), sl11⟩)
    (c11 : PySem.W.codeIn K cd11 "_law_term" = true)
    (k11 : PySem.W.keepIn K (.ref f11) = true)
    (a12 : PySem.W.nsIn K mainGlobals "_law_after" = some (some (.ref f12)))
    (l12 : K.lookup f12 = some ⟨oc12, od12, .func (PySem.W.fnOf "_law_after" "_law_after" (defArgs s_F__law_after) (defBody s_F__law_after) (defScope s_F__law_after) .none kV12 dc12 pm12 an12 cd12 ct12), sl12⟩)
    (c12 : PySem.W.codeIn K cd12 "_law_after" = true)
    (k12 : PySem.W.keepIn K (.ref f12) = true)
    (a13 : PySem.W.nsIn K mainGlobals "_law_among" = some (some (.ref f13)))
    (l13 : K.lookup f13 = some ⟨oc13, od13, .func (PySem.W.fnOf "_law_among" "_law_among" (defArgs s_F__law_among) (defBody s_F__law_among) (defScope s_F__law_among) .none kV13 dc13 pm13 an13 cd13 ct13), sl13⟩)
    (c13 : PySem.W.codeIn K cd13 "_law_among" = true)
    (k13 : PySem.W.keepIn K (.ref f13) = true)
    (a14 : PySem.W.nsIn K mainGlobals "_law_is_term" = some (some (.ref f14)))
    (l14 : K.lookup f14 = some ⟨oc14, od14, .func (PySem.W.fnOf "_law_is_term" "_law_is_term" (defArgs s_F__law_is_term) (defBody s_F__law_is_term) (defScope s_F__law_is_term) .none kV14 dc14 pm14 an14 cd14 ct14), sl14⟩)
    (c14 : PySem.W.codeIn K cd14 "_law_is_term" = true)
    (k14 : PySem.W.keepIn K (.ref f14) = true)
    (a15 : PySem.W.nsIn K mainGlobals "_law_classes" = some (some (.ref f15)))
    (l15 : K.lookup f15 = some ⟨oc15, od15, .func (PySem.W.fnOf "_law_classes" "_law_classes" (defArgs s_F__law_classes) (defBody s_F__law_classes) (defScope s_F__law_classes) .none kV15 dc15 pm15 an15 cd15 ct15), sl15⟩)
    (c15 : PySem.W.codeIn K cd15 "_law_classes" = true)
    (k15 : PySem.W.keepIn K (.ref f15) = true)
    (a16 : PySem.W.nsIn K mainGlobals "_law_class_of" = some (some (.ref f16)))
    (l16 : K.lookup f16 = some ⟨oc16, od16, .func (PySem.W.fnOf "_law_class_of" "_law_class_of" (defArgs s_F__law_class_of) (defBody s_F__law_class_of) (defScope s_F__law_class_of) .none kV16 dc16 pm16 an16 cd16 ct16), sl16⟩)
    (c16 : PySem.W.codeIn K cd16 "_law_class_of" = true)
    (k16 : PySem.W.keepIn K (.ref f16) = true)
    (a17 : PySem.W.nsIn K mainGlobals "_law_clashes" = some (some (.ref f17)))
    (l17 : K.lookup f17 = some ⟨oc17, od17, .func (PySem.W.fnOf "_law_clashes" "_law_clashes" (defArgs s_F__law_clashes) (defBody s_F__law_clashes) (defScope s_F__law_clashes) .none kV17 dc17 pm17 an17 cd17 ct17), sl17⟩)
    (c17 : PySem.W.codeIn K cd17 "_law_clashes" = true)
    (k17 : PySem.W.keepIn K (.ref f17) = true)
    (a18 : PySem.W.nsIn K mainGlobals "_law_is_unifying" = some (some (.ref f18)))
    (l18 : K.lookup f18 = some ⟨oc18, od18, .func (PySem.W.fnOf "_law_is_unifying" "_law_is_unifying" (defArgs s_F__law_is_unifying) (defBody s_F__law_is_unifying) (defScope s_F__law_is_unifying) .none kV18 dc18 pm18 an18 cd18 ct18), sl18⟩)
    (c18 : PySem.W.codeIn K cd18 "_law_is_unifying" = true)
    (k18 : PySem.W.keepIn K (.ref f18) = true)
    (a19 : PySem.W.nsIn K mainGlobals "_law_terms" = some (some (.ref f19)))
    (l19 : K.lookup f19 = some ⟨oc19, od19, .func (PySem.W.fnOf "_law_terms" "_law_terms" (defArgs s_F__law_terms) (defBody s_F__law_terms) (defScope s_F__law_terms) .none kV19 dc19 pm19 an19 cd19 ct19), sl19⟩)
    (c19 : PySem.W.codeIn K cd19 "_law_terms" = true)
    (k19 : PySem.W.keepIn K (.ref f19) = true)
    (a20 : PySem.W.nsIn K mainGlobals "_law_behind" = some (some (.ref f20)))
    (l20 : K.lookup f20 = some ⟨oc20, od20, .func (PySem.W.fnOf "_law_behind" "_law_behind" (defArgs s_F__law_behind) (defBody s_F__law_behind) (defScope s_F__law_behind) .none kV20 dc20 pm20 an20 cd20 ct20), sl20⟩)
    (c20 : PySem.W.codeIn K cd20 "_law_behind" = true)
    (k20 : PySem.W.keepIn K (.ref f20) = true)
    (a21 : PySem.W.nsIn K mainGlobals "_law_chain" = some (some (.ref f21)))
    (l21 : K.lookup f21 = some ⟨oc21, od21, .func (PySem.W.fnOf "_law_chain" "_law_chain" (defArgs s_F__law_chain) (defBody s_F__law_chain) (defScope s_F__law_chain) .none kV21 dc21 pm21 an21 cd21 ct21), sl21⟩)
    (c21 : PySem.W.codeIn K cd21 "_law_chain" = true)
    (k21 : PySem.W.keepIn K (.ref f21) = true)
    (a22 : PySem.W.nsIn K mainGlobals "_law_put_is_right" = some (some (.ref f22)))
    (l22 : K.lookup f22 = some ⟨oc22, od22, .func (PySem.W.fnOf "_law_put_is_right" "_law_put_is_right" (defArgs s_F__law_put_is_right) (defBody s_F__law_put_is_right) (defScope s_F__law_put_is_right) .none kV22 dc22 pm22 an22 cd22 ct22), sl22⟩)
    (c22 : PySem.W.codeIn K cd22 "_law_put_is_right" = true)
    (k22 : PySem.W.keepIn K (.ref f22) = true)
    (a23 : PySem.W.nsIn K mainGlobals "law" = some (some (.ref f23)))
    (l23 : K.lookup f23 = some ⟨oc23, od23, .func (PySem.W.fnOf "law" "law" (defArgs s_F_law) (defBody s_F_law) (defScope s_F_law) .none kV23 dc23 pm23 an23 cd23 ct23), sl23⟩)
    (c23 : PySem.W.codeIn K cd23 "law" = true)
    (k23 : PySem.W.keepIn K (.ref f23) = true) :
    ∃ fd : FuncData, (∀ (s : Shared) (v : Value), BindsTo s fd ⟨[v], []⟩ [("script", v)]) ∧ ∀ base : Heap, K.In base → base.Ns mainGlobals mg → FnOk l.prog w K mg base (L2.CX l.prog w) 11 fa fd ["script"] (spLaw K) := by
  have e := hfa.symm.trans (PySem.W.mg_of X G a23)
  cases e
  have z : Z mg := ⟨PySem.W.mg_none_of X G zzip, PySem.W.mg_none_of X G ztuple, PySem.W.mg_none_of X G zsorted, PySem.W.mg_none_of X G zint, PySem.W.mg_none_of X G zlen, PySem.W.mg_none_of X G zlist, PySem.W.mg_none_of X G zrange, PySem.W.mg_none_of X G zisinstance, PySem.W.mg_none_of X G zbool, PySem.W.mg_none_of X G zstr, PySem.W.mg_none_of X G zmax, PySem.W.mg_none_of X G zset⟩
  refine ⟨PySem.W.fnOf "law" "law" (defArgs s_F_law) (defBody s_F_law) (defScope s_F_law) .none kV23 dc23 pm23 an23 cd23 ct23, fun s v => .of_eq rfl, fun base _ _ => ?_⟩
  have G0 := fun_mk (st := s_F_put_terms) l0 c0 k0
  have b0 := G0.binds (ps := ["term", "mapping"]) fun _ _ _ _ _ _ us hl => match us, hl with | [_, _], _ => rfl
  have t_put_terms := w_F_put_terms (P := l.prog) (w := w) (base := base) G0 (PySem.W.mg_of X G a0) b0 z
  have G1 := fun_mk (st := s_F_resolved) l1 c1 k1
  have b1 := G1.binds (ps := ["term", "bound"]) fun _ _ _ _ _ _ us hl => match us, hl with | [_, _], _ => rfl
  have t_resolved := w_F_resolved (P := l.prog) (w := w) (base := base) G1 (PySem.W.mg_of X G a1) b1 z
  have G2 := fun_mk (st := s_F_with_variable) l2 c2 k2
  have b2 := G2.binds (ps := ["bound", "variable", "term"]) fun _ _ _ _ _ _ us hl => match us, hl with | [_, _, _], _ => rfl
  have t_with_variable := w_F_with_variable (P := l.prog) (w := w) (base := base) G2 (PySem.W.mg_of X G a2) b2 z
  have G3 := fun_mk (st := s_F_bound_terms) l3 c3 k3
  have b3 := G3.binds (ps := ["terms", "others"]) fun _ _ _ _ _ _ us hl => match us, hl with | [_, _], _ => rfl
  have t_bound_terms := w_F_bound_terms (P := l.prog) (w := w) (base := base) G3 (PySem.W.mg_of X G a3) b3 z t_resolved t_with_variable
  have G4 := fun_mk (st := s_F_unified) l4 c4 k4
  have b4 := G4.binds (ps := ["terms", "others"]) fun _ _ _ _ _ _ us hl => match us, hl with | [_, _], _ => rfl
  have t_unified := w_F_unified (P := l.prog) (w := w) (base := base) G4 (PySem.W.mg_of X G a4) b4 z t_bound_terms
  have G5 := fun_mk (st := s_F__law_draws) l5 c5 k5
  have b5 := G5.binds (ps := ["script", "many"]) fun _ _ _ _ _ _ us hl => match us, hl with | [_, _], _ => rfl
  have t__law_draws := w_F__law_draws (P := l.prog) (w := w) (base := base) G5 (PySem.W.mg_of X G a5) b5 z
  have G6 := fun_mk (st := s_F__law_take) l6 c6 k6
  have b6 := G6.binds (ps := ["draws", "many"]) fun _ _ _ _ _ _ us hl => match us, hl with | [_, _], _ => rfl
  have t__law_take := w_F__law_take (P := l.prog) (w := w) (base := base) G6 (PySem.W.mg_of X G a6) b6 z
  have G7 := fun_mk (st := s_F__law_pick) l7 c7 k7
  have b7 := G7.binds (ps := ["draws", "row"]) fun _ _ _ _ _ _ us hl => match us, hl with | [_, _], _ => rfl
  have t__law_pick := w_F__law_pick (P := l.prog) (w := w) (base := base) G7 (PySem.W.mg_of X G a7) b7 z t__law_take
  have G8 := fun_mk (st := s_F__law_same) l8 c8 k8
  have b8 := G8.binds (ps := ["actual", "due"]) fun _ _ _ _ _ _ us hl => match us, hl with | [_, _], _ => rfl
  have t__law_same := w_F__law_same (P := l.prog) (w := w) (base := base) G8 (PySem.W.mg_of X G a8) b8 z 8
  have G9 := fun_mk (st := s_F__law_words) l9 c9 k9
  have b9 := G9.binds (ps := ["draws", "many"]) fun _ _ _ _ _ _ us hl => match us, hl with | [_, _], _ => rfl
  have t__law_words := w_F__law_words (P := l.prog) (w := w) (base := base) G9 (PySem.W.mg_of X G a9) b9 z t__law_take
  have G10 := fun_mk (st := s_F__law_values) l10 c10 k10
  have b10 := G10.binds (ps := ["draws", "words"]) fun _ _ _ _ _ _ us hl => match us, hl with | [_, _], _ => rfl
  have t__law_values := w_F__law_values (P := l.prog) (w := w) (base := base) G10 (PySem.W.mg_of X G a10) b10 z t__law_take t__law_pick
  have G11 := fun_mk (st := s_F__law_term) l11 c11 k11
  have b11 := G11.binds (ps := ["draws", "variables", "values"]) fun _ _ _ _ _ _ us hl => match us, hl with | [_, _, _], _ => rfl
  have t__law_term := w_F__law_term (P := l.prog) (w := w) (base := base) G11 (PySem.W.mg_of X G a11) b11 z t__law_take t__law_pick
  have G12 := fun_mk (st := s_F__law_after) l12 c12 k12
  have b12 := G12.binds (ps := ["term", "mapping"]) fun _ _ _ _ _ _ us hl => match us, hl with | [_, _], _ => rfl
  have t__law_after := w_F__law_after (P := l.prog) (w := w) (base := base) G12 (PySem.W.mg_of X G a12) b12 z
  have G13 := fun_mk (st := s_F__law_among) l13 c13 k13
  have b13 := G13.binds (ps := ["thing", "row"]) fun _ _ _ _ _ _ us hl => match us, hl with | [_, _], _ => rfl
  have t__law_among := w_F__law_among (P := l.prog) (w := w) (base := base) G13 (PySem.W.mg_of X G a13) b13 z t__law_same
  have G14 := fun_mk (st := s_F__law_is_term) l14 c14 k14
  have b14 := G14.binds (ps := ["term"]) fun _ _ _ _ _ _ us hl => match us, hl with | [_], _ => rfl
  have t__law_is_term := w_F__law_is_term (P := l.prog) (w := w) (base := base) G14 (PySem.W.mg_of X G a14) b14 z t__law_same
  have G15 := fun_mk (st := s_F__law_classes) l15 c15 k15
  have b15 := G15.binds (ps := ["terms", "others"]) fun _ _ _ _ _ _ us hl => match us, hl with | [_, _], _ => rfl
  have t__law_classes := w_F__law_classes (P := l.prog) (w := w) (base := base) G15 (PySem.W.mg_of X G a15) b15 z
  have G16 := fun_mk (st := s_F__law_class_of) l16 c16 k16
  have b16 := G16.binds (ps := ["classes", "term"]) fun _ _ _ _ _ _ us hl => match us, hl with | [_, _], _ => rfl
  have t__law_class_of := w_F__law_class_of (P := l.prog) (w := w) (base := base) G16 (PySem.W.mg_of X G a16) b16 z
  have G17 := fun_mk (st := s_F__law_clashes) l17 c17 k17
  have b17 := G17.binds (ps := ["classes"]) fun _ _ _ _ _ _ us hl => match us, hl with | [_], _ => rfl
  have t__law_clashes := w_F__law_clashes (P := l.prog) (w := w) (base := base) G17 (PySem.W.mg_of X G a17) b17 z
  have G18 := fun_mk (st := s_F__law_is_unifying) l18 c18 k18
  have b18 := G18.binds (ps := ["terms", "others", "told"]) fun _ _ _ _ _ _ us hl => match us, hl with | [_, _, _], _ => rfl
  have t__law_is_unifying := w_F__law_is_unifying (P := l.prog) (w := w) (base := base) G18 (PySem.W.mg_of X G a18) b18 z t__law_classes t__law_clashes t__law_is_term t__law_class_of t__law_among t__law_after t__law_same
  have G19 := fun_mk (st := s_F__law_terms) l19 c19 k19
  have b19 := G19.binds (ps := ["draws", "many", "words", "values"]) fun _ _ _ _ _ _ us hl => match us, hl with | [_, _, _, _], _ => rfl
  have t__law_terms := w_F__law_terms (P := l.prog) (w := w) (base := base) G19 (PySem.W.mg_of X G a19) b19 z t__law_term
  have G20 := fun_mk (st := s_F__law_behind) l20 c20 k20
  have b20 := G20.binds (ps := ["draws", "terms", "words", "values"]) fun _ _ _ _ _ _ us hl => match us, hl with | [_, _, _, _], _ => rfl
  have t__law_behind := w_F__law_behind (P := l.prog) (w := w) (base := base) G20 (PySem.W.mg_of X G a20) b20 z t__law_take t__law_term t__law_after
  have G21 := fun_mk (st := s_F__law_chain) l21 c21 k21
  have b21 := G21.binds (ps := ["draws", "words", "first", "last"]) fun _ _ _ _ _ _ us hl => match us, hl with | [_, _, _, _], _ => rfl
  have t__law_chain := w_F__law_chain (P := l.prog) (w := w) (base := base) G21 (PySem.W.mg_of X G a21) b21 z t__law_take
  have G22 := fun_mk (st := s_F__law_put_is_right) l22 c22 k22
  have b22 := G22.binds (ps := ["draws", "words", "values"]) fun _ _ _ _ _ _ us hl => match us, hl with | [_, _, _], _ => rfl
  have t__law_put_is_right := w_F__law_put_is_right (P := l.prog) (w := w) (base := base) G22 (PySem.W.mg_of X G a22) b22 z t__law_take t__law_term t_put_terms t__law_after t__law_same
  have G23 := fun_mk (st := s_F_law) l23 c23 k23
  have b23 := G23.binds (ps := ["script"]) fun _ _ _ _ _ _ us hl => match us, hl with | [_], _ => rfl
  exact law_imp (w_F_law (P := l.prog) (w := w) (base := base) G23 z t__law_draws t__law_words t__law_values t__law_take t__law_terms t__law_behind t__law_chain t_unified t__law_is_unifying t__law_put_is_right) LW.plain
end LW
open PySem PySem.W PyProof.Rows
theorem PySem.Challenge.cw_doubtbook_k75_unified_terms_holds : PySem.Challenge.rw_doubtbook_k75_unified_terms.Holds := by
  w_on; o_law; k_head; (case hw => w_witness2)
  k_fill
  refine L2.walk_of (l := PySem.Challenge.rw_doubtbook_k75_unified_terms) (n := 63) (k := 11) (x := "script") (CX := fun w => L2.CX PySem.Challenge.rw_doubtbook_k75_unified_terms.prog w) (sp := fun w => Dl.spLaw _) rfl (by decide) rfl ⟨rfl, by decide, by decide⟩ (fun w h Y => PySem.W.kIn_of Y) ?F (fun _ _ a ns hl hO hS => ⟨a, ns, rfl, hS, hO, hl, fun _ => rfl⟩) (fun _ _ _ _ _ h => Dl.cx_none h)
  case F =>
    intro w mg fa h KX G hmg
    refine' LW.all_mk KX G hmg ?zzip ?ztuple ?zsorted ?zint ?zlen ?zlist ?zrange ?zisinstance ?zbool ?zstr ?zmax ?zset ?a0 ?l0 ?c0 ?k0 ?a1 ?l1 ?c1 ?k1 ?a2 ?l2 ?c2 ?k2 ?a3 ?l3 ?c3 ?k3 ?a4 ?l4 ?c4 ?k4 ?a5 ?l5 ?c5 ?k5 ?a6 ?l6 ?c6 ?k6 ?a7 ?l7 ?c7 ?k7 ?a8 ?l8 ?c8 ?k8 ?a9 ?l9 ?c9 ?k9 ?a10 ?l10 ?c10 ?k10 ?a11 ?l11 ?c11 ?k11 ?a12 ?l12 ?c12 ?k12 ?a13 ?l13 ?c13 ?k13 ?a14 ?l14 ?c14 ?k14 ?a15 ?l15 ?c15 ?k15 ?a16 ?l16 ?c16 ?k16 ?a17 ?l17 ?c17 ?k17 ?a18 ?l18 ?c18 ?k18 ?a19 ?l19 ?c19 ?k19 ?a20 ?l20 ?c20 ?k20 ?a21 ?l21 ?c21 ?k21 ?a22 ?l22 ?c22 ?k22 ?a23 ?l23 ?c23 ?k23
    (case zzip => k_is)
    (case ztuple => k_is)
    (case zsorted => k_is)
    (case zint => k_is)
    (case zlen => k_is)
    (case zlist => k_is)
    (case zrange => k_is)
    (case zisinstance => k_is)
    (case zbool => k_is)
    (case zstr => k_is)
    (case zmax => k_is)
    (case zset => k_is)
    (case a0 => k_is)
    (case l0 => k_is)
    (case c0 => k_is)
    (case k0 => k_is)
    (case a1 => k_is)
    (case l1 => k_is)
    (case c1 => k_is)
    (case k1 => k_is)
    (case a2 => k_is)
    (case l2 => k_is)
    (case c2 => k_is)
    (case k2 => k_is)
    (case a3 => k_is)
    (case l3 => k_is)
    (case c3 => k_is)
    (case k3 => k_is)
    (case a4 => k_is)
    (case l4 => k_is)
    (case c4 => k_is)
    (case k4 => k_is)
    (case a5 => k_is)
    (case l5 => k_is)
    (case c5 => k_is)
    (case k5 => k_is)
    (case a6 => k_is)
    (case l6 => k_is)
    (case c6 => k_is)
    (case k6 => k_is)
    (case a7 => k_is)
    (case l7 => k_is)
    (case c7 => k_is)
    (case k7 => k_is)
    (case a8 => k_is)
    (case l8 => k_is)
    (case c8 => k_is)
    (case k8 => k_is)
    (case a9 => k_is)
    (case l9 => k_is)
    (case c9 => k_is)
    (case k9 => k_is)
    (case a10 => k_is)
    (case l10 => k_is)
    (case c10 => k_is)
    (case k10 => k_is)
    (case a11 => k_is)
    (case l11 => k_is)
    (case c11 => k_is)
    (case k11 => k_is)
    (case a12 => k_is)
    (case l12 => k_is)
    (case c12 => k_is)
    (case k12 => k_is)
    (case a13 => k_is)
    (case l13 => k_is)
    (case c13 => k_is)
    (case k13 => k_is)
    (case a14 => k_is)
    (case l14 => k_is)
    (case c14 => k_is)
    (case k14 => k_is)
    (case a15 => k_is)
    (case l15 => k_is)
    (case c15 => k_is)
    (case k15 => k_is)
    (case a16 => k_is)
    (case l16 => k_is)
    (case c16 => k_is)
    (case k16 => k_is)
    (case a17 => k_is)
    (case l17 => k_is)
    (case c17 => k_is)
    (case k17 => k_is)
    (case a18 => k_is)
    (case l18 => k_is)
    (case c18 => k_is)
    (case k18 => k_is)
    (case a19 => k_is)
    (case l19 => k_is)
    (case c19 => k_is)
    (case k19 => k_is)
    (case a20 => k_is)
    (case l20 => k_is)
    (case c20 => k_is)
    (case k20 => k_is)
    (case a21 => k_is)
    (case l21 => k_is)
    (case c21 => k_is)
    (case k21 => k_is)
    (case a22 => k_is)
    (case l22 => k_is)
    (case c22 => k_is)
    (case k22 => k_is)
    (case a23 => k_is)
    (case l23 => k_is)
    (case c23 => k_is)
    (case k23 => k_is)

end

