import PyProof.Rows.All
import Wide.All
import OpenK.AllK
import Wide.FinOn
import HandS.ForMost
import HandS.ForExc
import HandS.ExcValue
import HandS.ExcIs
import HandS.IsInst
import HandS.Zip
import HandS.RevRange
import HandS.SortInts
import HandS.Deep
import HandS.DeepEq
import HandS.Flow
import HandS.Style
import HandS.Conv
import HandS.Strs
import HandS.WideBits
import HandS.Defaults
import HandS.Head0
import HandS.Head1
import HandS.Head2
import HandS.HeadEnd
import HandS.HeadHook1
import HandS.HeadHook2
import PySem.Challenge.RW_cluemaker_k66_fillings_moved
import KE.KStateDown
section
set_option Elab.async false
set_option linter.all false
set_option maxRecDepth 100000
set_option maxHeartbeats 4000000
set_option autoImplicit false
/-! Dv1: deep data, owned data, and what stands for them in the abstract heap. -/
namespace Dv
open PySem PySem.Spec PyProof.Rows L2

/-- an exception that was caught, kept as a value -/
def ExV (cls : Value) (a : Addr) : HO := .ext fun h => ∃ (oe : Obj) (vs : Array Value), h.get? a = some oe ∧ Zc cls none oe ∧ oe.data = .fields vs
/-- deep data, no heap -/
inductive D where
  | non | bl (b : Bool) | int (i : Int) | str (x : Str)
  | lst (xs : List D) | tup (xs : List D)
  | ins (c : Str) (ns : List Str) (vs : List D)
  | exc (c : Str)
  | scr (ns : List Int)
instance : Inhabited D := ⟨.non⟩
/-- owned data: a list node ls belongs to its holder alone; sh: shared, never changed -/
inductive OD where
  | sh (d : D)
  | ls (xs : List OD)
  | tp (xs : List OD)
  | is (c : Str) (ns : List Str) (vs : List OD)
instance : Inhabited OD := ⟨.sh .non⟩

mutual
def OD.toD : OD → D
  | .sh d => d
  | .ls xs => .lst (OD.toDs xs)
  | .tp xs => .tup (OD.toDs xs)
  | .is c ns vs => .ins c ns (OD.toDs vs)
def OD.toDs : List OD → List D
  | [] => []
  | x :: xs => x.toD :: OD.toDs xs
end
theorem toDs_map : ∀ xs : List OD, OD.toDs xs = xs.map OD.toD
  | [] => rfl
  | x :: xs => by
    show x.toD :: OD.toDs xs = x.toD :: xs.map OD.toD
    rw [toDs_map xs]

section
variable (K : PySem.W.Frag) (cl : Str → Addr)
mutual
/-- v stands for the data in the heap G -/
inductive RD (G : Hp) : D → V → Prop
  | non : RD G .non .non
  | bl (b) : RD G (.bl b) (.bl b)
  | int (i) : RD G (.int i) (.int i)
  | str (x) : RD G (.str x) (.str x)
  | lst {p ds vs} : G p = some (.lst vs) → RDs G ds vs → RD G (.lst ds) (.ref p)
  | tup {p ds vs} : SqT K G p vs → RDs G ds vs → RD G (.tup ds) (.ref p)
  | ins {p c dx ns ds vs} : G p = some (.ins (cl c) dx (ns.zip vs)) → ns.length = vs.length → RDs G ds vs → RD G (.ins c ns ds) (.ref p)
  | exc {p c} : G p = some (ExV (.ref (cl c)) p) → RD G (.exc c) (.ref p)
  | scr {p ns} : SqL K G p (ns.map V.int) → RD G (.scr ns) (.ref p)
inductive RDs (G : Hp) : List D → List V → Prop
  | nil : RDs G [] []
  | cons {d v ds vs} : RD G d v → RDs G ds vs → RDs G (d :: ds) (v :: vs)
end
mutual
/-- f: how often an address is owned -/
inductive RO (B H : Hp) : OD → V → (Addr → Nat) → Prop
  | sh {d v f} : RD K cl B d v → (∀ a, f a = 0) → RO B H (.sh d) v f
  | ls {p xs vs f g} : H p = some (.lst vs) → ROs B H xs vs f → (∀ a, g a = (if a = p then 1 else 0) + f a) → RO B H (.ls xs) (.ref p) g
  | tp {p xs vs f g} : H p = some (.tup vs) → ROs B H xs vs f → (∀ a, g a = (if a = p then 1 else 0) + f a) → RO B H (.tp xs) (.ref p) g
  | is {p c dx ns xs vs f g} : H p = some (.ins (cl c) dx (ns.zip vs)) → ns.length = vs.length → ROs B H xs vs f → (∀ a, g a = (if a = p then 1 else 0) + f a) → RO B H (.is c ns xs) (.ref p) g
inductive ROs (B H : Hp) : List OD → List V → (Addr → Nat) → Prop
  | nil {f} : (∀ a, f a = 0) → ROs B H [] [] f
  | cons {x v xs vs f g k} : RO B H x v f → ROs B H xs vs g → (∀ a, k a = f a + g a) → ROs B H (x :: xs) (v :: vs) k
end
/-- the slots -/
abbrev Env := List (Option OD)
inductive RS (B H : Hp) : Dv.Env → L2.St → (Addr → Nat) → Prop
  | nil {f} : (∀ a, f a = 0) → RS B H [] [] f
  | non {ρ x σ f} : RS B H ρ σ f → RS B H (none :: ρ) (x :: σ) f
  | som {od v ρ σ f g k} : RO K cl B H od v f → RS B H ρ σ g → (∀ a, k a = f a + g a) → RS B H (some od :: ρ) (some v :: σ) k
end

section
variable {K : PySem.W.Frag} {cl : Str → Addr}
theorem sqT_same {G G' : Hp} {p : Addr} {vs : List V} (s : Same G G') (h : SqT K G p vs) : SqT K G' p vs := by
  rcases h with (h | ⟨o, h⟩) | h
  · exact .inl (.inl (s _ _ h))
  · exact .inl (.inr ⟨o, s _ _ h⟩)
  · exact .inr h
mutual
theorem RD.mono {G G' : Hp} (s : Same G G') : ∀ {d : D} {v : V}, RD K cl G d v → RD K cl G' d v
  | _, _, .non => .non
  | _, _, .bl b => .bl b
  | _, _, .int b => .int b
  | _, _, .str b => .str b
  | _, _, .lst h r => .lst (s _ _ h) (RDs.mono s r)
  | _, _, .tup h r => .tup (sqT_same s h) (RDs.mono s r)
  | _, _, .ins h l r => .ins (s _ _ h) l (RDs.mono s r)
  | _, _, .exc h => .exc (s _ _ h)
  | _, _, .scr h => .scr (s.seq h)
theorem RDs.mono {G G' : Hp} (s : Same G G') : ∀ {d : List D} {v : List V}, RDs K cl G d v → RDs K cl G' d v
  | _, _, .nil => .nil
  | _, _, .cons h r => .cons (RD.mono s h) (RDs.mono s r)
end
theorem RDs.length {G : Hp} : ∀ {d : List D} {v : List V}, RDs K cl G d v → d.length = v.length
  | _, _, .nil => rfl
  | _, _, .cons _ r => congrArg (· + 1) r.length
theorem ROs.length {B H : Hp} : ∀ {d : List OD} {v : List V} {f}, ROs K cl B H d v f → d.length = v.length
  | _, _, _, .nil _ => rfl
  | _, _, _, .cons _ r _ => congrArg (· + 1) r.length
theorem RS.length {B H : Hp} : ∀ {ρ : Dv.Env} {σ : L2.St} {f}, RS K cl B H ρ σ f → ρ.length = σ.length
  | _, _, _, .nil _ => rfl
  | _, _, _, .non r => congrArg (· + 1) r.length
  | _, _, _, .som _ r _ => congrArg (· + 1) r.length
mutual
theorem RO.mono {B H B' H' : Hp} (s : Same B B') : ∀ {od : OD} {v : V} {f : Addr → Nat}, RO K cl B H od v f → (∀ a, 0 < f a → H' a = H a) → RO K cl B' H' od v f
  | _, _, _, .sh r z, _ => .sh (r.mono s) z
  | _, _, _, @RO.ls _ _ _ _ p _ _ f g h r e, k => .ls ((k p (by rw [e]; simp; omega)).trans h) (ROs.mono s r fun a ha => k a (by rw [e]; omega)) e
  | _, _, _, @RO.tp _ _ _ _ p _ _ f g h r e, k => .tp ((k p (by rw [e]; simp; omega)).trans h) (ROs.mono s r fun a ha => k a (by rw [e]; omega)) e
  | _, _, _, @RO.is _ _ _ _ p _ _ _ _ _ f g h l r e, k => .is ((k p (by rw [e]; simp; omega)).trans h) l (ROs.mono s r fun a ha => k a (by rw [e]; omega)) e
theorem ROs.mono {B H B' H' : Hp} (s : Same B B') : ∀ {od : List OD} {v : List V} {f : Addr → Nat}, ROs K cl B H od v f → (∀ a, 0 < f a → H' a = H a) → ROs K cl B' H' od v f
  | _, _, _, .nil z, _ => .nil z
  | _, _, _, .cons h r e, k => .cons (RO.mono s h fun a ha => k a (by rw [e]; omega)) (ROs.mono s r fun a ha => k a (by rw [e]; omega)) e
end
theorem RS.mono {B H B' H' : Hp} (s : Same B B') : ∀ {ρ : Dv.Env} {σ : L2.St} {f : Addr → Nat}, RS K cl B H ρ σ f → (∀ a, 0 < f a → H' a = H a) → RS K cl B' H' ρ σ f
  | _, _, _, .nil z, _ => .nil z
  | _, _, _, .non r, k => .non (RS.mono s r k)
  | _, _, _, .som h r e, k => .som (RO.mono s h fun a ha => k a (by rw [e]; omega)) (RS.mono s r fun a ha => k a (by rw [e]; omega)) e
mutual
/-- what is owned is frozen -/
theorem RO.freeze {B H B' : Hp} (s : Same B B') : ∀ {od : OD} {v : V} {f : Addr → Nat}, RO K cl B H od v f → (∀ a, 0 < f a → B' a = H a) → RD K cl B' od.toD v
  | _, _, _, .sh r z, _ => r.mono s
  | _, _, _, @RO.ls _ _ _ _ p _ _ f g h r e, k => .lst ((k p (by rw [e]; simp; omega)).trans h) (ROs.freeze s r fun a ha => k a (by rw [e]; omega))
  | _, _, _, @RO.tp _ _ _ _ p _ _ f g h r e, k => .tup (SqT.of ((k p (by rw [e]; simp; omega)).trans h)) (ROs.freeze s r fun a ha => k a (by rw [e]; omega))
  | _, _, _, @RO.is _ _ _ _ p _ _ _ _ _ f g h l r e, k => .ins ((k p (by rw [e]; simp; omega)).trans h) l (ROs.freeze s r fun a ha => k a (by rw [e]; omega))
theorem ROs.freeze {B H B' : Hp} (s : Same B B') : ∀ {od : List OD} {v : List V} {f : Addr → Nat}, ROs K cl B H od v f → (∀ a, 0 < f a → B' a = H a) → RDs K cl B' (OD.toDs od) v
  | _, _, _, .nil z, _ => .nil
  | _, _, _, .cons h r e, k => .cons (RO.freeze s h fun a ha => k a (by rw [e]; omega)) (ROs.freeze s r fun a ha => k a (by rw [e]; omega))
end
mutual
theorem RO.there {B H : Hp} : ∀ {od : OD} {v : V} {f : Addr → Nat}, RO K cl B H od v f → ∀ a, 0 < f a → H a ≠ none
  | _, _, _, .sh r z, a, h => by rw [z] at h; omega
  | _, _, _, @RO.ls _ _ _ _ p _ _ f g h r e, a, k => by
    rw [e] at k
    by_cases q : a = p
    · rw [q, h]; intro z; cases z
    · rw [if_neg q] at k; exact ROs.there r a (by omega)
  | _, _, _, @RO.tp _ _ _ _ p _ _ f g h r e, a, k => by
    rw [e] at k
    by_cases q : a = p
    · rw [q, h]; intro z; cases z
    · rw [if_neg q] at k; exact ROs.there r a (by omega)
  | _, _, _, @RO.is _ _ _ _ p _ _ _ _ _ f g h l r e, a, k => by
    rw [e] at k
    by_cases q : a = p
    · rw [q, h]; intro z; cases z
    · rw [if_neg q] at k; exact ROs.there r a (by omega)
theorem ROs.there {B H : Hp} : ∀ {od : List OD} {v : List V} {f : Addr → Nat}, ROs K cl B H od v f → ∀ a, 0 < f a → H a ≠ none
  | _, _, _, .nil z, a, h => by rw [z] at h; omega
  | _, _, _, @ROs.cons _ _ _ _ _ _ _ _ f g _ h r e, a, k => by
    rw [e] at k
    by_cases q : 0 < f a
    · exact RO.there h a q
    · exact ROs.there r a (by omega)
end
theorem RS.there {B H : Hp} : ∀ {ρ : Dv.Env} {σ : L2.St} {f : Addr → Nat}, RS K cl B H ρ σ f → ∀ a, 0 < f a → H a ≠ none
  | _, _, _, .nil z, a, h => by rw [z] at h; omega
  | _, _, _, .non r, a, h => RS.there r a h
  | _, _, _, @RS.som _ _ _ _ _ _ _ _ f g _ h r e, a, k => by
    rw [e] at k
    by_cases q : 0 < f a
    · exact RO.there h a q
    · exact RS.there r a (by omega)

/-- a slot read: its part, the rest -/
theorem RS.get {B H : Hp} : ∀ {ρ : Dv.Env} {σ : L2.St} {f : Addr → Nat} {i : Nat} {od : OD}, RS K cl B H ρ σ f → ρ[i]? = some (some od) →
    ∃ v g k, σ[i]? = some (some v) ∧ RO K cl B H od v g ∧ RS K cl B H (ρ.set i none) σ k ∧ ∀ a, f a = g a + k a
  | _, _, _, i, od, .nil _, e => by simp at e
  | _, _, _, 0, od, .non r, e => by simp at e
  | _, _, _, i + 1, od, .non r, e => by
    obtain ⟨v, g, k, h1, h2, h3, h4⟩ := RS.get (i := i) r (by simpa using e)
    exact ⟨v, g, k, by simpa using h1, h2, .non h3, h4⟩
  | _, _, _, 0, od, .som h r z, e => by
    simp at e; subst e
    exact ⟨_, _, _, rfl, h, .non r, z⟩
  | _, _, _, i + 1, od, @RS.som _ _ _ _ _ _ _ _ f g k h r z, e => by
    obtain ⟨v, g', k', h1, h2, h3, h4⟩ := RS.get (i := i) r (by simpa using e)
    refine ⟨v, g', fun a => f a + k' a, by simpa using h1, h2, .som h h3 fun _ => rfl, fun a => ?_⟩
    rw [z, h4]; dsimp only; omega
/-- a slot written -/
theorem RS.put {B H : Hp} {od : OD} {v : V} {f : Addr → Nat} (ho : RO K cl B H od v f) : ∀ {ρ : Dv.Env} {σ : L2.St} {g : Addr → Nat} {i : Nat}, RS K cl B H ρ σ g → i < ρ.length →
    ∃ k, RS K cl B H (ρ.set i (some od)) (σ.set i (some v)) k ∧ ∀ a, k a ≤ f a + g a
  | _, _, _, i, .nil _, e => by simp at e
  | _, _, g, 0, .non r, e => ⟨fun a => f a + g a, .som ho r fun _ => rfl, fun a => Nat.le_refl _⟩
  | _, _, _, 0, @RS.som _ _ _ _ _ _ _ _ f1 g1 k1 h r z, e => ⟨fun a => f a + g1 a, .som ho r fun _ => rfl, fun a => by dsimp only; rw [z]; omega⟩
  | _, _, _, i + 1, .non r, e => by
    obtain ⟨k, h1, h2⟩ := RS.put ho (i := i) r (by simpa using e)
    exact ⟨k, .non h1, h2⟩
  | _, _, _, i + 1, @RS.som _ _ _ _ _ _ _ _ f1 g1 k1 h r z, e => by
    obtain ⟨k, h1, h2⟩ := RS.put ho (i := i) r (by simpa using e)
    exact ⟨fun a => f1 a + k a, .som h h1 fun _ => rfl, fun a => by have := h2 a; dsimp only; rw [z]; omega⟩
/-- a slot forgotten -/
theorem RS.drop {B H : Hp} : ∀ {ρ : Dv.Env} {σ : L2.St} {g : Addr → Nat} (i : Nat), RS K cl B H ρ σ g →
    ∃ k, RS K cl B H (ρ.set i none) σ k ∧ ∀ a, k a ≤ g a
  | _, _, _, i, .nil z => ⟨_, .nil z, fun _ => Nat.le_refl _⟩
  | _, _, g, 0, .non r => ⟨_, .non r, fun a => Nat.le_refl _⟩
  | _, _, _, 0, @RS.som _ _ _ _ _ _ _ _ f1 g1 k1 h r z => ⟨_, .non r, fun a => by rw [z]; omega⟩
  | _, _, _, i + 1, .non r => by
    obtain ⟨k, h1, h2⟩ := RS.drop i r
    exact ⟨k, .non h1, h2⟩
  | _, _, _, i + 1, @RS.som _ _ _ _ _ _ _ _ f1 g1 k1 h r z => by
    obtain ⟨k, h1, h2⟩ := RS.drop i r
    exact ⟨fun a => f1 a + k a, .som h h1 fun _ => rfl, fun a => by have := h2 a; dsimp only; rw [z]; omega⟩
/-- the value of a slot that holds nothing may be anything -/
theorem RS.putNone {B H : Hp} {x : Option V} : ∀ {ρ : Dv.Env} {σ : L2.St} {g : Addr → Nat} {i : Nat}, RS K cl B H ρ σ g →
    ∃ k, RS K cl B H (ρ.set i none) (σ.set i x) k ∧ ∀ a, k a ≤ g a
  | _, _, _, i, .nil z => ⟨_, .nil z, fun _ => Nat.le_refl _⟩
  | _, _, g, 0, .non r => ⟨_, .non r, fun a => Nat.le_refl _⟩
  | _, _, _, 0, @RS.som _ _ _ _ _ _ _ _ f1 g1 k1 h r z => ⟨_, .non r, fun a => by rw [z]; omega⟩
  | _, _, _, i + 1, .non r => by
    obtain ⟨k, h1, h2⟩ := RS.putNone (i := i) r
    exact ⟨k, .non h1, h2⟩
  | _, _, _, i + 1, @RS.som _ _ _ _ _ _ _ _ f1 g1 k1 h r z => by
    obtain ⟨k, h1, h2⟩ := RS.putNone (i := i) r
    exact ⟨fun a => f1 a + k a, .som h h1 fun _ => rfl, fun a => by have := h2 a; dsimp only; rw [z]; omega⟩
end
end Dv
end

section
set_option Elab.async false
set_option linter.all false
set_option maxRecDepth 100000
set_option maxHeartbeats 4000000
set_option autoImplicit false
/-! Dv2: what is computed (Rs, M), operands, the relation of the state, the judgements. -/
namespace Dv
open PySem PySem.Spec PyProof.Rows L2

/-- an outcome, with the slots behind it -/
inductive Rs (α : Type) where
  | ok (a : α) (ρ : Dv.Env)
  | exc (c : Str) (ρ : Dv.Env)
  | stuck
abbrev M (α : Type) := Dv.Env → Rs α
def M.bind {α β : Type} (m : M α) (f : α → M β) : M β := fun ρ => match m ρ with
  | .ok a ρ' => f a ρ'
  | .exc c ρ' => .exc c ρ'
  | .stuck => .stuck
def M.pure {α : Type} (a : α) : M α := fun ρ => .ok a ρ
instance : Monad M := { pure := M.pure, bind := M.bind }
def stop {α : Type} : M α := fun _ => .stuck
/-- an operand: a value, or a place of a slot that is looked at when it is used -/
inductive Op where
  | v (od : OD)
  | late (i : Nat) (path : List Nat)
def OD.at? : OD → List Nat → Option OD
  | od, [] => some od
  | .ls xs, k :: ks => (xs[k]?).bind fun x => x.at? ks
  | .tp xs, k :: ks => (xs[k]?).bind fun x => x.at? ks
  | _, _ => none
def Op.at? (ρ : Dv.Env) : Op → Option OD
  | .v od => some od
  | .late i path => ((ρ[i]?).bind id).bind fun od => od.at? path
/-- a place within shared data, through lists -/
def D.atL : D → List Nat → Option D
  | d, [] => some d
  | .lst xs, k :: ks => (xs[k]?).bind fun x => x.atL ks
  | _, _ => none
/-- the data that an operand shows -/
def Op.view (ρ : Dv.Env) (op : Op) : Option D := match op.at? ρ with
  | some od => some od.toD
  | none => match op with
    | .late i path => (match (ρ[i]?).bind id with
      | some (.sh d) => d.atL path
      | _ => none)
    | _ => none
abbrev sh (d : D) : Op := .v (.sh d)

/-- an owned slot becomes shared -/
def thaw (ρ : Dv.Env) (i : Nat) : Dv.Env := match (ρ[i]?).bind id with
  | some od => ρ.set i (some (.sh od.toD))
  | none => ρ
def D.at? : D → List Nat → Option D
  | d, [] => some d
  | .lst xs, k :: ks => (xs[k]?).bind fun x => x.at? ks
  | .tup xs, k :: ks => (xs[k]?).bind fun x => x.at? ks
  | _, _ => none

section
variable (K : PySem.W.Frag) (cl : Str → Addr)
inductive Pth (H : Hp) : V → List Nat → V → Prop
  | nil {v} : Pth H v [] v
  | lst {p vs k ks w v} : H p = some (.lst vs) → vs[k]? = some w → Pth H w ks v → Pth H (.ref p) (k :: ks) v
  | tup {p vs k ks w v} : H p = some (.tup vs) → vs[k]? = some w → Pth H w ks v → Pth H (.ref p) (k :: ks) v
/-- pending operands and their values -/
inductive RP (B H : Hp) (σ : L2.St) : List (Op × V) → (Addr → Nat) → Prop
  | nil {f} : (∀ a, f a = 0) → RP B H σ [] f
  | v {od v l f g k} : RO K cl B H od v f → RP B H σ l g → (∀ a, k a = f a + g a) → RP B H σ ((.v od, v) :: l) k
  | late {i path v0 v l f} : σ[i]? = some (some v0) → Pth H v0 path v → RP B H σ l f → RP B H σ ((.late i path, v) :: l) f
/-- the state: what was at the def's entry (B0: what the arguments lean on, Fr: all), the pending, the slots, the shared heap B within H -/
structure Rel (B0 Fr : Hp) (pd : List (Op × V)) (ρ : Dv.Env) (σ : L2.St) (B H : Hp) : Prop where
  s0 : Same B0 B
  sB : Same B H
  sF : Same Fr H
  nw : ∀ a, B a ≠ none → B0 a = none → Fr a = none
  ow : ∃ f g, RP K cl B H σ pd f ∧ RS K cl B H ρ σ g ∧ (∀ a, f a + g a ≤ 1) ∧ ∀ a, 0 < f a + g a → Fr a = none ∧ B a = none
/-- the heap grows by shared things, and others -/
structure Ext (B H B' H' : Hp) : Prop where
  b : Same B B'
  i : Same B' H'
  h : Same H H'
  n : ∀ a, B' a ≠ none → B a = none → H a = none
end

section
variable {K : PySem.W.Frag} {cl : Str → Addr}
theorem Pth.mono {H H' : Hp} (s : Same H H') {v0 v : V} {path : List Nat} (h : Pth H v0 path v) : Pth H' v0 path v := by
  induction h with
  | nil => exact .nil
  | lst h1 h2 _ ih => exact .lst (s _ _ h1) h2 ih
  | tup h1 h2 _ ih => exact .tup (s _ _ h1) h2 ih
theorem RP.mono {B H B' H' : Hp} {σ : L2.St} (s : Same B B') (s2 : Same H H') : ∀ {l : List (Op × V)} {f : Addr → Nat}, RP K cl B H σ l f → (∀ a, 0 < f a → H' a = H a) → RP K cl B' H' σ l f
  | _, _, .nil z, _ => .nil z
  | _, _, .v h r e, k => .v (h.mono s fun a ha => k a (by rw [e]; omega)) (RP.mono s s2 r fun a ha => k a (by rw [e]; omega)) e
  | _, _, .late h p r, k => .late h (p.mono s2) (RP.mono s s2 r k)
theorem RP.there {B H : Hp} {σ : L2.St} : ∀ {l : List (Op × V)} {f : Addr → Nat}, RP K cl B H σ l f → ∀ a, 0 < f a → H a ≠ none
  | _, _, .nil z, a, k => by rw [z] at k; omega
  | _, _, @RP.v _ _ _ _ _ _ _ _ f g _ h r e, a, k => by
    rw [e] at k
    by_cases q : 0 < f a
    · exact h.there a q
    · exact RP.there r a (by omega)
  | _, _, .late h p r, a, k => RP.there r a k
/-- the order of the pending means nothing -/
theorem RP.perm {B H : Hp} {σ : L2.St} {l l' : List (Op × V)} (h : l.Perm l') : ∀ {f : Addr → Nat}, RP K cl B H σ l f → ∃ g, RP K cl B H σ l' g ∧ ∀ a, g a = f a := by
  induction h with
  | nil => exact fun r => ⟨_, r, fun _ => rfl⟩
  | cons x _ ih =>
    intro f r
    cases r with
    | v h r e =>
      obtain ⟨g, r', e'⟩ := ih r
      exact ⟨_, .v h r' (fun _ => rfl), fun a => by rw [e, e']⟩
    | late h p r =>
      obtain ⟨g, r', e'⟩ := ih r
      exact ⟨_, .late h p r', e'⟩
  | swap x y l =>
    intro f r
    cases r with
    | v h r e =>
      cases r with
      | v h2 r e2 => exact ⟨_, .v h2 (.v h r fun _ => rfl) (fun _ => rfl), fun a => by rw [e, e2]; omega⟩
      | late h2 p r => exact ⟨_, .late h2 p (.v h r e), fun _ => rfl⟩
    | late h p r =>
      cases r with
      | v h2 r e2 => exact ⟨_, .v h2 (.late h p r) e2, fun a => rfl⟩
      | late h2 p2 r => exact ⟨_, .late h2 p2 (.late h p r), fun _ => rfl⟩
  | trans _ _ ih1 ih2 =>
    intro f r
    obtain ⟨g, r', e⟩ := ih1 r
    obtain ⟨g', r'', e'⟩ := ih2 r'
    exact ⟨g', r'', fun a => by rw [e', e]⟩
theorem RP.append {B H : Hp} {σ : L2.St} : ∀ {l l' : List (Op × V)} {f : Addr → Nat}, RP K cl B H σ (l ++ l') f → ∃ g k, RP K cl B H σ l g ∧ RP K cl B H σ l' k ∧ ∀ a, f a = g a + k a
  | [], l', f, r => ⟨fun _ => 0, f, .nil fun _ => rfl, r, fun a => by dsimp only; omega⟩
  | _ :: l, l', _, .v h r e => by
    obtain ⟨g, k, r1, r2, e2⟩ := RP.append (l := l) r
    exact ⟨_, k, .v h r1 (fun _ => rfl), r2, fun a => by rw [e, e2]; omega⟩
  | _ :: l, l', _, .late h p r => by
    obtain ⟨g, k, r1, r2, e2⟩ := RP.append (l := l) r
    exact ⟨g, k, .late h p r1, r2, e2⟩

variable {B0 Fr : Hp} {pd pd' : List (Op × V)} {ρ ρ' : Dv.Env} {σ : L2.St} {B H B' H' : Hp}
theorem Ext.refl (s : Same B H) : Ext B H B H := ⟨Same.refl _, s, Same.refl _, fun _ h z => absurd z h⟩
theorem Ext.trans {B2 H2 : Hp} (a : Ext B H B' H') (b : Ext B' H' B2 H2) : Ext B H B2 H2 := ⟨a.b.trans b.b, b.i, a.h.trans b.h, fun x h z => by
  cases q : B' x with
  | none =>
    have := b.n x h q
    cases w : H x with
    | none => rfl
    | some o => rw [a.h _ _ w] at this; cases this
  | some o => exact a.n x (by rw [q]; intro z; cases z) z⟩
theorem Rel.ext (R : Rel K cl B0 Fr pd ρ σ B H) (E : Ext B H B' H') : Rel K cl B0 Fr pd ρ σ B' H' := by
  obtain ⟨f, g, rp, rs, u, o⟩ := R.ow
  have kp : ∀ a, 0 < f a + g a → H' a = H a := fun a ha => by
    have : H a ≠ none := by
      by_cases q : 0 < f a
      · exact rp.there a q
      · exact rs.there a (by omega)
    cases w : H a with
    | none => exact absurd w this
    | some x => exact E.h _ _ w
  refine ⟨R.s0.trans E.b, E.i, R.sF.trans E.h, fun a h z => ?_, f, g, rp.mono E.b E.h (fun a ha => kp a (by omega)), rs.mono E.b (fun a ha => kp a (by omega)), u, fun a ha => ⟨(o a ha).1, ?_⟩⟩
  · cases q : B a with
    | none =>
      have := E.n a h q
      cases w : Fr a with
      | none => rfl
      | some x => rw [R.sF _ _ w] at this; cases this
    | some x => exact R.nw a (by rw [q]; intro z; cases z) z
  · cases q : B' a with
    | none => rfl
    | some x =>
      have h1 := E.n a (by rw [q]; intro z; cases z) (o a ha).2
      have : H a ≠ none := by
        by_cases q : 0 < f a
        · exact rp.there a q
        · exact rs.there a (by omega)
      exact absurd h1 this
theorem Rel.perm (R : Rel K cl B0 Fr pd ρ σ B H) (h : pd.Perm pd') : Rel K cl B0 Fr pd' ρ σ B H := by
  obtain ⟨f, g, rp, rs, u, o⟩ := R.ow
  obtain ⟨f', rp', e⟩ := rp.perm h
  exact ⟨R.s0, R.sB, R.sF, R.nw, f', g, rp', rs, fun a => by rw [e]; exact u a, fun a => by rw [e]; exact o a⟩
theorem Rel.tail {x : Op × V} (R : Rel K cl B0 Fr (x :: pd) ρ σ B H) : Rel K cl B0 Fr pd ρ σ B H := by
  obtain ⟨f, g, rp, rs, u, o⟩ := R.ow
  cases rp with
  | v h r e =>
    exact ⟨R.s0, R.sB, R.sF, R.nw, _, g, r, rs, fun a => by have := u a; rw [e] at this; omega, fun a ha => o a (by rw [e]; omega)⟩
  | late h p r => exact ⟨R.s0, R.sB, R.sF, R.nw, _, g, r, rs, u, o⟩
theorem Rel.drop (R : Rel K cl B0 Fr pd ρ σ B H) : Rel K cl B0 Fr [] ρ σ B H := by
  induction pd with
  | nil => exact R
  | cons x l ih => exact ih R.tail
theorem Rel.dropR {l : List (Op × V)} (R : Rel K cl B0 Fr (l ++ pd) ρ σ B H) : Rel K cl B0 Fr pd ρ σ B H := by
  induction l with
  | nil => exact R
  | cons x l ih => exact ih R.tail
/-- a shared value is pushed -/
theorem Rel.push {d : D} {v : V} (R : Rel K cl B0 Fr pd ρ σ B H) (h : RD K cl B d v) : Rel K cl B0 Fr ((sh d, v) :: pd) ρ σ B H := by
  obtain ⟨f, g, rp, rs, u, o⟩ := R.ow
  exact ⟨R.s0, R.sB, R.sF, R.nw, f, g, .v (f := fun _ => 0) (.sh h fun _ => rfl) rp (fun a => by simp), rs, u, o⟩
/-- what is on top becomes shared -/
theorem Rel.share {od : OD} {v : V} (R : Rel K cl B0 Fr ((.v od, v) :: pd) ρ σ B H) : ∃ B', Same B B' ∧ Rel K cl B0 Fr pd ρ σ B' H ∧ RD K cl B' od.toD v := by
  obtain ⟨f, g, rp, rs, u, o⟩ := R.ow
  cases rp with
  | @v _ _ _ f1 f2 _ h r e =>
    have hB : Same B fun a => if 0 < f1 a then H a else B a := fun a x q => by
      by_cases w : 0 < f1 a
      · have := (o a (by rw [e]; omega)).2; rw [q] at this; cases this
      · show (if 0 < f1 a then H a else B a) = some x
        rw [if_neg w]; exact q
    refine ⟨fun a => if 0 < f1 a then H a else B a, hB, ⟨R.s0.trans hB, fun a x q => ?_, R.sF, fun a q z => ?_, f2, g, ?_, ?_, fun a => by have := u a; rw [e] at this; omega, fun a ha => ⟨(o a (by rw [e]; omega)).1, ?_⟩⟩, h.freeze hB fun a ha => if_pos ha⟩
    · by_cases w : 0 < f1 a
      · rw [if_pos w] at q; exact q
      · rw [if_neg w] at q; exact R.sB _ _ q
    · by_cases w : 0 < f1 a
      · exact (o a (by rw [e]; omega)).1
      · rw [if_neg w] at q; exact R.nw a q z
    · exact r.mono hB (Same.refl _) fun _ _ => rfl
    · exact rs.mono hB fun _ _ => rfl
    · have w : ¬ 0 < f1 a := fun w => by have := u a; rw [e] at this; omega
      rw [if_neg w]; exact (o a (by rw [e]; omega)).2
/-- a slot becomes shared -/
theorem Rel.thaw {i : Nat} {od : OD} (R : Rel K cl B0 Fr pd ρ σ B H) (q : (ρ[i]?).bind id = some od) : ∃ (B' : Hp) (g1 : Addr → Nat) (v0 : V), Same B B' ∧ Rel K cl B0 Fr pd (Dv.thaw ρ i) σ B' H ∧
    σ[i]? = some (some v0) ∧ RO K cl B H od v0 g1 ∧ ∀ od' v f', RO K cl B H od' v f' → (∀ a, f' a ≤ g1 a) → RD K cl B' od'.toD v := by
    unfold Dv.thaw
    rw [q]
    simp only
    have q' : ρ[i]? = some (some od) := by
      cases w : ρ[i]? with
      | none => rw [w] at q; cases q
      | some x => rw [w] at q; simp at q; rw [q]
    obtain ⟨f, g, rp, rs, u, o⟩ := R.ow
    obtain ⟨v, g1, g2, e1, ro, rs2, e⟩ := rs.get q'
    have hi : i < ρ.length := (List.getElem?_eq_some_iff.mp q').1
    have hB : Same B fun a => if 0 < g1 a then H a else B a := fun a x q => by
      by_cases w : 0 < g1 a
      · have := (o a (by rw [e]; omega)).2; rw [q] at this; cases this
      · show (if 0 < g1 a then H a else B a) = some x
        rw [if_neg w]; exact q
    have rd : RD K cl (fun a => if 0 < g1 a then H a else B a) od.toD v := ro.freeze hB fun a ha => if_pos ha
    obtain ⟨k, rs3, ke⟩ := RS.put (f := fun _ => 0) (.sh rd fun _ => rfl) (i := i) (rs2.mono (H' := H) hB fun _ _ => rfl) (by simpa using hi)
    have es : σ.set i (some v) = σ := by
      apply List.ext_getElem?
      intro j
      rw [List.getElem?_set]
      split
      · rename_i h; subst h; split
        · exact e1.symm
        · rename_i h; rw [List.getElem?_eq_none (by omega)] at e1; cases e1
      · rfl
    rw [es] at rs3
    rw [List.set_set] at rs3
    refine ⟨fun a => if 0 < g1 a then H a else B a, g1, v, hB, ⟨R.s0.trans hB, fun a x q => ?_, R.sF, fun a q z => ?_, f, k, ?_, rs3, fun a => by have := u a; have := ke a; rw [e] at *; omega, fun a ha => ⟨(o a (by have := ke a; rw [e]; omega)).1, ?_⟩⟩, e1, ro, fun od' w f' r l => r.freeze hB fun a ha => if_pos (by have := l a; omega)⟩
    · by_cases w : 0 < g1 a
      · rw [if_pos w] at q; exact q
      · rw [if_neg w] at q; exact R.sB _ _ q
    · by_cases w : 0 < g1 a
      · exact (o a (by rw [e]; omega)).1
      · rw [if_neg w] at q; exact R.nw a q z
    · exact rp.mono hB (Same.refl _) fun _ _ => rfl
    · have := ke a
      have w : ¬ 0 < g1 a := fun w => by have := u a; rw [e] at this; omega
      rw [if_neg w]; exact (o a (by rw [e]; omega)).2
end
end Dv
end

section
set_option Elab.async false
set_option linter.all false
set_option maxRecDepth 100000
set_option maxHeartbeats 4000000
set_option autoImplicit false
/-! Dv3: the judgements, names, constants, operators by values, calls of defs. -/
namespace Dv
open PySem PySem.Spec PyProof.Rows L2

section
variable (K : PySem.W.Frag) (cl : Str → Addr) (W : WX)
/-- shared things that stay pending through statements -/
abbrev pdS (fr : List (D × V)) : List (Op × V) := fr.map fun x => (.v (.sh x.1), x.2)
/-- what is wanted of an outcome -/
def Pst (B0 Fr : Hp) (fr : List (D × V)) {α : Type} (r : Rs α) (k : α → Dv.Env → Prop) : Prop := match r with
  | .ok a ρ' => k a ρ'
  | .exc c ρ' => ∀ σ' B' H', Rel K cl B0 Fr (pdS fr) ρ' σ' B' H' → W (.ref (cl c)) none σ' H'
  | .stuck => False
/-- behind an expression -/
def PoE (B0 Fr : Hp) (pd : List (Op × V)) (σ : L2.St) (H : Hp) (Q : VK) (op : Op) (ρ' : Dv.Env) : Prop :=
  ∀ v B' H', Same H H' → Rel K cl B0 Fr ((op, v) :: pd) ρ' σ B' H' → Q v H'
def SE (t : TE) (m : M Op) : Prop := ∀ B0 Fr fr pd ρ σ B H Q, Rel K cl B0 Fr (pd ++ pdS fr) ρ σ B H →
  Pst K cl W B0 Fr fr (m ρ) (PoE K cl B0 Fr (pd ++ pdS fr) σ H Q) → t σ H Q
def ST (t : TT) (m : M Bool) : Prop := ∀ B0 Fr fr pd ρ σ B H Q, Rel K cl B0 Fr (pd ++ pdS fr) ρ σ B H →
  Pst K cl W B0 Fr fr (m ρ) (fun b ρ' => ∀ B' H', Same H H' → Rel K cl B0 Fr (pd ++ pdS fr) ρ' σ B' H' → Q b H') → t σ H Q
def SA (t : TA) (m : M (List Op)) : Prop := ∀ B0 Fr fr pd ρ σ B H Q, Rel K cl B0 Fr (pd ++ pdS fr) ρ σ B H →
  Pst K cl W B0 Fr fr (m ρ) (fun ops ρ' => ∀ vs B' H', ops.length = vs.length → Same H H' → Rel K cl B0 Fr (ops.zip vs ++ (pd ++ pdS fr)) ρ' σ B' H' → Q vs H') → t σ H Q
/-- two operands and a value out -/
def SO (r : R2) (f : Op → Op → M Op) : Prop := ∀ B0 Fr fr pd a b x y ρ σ B H Q, Rel K cl B0 Fr ((b, y) :: (a, x) :: pd) ρ σ B H →
  Pst K cl W B0 Fr fr (f a b ρ) (PoE K cl B0 Fr pd σ H Q) → r x y H Q
/-- one operand -/
def SU (r : V → Hp → VK → Prop) (f : Op → M Op) : Prop := ∀ B0 Fr fr pd a x ρ σ B H Q, Rel K cl B0 Fr ((a, x) :: pd) ρ σ B H →
  Pst K cl W B0 Fr fr (f a ρ) (PoE K cl B0 Fr pd σ H Q) → r x H Q
/-- operands and a value out -/
def SC (r : List V → Hp → VK → Prop) (f : List Op → M Op) : Prop := ∀ B0 Fr fr pd ops vs ρ σ B H Q, ops.length = vs.length → Rel K cl B0 Fr (ops.zip vs ++ pd) ρ σ B H →
  Pst K cl W B0 Fr fr (f ops ρ) (PoE K cl B0 Fr pd σ H Q) → r vs H Q
end

section
variable {K : PySem.W.Frag} {cl : Str → Addr} {W : WX} {B0 Fr : Hp} {fr : List (D × V)} {pd pd' : List (Op × V)} {ρ ρ' : Dv.Env} {σ : L2.St} {B H B' H' : Hp}
theorem Pst.bind {α β : Type} {m : M α} {f : α → M β} {k : β → Dv.Env → Prop} : Pst K cl W B0 Fr fr ((m >>= f) ρ) k → Pst K cl W B0 Fr fr (m ρ) fun a ρ' => Pst K cl W B0 Fr fr (f a ρ') k := by
  intro h
  show Pst K cl W B0 Fr fr (m ρ) _
  have h' : Pst K cl W B0 Fr fr (M.bind m f ρ) k := h
  unfold M.bind at h'
  cases e : m ρ with
  | ok a ρ1 => rw [e] at h'; exact h'
  | exc c ρ1 => rw [e] at h'; exact h'
  | stuck => rw [e] at h'; exact h'
theorem Pst.imp {α : Type} {r : Rs α} {k k' : α → Dv.Env → Prop} (h : Pst K cl W B0 Fr fr r k) (f : ∀ a ρ', r = .ok a ρ' → k a ρ' → k' a ρ') : Pst K cl W B0 Fr fr r k' := by
  cases r with
  | ok a ρ1 => exact f a ρ1 rfl h
  | exc c ρ1 => exact h
  | stuck => exact h

/-! ### the operands -/
theorem RO.path {B H : Hp} : ∀ {path : List Nat} {od od' : OD} {v0 v : V} {f : Addr → Nat}, RO K cl B H od v0 f → od.at? path = some od' → Pth H v0 path v → ∃ g, RO K cl B H od' v g ∧ ∀ a, g a ≤ f a := by
  intro path
  induction path with
  | nil =>
    intro od od' v0 v f r e p
    cases p
    have e' : od = od' := by
      cases od <;> (simp [OD.at?] at e; exact e)
    subst e'
    exact ⟨f, r, fun _ => Nat.le_refl _⟩
  | cons k ks ih =>
    intro od od' v0 v f r e p
    have elem : ∀ {xs : List OD} {vs : List V} {g : Addr → Nat} {x : OD} {w : V}, ROs K cl B H xs vs g → ∀ {k : Nat}, xs[k]? = some x → vs[k]? = some w → ∃ g', RO K cl B H x w g' ∧ ∀ a, g' a ≤ g a := by
      intro xs vs g x w r
      induction xs generalizing vs g with
      | nil => intro k e; simp at e
      | cons y ys ih2 =>
        intro k e1 e2
        cases r with
        | cons h r e =>
          cases k with
          | zero =>
            simp at e1 e2; subst e1 e2
            exact ⟨_, h, fun a => by rw [e]; omega⟩
          | succ k =>
            obtain ⟨g', r', l⟩ := ih2 r (k := k) (by simpa using e1) (by simpa using e2)
            exact ⟨g', r', fun a => by have := l a; rw [e]; omega⟩
    cases r with
    | sh h z => simp [OD.at?] at e
    | is h l rs z => simp [OD.at?] at e
    | @ls p' xs vs f' _ h rs z =>
      simp only [OD.at?] at e
      cases q : xs[k]? with
      | none => rw [q] at e; cases e
      | some x =>
        rw [q] at e
        cases p with
        | lst h1 h2 p =>
          rw [h] at h1; cases h1
          obtain ⟨g1, r1, l1⟩ := elem rs q h2
          obtain ⟨g2, r2, l2⟩ := ih r1 e p
          exact ⟨g2, r2, fun a => by have := l1 a; have := l2 a; rw [z]; omega⟩
        | tup h1 h2 p => rw [h] at h1; cases h1
    | @tp p' xs vs f' _ h rs z =>
      simp only [OD.at?] at e
      cases q : xs[k]? with
      | none => rw [q] at e; cases e
      | some x =>
        rw [q] at e
        cases p with
        | tup h1 h2 p =>
          rw [h] at h1; cases h1
          obtain ⟨g1, r1, l1⟩ := elem rs q h2
          obtain ⟨g2, r2, l2⟩ := ih r1 e p
          exact ⟨g2, r2, fun a => by have := l1 a; have := l2 a; rw [z]; omega⟩
        | lst h1 h2 p => rw [h] at h1; cases h1
theorem get_some {ρ : Dv.Env} {i : Nat} {od : OD} (q : (ρ[i]?).bind id = some od) : ρ[i]? = some (some od) := by
  cases w : ρ[i]? with
  | none => rw [w] at q; cases q
  | some x => rw [w] at q; simp at q; rw [q]
/-- an operand on top, as it stands -/
theorem Rel.node {op : Op} {od : OD} {v : V} (R : Rel K cl B0 Fr ((op, v) :: pd) ρ σ B H) (e : op.at? ρ = some od) : ∃ f, RO K cl B H od v f := by
  obtain ⟨f, g, rp, rs, u, o⟩ := R.ow
  cases rp with
  | v h r z =>
    simp only [Op.at?, Option.some.injEq] at e
    subst e
    exact ⟨_, h⟩
  | @late i path v0 _ _ _ h p r =>
    simp only [Op.at?] at e
    cases q : (ρ[i]?).bind id with
    | none => rw [q] at e; cases e
    | some od0 =>
      rw [q] at e
      obtain ⟨w, g1, g2, e1, ro, _, _⟩ := rs.get (get_some q)
      rw [h] at e1; cases e1
      obtain ⟨g', r', _⟩ := ro.path e p
      exact ⟨g', r'⟩
theorem RD.atL {G : Hp} (s : Same G H) : ∀ {path : List Nat} {d d' : D} {v0 v : V}, RD K cl G d v0 → d.atL path = some d' → Pth H v0 path v → RD K cl G d' v := by
  intro path
  induction path with
  | nil =>
    intro d d' v0 v r e p
    cases p
    have e' : d = d' := by cases d <;> (simp [D.atL] at e; exact e)
    subst e'
    exact r
  | cons k ks ih =>
    intro d d' v0 v r e p
    cases r with
    | @lst p0 ds vs hp rs =>
      simp only [D.atL] at e
      cases q : ds[k]? with
      | none => rw [q] at e; cases e
      | some x =>
        rw [q] at e
        cases p with
        | lst h1 h2 p =>
          rw [s _ _ hp] at h1; cases h1
          have go : ∀ {ds : List D} {vs : List V} {k : Nat} {x : D} {w : V}, RDs K cl G ds vs → ds[k]? = some x → vs[k]? = some w → RD K cl G x w := by
            intro ds
            induction ds with
            | nil => intro vs k x w r e; simp at e
            | cons y ys ih2 =>
              intro vs k x w r e1 e2
              cases r with
              | cons h r =>
                cases k with
                | zero => simp at e1 e2; subst e1 e2; exact h
                | succ k => exact ih2 r (k := k) (by simpa using e1) (by simpa using e2)
          exact ih (go rs q h2) e p
        | tup h1 h2 p => rw [s _ _ hp] at h1; cases h1
    | _ => simp [D.atL] at e
theorem Rel.view {op : Op} {d : D} {v : V} (R : Rel K cl B0 Fr ((op, v) :: pd) ρ σ B H) (e : op.view ρ = some d) : RD K cl H d v := by
  unfold Op.view at e
  cases q : op.at? ρ with
  | none =>
    rw [q] at e
    cases op with
    | v od => cases q
    | late i path =>
      simp only at e
      cases w : (ρ[i]?).bind id with
      | none => rw [w] at e; cases e
      | some od =>
        rw [w] at e
        cases od with
        | sh d0 =>
          simp only at e
          obtain ⟨f, g, rp, rs, u, o⟩ := R.ow
          cases rp with
          | @late _ _ v0 _ _ _ h p r =>
            obtain ⟨w, g1, g2, e1, ro, _, _⟩ := rs.get (get_some w)
            rw [h] at e1; cases e1
            cases ro with
            | sh rd z => exact ((rd.mono R.sB).atL (Same.refl _) e p)
        | _ => cases e
  | some od =>
    rw [q] at e
    simp only [Option.some.injEq] at e
    subst e
    obtain ⟨f, r⟩ := R.node q
    exact r.freeze R.sB fun _ _ => rfl
theorem Rel.swap {x y : Op × V} (R : Rel K cl B0 Fr (x :: y :: pd) ρ σ B H) : Rel K cl B0 Fr (y :: x :: pd) ρ σ B H := R.perm (.swap y x pd)
theorem view_int {G : Hp} {i : Int} {v : V} (h : RD K cl G (.int i) v) : v = .int i := by cases h; rfl
theorem view_str {G : Hp} {i : Str} {v : V} (h : RD K cl G (.str i) v) : v = .str i := by cases h; rfl
theorem view_bl {G : Hp} {i : Bool} {v : V} (h : RD K cl G (.bl i) v) : v = .bl i := by cases h; rfl
theorem view_non {G : Hp} {v : V} (h : RD K cl G .non v) : v = .non := by cases h; rfl
theorem RDs.ints {G : Hp} : ∀ {ns : List Int} {vs : List V}, RDs K cl G (ns.map D.int) vs → vs = ns.map V.int
  | [], _, .nil => rfl
  | n :: ns, _, .cons h r => by rw [view_int h, RDs.ints r]; rfl
theorem RDs.strs {G : Hp} : ∀ {ns : List Str} {vs : List V}, RDs K cl G (ns.map D.str) vs → vs = ns.map V.str
  | [], _, .nil => rfl
  | n :: ns, _, .cons h r => by rw [view_str h, RDs.strs r]; rfl
theorem RDs.bls {G : Hp} : ∀ {ns : List Bool} {vs : List V}, RDs K cl G (ns.map D.bl) vs → vs = ns.map V.bl
  | [], _, .nil => rfl
  | n :: ns, _, .cons h r => by rw [view_bl h, RDs.bls r]; rfl
theorem RDs.of_ints {G : Hp} : ∀ (ns : List Int), RDs K cl G (ns.map D.int) (ns.map V.int)
  | [] => .nil
  | n :: ns => .cons (.int n) (RDs.of_ints ns)
theorem RDs.of_strs {G : Hp} : ∀ (ns : List Str), RDs K cl G (ns.map D.str) (ns.map V.str)
  | [] => .nil
  | n :: ns => .cons (.str n) (RDs.of_strs ns)
theorem RDs.get {G : Hp} : ∀ {ds : List D} {vs : List V} {i : Nat} {d : D}, RDs K cl G ds vs → ds[i]? = some d → ∃ v, vs[i]? = some v ∧ RD K cl G d v
  | _, _, i, d, .nil, e => by simp at e
  | _, _, 0, d, .cons h r, e => by simp at e; subst e; exact ⟨_, rfl, h⟩
  | _, _, i + 1, d, .cons h r, e => by
    obtain ⟨v, h1, h2⟩ := RDs.get (i := i) r (by simpa using e)
    exact ⟨v, by simpa using h1, h2⟩
theorem RDs.append {G : Hp} : ∀ {ds ds' : List D} {vs vs' : List V}, RDs K cl G ds vs → RDs K cl G ds' vs' → RDs K cl G (ds ++ ds') (vs ++ vs')
  | _, _, _, _, .nil, s => s
  | _, _, _, _, .cons h r, s => .cons h (RDs.append r s)
theorem RDs.take {G : Hp} : ∀ {ds : List D} {vs : List V} (n : Nat), RDs K cl G ds vs → RDs K cl G (ds.take n) (vs.take n)
  | _, _, 0, _ => .nil
  | _, _, n + 1, .nil => .nil
  | _, _, n + 1, .cons h r => .cons h (RDs.take n r)
theorem RDs.drop {G : Hp} : ∀ {ds : List D} {vs : List V} (n : Nat), RDs K cl G ds vs → RDs K cl G (ds.drop n) (vs.drop n)
  | _, _, 0, r => r
  | _, _, n + 1, .nil => .nil
  | _, _, n + 1, .cons h r => RDs.drop n r
theorem ROs.sh {B H : Hp} : ∀ {ds : List D} {vs : List V}, RDs K cl B ds vs → ROs K cl B H (ds.map OD.sh) vs fun _ => 0
  | _, _, .nil => .nil fun _ => rfl
  | _, _, .cons h r => .cons (f := fun _ => 0) (.sh h fun _ => rfl) (ROs.sh r) fun _ => rfl

/-! ### new things -/
/-- a new shared or owned value behind an extension -/
theorem Rel.pushO {od : OD} {v : V} {f : Addr → Nat} (R : Rel K cl B0 Fr pd ρ σ B H) (E : Ext B H B' H') (ro : RO K cl B' H' od v f) (f1 : ∀ a, f a ≤ 1) (fn : ∀ a, 0 < f a → H a = none ∧ B' a = none) :
    Rel K cl B0 Fr ((.v od, v) :: pd) ρ σ B' H' := by
  have R' := R.ext E
  obtain ⟨f0, g0, rp0, rs0, u0, o0⟩ := R.ow
  obtain ⟨f2, g, rp, rs, u, o⟩ := R'.ow
  -- the old footprints are those of H
  have rp' : RP K cl B' H' σ pd f0 := rp0.mono E.b E.h fun a ha => by
    have := rp0.there a ha
    cases w : H a with
    | none => exact absurd w this
    | some x => exact E.h _ _ w
  have rs' : RS K cl B' H' ρ σ g0 := rs0.mono E.b fun a ha => by
    have := rs0.there a ha
    cases w : H a with
    | none => exact absurd w this
    | some x => exact E.h _ _ w
  have old : ∀ a, 0 < f0 a + g0 a → H a ≠ none := fun a ha => by
    by_cases q : 0 < f0 a
    · exact rp0.there a q
    · exact rs0.there a (by omega)
  refine ⟨R'.s0, R'.sB, R'.sF, R'.nw, _, g0, .v ro rp' (fun _ => rfl), rs', fun a => ?_, fun a ha => ?_⟩
  · by_cases q : 0 < f a
    · have := (fn a q).1
      have h0 : ¬ 0 < f0 a + g0 a := fun z => old a z this
      have := f1 a
      omega
    · have := u0 a
      omega
  · by_cases q : 0 < f a
    · refine ⟨?_, (fn a q).2⟩
      cases w : Fr a with
      | none => rfl
      | some x => have := (fn a q).1; rw [R.sF _ _ w] at this; cases this
    · have h0 : 0 < f0 a + g0 a := by omega
      refine ⟨(o0 a h0).1, ?_⟩
      cases w : B' a with
      | none => rfl
      | some x => exact absurd (E.n a (by rw [w]; intro z; cases z) (o0 a h0).2) (old a h0)
theorem Ext.new {p : Addr} {o : HO} (s : Same B H) (h : H p = none) : Ext B H B (upd H p o) := by
  have k : Same H (upd H p o) := fun a x e => by rw [upd_ne (ne_of_none e h)]; exact e
  exact ⟨Same.refl _, s.trans k, k, fun a z1 z2 => absurd z2 z1⟩
theorem Ext.newS {p : Addr} {o : HO} (s : Same B H) (h : H p = none) : Ext B H (upd B p o) (upd H p o) := by
  have k : Same H (upd H p o) := fun a x e => by rw [upd_ne (ne_of_none e h)]; exact e
  have hb : B p = none := by
    cases w : B p with
    | none => rfl
    | some x => rw [s _ _ w] at h; cases h
  have kb : Same B (upd B p o) := fun a x e => by rw [upd_ne (ne_of_none e hb)]; exact e
  refine ⟨kb, fun a x e => ?_, k, fun a z1 z2 => ?_⟩
  · by_cases q : a = p
    · subst q; rw [upd_same] at e ⊢; exact e
    · rw [upd_ne q] at e ⊢; exact s _ _ e
  · by_cases q : a = p
    · rw [q]; exact h
    · rw [upd_ne q] at z1; exact absurd z2 z1
/-- a new list of shared things -/
theorem Rel.newL {p : Addr} {ds : List D} {vs : List V} (R : Rel K cl B0 Fr pd ρ σ B H) (h : H p = none) (r : RDs K cl B ds vs) : Rel K cl B0 Fr ((.v (.ls (ds.map OD.sh)), .ref p) :: pd) ρ σ B (upd H p (.lst vs)) := by
  refine R.pushO (Ext.new R.sB h) (.ls upd_same (ROs.sh r) fun a => rfl) (fun a => ?_) fun a ha => ?_
  · show (if a = p then 1 else 0) + 0 ≤ 1; split <;> omega
  · by_cases q : a = p
    · subst q
      refine ⟨h, ?_⟩
      cases w : B a with
      | none => rfl
      | some x => rw [R.sB _ _ w] at h; cases h
    · simp [q] at ha
/-- a new shared tuple of shared things -/
theorem Rel.newT {p : Addr} {ds : List D} {vs : List V} (R : Rel K cl B0 Fr pd ρ σ B H) (h : H p = none) (r : RDs K cl B ds vs) : Rel K cl B0 Fr ((sh (.tup ds), .ref p) :: pd) ρ σ (upd B p (.tup vs)) (upd H p (.tup vs)) := by
  have E : Ext B H (upd B p (.tup vs)) (upd H p (.tup vs)) := Ext.newS R.sB h
  exact (R.ext E).push (.tup (SqT.of upd_same) (r.mono E.b))
end
end Dv
end

section
set_option Elab.async false
set_option linter.all false
set_option maxRecDepth 100000
set_option maxHeartbeats 4000000
set_option autoImplicit false
/-! Dv4: names, constants, operators. -/
namespace Dv
open PySem PySem.Spec PyProof.Rows L2

/-! ### what is computed -/
def vw (op : Op) : M D := fun ρ => match op.view ρ with | some d => .ok d ρ | none => .stuck
def m_var (i : Nat) : M Op := fun ρ => match (ρ[i]?).bind id with
  | some (.sh d) => .ok (sh d) ρ
  | some _ => .ok (.late i []) ρ
  | none => .stuck
def m_c (d : D) : M Op := pure (sh d)
def m_op (f : Op → Op → M Op) (ma mb : M Op) : M Op := do let a ← ma; let b ← mb; f a b
def m_un (f : Op → M Op) (ma : M Op) : M Op := do let a ← ma; f a
def guard' (b : Bool) : M Unit := fun ρ => if b then .ok () ρ else .stuck
/-- an operator on shown data whose answer is flat -/
def o_flat (g : D → D → Option D) (a b : Op) : M Op := do
  let x ← vw a
  let y ← vw b
  match g x y with
  | some d => pure (sh d)
  | none => stop
def u_flat (g : D → Option D) (a : Op) : M Op := do
  let x ← vw a
  match g x with
  | some d => pure (sh d)
  | none => stop
def allSh : List OD → Option (List D)
  | [] => some []
  | .sh d :: xs => (allSh xs).map (d :: ·)
  | _ :: _ => none
/-- the items of a list, shared -/
def els (op : Op) : M (List D) := fun ρ => match op with
  | .v od => (match od.toD with | .lst ds => .ok ds ρ | _ => .stuck)
  | .late i path => match op.at? ρ with
    | some (.ls xs) => (match allSh xs with
      | some ds => .ok ds ρ
      | none => .stuck)
    | some (.sh (.lst ds)) => .ok ds ρ
    | _ => .stuck
/-- a new list -/
def newL (ds : List D) : Op := .v (.ls (ds.map OD.sh))
def szOk (n : Nat) : Bool := decide (n ≤ 16777216)
def g_add : D → D → Option D
  | .int i, .int j => some (.int (i + j))
  | .str x, .str y => if szOk (x.length + y.length) then some (.str (x ++ y)) else none
  | _, _ => none
def g_sub : D → D → Option D
  | .int i, .int j => some (.int (i - j))
  | _, _ => none
def mulOk (i j : Int) : Bool := (decide (-(2 ^ 64) < i) && decide (i < 2 ^ 64)) || (decide (-(2 ^ 64) < j) && decide (j < 2 ^ 64))
def g_mul : D → D → Option D
  | .int i, .int j => if mulOk i j then some (.int (i * j)) else none
  | _, _ => none
def g_fdiv : D → D → Option D
  | .int i, .int j => if decide (0 < j) && decide (j < 1073741824) then some (.int (i / j)) else none
  | _, _ => none
def g_mod : D → D → Option D
  | .int i, .int j => if decide (0 < j) then some (.int (i % j)) else none
  | _, _ => none
def powOk (i j : Int) : Bool := decide (0 ≤ j) && decide (j ≤ 1000000) && decide (i.natAbs < 2 ^ 64)
def g_pow : D → D → Option D
  | .int i, .int j => if powOk i j then some (.int (i ^ j.toNat)) else none
  | _, _ => none
def g_shl : D → D → Option D
  | .int i, .int j => if powOk i j then some (.int (i * 2 ^ j.toNat)) else none
  | _, _ => none
def g_shr : D → D → Option D
  | .int i, .int j => if decide (0 ≤ j) then some (.int (i / 2 ^ j.toNat)) else none
  | _, _ => none
def g_and : D → D → Option D
  | .int i, .int j => some (.int (Builtin.bitAnd i j))
  | _, _ => none
def g_or : D → D → Option D
  | .int i, .int j => some (.int (Builtin.bitOr i j))
  | _, _ => none
def u_neg : D → Option D
  | .int i => some (.int (-i))
  | _ => none
def g_lt : D → D → Option D
  | .int i, .int j => some (.bl (decide (i < j)))
  | _, _ => none
def g_le : D → D → Option D
  | .int i, .int j => some (.bl (decide (i ≤ j)))
  | _, _ => none
def g_gt : D → D → Option D
  | .int i, .int j => some (.bl (decide (j < i)))
  | _, _ => none
def g_ge : D → D → Option D
  | .int i, .int j => some (.bl (decide (j ≤ i)))
  | _, _ => none
mutual
/-- the library's own data, where it has it -/
def D.py : D → Option PyData
  | .non => some .none
  | .bl b => some (.bool b)
  | .int i => some (.int i)
  | .str x => some (.str x)
  | .lst xs => (D.pys xs).map PyData.list
  | .tup xs => (D.pys xs).map PyData.tuple
  | .ins _ _ _ => none
  | .exc _ => none
  | .scr _ => none
def D.pys : List D → Option (List PyData)
  | [] => some []
  | x :: xs => match x.py, D.pys xs with
    | some d, some ds => some (d :: ds)
    | _, _ => none
end
/-- equal, where it is known -/
def eqD (x y : D) : Option Bool := match x.py, y.py with
  | some p, some q => if SeqAt.shaped p && SeqAt.shaped q then some (PyData.eqv p q) else none
  | _, _ => none
def g_eq (x y : D) : Option D := (eqD x y).map D.bl
def g_ne (x y : D) : Option D := (eqD x y).map fun b => D.bl (!b)
def isNon : D → Bool
  | .non => true
  | _ => false
def u_isN (x : D) : Option D := some (.bl (isNon x))
def u_notN (x : D) : Option D := some (.bl (!isNon x))
def o_add (a b : Op) : M Op := fun ρ => match a.view ρ, b.view ρ with
  | some (.lst _), some (.lst _) => (do
      let ys ← els b
      let xs ← els a
      guard' (szOk (xs.length + ys.length))
      pure (newL (xs ++ ys)) : M Op) ρ
  | _, _ => o_flat g_add a b ρ

section
variable {K : PySem.W.Frag} {cl : Str → Addr} {W : WX} {B0 Fr : Hp} {fr : List (D × V)} {pd pd' : List (Op × V)} {ρ ρ' : Dv.Env} {σ : L2.St} {B H B' H' : Hp}
theorem vw_ok {op : Op} {k : D → Dv.Env → Prop} (h : Pst K cl W B0 Fr fr (vw op ρ) k) : ∃ d, op.view ρ = some d ∧ k d ρ := by
  unfold vw at h
  cases e : op.view ρ with
  | none => rw [e] at h; exact h.elim
  | some d => rw [e] at h; exact ⟨d, rfl, h⟩
theorem sizeLine_is : sizeLine = 16777216 := sizeLine_eq
theorem szOk_le {n : Nat} (h : szOk n = true) : n ≤ sizeLine := by rw [sizeLine_is]; exact of_decide_eq_true h
/-- flat data need no heap -/
def D.flat : D → Bool
  | .non | .bl _ | .int _ | .str _ => true
  | _ => false
def D.v : D → V
  | .non => .non
  | .bl b => .bl b
  | .int i => .int i
  | .str x => .str x
  | _ => .non
theorem flat_rd {G : Hp} {d : D} (h : d.flat = true) : RD K cl G d d.v := by
  cases d <;> first | exact .non | exact .bl _ | exact .int _ | exact .str _ | cases h
theorem flat_v {G : Hp} {d : D} {v : V} (h : d.flat = true) (r : RD K cl G d v) : v = d.v := by
  cases r <;> first | rfl | cases h
theorem PoE.flat {Q : VK} {d : D} (h : PoE K cl B0 Fr pd σ H Q (sh d) ρ) (R : Rel K cl B0 Fr pd ρ σ B H) (f : d.flat = true) : Q d.v H :=
  h _ B H (Same.refl _) (R.push (flat_rd f))
theorem so_flat {r : R2} {g : D → D → Option D} (hf : ∀ x y d, g x y = some d → d.flat = true)
    (hr : ∀ x y d v w (H : Hp) (Q : VK), g x y = some d → RD K cl H x v → RD K cl H y w → Q d.v H → r v w H Q) : SO K cl W r (o_flat g) := by
  intro B0 Fr fr pd a b x y ρ σ B H Q R h
  unfold o_flat at h
  obtain ⟨d, e1, h⟩ := vw_ok h.bind
  obtain ⟨d2, e2, h⟩ := vw_ok h.bind
  have r1 := R.swap.view e1
  have r2 := R.view e2
  cases e : g d d2 with
  | none => rw [e] at h; exact h.elim
  | some z =>
    rw [e] at h
    exact hr d d2 z x y H Q e r1 r2 (PoE.flat h R.tail.tail (hf _ _ _ e))
theorem su_flat {r : V → Hp → VK → Prop} {g : D → Option D} (hf : ∀ x d, g x = some d → d.flat = true)
    (hr : ∀ x d v (H : Hp) (Q : VK), g x = some d → RD K cl H x v → Q d.v H → r v H Q) : SU K cl W r (u_flat g) := by
  intro B0 Fr fr pd a x ρ σ B H Q R h
  unfold u_flat at h
  obtain ⟨d, e1, h⟩ := vw_ok h.bind
  have r1 := R.view e1
  cases e : g d with
  | none => rw [e] at h; exact h.elim
  | some z =>
    rw [e] at h
    exact hr d z x H Q e r1 (PoE.flat h R.tail (hf _ _ e))

/-! ### expressions -/
theorem se_var {i : Nat} : SE K cl W (tVar i) (m_var i) := by
  intro B0 Fr fr pd ρ σ B H Q R h
  unfold m_var at h
  cases e : (ρ[i]?).bind id with
  | none => rw [e] at h; exact h.elim
  | some od =>
    rw [e] at h
    obtain ⟨f, g, rp, rs, u, o⟩ := id R.ow
    obtain ⟨v, g1, g2, e1, ro, _, _⟩ := rs.get (get_some e)
    refine ⟨v, e1, ?_⟩
    cases od with
    | sh d =>
      cases ro with
      | sh rd z => exact h v B H (Same.refl _) (R.push rd)
    | _ => exact h v B H (Same.refl _) ⟨R.s0, R.sB, R.sF, R.nw, f, g, .late e1 .nil rp, rs, u, o⟩
theorem se_c {d : D} {v : V} (h : ∀ G, RD K cl G d v) : SE K cl W (tC v) (m_c d) := by
  intro B0 Fr fr pd ρ σ B H Q R k
  exact k v B H (Same.refl _) (R.push (h B))
theorem se_op {r : R2} {f : Op → Op → M Op} {ta tb : TE} {ma mb : M Op} (hr : SO K cl W r f) (ha : SE K cl W ta ma) (hb : SE K cl W tb mb) : SE K cl W (tOp r ta tb) (m_op f ma mb) := by
  intro B0 Fr fr pd ρ σ B H Q R h
  refine ha B0 Fr fr pd ρ σ B H _ R (h.bind.imp fun a ρ1 _ h1 => ?_)
  intro x B1 H1 s1 R1
  refine hb B0 Fr fr ((a, x) :: pd) ρ1 σ B1 H1 _ R1 (h1.bind.imp fun b ρ2 _ h2 => ?_)
  intro y B2 H2 s2 R2
  exact hr B0 Fr fr _ a b x y ρ2 σ B2 H2 Q R2 (h2.imp fun c ρ3 _ h3 v B3 H3 s3 R3 => h3 v B3 H3 ((s1.trans s2).trans s3) R3)
theorem se_un {r : V → Hp → VK → Prop} {f : Op → M Op} {ta : TE} {ma : M Op} (hr : SU K cl W r f) (ha : SE K cl W ta ma) : SE K cl W (tUn r ta) (m_un f ma) := by
  intro B0 Fr fr pd ρ σ B H Q R h
  refine ha B0 Fr fr pd ρ σ B H _ R (h.bind.imp fun a ρ1 _ h1 => ?_)
  intro x B1 H1 s1 R1
  exact hr B0 Fr fr _ a x ρ1 σ B1 H1 Q R1 (h1.imp fun c ρ3 _ h3 v B3 H3 s3 R3 => h3 v B3 H3 (s1.trans s3) R3)

/-! ### lists of items -/
theorem allSh_ro {B H : Hp} : ∀ {xs : List OD} {ds : List D} {vs : List V} {f : Addr → Nat}, allSh xs = some ds → ROs K cl B H xs vs f → RDs K cl B ds vs := by
  intro xs
  induction xs with
  | nil =>
    intro ds vs f e r
    simp [allSh] at e; subst e
    cases r; exact .nil
  | cons x xs ih =>
    intro ds vs f e r
    cases x with
    | sh d =>
      simp only [allSh] at e
      cases q : allSh xs with
      | none => rw [q] at e; cases e
      | some ds' =>
        rw [q] at e
        simp at e; subst e
        cases r with
        | cons h r z =>
          cases h with
          | sh h z => exact .cons h (ih q r)
    | _ => cases e
theorem els_ok {op : Op} {v : V} {k : List D → Dv.Env → Prop} (R : Rel K cl B0 Fr ((op, v) :: pd) ρ σ B H) (h : Pst K cl W B0 Fr fr (els op ρ) k) :
    ∃ ds ρ' B' p vs, k ds ρ' ∧ Same B B' ∧ Rel K cl B0 Fr pd ρ' σ B' H ∧ v = .ref p ∧ H p = some (.lst vs) ∧ RDs K cl B' ds vs := by
  unfold els at h
  cases op with
  | v od =>
    obtain ⟨B', s, R', rd⟩ := R.share
    simp only at h
    cases e : od.toD with
    | lst ds =>
      rw [e] at h rd
      cases rd with
      | lst hp r => exact ⟨ds, ρ, B', _, _, h, s, R', rfl, R'.sB _ _ hp, r⟩
    | _ => rw [e] at h; exact h.elim
  | late i path =>
    simp only at h
    cases e : (Op.late i path).at? ρ with
    | none => rw [e] at h; exact h.elim
    | some od =>
      obtain ⟨f, ro⟩ := R.node e
      cases od with
      | sh d =>
        cases d with
        | lst ds =>
          rw [e] at h
          cases ro with
          | sh rd z =>
            cases rd with
            | lst hp r => exact ⟨ds, ρ, B, _, _, h, Same.refl _, R.tail, rfl, R.sB _ _ hp, r⟩
        | _ => rw [e] at h; exact h.elim
      | ls xs =>
        rw [e] at h
        simp only at h
        cases q : allSh xs with
        | some ds =>
          rw [q] at h
          cases ro with
          | ls hp r z => exact ⟨ds, ρ, B, _, _, h, Same.refl _, R.tail, rfl, hp, allSh_ro q r⟩
        | none =>
          rw [q] at h
          exact h.elim
      | _ => rw [e] at h; exact h.elim
end
end Dv
end

section
set_option Elab.async false
set_option linter.all false
set_option maxRecDepth 100000
set_option maxHeartbeats 4000000
set_option autoImplicit false
/-! Dv5: the judgements over the program's text: names, constants, operators, comparisons, tests, displays, items, slices. -/
namespace Dv
open PySem PySem.Spec PyProof.Rows L2

structure JE (X : Cx) (cl : Str → Addr) (W : WX) (e : Expr) (t : TE) (m : M Op) : Prop where
  pe : PE X e t
  se : SE X.K cl W t m
structure JT (X : Cx) (cl : Str → Addr) (W : WX) (e : Expr) (t : TT) (m : M Bool) : Prop where
  pt : PT X e t
  st : ST X.K cl W t m
structure JW (X : Cx) (cl : Str → Addr) (W : WX) (e : Expr) (t : TT) (m : M Bool) : Prop where
  pw : PW X e t
  st : ST X.K cl W t m
structure JA (X : Cx) (cl : Str → Addr) (W : WX) (es : List Expr) (t : TA) (m : M (List Op)) : Prop where
  pa : PA X es t
  sa : SA X.K cl W t m
/-- a binary operator's rule -/
structure RO2 (X : Cx) (cl : Str → Addr) (W : WX) (op : Operator) (r : R2) (f : Op → Op → M Op) : Prop where
  o : OpR X (binaryOp op) r
  s : SO X.K cl W r f
/-- a comparison's rule -/
structure RC2 (X : Cx) (cl : Str → Addr) (W : WX) (op : CmpOp) (r : R2) (f : Op → Op → M Op) : Prop where
  o : OpR X (compareOp op) r
  s : SO X.K cl W r f

def t_val (ma : M Op) : M Bool := do
  let a ← ma
  let d ← vw a
  match d with
  | .bl b => pure b
  | _ => stop
def t_and (a b : M Bool) : M Bool := do
  let x ← a
  if x then b else pure false
def t_or (a b : M Bool) : M Bool := do
  let x ← a
  if x then pure true else b
def t_not (a : M Bool) : M Bool := do
  let x ← a
  pure (!x)
def m_and (a b : M Op) : M Op := do
  let x ← a
  let d ← vw x
  match d with
  | .bl true => b
  | .bl false => pure (sh (.bl false))
  | _ => stop
def m_or (a b : M Op) : M Op := do
  let x ← a
  let d ← vw x
  match d with
  | .bl true => pure (sh (.bl true))
  | .bl false => b
  | _ => stop
def u_not : D → Option D
  | .bl b => some (.bl (!b))
  | _ => none
def m_args0 : M (List Op) := pure []
def m_args (a : M Op) (r : M (List Op)) : M (List Op) := do
  let x ← a
  let xs ← r
  pure (x :: xs)
/-- made one's own: a place of a slot is shared first -/
def own (op : Op) : M OD := fun ρ => match op with
  | .v od => .ok od ρ
  | .late i path => match op.view ρ with
    | some d => .ok (.sh d) (thaw ρ i)
    | none => .stuck
def owns : List Op → M (List OD)
  | [] => pure []
  | x :: xs => do
    let y ← own x
    let ys ← owns xs
    pure (y :: ys)
def m_lst (ma : M (List Op)) : M Op := do
  let ops ← ma
  let xs ← owns ops
  guard' (szOk xs.length)
  pure (.v (.ls xs))
def m_tup (ma : M (List Op)) : M Op := do
  let ops ← ma
  let xs ← owns ops
  guard' (szOk xs.length)
  pure (sh (.tup (OD.toDs xs)))

section
variable {K : PySem.W.Frag} {cl : Str → Addr} {W : WX} {B0 Fr : Hp} {fr : List (D × V)} {pd pd' : List (Op × V)} {ρ ρ' : Dv.Env} {σ : L2.St} {B H B' H' : Hp}

/-! ### operators -/
theorem rd_py {G : Hp} : (∀ (d : D) (v : V) (p : PyData), RD K cl G d v → d.py = some p → Dp K G v p) ∧ ∀ (ds : List D) (vs : List V) (ps : List PyData), RDs K cl G ds vs → D.pys ds = some ps → DpAll K G vs ps := by
  have key : ∀ n : Nat, (∀ (d : D) (v : V) (p : PyData), sizeOf d < n → RD K cl G d v → d.py = some p → Dp K G v p) ∧ ∀ (ds : List D) (vs : List V) (ps : List PyData), sizeOf ds < n → RDs K cl G ds vs → D.pys ds = some ps → DpAll K G vs ps := by
    intro n
    induction n with
    | zero => exact ⟨fun d v p h => absurd h (Nat.not_lt_zero _), fun d v p h => absurd h (Nat.not_lt_zero _)⟩
    | succ n ih =>
      refine ⟨fun d v p hn r e => ?_, fun ds vs ps hn r e => ?_⟩
      · cases r with
        | non => simp [D.py] at e; subst e; exact .non
        | bl b => simp [D.py] at e; subst e; exact .bl b
        | int b => simp [D.py] at e; subst e; exact .int b
        | str b => simp [D.py] at e; subst e; exact .str b
        | @lst p' ds vs h rs =>
          simp only [D.py] at e
          cases q : D.pys ds with
          | none => rw [q] at e; cases e
          | some ps =>
            rw [q] at e
            simp at e; subst e
            exact .lst (SqL.of h) (ih.2 ds vs ps (by simp at hn; omega) rs q)
        | @tup p' ds vs h rs =>
          simp only [D.py] at e
          cases q : D.pys ds with
          | none => rw [q] at e; cases e
          | some ps =>
            rw [q] at e
            simp at e; subst e
            exact .tup h (ih.2 ds vs ps (by simp at hn; omega) rs q)
        | ins h l rs => simp [D.py] at e
        | exc h => simp [D.py] at e
        | scr h => simp [D.py] at e
      · cases r with
        | nil => simp [D.pys] at e; subst e; exact .nil
        | @cons d v ds vs h rs =>
          simp only [D.pys] at e
          cases q : d.py with
          | none => rw [q] at e; cases e
          | some p =>
            cases q2 : D.pys ds with
            | none => rw [q, q2] at e; cases e
            | some ps' =>
              rw [q, q2] at e
              simp at e; subst e
              exact .cons (ih.1 d v p (by simp at hn; omega) h q) (ih.2 ds vs ps' (by simp at hn; omega) rs q2)
  exact ⟨fun d v p => (key (sizeOf d + 1)).1 d v p (Nat.lt_succ_self _), fun d v p => (key (sizeOf d + 1)).2 d v p (Nat.lt_succ_self _)⟩
theorem eqD_ok {G : Hp} {x y : D} {v w : V} {b : Bool} (h : eqD x y = some b) (r : RD K cl G x v) (r' : RD K cl G y w) : ∃ d e, Dp K G v d ∧ Dp K G w e ∧ SeqAt.shaped d = true ∧ SeqAt.shaped e = true ∧ b = PyData.eqv d e := by
  unfold eqD at h
  cases q : x.py with
  | none => rw [q] at h; cases h
  | some p =>
    cases q2 : y.py with
    | none => rw [q, q2] at h; cases h
    | some p2 =>
      rw [q, q2] at h
      simp only at h
      split at h
      · rename_i hs
        rw [Bool.and_eq_true] at hs
        simp at h
        exact ⟨p, p2, rd_py.1 _ _ _ r q, rd_py.1 _ _ _ r' q2, hs.1, hs.2, h.symm⟩
      · cases h
def r_add (K : PySem.W.Frag) : R2 := fun x y H Q => (rI0 (fun i j => .int (i + j)) x y H Q ∨ (∃ i j, x = .str i ∧ y = .str j ∧ i.length + j.length ≤ sizeLine ∧ Q (.str (i ++ j)) H)) ∨ rCat x y H Q
theorem so_add : SO K cl W (r_add K) o_add := by
  intro B0 Fr fr pd a b x y ρ σ B H Q R h
  unfold o_add at h
  have flat : Pst K cl W B0 Fr fr (o_flat g_add a b ρ) (PoE K cl B0 Fr pd σ H Q) → r_add K x y H Q := fun h => .inl <| by
    refine so_flat (r := fun x y H Q => rI0 (fun i j => .int (i + j)) x y H Q ∨ (∃ i j, x = .str i ∧ y = .str j ∧ i.length + j.length ≤ sizeLine ∧ Q (.str (i ++ j)) H)) (K := K) (cl := cl) (W := W) ?_ ?_ B0 Fr fr pd a b x y ρ σ B H Q R h
    · intro x y d e
      cases x <;> cases y <;> simp [g_add] at e <;> first | (obtain ⟨_, rfl⟩ := e; rfl) | (subst e; rfl)
    · intro x y d v w H Q e r1 r2 q
      cases x <;> cases y <;> simp [g_add] at e
      · subst e
        exact .inl ⟨_, _, view_int r1, view_int r2, q⟩
      · obtain ⟨hz, rfl⟩ := e
        exact .inr ⟨_, _, view_str r1, view_str r2, szOk_le hz, q⟩
  cases e1 : a.view ρ with
  | none => rw [e1] at h; exact flat h
  | some d1 =>
    cases e2 : b.view ρ with
    | none => rw [e1, e2] at h; cases d1 <;> exact flat h
    | some d2 =>
      rw [e1, e2] at h
      cases d1 with
      | lst l1 =>
        cases d2 with
        | lst l2 =>
          obtain ⟨ys, ρ1, B1, p, vs, h, s1, R1, rfl, hp, r1⟩ := els_ok R (h.bind)
          obtain ⟨xs, ρ2, B2, p2, vs2, h, s2, R2, rfl, hp2, r2⟩ := els_ok R1 (h.bind)
          replace h := h.bind
          unfold guard' at h
          split at h
          · rename_i hz
            have hz' := szOk_le hz
            rw [r2.length, RDs.length r1] at hz'
            refine .inr ⟨p2, p, vs2, vs, rfl, rfl, hp2, hp, hz', fun p3 hp3 => ?_⟩
            refine h (.ref p3) B2 _ (fun a o e => by rw [upd_ne (ne_of_none e hp3)]; exact e) ?_
            exact R2.newL hp3 (r2.append (r1.mono s2))
          · exact h.elim
        | _ => exact flat h
      | _ => cases d2 <;> exact flat h
variable {X : Cx}
theorem ro_add : RO2 X cl W .Add (r_add X.K) o_add := ⟨(op_add.or op_add_str).or op_cat, so_add⟩
/-- an operator of two ints -/
theorem ro_int {op : Operator} {C : Int → Int → Prop} {g : Int → Int → Int} {f : D → D → Option D} (o : OpR X (binaryOp op) (rI C fun i j => .int (g i j)))
    (h : ∀ x y d, f x y = some d → ∃ i j, x = .int i ∧ y = .int j ∧ C i j ∧ d = .int (g i j)) : RO2 X cl W op (rI C fun i j => .int (g i j)) (o_flat f) := by
  refine ⟨o, so_flat (fun x y d e => ?_) fun x y d v w H Q e r1 r2 q => ?_⟩
  · obtain ⟨i, j, _, _, _, rfl⟩ := h x y d e; rfl
  · obtain ⟨i, j, rfl, rfl, c, rfl⟩ := h x y d e
    exact ⟨i, j, view_int r1, view_int r2, c, q⟩
theorem ro_int0 {op : Operator} {g : Int → Int → Int} {f : D → D → Option D} (o : OpR X (binaryOp op) (rI0 fun i j => .int (g i j)))
    (h : ∀ x y d, f x y = some d → ∃ i j, x = .int i ∧ y = .int j ∧ d = .int (g i j)) : RO2 X cl W op (rI0 fun i j => .int (g i j)) (o_flat f) := by
  refine ⟨o, so_flat (fun x y d e => ?_) fun x y d v w H Q e r1 r2 q => ?_⟩
  · obtain ⟨i, j, _, _, rfl⟩ := h x y d e; rfl
  · obtain ⟨i, j, rfl, rfl, rfl⟩ := h x y d e
    exact ⟨i, j, view_int r1, view_int r2, q⟩
theorem ro_sub : RO2 X cl W .Sub (rI0 fun i j => .int (i - j)) (o_flat g_sub) := ro_int0 op_sub fun x y d e => by
  cases x <;> cases y <;> simp [g_sub] at e
  exact ⟨_, _, rfl, rfl, e.symm⟩
theorem ro_mul : RO2 X cl W .Mult (rI CMul fun i j => .int (i * j)) (o_flat g_mul) := ro_int op_mul fun x y d e => by
  cases x <;> cases y <;> simp [g_mul] at e
  refine ⟨_, _, rfl, rfl, ?_, e.2.symm⟩
  have h := e.1
  simp only [mulOk, Bool.or_eq_true, Bool.and_eq_true, decide_eq_true_eq] at h
  exact h
theorem ro_fdiv : RO2 X cl W .FloorDiv (rI CDiv fun i j => .int (i / j)) (o_flat g_fdiv) := ro_int op_fdiv fun x y d e => by
  cases x <;> cases y <;> simp [g_fdiv] at e
  exact ⟨_, _, rfl, rfl, e.1, e.2.symm⟩
theorem ro_mod : RO2 X cl W .Mod (rI (fun _ j => 0 < j) fun i j => .int (i % j)) (o_flat g_mod) := ro_int op_mod fun x y d e => by
  cases x <;> cases y <;> simp [g_mod] at e
  exact ⟨_, _, rfl, rfl, e.1, e.2.symm⟩
theorem powOk_c {i j : Int} (h : powOk i j = true) : CPow i j := by
  simp only [powOk, Bool.and_eq_true, decide_eq_true_eq] at h
  exact ⟨h.1.1, h.1.2, h.2⟩
theorem ro_pow : RO2 X cl W .Pow (rI CPow fun i j => .int (i ^ j.toNat)) (o_flat g_pow) := ro_int op_pow fun x y d e => by
  cases x <;> cases y <;> simp [g_pow] at e
  exact ⟨_, _, rfl, rfl, powOk_c e.1, e.2.symm⟩
theorem ro_shl : RO2 X cl W .LShift (rI CPow fun i j => .int (i * 2 ^ j.toNat)) (o_flat g_shl) := ro_int op_shl fun x y d e => by
  cases x <;> cases y <;> simp [g_shl] at e
  exact ⟨_, _, rfl, rfl, powOk_c e.1, e.2.symm⟩
theorem ro_shr : RO2 X cl W .RShift (rI (fun _ j => 0 ≤ j) fun i j => .int (i / 2 ^ j.toNat)) (o_flat g_shr) := ro_int op_shr fun x y d e => by
  cases x <;> cases y <;> simp [g_shr] at e
  exact ⟨_, _, rfl, rfl, e.1, e.2.symm⟩
theorem ro_and : RO2 X cl W .BitAnd (rI0 fun i j => .int (Builtin.bitAnd i j)) (o_flat g_and) := ro_int0 op_and fun x y d e => by
  cases x <;> cases y <;> simp [g_and] at e
  exact ⟨_, _, rfl, rfl, e.symm⟩
theorem ro_or : RO2 X cl W .BitOr (rI0 fun i j => .int (Builtin.bitOr i j)) (o_flat g_or) := ro_int0 op_or fun x y d e => by
  cases x <;> cases y <;> simp [g_or] at e
  exact ⟨_, _, rfl, rfl, e.symm⟩
/-- a comparison of two ints -/
theorem rc_int {op : CmpOp} {g : Int → Int → Bool} {f : D → D → Option D} (o : OpR X (compareOp op) (rI0 fun i j => .bl (g i j)))
    (h : ∀ x y d, f x y = some d → ∃ i j, x = .int i ∧ y = .int j ∧ d = .bl (g i j)) : RC2 X cl W op (rI0 fun i j => .bl (g i j)) (o_flat f) := by
  refine ⟨o, so_flat (fun x y d e => ?_) fun x y d v w H Q e r1 r2 q => ?_⟩
  · obtain ⟨i, j, _, _, rfl⟩ := h x y d e; rfl
  · obtain ⟨i, j, rfl, rfl, rfl⟩ := h x y d e
    exact ⟨i, j, view_int r1, view_int r2, q⟩
theorem rc_lt : RC2 X cl W .Lt (rI0 fun i j => .bl (decide (i < j))) (o_flat g_lt) := rc_int op_lt fun x y d e => by
  cases x <;> cases y <;> simp [g_lt] at e
  exact ⟨_, _, rfl, rfl, e.symm⟩
theorem rc_le : RC2 X cl W .LtE (rI0 fun i j => .bl (decide (i ≤ j))) (o_flat g_le) := rc_int op_le fun x y d e => by
  cases x <;> cases y <;> simp [g_le] at e
  exact ⟨_, _, rfl, rfl, e.symm⟩
theorem rc_gt : RC2 X cl W .Gt (rI0 fun i j => .bl (decide (j < i))) (o_flat g_gt) := rc_int op_gt fun x y d e => by
  cases x <;> cases y <;> simp [g_gt] at e
  exact ⟨_, _, rfl, rfl, e.symm⟩
theorem rc_ge : RC2 X cl W .GtE (rI0 fun i j => .bl (decide (j ≤ i))) (o_flat g_ge) := rc_int op_ge fun x y d e => by
  cases x <;> cases y <;> simp [g_ge] at e
  exact ⟨_, _, rfl, rfl, e.symm⟩
theorem rc_eq {k : Nat} (hr : Room k X.A) : RC2 X cl W .Eq (rEqD X.K) (o_flat g_eq) := by
  refine ⟨op_eqD hr.units, so_flat (fun x y d e => ?_) fun x y d v w H Q e r1 r2 q => ?_⟩
  · unfold g_eq at e
    cases h : eqD x y with
    | none => rw [h] at e; cases e
    | some b => rw [h] at e; simp at e; subst e; rfl
  · unfold g_eq at e
    cases h : eqD x y with
    | none => rw [h] at e; cases e
    | some b =>
      rw [h] at e; simp at e; subst e
      obtain ⟨d1, d2, h1, h2, h3, h4, rfl⟩ := eqD_ok h r1 r2
      exact ⟨d1, d2, h1, h2, h3, h4, q⟩
theorem rc_ne {k : Nat} (hr : Room k X.A) : RC2 X cl W .NotEq (rNeD X.K) (o_flat g_ne) := by
  refine ⟨op_neD hr.units, so_flat (fun x y d e => ?_) fun x y d v w H Q e r1 r2 q => ?_⟩
  · unfold g_ne at e
    cases h : eqD x y with
    | none => rw [h] at e; cases e
    | some b => rw [h] at e; simp at e; subst e; rfl
  · unfold g_ne at e
    cases h : eqD x y with
    | none => rw [h] at e; cases e
    | some b =>
      rw [h] at e; simp at e; subst e
      obtain ⟨d1, d2, h1, h2, h3, h4, rfl⟩ := eqD_ok h r1 r2
      exact ⟨d1, d2, h1, h2, h3, h4, q⟩

/-! ### expressions -/
variable {a b e : Expr} {es : List Expr} {ta tb te : TE} {ma mb me : M Op} {tt tu : TT} {mt mu : M Bool} {pos : Pos} {rest : List Expr}
theorem je_var (i : Nat) {x : Str} {pos : Pos} (hN : X.N[i]? = some x := by rfl) (hv : Vis X.env.scope x := by first | exact Or.inl rfl | exact Or.inr (Or.inl rfl) | exact Or.inr (Or.inr rfl)) (hd : (x == ("__debug__" : Str)) = false := by decide)
    (hcd : (x == ("__classdict__" : Str)) = false := by decide) : JE X cl W (.Name x pos) (tVar i) (m_var i) := ⟨pe_var hN hv hd hcd, se_var⟩
theorem je_int {i j pos} : JE X cl W (.Constant (.int i) j pos) (tC (.int i)) (m_c (.int i)) := ⟨pe_int, se_c fun _ => .int _⟩
theorem je_bl {b j pos} : JE X cl W (.Constant (.bool b) j pos) (tC (.bl b)) (m_c (.bl b)) := ⟨pe_bl, se_c fun _ => .bl _⟩
theorem je_non {j pos} : JE X cl W (.Constant .none j pos) (tC .non) (m_c .non) := ⟨pe_non, se_c fun _ => .non⟩
theorem je_str {x j pos} : JE X cl W (.Constant (.str x) j pos) (tC (.str x)) (m_c (.str x)) := ⟨pe_str, se_c fun _ => .str _⟩
theorem je_op {op : Operator} {r : R2} {f : Op → Op → M Op} (ho : RO2 X cl W op r f) (ha : JE X cl W a ta ma) (hb : JE X cl W b tb mb) : JE X cl W (.BinOp a op b pos) (tOp r ta tb) (m_op f ma mb) :=
  ⟨pe_op ho.o ha.pe hb.pe, se_op ho.s ha.se hb.se⟩
theorem je_cmp {op : CmpOp} {r : R2} {f : Op → Op → M Op} (ho : RC2 X cl W op r f) (ha : JE X cl W a ta ma) (hb : JE X cl W b tb mb) (hm : behindInMarks op b = false := by first | exact nomark _ | rfl) : JE X cl W (.Compare a [op] [b] pos) (tOp r ta tb) (m_op f ma mb) :=
  ⟨pe_cmpR ho.o ha.pe hb.pe hm, se_op ho.s ha.se hb.se⟩
theorem je_neg (ha : JE X cl W a ta ma) : JE X cl W (.UnaryOp .USub a pos) (tUn (rU fun i => .int (-i)) ta) (m_un (u_flat u_neg) ma) :=
  ⟨pe_un un_neg ha.pe, se_un (su_flat (fun x d e => by cases x <;> simp [u_neg] at e; subst e; rfl) fun x d v H Q e r q => by
    cases x <;> simp [u_neg] at e
    subst e
    exact ⟨_, view_int r, q⟩) ha.se⟩
theorem isNon_iff {G : Hp} {d : D} {v : V} (r : RD K cl G d v) : decide (v = .non) = isNon d := by
  cases r <;> simp [isNon]
theorem je_isN {j pos'} (ha : JE X cl W a ta ma) : JE X cl W (.Compare a [.Is] [.Constant .none j pos'] pos) (tIsN ta) (m_un (u_flat u_isN) ma) :=
  ⟨pe_cmp (pc_isN ha.pe) rfl, se_un (r := fun x H Q => Q (.bl (decide (x = .non))) H) (su_flat (fun x d e => by simp [u_isN] at e; subst e; rfl) fun x d v H Q e r q => by
    simp [u_isN] at e
    subst e
    rw [isNon_iff r]; exact q) ha.se⟩
theorem je_notN {j pos'} (ha : JE X cl W a ta ma) : JE X cl W (.Compare a [.IsNot] [.Constant .none j pos'] pos) (tNotN ta) (m_un (u_flat u_notN) ma) :=
  ⟨pe_cmp (pc_notN ha.pe) rfl, se_un (r := fun x H Q => Q (.bl (!decide (x = .non))) H) (su_flat (fun x d e => by simp [u_notN] at e; subst e; rfl) fun x d v H Q e r q => by
    simp [u_notN] at e
    subst e
    rw [isNon_iff r]; exact q) ha.se⟩

/-! ### tests -/
theorem st_tB {t : TE} {m : M Op} (h : SE K cl W t m) : ST K cl W (tB t) (t_val m) := by
  intro B0 Fr fr pd ρ σ B H Q R k
  refine h B0 Fr fr pd ρ σ B H _ R (k.bind.imp fun a ρ1 _ h1 => ?_)
  intro v B1 H1 s1 R1
  obtain ⟨d, e, h1⟩ := vw_ok h1.bind
  have rd := R1.view e
  cases d with
  | bl b => exact ⟨b, view_bl rd, h1 B1 H1 s1 R1.tail⟩
  | _ => exact h1.elim
theorem jt_val (h : JE X cl W e te me) (he : ∀ whole, isTrue e X.env whole = (do let v ← whole; standAt e.pos; holding [v] (truthy v)) := by intro _; rfl) : JT X cl W e (tB te) (t_val me) := ⟨pt_val h.pe he, st_tB h.se⟩
theorem jt_cmp {op : CmpOp} {r : R2} {f : Op → Op → M Op} (ho : RC2 X cl W op r f) (ha : JE X cl W a ta ma) (hb : JE X cl W b tb mb) (hm : behindInMarks op b = false := by first | exact nomark _ | rfl) : JT X cl W (.Compare a [op] [b] pos) (tTest (tOp r ta tb)) (t_val (m_op f ma mb)) :=
  ⟨pt_cmpR ho.o ha.pe hb.pe hm, st_tB (se_op ho.s ha.se hb.se)⟩
theorem jt_isN {j pos'} (ha : JE X cl W a ta ma) : JT X cl W (.Compare a [.Is] [.Constant .none j pos'] pos) (tB (tIsN ta)) (t_val (m_un (u_flat u_isN) ma)) := ⟨pt_cmp (pc_isN ha.pe) rfl, st_tB (je_isN (pos := pos) (j := j) (pos' := pos') ha).se⟩
theorem jt_notN {j pos'} (ha : JE X cl W a ta ma) : JT X cl W (.Compare a [.IsNot] [.Constant .none j pos'] pos) (tB (tNotN ta)) (t_val (m_un (u_flat u_notN) ma)) := ⟨pt_cmp (pc_notN ha.pe) rfl, st_tB (je_notN (pos := pos) (j := j) (pos' := pos') ha).se⟩
theorem JW.jt (h : JW X cl W e tt mt) : JT X cl W e tt mt := ⟨h.pw.pt, h.st⟩
theorem jw_and1 (h : JT X cl W a tt mt) : JW X cl W (.BoolOp .And [a] pos) tt mt := ⟨pw_and1 h.pt, h.st⟩
theorem jw_or1 (h : JT X cl W a tt mt) : JW X cl W (.BoolOp .Or [a] pos) tt mt := ⟨pw_or1 h.pt, h.st⟩
theorem jw_and (h : JT X cl W a tt mt) (h2 : JW X cl W (.BoolOp .And (b :: rest) pos) tu mu) : JW X cl W (.BoolOp .And (a :: b :: rest) pos) (tAnd tt tu) (t_and mt mu) := by
  refine ⟨pw_and h.pt h2.pw, fun B0 Fr fr pd ρ σ B H Q R k => ?_⟩
  refine h.st B0 Fr fr pd ρ σ B H _ R (k.bind.imp fun x ρ1 _ h1 => ?_)
  intro B1 H1 s1 R1
  cases x with
  | true => exact h2.st B0 Fr fr pd ρ1 σ B1 H1 Q R1 (h1.imp fun y ρ2 _ h3 B2 H2 s2 R2 => h3 B2 H2 (s1.trans s2) R2)
  | false => exact h1 B1 H1 s1 R1
theorem jw_or (h : JT X cl W a tt mt) (h2 : JW X cl W (.BoolOp .Or (b :: rest) pos) tu mu) : JW X cl W (.BoolOp .Or (a :: b :: rest) pos) (tOr tt tu) (t_or mt mu) := by
  refine ⟨pw_or h.pt h2.pw, fun B0 Fr fr pd ρ σ B H Q R k => ?_⟩
  refine h.st B0 Fr fr pd ρ σ B H _ R (k.bind.imp fun x ρ1 _ h1 => ?_)
  intro B1 H1 s1 R1
  cases x with
  | false => exact h2.st B0 Fr fr pd ρ1 σ B1 H1 Q R1 (h1.imp fun y ρ2 _ h3 B2 H2 s2 R2 => h3 B2 H2 (s1.trans s2) R2)
  | true => exact h1 B1 H1 s1 R1
theorem jt_not (h : JT X cl W a tt mt) : JT X cl W (.UnaryOp .Not a pos) (tNot tt) (t_not mt) := by
  refine ⟨pt_not h.pt, fun B0 Fr fr pd ρ σ B H Q R k => ?_⟩
  refine h.st B0 Fr fr pd ρ σ B H _ R (k.bind.imp fun x ρ1 _ h1 => ?_)
  intro B1 H1 s1 R1
  exact h1 B1 H1 s1 R1
/-- and, or, not as values -/
theorem je_one {op} (h : JE X cl W a ta ma) : JE X cl W (.BoolOp op [a] pos) ta ma := ⟨pe_one h.pe, h.se⟩
theorem je_and (ha : JE X cl W a ta ma) (hb : JE X cl W (.BoolOp .And (b :: rest) pos) tb mb) : JE X cl W (.BoolOp .And (a :: b :: rest) pos) (tAndV ta tb) (m_and ma mb) := by
  refine ⟨pe_and ha.pe hb.pe, fun B0 Fr fr pd ρ σ B H Q R k => ?_⟩
  refine ha.se B0 Fr fr pd ρ σ B H _ R (k.bind.imp fun x ρ1 _ h1 => ?_)
  intro v B1 H1 s1 R1
  obtain ⟨d, e, h1⟩ := vw_ok h1.bind
  have rd := R1.view e
  cases d with
  | bl c =>
    refine ⟨c, view_bl rd, ?_⟩
    cases c with
    | true => exact hb.se B0 Fr fr pd ρ1 σ B1 H1 Q R1.tail (h1.imp fun y ρ2 _ h3 v B2 H2 s2 R2 => h3 v B2 H2 (s1.trans s2) R2)
    | false => exact h1 _ B1 H1 s1 (R1.tail.push (.bl false))
  | _ => exact h1.elim
theorem je_or (ha : JE X cl W a ta ma) (hb : JE X cl W (.BoolOp .Or (b :: rest) pos) tb mb) : JE X cl W (.BoolOp .Or (a :: b :: rest) pos) (tOrV ta tb) (m_or ma mb) := by
  refine ⟨pe_or ha.pe hb.pe, fun B0 Fr fr pd ρ σ B H Q R k => ?_⟩
  refine ha.se B0 Fr fr pd ρ σ B H _ R (k.bind.imp fun x ρ1 _ h1 => ?_)
  intro v B1 H1 s1 R1
  obtain ⟨d, e, h1⟩ := vw_ok h1.bind
  have rd := R1.view e
  cases d with
  | bl c =>
    refine ⟨c, view_bl rd, ?_⟩
    cases c with
    | false => exact hb.se B0 Fr fr pd ρ1 σ B1 H1 Q R1.tail (h1.imp fun y ρ2 _ h3 v B2 H2 s2 R2 => h3 v B2 H2 (s1.trans s2) R2)
    | true => exact h1 _ B1 H1 s1 (R1.tail.push (.bl true))
  | _ => exact h1.elim
theorem je_not (ha : JE X cl W a ta ma) : JE X cl W (.UnaryOp .Not a pos) (tNotV ta) (m_un (u_flat u_not) ma) :=
  ⟨pe_not ha.pe, se_un (r := fun x H Q => ∃ c, x = .bl c ∧ Q (.bl (!c)) H) (su_flat (fun x d e => by cases x <;> simp [u_not] at e; subst e; rfl) fun x d v H Q e r q => by
    cases x <;> simp [u_not] at e
    subst e
    exact ⟨_, view_bl r, q⟩) ha.se⟩

/-! ### arguments, displays -/
theorem ja_nil : JA X cl W [] tNil m_args0 := ⟨pa_nil, fun B0 Fr fr pd ρ σ B H Q R k => k [] B H rfl (Same.refl _) R⟩
theorem zip_mid {α β : Type} (x : α) (y : β) (l : List (α × β)) (r : List (α × β)) : (l ++ (x, y) :: r).Perm ((x, y) :: (l ++ r)) := List.perm_middle
theorem ja_cons (ha : JE X cl W e te me) {t : TA} {m : M (List Op)} (hr : JA X cl W es t m) (hs : starEach (e :: es) X.env = (false, eval e X.env) :: starEach es X.env := by rfl) : JA X cl W (e :: es) (tCons te t) (m_args me m) := by
  refine ⟨pa_cons ha.pe hr.pa hs, fun B0 Fr fr pd ρ σ B H Q R k => ?_⟩
  refine ha.se B0 Fr fr pd ρ σ B H _ R (k.bind.imp fun x ρ1 _ h1 => ?_)
  intro v B1 H1 s1 R1
  refine hr.sa B0 Fr fr ((x, v) :: pd) ρ1 σ B1 H1 _ R1 (h1.bind.imp fun xs ρ2 _ h2 => ?_)
  intro vs B2 H2 l s2 R2
  exact h2 (v :: vs) B2 H2 (by simp [l]) (s1.trans s2) (R2.perm (zip_mid x v _ _))
theorem Rel.own {op : Op} {v : V} {k : OD → Dv.Env → Prop} (R : Rel K cl B0 Fr ((op, v) :: pd) ρ σ B H) (h : Pst K cl W B0 Fr fr (own op ρ) k) :
    ∃ od ρ' B', k od ρ' ∧ Same B B' ∧ Rel K cl B0 Fr ((.v od, v) :: pd) ρ' σ B' H := by
  unfold Dv.own at h
  cases op with
  | v od => exact ⟨od, ρ, B, h, Same.refl _, R⟩
  | late i path =>
    simp only at h
    cases e : (Op.late i path).view ρ with
    | none => rw [e] at h; exact h.elim
    | some d =>
      rw [e] at h
      -- freeze the slot; the place is shared in the new base
      unfold Op.view at e
      cases q : (Op.late i path).at? ρ with
      | none =>
        rw [q] at e
        simp only at e
        cases q0 : (ρ[i]?).bind id with
        | none => rw [q0] at e; cases e
        | some od0 =>
          rw [q0] at e
          cases od0 with
          | sh d0 =>
            simp only at e
            obtain ⟨B', g1, v0, s, R', e1, ro, fz⟩ := R.tail.thaw q0
            obtain ⟨f, g, rp, rs, u, o⟩ := R.ow
            cases rp with
            | @late _ _ v0' _ _ _ h1 p1 r1 =>
              rw [h1] at e1; cases e1
              exact ⟨_, _, B', h, s, R'.push ((fz _ _ _ ro fun _ => Nat.le_refl _).atL R'.sB e p1)⟩
          | _ => cases e
      | some od =>
        rw [q] at e
        simp only [Option.some.injEq] at e
        subst e
        simp only [Op.at?] at q
        cases q0 : (ρ[i]?).bind id with
        | none => rw [q0] at q; cases q
        | some od0 =>
          rw [q0] at q
          obtain ⟨B', g1, v0, s, R', e1, ro, fz⟩ := R.tail.thaw q0
          obtain ⟨f, g, rp, rs, u, o⟩ := R.ow
          cases rp with
          | @late _ _ v0' _ _ _ h1 p1 r1 =>
            rw [h1] at e1; cases e1
            obtain ⟨g3, ro3, l3⟩ := ro.path q p1
            exact ⟨_, _, B', h, s, R'.push (fz _ _ _ ro3 l3)⟩
theorem Rel.owns : ∀ {ops : List Op} {vs : List V} {pd : List (Op × V)} {ρ : Dv.Env} {B : Hp} {k : List OD → Dv.Env → Prop}, ops.length = vs.length → Rel K cl B0 Fr (ops.zip vs ++ pd) ρ σ B H → Pst K cl W B0 Fr fr (Dv.owns ops ρ) k →
    ∃ ods ρ' B', k ods ρ' ∧ ods.length = vs.length ∧ Same B B' ∧ Rel K cl B0 Fr ((ods.map Op.v).zip vs ++ pd) ρ' σ B' H := by
  intro ops
  induction ops with
  | nil =>
    intro vs pd ρ B k l R h
    cases vs with
    | nil => exact ⟨[], ρ, B, h, rfl, Same.refl _, R⟩
    | cons _ _ => cases l
  | cons x xs ih =>
    intro vs pd ρ B k l R h
    cases vs with
    | nil => cases l
    | cons v vs =>
      have R' : Rel K cl B0 Fr ((x, v) :: (xs.zip vs ++ pd)) ρ σ B H := R
      obtain ⟨od, ρ1, B1, h1, s1, R1⟩ := R'.own h.bind
      obtain ⟨ods, ρ2, B2, h2, l2, s2, R2⟩ := ih (pd := (.v od, v) :: pd) (by simpa using l) (R1.perm (zip_mid _ _ _ _).symm) h1.bind
      exact ⟨od :: ods, ρ2, B2, h2, by simp [l2], s1.trans s2, R2.perm (zip_mid _ _ _ _)⟩
end
end Dv
end

section
set_option Elab.async false
set_option linter.all false
set_option maxRecDepth 100000
set_option maxHeartbeats 4000000
set_option autoImplicit false
/-! Dv6: displays, items, slices; a def's promise and its call; statements. -/
namespace Dv
open PySem PySem.Spec PyProof.Rows L2

/-- what a def gives -/
inductive Out where
  | ok (od : OD)
  | exc (c : Str)
  | stuck
def optA (f : D → Option Int) (op : Op) : M (Option Int) := do
  let d ← vw op
  match f d with
  | some i => pure (some i)
  | none => stop
def asInt : D → Option Int
  | .int i => some i
  | _ => none
def p_none : M (Option Int) := pure none
def p_some (m : M Op) : M (Option Int) := do
  let a ← m
  optA asInt a
def cutD (xs : List D) (lo hi : Option Int) : List D := (xs.drop (HT.sIx xs.length 0 lo)).take (HT.sIx xs.length xs.length hi - HT.sIx xs.length 0 lo)
def o_slice (a : Op) (lo hi : Option Int) : M Op := fun ρ => match a.view ρ with
  | some (.str z) => if szOk z.length then .ok (sh (.str (cutS z lo hi))) ρ else .stuck
  | some (.tup _) => (do
      let x ← own a
      match x.toD with
      | .tup es => if HT.sIx es.length 0 lo = 0 ∧ HT.sIx es.length es.length hi = es.length then stop else pure (sh (.tup (cutD es lo hi)))
      | _ => stop : M Op) ρ
  | some (.lst _) => (do
      let ds ← els a
      pure (newL (cutD ds lo hi)) : M Op) ρ
  | _ => .stuck
def m_slice (ma : M Op) (ml mh : M (Option Int)) : M Op := do
  let a ← ma
  let l ← ml
  let h ← mh
  o_slice a l h
/-- a[i] -/
def o_ix (a b : Op) : M Op := fun ρ => match b.view ρ with
  | some (.int i) => (match a.at? ρ with
    | some (.sh (.lst ds)) => (match atI ds i with | some d => .ok (sh d) ρ | none => .stuck)
    | some (.sh (.tup ds)) => (match atI ds i with | some d => .ok (sh d) ρ | none => .stuck)
    | some (.sh (.scr ns)) => (match atI ns i with | some n => .ok (sh (.int n)) ρ | none => .stuck)
    | some (.sh (.str z)) => (match atI z.cps.toList i with | some c => if szOk z.length then .ok (sh (.str ⟨#[c]⟩)) ρ else .stuck | none => .stuck)
    | some (.ls xs) => (match a with
      | .v _ => (match atI (OD.toDs xs) i with | some d => .ok (sh d) ρ | none => .stuck)
      | .late j path => (match ixN xs.length i with
        | some k => (match xs[k]? with
          | some (.sh d) => .ok (sh d) ρ
          | some _ => .ok (.late j (path ++ [k])) ρ
          | none => .stuck)
        | none => .stuck))
    | some (.tp xs) => (match a with
      | .v _ => (match atI (OD.toDs xs) i with | some d => .ok (sh d) ρ | none => .stuck)
      | .late j path => (match ixN xs.length i with
        | some k => (match xs[k]? with
          | some (.sh d) => .ok (sh d) ρ
          | some _ => .ok (.late j (path ++ [k])) ρ
          | none => .stuck)
        | none => .stuck))
    | _ => .stuck)
  | _ => .stuck

section
variable {K : PySem.W.Frag} {cl : Str → Addr} {W : WX} {B0 Fr : Hp} {fr : List (D × V)} {pd pd' : List (Op × V)} {ρ ρ' : Dv.Env} {σ : L2.St} {B H B' H' : Hp} {X : Cx}
variable {a b e : Expr} {es : List Expr} {ta tb te : TE} {ma mb me : M Op} {tt tu : TT} {mt mu : M Bool} {pos : Pos} {rest : List Expr} {tas : TA} {mas : M (List Op)}

theorem guard_ok {b : Bool} {k : Unit → Dv.Env → Prop} (h : Pst K cl W B0 Fr fr (guard' b ρ) k) : b = true ∧ k () ρ := by
  unfold guard' at h
  split at h
  · exact ⟨by assumption, h⟩
  · exact h.elim
/-! ### displays -/
theorem RP.toROs {B H : Hp} {σ : L2.St} : ∀ {ods : List OD} {vs : List V} {f : Addr → Nat}, ods.length = vs.length → RP K cl B H σ ((ods.map Op.v).zip vs) f → ∃ g, ROs K cl B H ods vs g ∧ ∀ a, g a = f a
  | [], [], f, _, .nil z => ⟨f, .nil z, fun _ => rfl⟩
  | [], _ :: _, f, l, _ => by cases l
  | x :: xs, [], f, l, _ => by cases l
  | x :: xs, w :: vs, f, l, .v h r e => by
    obtain ⟨g, r', e'⟩ := RP.toROs (by simpa using l) r
    exact ⟨f, .cons h r' (fun a => by rw [e, e']), fun _ => rfl⟩
/-- a new list of what is on top -/
theorem Rel.packL {ods : List OD} {vs : List V} {p : Addr} (l : ods.length = vs.length) (R : Rel K cl B0 Fr ((ods.map Op.v).zip vs ++ pd) ρ σ B H) (hp : H p = none) :
    Rel K cl B0 Fr ((.v (.ls ods), .ref p) :: pd) ρ σ B (upd H p (.lst vs)) := by
  have k : Same H (upd H p (.lst vs)) := fun a x e => by rw [upd_ne (ne_of_none e hp)]; exact e
  obtain ⟨f, g, rp, rs, u, o⟩ := R.ow
  obtain ⟨f1, f2, rp1, rp2, fe⟩ := rp.append
  obtain ⟨g1, ro, ge⟩ := rp1.toROs l
  have there : ∀ a, 0 < f a + g a → H a ≠ none := fun a ha => by
    by_cases q : 0 < f a
    · exact rp.there a q
    · exact rs.there a (by omega)
  have kp : ∀ a, 0 < f a + g a → (upd H p (.lst vs)) a = H a := fun a ha => upd_ne (ne_of_none (Option.ne_none_iff_exists'.mp (there a ha)).choose_spec hp)
  have np : f p + g p = 0 := by
    cases q : f p + g p with
    | zero => rfl
    | succ n => exact absurd hp (there p (by omega))
  refine ⟨R.s0, R.sB.trans k, R.sF.trans k, R.nw, _, g, .v (.ls upd_same (ro.mono (Same.refl _) fun a ha => kp a (by rw [ge] at ha; rw [fe]; omega)) fun _ => rfl) (rp2.mono (Same.refl _) k fun a ha => kp a (by rw [fe]; omega)) (fun _ => rfl),
    rs.mono (Same.refl _) fun a ha => kp a (by omega), fun a => ?_, fun a ha => ?_⟩
  · rw [ge]
    have := u a
    rw [fe] at this
    split
    · rename_i e; subst e
      rw [fe] at np
      omega
    · omega
  · rw [ge] at ha
    by_cases e : a = p
    · subst e
      constructor
      · cases w : Fr a with
        | none => rfl
        | some x => rw [R.sF _ _ w] at hp; cases hp
      · cases w : B a with
        | none => rfl
        | some x => rw [R.sB _ _ w] at hp; cases hp
    · rw [if_neg e] at ha
      exact o a (by rw [fe]; omega)
/-- all on top become shared -/
theorem Rel.shares : ∀ {ods : List OD} {vs : List V} {pd : List (Op × V)} {B : Hp}, ods.length = vs.length → Rel K cl B0 Fr ((ods.map Op.v).zip vs ++ pd) ρ σ B H → ∃ B', Same B B' ∧ Rel K cl B0 Fr pd ρ σ B' H ∧ RDs K cl B' (OD.toDs ods) vs := by
  intro ods
  induction ods with
  | nil =>
    intro vs pd B l R
    cases vs with
    | nil => exact ⟨B, Same.refl _, R, .nil⟩
    | cons _ _ => cases l
  | cons x xs ih =>
    intro vs pd B l R
    cases vs with
    | nil => cases l
    | cons v vs =>
      have R' : Rel K cl B0 Fr ((.v x, v) :: ((xs.map Op.v).zip vs ++ pd)) ρ σ B H := R
      obtain ⟨B1, s1, R1, r1⟩ := R'.share
      obtain ⟨B2, s2, R2, r2⟩ := ih (by simpa using l) R1
      exact ⟨B2, s1.trans s2, R2, .cons (r1.mono s2) r2⟩
theorem je_lst (h : JA X cl W es tas mas) : JE X cl W (.List es pos) (tLst tas) (m_lst mas) := by
  refine ⟨pe_lst h.pa, fun B0 Fr fr pd ρ σ B H Q R k => ?_⟩
  refine h.sa B0 Fr fr pd ρ σ B H _ R (k.bind.imp fun ops ρ1 _ h1 => ?_)
  intro vs B1 H1 l s1 R1
  obtain ⟨ods, ρ2, B2, h2, l2, s2, R2⟩ := R1.owns l h1.bind
  obtain ⟨hz, h3⟩ := guard_ok h2.bind
  have hz' := szOk_le hz
  rw [l2] at hz'
  refine ⟨hz', fun p hp => ?_⟩
  exact h3 (.ref p) B2 _ (s1.trans fun a o e => by rw [upd_ne (ne_of_none e hp)]; exact e) (R2.packL l2 hp)
theorem je_tup {x1} (h : JA X cl W es tas mas) : JE X cl W (.Tuple es x1 pos) (tTup tas) (m_tup mas) := by
  refine ⟨pe_tup h.pa, fun B0 Fr fr pd ρ σ B H Q R k => ?_⟩
  refine h.sa B0 Fr fr pd ρ σ B H _ R (k.bind.imp fun ops ρ1 _ h1 => ?_)
  intro vs B1 H1 l s1 R1
  obtain ⟨ods, ρ2, B2, h2, l2, s2, R2⟩ := R1.owns l h1.bind
  obtain ⟨hz, h3⟩ := guard_ok h2.bind
  obtain ⟨B3, s3, R3, rd⟩ := R2.shares l2
  have hz' := szOk_le hz
  rw [l2] at hz'
  refine ⟨hz', fun p hp => ?_⟩
  exact h3 (.ref p) _ _ (s1.trans fun a o e => by rw [upd_ne (ne_of_none e hp)]; exact e) (R3.newT hp rd)

/-! ### items -/
theorem atI_map {α β : Type} {f : α → β} {xs : List α} {i : Int} {y : α} (h : atI xs i = some y) : atI (xs.map f) i = some (f y) := by
  unfold atI at *
  rw [List.length_map]
  cases e : ixN xs.length i with
  | none => rw [e] at h; cases h
  | some k => rw [e] at h; rw [Option.bind_some] at h ⊢; rw [List.getElem?_map, h]; rfl
theorem atI_rds {G : Hp} {ds : List D} {vs : List V} {i : Int} {d : D} (r : RDs K cl G ds vs) (h : atI ds i = some d) : ∃ v, atI vs i = some v ∧ RD K cl G d v := by
  unfold atI at *
  rw [← r.length]
  cases e : ixN ds.length i with
  | none => rw [e] at h; cases h
  | some k =>
    rw [e, Option.bind_some] at h
    obtain ⟨v, h1, h2⟩ := r.get h
    exact ⟨v, by rw [Option.bind_some]; exact h1, h2⟩
theorem ROs.get {B H : Hp} : ∀ {xs : List OD} {vs : List V} {f : Addr → Nat} {k : Nat} {x : OD}, ROs K cl B H xs vs f → xs[k]? = some x → ∃ w g, vs[k]? = some w ∧ RO K cl B H x w g
  | _, _, _, k, x, .nil _, e => by simp at e
  | _, _, _, 0, x, .cons h r z, e => by simp at e; subst e; exact ⟨_, _, rfl, h⟩
  | _, _, _, k + 1, x, .cons h r z, e => by
    obtain ⟨w, g, h1, h2⟩ := ROs.get (k := k) r (by simpa using e)
    exact ⟨w, g, by simpa using h1, h2⟩
theorem Pth.snoc {H : Hp} {v0 : V} {path : List Nat} {p : Addr} {vs : List V} {k : Nat} {w : V} (h : Pth H v0 path (.ref p)) (hp : H p = some (.lst vs) ∨ H p = some (.tup vs)) (hk : vs[k]? = some w) : Pth H v0 (path ++ [k]) w := by
  generalize hv : V.ref p = v at h
  induction h with
  | nil =>
    subst hv
    rcases hp with hp | hp
    · exact .lst hp hk .nil
    · exact .tup hp hk .nil
  | lst h1 h2 _ ih => exact .lst h1 h2 (ih hv)
  | tup h1 h2 _ ih => exact .tup h1 h2 (ih hv)
theorem so_ix : SO K cl W (rIx K) o_ix := by
  intro B0 Fr fr pd a b x y ρ σ B H Q R h
  unfold o_ix at h
  cases eb : b.view ρ with
  | none => rw [eb] at h; exact h.elim
  | some db =>
    rw [eb] at h
    cases db with
    | int i =>
      obtain rfl := view_int (R.view eb)
      simp only at h
      cases ea : a.at? ρ with
      | none => rw [ea] at h; exact h.elim
      | some od =>
        rw [ea] at h
        have Rt := R.tail
        obtain ⟨f, ro⟩ := Rt.node ea
        cases od with
        | sh d =>
          cases ro with
          | sh rd z =>
            cases d with
            | lst ds =>
              simp only at h
              cases rd with
              | lst hp r =>
                cases ed : atI ds i with
                | none => rw [ed] at h; exact h.elim
                | some d =>
                  rw [ed] at h
                  obtain ⟨v, h1, h2⟩ := atI_rds r ed
                  exact .inl ⟨_, _, _, v, rfl, rfl, SqL.of (R.sB _ _ hp), h1, h v B H (Same.refl _) (Rt.tail.push h2)⟩
            | tup ds =>
              simp only at h
              cases rd with
              | tup hp r =>
                cases ed : atI ds i with
                | none => rw [ed] at h; exact h.elim
                | some d =>
                  rw [ed] at h
                  obtain ⟨v, h1, h2⟩ := atI_rds r ed
                  exact .inr (.inl ⟨_, _, _, v, rfl, rfl, sqT_same R.sB hp, h1, h v B H (Same.refl _) (Rt.tail.push h2)⟩)
            | scr ns =>
              simp only at h
              cases rd with
              | scr hp =>
                cases ed : atI ns i with
                | none => rw [ed] at h; exact h.elim
                | some n =>
                  rw [ed] at h
                  exact .inl ⟨_, _, _, .int n, rfl, rfl, R.sB.seq hp, atI_map ed, h _ B H (Same.refl _) (Rt.tail.push (.int n))⟩
            | str z =>
              simp only at h
              cases rd with
              | str =>
                cases ed : atI z.cps.toList i with
                | none => rw [ed] at h; exact h.elim
                | some c =>
                  rw [ed] at h
                  simp only at h
                  split at h
                  · rename_i hz
                    exact .inr (.inr ⟨z, i, c, rfl, rfl, szOk_le hz, ed, h _ B H (Same.refl _) (Rt.tail.push (.str _))⟩)
                  · exact h.elim
            | _ => exact h.elim
        | ls xs =>
          simp only at h
          cases a with
          | v od =>
            simp only [Op.at?, Option.some.injEq] at ea
            subst ea
            simp only at h
            obtain ⟨B', s, R', rd⟩ := Rt.share
            cases rd with
            | lst hp r =>
              cases ed : atI (OD.toDs xs) i with
              | none => rw [ed] at h; exact h.elim
              | some d =>
                rw [ed] at h
                obtain ⟨v, h1, h2⟩ := atI_rds r ed
                exact .inl ⟨_, _, _, v, rfl, rfl, SqL.of (R'.sB _ _ hp), h1, h v B' H (Same.refl _) (R'.push h2)⟩
          | late j path =>
            simp only at h
            cases ro with
            | @ls p _ vs _ _ hp r z =>
              cases ek : ixN xs.length i with
              | none => rw [ek] at h; exact h.elim
              | some k =>
                rw [ek] at h
                simp only at h
                have lx := r.length
                have at1 : ∀ w, vs[k]? = some w → atI vs i = some w := fun w hw => by
                  unfold atI; rw [← lx, ek, Option.bind_some]; exact hw
                cases ex : xs[k]? with
                | none => rw [ex] at h; exact h.elim
                | some x =>
                  rw [ex] at h
                  obtain ⟨w, g, h1, h2⟩ := r.get ex
                  obtain ⟨fa, ga, rp, rs, u, o⟩ := Rt.ow
                  have snoc : Rel K cl B0 Fr ((Op.late j (path ++ [k]), w) :: pd) ρ σ B H := by
                    cases rp with
                    | late e1 p1 rp => exact ⟨R.s0, R.sB, R.sF, R.nw, _, _, .late e1 (p1.snoc (.inl hp) h1) rp, rs, u, o⟩
                  refine .inl ⟨p, vs, i, w, rfl, rfl, SqL.of hp, at1 w h1, ?_⟩
                  cases x with
                  | sh d => cases h2 with | sh rd z => exact h w B H (Same.refl _) (Rt.tail.push rd)
                  | _ => exact h w B H (Same.refl _) snoc
        | tp xs =>
          simp only at h
          cases a with
          | v od =>
            simp only [Op.at?, Option.some.injEq] at ea
            subst ea
            simp only at h
            obtain ⟨B', s, R', rd⟩ := Rt.share
            cases rd with
            | tup hp r =>
              cases ed : atI (OD.toDs xs) i with
              | none => rw [ed] at h; exact h.elim
              | some d =>
                rw [ed] at h
                obtain ⟨v, h1, h2⟩ := atI_rds r ed
                exact .inr (.inl ⟨_, _, _, v, rfl, rfl, sqT_same R'.sB hp, h1, h v B' H (Same.refl _) (R'.push h2)⟩)
          | late j path =>
            simp only at h
            cases ro with
            | @tp p _ vs _ _ hp r z =>
              cases ek : ixN xs.length i with
              | none => rw [ek] at h; exact h.elim
              | some k =>
                rw [ek] at h
                simp only at h
                have lx := r.length
                have at1 : ∀ w, vs[k]? = some w → atI vs i = some w := fun w hw => by
                  unfold atI; rw [← lx, ek, Option.bind_some]; exact hw
                cases ex : xs[k]? with
                | none => rw [ex] at h; exact h.elim
                | some x =>
                  rw [ex] at h
                  obtain ⟨w, g, h1, h2⟩ := r.get ex
                  obtain ⟨fa, ga, rp, rs, u, o⟩ := Rt.ow
                  have snoc : Rel K cl B0 Fr ((Op.late j (path ++ [k]), w) :: pd) ρ σ B H := by
                    cases rp with
                    | late e1 p1 rp => exact ⟨R.s0, R.sB, R.sF, R.nw, _, _, .late e1 (p1.snoc (.inr hp) h1) rp, rs, u, o⟩
                  refine .inr (.inl ⟨p, vs, i, w, rfl, rfl, SqT.of hp, at1 w h1, ?_⟩)
                  cases x with
                  | sh d => cases h2 with | sh rd z => exact h w B H (Same.refl _) (Rt.tail.push rd)
                  | _ => exact h w B H (Same.refl _) snoc
        | _ => exact h.elim
    | _ => exact h.elim
theorem je_ix (ha : JE X cl W a ta ma) (hb : JE X cl W b tb mb) (hs : PlainIx b := by exact fun _ _ => rfl) : JE X cl W (.Subscript a b pos) (tOp (rIx X.K) ta tb) (m_op o_ix ma mb) :=
  ⟨pe_ix ix_seq ha.pe hb.pe hs, se_op so_ix ha.se hb.se⟩
end
end Dv
end

section
set_option Elab.async false
set_option linter.all false
set_option maxRecDepth 100000
set_option maxHeartbeats 4000000
set_option autoImplicit false
/-! Dv7: a def's promise, its call, its body; plain statements. -/
namespace Dv
open PySem PySem.Spec PyProof.Rows L2

inductive Fl where
  | nx | bk | ct
  | rt (od : OD)
abbrev Fn := List D → Out

mutual
def OD.own : OD → Bool
  | .sh d => d.flat
  | .ls xs => OD.owns xs
  | .tp xs => OD.owns xs
  | .is _ _ _ => false
def OD.owns : List OD → Bool
  | [] => true
  | x :: xs => x.own && OD.owns xs
end
/-- a call; dds: the defaults that fill up -/
def runCall (F : Fn) (dds : List D) (ops : List Op) : M Op := fun ρ => match Dv.owns ops ρ with
  | .ok ods ρ2 => (match F (OD.toDs ods ++ dds) with
    | .ok od => if od.own then .ok (.v od) ρ else .ok (.v od) ρ2
    | .exc c => .exc c ρ
    | .stuck => .stuck)
  | _ => .stuck
def m_call (F : Fn) (dds : List D) (ma : M (List Op)) : M Op := do
  let ops ← ma
  runCall F dds ops
/-- a body as a def -/
def runF (n : Nat) (m : M Fl) : Fn := fun ds => match m (ds.map (fun d => some (.sh d)) ++ List.replicate (n - ds.length) none) with
  | .ok (.rt od) _ => .ok od
  | .ok .nx _ => .ok (.sh .non)
  | .exc c _ => .exc c
  | _ => .stuck
def s_seq (a b : M Fl) : M Fl := do
  let f ← a
  match f with
  | .nx => b
  | f => pure f
def s_nx : M Fl := pure .nx
def s_bk : M Fl := pure .bk
def s_ct : M Fl := pure .ct
def s_expr (m : M Op) : M Fl := do
  let _ ← m
  pure .nx
/-- return e: what stands in a slot of its own is handed on -/
def give (op : Op) : M OD := fun ρ => match op with
  | .v od => .ok od ρ
  | .late i path => match path with
    | [] => (match (ρ[i]?).bind id with
      | some od => .ok od (ρ.set i none)
      | none => .stuck)
    | _ :: _ => own (.late i path) ρ
def s_ret (m : M Op) : M Fl := do
  let a ← m
  let od ← give a
  pure (.rt od)
def s_retN : M Fl := pure (.rt (.sh .non))
def s_if (c : M Bool) (a b : M Fl) : M Fl := do
  let x ← c
  if x then a else b
/-- a target -/
abbrev G := OD → M Unit
def g_name (i : Nat) : G := fun od ρ => if i < ρ.length then .ok () (ρ.set i (some od)) else .stuck
def g_list : List G → List OD → M Unit
  | [], [] => pure ()
  | g :: gs, x :: xs => do
    g x
    g_list gs xs
  | _, _ => stop
def g_tup (gs : List G) : G := fun od => match od with
  | .sh (.tup ds) => if ds.length = gs.length then g_list gs (ds.map OD.sh) else stop
  | .tp xs => if xs.length = gs.length then g_list gs xs else stop
  | _ => stop
def s_asg (m : M Op) (g : G) : M Fl := do
  let a ← m
  let od ← own a
  g od
  pure .nx
def s_par (i j : Nat) (m : M (List Op)) : M Fl := do
  let ops ← m
  let ods ← owns ops
  match ods with
  | [x, y] => do
    g_name i x
    g_name j y
    pure .nx
  | _ => stop
def s_raise (c : Str) : M Fl := fun ρ => .exc c ρ

section
variable (K : PySem.W.Frag) (cl : Str → Addr)
/-- a def's promise -/
def spF (n : Nat) (F : Fn) : Sp := fun vs H Q E => ∃ B ds, Same B H ∧ RDs K cl B ds vs ∧ vs.length = n ∧ match F ds with
  | .ok od => ∀ v B' H', Ext B H B' H' → (∃ f, RO K cl B' H' od v f ∧ (∀ a, f a ≤ 1) ∧ ∀ a, 0 < f a → H a = none ∧ B' a = none) → Q v H'
  | .exc c => ∀ B' H', Ext B H B' H' → E (.ref (cl c)) none H'
  | .stuck => False
variable (W : WX)
def PoS (B0 Fr : Hp) (fr : List (D × V)) (Dn : Ends) (fl : Fl) (ρ' : Dv.Env) : Prop := match fl with
  | .nx => ∀ σ' B' H', Rel K cl B0 Fr (pdS fr) ρ' σ' B' H' → Dn.nx σ' H'
  | .bk => ∀ σ' B' H', Rel K cl B0 Fr (pdS fr) ρ' σ' B' H' → Dn.bk σ' H'
  | .ct => ∀ σ' B' H', Rel K cl B0 Fr (pdS fr) ρ' σ' B' H' → Dn.ct σ' H'
  | .rt od => ∀ v σ' B' H', Rel K cl B0 Fr ((.v od, v) :: pdS fr) ρ' σ' B' H' → Dn.rt v H'
def SS (t : TS) (m : M Fl) : Prop := ∀ B0 Fr fr ρ σ B H Dn, Rel K cl B0 Fr (pdS fr) ρ σ B H → Pst K cl W B0 Fr fr (m ρ) (PoS K cl B0 Fr fr Dn) → t Dn σ H
/-- no place of a slot is pending -/
def allV (pd : List (Op × V)) : Prop := ∀ x ∈ pd, ∃ od, x.1 = .v od
def SG (t : TG) (g : G) : Prop := ∀ B0 Fr fr pd od v ρ σ B H Q, allV pd → Rel K cl B0 Fr ((.v od, v) :: (pd ++ pdS fr)) ρ σ B H →
  Pst K cl W B0 Fr fr (g od ρ) (fun _ ρ' => ∀ σ' B' H', Same H H' → Rel K cl B0 Fr (pd ++ pdS fr) ρ' σ' B' H' → Q σ' H') → t v σ H Q
end
structure JS (X : Cx) (cl : Str → Addr) (W : WX) (st : Stmt) (t : TS) (m : M Fl) : Prop where
  ps : PS X st t
  ss : SS X.K cl W t m
structure JSs (X : Cx) (cl : Str → Addr) (W : WX) (st : List Stmt) (t : TS) (m : M Fl) : Prop where
  ps : PSs X st t
  ss : SS X.K cl W t m
structure JG (X : Cx) (cl : Str → Addr) (W : WX) (e : Expr) (t : TG) (g : G) : Prop where
  pg : PG X e t
  sg : SG X.K cl W t g

section
variable {K : PySem.W.Frag} {cl : Str → Addr} {W : WX} {B0 Fr : Hp} {fr : List (D × V)} {pd pd' : List (Op × V)} {ρ ρ' : Dv.Env} {σ : L2.St} {B H B' H' : Hp} {X : Cx}
variable {a b e : Expr} {es : List Expr} {ta tb te : TE} {ma mb me : M Op} {tt tu : TT} {mt mu : M Bool} {pos : Pos} {rest : List Expr} {tas : TA} {mas : M (List Op)}
mutual
theorem RO.own {G G2 G' : Hp} : ∀ {od : OD} {v : V} {f : Addr → Nat}, od.own = true → RO K cl G G' od v f → RO K cl G2 G' od v f
  | .sh d, v, f, e, .sh rd z => by
    have e' := flat_v (d := d) e rd
    subst e'
    exact .sh (flat_rd e) z
  | .ls xs, _, _, e, .ls h r z => .ls h (ROs.own e r) z
  | .tp xs, _, _, e, .tp h r z => .tp h (ROs.own e r) z
theorem ROs.own {G G2 G' : Hp} : ∀ {xs : List OD} {vs : List V} {f : Addr → Nat}, OD.owns xs = true → ROs K cl G G' xs vs f → ROs K cl G2 G' xs vs f
  | [], _, _, _, .nil z => .nil z
  | x :: xs, _, _, e, .cons h r z => by
    have e1 : x.own = true ∧ OD.owns xs = true := by
      have e2 : (x.own && OD.owns xs) = true := e
      simpa [Bool.and_eq_true] using e2
    exact .cons (RO.own e1.1 h) (ROs.own e1.2 r) z
end
theorem owns_ok {ops : List Op} {vs : List V} {ods : List OD} (l : ops.length = vs.length) (R : Rel K cl B0 Fr (ops.zip vs ++ pd) ρ σ B H) (e : Dv.owns ops ρ = .ok ods ρ') :
    ods.length = vs.length ∧ ∃ B', Same B B' ∧ Rel K cl B0 Fr ((ods.map Op.v).zip vs ++ pd) ρ' σ B' H := by
  obtain ⟨ods', ρ1, B', h, l2, s, R'⟩ := R.owns (W := fun _ _ _ _ => False) (fr := []) (k := fun x r => x = ods ∧ r = ρ') l (by rw [e]; exact ⟨rfl, rfl⟩)
  obtain ⟨rfl, rfl⟩ := h
  exact ⟨l2, B', s, R'⟩
/-- the values of a call -/
theorem sp_call {n : Nat} {F : Fn} {dds : List D} {dvs : List V} {ops : List Op} {vs : List V} {Q : VK} {E : XK} (hd : ∀ G, RDs K cl G dds dvs) (hn : ops.length + dds.length = n) (l : ops.length = vs.length) (R : Rel K cl B0 Fr (ops.zip vs ++ (pd ++ pdS fr)) ρ σ B H)
    (h : Pst K cl W B0 Fr fr (runCall F dds ops ρ) (PoE K cl B0 Fr (pd ++ pdS fr) σ H Q)) (hE : ∀ c H', W (.ref (cl c)) none σ H' → E (.ref (cl c)) none H') : spF K cl n F (vs ++ dvs) H Q E := by
  unfold runCall at h
  cases e : Dv.owns ops ρ with
  | exc c r => rw [e] at h; exact h.elim
  | stuck => rw [e] at h; exact h.elim
  | ok ods ρ2 =>
    rw [e] at h
    simp only at h
    obtain ⟨l2, B2, s2, R2⟩ := owns_ok l R e
    obtain ⟨B3, s3, R3, rd⟩ := R2.shares l2
    refine ⟨B3, OD.toDs ods ++ dds, R3.sB, rd.append (hd B3), ?_, ?_⟩
    · have := (hd B3).length
      rw [List.length_append, ← l, ← this]; exact hn
    · have R0 := R.dropR
      have ext0 : ∀ {B' H' : Hp}, Ext B3 H B' H' → Ext B H B H' := fun E => ⟨Same.refl _, R0.sB.trans E.h, E.h, fun a z1 z2 => absurd z2 z1⟩
      cases eF : F (OD.toDs ods ++ dds) with
      | stuck => rw [eF] at h; exact h.elim
      | exc c =>
        rw [eF] at h
        intro B' H' E
        exact hE c H' (h σ B H' (R0.dropR.ext (ext0 E)))
      | ok od =>
        rw [eF] at h
        simp only at h ⊢
        intro v B' H' E ⟨f, ro, f1, fn⟩
        split at h
        · rename_i fl
          exact h v B H' E.h (R0.pushO (ext0 E) (ro.own fl) f1 fun a ha => ⟨(fn a ha).1, by
            cases w : B a with
            | none => rfl
            | some x => have := R0.sB _ _ w; rw [(fn a ha).1] at this; cases this⟩)
        · exact h v B' H' E.h (R3.pushO E ro f1 fn)

/-! ### a def's body -/
theorem rs_start {G H : Hp} : ∀ {ds : List D} {vs : List V} (n : Nat), RDs K cl G ds vs → RS K cl G H (ds.map (fun d => some (.sh d)) ++ List.replicate n none) (vs.map some ++ List.replicate n none) fun _ => 0
  | _, _, 0, .nil => .nil fun _ => rfl
  | _, _, n + 1, .nil => by
    show RS K cl G H (none :: List.replicate n none) (none :: List.replicate n none) _
    exact .non (rs_start (ds := []) (vs := []) n .nil)
  | _, _, n, .cons h r => .som (f := fun _ => 0) (.sh h fun _ => rfl) (rs_start n r) fun _ => rfl
theorem Rel.start {ds : List D} {vs : List V} (s : Same B H) (r : RDs K cl B ds vs) (n : Nat) : Rel K cl B H [] (ds.map (fun d => some (.sh d)) ++ List.replicate n none) (vs.map some ++ List.replicate n none) B H :=
  ⟨Same.refl _, s, Same.refl _, fun a z1 z2 => absurd z2 z1, fun _ => 0, fun _ => 0, .nil fun _ => rfl, rs_start n r, fun a => by simp, fun a h => by simp at h⟩
theorem fn_ok {P : Program} {w : World} {mg : Str → Option Value} {base : Heap} {x qual : Str} {st : Stmt} {f : Addr} {fd : FuncData} {N ps : List Str} {k n : Nat} {F : Fn} {m : M Fl} (Fx : L2.Fun K x qual st f fd) (S : FnScope N ps (defScope st)) (hn : n = ps.length) (hF : F = runF N.length m)
    (hbody : ∀ (cdv : Value) (A : Around) (outer : List PySem.Env) (s : Shared) (H : Hp) (E : XK), Room k (A.deeper (envOfC qual (defScope st) s.heap.objs.size f cdv)) →
      ∃ t, JSs (cxOf (L2.CX P w) P w K mg base N qual (defScope st) f cdv A outer s H E) cl (fun cls d _ H => E cls d H) (defBody st) t m) : FnOk P w K mg base (L2.CX P w) (k + 1) f fd ps (spF K cl n F) := by
  subst hn
  refine Fx.okX S (fun vs H Q E h => ?_) (fun cdv A outer s H vs Q E hr h => ?_)
  · obtain ⟨_, _, _, _, h, _⟩ := h
    exact h
  · obtain ⟨t, js⟩ := hbody cdv A outer s H E hr
    refine ⟨t, js.ps, ?_⟩
    obtain ⟨B, ds, sB, rd, _, h⟩ := h
    have hl := rd.length
    refine js.ss B H [] _ _ B H _ (Rel.start sB rd (N.length - vs.length)) ?_
    subst hF
    unfold runF at h
    rw [hl] at h
    have back : ∀ {ρ' σ' B' H'}, Rel K cl B H [] ρ' σ' B' H' → Ext B H B' H' := fun R => ⟨R.s0, R.sB, R.sF, R.nw⟩
    cases e : m (ds.map (fun d => some (.sh d)) ++ List.replicate (N.length - vs.length) none) with
    | stuck => rw [e] at h; exact h.elim
    | exc c ρ' =>
      rw [e] at h
      intro σ' B' H' R
      exact h B' H' (back R)
    | ok fl ρ' =>
      rw [e] at h
      cases fl with
      | nx =>
        intro σ' B' H' R
        exact h .non B' H' (back R) ⟨fun _ => 0, .sh .non fun _ => rfl, fun _ => Nat.zero_le _, fun a z => by simp at z⟩
      | bk => exact h.elim
      | ct => exact h.elim
      | rt od =>
        intro v σ' B' H' R
        refine h v B' H' ⟨R.s0, R.sB, R.sF, R.nw⟩ ?_
        obtain ⟨f0, g0, rp, rs, u, o⟩ := R.ow
        cases rp with
        | @v _ _ _ f1 f2 _ ro rp e =>
          exact ⟨f1, ro, fun a => by have := u a; rw [e] at this; omega, fun a ha => o a (by rw [e]; omega)⟩

/-! ### statements -/
theorem SE.s0 {t : TE} {m : M Op} (h : SE K cl W t m) {Q : VK} (R : Rel K cl B0 Fr (pdS fr) ρ σ B H) (k : Pst K cl W B0 Fr fr (m ρ) (PoE K cl B0 Fr (pdS fr) σ H Q)) : t σ H Q := h B0 Fr fr [] ρ σ B H Q R k
theorem ST.s0 {t : TT} {m : M Bool} (h : ST K cl W t m) {Q : Bool → Hp → Prop} (R : Rel K cl B0 Fr (pdS fr) ρ σ B H) (k : Pst K cl W B0 Fr fr (m ρ) (fun b ρ' => ∀ B' H', Same H H' → Rel K cl B0 Fr (pdS fr) ρ' σ B' H' → Q b H')) : t σ H Q := h B0 Fr fr [] ρ σ B H Q R k
theorem jss_nil : JSs X cl W [] tNext s_nx := ⟨pss_nil, fun B0 Fr fr ρ σ B H Dn R k => k σ B H R⟩
theorem ss_seq {t u : TS} {m n : M Fl} (h1 : SS K cl W t m) (h2 : SS K cl W u n) : SS K cl W (tSeq t u) (s_seq m n) := by
  intro B0 Fr fr ρ σ B H Dn R k
  refine h1 B0 Fr fr ρ σ B H _ R (k.bind.imp fun fl ρ1 _ h => ?_)
  cases fl with
  | nx => exact fun σ' B' H' R' => h2 B0 Fr fr ρ1 σ' B' H' Dn R' h
  | bk => exact h
  | ct => exact h
  | rt od => exact h
theorem jss_cons {st : Stmt} {sts : List Stmt} {t u : TS} {m n : M Fl} (h1 : JS X cl W st t m) (h2 : JSs X cl W sts u n) : JSs X cl W (st :: sts) (tSeq t u) (s_seq m n) := ⟨pss_cons h1.ps h2.ps, ss_seq h1.ss h2.ss⟩
theorem jss_one {st : Stmt} {t : TS} {m : M Fl} (h1 : JS X cl W st t m) : JSs X cl W [st] t m := ⟨pss_one h1.ps, h1.ss⟩
theorem js_pass : JS X cl W (.Pass pos) tNext s_nx := ⟨ps_pass, fun B0 Fr fr ρ σ B H Dn R k => k σ B H R⟩
theorem js_break : JS X cl W (.Break pos) tBreak s_bk := ⟨ps_break, fun B0 Fr fr ρ σ B H Dn R k => k σ B H R⟩
theorem js_continue : JS X cl W (.Continue pos) tCont s_ct := ⟨ps_continue, fun B0 Fr fr ρ σ B H Dn R k => k σ B H R⟩
theorem js_never {st : Stmt} : JS X cl W st tNever stop := ⟨ps_never, fun B0 Fr fr ρ σ B H Dn R k => k.elim⟩
theorem jss_never {sts : List Stmt} : JSs X cl W sts tNever stop := ⟨pss_never, fun B0 Fr fr ρ σ B H Dn R k => k.elim⟩
theorem js_expr (h : JE X cl W e te me) (hs : swapsWith e none pos.line X.env = pure false := by rfl) : JS X cl W (.Expr e pos) (tDrop te) (s_expr me) :=
  ⟨ps_expr h.pe hs, fun B0 Fr fr ρ σ B H Dn R k => h.se.s0 R (k.bind.imp fun a ρ1 _ h1 v B1 H1 s1 R1 => h1 σ B1 H1 R1.tail)⟩
theorem js_ret (h : JE X cl W e te me) : JS X cl W (.Return (some e) pos) (tRet te) (s_ret me) := by
  refine ⟨ps_ret h.pe, fun B0 Fr fr ρ σ B H Dn R k => h.se.s0 R (k.bind.imp fun a ρ1 _ h1 v B1 H1 s1 R1 => ?_)⟩
  have h2 := h1.bind
  unfold give at h2
  cases a with
  | v od => exact h2 v σ B1 H1 R1
  | late i path =>
    cases path with
    | nil =>
      simp only at h2
      cases q : (ρ1[i]?).bind id with
      | none => rw [q] at h2; exact h2.elim
      | some od =>
        rw [q] at h2
        -- the slot hands on what it holds
        obtain ⟨f, g, rp, rs, u, o⟩ := R1.ow
        cases rp with
        | late e1 p1 rp =>
          cases p1
          obtain ⟨v', g1, g2, e2, ro, rs2, ge⟩ := rs.get (get_some q)
          rw [e1] at e2; cases e2
          exact h2 v σ B1 H1 ⟨R1.s0, R1.sB, R1.sF, R1.nw, _, g2, .v ro rp (fun _ => rfl), rs2, fun a => by have := u a; rw [ge] at this; omega, fun a ha => o a (by rw [ge]; omega)⟩
    | cons _ _ =>
      obtain ⟨od, ρ2, B2, h3, s2, R2⟩ := R1.own h2
      exact h3 v σ B2 H1 R2
theorem js_retN : JS X cl W (.Return none pos) tRetN s_retN := ⟨ps_retN, fun B0 Fr fr ρ σ B H Dn R k => k .non σ B H (R.push .non)⟩
theorem js_if {c : Expr} {p q : List Stmt} {tc : TT} {mc : M Bool} {t u : TS} {m n : M Fl} (hc : JT X cl W c tc mc) (h1 : JSs X cl W p t m) (h2 : JSs X cl W q u n) : JS X cl W (.If c p q pos) (tIfS tc t u) (s_if mc m n) := by
  refine ⟨ps_if hc.pt h1.ps h2.ps, fun B0 Fr fr ρ σ B H Dn R k => hc.st.s0 R (k.bind.imp fun b ρ1 _ h => ?_)⟩
  intro B1 H1 s1 R1
  cases b with
  | true => exact h1.ss B0 Fr fr ρ1 σ B1 H1 Dn R1 h
  | false => exact h2.ss B0 Fr fr ρ1 σ B1 H1 Dn R1 h

/-! ### targets -/
theorem allV_pdS : allV (pdS fr) := fun x hx => by
  obtain ⟨y, _, rfl⟩ := List.mem_map.mp hx
  exact ⟨_, rfl⟩
theorem allV_app (h : allV pd) (h' : allV pd') : allV (pd ++ pd') := fun x hx => (List.mem_append.mp hx).elim (h x) (h' x)
theorem allV_cons {od : OD} {v : V} (h : allV pd) : allV ((.v od, v) :: pd) := fun x hx => by
  rcases List.mem_cons.mp hx with rfl | hx
  · exact ⟨_, rfl⟩
  · exact h x hx
theorem allV_ods : ∀ {ods : List OD} {vs : List V}, allV ((ods.map Op.v).zip vs) := fun {ods vs} x hx => by
  obtain ⟨a, b⟩ := x
  have := (List.of_mem_zip hx).1
  obtain ⟨od', _, e⟩ := List.mem_map.mp this
  exact ⟨od', e.symm⟩
theorem RP.anyV {σ' : L2.St} {B H : Hp} : ∀ {l : List (Op × V)} {f : Addr → Nat}, allV l → RP K cl B H σ l f → RP K cl B H σ' l f
  | _, _, _, .nil z => .nil z
  | _, _, h, .v r rp e => .v r (RP.anyV (fun x hx => h x (List.mem_cons_of_mem _ hx)) rp) e
  | _, _, h, .late _ _ _ => by
    obtain ⟨od, e⟩ := h _ List.mem_cons_self
    cases e
theorem Rel.setV {i : Nat} {od : OD} {v : V} (hv : allV pd) (R : Rel K cl B0 Fr ((.v od, v) :: pd) ρ σ B H) (hi : i < ρ.length) : Rel K cl B0 Fr pd (ρ.set i (some od)) (σ.set i (some v)) B H := by
  obtain ⟨f, g, rp, rs, u, o⟩ := R.ow
  cases rp with
  | @v _ _ _ f1 f2 _ ro rp e =>
    obtain ⟨k, rs2, le⟩ := RS.put ro rs hi
    exact ⟨R.s0, R.sB, R.sF, R.nw, f2, k, rp.anyV hv, rs2, fun a => by have := u a; have := le a; rw [e] at *; omega, fun a ha => o a (by have := le a; rw [e]; omega)⟩
theorem jg_name {i : Nat} {x : Str} (hN : X.N.Nodup) (hi : X.N[i]? = some x := by rfl) (hx : Loc X.env.scope x := by first | exact Or.inl rfl | exact Or.inr rfl) (hf : X.fn x = true ∨ X.env.scope.names.lookup x = some .local := by first | exact .inl rfl | exact .inr rfl) : JG X cl W (.Name x pos) (gName i) (g_name i) := by
  refine ⟨pg_name hN hi hx hf, fun B0 Fr fr pd od v ρ σ B H Q hv R k => ?_⟩
  unfold g_name at k
  split at k
  · exact k _ B H (Same.refl _) (R.setV (allV_app hv allV_pdS) (by assumption))
  · exact k.elim
def SGs (K : PySem.W.Frag) (cl : Str → Addr) (W : WX) (t : TGs) (gs : List G) : Prop := ∀ B0 Fr fr pd ods vs ρ σ B H Q, allV pd → ods.length = vs.length → Rel K cl B0 Fr ((ods.map Op.v).zip vs ++ (pd ++ pdS fr)) ρ σ B H →
  Pst K cl W B0 Fr fr (g_list gs ods ρ) (fun _ ρ' => ∀ σ' B' H', Same H H' → Rel K cl B0 Fr (pd ++ pdS fr) ρ' σ' B' H' → Q σ' H') → t vs σ H Q
structure JGs (X : Cx) (cl : Str → Addr) (W : WX) (es : List Expr) (t : TGs) (gs : List G) : Prop where
  pg : PGs X es t
  sg : SGs X.K cl W t gs
theorem jgs_nil : JGs X cl W [] gNil [] := by
  refine ⟨pgs_nil, fun B0 Fr fr pd ods vs ρ σ B H Q hv l R k => ?_⟩
  cases ods with
  | nil => cases vs with
    | nil => exact ⟨rfl, k σ B H (Same.refl _) R⟩
    | cons _ _ => cases l
  | cons _ _ => exact k.elim
/-- one target, then names: the rest stays pending as shared things -/
theorem jgs_cons {i : Nat} {x : Str} {u : TGs} {gs : List G} (hN : X.N.Nodup) (h2 : JGs X cl W es u gs) (hi : X.N[i]? = some x := by rfl) (hx : Loc X.env.scope x := by first | exact Or.inl rfl | exact Or.inr rfl) (hf : X.fn x = true ∨ X.env.scope.names.lookup x = some .local := by first | exact .inl rfl | exact .inr rfl)
    (hs : (assignEach (.Name x pos :: es) X.env).map (·.2) = assign (.Name x pos) X.env :: (assignEach es X.env).map (·.2) := by rfl) : JGs X cl W (.Name x pos :: es) (gCons (gName i) u) (g_name i :: gs) := by
  refine ⟨pgs_cons (pg_name hN hi hx hf) h2.pg hs, fun B0 Fr fr pd ods vs ρ σ B H Q hv l R k => ?_⟩
  cases ods with
  | nil => exact k.elim
  | cons od ods =>
    cases vs with
    | nil => cases l
    | cons v vs =>
      refine ⟨v, vs, rfl, ?_⟩
      have k2 := k.bind
      unfold g_name at k2
      split at k2
      · rename_i hi
        refine h2.sg B0 Fr fr pd ods vs _ _ B H Q hv (by simpa using l) ?_ k2
        have R' : Rel X.K cl B0 Fr ((.v od, v) :: ((ods.map Op.v).zip vs ++ (pd ++ pdS fr))) ρ σ B H := R
        exact R'.setV (allV_app allV_ods (allV_app hv allV_pdS)) hi
      · exact k2.elim
theorem pend_sh {G : Hp} : ∀ {ds : List D} {vs : List V}, RDs K cl B ds vs → Rel K cl B0 Fr pd ρ σ B H → Rel K cl B0 Fr (((ds.map OD.sh).map Op.v).zip vs ++ pd) ρ σ B H
  | _, _, .nil, R => R
  | _, _, .cons h r, R => (pend_sh (G := G) r R).push h
theorem jg_tup {k : Nat} {t : TGs} {n : Nat} {gs : List G} (hc : X.calm = true) (h : JGs X cl W es t gs) (hg : gs.length = n := by rfl)
    (hn : (assignEach es X.env).length = n := by rfl) (hst : (assignEach es X.env).findIdx? (·.1) = none := by rfl) : JG X cl W (.Tuple es k pos) (gTup X.K n t) (g_tup gs) := by
  refine ⟨pg_tup hc h.pg hn hst, fun B0 Fr fr pd od v ρ σ B H Q hv R q => ?_⟩
  unfold g_tup at q
  cases od with
  | sh d =>
    cases d with
    | tup ds =>
      simp only at q
      split at q
      · rename_i hl
        obtain ⟨f, ro⟩ := R.node (op := .v (.sh (.tup ds))) rfl
        cases ro with
        | sh rd z =>
          cases rd with
          | tup hp r =>
            refine ⟨_, _, rfl, sqT_same R.sB hp, by rw [← r.length, hl, hg], ?_⟩
            exact h.sg B0 Fr fr pd (ds.map OD.sh) _ ρ σ B H Q hv (by rw [List.length_map]; exact r.length) (pend_sh (G := B) r R.tail) q
      · exact q.elim
    | _ => exact q.elim
  | tp xs =>
    simp only at q
    split at q
    · rename_i hl
      obtain ⟨f, g, rp, rs, u, o⟩ := R.ow
      cases rp with
      | @v _ _ _ f1 f2 _ ro rp e =>
        cases ro with
        | @tp p _ vs f3 _ hp r z =>
          refine ⟨p, vs, rfl, SqT.of hp, by rw [← r.length, hl, hg], ?_⟩
          refine h.sg B0 Fr fr pd xs vs ρ σ B H Q hv r.length ?_ q
          have conv : ∀ {xs : List OD} {vs : List V} {f3 f2 : Addr → Nat} {pd : List (Op × V)}, ROs X.K cl B H xs vs f3 → RP X.K cl B H σ pd f2 → ∃ f, RP X.K cl B H σ ((xs.map Op.v).zip vs ++ pd) f ∧ ∀ a, f a = f3 a + f2 a := by
            intro xs
            induction xs with
            | nil => intro vs f3 f2 pd r rp; cases r with | nil z => exact ⟨f2, rp, fun a => by rw [z]; omega⟩
            | cons x xs ih =>
              intro vs f3 f2 pd r rp
              cases r with
              | cons h r e =>
                obtain ⟨f, r', e'⟩ := ih r rp
                exact ⟨_, .v h r' (fun _ => rfl), fun a => by rw [e, e']; omega⟩
          obtain ⟨f4, rp4, e4⟩ := conv r rp
          exact ⟨R.s0, R.sB, R.sF, R.nw, f4, g, rp4, rs, fun a => by have := u a; rw [e, z] at this; rw [e4]; omega, fun a ha => o a (by rw [e, z]; rw [e4] at ha; omega)⟩
    · exact q.elim
  | _ => exact q.elim
theorem js_asg {tg : Expr} {g : TG} {mg : G} (he : JE X cl W e te me) (hg : JG X cl W tg g mg) (hs : swapsWithSole [tg] e pos.line X.env = pure false := by rfl) (hw : swappedStores [tg] e X.env = pure none := by rfl)
    (h1 : (assignEach [tg] X.env).map (·.2) = [assign tg X.env] := by rfl) : JS X cl W (.Assign [tg] e pos) (tAsg te g) (s_asg me mg) := by
  refine ⟨ps_asg he.pe hg.pg hs hw h1, fun B0 Fr fr ρ σ B H Dn R k => he.se.s0 R (k.bind.imp fun a ρ1 _ h1 v B1 H1 s1 R1 => ?_)⟩
  obtain ⟨od, ρ2, B2, h2, s2, R2⟩ := R1.own h1.bind
  exact hg.sg B0 Fr fr [] od v ρ2 σ B2 H1 Dn.nx (fun _ h => nomatch h) R2 (h2.bind.imp fun _ ρ3 _ h3 σ' B' H' _ R' => h3 σ' B' H' R')
theorem js_set {i : Nat} {x : Str} {pos' : Pos} (hN : X.N.Nodup) (he : JE X cl W e te me) (hi : X.N[i]? = some x := by rfl) (hx : Loc X.env.scope x := by first | exact Or.inl rfl | exact Or.inr rfl) (hs : swapsWith e (some (.Name x pos')) pos.line X.env = pure false := by rfl) (hf : X.fn x = true ∨ X.env.scope.names.lookup x = some .local := by first | exact .inl rfl | exact .inr rfl) :
    JS X cl W (.Assign [.Name x pos'] e pos) (tAsg te (gName i)) (s_asg me (g_name i)) := by
  refine ⟨ps_set hN hi hx he.pe hs hf, fun B0 Fr fr ρ σ B H Dn R k => he.se.s0 R (k.bind.imp fun a ρ1 _ h1 v B1 H1 s1 R1 => ?_)⟩
  obtain ⟨od, ρ2, B2, h2, s2, R2⟩ := R1.own h1.bind
  exact (jg_name (pos := pos) hN hi hx hf).sg B0 Fr fr [] od v ρ2 σ B2 H1 Dn.nx (fun _ h => nomatch h) R2 (h2.bind.imp fun _ ρ3 _ h3 σ' B' H' _ R' => h3 σ' B' H' R')
end
end Dv
end

section
set_option Elab.async false
set_option linter.all false
set_option maxRecDepth 100000
set_option maxHeartbeats 4000000
set_option autoImplicit false
/-! Dv8: calls of defs, loops, raise. -/
namespace Dv
open PySem PySem.Spec PyProof.Rows L2

def m_callN (n : Nat) (F : Fn) (dds : List D) (ma : M (List Op)) : M Op := do
  let ops ← ma
  guard' (decide (ops.length + dds.length = n))
  runCall F dds ops
/-- the items of what is walked, shared -/
def itemsD : D → Option (List D)
  | .lst ds => some ds
  | .tup ds => some ds
  | .str z => if szOk z.length then some (z.cps.toList.map fun c => .str ⟨#[c]⟩) else none
  | .scr ns => some (ns.map D.int)
  | _ => none
def i_of (me : M Op) : M (List D) := do
  let a ← me
  let od ← own a
  match itemsD od.toD with
  | some ds => pure ds
  | none => stop
def rngOk (i : Int) : Bool := decide (-(2 ^ 62) ≤ i) && decide (i < 2 ^ 62)
def rangeD (lo hi : Int) : List D := (List.range (hi - lo).toNat).map fun (k : Nat) => D.int (lo + (k : Int))
def i_range1 (ma : M (List Op)) : M (List D) := do
  let ops ← ma
  match ops with
  | [a] => do
    let d ← vw a
    match d with
    | .int j => do
      guard' (rngOk j)
      pure (rangeD 0 j)
    | _ => stop
  | _ => stop
def i_range2 (ma : M (List Op)) : M (List D) := do
  let ops ← ma
  match ops with
  | [a, b] => do
    let d ← vw a
    let e ← vw b
    match d, e with
    | .int i, .int j => do
      guard' (rngOk i && rngOk j)
      pure (rangeD i j)
    | _, _ => stop
  | _ => stop
def goOn (next : M Fl) : Fl → M Fl
  | .nx => next
  | .ct => next
  | .bk => pure .nx
  | .rt od => pure (.rt od)
def forL (g : G) (body : M Fl) : List D → M Fl
  | [] => pure .nx
  | d :: ds => do
    g (.sh d)
    let f ← body
    goOn (forL g body ds) f
def s_for (mi : M (List D)) (g : G) (body : M Fl) : M Fl := do
  let xs ← mi
  forL g body xs
def whileL (c : M Bool) (body : M Fl) : Nat → M Fl
  | 0 => stop
  | n + 1 => do
    let b ← c
    bif b then (do
      let f ← body
      goOn (whileL c body n) f) else pure .nx

section
variable {K : PySem.W.Frag} {cl : Str → Addr} {W : WX} {B0 Fr : Hp} {fr w : List (D × V)} {pd pd' : List (Op × V)} {ρ ρ' : Dv.Env} {σ : L2.St} {B H B' H' : Hp} {X : Cx}
variable {a b e : Expr} {es : List Expr} {ta tb te : TE} {ma mb me : M Op} {tt tu : TT} {mt mu : M Bool} {pos : Pos} {rest : List Expr} {tas : TA} {mas : M (List Op)}

/-! ### calls -/
theorem run_fnW {k : Nat} {f : Addr} {fd : FuncData} {ps : List Str} {sp : Sp} {pins : List (Addr × Obj)} {s : Shared} {Q : VK} {us : List Value} {vs dvs : List V} {ds : List Value} (F : FnOk X.prog X.w X.K X.mg X.base (L2.CX X.prog X.w) k f fd ps sp) (hr : Room k X.A) (hb : Binds X.K fd ps ds) (hd : Vals dvs ds) (tk : Takes X W)
    (I : Inv X pins σ H s) (r : Vals vs us) (h : sp (vs ++ dvs) H Q (WE W σ)) : wpAny (model X.prog X.w) X.A (call (.ref f) us) (EP X pins σ Q) X.xe s := by
  have r2 : Vals (vs ++ dvs) (us ++ ds) := r.append hd
  have hl : (us ++ ds).length = ps.length := by rw [← r2.length]; exact F.len _ _ _ _ h
  refine wpAny_call (codeAny_mono (F.run X.A X.stack s H ⟨us, []⟩ (us ++ ds) (vs ++ dvs) Q (WE W σ) hr I.env0 (hb s us I.kIn hl) r2 h) fun r s' hq => ?_)
  cases r with
  | error e => exact passAt tk σ pins H s e s' I hq
  | ok fl =>
    cases fl with
    | ret u => exact I.after hq
    | next => exact False.elim hq
    | brk => exact False.elim hq
    | cont => exact False.elim hq
def tCallW (sp : Sp) (dvs : List V) (W : WX) (t : TA) : TE := fun σ H Q => t σ H fun vs H1 => sp (vs ++ dvs) H1 Q (WE W σ)
theorem pe_callW {k : Nat} {f : Addr} {fd : FuncData} {ps : List Str} {sp : Sp} {x : Str} {p : Pos} {dvs : List V} {ds : List Value} {t : TA} (F : FnOk X.prog X.w X.K X.mg X.base (L2.CX X.prog X.w) k f fd ps sp) (hr : Room k X.A) (hg : Gl X x) (hm : X.mg x = some (.ref f)) (hk : PySem.W.keepIn X.K (.ref f) = true) (hb : Binds X.K fd ps ds) (hd : Vals dvs ds) (tk : Takes X W)
    (ha : PA X (e :: es) t) (hdb : (x == ("__debug__" : Str)) = false := by decide) (he : starEach (e :: es) X.env = (false, eval e X.env) :: starEach es X.env := by rfl) (hpl : (backTo pos (starEach es X.env)).any (·.1) = false := by rfl) :
    PE X (.Call (.Name x p) (e :: es) [] pos) (tCallW sp dvs W t) := by
  refine ⟨fun pins s σ H Q I h => ?_⟩
  refine wpAny_Call_Name_kw (ld_glob I hg hm ?_ hdb)
  refine PySem.W.callWith_K (h₀ := X.base) I.ok.mod.kin hk (thn (ha.run pos pins s σ H _ I h) fun us s1 ⟨vs, H1, I1, r, q⟩ => ⟨I1.kIn, ?_⟩) he hpl
  exact run_fnW F hr hb hd tk I1 r q
theorem pe_callW0 {k : Nat} {f : Addr} {fd : FuncData} {ps : List Str} {sp : Sp} {x : Str} {p : Pos} {dvs : List V} {ds : List Value} (F : FnOk X.prog X.w X.K X.mg X.base (L2.CX X.prog X.w) k f fd ps sp) (hr : Room k X.A) (hg : Gl X x) (hm : X.mg x = some (.ref f)) (hk : PySem.W.keepIn X.K (.ref f) = true) (hb : Binds X.K fd ps ds) (hd : Vals dvs ds) (tk : Takes X W)
    (hdb : (x == ("__debug__" : Str)) = false := by decide) : PE X (.Call (.Name x p) [] [] pos) (tCallW sp dvs W tNil) := by
  refine ⟨fun pins s σ H Q I h => ?_⟩
  refine wpAny_Call_Name_kw (ld_glob I hg hm ?_ hdb)
  exact PySem.W.callWith_K0 I.kIn hk (run_fnW (us := []) F hr hb hd tk I .nil h)
/-- what stands for a def in K: its place, its promise -/
structure DefOk (P : Program) (w : World) (K : PySem.W.Frag) (mg : Str → Option Value) (base : Heap) (cl : Str → Addr) (k n : Nat) (x : Str) (F : Fn) (dds : List D) : Prop where
  flat : dds.all D.flat = true
  ex : ∃ (f : Addr) (fd : FuncData) (ps : List Str) (ds : List Value), FnOk P w K mg base (L2.CX P w) k f fd ps (spF K cl n F) ∧ mg x = some (.ref f) ∧ PySem.W.keepIn K (.ref f) = true ∧ Binds K fd ps ds ∧ Vals (dds.map D.v) ds
theorem flat_rds {G : Hp} : ∀ {dds : List D}, dds.all D.flat = true → RDs K cl G dds (dds.map D.v)
  | [], _ => .nil
  | d :: ds, h => by
    rw [List.all_cons, Bool.and_eq_true] at h
    exact .cons (flat_rd h.1) (flat_rds h.2)
theorem se_callW {n : Nat} {F : Fn} {dds : List D} {dvs : List V} (hd : ∀ G, RDs K cl G dds dvs) (ha : SA K cl W tas mas) : SE K cl W (tCallW (spF K cl n F) dvs W tas) (m_callN n F dds mas) := by
  intro B0 Fr fr pd ρ σ B H Q R k
  refine ha B0 Fr fr pd ρ σ B H _ R (k.bind.imp fun ops ρ1 _ h1 => ?_)
  intro vs B1 H1 l s1 R1
  obtain ⟨hn, h2⟩ := guard_ok h1.bind
  exact sp_call hd (of_decide_eq_true hn) l R1 (h2.imp fun op ρ2 _ h3 v B2 H2 s2 R2 => h3 v B2 H2 (s1.trans s2) R2) fun c H' h => h
theorem je_call {k j n : Nat} {x : Str} {p : Pos} {F : Fn} {dds : List D} (h : DefOk X.prog X.w X.K X.mg X.base cl j n x F dds) (hr : Room k X.A) (tk : Takes X W) (ha : JA X cl W (e :: es) tas mas) (hj : j ≤ k := by decide) (hg : Gl X x := by rfl) (hdb : (x == ("__debug__" : Str)) = false := by decide)
    (he : starEach (e :: es) X.env = (false, eval e X.env) :: starEach es X.env := by rfl) (hpl : (backTo pos (starEach es X.env)).any (·.1) = false := by rfl) : JE X cl W (.Call (.Name x p) (e :: es) [] pos) (tCallW (spF X.K cl n F) (dds.map D.v) W tas) (m_callN n F dds mas) := by
  refine ⟨?_, se_callW (fun G => flat_rds h.flat) ha.sa⟩
  obtain ⟨f, fd, ps, ds, Fo, hm, hk, hb, hv⟩ := h.ex
  exact pe_callW Fo (hr.mono hj) hg hm hk hb hv tk ha.pa hdb he hpl
theorem je_call0 {k j n : Nat} {x : Str} {p : Pos} {F : Fn} {dds : List D} (h : DefOk X.prog X.w X.K X.mg X.base cl j n x F dds) (hr : Room k X.A) (tk : Takes X W) (hj : j ≤ k := by decide) (hg : Gl X x := by rfl) (hdb : (x == ("__debug__" : Str)) = false := by decide) :
    JE X cl W (.Call (.Name x p) [] [] pos) (tCallW (spF X.K cl n F) (dds.map D.v) W tNil) (m_callN n F dds m_args0) := by
  refine ⟨?_, se_callW (fun G => flat_rds h.flat) (ja_nil (X := X)).sa⟩
  obtain ⟨f, fd, ps, ds, Fo, hm, hk, hb, hv⟩ := h.ex
  exact pe_callW0 Fo (hr.mono hj) hg hm hk hb hv tk hdb
/-! ### what is walked -/
/-- J walks the items xs, while w stays pending -/
def Wk (K : PySem.W.Frag) (cl : Str → Addr) (J : It) (xs : List D) (w : List (D × V)) : Prop := ∀ (B0 Fr : Hp) (pd : List (Op × V)) (ρ : Dv.Env) (σ : L2.St) (B H : Hp) (i : Nat), Rel K cl B0 Fr (pdS w ++ pd) ρ σ B H →
  (∀ d, xs[i]? = some d → J.go i H ∧ ∀ x H', J.yld i H x H' → ∃ B', Ext B H B' H' ∧ RD K cl B' d x) ∧ (xs.length ≤ i → J.stop i H)
def SI (K : PySem.W.Frag) (cl : Str → Addr) (W : WX) (wi : TI) (mi : M (List D)) : Prop := ∀ B0 Fr fr pd ρ σ B H R, Rel K cl B0 Fr (pd ++ pdS fr) ρ σ B H →
  Pst K cl W B0 Fr fr (mi ρ) (fun xs ρ' => ∀ J w B' H', Same H H' → Rel K cl B0 Fr (pdS w ++ (pd ++ pdS fr)) ρ' σ B' H' → Wk K cl J xs w → R J H') → wi σ H R
structure JI (X : Cx) (cl : Str → Addr) (W : WX) (tg e : Expr) (wi : TI) (mi : M (List D)) : Prop where
  pi : PI X tg e wi
  si : SI X.K cl W wi mi
theorem pi_or {tg : Expr} {w1 w2 : TI} (h1 : PI X tg e w1) (h2 : PI X tg e w2) : PI X tg e (fun σ H R => w1 σ H R ∨ w2 σ H R) := ⟨fun pins s σ H R I h => by
  rcases h with h | h
  · exact h1.run pins s σ H R I h
  · exact h2.run pins s σ H R I h⟩
theorem Pst.ok {α : Type} {m : M α} {k : α → Dv.Env → Prop} (h : Pst K cl W B0 Fr fr (m ρ) k) (hs : ∀ c ρ', m ρ ≠ .exc c ρ') : ∃ a ρ', m ρ = .ok a ρ' ∧ k a ρ' := by
  cases e : m ρ with
  | ok a ρ' => rw [e] at h; exact ⟨a, ρ', rfl, h⟩
  | exc c ρ' => exact absurd e (hs c ρ')
  | stuck => rw [e] at h; exact h.elim
theorem wk_list {a : Addr} {ds : List D} : Wk K cl (Itl K a) ds [(.lst ds, .ref a)] := by
  intro B0 Fr pd ρ σ B H i R
  have R' : Rel K cl B0 Fr ((.v (.sh (.lst ds)), .ref a) :: pd) ρ σ B H := R
  obtain ⟨f, ro⟩ := R'.node rfl
  cases ro with
  | sh rd z =>
    cases rd with
    | lst hp r =>
      rename_i vs
      have hq : SqL K H a vs := SqL.of (R.sB _ _ hp)
      refine ⟨fun d hd => ?_, fun hl => ⟨vs, hq, by rw [← r.length]; exact hl⟩⟩
      obtain ⟨v, h1, h2⟩ := r.get hd
      refine ⟨⟨vs, v, hq, h1⟩, fun x H' y => ?_⟩
      obtain ⟨rfl, y⟩ := y
      have ex : x = v := Option.some.inj ((y vs hq).symm.trans h1)
      subst ex
      exact ⟨B, Ext.refl R.sB, h2⟩
theorem wk_tup {a : Addr} {ds : List D} : Wk K cl (Itt K a) ds [(.tup ds, .ref a)] := by
  intro B0 Fr pd ρ σ B H i R
  have R' : Rel K cl B0 Fr ((.v (.sh (.tup ds)), .ref a) :: pd) ρ σ B H := R
  obtain ⟨f, ro⟩ := R'.node rfl
  cases ro with
  | sh rd z =>
    cases rd with
    | tup hp r =>
      rename_i vs
      have hq : SqT K H a vs := sqT_same R.sB hp
      refine ⟨fun d hd => ?_, fun hl => ⟨vs, hq, by rw [← r.length]; exact hl⟩⟩
      obtain ⟨v, h1, h2⟩ := r.get hd
      refine ⟨⟨vs, v, hq, h1⟩, fun x H' y => ?_⟩
      obtain ⟨rfl, y⟩ := y
      have ex : x = v := Option.some.inj ((y vs hq).symm.trans h1)
      subst ex
      exact ⟨B, Ext.refl R.sB, h2⟩
theorem wk_scr {a : Addr} {ns : List Int} : Wk K cl (Itl K a) (ns.map D.int) [(.scr ns, .ref a)] := by
  intro B0 Fr pd ρ σ B H i R
  have R' : Rel K cl B0 Fr ((.v (.sh (.scr ns)), .ref a) :: pd) ρ σ B H := R
  obtain ⟨f, ro⟩ := R'.node rfl
  cases ro with
  | sh rd z =>
    cases rd with
    | scr hp =>
      have hq : SqL K H a (ns.map V.int) := R.sB.seq hp
      refine ⟨fun d hd => ?_, fun hl => ⟨_, hq, by simpa using hl⟩⟩
      rw [List.getElem?_map] at hd
      cases hn : ns[i]? with
      | none => rw [hn] at hd; cases hd
      | some n =>
        rw [hn] at hd
        simp at hd; subst hd
        have h1 : (ns.map V.int)[i]? = some (.int n) := by rw [List.getElem?_map, hn]; rfl
        refine ⟨⟨_, _, hq, h1⟩, fun x H' y => ?_⟩
        obtain ⟨rfl, y⟩ := y
        have ex : x = .int n := Option.some.inj ((y _ hq).symm.trans h1)
        subst ex
        exact ⟨B, Ext.refl R.sB, .int n⟩
theorem wk_range {lo : Int} {n : Nat} : Wk K cl (Itr lo n) ((List.range n).map fun (k : Nat) => D.int (lo + (k : Int))) [] := by
  intro B0 Fr pd ρ σ B H i R
  refine ⟨fun d hd => ?_, fun hl => by simp at hl; exact hl⟩
  rw [List.getElem?_map] at hd
  by_cases hi : i < n
  · rw [List.getElem?_range hi] at hd
    simp at hd; subst hd
    refine ⟨hi, fun x H' y => ?_⟩
    obtain ⟨rfl, rfl⟩ := y
    exact ⟨B, Ext.refl R.sB, .int _⟩
  · rw [List.getElem?_eq_none (by simpa using hi)] at hd
    cases hd
theorem ji_range1 {tg : Expr} {p : Pos} (hm : X.mg "range" = none) (ha : JA X cl W [a] tas mas) (hg : Gl X "range" := by rfl) (hs : starEach [a] X.env = [(false, eval a X.env)] := by rfl) : JI X cl W tg (.Call (.Name "range" p) [a] [] pos) (iRng1 tas) (i_range1 mas) := by
  refine ⟨pi_range1 hg hm ha.pa hs, fun B0 Fr fr pd ρ σ B H Rw R k => ha.sa B0 Fr fr pd ρ σ B H _ R (k.bind.imp fun ops ρ1 _ h1 => ?_)⟩
  intro vs B1 H1 l s1 R1
  cases ops with
  | nil => exact h1.elim
  | cons x xs =>
    cases xs with
    | cons _ _ => exact h1.elim
    | nil =>
      cases vs with
      | nil => cases l
      | cons v vs =>
        cases vs with
        | cons _ _ => cases l
        | nil =>
          have R2 : Rel X.K cl B0 Fr ((x, v) :: (pd ++ pdS fr)) ρ1 σ B1 H1 := R1
          obtain ⟨d, e, h2⟩ := vw_ok h1.bind
          have rd := R2.view e
          cases d with
          | int j =>
            obtain ⟨hj, h3⟩ := guard_ok h2.bind
            simp only [rngOk, Bool.and_eq_true, decide_eq_true_eq] at hj
            refine ⟨j, by rw [view_int rd], hj.1, hj.2, ?_⟩
            have h3' : ∀ J w B' H', Same H H' → Rel X.K cl B0 Fr (pdS w ++ (pd ++ pdS fr)) ρ1 σ B' H' → Wk X.K cl J (rangeD 0 j) w → Rw J H' := h3
            refine h3' _ [] B1 H1 s1 R2.tail ?_
            have : rangeD 0 j = (List.range j.toNat).map fun (k : Nat) => D.int (0 + (k : Int)) := by unfold rangeD; simp
            rw [this]
            exact wk_range
          | _ => exact h2.elim
theorem ji_range2 {tg : Expr} {p : Pos} (hm : X.mg "range" = none) (ha : JA X cl W [a, b] tas mas) (hg : Gl X "range" := by rfl) (hs : starEach [a, b] X.env = [(false, eval a X.env), (false, eval b X.env)] := by rfl) (hs2 : starEach [b] X.env = [(false, eval b X.env)] := by rfl) : JI X cl W tg (.Call (.Name "range" p) [a, b] [] pos) (iRng2 tas) (i_range2 mas) := by
  refine ⟨pi_range2 hg hm ha.pa hs hs2, fun B0 Fr fr pd ρ σ B H Rw R k => ha.sa B0 Fr fr pd ρ σ B H _ R (k.bind.imp fun ops ρ1 _ h1 => ?_)⟩
  intro vs B1 H1 l s1 R1
  match ops, vs, l with
  | [], _, _ => exact h1.elim
  | [_], _, _ => exact h1.elim
  | _ :: _ :: _ :: _, _, _ => exact h1.elim
  | [x, y], [v, u], _ =>
    have R2 : Rel X.K cl B0 Fr ((x, v) :: (y, u) :: (pd ++ pdS fr)) ρ1 σ B1 H1 := R1
    obtain ⟨d, e, h2⟩ := vw_ok h1.bind
    obtain ⟨d2, e2, h2⟩ := vw_ok h2.bind
    have rd := R2.view e
    have rd2 := R2.tail.view e2
    cases d with
    | int i =>
      cases d2 with
      | int j =>
        obtain ⟨hj, h3⟩ := guard_ok h2.bind
        simp only [rngOk, Bool.and_eq_true, decide_eq_true_eq] at hj
        refine ⟨i, j, by rw [view_int rd, view_int rd2], ⟨hj.1.1, hj.1.2, hj.2.1, hj.2.2⟩, ?_⟩
        have h3' : ∀ J w B' H', Same H H' → Rel X.K cl B0 Fr (pdS w ++ (pd ++ pdS fr)) ρ1 σ B' H' → Wk X.K cl J (rangeD i j) w → Rw J H' := h3
        exact h3' _ [] B1 H1 s1 R2.tail.tail wk_range
      | _ => exact h2.elim
    | _ => cases d2 <;> exact h2.elim

/-! ### for, while -/
theorem Pst.more {α : Type} {r : Rs α} {k : α → Dv.Env → Prop} (h : Pst K cl W B0 Fr fr r k) : Pst K cl W B0 Fr (w ++ fr) r k := by
  cases r with
  | ok a ρ' => exact h
  | stuck => exact h
  | exc c ρ' =>
    intro σ' B' H' R
    have R' : Rel K cl B0 Fr (pdS w ++ pdS fr) ρ' σ' B' H' := by unfold pdS at *; rw [List.map_append] at R; exact R
    exact h σ' B' H' R'.dropR
theorem pdS_app (w fr : List (D × V)) : pdS (w ++ fr) = pdS w ++ pdS fr := List.map_append
theorem ss_for {wi : TI} {g : TG} {tb : TS} {mi : M (List D)} {mg : G} {mb : M Fl} (hi : SI K cl W wi mi) (hg : SG K cl W g mg) (hb : SS K cl W tb mb) : SS K cl W (tFor wi g tb) (s_for mi mg mb) := by
  intro B0 Fr fr ρ σ B H Dn R k
  refine hi B0 Fr fr [] ρ σ B H _ R (k.bind.imp fun xs ρ1 _ h1 => ?_)
  intro J w B1 H1 s1 R1 wk
  have R1' : Rel K cl B0 Fr (pdS (w ++ fr)) ρ1 σ B1 H1 := by rw [pdS_app]; exact R1
  refine ⟨fun i m σ H => m = xs.length - i ∧ i ≤ xs.length ∧ ∃ ρ B, Rel K cl B0 Fr (pdS (w ++ fr)) ρ σ B H ∧ Pst K cl W B0 Fr fr (forL mg mb (xs.drop i) ρ) (PoS K cl B0 Fr fr Dn),
    ⟨_, rfl, Nat.zero_le _, ρ1, B1, R1', h1⟩, ?_⟩
  rintro i m σ2 H2 ⟨rfl, hi, ρ2, B2, R2, h2⟩
  have R2' : Rel K cl B0 Fr (pdS w ++ pdS fr) ρ2 σ2 B2 H2 := by rw [← pdS_app]; exact R2
  have wk2 := wk B0 Fr (pdS fr) ρ2 σ2 B2 H2 i R2'
  by_cases hlt : i < xs.length
  · have hd : xs[i]? = some xs[i] := List.getElem?_eq_getElem hlt
    have hdrop : xs.drop i = xs[i] :: xs.drop (i + 1) := List.drop_eq_getElem_cons hlt
    obtain ⟨go, yl⟩ := wk2.1 _ hd
    refine .inr ⟨go, fun σ' H' => ∃ ρ' B', Rel K cl B0 Fr (pdS (w ++ fr)) ρ' σ' B' H' ∧ Pst K cl W B0 Fr fr (forL mg mb (xs.drop (i + 1)) ρ') (PoS K cl B0 Fr fr Dn),
      fun σ' H' ⟨ρ', B', R', h'⟩ => ⟨xs.length - (i + 1), by omega, rfl, hlt, ρ', B', R', h'⟩, fun x H' y => ?_⟩
    obtain ⟨B3, E3, rd⟩ := yl x H' y
    have R3 := (R2.ext E3).push rd
    rw [hdrop] at h2
    have h2' : Pst K cl W B0 Fr fr ((mg (.sh xs[i]) >>= fun _ => mb >>= fun f => goOn (forL mg mb (xs.drop (i + 1))) f) ρ2) (PoS K cl B0 Fr fr Dn) := h2
    refine hg B0 Fr (w ++ fr) [] (.sh xs[i]) x ρ2 σ2 B3 H' _ (fun _ h => nomatch h) R3 ((h2'.bind.more (w := w)).imp fun _ ρ4 _ h4 => ?_)
    intro σ4 B4 H4 _ R4
    refine hb B0 Fr (w ++ fr) ρ4 σ4 B4 H4 _ R4 ((h4.bind.more (w := w)).imp fun fl ρ5 _ h5 => ?_)
    cases fl with
    | nx => exact fun σ' B' H' R' => ⟨ρ5, B', R', h5⟩
    | ct => exact fun σ' B' H' R' => ⟨ρ5, B', R', h5⟩
    | bk =>
      intro σ' B' H' R'
      rw [pdS_app] at R'
      exact h5 σ' B' H' R'.dropR
    | rt od =>
      intro v σ' B' H' R'
      rw [pdS_app] at R'
      refine h5 v σ' B' H' ?_
      exact (R'.perm (pd' := pdS w ++ (.v od, v) :: pdS fr) List.perm_middle.symm).dropR
  · have e : i = xs.length := by omega
    subst e
    refine .inl ⟨wk2.2 (Nat.le_refl _), ?_⟩
    rw [List.drop_length] at h2
    exact h2 σ2 B2 H2 R2'.dropR
theorem js_for {tg iter : Expr} {body : List Stmt} {wi : TI} {g : TG} {tb : TS} {mi : M (List D)} {mg : G} {mb : M Fl} (hp : PassesOwn (model X.prog X.w) X.A X.env X.xe) (hc : X.calm = true) (hi : JI X cl W tg iter wi mi) (hg : JG X cl W tg g mg) (hb : JSs X cl W body tb mb)
    (hs : ∀ x, foldedSetIterable iter X.env x = pure x := by intro _; rfl) : JS X cl W (.For tg iter body [] pos) (tFor wi g tb) (s_for mi mg mb) := ⟨ps_for hp hc hi.pi hg.pg hb.ps hs, ss_for hi.si hg.sg hb.ss⟩
theorem ss_while {tc : TT} {tb : TS} {mc : M Bool} {mb : M Fl} (hc : ST K cl W tc mc) (hb : SS K cl W tb mb) (n : Nat) : SS K cl W (tWhile tc tb) (whileL mc mb n) := by
  intro B0 Fr fr ρ σ B H Dn R k
  refine ⟨fun m σ H => ∃ ρ B, Rel K cl B0 Fr (pdS fr) ρ σ B H ∧ Pst K cl W B0 Fr fr (whileL mc mb m ρ) (PoS K cl B0 Fr fr Dn), ⟨n, ρ, B, R, k⟩, ?_⟩
  rintro m σ2 H2 ⟨ρ2, B2, R2, h2⟩
  cases m with
  | zero => exact h2.elim
  | succ m =>
    have h2' : Pst K cl W B0 Fr fr ((mc >>= fun b => bif b then (mb >>= fun f => goOn (whileL mc mb m) f) else pure .nx) ρ2) (PoS K cl B0 Fr fr Dn) := h2
    refine hc.s0 R2 (h2'.bind.imp fun b ρ3 _ h3 => ?_)
    intro B3 H3 s3 R3
    cases b with
    | false => exact h3 σ2 B3 H3 R3
    | true =>
      refine iteT ⟨fun σ' H' => ∃ ρ' B', Rel K cl B0 Fr (pdS fr) ρ' σ' B' H' ∧ Pst K cl W B0 Fr fr (whileL mc mb m ρ') (PoS K cl B0 Fr fr Dn), fun σ' H' h => ⟨m, Nat.lt_succ_self _, h⟩, ?_⟩
      refine hb B0 Fr fr ρ3 σ2 B3 H3 _ R3 (Pst.imp (Pst.bind h3) fun fl ρ5 _ h5 => ?_)
      cases fl with
      | nx => exact fun σ' B' H' R' => ⟨ρ5, B', R', h5⟩
      | ct => exact fun σ' B' H' R' => ⟨ρ5, B', R', h5⟩
      | bk => exact h5
      | rt od => exact h5
theorem js_while {c : Expr} {body : List Stmt} {tc : TT} {tb : TS} {mc : M Bool} {mb : M Fl} (n : Nat) (hp : PassesOwn (model X.prog X.w) X.A X.env X.xe) (hc : JT X cl W c tc mc) (hb : JSs X cl W body tb mb) : JS X cl W (.While c body [] pos) (tWhile tc tb) (whileL mc mb n) :=
  ⟨ps_while hp hc.pt hb.ps, ss_while hc.st hb.ss n⟩

/-! ### raise -/
theorem js_raise {e : Expr} {c : Str} (hc : X.calm = true) (tk : Takes X W) (he : PMk X e (fun _ H Q => Q (.ref (cl c)) none H)) : JS X cl W (.Raise (some e) none pos) (fun _ σ H => W (.ref (cl c)) none σ H) (s_raise c) :=
  ⟨ps_raise hc tk he, fun B0 Fr fr ρ σ B H Dn R k => k σ B H R⟩
end
end Dv
end

section
set_option Elab.async false
set_option linter.all false
set_option maxRecDepth 100000
set_option maxHeartbeats 4000000
set_option autoImplicit false
/-! Dv9: owned lists changed in place. -/
namespace Dv
open PySem PySem.Spec PyProof.Rows L2

def OD.setAt : OD → List Nat → OD → OD
  | _, [], y => y
  | .ls xs, k :: ks, y => match xs[k]? with
    | some x => .ls (xs.set k (x.setAt ks y))
    | none => .ls xs
  | .tp xs, k :: ks, y => match xs[k]? with
    | some x => .tp (xs.set k (x.setAt ks y))
    | none => .tp xs
  | od, _, _ => od
/-- the list at an owned place -/
def lsAt (op : Op) : M (List OD) := fun ρ => match op.at? ρ with
  | some (.ls xs) => .ok xs ρ
  | _ => .stuck
/-- the list at an owned place becomes another -/
def putAt (op : Op) (ys : List OD) : M Unit := fun ρ => match op with
  | .v _ => .ok () ρ
  | .late i path => match (ρ[i]?).bind id with
    | some od => (match od.at? path with
      | some (.ls _) => .ok () (ρ.set i (some (od.setAt path (.ls ys))))
      | _ => .stuck)
    | none => .stuck
/-- a list's method that changes it: the new items by the old ones and the arguments' own -/
def s_mut (mo : M Op) (margs : M (List Op)) (f : List OD → List OD → Option (List OD)) : M Fl := do
  let o ← mo
  let _ ← lsAt o
  let ops ← margs
  let ys ← owns ops
  let xs ← lsAt o
  match f xs ys with
  | some zs => do
    putAt o zs
    pure .nx
  | none => stop
def f_append (xs ys : List OD) : Option (List OD) := match ys with
  | [y] => if decide (xs.length < 16777216) then some (xs ++ [y]) else none
  | _ => none
def f_clear (xs ys : List OD) : Option (List OD) := match ys with
  | [] => some []
  | _ => none
/-- x[i] = e -/
def s_setix (me mo mi : M Op) : M Fl := do
  let a ← me
  let y ← own a
  let o ← mo
  let ix ← mi
  let d ← vw ix
  match d with
  | .int i => do
    let xs ← lsAt o
    match ixN xs.length i with
    | some k => do
      putAt o (xs.set k y)
      pure .nx
    | none => stop
  | _ => stop

section
variable {K : PySem.W.Frag} {cl : Str → Addr} {W : WX} {B0 Fr : Hp} {fr w : List (D × V)} {pd pd' : List (Op × V)} {ρ ρ' : Dv.Env} {σ : L2.St} {B H B' H' : Hp} {X : Cx}
variable {a b e : Expr} {es : List Expr} {ta tb te : TE} {ma mb me : M Op} {tt tu : TT} {mt mu : M Bool} {pos : Pos} {rest : List Expr} {tas : TA} {mas : M (List Op)}
theorem ROs.split {B H : Hp} : ∀ {xs : List OD} {vs : List V} {f : Addr → Nat} {k : Nat} {x : OD}, ROs K cl B H xs vs f → xs[k]? = some x →
    ∃ u fk, vs[k]? = some u ∧ RO K cl B H x u fk ∧ (∀ a, fk a ≤ f a) ∧ ∀ (H' : Hp) (x' : OD) (g' : Addr → Nat), (∀ a, 0 < f a - fk a → H' a = H a) → RO K cl B H' x' u g' → ∃ f', ROs K cl B H' (xs.set k x') vs f' ∧ ∀ a, f' a + fk a = f a + g' a
  | _, _, _, k, x, .nil _, e => by simp at e
  | _, _, _, 0, x, @ROs.cons _ _ _ _ _ _ _ _ f1 f2 f h r z, e => by
    simp at e; subst e
    refine ⟨_, f1, rfl, h, fun a => by rw [z]; omega, fun H' x' g' kp r' => ⟨fun a => g' a + f2 a, .cons r' (r.mono (Same.refl _) fun a ha => kp a (by rw [z]; omega)) fun _ => rfl, fun a => by (try dsimp only); rw [z]; omega⟩⟩
  | _, _, _, k + 1, x, @ROs.cons _ _ _ _ _ _ _ _ f1 f2 f h r z, e => by
    obtain ⟨u, fk, e1, ro, le, back⟩ := ROs.split (k := k) r (by simpa using e)
    refine ⟨u, fk, by simpa using e1, ro, fun a => by have := le a; rw [z]; omega, fun H' x' g' kp r' => ?_⟩
    obtain ⟨f', r2, e2⟩ := back H' x' g' (fun a ha => kp a (by rw [z]; omega)) r'
    exact ⟨fun a => f1 a + f' a, .cons (h.mono (Same.refl _) fun a ha => kp a (by have := le a; rw [z]; omega)) r2 fun _ => rfl, fun a => by have := e2 a; (try dsimp only); rw [z]; omega⟩
/-- a node and what stands there when it becomes another -/
theorem RO.setAt {B H : Hp} : ∀ {path : List Nat} {od nd : OD} {v0 v : V} {f : Addr → Nat}, RO K cl B H od v0 f → (∀ a, f a ≤ 1) → od.at? path = some nd → Pth H v0 path v →
    ∃ fx, RO K cl B H nd v fx ∧ (∀ a, fx a ≤ f a) ∧ ∀ (H' : Hp) (nd' : OD) (g' : Addr → Nat), (∀ a, 0 < f a - fx a → H' a = H a) → RO K cl B H' nd' v g' → ∃ f', RO K cl B H' (od.setAt path nd') v0 f' ∧ ∀ a, f' a + fx a = f a + g' a := by
  intro path
  induction path with
  | nil =>
    intro od nd v0 v f r f1 e p
    cases p
    have e' : od = nd := by cases od <;> (simp [OD.at?] at e; exact e)
    subst e'
    refine ⟨f, r, fun _ => Nat.le_refl _, fun H' nd' g' _ r' => ⟨g', ?_, fun a => Nat.add_comm _ _⟩⟩
    have : od.setAt [] nd' = nd' := by cases od <;> rfl
    rw [this]; exact r'
  | cons k ks ih =>
    intro od nd v0 v f r f1 e p
    cases r with
    | sh h z => simp [OD.at?] at e
    | is h l rs z => simp [OD.at?] at e
    | @ls p' xs vs f' _ h rs z =>
      simp only [OD.at?] at e
      cases q : xs[k]? with
      | none => rw [q] at e; cases e
      | some x =>
        rw [q] at e
        cases p with
        | tup h1 h2 p => rw [h] at h1; cases h1
        | lst h1 h2 p =>
          rw [h] at h1; cases h1
          obtain ⟨u, fk, e1, ro, le, back⟩ := rs.split q
          rw [h2] at e1; cases e1
          obtain ⟨fx, rx, lx, bk⟩ := ih ro (fun a => by have h1 := f1 a; have h2 := le a; rw [z] at h1; omega) e p
          refine ⟨fx, rx, fun a => by have := lx a; have := le a; rw [z]; omega, fun H' nd' g' kp r' => ?_⟩
          obtain ⟨f2, r2, e2⟩ := bk H' nd' g' (fun a ha => kp a (by have := le a; rw [z]; omega)) r'
          obtain ⟨f3, r3, e3⟩ := back H' _ f2 (fun a ha => kp a (by have := lx a; rw [z]; omega)) r2
          refine ⟨fun a => (if a = p' then 1 else 0) + f3 a, ?_, fun a => by have := e2 a; have := e3 a; have := lx a; have := le a; (try dsimp only); rw [z]; omega⟩
          have : (OD.ls xs).setAt (k :: ks) nd' = .ls (xs.set k (x.setAt ks nd')) := by simp only [OD.setAt, q]
          rw [this]
          refine .ls ((kp p' ?_).trans h) r3 fun _ => rfl
          have := f1 p'
          have := lx p'
          have := le p'
          rw [z] at *
          simp at *
          omega
    | @tp p' xs vs f' _ h rs z =>
      simp only [OD.at?] at e
      cases q : xs[k]? with
      | none => rw [q] at e; cases e
      | some x =>
        rw [q] at e
        cases p with
        | lst h1 h2 p => rw [h] at h1; cases h1
        | tup h1 h2 p =>
          rw [h] at h1; cases h1
          obtain ⟨u, fk, e1, ro, le, back⟩ := rs.split q
          rw [h2] at e1; cases e1
          obtain ⟨fx, rx, lx, bk⟩ := ih ro (fun a => by have h1 := f1 a; have h2 := le a; rw [z] at h1; omega) e p
          refine ⟨fx, rx, fun a => by have := lx a; have := le a; rw [z]; omega, fun H' nd' g' kp r' => ?_⟩
          obtain ⟨f2, r2, e2⟩ := bk H' nd' g' (fun a ha => kp a (by have := le a; rw [z]; omega)) r'
          obtain ⟨f3, r3, e3⟩ := back H' _ f2 (fun a ha => kp a (by have := lx a; rw [z]; omega)) r2
          refine ⟨fun a => (if a = p' then 1 else 0) + f3 a, ?_, fun a => by have := e2 a; have := e3 a; have := lx a; have := le a; (try dsimp only); rw [z]; omega⟩
          have : (OD.tp xs).setAt (k :: ks) nd' = .tp (xs.set k (x.setAt ks nd')) := by simp only [OD.setAt, q]
          rw [this]
          refine .tp ((kp p' ?_).trans h) r3 fun _ => rfl
          have := f1 p'
          have := lx p'
          have := le p'
          rw [z] at *
          simp at *
          omega
/-- no path leads far -/
def nilP (pd : List (Op × V)) : Prop := ∀ x ∈ pd, ∀ i path, x.1 = .late i path → path = []
theorem nilP_pdS : nilP (pdS fr) := fun x hx i path e => by
  obtain ⟨y, _, rfl⟩ := List.mem_map.mp hx
  cases e
theorem RP.monoN {B H B' H' : Hp} (s : Same B B') : ∀ {l : List (Op × V)} {f : Addr → Nat}, nilP l → RP K cl B H σ l f → (∀ a, 0 < f a → H' a = H a) → RP K cl B' H' σ l f
  | _, _, _, .nil z, _ => .nil z
  | _, _, n, .v h r e, k => .v (h.mono s fun a ha => k a (by rw [e]; omega)) (RP.monoN s (fun x hx => n x (List.mem_cons_of_mem _ hx)) r fun a ha => k a (by rw [e]; omega)) e
  | _, _, n, .late h p r, k => .late h (by
      have := n _ List.mem_cons_self _ _ rfl
      subst this
      cases p; exact .nil) (RP.monoN s (fun x hx => n x (List.mem_cons_of_mem _ hx)) r k)
theorem RP.join {B H : Hp} : ∀ {l l' : List (Op × V)} {f g : Addr → Nat}, RP K cl B H σ l f → RP K cl B H σ l' g → ∃ k, RP K cl B H σ (l ++ l') k ∧ ∀ a, k a = f a + g a
  | [], _, _, g, .nil z, r => ⟨g, r, fun a => by rw [z]; omega⟩
  | _ :: _, _, _, _, .v h r e, r2 => by
    obtain ⟨k, r', e'⟩ := RP.join r r2
    exact ⟨_, .v h r' (fun _ => rfl), fun a => by rw [e, e']; omega⟩
  | _ :: _, _, _, _, .late h p r, r2 => by
    obtain ⟨k, r', e'⟩ := RP.join r r2
    exact ⟨k, .late h p r', e'⟩
/-- THE CHANGE of an owned list: ys are taken from what is pending -/
theorem Rel.mut {i : Nat} {path : List Nat} {v : V} {od : OD} {xs zs : List OD} {ods : List OD} {ws : List V} (l : ods.length = ws.length) (np : nilP pd)
    (R : Rel K cl B0 Fr ((ods.map Op.v).zip ws ++ ((.late i path, v) :: pd)) ρ σ B H) (hi : (ρ[i]?).bind id = some od) (ha : od.at? path = some (.ls xs)) :
    ∃ p vs fx fy, v = .ref p ∧ H p = some (.lst vs) ∧ ROs K cl B H xs vs fx ∧ ROs K cl B H ods ws fy ∧ ∀ us g pd2 f5, ROs K cl B H zs us g → RP K cl B H σ pd2 f5 → nilP pd2 → (∀ a, g a + f5 a ≤ fx a + fy a) →
      Rel K cl B0 Fr (pd2 ++ pd) (ρ.set i (some (od.setAt path (.ls zs)))) σ B (upd H p (.lst us)) := by
  obtain ⟨f, g0, rp, rs, u, o⟩ := R.ow
  obtain ⟨f1, f2, rp1, rp2, fe⟩ := rp.append
  obtain ⟨fy, ry, ey⟩ := rp1.toROs l
  cases rp2 with
  | @late _ _ v0 _ _ _ hs hp rp2 =>
    obtain ⟨w, g1, g2, e1, ro, rs2, ge⟩ := rs.get (get_some hi)
    rw [hs] at e1; cases e1
    have u1 : ∀ a, g1 a ≤ 1 := fun a => by have := u a; rw [ge] at this; omega
    obtain ⟨fn, rn, ln, back⟩ := ro.setAt u1 ha hp
    cases rn with
    | @ls p _ vs fx _ hpp rx z =>
      refine ⟨p, vs, fx, fy, rfl, hpp, rx, ry, fun us g pd2 f5 rz r5 n5 le => ?_⟩
      have pown : 0 < g1 p := by have := ln p; rw [z] at this; simp at this; omega
      have bp : Fr p = none ∧ B p = none := o p (by rw [ge]; omega)
      have ne : ∀ a, a ≠ p → (upd H p (.lst us)) a = H a := fun a h => upd_ne h
      have sB : Same B (upd H p (.lst us)) := fun a x q => by
        rw [ne a (fun z => by rw [z, bp.2] at q; cases q)]; exact R.sB _ _ q
      have sF : Same Fr (upd H p (.lst us)) := fun a x q => by
        rw [ne a (fun z => by rw [z, bp.1] at q; cases q)]; exact R.sF _ _ q
      -- p is owned once, by this node
      have once : ∀ a, 0 < fx a + fy a + f2 a + g2 a + (g1 a - fn a) → a ≠ p := fun a ha q => by
        subst q
        have h1 := u a
        have h2 := ln a
        rw [fe, ge, ← ey] at h1
        rw [z] at h2 ha
        simp at h2 ha
        omega
      have rz' : ROs K cl B (upd H p (.lst us)) zs us g := rz.mono (Same.refl _) fun a ha => ne a (once a (by have := le a; omega))
      obtain ⟨f', r', e'⟩ := back (upd H p (.lst us)) (.ls zs) (fun a => (if a = p then 1 else 0) + g a) (fun a ha => ne a (once a (by omega))) (.ls upd_same rz' fun _ => rfl)
      have hil : i < (ρ.set i none).length := by rw [List.length_set]; exact (List.getElem?_eq_some_iff.mp (get_some hi)).1
      obtain ⟨k, rs3, lk⟩ := RS.put r' (i := i) (rs2.mono (H' := upd H p (.lst us)) (Same.refl _) fun a ha => ne a (once a (by omega))) hil
      have es : σ.set i (some v0) = σ := by
        apply List.ext_getElem?
        intro j
        rw [List.getElem?_set]
        split
        · rename_i h; subst h; split
          · exact hs.symm
          · rename_i h; rw [List.getElem?_eq_none (by omega)] at hs; cases hs
        · rfl
      rw [es, List.set_set] at rs3
      have cnt : ∀ a, f5 a + k a ≤ g1 a + g2 a + fy a := fun a => by
        have h1 := lk a
        have h2 := e' a
        have h3 := le a
        rw [z] at h2
        (try dsimp only at h2)
        omega
      have r5' : RP K cl B (upd H p (.lst us)) σ pd2 f5 := r5.monoN (Same.refl _) n5 fun a ha => ne a (once a (by have := le a; omega))
      obtain ⟨f6, r6, e6⟩ := r5'.join (rp2.monoN (Same.refl _) np fun a ha => ne a (once a (by omega)))
      exact ⟨R.s0, sB, sF, R.nw, f6, k, r6, rs3, fun a => by have := cnt a; have := u a; rw [fe, ge, ← ey] at this; rw [e6]; omega, fun a ha => o a (by have := cnt a; rw [fe, ge, ← ey]; rw [e6] at ha; omega)⟩
theorem lsAt_ok {op : Op} {k : List OD → Dv.Env → Prop} (h : Pst K cl W B0 Fr fr (lsAt op ρ) k) : ∃ xs, op.at? ρ = some (.ls xs) ∧ k xs ρ := by
  unfold lsAt at h
  split at h
  · exact ⟨_, by assumption, h⟩
  · exact h.elim
theorem RO.isL {B H : Hp} {xs : List OD} {v : V} {f : Addr → Nat} (r : RO K cl B H (.ls xs) v f) : ∃ p vs, v = .ref p ∧ H p = some (.lst vs) := by
  cases r with
  | ls h _ _ => exact ⟨_, _, rfl, h⟩
theorem ss_mut {to : TE} {t : TA} {mo : M Op} {margs : M (List Op)} {f : List OD → List OD → Option (List OD)} {r : V → List V → Hp → VK → Prop} (ho : SE K cl W to mo) (ha : SA K cl W t margs)
    (hf : ∀ (B H : Hp) (xs ys zs : List OD) (p : Addr) (vs ws : List V) (fx fy : Addr → Nat) (Q : VK), f xs ys = some zs → H p = some (.lst vs) → ROs K cl B H xs vs fx → ROs K cl B H ys ws fy →
      (∀ us g, ROs K cl B H zs us g → (∀ a, g a ≤ fx a + fy a) → Q .non (upd H p (.lst us))) → r (.ref p) ws H Q) : SS K cl W (tDrop (tBM K "list" r to t)) (s_mut mo margs f) := by
  intro B0 Fr fr ρ σ B H Dn R k
  refine ho.s0 R (k.bind.imp fun o ρ1 _ h1 => ?_)
  intro x B1 H1 s1 R1
  obtain ⟨xs0, e0, h1⟩ := lsAt_ok h1.bind
  obtain ⟨f0, ro0⟩ := R1.node e0
  obtain ⟨p0, vs0, rfl, hp0⟩ := ro0.isL
  refine ⟨.inl ⟨rfl, vs0, SqL.of hp0⟩, ?_⟩
  refine ha B0 Fr fr [(o, .ref p0)] ρ1 σ B1 H1 _ R1 (h1.bind.imp fun ops ρ2 _ h2 => ?_)
  intro ws B2 H2 l s2 R2
  obtain ⟨ys, ρ3, B3, h3, l3, s3, R3⟩ := R2.owns l h2.bind
  obtain ⟨xs, e1, h4⟩ := lsAt_ok h3.bind
  cases ez : f xs ys with
  | none => rw [ez] at h4; exact h4.elim
  | some zs =>
    rw [ez] at h4
    have h5 := h4.bind
    unfold putAt at h5
    cases o with
    | v od =>
      -- a list of nobody's is changed
      simp only [Op.at?, Option.some.injEq] at e1
      subst e1
      have R4 : Rel K cl B0 Fr ((.v (.ls xs), .ref p0) :: ((ys.map Op.v).zip ws ++ pdS fr)) ρ3 σ B3 H2 := R3.perm (zip_mid _ _ _ _)
      obtain ⟨f1, g, rp, rs, u, ow⟩ := R4.ow
      cases rp with
      | @v _ _ _ f1 f2 _ ro rp e =>
        cases ro with
        | @ls p _ vs fx _ hp rx z =>
          obtain ⟨f3, f4, rp1, rp2, fe⟩ := rp.append
          obtain ⟨fy, ry, ey⟩ := rp1.toROs l3
          refine hf B3 H2 xs ys zs p0 vs ws fx fy _ ez hp rx ry fun us g' rz le => ?_
          have bp : Fr p0 = none ∧ B3 p0 = none := ow p0 (by rw [e, z]; simp; omega)
          have ne : ∀ a, a ≠ p0 → (upd H2 p0 (.lst us)) a = H2 a := fun a h => upd_ne h
          refine h5 σ B3 _ ⟨R4.s0, fun a x q => ?_, fun a x q => ?_, R4.nw, f4, g, rp2.monoN (Same.refl _) nilP_pdS fun a ha => ne a ?_, rs.mono (Same.refl _) fun a ha => ne a ?_, fun a => by have := u a; rw [e, fe] at this; omega, fun a ha => ow a (by rw [e, fe]; omega)⟩
          · rw [ne a (fun z => by rw [z, bp.2] at q; cases q)]; exact R4.sB _ _ q
          · rw [ne a (fun z => by rw [z, bp.1] at q; cases q)]; exact R4.sF _ _ q
          · intro q; subst q
            have := u a; rw [e, z, fe] at this; simp at this; omega
          · intro q; subst q
            have := u a; rw [e, z, fe] at this; simp at this; omega
    | late i path =>
      simp only at h5
      cases eo : (ρ3[i]?).bind id with
      | none => rw [eo] at h5; exact h5.elim
      | some od =>
        rw [eo] at h5
        simp only [Op.at?, eo] at e1
        have e1' : od.at? path = some (.ls xs) := e1
        simp only [e1'] at h5
        have R3' : Rel K cl B0 Fr ((ys.map Op.v).zip ws ++ ((.late i path, .ref p0) :: pdS fr)) ρ3 σ B3 H2 := R3
        obtain ⟨p, vs, fx, fy, ep, hp, rx, ry, go⟩ := R3'.mut (zs := zs) l3 nilP_pdS eo e1'
        cases ep
        refine hf B3 H2 xs ys zs p0 vs ws fx fy _ ez hp rx ry fun us g' rz le => ?_
        exact h5 σ B3 _ (go us g' [] (fun _ => 0) rz (.nil fun _ => rfl) (fun _ h => nomatch h) fun a => le a)
theorem ROs.append {B H : Hp} : ∀ {xs ys : List OD} {vs ws : List V} {f g : Addr → Nat}, ROs K cl B H xs vs f → ROs K cl B H ys ws g → ∃ k, ROs K cl B H (xs ++ ys) (vs ++ ws) k ∧ ∀ a, k a = f a + g a
  | _, _, _, _, _, _, .nil z, s => ⟨_, s, fun a => by rw [z]; omega⟩
  | _, _, _, _, _, _, .cons h r e, s => by
    obtain ⟨k, r', e'⟩ := ROs.append r s
    exact ⟨_, .cons h r' (fun _ => rfl), fun a => by rw [e, e']; omega⟩
theorem js_append {o : Expr} {to : TE} {mo : M Op} {apos cpos : Pos} (ho : JE X cl W o to mo) (he : JE X cl W e te me)
    (hbase : attributeBase o "append" X.env (eval o X.env) = eval o X.env := by rfl)
    (hfew : ((backTo cpos (starEach [e] X.env)).all (fun x => !x.1) && (backToKw cpos (keywordEach [] X.env)).all (fun x => x.1.isSome)
      && decide ([e].length + ([] : List Keyword).length + (if ([] : List Keyword).isEmpty then 0 else 1) < 30)) = true := by rfl)
    (hline : (apos.endLine == cpos.line) = true := by rfl) (hs : starEach [e] X.env = (false, eval e X.env) :: starEach [] X.env := by rfl) (hplain : (backTo cpos (starEach [] X.env)).any (·.1) = false := by rfl)
    (hsw : swapsWith (.Call (.Attribute o "append" apos) [e] [] cpos) none pos.line X.env = pure false := by rfl) :
    JS X cl W (.Expr (.Call (.Attribute o "append" apos) [e] [] cpos) pos) (tDrop (tBM X.K "list" rAppend to (tCons te tNil))) (s_mut mo (m_args me m_args0) f_append) := by
  have ja : JA X cl W [e] (tCons te tNil) (m_args me m_args0) := ja_cons he ja_nil hs
  refine ⟨ps_expr (pe_bm PySem.F.plainAttrs_list PySem.F.slot_list_append PySem.F.type_list_append mt_append ho.pe ja.pa hbase hfew hline hs hplain) hsw, ss_mut ho.se ja.sa ?_⟩
  intro B H xs ys zs p vs ws fx fy Q ez hp rx ry q
  unfold f_append at ez
  match ys, ws, ry with
  | [], _, _ => cases ez
  | _ :: _ :: _, _, _ => cases ez
  | [y], _, .cons h (.nil z) e' =>
    rename_i v f1 f2
    simp only at ez
    split at ez
    · rename_i hl
      simp at ez; subst ez
      refine ⟨p, vs, v, rfl, rfl, hp, by rw [← rx.length, sizeLine_is]; exact of_decide_eq_true hl, ?_⟩
      obtain ⟨k, rk, ek⟩ := rx.append (.cons h (.nil z) e')
      exact q _ k rk fun a => by rw [ek]; omega
    · cases ez
theorem js_clear {o : Expr} {to : TE} {mo : M Op} {apos cpos : Pos} (ho : JE X cl W o to mo)
    (hbase : attributeBase o "clear" X.env (eval o X.env) = eval o X.env := by rfl) (hline : (apos.endLine == cpos.line) = true := by rfl)
    (hsw : swapsWith (.Call (.Attribute o "clear" apos) [] [] cpos) none pos.line X.env = pure false := by rfl) :
    JS X cl W (.Expr (.Call (.Attribute o "clear" apos) [] [] cpos) pos) (tDrop (tBM0 X.K "list" rClear to)) (s_mut mo m_args0 f_clear) := by
  have h : SS X.K cl W (tDrop (tBM X.K "list" rClear to tNil)) (s_mut mo m_args0 f_clear) := by
    refine ss_mut (r := rClear) (t := tNil) ho.se (ja_nil (X := X)).sa ?_
    intro B H xs ys zs p vs ws fx fy Q ez hp rx ry q
    unfold f_clear at ez
    cases ys with
    | cons _ _ => cases ez
    | nil =>
      simp at ez; subst ez
      cases ry with
      | nil z => exact ⟨p, vs, rfl, rfl, hp, q [] (fun _ => 0) (.nil fun _ => rfl) fun a => Nat.zero_le _⟩
  exact ⟨ps_expr (pe_bm0 PySem.F.plainAttrs_list PySem.F.slot_list_clear PySem.F.type_list_clear mt_clear ho.pe hbase hline) hsw, h⟩
theorem ROs.setv {B H : Hp} {y : OD} {v : V} {fy : Addr → Nat} (hy : RO K cl B H y v fy) : ∀ {xs : List OD} {vs : List V} {f : Addr → Nat} (k : Nat), ROs K cl B H xs vs f → ∃ g, ROs K cl B H (xs.set k y) (vs.set k v) g ∧ ∀ a, g a ≤ f a + fy a
  | _, _, _, k, .nil z => ⟨_, .nil z, fun a => by omega⟩
  | _, _, _, 0, @ROs.cons _ _ _ _ _ _ _ _ f1 f2 f h r z => ⟨fun a => fy a + f2 a, .cons hy r fun _ => rfl, fun a => by (try dsimp only); rw [z]; omega⟩
  | _, _, _, k + 1, @ROs.cons _ _ _ _ _ _ _ _ f1 f2 f h r z => by
    obtain ⟨g, r', le⟩ := ROs.setv hy k r
    exact ⟨fun a => f1 a + g a, .cons h r' fun _ => rfl, fun a => by have := le a; (try dsimp only); rw [z]; omega⟩
theorem js_setix {o i : Expr} {to ti : TE} {mo mi : M Op} {pos' : Pos} (he : JE X cl W e te me) (ho : JE X cl W o to mo) (hi : JE X cl W i ti mi)
    (ha : ∀ v, assign (.Subscript o i pos') X.env v = (do
      let ov ← holding [v] (eval o X.env)
      let iv ← holding [v, ov] (eval i X.env)
      standAt pos'
      holding [v, ov, iv] (setItem ov iv v)
      release [v, ov, iv] []) := by intro _; rfl) (hs : swapsWithSole [.Subscript o i pos'] e pos.line X.env = pure false := by rfl) (hw : swappedStores [.Subscript o i pos'] e X.env = pure none := by rfl)
    (h1 : (assignEach [.Subscript o i pos'] X.env).map (·.2) = [assign (.Subscript o i pos') X.env] := by rfl) :
    JS X cl W (.Assign [.Subscript o i pos'] e pos) (tAsg te (gSub to ti rSetL)) (s_setix me mo mi) := by
  refine ⟨ps_asg he.pe (pg_sub ho.pe hi.pe set_list ha) hs hw h1, fun B0 Fr fr ρ σ B H Dn R k => he.se.s0 R (k.bind.imp fun a ρ1 _ h1 v B1 H1 s1 R1 => ?_)⟩
  obtain ⟨y, ρ2, B2, h2, s2, R2⟩ := R1.own h1.bind
  refine ho.se B0 Fr fr [(.v y, v)] ρ2 σ B2 H1 _ R2 (h2.bind.imp fun o ρ3 _ h3 => ?_)
  intro ov B3 H3 s3 R3
  refine hi.se B0 Fr fr ((o, ov) :: [(.v y, v)]) ρ3 σ B3 H3 _ R3 (h3.bind.imp fun ix ρ4 _ h4 => ?_)
  intro iv B4 H4 s4 R4
  have R4' : Rel X.K cl B0 Fr ((ix, iv) :: (o, ov) :: (.v y, v) :: pdS fr) ρ4 σ B4 H4 := R4
  obtain ⟨d, e0, h5⟩ := vw_ok h4.bind
  have rd := R4'.view e0
  cases d with
  | int n =>
    obtain rfl := view_int rd
    have R5 := R4'.tail
    obtain ⟨xs, e1, h6⟩ := lsAt_ok (Pst.bind h5)
    cases ek : ixN xs.length n with
    | none => rw [ek] at h6; exact h6.elim
    | some j =>
      rw [ek] at h6
      have h7 := h6.bind
      unfold putAt at h7
      cases o with
      | v od =>
        simp only [Op.at?, Option.some.injEq] at e1
        subst e1
        obtain ⟨f1, g, rp, rs, u, ow⟩ := R5.ow
        cases rp with
        | @v _ _ _ f1 f2 _ ro rp e =>
          cases ro with
          | @ls p _ vs fx _ hp rx z =>
            refine ⟨p, vs, n, j, rfl, rfl, hp, by rw [← rx.length]; exact ek, ?_⟩
            have bp : Fr p = none ∧ B4 p = none := ow p (by rw [e, z]; simp; omega)
            have ne : ∀ a, a ≠ p → (upd H4 p (.lst (vs.set j v))) a = H4 a := fun a h => upd_ne h
            cases rp with
            | @v _ _ _ fy f4 _ ry rp2 fe =>
              refine h7 σ B4 _ ⟨R5.s0, fun a x q => ?_, fun a x q => ?_, R5.nw, f4, g, rp2.monoN (Same.refl _) nilP_pdS fun a ha => ne a ?_, rs.mono (Same.refl _) fun a ha => ne a ?_, fun a => by have := u a; rw [e, fe] at this; omega, fun a ha => ow a (by rw [e, fe]; omega)⟩
              · rw [ne a (fun z => by rw [z, bp.2] at q; cases q)]; exact R5.sB _ _ q
              · rw [ne a (fun z => by rw [z, bp.1] at q; cases q)]; exact R5.sF _ _ q
              · intro q; subst q
                have := u a; rw [e, z, fe] at this; simp at this; omega
              · intro q; subst q
                have := u a; rw [e, z, fe] at this; simp at this; omega
      | late i path =>
        simp only at h7
        cases eo : (ρ4[i]?).bind id with
        | none => rw [eo] at h7; exact h7.elim
        | some od =>
          rw [eo] at h7
          simp only [Op.at?, eo] at e1
          have e1' : od.at? path = some (.ls xs) := e1
          simp only [e1'] at h7
          have R6 : Rel X.K cl B0 Fr ((([y] : List OD).map Op.v).zip [v] ++ ((.late i path, ov) :: pdS fr)) ρ4 σ B4 H4 := R5.swap
          obtain ⟨p, vs, fx, fy, ep, hp, rx, ry, go⟩ := R6.mut (zs := xs.set j y) rfl nilP_pdS eo e1'
          subst ep
          refine ⟨p, vs, n, j, rfl, rfl, hp, by rw [← rx.length]; exact ek, ?_⟩
          cases ry with
          | cons hy hn ez =>
            cases hn with
            | nil zz =>
              obtain ⟨g, rg, le⟩ := rx.setv hy j
              exact h7 σ B4 _ (go _ g [] (fun _ => 0) rg (.nil fun _ => rfl) (fun _ h => nomatch h) fun a => by have := le a; rw [ez]; omega)
  | _ => exact h5.elim
end
end Dv
end

section
set_option Elab.async false
set_option linter.all false
set_option maxRecDepth 100000
set_option maxHeartbeats 4000000
set_option autoImplicit false
/-! Dv10: list comprehensions. -/
namespace Dv
open PySem PySem.Spec PyProof.Rows L2

def noExc {α : Type} (m : M α) : M α := fun ρ => match m ρ with
  | .ok a ρ' => .ok a ρ'
  | _ => .stuck
def wipeE : List Nat → Dv.Env → Dv.Env
  | [], ρ => ρ
  | v :: vs, ρ => (wipeE vs ρ).set v none
def lcL (vs : List Nat) (g : G) (mt : M Bool) (me : M Op) : List D → List D → M (List D)
  | [], acc => pure acc
  | d :: ds, acc => do
    noExc (g (.sh d))
    let b ← noExc mt
    bif b then (do
      let a ← noExc me
      let od ← own a
      guard' (decide (acc.length < 16777216))
      (fun ρ => .ok () (wipeE vs ρ) : M Unit)
      lcL vs g mt me ds (acc ++ [od.toD])) else (do
      (fun ρ => .ok () (wipeE vs ρ) : M Unit)
      lcL vs g mt me ds acc)
/-- what a comprehension's own names held before -/
def saved (ρ : Dv.Env) (i : Nat) : Option D := match (ρ[i]?).bind id with
  | some (.sh d) => some d
  | _ => none
def restore : List (Nat × Option D) → Dv.Env → Dv.Env
  | [], ρ => ρ
  | (i, some d) :: r, ρ => restore r (ρ.set i (some (.sh d)))
  | (_, none) :: r, ρ => restore r ρ
def t_yes : M Bool := pure true
def m_lc (vs : List Nat) (mi : M (List D)) (g : G) (mt : M Bool) (me : M Op) : M Op := do
  let xs ← mi
  let sv ← (fun ρ => .ok (vs.map fun i => (i, saved ρ i)) (wipeE vs ρ) : M (List (Nat × Option D)))
  let ds ← lcL vs g mt me xs []
  (fun ρ => .ok () (restore sv (wipeE vs ρ)) : M Unit)
  pure (newL ds)

section
variable {K : PySem.W.Frag} {cl : Str → Addr} {W : WX} {B0 Fr : Hp} {fr w : List (D × V)} {pd pd' : List (Op × V)} {ρ ρ' : Dv.Env} {σ σ' : L2.St} {B H B' H' : Hp} {X : Cx}
variable {a b e : Expr} {es : List Expr} {ta tb te : TE} {ma mb me : M Op} {tt tu : TT} {mt mu : M Bool} {pos : Pos} {rest : List Expr} {tas : TA} {mas : M (List Op)}
def isV (y : Op × V) : Bool := match y.1 with | .v _ => true | _ => false
abbrev WF : WX := fun _ _ _ _ => False
theorem noExc_ok {α : Type} {m : M α} {fr' : List (D × V)} {k : α → Dv.Env → Prop} (h : Pst K cl W B0 Fr fr (noExc m ρ) k) : Pst K cl WF B0 Fr fr' (m ρ) k := by
  unfold noExc at h
  cases e : m ρ with
  | ok a r => rw [e] at h; exact h
  | exc c r => rw [e] at h; exact h.elim
  | stuck => rw [e] at h; exact h.elim
theorem allV_nilP (h : allV pd) : nilP pd := fun x hx i path e => by
  obtain ⟨od, e2⟩ := h x hx
  rw [e] at e2; cases e2
theorem RS.any {B H : Hp} : ∀ {ρ : Dv.Env} {σ σ' : L2.St} {f : Addr → Nat}, RS K cl B H ρ σ f → σ'.length = σ.length → (∀ (i : Nat) (od : OD), ρ[i]? = some (some od) → σ'[i]? = σ[i]?) → RS K cl B H ρ σ' f
  | _, _, σ', _, .nil z, l, _ => by
    cases σ' with
    | nil => exact .nil z
    | cons _ _ => cases l
  | _, _, σ', _, .non r, l, h => by
    cases σ' with
    | nil => cases l
    | cons x s => exact .non (RS.any r (by simpa using l) fun i od e => by have := h (i + 1) od (by simpa using e); simpa using this)
  | _, _, σ', _, .som r rs e, l, h => by
    cases σ' with
    | nil => cases l
    | cons x s =>
      have h0 := h 0 _ rfl
      simp at h0
      subst h0
      exact .som r (RS.any rs (by simpa using l) fun i od e => by have := h (i + 1) od (by simpa using e); simpa using this) e
theorem wipe_get_ne {vs : List Nat} {i : Nat} (h : i ∉ vs) : (wipe σ vs)[i]? = σ[i]? := by
  induction vs with
  | nil => rfl
  | cons v vs ih =>
    simp only [List.mem_cons, not_or] at h
    unfold wipe
    rw [List.getElem?_set_ne (Ne.symm h.1)]
    exact ih h.2
theorem wipeE_length : ∀ (vs : List Nat) (ρ : Dv.Env), (wipeE vs ρ).length = ρ.length
  | [], ρ => rfl
  | v :: vs, ρ => by unfold wipeE; rw [List.length_set, wipeE_length vs ρ]
theorem wipeE_some {vs : List Nat} {i : Nat} {od : OD} (h : (wipeE vs ρ)[i]? = some (some od)) : i ∉ vs ∧ ρ[i]? = some (some od) := by
  induction vs with
  | nil => exact ⟨by simp, h⟩
  | cons v vs ih =>
    unfold wipeE at h
    by_cases hi : v = i
    · subst hi
      rw [List.getElem?_set] at h
      split at h
      · split at h <;> cases h
      · rename_i z; exact absurd rfl z
    · rw [List.getElem?_set_ne hi] at h
      obtain ⟨h1, h2⟩ := ih h
      exact ⟨by simp only [List.mem_cons, not_or]; exact ⟨fun e => hi e.symm, h1⟩, h2⟩
theorem RS.wipeE {B H : Hp} {f : Addr → Nat} (vs : List Nat) (r : RS K cl B H ρ σ f) : ∃ k, RS K cl B H (wipeE vs ρ) σ k ∧ ∀ a, k a ≤ f a := by
  induction vs with
  | nil => exact ⟨f, r, fun _ => Nat.le_refl _⟩
  | cons v vs ih =>
    obtain ⟨k, r1, l1⟩ := ih
    obtain ⟨k2, r2, l2⟩ := r1.drop v
    exact ⟨k2, r2, fun a => Nat.le_trans (l2 a) (l1 a)⟩
/-- own names forgotten; the other slots may be those of σ' -/
theorem Rel.wipe {vs : List Nat} (hv : allV pd) (R : Rel K cl B0 Fr pd ρ σ B H) (hl : σ'.length = σ.length) (hs : ∀ (i : Nat), i ∉ vs → σ'[i]? = σ[i]?) : Rel K cl B0 Fr pd (wipeE vs ρ) σ' B H := by
  obtain ⟨f, g, rp, rs, u, o⟩ := R.ow
  obtain ⟨k, r1, l1⟩ := rs.wipeE vs
  exact ⟨R.s0, R.sB, R.sF, R.nw, f, k, rp.anyV hv, r1.any hl fun i od e => hs i (wipeE_some e).1, fun a => by have := l1 a; have := u a; omega, fun a ha => o a (by have := l1 a; omega)⟩
/-- the list on top grows -/
theorem Rel.grow {acc : List D} {p : Addr} {d : D} {y : V} (hv : nilP pd) (R : Rel K cl B0 Fr ((Dv.newL acc, .ref p) :: pd) ρ σ B H) (rd : RD K cl B d y) :
    ∃ vs, H p = some (.lst vs) ∧ vs.length = acc.length ∧ Rel K cl B0 Fr ((Dv.newL (acc ++ [d]), .ref p) :: pd) ρ σ B (upd H p (.lst (vs ++ [y]))) := by
  obtain ⟨f, g, rp, rs, u, o⟩ := R.ow
  cases rp with
  | @v _ _ _ f1 f2 _ ro rp e =>
    cases ro with
    | @ls _ _ vs fx _ hp rx z =>
      refine ⟨vs, hp, by rw [← rx.length]; simp, ?_⟩
      have bp : Fr p = none ∧ B p = none := o p (by rw [e, z]; simp; omega)
      have ne : ∀ a, a ≠ p → (upd H p (.lst (vs ++ [y]))) a = H a := fun a h => upd_ne h
      have rds := allSh_ro (ds := acc) (by
        clear rx R
        induction acc with
        | nil => rfl
        | cons x xs ih => show (allSh (xs.map OD.sh)).map (x :: ·) = _; rw [ih]; rfl) rx
      have ro2 : RO K cl B (upd H p (.lst (vs ++ [y]))) (.ls ((acc ++ [d]).map OD.sh)) (.ref p) fun a => (if a = p then 1 else 0) + 0 :=
        .ls upd_same (ROs.sh (rds.append (.cons rd .nil))) fun _ => rfl
      refine ⟨R.s0, fun a x q => ?_, fun a x q => ?_, R.nw, _, g, .v ro2 (rp.monoN (Same.refl _) hv fun a ha => ne a ?_) (fun _ => rfl), rs.mono (Same.refl _) fun a ha => ne a ?_, fun a => ?_, fun a ha => o a ?_⟩
      · rw [ne a (fun z => by rw [z, bp.2] at q; cases q)]; exact R.sB _ _ q
      · rw [ne a (fun z => by rw [z, bp.1] at q; cases q)]; exact R.sF _ _ q
      · intro q; subst q
        have := u a; rw [e, z] at this; simp at this; omega
      · intro q; subst q
        have := u a; rw [e, z] at this; simp at this; omega
      · have := u a; rw [e, z] at this; omega
      · rw [e, z]; omega
/-- places of slots are pending again -/
theorem Rel.again {ρ1 : Dv.Env} {x : List (Op × V)} : ∀ {pd : List (Op × V)} {f : Addr → Nat}, RP K cl B H σ pd f → Same H H' → Rel K cl B0 Fr (x ++ pd.filter isV ++ pd') ρ1 σ B' H' → Rel K cl B0 Fr (x ++ pd ++ pd') ρ1 σ B' H' := by
  intro pd
  induction pd generalizing x with
  | nil => exact fun _ _ R => R
  | cons y pd ih =>
    intro f rp s R
    obtain ⟨op, v⟩ := y
    cases rp with
    | @v od _ _ _ _ _ ro rp e =>
      have R' : Rel K cl B0 Fr ((x ++ [(.v od, v)]) ++ pd.filter isV ++ pd') ρ1 σ B' H' := by
        have e : List.filter isV ((Op.v od, v) :: pd) = (.v od, v) :: pd.filter isV := List.filter_cons_of_pos rfl
        rw [e] at R; simpa using R
      have := ih rp s R'
      simpa using this
    | @late i path _ _ _ _ h1 p1 rp =>
      have R' : Rel K cl B0 Fr (x ++ pd.filter isV ++ pd') ρ1 σ B' H' := by simpa [isV] using R
      have R2 := ih rp s R'
      obtain ⟨f, g, rp2, rs, u, o⟩ := R2.ow
      have R3 : Rel K cl B0 Fr ((.late i path, v) :: (x ++ pd ++ pd')) ρ1 σ B' H' := ⟨R2.s0, R2.sB, R2.sF, R2.nw, f, g, .late h1 (p1.mono s) rp2, rs, u, o⟩
      refine R3.perm ?_
      rw [List.append_assoc, List.append_assoc]
      exact List.perm_middle.symm
theorem Rel.unlate : ∀ {pd x : List (Op × V)}, Rel K cl B0 Fr (x ++ pd ++ pd') ρ σ B H → Rel K cl B0 Fr (x ++ pd.filter isV ++ pd') ρ σ B H := by
  intro pd
  induction pd with
  | nil => exact fun R => R
  | cons y pd ih =>
    intro x R
    obtain ⟨op, v⟩ := y
    cases op with
    | v od =>
      have R' : Rel K cl B0 Fr ((x ++ [(.v od, v)]) ++ pd ++ pd') ρ σ B H := by simpa using R
      have := ih R'
      have e : List.filter isV ((Op.v od, v) :: pd) = (.v od, v) :: pd.filter isV := List.filter_cons_of_pos rfl
      rw [e]; simpa using this
    | late i path =>
      have R' : Rel K cl B0 Fr ((.late i path, v) :: (x ++ pd ++ pd')) ρ σ B H := by
        refine R.perm ?_
        rw [List.append_assoc, List.append_assoc]
        exact List.perm_middle
      have := ih R'.tail
      simpa [isV] using this
theorem allV_filter : allV (pd.filter isV) := fun x hx => by
  have := (List.mem_filter.mp hx).2
  obtain ⟨op, v⟩ := x
  cases op with
  | v od => exact ⟨od, rfl⟩
  | late _ _ => cases this
theorem wipe_idem {vs : List Nat} : wipe (wipe σ vs) vs = wipe σ vs := by
  apply List.ext_getElem?
  intro i
  have key : ∀ (vs : List Nat) (τ : L2.St), τ.length = σ.length → i ∈ vs → i < σ.length → (wipe τ vs)[i]? = some none := by
    intro vs τ ht
    induction vs with
    | nil => intro h; cases h
    | cons v vs ih =>
      intro hi hl
      unfold wipe
      rw [List.getElem?_set]
      split
      · rename_i q; subst q
        rw [if_pos (by rw [wipe_length, ht]; exact hl)]
      · rename_i q
        rcases List.mem_cons.mp hi with z | z
        · exact absurd z.symm q
        · exact ih z hl
  by_cases hi : i ∈ vs
  · by_cases hl : i < σ.length
    · rw [key vs _ (wipe_length _ _) hi hl, key vs _ rfl hi hl]
    · rw [List.getElem?_eq_none (by rw [wipe_length, wipe_length]; omega), List.getElem?_eq_none (by rw [wipe_length]; omega)]
  · rw [wipe_get_ne hi]
/-- a target that stores at own names alone -/
def OwnTg (t : TG) (vs : List Nat) : Prop := ∀ v σ H (Q : L2.St → Hp → Prop), t v σ H (fun σ2 H2 => wipe σ2 vs = wipe σ vs → Q σ2 H2) → t v σ H Q
theorem wipe_set {vs : List Nat} {i : Nat} {x : Option V} (hi : i ∈ vs) : wipe (σ.set i x) vs = wipe σ vs := by
  induction vs with
  | nil => cases hi
  | cons v vs ih =>
    unfold wipe
    by_cases h : i ∈ vs
    · rw [ih h]
    · have hv : i = v := by
        rcases List.mem_cons.mp hi with z | z
        · exact z
        · exact absurd z h
      subst hv
      apply List.ext_getElem?
      intro j
      rw [List.getElem?_set, List.getElem?_set, wipe_length, wipe_length, List.length_set]
      split
      · rfl
      · rename_i q
        by_cases hj : j ∈ vs
        · clear hi
          have : ∀ (us : List Nat), j ∈ us → (wipe (σ.set i x) us)[j]? = (wipe σ us)[j]? := by
            intro us
            induction us with
            | nil => intro h; cases h
            | cons u us ih2 =>
              intro h
              unfold wipe
              rw [List.getElem?_set, List.getElem?_set, wipe_length, wipe_length, List.length_set]
              split
              · rfl
              · rename_i q2
                rcases List.mem_cons.mp h with z | z
                · exact absurd z.symm q2
                · exact ih2 z
          exact this vs hj
        · rw [wipe_get_ne hj, wipe_get_ne hj, List.getElem?_set_ne q]
theorem own_name {vs : List Nat} {i : Nat} (hi : i ∈ vs) : OwnTg (gName i) vs := fun v σ H Q h => h (wipe_set hi)
theorem restore_ok : ∀ {sv : List (Nat × Option D)} {fs : List (D × V)} {ρ : Dv.Env}, sv.length = fs.length → (∀ (j i : Nat) (d : D), sv[j]? = some (i, some d) → ∃ v, fs[j]? = some (d, v) ∧ σ[i]? = some (some v)) →
    Rel K cl B0 Fr (pdS fs ++ pd) ρ σ B H → Rel K cl B0 Fr pd (restore sv ρ) σ B H := by
  intro sv
  induction sv with
  | nil =>
    intro fs ρ l _ R
    cases fs with
    | nil => exact R
    | cons _ _ => cases l
  | cons s sv ih =>
    intro fs ρ l h R
    cases fs with
    | nil => cases l
    | cons y fs =>
      obtain ⟨i, od⟩ := s
      have h' : ∀ (j i : Nat) (d : D), sv[j]? = some (i, some d) → ∃ v, fs[j]? = some (d, v) ∧ σ[i]? = some (some v) := fun j i d e => by
        obtain ⟨v, h1, h2⟩ := h (j + 1) i d (by simpa using e)
        exact ⟨v, by simpa using h1, h2⟩
      have R' : Rel K cl B0 Fr ((.v (.sh y.1), y.2) :: (pdS fs ++ pd)) ρ σ B H := R
      cases od with
      | none => exact ih (by simpa using l) h' R'.tail
      | some d =>
        obtain ⟨v, h1, h2⟩ := h 0 i d rfl
        simp at h1
        subst h1
        refine ih (by simpa using l) h' ?_
        -- the slot gets its shared thing back
        obtain ⟨f, g, rp, rs, u, o⟩ := R'.ow
        cases rp with
        | @v _ _ _ f1 f2 _ ro rp e =>
          have z : ∀ a, f1 a = 0 := by cases ro with | sh _ z => exact z
          by_cases hi : i < ρ.length
          · obtain ⟨k, rs2, le⟩ := RS.put ro rs hi
            have es : σ.set i (some v) = σ := by
              apply List.ext_getElem?
              intro j
              rw [List.getElem?_set]
              split
              · rename_i q; subst q; split
                · exact h2.symm
                · rename_i q; rw [List.getElem?_eq_none (by omega)] at h2; cases h2
              · rfl
            rw [es] at rs2
            exact ⟨R'.s0, R'.sB, R'.sF, R'.nw, f2, k, rp, rs2, fun a => by have := u a; have := le a; rw [e] at *; omega, fun a ha => o a (by have := le a; rw [e]; omega)⟩
          · rw [List.set_eq_of_length_le (by omega)]
            exact R'.tail
/-- what a comprehension's own names held, kept pending -/
theorem saved_ok : ∀ (vs : List Nat), Rel K cl B0 Fr pd ρ σ B H → ∃ fs : List (D × V), (vs.map fun i => (i, saved ρ i)).length = fs.length ∧ (∀ (j i : Nat) (d : D), (vs.map fun i => (i, saved ρ i))[j]? = some (i, some d) → ∃ v, fs[j]? = some (d, v) ∧ σ[i]? = some (some v)) ∧ Rel K cl B0 Fr (pdS fs ++ pd) ρ σ B H := by
  intro vs
  induction vs with
  | nil => exact fun R => ⟨[], rfl, fun j i d e => by simp at e, R⟩
  | cons v vs ih =>
    intro R
    obtain ⟨fs, l, h, R'⟩ := ih R
    cases e : saved ρ v with
    | none =>
      refine ⟨(.non, .non) :: fs, by simpa using l, fun j i d e2 => ?_, R'.push .non⟩
      cases j with
      | zero => simp [e] at e2
      | succ j => exact h j i d (by simpa using e2)
    | some d =>
      unfold saved at e
      cases q : (ρ[v]?).bind id with
      | none => rw [q] at e; cases e
      | some od =>
        rw [q] at e
        cases od with
        | sh d' =>
          simp at e; subst e
          obtain ⟨f, g, rp, rs, u, o⟩ := R'.ow
          obtain ⟨u', g1, g2, e1, ro, _, _⟩ := rs.get (get_some q)
          cases ro with
          | sh rd z =>
            refine ⟨(d', u') :: fs, by simpa using l, fun j i d e2 => ?_, R'.push rd⟩
            cases j with
            | zero =>
              simp at e2
              obtain ⟨rfl, e3⟩ := e2
              unfold saved at e3
              rw [q] at e3
              simp at e3; subst e3
              exact ⟨u', rfl, e1⟩
            | succ j => exact h j i d (by simpa using e2)
        | _ => cases e
theorem se_lc {wi : TI} {g : TG} {tt : TT} {te : TE} {vs : List Nat} {mi : M (List D)} {mg : G} {mt : M Bool} {me : M Op} (hi : SI K cl W wi mi) (hg : SG K cl WF g mg) (ho : OwnTg g vs) (ht : ST K cl WF tt mt) (he : SE K cl WF te me) :
    SE K cl W (tLc wi g tt te vs) (m_lc vs mi mg mt me) := by
  intro B0 Fr fr pd ρ σ B H Q R k
  refine hi B0 Fr fr pd ρ σ B H _ R (k.bind.imp fun xs ρ1 _ h1 => ?_)
  intro J w B1 H1 s1 R1 wk L hL
  -- the state ahead of the block
  have h2 : Pst K cl W B0 Fr fr (lcL vs mg mt me xs [] (wipeE vs ρ1)) fun ds ρ2 => PoE K cl B0 Fr (pd ++ pdS fr) σ H Q (newL ds) (restore (vs.map fun i => (i, saved ρ1 i)) (wipeE vs ρ2)) := by
    have := h1.bind
    exact Pst.imp (Pst.bind this) fun ds ρ2 _ h => h
  obtain ⟨sv, ls, hsv, R1a⟩ := saved_ok vs R1
  have R1b : Rel K cl B0 Fr ((pdS sv ++ pdS w) ++ pd ++ pdS fr) ρ1 σ B1 H1 := by simpa using R1a
  have R1c := R1b.unlate
  obtain ⟨rpf, rpg, rp0, _, _, _⟩ := id R1b.ow
  obtain ⟨fa, fb, _, rpB, _⟩ := RP.append (l := pdS sv ++ pdS w) (by rw [List.append_assoc] at rp0; exact rp0)
  obtain ⟨fc, fd, rpd, _, _⟩ := rpB.append
  generalize hrest : pdS sv ++ (pd.filter isV ++ pdS fr) = rs at *
  have hrv : allV rs := by rw [← hrest]; exact allV_app allV_pdS (allV_app allV_filter allV_pdS)
  have R1d : Rel K cl B0 Fr (pdS w ++ rs) ρ1 σ B1 H1 := R1c.perm (by
    rw [← hrest, List.append_assoc, List.append_assoc]
    exact List.perm_append_comm_assoc _ _ _)
  have hav : allV (pdS w ++ rs) := allV_app allV_pdS hrv
  have R2 : Rel K cl B0 Fr (pdS w ++ rs) (wipeE vs ρ1) (wipe σ vs) B1 H1 := R1d.wipe hav (wipe_length _ _) fun i hi => wipe_get_ne hi
  have R3 : Rel K cl B0 Fr ((newL [], .ref L) :: (pdS w ++ rs)) (wipeE vs ρ1) (wipe σ vs) B1 (upd H1 L (.lst [])) := R2.newL (ds := []) hL .nil
  have same1 : Same H1 (upd H1 L (.lst [])) := fun a o e => by rw [upd_ne (ne_of_none e hL)]; exact e
  refine ⟨fun i m H => m = xs.length - i ∧ i ≤ xs.length ∧ Same H1 H ∧ ∃ ρ B acc, Rel K cl B0 Fr ((newL acc, .ref L) :: (pdS w ++ rs)) ρ (wipe σ vs) B H ∧ Pst K cl W B0 Fr fr (lcL vs mg mt me (xs.drop i) acc ρ) fun ds ρ2 => PoE K cl B0 Fr (pd ++ pdS fr) σ H1 Q (newL ds) (restore (vs.map fun i => (i, saved ρ1 i)) (wipeE vs ρ2)),
    ⟨_, rfl, Nat.zero_le _, same1, _, _, [], R3, h2.imp fun ds ρ2 _ h v B' H' s R => h v B' H' (s1.trans s) R⟩, ?_⟩
  rintro i m H2 ⟨rfl, hi, sH, ρ2, B2, acc, R4, h4⟩
  have wk4 := wk B0 Fr ((newL acc, .ref L) :: rs) ρ2 (wipe σ vs) B2 H2 i (R4.perm List.perm_middle.symm)
  by_cases hlt : i < xs.length
  · have hd : xs[i]? = some xs[i] := List.getElem?_eq_getElem hlt
    have hdrop : xs.drop i = xs[i] :: xs.drop (i + 1) := List.drop_eq_getElem_cons hlt
    obtain ⟨go, yl⟩ := wk4.1 _ hd
    refine .inr ⟨go, fun H' => Same H1 H' ∧ ∃ ρ B acc, Rel K cl B0 Fr ((newL acc, .ref L) :: (pdS w ++ rs)) ρ (wipe σ vs) B H' ∧ Pst K cl W B0 Fr fr (lcL vs mg mt me (xs.drop (i + 1)) acc ρ) fun ds ρ2 => PoE K cl B0 Fr (pd ++ pdS fr) σ H1 Q (newL ds) (restore (vs.map fun i => (i, saved ρ1 i)) (wipeE vs ρ2)),
      fun H' ⟨s, ρ', B', acc', R', h'⟩ => ⟨xs.length - (i + 1), by omega, rfl, hlt, s, ρ', B', acc', R', h'⟩, fun x H' y => ?_⟩
    obtain ⟨B3, E3, rd⟩ := yl x H' y
    have R5 := (R4.ext E3).push rd
    rw [hdrop] at h4
    have h5 := Pst.bind h4
    refine ho _ _ _ _ ?_
    generalize hpp : (newL acc, V.ref L) :: (pdS w ++ rs) = pp at *
    have hpv : allV pp := by rw [← hpp]; exact allV_cons hav
    have nilr : ∀ (l : List (Op × V)), l ++ pdS ([] : List (D × V)) = l := fun l => List.append_nil l
    refine hg B0 Fr [] pp (.sh xs[i]) x ρ2 (wipe σ vs) B3 H' _ hpv (by rw [nilr]; exact R5) ((noExc_ok h5).imp fun _ ρ5 _ h6 => ?_)
    intro σ5 B5 H5 s5 R6 hw
    rw [wipe_idem] at hw
    refine ⟨hw, ht B0 Fr [] pp ρ5 σ5 B5 H5 _ R6 ((noExc_ok h6.bind).imp fun b ρ6 _ h7 => ?_)⟩
    intro B6 H6 s6 R7
    rw [nilr] at R7
    have sT : Same H1 H6 := ((sH.trans E3.h).trans s5).trans s6
    cases b with
    | false =>
      have h8 : Pst K cl W B0 Fr fr (lcL vs mg mt me (xs.drop (i + 1)) acc (wipeE vs ρ6)) fun ds ρ2 => PoE K cl B0 Fr (pd ++ pdS fr) σ H1 Q (newL ds) (restore (vs.map fun i => (i, saved ρ1 i)) (wipeE vs ρ2)) := h7
      refine iteF ⟨sT, wipeE vs ρ6, B6, acc, ?_, h8⟩
      rw [← hw, hpp]
      exact R7.wipe hpv (wipe_length _ _) fun i hi => wipe_get_ne hi
    | true =>
      refine iteT (he B0 Fr [] pp ρ6 σ5 B6 H6 _ (by rw [nilr]; exact R7) ((noExc_ok (Pst.bind h7)).imp fun op ρ7 _ h8 => ?_))
      intro y B7 H7 s7 R8
      rw [nilr] at R8
      obtain ⟨od, ρ8, B8, h9, s8, R9⟩ := R8.own (Pst.bind h8)
      obtain ⟨hz, h10⟩ := guard_ok (Pst.bind h9)
      obtain ⟨B9, s9, R10, rd9⟩ := R9.share
      rw [← hpp] at R10
      obtain ⟨us, hu, lu, R11⟩ := R10.grow (allV_nilP hav) rd9
      have h11 : Pst K cl W B0 Fr fr (lcL vs mg mt me (xs.drop (i + 1)) (acc ++ [od.toD]) (wipeE vs ρ8)) fun ds ρ2 => PoE K cl B0 Fr (pd ++ pdS fr) σ H1 Q (newL ds) (restore (vs.map fun i => (i, saved ρ1 i)) (wipeE vs ρ2)) := h10
      refine ⟨us, hu, by rw [lu, sizeLine_is]; exact of_decide_eq_true hz, ?_, wipeE vs ρ8, B9, acc ++ [od.toD], ?_, h11⟩
      · intro a o e
        have : a ≠ L := ne_of_none e hL
        rw [upd_ne this]
        exact (sT.trans s7) a o e
      · rw [← hw]
        exact R11.wipe (allV_cons hav) (wipe_length _ _) fun i hi => wipe_get_ne hi
  · have e : i = xs.length := by omega
    subst e
    refine .inl ⟨wk4.2 (Nat.le_refl _), ?_⟩
    rw [List.drop_length] at h4
    have h5 : PoE K cl B0 Fr (pd ++ pdS fr) σ H1 Q (newL acc) (restore (vs.map fun i => (i, saved ρ1 i)) (wipeE vs ρ2)) := h4
    refine h5 (.ref L) B2 H2 sH ?_
    have R5 : Rel K cl B0 Fr ((newL acc, .ref L) :: (pdS w ++ rs)) (wipeE vs ρ2) σ B2 H2 := R4.wipe (allV_cons hav) (wipe_length _ _).symm fun i hi => (wipe_get_ne hi).symm
    rw [← hrest] at R5
    have R6 : Rel K cl B0 Fr (pdS sv ++ (pdS w ++ ((newL acc, .ref L) :: (pd.filter isV ++ pdS fr)))) (wipeE vs ρ2) σ B2 H2 := R5.perm (by
      have p1 : ((newL acc, V.ref L) :: (pdS w ++ (pdS sv ++ (pd.filter isV ++ pdS fr)))).Perm ((newL acc, V.ref L) :: (pdS sv ++ (pdS w ++ (pd.filter isV ++ pdS fr)))) := (List.perm_append_comm_assoc _ _ _).cons _
      refine p1.trans ?_
      refine List.perm_middle.symm.trans ?_
      exact List.Perm.append_left _ List.perm_middle.symm)
    have R7 := (restore_ok ls hsv R6).dropR
    exact Rel.again (x := [(newL acc, .ref L)]) rpd sH R7
structure JP (X : Cx) (cl : Str → Addr) (W : WX) (ifs : List Expr) (t : TT) (m : M Bool) : Prop where
  pt : PTs X ifs t
  st : ST X.K cl W t m
theorem jp_nil : JP X cl W [] tYes t_yes := ⟨pts_nil, fun B0 Fr fr pd ρ σ B H Q R k => k B H (Same.refl _) R⟩
theorem jp_one {c : Expr} (h : JT X cl W c tt mt) : JP X cl W [c] tt mt := ⟨pts_one h.pt, h.st⟩
section
variable {elt tg iter : Expr} {ifs : List Expr} {scope : Scope} {own : List (Str × Nat)} {wi : TI} {g : Shared → Hp → Addr → List (Str × Addr) → List Addr → TG} {tt : Shared → Hp → Addr → List (Str × Addr) → List Addr → TT} {te : Shared → Hp → Addr → List (Str × Addr) → List Addr → TE} {mi : M (List D)} {mg : G}
theorem je_lc (own : List (Str × Nat)) (hc : X.calm = true) (hN : X.N.Nodup) (hi : JI X cl W tg iter wi mi) (ok : BlkOk X.N X.env.scope scope own)
    (hg : ∀ (s : Shared) (H : Hp) (C : Addr) (c2 : List (Str × Addr)) (fp : List Addr), JG (X.blk s H scope (compEnvC scope c2 C X.env) fp) cl WF tg (g s H C c2 fp) mg) (ho : OwnTg (g X.s_0 X.H_0 0 [] []) (own.map (·.2)))
    (ht : ∀ (s : Shared) (H : Hp) (C : Addr) (c2 : List (Str × Addr)) (fp : List Addr), JP (X.blk s H scope (compEnvC scope c2 C X.env) fp) cl WF ifs (tt s H C c2 fp) mt)
    (he : ∀ (s : Shared) (H : Hp) (C : Addr) (c2 : List (Str × Addr)) (fp : List Addr), JE (X.blk s H scope (compEnvC scope c2 C X.env) fp) cl WF elt (te s H C c2 fp) me) (hs : ∀ x, foldedSetIterable iter X.env x = pure x := by intro _; rfl) (eg : ∀ s H C c2 fp, g s H C c2 fp = g X.s_0 X.H_0 0 [] [] := by intros; rfl) (et : ∀ s H C c2 fp, tt s H C c2 fp = tt X.s_0 X.H_0 0 [] [] := by intros; rfl) (ee : ∀ s H C c2 fp, te s H C c2 fp = te X.s_0 X.H_0 0 [] [] := by intros; rfl) :
    JE X cl W (.ListComp elt [⟨tg, iter, ifs, 0⟩] scope pos) (tLc wi (g X.s_0 X.H_0 0 [] []) (tt X.s_0 X.H_0 0 [] []) (te X.s_0 X.H_0 0 [] []) (own.map (·.2))) (m_lc (own.map (·.2)) mi mg mt me) :=
  ⟨pe_lc hc hN hi.pi ok (fun s H C c2 fp => eg s H C c2 fp ▸ (hg s H C c2 fp).pg) (fun s H C c2 fp => et s H C c2 fp ▸ (ht s H C c2 fp).pt) (fun s H C c2 fp => ee s H C c2 fp ▸ (he s H C c2 fp).pe) hs,
    se_lc hi.si (hg X.s_0 X.H_0 0 [] []).sg ho (ht X.s_0 X.H_0 0 [] []).st (he X.s_0 X.H_0 0 [] []).se⟩
theorem js_setLc {i : Nat} {y : Str} {py spos : Pos} (own : List (Str × Nat)) (hc : X.calm = true) (hN : X.N.Nodup) (hi : JI X cl W tg iter wi mi) (ok : BlkOk X.N X.env.scope scope own)
    (hg : ∀ (s : Shared) (H : Hp) (C : Addr) (c2 : List (Str × Addr)) (fp : List Addr), JG (X.blk s H scope (compEnvC scope c2 C X.env) fp) cl WF tg (g s H C c2 fp) mg) (ho : OwnTg (g X.s_0 X.H_0 0 [] []) (own.map (·.2)))
    (ht : ∀ (s : Shared) (H : Hp) (C : Addr) (c2 : List (Str × Addr)) (fp : List Addr), JP (X.blk s H scope (compEnvC scope c2 C X.env) fp) cl WF ifs (tt s H C c2 fp) mt)
    (he : ∀ (s : Shared) (H : Hp) (C : Addr) (c2 : List (Str × Addr)) (fp : List Addr), JE (X.blk s H scope (compEnvC scope c2 C X.env) fp) cl WF elt (te s H C c2 fp) me)
    (hsw : swapsWith (.ListComp elt [⟨tg, iter, ifs, 0⟩] scope pos) (some (.Name y py)) spos.line X.env = pure true) (hy : X.N[i]? = some y := by rfl) (hyl : X.env.scope.names.lookup y = some .local := by rfl) (hs : ∀ x, foldedSetIterable iter X.env x = pure x := by intro _; rfl) (eg : ∀ s H C c2 fp, g s H C c2 fp = g X.s_0 X.H_0 0 [] [] := by intros; rfl) (et : ∀ s H C c2 fp, tt s H C c2 fp = tt X.s_0 X.H_0 0 [] [] := by intros; rfl) (ee : ∀ s H C c2 fp, te s H C c2 fp = te X.s_0 X.H_0 0 [] [] := by intros; rfl) :
    JS X cl W (.Assign [.Name y py] (.ListComp elt [⟨tg, iter, ifs, 0⟩] scope pos) spos) (tAsg (tLc wi (g X.s_0 X.H_0 0 [] []) (tt X.s_0 X.H_0 0 [] []) (te X.s_0 X.H_0 0 [] []) (own.map (·.2))) (gName i)) (s_asg (m_lc (own.map (·.2)) mi mg mt me) (g_name i)) := by
  refine ⟨ps_setLc hc hN hy hyl hsw hi.pi ok (fun s H C c2 fp => eg s H C c2 fp ▸ (hg s H C c2 fp).pg) (fun s H C c2 fp => et s H C c2 fp ▸ (ht s H C c2 fp).pt) (fun s H C c2 fp => ee s H C c2 fp ▸ (he s H C c2 fp).pe) hs, fun B0 Fr fr ρ σ B H Dn R k => ?_⟩
  refine (se_lc hi.si (hg X.s_0 X.H_0 0 [] []).sg ho (ht X.s_0 X.H_0 0 [] []).st (he X.s_0 X.H_0 0 [] []).se).s0 R (k.bind.imp fun a ρ1 _ h1 v B1 H1 s1 R1 => ?_)
  obtain ⟨od, ρ2, B2, h2, s2, R2⟩ := R1.own h1.bind
  have sg : SG X.K cl W (gName i) (g_name i) := (jg_name (X := X) (pos := pos) hN hy (Or.inl hyl) (Or.inr hyl)).sg
  exact sg B0 Fr fr [] od v ρ2 σ B2 H1 Dn.nx (fun _ h => nomatch h) R2 (h2.bind.imp fun _ ρ3 _ h3 σ' B' H' _ R' => h3 σ' B' H' R')
end
end
end Dv
end

section
set_option Elab.async false
set_option linter.all false
set_option maxRecDepth 100000
set_option maxHeartbeats 4000000
set_option autoImplicit false
/-! Dv11: what is walked, built-ins. -/
namespace Dv
open PySem PySem.Spec PyProof.Rows L2

def m_cb (f : List Op → M Op) (ma : M (List Op)) : M Op := do
  let ops ← ma
  f ops
def c1 (g : D → Option D) (ops : List Op) : M Op := match ops with
  | [a] => u_flat g a
  | _ => stop
def c2 (g : D → D → Option D) (ops : List Op) : M Op := match ops with
  | [a, b] => o_flat g a b
  | _ => stop
def g_len : D → Option D
  | .lst ds => some (.int ds.length)
  | .tup ds => some (.int ds.length)
  | .scr ns => some (.int ns.length)
  | .str z => if szOk z.length then some (.int z.length) else none
  | _ => none
def g_min2 : D → D → Option D
  | .int i, .int j => some (.int (if j < i then j else i))
  | _, _ => none
def g_max2 : D → D → Option D
  | .int i, .int j => some (.int (if j > i then j else i))
  | _, _ => none
def asInts : List D → Option (List Int)
  | [] => some []
  | .int i :: ds => (asInts ds).map (i :: ·)
  | _ :: _ => none
def asBls : List D → Option (List Bool)
  | [] => some []
  | .bl i :: ds => (asBls ds).map (i :: ·)
  | _ :: _ => none
def g_sum : D → Option D
  | .lst ds => (asInts ds).map fun ns => .int ns.sum
  | _ => none
def g_any : D → Option D
  | .lst ds => (asBls ds).map fun ns => .bl (ns.any id)
  | _ => none
def g_all : D → Option D
  | .lst ds => (asBls ds).map fun ns => .bl (ns.all id)
  | _ => none
def maxL : List Int → Int
  | [] => 0
  | [x] => x
  | x :: xs => max x (maxL xs)
def minL : List Int → Int
  | [] => 0
  | [x] => x
  | x :: xs => min x (minL xs)
def g_max : D → Option D
  | .lst ds => (asInts ds).bind fun ns => if ns.isEmpty then none else some (.int (maxL ns))
  | _ => none
def g_min : D → Option D
  | .lst ds => (asInts ds).bind fun ns => if ns.isEmpty then none else some (.int (minL ns))
  | _ => none
/-- list(x) -/
def c_list (ops : List Op) : M Op := match ops with
  | [a] => do
    let od ← own a
    match od.toD with
    | .lst ds => pure (newL ds)
    | .tup ds => pure (newL ds)
    | .scr ns => pure (newL (ns.map D.int))
    | _ => stop
  | _ => stop
def sortI (ns : List Int) : List Int := ns.mergeSort fun a b => decide (a ≤ b)
/-- sorted(x), ints -/
def c_sortI (ops : List Op) : M Op := match ops with
  | [a] => do
    let d ← vw a
    match d with
    | .lst ds => (match asInts ds with
      | some ns => pure (newL ((sortI ns).map D.int))
      | none => stop)
    | _ => stop
  | _ => stop
/-- the items of zip(a, b) -/
def i_zip (ma : M (List Op)) : M (List D) := do
  let ops ← ma
  let ods ← owns ops
  match OD.toDs ods with
  | [.lst xs, .lst ys] => pure ((xs.zip ys).map fun p => .tup [p.1, p.2])
  | _ => stop
def enumD : Nat → List D → List D
  | _, [] => []
  | k, x :: xs => .tup [.int k, x] :: enumD (k + 1) xs
def i_enum (ma : M (List Op)) : M (List D) := do
  let ops ← ma
  let ods ← owns ops
  match OD.toDs ods with
  | [.lst xs] => pure (enumD 0 xs)
  | _ => stop
def i_rev (ma : M (List Op)) : M (List D) := do
  let ops ← ma
  let ods ← owns ops
  match OD.toDs ods with
  | [.lst xs] => pure xs.reverse
  | _ => stop
/-- xs.index(y), y flat -/
def firstAt (y : V) : List V → Option Nat
  | [] => none
  | x :: xs => if eqV x y then some 0 else (firstAt y xs).map (· + 1)
def o_index (a b : Op) : M Op := do
  let x ← vw a
  let y ← vw b
  match x with
  | .lst ds => if ds.all D.flat && y.flat then (match firstAt y.v (ds.map D.v) with
    | some k => pure (sh (.int k))
    | none => stop) else stop
  | _ => stop
def inD (x : D) (ds : List D) : Option Bool :=
  if ds.all D.flat && x.flat then some (inV x.v (ds.map D.v))
  else match x.py, D.pys ds with
    | some p, some qs => if SeqAt.shaped p && SeqAt.shaped (.list qs) then some (qs.any fun z => PyData.eqv z p) else none
    | _, _ => none
def inS (x z : Str) : Bool := match x.cps.toList with
  | [c] => decide (c ∈ z.cps.toList)
  | _ => !(Builtin.Str.occurrences z x 0 z.length 1).isEmpty
def g_inB (x y : D) : Option Bool := match y with
  | .lst ds => inD x ds
  | .tup ds => if ds.all D.flat && x.flat then some (inV x.v (ds.map D.v)) else none
  | .str z => match x with
    | .str c => some (inS c z)
    | _ => none
  | _ => none
def g_in (x y : D) : Option D := (g_inB x y).map D.bl
def g_notin (x y : D) : Option D := (g_inB x y).map fun b => D.bl (!b)

section
variable {K : PySem.W.Frag} {cl : Str → Addr} {W : WX} {B0 Fr : Hp} {fr w : List (D × V)} {pd pd' : List (Op × V)} {ρ ρ' : Dv.Env} {σ σ' : L2.St} {B H B' H' : Hp} {X : Cx}
variable {a b e : Expr} {es : List Expr} {ta tb te : TE} {ma mb me : M Op} {tt tu : TT} {mt mu : M Bool} {pos : Pos} {rest : List Expr} {tas : TA} {mas : M (List Op)}
/-! ### what is walked -/
theorem own_det {op : Op} {v : V} {od : OD} (R : Rel K cl B0 Fr ((op, v) :: pd) ρ σ B H) (e : Dv.own op ρ = .ok od ρ') : ∃ B', Same B B' ∧ Rel K cl B0 Fr ((.v od, v) :: pd) ρ' σ B' H := by
  obtain ⟨od', r, B', h, s, R'⟩ := R.own (W := fun _ _ _ _ => False) (fr := []) (k := fun x r => x = od ∧ r = ρ') (by rw [e]; exact ⟨rfl, rfl⟩)
  obtain ⟨rfl, rfl⟩ := h
  exact ⟨B', s, R'⟩
theorem wk_str {z : Str} {v : V} : Wk K cl (Its z) (z.cps.toList.map fun c => .str ⟨#[c]⟩) [(.str z, v)] := by
  intro B0 Fr pd ρ σ B H i R
  refine ⟨fun d hd => ?_, fun hl => by simp at hl; exact hl⟩
  rw [List.getElem?_map] at hd
  cases hn : z.cps.toList[i]? with
  | none => rw [hn] at hd; cases hd
  | some c =>
    rw [hn] at hd
    simp at hd; subst hd
    have hc : z.cps[i]? = some c := by rw [← Array.getElem?_toList]; exact hn
    have hi : i < z.cps.size := (Array.getElem?_eq_some_iff.mp hc).1
    refine ⟨hi, fun x H' y => ?_⟩
    obtain ⟨rfl, c', e1, rfl⟩ := y
    rw [hc] at e1; cases e1
    exact ⟨B, Ext.refl R.sB, .str _⟩
theorem ji_of {tg : Expr} (h : JE X cl W e te me) : JI X cl W tg e (fun σ H R => iList X.K te σ H R ∨ iTup X.K te σ H R ∨ iStr te σ H R) (i_of me) := by
  refine ⟨pi_or (pi_list h.pe) (pi_or (pi_tup h.pe) (pi_str h.pe)), fun B0 Fr fr pd ρ σ B H Rw R k => ?_⟩
  have k' := k.bind
  cases e1 : me ρ with
  | stuck => rw [e1] at k'; exact k'.elim
  | exc c r => exact .inl (h.se B0 Fr fr pd ρ σ B H _ R (by rw [e1] at k' ⊢; exact k'))
  | ok op ρ1 =>
    rw [e1] at k'
    have k2 := Pst.bind k'
    cases e2 : Dv.own op ρ1 with
    | stuck => rw [e2] at k2; exact k2.elim
    | exc c r =>
      cases op with
      | v od => simp [Dv.own] at e2
      | late i path =>
        simp only [Dv.own] at e2
        split at e2 <;> cases e2
    | ok od ρ2 =>
      rw [e2] at k2
      have go : ∀ (P : V → Hp → Prop), (∀ v B1 B2 H1, Same H H1 → Rel X.K cl B0 Fr (pd ++ pdS fr) ρ2 σ B2 H1 → RD X.K cl B2 od.toD v → P v H1) → te σ H P := fun P hP => by
        refine h.se B0 Fr fr pd ρ σ B H _ R ?_
        rw [e1]
        intro v B1 H1 s1 R1
        obtain ⟨B2, s2, R2⟩ := own_det R1 e2
        obtain ⟨B3, s3, R3, rd⟩ := R2.share
        exact hP v B1 B3 H1 s1 R3 rd
      have k3 : Pst X.K cl W B0 Fr fr ((match itemsD od.toD with | some ds => pure ds | none => stop : M (List D)) ρ2) (fun xs ρ' => ∀ J w B' H', Same H H' → Rel X.K cl B0 Fr (pdS w ++ (pd ++ pdS fr)) ρ' σ B' H' → Wk X.K cl J xs w → Rw J H') := k2
      cases e3 : od.toD with
      | lst ds =>
        rw [e3] at k3
        refine .inl (go _ fun v B1 B2 H1 s R2 rd => ?_)
        rw [e3] at rd
        cases rd with
        | lst hp r => exact ⟨_, rfl, ⟨_, SqL.of (R2.sB _ _ hp)⟩, k3 _ [(.lst ds, .ref _)] B2 H1 s (R2.push (.lst hp r)) wk_list⟩
      | tup ds =>
        rw [e3] at k3
        refine .inr (.inl (go _ fun v B1 B2 H1 s R2 rd => ?_))
        rw [e3] at rd
        cases rd with
        | tup hp r => exact ⟨_, rfl, ⟨_, sqT_same R2.sB hp⟩, k3 _ [(.tup ds, .ref _)] B2 H1 s (R2.push (.tup hp r)) wk_tup⟩
      | scr ns =>
        rw [e3] at k3
        refine .inl (go _ fun v B1 B2 H1 s R2 rd => ?_)
        rw [e3] at rd
        cases rd with
        | scr hp => exact ⟨_, rfl, ⟨_, R2.sB.seq hp⟩, k3 _ [(.scr ns, .ref _)] B2 H1 s (R2.push (.scr hp)) wk_scr⟩
      | str z =>
        rw [e3] at k3
        simp only [itemsD] at k3
        refine .inr (.inr (go _ fun v B1 B2 H1 s R2 rd => ?_))
        rw [e3] at rd
        cases hz : szOk z.length with
        | true =>
          simp only [hz, if_true] at k3
          exact ⟨z, view_str rd, k3 _ [(.str z, v)] B2 H1 s (R2.push rd) wk_str⟩
        | false =>
          simp [hz] at k3
          exact k3.elim
      | _ => rw [e3] at k3; exact k3.elim
/-- the arguments of zip, enumerate: shared -/
theorem sa_owns {t : TA} {m : M (List Op)} {f : List D → Option (List D)} {P : List V → Hp → Prop} {k : List D → Dv.Env → Prop} (ha : SA K cl W t m) (R : Rel K cl B0 Fr (pd ++ pdS fr) ρ σ B H)
    (h : Pst K cl W B0 Fr fr ((do let ops ← m; let ods ← owns ops; match f (OD.toDs ods) with | some xs => pure xs | none => stop : M (List D)) ρ) k)
    (hP : ∀ vs ds xs ρ' B' H', Same H H' → f ds = some xs → k xs ρ' → Rel K cl B0 Fr (pd ++ pdS fr) ρ' σ B' H' → RDs K cl B' ds vs → P vs H') : t σ H P := by
  refine ha B0 Fr fr pd ρ σ B H _ R (h.bind.imp fun ops ρ1 _ h1 => ?_)
  intro vs B1 H1 l s1 R1
  obtain ⟨ods, ρ2, B2, h2, l2, s2, R2⟩ := R1.owns l h1.bind
  obtain ⟨B3, s3, R3, rd⟩ := R2.shares l2
  cases e : f (OD.toDs ods) with
  | none => rw [e] at h2; exact h2.elim
  | some xs =>
    rw [e] at h2
    exact hP vs _ xs ρ2 B3 H1 s1 e h2 R3 rd
def f_zip : List D → Option (List D)
  | [.lst xs, .lst ys] => some ((xs.zip ys).map fun p => .tup [p.1, p.2])
  | _ => none
def f_enum : List D → Option (List D)
  | [.lst xs] => some (enumD 0 xs)
  | _ => none
def f_rev : List D → Option (List D)
  | [.lst xs] => some xs.reverse
  | _ => none
def i_by (f : List D → Option (List D)) (ma : M (List Op)) : M (List D) := do
  let ops ← ma
  let ods ← owns ops
  match f (OD.toDs ods) with
  | some xs => pure xs
  | none => stop
theorem wk_zip {p q : Addr} {xs ys : List D} : Wk K cl (Itz K p q) ((xs.zip ys).map fun p => .tup [p.1, p.2]) [(.lst xs, .ref p), (.lst ys, .ref q)] := by
  intro B0 Fr pd ρ σ B H i R
  have R' : Rel K cl B0 Fr ((.v (.sh (.lst xs)), .ref p) :: (.v (.sh (.lst ys)), .ref q) :: pd) ρ σ B H := R
  obtain ⟨f, ro⟩ := R'.node rfl
  obtain ⟨f2, ro2⟩ := R'.tail.node rfl
  cases ro with
  | sh rd z =>
    cases ro2 with
    | sh rd2 z2 =>
      cases rd with
      | lst hp r =>
        cases rd2 with
        | lst hp2 r2 =>
          rename_i vs us
          have h1 : SqL K H p vs := SqL.of (R.sB _ _ hp)
          have h2 : SqL K H q us := SqL.of (R.sB _ _ hp2)
          refine ⟨fun d hd => ?_, fun hl => ⟨vs, us, h1, h2, ?_⟩⟩
          · rw [List.getElem?_map] at hd
            cases hz : (xs.zip ys)[i]? with
            | none => rw [hz] at hd; cases hd
            | some pr =>
              rw [hz] at hd
              simp at hd; subst hd
              obtain ⟨hx, hy⟩ := List.getElem?_zip_eq_some.mp hz
              obtain ⟨v, e1, rv⟩ := r.get hx
              obtain ⟨u, e2, ru⟩ := r2.get hy
              refine ⟨⟨vs, us, v, u, h1, h2, e1, e2⟩, fun x H' y => ?_⟩
              obtain ⟨T, x1, x2, rfl, hT, rfl, f1, f2⟩ := y
              have q1 : x1 = v := Option.some.inj ((f1 _ h1).symm.trans e1)
              have q2 : x2 = u := Option.some.inj ((f2 _ h2).symm.trans e2)
              subst q1 q2
              exact ⟨_, Ext.newS R.sB hT, .tup (SqT.of upd_same) (.cons (rv.mono (Ext.newS R.sB hT).b) (.cons (ru.mono (Ext.newS R.sB hT).b) .nil))⟩
          · rw [List.length_map, List.length_zip] at hl
            rw [← r.length, ← r2.length]; omega
theorem enumD_get : ∀ {xs : List D} {k i : Nat}, (enumD k xs)[i]? = (xs[i]?).map fun x => .tup [.int ((k + i : Nat) : Int), x]
  | [], k, i => by simp [enumD]
  | x :: xs, k, 0 => by simp [enumD]
  | x :: xs, k, i + 1 => by
    simp only [enumD, List.getElem?_cons_succ]
    rw [enumD_get]
    have : k + 1 + i = k + (i + 1) := by omega
    rw [this]
theorem enumD_length : ∀ {xs : List D} {k : Nat}, (enumD k xs).length = xs.length
  | [], k => rfl
  | x :: xs, k => by simp [enumD, enumD_length]
theorem wk_enum {p : Addr} {xs : List D} : Wk K cl (Ite K p) (enumD 0 xs) [(.lst xs, .ref p)] := by
  intro B0 Fr pd ρ σ B H i R
  have R' : Rel K cl B0 Fr ((.v (.sh (.lst xs)), .ref p) :: pd) ρ σ B H := R
  obtain ⟨f, ro⟩ := R'.node rfl
  cases ro with
  | sh rd z =>
    cases rd with
    | lst hp r =>
      rename_i vs
      have h1 : SqL K H p vs := SqL.of (R.sB _ _ hp)
      refine ⟨fun d hd => ?_, fun hl => ⟨vs, h1, by rw [enumD_length] at hl; rw [← r.length]; exact hl⟩⟩
      rw [enumD_get] at hd
      cases hx : xs[i]? with
      | none => rw [hx] at hd; cases hd
      | some x =>
        rw [hx] at hd
        simp at hd; subst hd
        obtain ⟨v, e1, rv⟩ := r.get hx
        refine ⟨⟨vs, v, h1, e1⟩, fun x H' y => ?_⟩
        obtain ⟨T, x1, rfl, hT, rfl, f1⟩ := y
        have q1 : x1 = v := Option.some.inj ((f1 _ h1).symm.trans e1)
        subst q1
        exact ⟨_, Ext.newS R.sB hT, .tup (SqT.of upd_same) (.cons (.int _) (.cons (rv.mono (Ext.newS R.sB hT).b) .nil))⟩
theorem wk_rev {p : Addr} {xs : List D} : Wk K cl (Itv K p xs.length) xs.reverse [(.lst xs, .ref p)] := by
  intro B0 Fr pd ρ σ B H i R
  have R' : Rel K cl B0 Fr ((.v (.sh (.lst xs)), .ref p) :: pd) ρ σ B H := R
  obtain ⟨f, ro⟩ := R'.node rfl
  cases ro with
  | sh rd z =>
    cases rd with
    | lst hp r =>
      rename_i vs
      have h1 : SqL K H p vs := SqL.of (R.sB _ _ hp)
      refine ⟨fun d hd => ?_, fun hl => by simp at hl; exact hl⟩
      have hi : i < xs.length := by
        have := (List.getElem?_eq_some_iff.mp hd).1
        simpa using this
      rw [List.getElem?_reverse hi] at hd
      obtain ⟨v, e1, rv⟩ := r.get hd
      refine ⟨⟨hi, vs, v, h1, e1⟩, fun x H' y => ?_⟩
      obtain ⟨rfl, f1⟩ := y
      have q1 : x = v := Option.some.inj ((f1 _ h1).symm.trans e1)
      subst q1
      exact ⟨B, Ext.refl R.sB, rv⟩
theorem ji_zip {p : Pos} {kk : Nat} {tpos : Pos} {elts : List Expr} (hm : X.mg "zip" = none) (ha : JA X cl W [a, b] tas mas) (hg : Gl X "zip" := by rfl) (hs : starEach [a, b] X.env = (false, eval a X.env) :: starEach [b] X.env := by rfl) (hpl : (backTo pos (starEach [b] X.env)).any (·.1) = false := by rfl) :
    JI X cl W (.Tuple elts kk tpos) (.Call (.Name "zip" p) [a, b] [] pos) (iZip X.K tas) (i_by f_zip mas) := by
  refine ⟨pi_zip hg hm ha.pa hs hpl, fun B0 Fr fr pd ρ σ B H Rw R k => sa_owns (f := f_zip) ha.sa R k fun vs ds xs ρ' B' H' s e h R' rd => ?_⟩
  match ds, vs, rd with
  | [.lst xs', .lst ys'], _, .cons (.lst (p := p1) hp r) (.cons (.lst (p := p2) hp2 r2) .nil) =>
    simp [f_zip] at e; subst e
    refine ⟨_, _, _, _, rfl, SqL.of (R'.sB _ _ hp), SqL.of (R'.sB _ _ hp2), ?_⟩
    have R2 := (R'.push (.lst hp2 r2)).push (.lst hp r)
    exact h (Itz X.K p1 p2) [(.lst xs', .ref p1), (.lst ys', .ref p2)] B' H' s R2 wk_zip
theorem ji_enum {p : Pos} {kk : Nat} {tpos : Pos} {elts : List Expr} (hm : X.mg "enumerate" = none) (ha : JA X cl W [a] tas mas) (hg : Gl X "enumerate" := by rfl) (hs : starEach [a] X.env = [(false, eval a X.env)] := by rfl) :
    JI X cl W (.Tuple elts kk tpos) (.Call (.Name "enumerate" p) [a] [] pos) (iEnum X.K tas) (i_by f_enum mas) := by
  refine ⟨pi_enum hg hm ha.pa hs, fun B0 Fr fr pd ρ σ B H Rw R k => sa_owns (f := f_enum) ha.sa R k fun vs ds xs ρ' B' H' s e h R' rd => ?_⟩
  match ds, vs, rd with
  | [.lst xs'], _, .cons (.lst hp r) .nil =>
    simp [f_enum] at e; subst e
    refine ⟨_, _, rfl, SqL.of (R'.sB _ _ hp), ?_⟩
    exact h (Ite X.K _) [(.lst xs', .ref _)] B' H' s (R'.push (.lst hp r)) wk_enum
theorem ji_rev {tg : Expr} {p : Pos} (hm : X.mg "reversed" = none) (ha : JA X cl W [a] tas mas) (hg : Gl X "reversed" := by rfl) (hs : starEach [a] X.env = [(false, eval a X.env)] := by rfl) :
    JI X cl W tg (.Call (.Name "reversed" p) [a] [] pos) (iRev X.K tas) (i_by f_rev mas) := by
  refine ⟨pi_reversed hg hm ha.pa hs, fun B0 Fr fr pd ρ σ B H Rw R k => sa_owns (f := f_rev) ha.sa R k fun vs ds xs ρ' B' H' s e h R' rd => ?_⟩
  match ds, vs, rd with
  | [.lst xs'], _, .cons (.lst hp r) .nil =>
    simp [f_rev] at e; subst e
    refine ⟨_, _, rfl, SqL.of (R'.sB _ _ hp), ?_⟩
    have h' := h (Itv X.K _ xs'.length) [(.lst xs', .ref _)] B' H' s (R'.push (.lst hp r)) wk_rev
    rw [r.length] at h'
    exact h'

/-! ### built-ins -/
theorem se_cb {r : List V → Hp → VK → Prop} {f : List Op → M Op} (hs : SC K cl W r f) (ha : SA K cl W tas mas) : SE K cl W (tCB r tas) (m_cb f mas) := by
  intro B0 Fr fr pd ρ σ B H Q R k
  refine ha B0 Fr fr pd ρ σ B H _ R (k.bind.imp fun ops ρ1 _ h1 => ?_)
  intro vs B1 H1 l s1 R1
  exact hs B0 Fr fr _ ops vs ρ1 σ B1 H1 Q l R1 (h1.imp fun op ρ2 _ h2 v B2 H2 s2 R2 => h2 v B2 H2 (s1.trans s2) R2)
theorem je_cb {x : Str} {id : String} {p : Pos} {r : List V → Hp → VK → Prop} {f : List Op → M Op} (hc : CallR X (.builtin id) r) (sc : SC X.K cl W r f) (hm : X.mg x = none) (ha : JA X cl W (e :: es) tas mas) (hv : bootBuiltins x = some (.builtin id) := by decide +kernel) (hg : Gl X x := by rfl) (hn : x ≠ "__name__" := by decide) (hdb : (x == ("__debug__" : Str)) = false := by decide)
    (hs : starEach (e :: es) X.env = (false, eval e X.env) :: starEach es X.env := by rfl) (hpl : (backTo pos (starEach es X.env)).any (·.1) = false := by rfl) : JE X cl W (.Call (.Name x p) (e :: es) [] pos) (tCB r tas) (m_cb f mas) :=
  ⟨pe_callB hc hg hm hv ha.pa hn hdb hs hpl, se_cb sc ha.sa⟩
theorem je_ct {x : Str} {id : String} {p : Pos} {r : List V → Hp → VK → Prop} {f : List Op → M Op} (hc : CallR X (.type id) r) (sc : SC X.K cl W r f) (hm : X.mg x = none) (ha : JA X cl W (e :: es) tas mas) (hv : bootBuiltins x = some (.type id) := by decide +kernel) (hg : Gl X x := by rfl) (hn : x ≠ "__name__" := by decide) (hdb : (x == ("__debug__" : Str)) = false := by decide)
    (hs : starEach (e :: es) X.env = (false, eval e X.env) :: starEach es X.env := by rfl) (hpl : (backTo pos (starEach es X.env)).any (·.1) = false := by rfl) : JE X cl W (.Call (.Name x p) (e :: es) [] pos) (tCB r tas) (m_cb f mas) :=
  ⟨pe_callTy hc hg hm hv ha.pa hn hdb hs hpl, se_cb sc ha.sa⟩
theorem sc_1 {r : List V → Hp → VK → Prop} {f : Op → M Op} (h : SU K cl W (fun x H Q => r [x] H Q) f) : SC K cl W r (fun ops => match ops with | [a] => f a | _ => stop) := by
  intro B0 Fr fr pd ops vs ρ σ B H Q l R k
  match ops, vs, l with
  | [], _, _ => exact k.elim
  | _ :: _ :: _, _, _ => exact k.elim
  | [a], [v], _ => exact h B0 Fr fr pd a v ρ σ B H Q R k
theorem sc_c1 {r : List V → Hp → VK → Prop} {g : D → Option D} (hf : ∀ x d, g x = some d → d.flat = true) (hr : ∀ x d v (H : Hp) (Q : VK), g x = some d → RD K cl H x v → Q d.v H → r [v] H Q) : SC K cl W r (c1 g) :=
  sc_1 (su_flat (r := fun x H Q => r [x] H Q) hf hr)
theorem sc_c2 {r : List V → Hp → VK → Prop} {g : D → D → Option D} (hf : ∀ x y d, g x y = some d → d.flat = true) (hr : ∀ x y d v w (H : Hp) (Q : VK), g x y = some d → RD K cl H x v → RD K cl H y w → Q d.v H → r [v, w] H Q) : SC K cl W r (c2 g) := by
  intro B0 Fr fr pd ops vs ρ σ B H Q l R k
  match ops, vs, l with
  | [], _, _ => exact k.elim
  | [_], _, _ => exact k.elim
  | _ :: _ :: _ :: _, _, _ => exact k.elim
  | [a, b], [v, w], _ =>
    have R' : Rel K cl B0 Fr ((a, v) :: (b, w) :: pd) ρ σ B H := R
    exact so_flat (r := fun x y H Q => r [x, y] H Q) hf hr B0 Fr fr pd a b v w ρ σ B H Q R'.swap k
theorem CallR.or {f : Value} {r r' : List V → Hp → VK → Prop} (h : CallR X f r) (h' : CallR X f r') : CallR X f (fun xs H Q => r xs H Q ∨ r' xs H Q) := by
  intro pins s σ H xs us Q I rx q
  rcases q with q | q
  · exact h pins s σ H xs us Q I rx q
  · exact h' pins s σ H xs us Q I rx q
def r_len (K : PySem.W.Frag) : List V → Hp → VK → Prop := fun xs H Q => (∃ p ys, xs = [.ref p] ∧ (SqL K H p ys ∨ SqT K H p ys) ∧ Q (.int ys.length) H) ∨ (∃ z, xs = [.str z] ∧ z.length ≤ sizeLine ∧ Q (.int z.length) H)
theorem cr_len : CallR X (.builtin "len") (r_len X.K) := CallR.or call_len_seq call_len_str
theorem sc_len : SC K cl W (r_len K) (c1 g_len) := sc_c1 (fun x d e => by
    cases x <;> simp [g_len] at e <;> first | (subst e; rfl) | (obtain ⟨_, rfl⟩ := e; rfl)) fun x d v H Q e r q => by
  cases r <;> simp [g_len] at e
  · obtain ⟨hz, rfl⟩ := e
    exact .inr ⟨_, rfl, szOk_le hz, q⟩
  · subst e
    rename_i hp r
    exact .inl ⟨_, _, rfl, .inl (SqL.of hp), by rw [← r.length]; exact q⟩
  · subst e
    rename_i hp r
    exact .inl ⟨_, _, rfl, .inr hp, by rw [← r.length]; exact q⟩
  · subst e
    rename_i hp
    exact .inl ⟨_, _, rfl, .inl hp, by rw [List.length_map]; exact q⟩
theorem je_len {p : Pos} (hm : X.mg "len" = none) (ha : JE X cl W a ta ma) (hg : Gl X "len" := by rfl) (hs : starEach [a] X.env = (false, eval a X.env) :: starEach [] X.env := by rfl) (hpl : (backTo pos (starEach [] X.env)).any (·.1) = false := by rfl) :
    JE X cl W (.Call (.Name "len" p) [a] [] pos) (tCB (r_len X.K) (tCons ta tNil)) (m_cb (c1 g_len) (m_args ma m_args0)) :=
  je_cb cr_len sc_len hm (ja_cons ha ja_nil hs) PySem.boot_len hg (by decide) (by decide) hs hpl
theorem sc_min2 : SC K cl W (fun xs H Q => ∃ i j, xs = [.int i, .int j] ∧ Q (.int (if j < i then j else i)) H) (c2 g_min2) := sc_c2 (fun x y d e => by
    cases x <;> cases y <;> simp [g_min2] at e; subst e; rfl) fun x y d v w H Q e r1 r2 q => by
  cases x <;> cases y <;> simp [g_min2] at e
  subst e
  exact ⟨_, _, by rw [view_int r1, view_int r2], q⟩
theorem sc_max2 : SC K cl W (fun xs H Q => ∃ i j, xs = [.int i, .int j] ∧ Q (.int (if j > i then j else i)) H) (c2 g_max2) := sc_c2 (fun x y d e => by
    cases x <;> cases y <;> simp [g_max2] at e; subst e; rfl) fun x y d v w H Q e r1 r2 q => by
  cases x <;> cases y <;> simp [g_max2] at e
  subst e
  exact ⟨_, _, by rw [view_int r1, view_int r2], q⟩
theorem asInts_eq : ∀ {ds : List D} {ns : List Int}, asInts ds = some ns → ds = ns.map D.int
  | [], ns, e => by simp [asInts] at e; subst e; rfl
  | d :: ds, ns, e => by
    cases d <;> simp [asInts] at e
    obtain ⟨ms, e1, rfl⟩ := e
    rw [asInts_eq e1]; rfl
theorem asBls_eq : ∀ {ds : List D} {ns : List Bool}, asBls ds = some ns → ds = ns.map D.bl
  | [], ns, e => by simp [asBls] at e; subst e; rfl
  | d :: ds, ns, e => by
    cases d <;> simp [asBls] at e
    obtain ⟨ms, e1, rfl⟩ := e
    rw [asBls_eq e1]; rfl
theorem rd_ints {G : Hp} {ds : List D} {ns : List Int} {v : V} (e : asInts ds = some ns) (r : RD K cl G (.lst ds) v) : ∃ p, v = .ref p ∧ SqL K G p (ns.map V.int) := by
  rw [asInts_eq e] at r
  cases r with
  | lst hp r => rw [RDs.ints r] at hp; exact ⟨_, rfl, SqL.of hp⟩
theorem rd_bls {G : Hp} {ds : List D} {ns : List Bool} {v : V} (e : asBls ds = some ns) (r : RD K cl G (.lst ds) v) : ∃ p, v = .ref p ∧ SqL K G p (ns.map V.bl) := by
  rw [asBls_eq e] at r
  cases r with
  | lst hp r => rw [RDs.bls r] at hp; exact ⟨_, rfl, SqL.of hp⟩
theorem sc_sum : SC K cl W (rSum K) (c1 g_sum) := sc_c1 (fun x d e => by
    cases x <;> simp [g_sum] at e; obtain ⟨_, _, rfl⟩ := e; rfl) fun x d v H Q e r q => by
  cases x <;> simp [g_sum] at e
  obtain ⟨ns, e1, rfl⟩ := e
  obtain ⟨p, rfl, h⟩ := rd_ints e1 r
  exact ⟨p, ns, rfl, h, q⟩
theorem sc_any : SC K cl W (rAny K) (c1 g_any) := sc_c1 (fun x d e => by
    cases x <;> simp [g_any] at e; obtain ⟨_, _, rfl⟩ := e; rfl) fun x d v H Q e r q => by
  cases x with
  | lst ds =>
    simp only [g_any, Option.map_eq_some_iff] at e
    obtain ⟨ns, e1, rfl⟩ := e
    obtain ⟨p, rfl, h⟩ := rd_bls e1 r
    exact ⟨p, ns, rfl, h, q⟩
  | _ => cases e
theorem sc_all : SC K cl W (rAll K) (c1 g_all) := sc_c1 (fun x d e => by
    cases x <;> simp [g_all] at e; obtain ⟨_, _, rfl⟩ := e; rfl) fun x d v H Q e r q => by
  cases x with
  | lst ds =>
    simp only [g_all, Option.map_eq_some_iff] at e
    obtain ⟨ns, e1, rfl⟩ := e
    obtain ⟨p, rfl, h⟩ := rd_bls e1 r
    exact ⟨p, ns, rfl, h, q⟩
  | _ => cases e
theorem le_maxL : ∀ {ns : List Int} {y : Int}, y ∈ ns → y ≤ maxL ns
  | [x], y, h => by simp at h; subst h; exact Int.le_refl _
  | x :: z :: xs, y, h => by
    rcases List.mem_cons.mp h with rfl | h
    · show y ≤ max y _; omega
    · have := le_maxL (ns := z :: xs) h
      show y ≤ max x (maxL (z :: xs)); omega
theorem maxL_mem : ∀ {ns : List Int}, ns ≠ [] → maxL ns ∈ ns
  | [x], _ => by simp [maxL]
  | x :: z :: xs, _ => by
    have ih := maxL_mem (ns := z :: xs) (by simp)
    show max x (maxL (z :: xs)) ∈ _
    by_cases h : x ≤ maxL (z :: xs)
    · rw [show max x (maxL (z :: xs)) = maxL (z :: xs) by omega]; exact List.mem_cons_of_mem _ ih
    · rw [show max x (maxL (z :: xs)) = x by omega]; exact List.mem_cons_self
theorem minL_le : ∀ {ns : List Int} {y : Int}, y ∈ ns → minL ns ≤ y
  | [x], y, h => by simp at h; subst h; exact Int.le_refl _
  | x :: z :: xs, y, h => by
    rcases List.mem_cons.mp h with rfl | h
    · show min y _ ≤ y; omega
    · have := minL_le (ns := z :: xs) h
      show min x (minL (z :: xs)) ≤ y; omega
theorem minL_mem : ∀ {ns : List Int}, ns ≠ [] → minL ns ∈ ns
  | [x], _ => by simp [minL]
  | x :: z :: xs, _ => by
    have ih := minL_mem (ns := z :: xs) (by simp)
    show min x (minL (z :: xs)) ∈ _
    by_cases h : minL (z :: xs) ≤ x
    · rw [show min x (minL (z :: xs)) = minL (z :: xs) by omega]; exact List.mem_cons_of_mem _ ih
    · rw [show min x (minL (z :: xs)) = x by omega]; exact List.mem_cons_self
theorem g_max_eq {x d : D} (e : g_max x = some d) : ∃ ds ns, x = .lst ds ∧ asInts ds = some ns ∧ ns ≠ [] ∧ d = .int (maxL ns) := by
  cases x with
  | lst ds =>
    simp only [g_max] at e
    cases q : asInts ds with
    | none => rw [q] at e; cases e
    | some ns =>
      rw [q] at e
      cases ns with
      | nil => cases e
      | cons n ns => exact ⟨ds, _, rfl, q, by simp, (Option.some.inj e).symm⟩
  | _ => cases e
theorem g_min_eq {x d : D} (e : g_min x = some d) : ∃ ds ns, x = .lst ds ∧ asInts ds = some ns ∧ ns ≠ [] ∧ d = .int (minL ns) := by
  cases x with
  | lst ds =>
    simp only [g_min] at e
    cases q : asInts ds with
    | none => rw [q] at e; cases e
    | some ns =>
      rw [q] at e
      cases ns with
      | nil => cases e
      | cons n ns => exact ⟨ds, _, rfl, q, by simp, (Option.some.inj e).symm⟩
  | _ => cases e
theorem sc_max : SC K cl W (rMax K) (c1 g_max) := sc_c1 (fun x d e => by
    obtain ⟨_, _, _, _, _, rfl⟩ := g_max_eq e; rfl) fun x d v H Q e r q => by
  obtain ⟨ds, ns, rfl, e1, hne, rfl⟩ := g_max_eq e
  obtain ⟨p, rfl, h⟩ := rd_ints e1 r
  refine ⟨p, ns, rfl, h, List.length_pos_iff.mpr hne, fun m hm hle => ?_⟩
  have : m = maxL ns := Int.le_antisymm (le_maxL hm) (hle _ (maxL_mem hne))
  rw [this]; exact q
theorem sc_min : SC K cl W (rMin K) (c1 g_min) := sc_c1 (fun x d e => by
    obtain ⟨_, _, _, _, _, rfl⟩ := g_min_eq e; rfl) fun x d v H Q e r q => by
  obtain ⟨ds, ns, rfl, e1, hne, rfl⟩ := g_min_eq e
  obtain ⟨p, rfl, h⟩ := rd_ints e1 r
  refine ⟨p, ns, rfl, h, List.length_pos_iff.mpr hne, fun m hm hle => ?_⟩
  have : m = minL ns := Int.le_antisymm (hle _ (minL_mem hne)) (minL_le hm)
  rw [this]; exact q
theorem sc_list : SC K cl W (fun xs H Q => ∃ p ys, xs = [.ref p] ∧ (SqL K H p ys ∨ SqT K H p ys) ∧ ∀ l, H l = none → Q (.ref l) (upd H l (.lst ys))) c_list := by
  intro B0 Fr fr pd ops vs ρ σ B H Q l R k
  match ops, vs, l with
  | [], _, _ => exact k.elim
  | _ :: _ :: _, _, _ => exact k.elim
  | [a], [v], _ =>
    have R' : Rel K cl B0 Fr ((a, v) :: pd) ρ σ B H := R
    unfold c_list at k
    obtain ⟨od, ρ1, B1, h1, s1, R1⟩ := R'.own k.bind
    obtain ⟨B2, s2, R2, rd⟩ := R1.share
    have same : ∀ {l : Addr} {o : HO}, H l = none → Same H (upd H l o) := fun h a o e => by rw [upd_ne (ne_of_none e h)]; exact e
    cases e : od.toD with
    | lst ds =>
      rw [e] at h1 rd
      cases rd with
      | lst hp r => exact ⟨_, _, rfl, .inl (SqL.of (R2.sB _ _ hp)), fun l hl => h1 _ B2 _ (same hl) (R2.newL hl r)⟩
    | tup ds =>
      rw [e] at h1 rd
      cases rd with
      | tup hp r => exact ⟨_, _, rfl, .inr (sqT_same R2.sB hp), fun l hl => h1 _ B2 _ (same hl) (R2.newL hl r)⟩
    | scr ns =>
      rw [e] at h1 rd
      cases rd with
      | scr hp => exact ⟨_, _, rfl, .inl (R2.sB.seq hp), fun l hl => h1 _ B2 _ (same hl) (R2.newL hl (RDs.of_ints ns))⟩
    | _ => rw [e] at h1; exact h1.elim
theorem sortI_perm (ns : List Int) : (sortI ns).Perm ns := List.mergeSort_perm _ _
theorem sortI_sorted (ns : List Int) : (sortI ns).Pairwise (· ≤ ·) := by
  have h := List.pairwise_mergeSort (le := fun a b : Int => decide (a ≤ b)) (fun a b c h1 h2 => by simp at *; omega) (fun a b => by simp; omega) ns
  exact h.imp fun h => by simpa using h
theorem sorted_unique {a b : List Int} (p : a.Perm b) (ha : a.Pairwise (· ≤ ·)) (hb : b.Pairwise (· ≤ ·)) : a = b :=
  p.eq_of_pairwise (fun _ _ _ _ h1 h2 => Int.le_antisymm h1 h2) ha hb
theorem sc_sortI : SC K cl W (rSortedI K) c_sortI := by
  intro B0 Fr fr pd ops vs ρ σ B H Q l R k
  match ops, vs, l with
  | [], _, _ => exact k.elim
  | _ :: _ :: _, _, _ => exact k.elim
  | [a], [v], _ =>
    have R' : Rel K cl B0 Fr ((a, v) :: pd) ρ σ B H := R
    unfold c_sortI at k
    obtain ⟨d, e, h⟩ := vw_ok k.bind
    have rd := R'.view e
    cases d with
    | lst ds =>
      simp only at h
      cases e2 : asInts ds with
      | none => rw [e2] at h; exact h.elim
      | some ns =>
        rw [e2] at h
        obtain ⟨p, rfl, hs⟩ := rd_ints e2 rd
        refine ⟨p, ns, rfl, hs, fun ns' q hp hw hq => ?_⟩
        have en : ns' = sortI ns := sorted_unique (hp.trans (sortI_perm ns).symm) hw (sortI_sorted ns)
        subst en
        exact h _ B _ (fun a o e => by rw [upd_ne (ne_of_none e hq)]; exact e) (R'.tail.newL hq (RDs.of_ints _))
    | _ => exact h.elim
end
end Dv
end

section
set_option Elab.async false
set_option linter.all false
set_option maxRecDepth 100000
set_option maxHeartbeats 4000000
set_option autoImplicit false
/-! Dv12: in, index, list(range), pop, isinstance, slices. -/
namespace Dv
open PySem PySem.Spec PyProof.Rows L2

def l_range1 (me : M Op) : M Op := do
  let a ← me
  let d ← vw a
  match d with
  | .int j => do
    guard' (rngOk j && decide (j ≤ 16777216))
    pure (newL (rangeD 0 j))
  | _ => stop
def l_range2 (ma mb : M Op) : M Op := do
  let a ← ma
  let b ← mb
  let d ← vw a
  let e ← vw b
  match d, e with
  | .int i, .int j => do
    guard' (rngOk i && rngOk j && decide ((j - i).toNat ≤ 16777216))
    pure (newL (rangeD i j))
  | _, _ => stop
/-- what a method may be asked of -/
def isLst : D → Bool
  | .lst _ => true
  | .scr _ => true
  | _ => false
def isStr : D → Bool
  | .str _ => true
  | _ => false
/-- o.m(e), o of a kind -/
def m_bm1 (p : D → Bool) (f : Op → Op → M Op) (mo me : M Op) : M Op := do
  let o ← mo
  let d ← vw o
  guard' (p d)
  let a ← me
  f o a
def m_bm0 (p : D → Bool) (f : Op → M Op) (mo : M Op) : M Op := do
  let o ← mo
  let d ← vw o
  guard' (p d)
  f o
/-- xs.pop(i) -/
def m_pop (mo me : M Op) : M Op := do
  let o ← mo
  let _ ← lsAt o
  let a ← me
  let d ← vw a
  match d with
  | .int i => do
    guard' (rngOk i)
    let xs ← lsAt o
    match ixN xs.length i with
    | some k => (match xs[k]? with
      | some y => do
        (match o with | .late _ _ => pure () | _ => stop : M Unit)
        putAt o (xs.eraseIdx k)
        pure (.v y)
      | none => stop)
    | none => stop
  | _ => stop
/-- xs.append(e), e one that changes -/
def s_appendM (mo mm : M Op) : M Fl := do
  let o ← mo
  let _ ← lsAt o
  (match o with | .late _ [] => pure () | _ => stop : M Unit)
  let a ← mm
  let y ← own a
  let xs ← lsAt o
  guard' (decide (xs.length < 16777216))
  putAt o (xs ++ [y])
  pure .nx
/-- the kind of a value -/
def kindOf : D → Option (String ⊕ Str)
  | .non => some (.inl "NoneType")
  | .bl _ => some (.inl "bool")
  | .int _ => some (.inl "int")
  | .str _ => some (.inl "str")
  | .lst _ => some (.inl "list")
  | .scr _ => some (.inl "list")
  | .tup _ => some (.inl "tuple")
  | .exc c => some (.inr c)
  | .ins _ _ _ => none
def u_isi (fb : String → Option Bool) (fo : Str → Option Bool) (d : D) : Option D := match kindOf d with
  | some (.inl n) => (fb n).map D.bl
  | some (.inr c) => (fo c).map D.bl
  | none => none

section
variable {K : PySem.W.Frag} {cl : Str → Addr} {W : WX} {B0 Fr : Hp} {fr w : List (D × V)} {pd pd' : List (Op × V)} {ρ ρ' : Dv.Env} {σ σ' : L2.St} {B H B' H' : Hp} {X : Cx}
variable {a b e : Expr} {es : List Expr} {ta tb te : TE} {ma mb me : M Op} {tt tu : TT} {mt mu : M Bool} {pos : Pos} {rest : List Expr} {tas : TA} {mas : M (List Op)}
/-! ### in -/
theorem flat_all {G : Hp} : ∀ {ds : List D} {vs : List V}, ds.all D.flat = true → RDs K cl G ds vs → vs = ds.map D.v ∧ (ds.map D.v).all flatV = true
  | [], _, _, .nil => ⟨rfl, rfl⟩
  | d :: ds, _, h, .cons r rs => by
    rw [List.all_cons, Bool.and_eq_true] at h
    obtain ⟨e, f⟩ := flat_all h.2 rs
    have e1 := flat_v h.1 r
    subst e1 e
    refine ⟨rfl, ?_⟩
    rw [List.map_cons, List.all_cons, f]
    cases d <;> first | rfl | cases h.1
theorem flat_flatV {d : D} (h : d.flat = true) : flatV d.v = true := by cases d <;> first | rfl | cases h
def r_in (K : PySem.W.Frag) : R2 := fun x y H Q => (rIn K false x y H Q ∨ rInD K x y H Q) ∨ ((∃ (c : Nat) (z : Str), x = .str ⟨#[c]⟩ ∧ y = .str z ∧ Q (.bl (decide (c ∈ z.cps.toList))) H) ∨ ∃ i j, x = .str i ∧ y = .str j ∧ Q (.bl (!(Builtin.Str.occurrences j i 0 j.length 1).isEmpty)) H)
def r_notin (K : PySem.W.Frag) : R2 := fun x y H Q => (rIn K true x y H Q ∨ rNotInD K x y H Q) ∨ ((∃ (c : Nat) (z : Str), x = .str ⟨#[c]⟩ ∧ y = .str z ∧ Q (.bl (!decide (c ∈ z.cps.toList))) H) ∨ ∃ i j, x = .str i ∧ y = .str j ∧ Q (.bl (!(!(Builtin.Str.occurrences j i 0 j.length 1).isEmpty))) H)
theorem inS_one {c z : Str} {n : Nat} (h : c.cps.toList = [n]) : c = ⟨#[n]⟩ := by
  obtain ⟨⟨l⟩⟩ := c
  simp at h; subst h; rfl
theorem inD_ok {G : Hp} {x : D} {ds : List D} {v : V} {b : Bool} (h : inD x ds = some b) (r : RD K cl G x v) : (ds.all D.flat = true ∧ x.flat = true ∧ b = inV x.v (ds.map D.v)) ∨ ∃ p qs, x.py = some p ∧ D.pys ds = some qs ∧ SeqAt.shaped p = true ∧ SeqAt.shaped (.list qs) = true ∧ b = qs.any fun z => PyData.eqv z p := by
  unfold inD at h
  split at h
  · rename_i hf
    rw [Bool.and_eq_true] at hf
    simp at h
    exact .inl ⟨hf.1, hf.2, h.symm⟩
  · cases q : x.py with
    | none => rw [q] at h; cases h
    | some p =>
      cases q2 : D.pys ds with
      | none => rw [q, q2] at h; cases h
      | some qs =>
        rw [q, q2] at h
        simp only at h
        split at h
        · rename_i hs
          rw [Bool.and_eq_true] at hs
          simp at h
          exact .inr ⟨p, qs, rfl, rfl, hs.1, hs.2, h.symm⟩
        · cases h
theorem rc_in {k : Nat} (hr : Room k X.A) : RC2 X cl W .In (r_in X.K) (o_flat g_in) := by
  have hu : X.A.units + 65 < cLine := by have := hr.un; omega
  refine ⟨(op_in_seq.or (op_inD hu)).or (op_in_sign.or op_in_str), so_flat (fun x y d e => ?_) fun x y d v w H Q e r1 r2 q => ?_⟩
  · simp only [g_in, Option.map_eq_some_iff] at e
    obtain ⟨_, _, rfl⟩ := e; rfl
  · simp only [g_in, Option.map_eq_some_iff] at e
    obtain ⟨b, e, rfl⟩ := e
    cases r2 with
    | lst hp r =>
      rename_i ds vs
      rcases inD_ok (show inD x ds = some b from e) r1 with ⟨h1, h2, rfl⟩ | ⟨p, qs, h1, h2, h3, h4, rfl⟩
      · obtain ⟨e1, e2⟩ := flat_all h1 r
        subst e1
        have := flat_v h2 r1
        subst this
        exact .inl (.inl ⟨_, _, rfl, .inl (SqL.of hp), flat_flatV h2, e2, q⟩)
      · exact .inl (.inr ⟨p, qs, rd_py.1 _ _ _ r1 h1, .lst (SqL.of hp) (rd_py.2 _ _ _ r h2), h3, h4, q⟩)
    | tup hp r =>
      simp only [g_inB] at e
      split at e
      · rename_i hf
        rw [Bool.and_eq_true] at hf
        simp at e; subst e
        obtain ⟨e1, e2⟩ := flat_all hf.1 r
        subst e1
        have := flat_v hf.2 r1
        subst this
        exact .inl (.inl ⟨_, _, rfl, .inr hp, flat_flatV hf.2, e2, q⟩)
      · cases e
    | str z =>
      cases r1 with
      | str c =>
        simp only [g_inB, Option.some.injEq] at e
        unfold inS at e
        split at e
        · rename_i n hn
          subst e
          rw [inS_one (z := z) hn]
          exact .inr (.inl ⟨n, z, rfl, rfl, q⟩)
        · subst e
          exact .inr (.inr ⟨c, z, rfl, rfl, q⟩)
      | _ => simp [g_inB] at e
    | _ => simp [g_inB] at e
theorem rc_notin {k : Nat} (hr : Room k X.A) : RC2 X cl W .NotIn (r_notin X.K) (o_flat g_notin) := by
  have hu : X.A.units + 65 < cLine := by have := hr.un; omega
  refine ⟨(op_notIn_seq.or (op_notInD hu)).or (op_notIn_sign.or op_notIn_str), so_flat (fun x y d e => ?_) fun x y d v w H Q e r1 r2 q => ?_⟩
  · simp only [g_notin, Option.map_eq_some_iff] at e
    obtain ⟨_, _, rfl⟩ := e; rfl
  · simp only [g_notin, Option.map_eq_some_iff] at e
    obtain ⟨b, e, rfl⟩ := e
    cases r2 with
    | lst hp r =>
      rename_i ds vs
      rcases inD_ok (show inD x ds = some b from e) r1 with ⟨h1, h2, rfl⟩ | ⟨p, qs, h1, h2, h3, h4, rfl⟩
      · obtain ⟨e1, e2⟩ := flat_all h1 r
        subst e1
        have := flat_v h2 r1
        subst this
        exact .inl (.inl ⟨_, _, rfl, .inl (SqL.of hp), flat_flatV h2, e2, q⟩)
      · exact .inl (.inr ⟨p, qs, rd_py.1 _ _ _ r1 h1, .lst (SqL.of hp) (rd_py.2 _ _ _ r h2), h3, h4, q⟩)
    | tup hp r =>
      simp only [g_inB] at e
      split at e
      · rename_i hf
        rw [Bool.and_eq_true] at hf
        simp at e; subst e
        obtain ⟨e1, e2⟩ := flat_all hf.1 r
        subst e1
        have := flat_v hf.2 r1
        subst this
        exact .inl (.inl ⟨_, _, rfl, .inr hp, flat_flatV hf.2, e2, q⟩)
      · cases e
    | str z =>
      cases r1 with
      | str c =>
        simp only [g_inB, Option.some.injEq] at e
        unfold inS at e
        split at e
        · rename_i n hn
          subst e
          rw [inS_one (z := z) hn]
          exact .inr (.inl ⟨n, z, rfl, rfl, q⟩)
        · subst e
          exact .inr (.inr ⟨c, z, rfl, rfl, q⟩)
      | _ => simp [g_inB] at e
    | _ => simp [g_inB] at e

/-! ### methods that change nothing -/
theorem se_bm1 {T : String} {p : D → Bool} {to : TE} {mo : M Op} {f : Op → Op → M Op} {r : V → List V → Hp → VK → Prop} (hp : ∀ d v H, p d = true → RD K cl H d v → tyV K T v H) (hs : SO K cl W (fun x y H Q => r x [y] H Q) f) (ho : SE K cl W to mo) (he : SE K cl W te me) :
    SE K cl W (tBM K T r to (tCons te tNil)) (m_bm1 p f mo me) := by
  intro B0 Fr fr pd ρ σ B H Q R k
  refine ho B0 Fr fr pd ρ σ B H _ R (k.bind.imp fun o ρ1 _ h1 => ?_)
  intro x B1 H1 s1 R1
  obtain ⟨d, e0, h2⟩ := vw_ok h1.bind
  obtain ⟨hd, h3⟩ := guard_ok (Pst.bind h2)
  refine ⟨hp d x H1 hd (R1.view e0), ?_⟩
  refine he B0 Fr fr ((o, x) :: pd) ρ1 σ B1 H1 _ R1 ((Pst.bind h3).imp fun a ρ2 _ h4 => ?_)
  intro y B2 H2 s2 R2
  exact hs B0 Fr fr _ o a x y ρ2 σ B2 H2 Q R2 (h4.imp fun c ρ3 _ h5 v B3 H3 s3 R3 => h5 v B3 H3 ((s1.trans s2).trans s3) R3)
theorem se_bm0 {T : String} {p : D → Bool} {to : TE} {mo : M Op} {f : Op → M Op} {r : V → List V → Hp → VK → Prop} (hp : ∀ d v H, p d = true → RD K cl H d v → tyV K T v H) (hs : SU K cl W (fun x H Q => r x [] H Q) f) (ho : SE K cl W to mo) :
    SE K cl W (tBM0 K T r to) (m_bm0 p f mo) := by
  intro B0 Fr fr pd ρ σ B H Q R k
  refine ho B0 Fr fr pd ρ σ B H _ R (k.bind.imp fun o ρ1 _ h1 => ?_)
  intro x B1 H1 s1 R1
  obtain ⟨d, e0, h2⟩ := vw_ok h1.bind
  obtain ⟨hd, h3⟩ := guard_ok (Pst.bind h2)
  refine ⟨hp d x H1 hd (R1.view e0), ?_⟩
  exact hs B0 Fr fr _ o x ρ1 σ B1 H1 Q R1 ((show Pst K cl W B0 Fr fr (f o ρ1) _ from h3).imp fun c ρ3 _ h5 v B3 H3 s3 R3 => h5 v B3 H3 (s1.trans s3) R3)
theorem ty_lst {d : D} {v : V} {H : Hp} (h : isLst d = true) (r : RD K cl H d v) : tyV K "list" v H := by
  cases r with
  | lst hp _ => exact .inl ⟨rfl, _, SqL.of hp⟩
  | scr hp => exact .inl ⟨rfl, _, hp⟩
  | _ => cases h
theorem ty_str {d : D} {v : V} {H : Hp} (h : isStr d = true) (r : RD K cl H d v) : tyV K "str" v H := by
  cases r with
  | str z => exact rfl
  | _ => cases h
theorem firstAt_ok : ∀ {xs : List V} {y : V} {k : Nat}, firstAt y xs = some k → ∃ z, xs[k]? = some z ∧ eqV z y = true ∧ ∀ (m : Nat) (z' : V), m < k → xs[m]? = some z' → eqV z' y = false
  | [], y, k, h => by cases h
  | x :: xs, y, k, h => by
    unfold firstAt at h
    split at h
    · rename_i e
      simp at h; subst h
      exact ⟨x, rfl, e, fun m z' hm => absurd hm (Nat.not_lt_zero _)⟩
    · rename_i e
      cases q : firstAt y xs with
      | none => rw [q] at h; cases h
      | some j =>
        rw [q] at h
        simp at h; subst h
        obtain ⟨z, h1, h2, h3⟩ := firstAt_ok q
        refine ⟨z, by simpa using h1, h2, fun m z' hm hz => ?_⟩
        cases m with
        | zero => simp at hz; subst hz; simpa using e
        | succ m => exact h3 m z' (by omega) (by simpa using hz)
theorem so_index : SO K cl W (fun x y H Q => rIndex K x [y] H Q) o_index := by
  intro B0 Fr fr pd a b x y ρ σ B H Q R h
  unfold o_index at h
  obtain ⟨d, e1, h⟩ := vw_ok h.bind
  obtain ⟨d2, e2, h⟩ := vw_ok (Pst.bind h)
  have r1 := R.swap.view e1
  have r2 := R.view e2
  cases d with
  | lst ds =>
    simp only at h
    split at h
    · rename_i hf
      rw [Bool.and_eq_true] at hf
      cases q : firstAt d2.v (ds.map D.v) with
      | none => rw [q] at h; exact h.elim
      | some k =>
        rw [q] at h
        cases r1 with
        | lst hp r =>
          obtain ⟨ev, ef⟩ := flat_all hf.1 r
          subst ev
          have := flat_v hf.2 r2
          subst this
          obtain ⟨z, h1, h2, h3⟩ := firstAt_ok q
          exact ⟨_, _, _, k, z, rfl, rfl, SqL.of hp, flat_flatV hf.2, ef, h1, h2, h3, h _ B H (Same.refl _) (R.tail.tail.push (.int _))⟩
    · exact h.elim
  | _ => exact h.elim
theorem je_index {o : Expr} {to : TE} {mo : M Op} {apos cpos : Pos} (ho : JE X cl W o to mo) (he : JE X cl W e te me)
    (hbase : attributeBase o "index" X.env (eval o X.env) = eval o X.env := by rfl)
    (hfew : ((backTo cpos (starEach [e] X.env)).all (fun x => !x.1) && (backToKw cpos (keywordEach [] X.env)).all (fun x => x.1.isSome)
      && decide ([e].length + ([] : List Keyword).length + (if ([] : List Keyword).isEmpty then 0 else 1) < 30)) = true := by rfl)
    (hline : (apos.endLine == cpos.line) = true := by rfl) (hs : starEach [e] X.env = (false, eval e X.env) :: starEach [] X.env := by rfl) (hplain : (backTo cpos (starEach [] X.env)).any (·.1) = false := by rfl) :
    JE X cl W (.Call (.Attribute o "index" apos) [e] [] cpos) (tBM X.K "list" (rIndex X.K) to (tCons te tNil)) (m_bm1 isLst o_index mo me) :=
  ⟨pe_bm PySem.F.plainAttrs_list PySem.F.slot_list_index PySem.F.type_list_index mt_index ho.pe (pa_cons he.pe pa_nil hs) hbase hfew hline hs hplain, se_bm1 (fun d v H h r => ty_lst h r) so_index ho.se he.se⟩

/-! ### list(range(..)) -/
theorem rds_range {G : Hp} {i j : Int} : RDs K cl G (rangeD i j) (rgV i j) := by
  unfold rangeD rgV
  generalize List.range (j - i).toNat = l
  induction l with
  | nil => exact .nil
  | cons x l ih => exact .cons (.int _) ih
theorem je_listRg1 {p p2 pos2 : Pos} (hc : X.calm = true) (hm : X.mg "list" = none) (hm2 : X.mg "range" = none) (ha : JE X cl W a ta ma) (hg : Gl X "list" := by rfl) (hg2 : Gl X "range" := by rfl) (na : starEach [a] X.env = (false, eval a X.env) :: starEach [] X.env := by rfl)
    (nb : starEach [.Call (.Name "range" p2) [a] [] pos2] X.env = (false, eval (.Call (.Name "range" p2) [a] [] pos2) X.env) :: starEach [] X.env := by rfl) :
    JE X cl W (.Call (.Name "list" p) [.Call (.Name "range" p2) [a] [] pos2] [] pos) (tLstRg (tRg1 ta)) (l_range1 ma) := by
  refine ⟨pe_listRg hc hg hm (prg_1 hg2 hm2 ha.pe na) nb, fun B0 Fr fr pd ρ σ B H Q R k => ha.se B0 Fr fr pd ρ σ B H _ R (k.bind.imp fun o ρ1 _ h1 => ?_)⟩
  intro x B1 H1 s1 R1
  obtain ⟨d, e0, h2⟩ := vw_ok h1.bind
  have rd := R1.view e0
  cases d with
  | int j =>
    obtain ⟨hd, h3⟩ := guard_ok (Pst.bind h2)
    simp only [rngOk, Bool.and_eq_true, decide_eq_true_eq] at hd
    refine ⟨j, view_int rd, ⟨by omega, by omega, hd.1.1, hd.1.2, by omega⟩, fun q hq => ?_⟩
    exact h3 _ B1 _ (s1.trans fun a o e => by rw [upd_ne (ne_of_none e hq)]; exact e) (R1.tail.newL hq rds_range)
  | _ => exact h2.elim
theorem je_listRg2 {p p2 pos2 : Pos} (hc : X.calm = true) (hm : X.mg "list" = none) (hm2 : X.mg "range" = none) (ha : JE X cl W a ta ma) (hb : JE X cl W b tb mb) (hg : Gl X "list" := by rfl) (hg2 : Gl X "range" := by rfl) (na : starEach [a, b] X.env = (false, eval a X.env) :: starEach [b] X.env := by rfl) (nb : starEach [b] X.env = (false, eval b X.env) :: starEach [] X.env := by rfl) (hp : (backTo pos2 (starEach [b] X.env)).any (·.1) = false := by rfl)
    (nc : starEach [.Call (.Name "range" p2) [a, b] [] pos2] X.env = (false, eval (.Call (.Name "range" p2) [a, b] [] pos2) X.env) :: starEach [] X.env := by rfl) :
    JE X cl W (.Call (.Name "list" p) [.Call (.Name "range" p2) [a, b] [] pos2] [] pos) (tLstRg (tRg2 ta tb)) (l_range2 ma mb) := by
  refine ⟨pe_listRg hc hg hm (prg_2 hg2 hm2 ha.pe hb.pe na nb hp) nc, fun B0 Fr fr pd ρ σ B H Q R k => ha.se B0 Fr fr pd ρ σ B H _ R (k.bind.imp fun o ρ1 _ h1 => ?_)⟩
  intro x B1 H1 s1 R1
  refine hb.se B0 Fr fr ((o, x) :: pd) ρ1 σ B1 H1 _ R1 (h1.bind.imp fun o2 ρ2 _ h2 => ?_)
  intro y B2 H2 s2 R2
  have R2' : Rel X.K cl B0 Fr ((o2, y) :: (o, x) :: (pd ++ pdS fr)) ρ2 σ B2 H2 := R2
  obtain ⟨d, e0, h3⟩ := vw_ok h2.bind
  obtain ⟨d2, e2, h4⟩ := vw_ok (Pst.bind h3)
  have rd := R2'.swap.view e0
  have rd2 := R2'.view e2
  cases d with
  | int i =>
    cases d2 with
    | int j =>
      obtain ⟨hd, h5⟩ := guard_ok (Pst.bind h4)
      simp only [rngOk, Bool.and_eq_true, decide_eq_true_eq] at hd
      refine ⟨i, j, view_int rd, view_int rd2, ⟨hd.1.1.1, hd.1.1.2, hd.1.2.1, hd.1.2.2, hd.2⟩, fun q hq => ?_⟩
      exact h5 _ B2 _ ((s1.trans s2).trans fun a o e => by rw [upd_ne (ne_of_none e hq)]; exact e) (R2'.tail.tail.newL hq rds_range)
    | _ => exact h4.elim
  | _ => cases d2 <;> exact h4.elim

/-! ### pop -/
def SM (K : PySem.W.Frag) (cl : Str → Addr) (W : WX) (t : TE) (m : M Op) : Prop := ∀ B0 Fr fr pd ρ σ B H Q, nilP pd → Rel K cl B0 Fr (pd ++ pdS fr) ρ σ B H →
  Pst K cl W B0 Fr fr (m ρ) (fun op ρ' => ∀ v B' H', Rel K cl B0 Fr ((op, v) :: (pd ++ pdS fr)) ρ' σ B' H' → Q v H') → t σ H Q
structure JM (X : Cx) (cl : Str → Addr) (W : WX) (e : Expr) (t : TE) (m : M Op) : Prop where
  pe : PE X e t
  sm : SM X.K cl W t m
theorem ROs.erase {B H : Hp} : ∀ {xs : List OD} {vs : List V} {f : Addr → Nat} {k : Nat} {y : OD}, ROs K cl B H xs vs f → xs[k]? = some y → ∃ u g h, vs[k]? = some u ∧ RO K cl B H y u g ∧ ROs K cl B H (xs.eraseIdx k) (vs.eraseIdx k) h ∧ ∀ a, h a + g a ≤ f a
  | _, _, _, k, y, .nil _, e => by simp at e
  | _, _, _, 0, y, .cons h r z, e => by
    simp at e; subst e
    exact ⟨_, _, _, rfl, h, r, fun a => by rw [z]; omega⟩
  | _, _, _, k + 1, y, @ROs.cons _ _ _ _ _ _ _ _ f1 f2 f h r z, e => by
    obtain ⟨u, g, h', e1, ro, r', le⟩ := ROs.erase (k := k) r (by simpa using e)
    exact ⟨u, g, fun a => f1 a + h' a, by simpa using e1, ro, .cons h r' fun _ => rfl, fun a => by have := le a; (try dsimp only); rw [z]; omega⟩
theorem nilP_app (h : nilP pd) (h' : nilP pd') : nilP (pd ++ pd') := fun x hx => (List.mem_append.mp hx).elim (h x) (h' x)
theorem jm_pop {o : Expr} {to : TE} {mo : M Op} {apos cpos : Pos} (ho : JE X cl W o to mo) (he : JE X cl W e te me)
    (hbase : attributeBase o "pop" X.env (eval o X.env) = eval o X.env := by rfl)
    (hfew : ((backTo cpos (starEach [e] X.env)).all (fun x => !x.1) && (backToKw cpos (keywordEach [] X.env)).all (fun x => x.1.isSome)
      && decide ([e].length + ([] : List Keyword).length + (if ([] : List Keyword).isEmpty then 0 else 1) < 30)) = true := by rfl)
    (hline : (apos.endLine == cpos.line) = true := by rfl) (hs : starEach [e] X.env = (false, eval e X.env) :: starEach [] X.env := by rfl) (hplain : (backTo cpos (starEach [] X.env)).any (·.1) = false := by rfl) :
    JM X cl W (.Call (.Attribute o "pop" apos) [e] [] cpos) (tBM X.K "list" rPopAt to (tCons te tNil)) (m_pop mo me) := by
  refine ⟨pe_bm PySem.F.plainAttrs_list PySem.F.slot_list_pop PySem.F.type_list_pop mt_popAt ho.pe (pa_cons he.pe pa_nil hs) hbase hfew hline hs hplain, fun B0 Fr fr pd ρ σ B H Q np R k => ?_⟩
  refine ho.se B0 Fr fr pd ρ σ B H _ R (k.bind.imp fun o ρ1 _ h1 => ?_)
  intro x B1 H1 s1 R1
  obtain ⟨xs0, e0, h1⟩ := lsAt_ok h1.bind
  obtain ⟨f0, ro0⟩ := R1.node e0
  obtain ⟨p0, vs0, rfl, hp0⟩ := ro0.isL
  refine ⟨.inl ⟨rfl, vs0, SqL.of hp0⟩, ?_⟩
  refine he.se B0 Fr fr ((o, .ref p0) :: pd) ρ1 σ B1 H1 _ R1 (h1.bind.imp fun a ρ2 _ h2 => ?_)
  intro y B2 H2 s2 R2
  have R2' : Rel X.K cl B0 Fr ((a, y) :: (o, .ref p0) :: (pd ++ pdS fr)) ρ2 σ B2 H2 := R2
  obtain ⟨d, e1, h3⟩ := vw_ok h2.bind
  have rd := R2'.view e1
  cases d with
  | int i =>
    obtain rfl := view_int rd
    obtain ⟨hi, h4⟩ := guard_ok (Pst.bind h3)
    simp only [rngOk, Bool.and_eq_true, decide_eq_true_eq] at hi
    obtain ⟨xs, e2, h5⟩ := lsAt_ok (Pst.bind h4)
    cases ek : ixN xs.length i with
    | none => rw [ek] at h5; exact h5.elim
    | some j =>
      rw [ek] at h5
      simp only at h5
      cases ey : xs[j]? with
      | none => rw [ey] at h5; exact h5.elim
      | some z =>
        rw [ey] at h5
        have h6 := Pst.bind h5
        cases o with
        | v od => exact h6.elim
        | late i' path =>
          have h7 := Pst.bind h6
          have R3 := R2'.tail
          simp only [Op.at?] at e2
          cases eo : (ρ2[i']?).bind id with
          | none => rw [eo] at e2; cases e2
          | some od =>
            have e2' : od.at? path = some (.ls xs) := by rw [eo] at e2; exact e2
            have R4 : Rel X.K cl B0 Fr ((([] : List OD).map Op.v).zip [] ++ ((.late i' path, .ref p0) :: (pd ++ pdS fr))) ρ2 σ B2 H2 := R3
            obtain ⟨p, vs, fx, fy, ep, hp, rx, ry, go⟩ := R4.mut (zs := xs.eraseIdx j) rfl (nilP_app np nilP_pdS) eo e2'
            cases ep
            obtain ⟨u, g, h', e3, ro, rer, le⟩ := rx.erase ey
            obtain ⟨q1, q2, _, _⟩ := ixN_seq ek
            have hput : putAt (.late i' path) (xs.eraseIdx j) ρ2 = .ok () (ρ2.set i' (some (od.setAt path (.ls (xs.eraseIdx j))))) := by
              simp only [putAt, eo, e2']
            refine ⟨p0, vs, i, j, u, rfl, rfl, hp, by omega, by omega, by rw [← rx.length]; exact q1, e3, ?_⟩
            rw [hput] at h7
            have h9 := h7
            exact h9 u B2 _ (go _ h' [(.v z, u)] (fun a => g a + 0) rer (.v ro (.nil fun _ => rfl) fun _ => rfl) (fun x hx i path e => by simp at hx; subst hx; cases e) fun a => by have := le a; omega)
  | _ => exact h3.elim
theorem js_appendM {o : Expr} {to : TE} {mo : M Op} {apos cpos : Pos} (ho : JE X cl W o to mo) (he : JM X cl W e te me)
    (hbase : attributeBase o "append" X.env (eval o X.env) = eval o X.env := by rfl)
    (hfew : ((backTo cpos (starEach [e] X.env)).all (fun x => !x.1) && (backToKw cpos (keywordEach [] X.env)).all (fun x => x.1.isSome)
      && decide ([e].length + ([] : List Keyword).length + (if ([] : List Keyword).isEmpty then 0 else 1) < 30)) = true := by rfl)
    (hline : (apos.endLine == cpos.line) = true := by rfl) (hs : starEach [e] X.env = (false, eval e X.env) :: starEach [] X.env := by rfl) (hplain : (backTo cpos (starEach [] X.env)).any (·.1) = false := by rfl)
    (hsw : swapsWith (.Call (.Attribute o "append" apos) [e] [] cpos) none pos.line X.env = pure false := by rfl) :
    JS X cl W (.Expr (.Call (.Attribute o "append" apos) [e] [] cpos) pos) (tDrop (tBM X.K "list" rAppend to (tCons te tNil))) (s_appendM mo me) := by
  refine ⟨ps_expr (pe_bm PySem.F.plainAttrs_list PySem.F.slot_list_append PySem.F.type_list_append mt_append ho.pe (pa_cons he.pe pa_nil hs) hbase hfew hline hs hplain) hsw, fun B0 Fr fr ρ σ B H Dn R k => ?_⟩
  refine ho.se.s0 R (k.bind.imp fun o ρ1 _ h1 => ?_)
  intro x B1 H1 s1 R1
  obtain ⟨xs0, e0, h1⟩ := lsAt_ok h1.bind
  obtain ⟨f0, ro0⟩ := R1.node e0
  obtain ⟨p0, vs0, rfl, hp0⟩ := ro0.isL
  refine ⟨.inl ⟨rfl, vs0, SqL.of hp0⟩, ?_⟩
  have h2 := Pst.bind h1
  match o, h2, R1, e0 with
  | .v od, h2, _, _ => exact h2.elim
  | .late i (_ :: _), h2, _, _ => exact h2.elim
  | .late i [], h2, R1, e0 =>
    have h3 : Pst X.K cl W B0 Fr fr ((me >>= fun a => own a >>= fun y => lsAt (.late i []) >>= fun xs => guard' (decide (xs.length < 16777216)) >>= fun _ => putAt (.late i []) (xs ++ [y]) >>= fun _ => pure Fl.nx : M Fl) ρ1) (PoS X.K cl B0 Fr fr Dn) := h2
    refine he.sm B0 Fr fr [(.late i [], .ref p0)] ρ1 σ B1 H1 _ (fun x hx j path e => by simp at hx; subst hx; cases e; rfl) R1 (h3.bind.imp fun a ρ2 _ h4 => ?_)
    intro y B2 H2 R2
    obtain ⟨z, ρ3, B3, h5, s3, R3⟩ := Rel.own R2 h4.bind
    obtain ⟨xs, e2, h6⟩ := lsAt_ok (Pst.bind h5)
    obtain ⟨hz, h7⟩ := guard_ok (Pst.bind h6)
    have h8 := Pst.bind h7
    simp only [Op.at?] at e2
    cases eo : (ρ3[i]?).bind id with
    | none => rw [eo] at e2; cases e2
    | some od =>
      have e2' : od.at? [] = some (.ls xs) := by rw [eo] at e2; exact e2
      have R4 : Rel X.K cl B0 Fr ((([z] : List OD).map Op.v).zip [y] ++ ((.late i [], .ref p0) :: pdS fr)) ρ3 σ B3 H2 := R3
      obtain ⟨p, vs, fx, fy, ep, hp, rx, ry, go⟩ := R4.mut (zs := xs ++ [z]) rfl nilP_pdS eo e2'
      cases ep
      have hput : putAt (.late i []) (xs ++ [z]) ρ3 = .ok () (ρ3.set i (some (od.setAt [] (.ls (xs ++ [z]))))) := by
        simp only [putAt, eo, e2']
      rw [hput] at h8
      obtain ⟨k2, rk, ek⟩ := rx.append ry
      refine ⟨p0, vs, y, rfl, rfl, hp, by rw [← rx.length, sizeLine_is]; exact of_decide_eq_true hz, ?_⟩
      exact h8 σ B3 _ (go _ k2 [] (fun _ => 0) rk (.nil fun _ => rfl) (fun _ h => nomatch h) fun a => by rw [ek]; omega)

/-! ### isinstance -/
def rIsX (K : PySem.W.Frag) : List V → Hp → VK → Prop := fun xs H Q => ∃ (a D' : Addr) (c : V) (u : Value) (b : Bool), xs = [.ref a, c] ∧ H a = some (ExV (.ref D') a) ∧ ExcC K D' ∧ ClsV c u ∧ PySem.W.kitOne K (.ref D') u = some b ∧ Q (.bl b) H
theorem call_isX : CallR X (.builtin "isinstance") (rIsX X.K) := by
  intro pins s σ H xs us Q I r h
  obtain ⟨a, D', c, u, b, rfl, ha, C, kc, e, q⟩ := h
  obtain ⟨u1, u2, rfl, r1, r2⟩ := vals2 r
  cases r1
  have ec := kc.eq r2
  subst ec
  obtain ⟨⟨oe, vs, hget, hz, hv⟩, _, _⟩ := I.hok a _ ha
  have J : PySem.W.InstAt s.heap a oe D' none := by
    obtain ⟨oc, od, oda, osl⟩ := oe
    obtain ⟨h1, h2⟩ := hz
    dsimp only at h1 h2 hv
    subst h1 h2 hv
    exact ⟨hget, rfl, rfl, trivial⟩
  exact PySem.W.kia_one (PySem.W.handS_kitx_exc C.hg C.hk C.hs C.hd C.ha C.hn C.ht C.hm) I.kIn J e (fun z => nomatch z) fun tk => ⟨.bl b, H, I.kept (t' := tk) fun _ _ z => z, rfl, q⟩
/-- what is known of a class that isinstance is asked of -/
structure IsiC (K : PySem.W.Frag) (cl : Str → Addr) (c : V) (fb : String → Option Bool) (fo : Str → Option Bool) : Prop where
  ex : ∃ u, ClsV c u ∧ (∀ n b, fb n = some b → PySem.W.kitOne K (.type n) u = some b) ∧ ∀ x b, fo x = some b → ExcC K (cl x) ∧ PySem.W.kitOne K (.ref (cl x)) u = some b
theorem je_isi {ec : Expr} {c : V} {p : Pos} {fb : String → Option Bool} {fo : Str → Option Bool} (hm : X.mg "isinstance" = none) (hi : IsiC X.K cl c fb fo) (ha : JE X cl W a ta ma) (hec : PE X ec (tC c)) (hg : Gl X "isinstance" := by rfl)
    (hs : starEach [a, ec] X.env = (false, eval a X.env) :: starEach [ec] X.env := by rfl) (hs2 : starEach [ec] X.env = (false, eval ec X.env) :: starEach [] X.env := by rfl) (hpl : (backTo pos (starEach [ec] X.env)).any (·.1) = false := by rfl) :
    JE X cl W (.Call (.Name "isinstance" p) [a, ec] [] pos) (tCB (fun xs H Q => rIsi X.K xs H Q ∨ rIsX X.K xs H Q) (tCons ta (tCons (tC c) tNil))) (m_un (u_flat (u_isi fb fo)) ma) := by
  refine ⟨pe_callB (CallR.or call_isi call_isX) hg hm (by decide +kernel) (pa_cons ha.pe (pa_cons hec pa_nil hs2) hs) (by decide) (by decide) hs hpl, ?_⟩
  obtain ⟨u, kc, hb, ho⟩ := hi.ex
  exact se_un (r := fun x H Q => rIsi X.K [x, c] H Q ∨ rIsX X.K [x, c] H Q) (su_flat (fun x d e => by
    unfold u_isi at e
    split at e
    · simp only [Option.map_eq_some_iff] at e; obtain ⟨_, _, rfl⟩ := e; rfl
    · simp only [Option.map_eq_some_iff] at e; obtain ⟨_, _, rfl⟩ := e; rfl
    · cases e) fun x d v H Q e r q => by
    unfold u_isi at e
    cases r with
    | non => simp only [kindOf, Option.map_eq_some_iff] at e; obtain ⟨b, e1, rfl⟩ := e; exact .inl ⟨_, _, _, u, b, rfl, kc, .base .non, hb _ _ e1, q⟩
    | bl b => simp only [kindOf, Option.map_eq_some_iff] at e; obtain ⟨b, e1, rfl⟩ := e; exact .inl ⟨_, _, _, u, b, rfl, kc, .base (.bl _), hb _ _ e1, q⟩
    | int b => simp only [kindOf, Option.map_eq_some_iff] at e; obtain ⟨b, e1, rfl⟩ := e; exact .inl ⟨_, _, _, u, b, rfl, kc, .base (.int _), hb _ _ e1, q⟩
    | str b => simp only [kindOf, Option.map_eq_some_iff] at e; obtain ⟨b, e1, rfl⟩ := e; exact .inl ⟨_, _, _, u, b, rfl, kc, .base (.str _), hb _ _ e1, q⟩
    | lst hp _ => simp only [kindOf, Option.map_eq_some_iff] at e; obtain ⟨b, e1, rfl⟩ := e; exact .inl ⟨_, _, _, u, b, rfl, kc, .base (.lst hp), hb _ _ e1, q⟩
    | scr hp =>
      simp only [kindOf, Option.map_eq_some_iff] at e; obtain ⟨b, e1, rfl⟩ := e
      refine .inl ⟨_, _, _, u, b, rfl, kc, ?_, hb _ _ e1, q⟩
      rcases hp with (hp | ⟨o, hp⟩) | ⟨o, its, n, hk, hc, _⟩
      · exact .base (.lst hp)
      · exact .base (.frz hp)
      · exact .kList hk hc
    | tup hp _ =>
      simp only [kindOf, Option.map_eq_some_iff] at e; obtain ⟨b, e1, rfl⟩ := e
      refine .inl ⟨_, _, _, u, b, rfl, kc, ?_, hb _ _ e1, q⟩
      rcases hp with (hp | ⟨o, hp⟩) | ⟨o, its, n, hk, hc, _⟩
      · exact .base (.tup hp)
      · exact .fTuple hp
      · exact .kTuple hk hc
    | exc hp =>
      simp only [kindOf, Option.map_eq_some_iff] at e; obtain ⟨b, e1, rfl⟩ := e
      obtain ⟨h1, h2⟩ := ho _ _ e1
      exact .inr ⟨_, _, _, u, b, rfl, hp, h1, kc, h2, q⟩
    | ins _ _ _ => simp [kindOf] at e) ha.se
end
end Dv
end

section
set_option Elab.async false
set_option linter.all false
set_option maxRecDepth 100000
set_option maxHeartbeats 4000000
set_option autoImplicit false
/-! Dv13: try: body / except C as e: x = e, the error kept as a value. -/
namespace Dv
open PySem PySem.Spec PyProof.Rows L2

def s_tryk (body : M Fl) (i j : Nat) (f : Str → Option Bool) : M Fl := fun ρ => match body ρ with
  | .exc c ρ' => (match f c with
    | some true => if j < ρ'.length then .ok .nx ((ρ'.set j (some (.sh (.exc c)))).set i none) else .stuck
    | some false => .exc c ρ'
    | none => .stuck)
  | r => r

section
variable {K : PySem.W.Frag} {cl : Str → Addr} {W : WX} {B0 Fr : Hp} {fr w : List (D × V)} {pd pd' : List (Op × V)} {ρ ρ' : Dv.Env} {σ σ' : L2.St} {B H B' H' : Hp} {X : Cx}
/-- an object that stands untracked since the entry becomes tracked -/
theorem inv_track {pins : List (Addr × Obj)} {s : Shared} {a : Addr} {oe : Obj} {o : HO} {vs : Array Value} (I : Inv X pins σ H s) (ha : s.heap.get? a = some oe) (hd : oe.data = .fields vs) (h0 : X.s_0.heap.get? a = none) (hn : H a = none) (nL : a ≠ X.env.locals)
    (np : ∀ p ∈ X.pn ++ pins, p.1 ≠ a) (new : ObjOk X.prog X.w (upd H a o) s.heap a o) : Inv X pins σ (upd H a o) s := by
  have ne : ∀ b u, H b = some u → b ≠ a := fun b u e => ne_of_none e hn
  have nC : ∀ x c, X.env.cells.lookup x = some c → c ≠ a := fun x c e z => by
    obtain ⟨v, oc, hoc, hcd⟩ := I.cell x c e
    rw [z, ha] at hoc; cases hoc
    rw [hd] at hcd; cases hcd
  have un : Un X.fs X.ex X.H_0 (upd H a o) X.s_0.heap s.heap :=
    ⟨I.base.keep, I.base.slot, fun b u q n hx => by rw [upd_ne (fun z => by rw [z, h0] at q; cases q)]; exact I.base.free b u q n hx, I.base.there,
      fun b xs q => by have := I.base.tups b xs q; rw [upd_ne (ne b _ this)]; exact this, fun b u xs q => by have := I.base.frzs b u xs q; rw [upd_ne (ne b _ this)]; exact this,
      fun b ps q => by obtain ⟨m, e⟩ := I.base.tbls b ps q; exact ⟨m, by rw [upd_ne (ne b _ e)]; exact e⟩⟩
  refine ⟨I.ok, I.os, I.bare, un, I.loc, I.cell, by rw [upd_ne nL.symm]; exact I.free, fun x c e => by rw [upd_ne (nC x c e)]; exact I.freeC x c e, fun p hp => ?_, fun b u e => ?_, I.len⟩
  · obtain ⟨e, n, r⟩ := I.pin p hp
    exact ⟨e, by rw [upd_ne (np p hp)]; exact n, r⟩
  · by_cases q : b = a
    · subst q; rw [upd_same] at e; cases e; exact new
    · rw [upd_ne q] at e
      exact (I.hok b u e).stay (fun c v _ r => r) (fun c r => by rw [upd_ne (ne c _ r)]; exact r) fun c xs r => by rw [upd_ne (ne c _ r)]; exact r
/-- what such a clause wishes of the body's error -/
def wKeep (K : PySem.W.Frag) (c : Value) (i j : Nat) (Wout : WX) (Dn : Ends) : WX := fun cls d σ H =>
  ∃ b, PySem.W.exmOne K cls c = some b ∧ (b = true → d = none ∧ ∀ a, H a = none → Dn.nx (((σ.set i (some (.ref a))).set j (some (.ref a))).set i none) (upd H a (ExV cls a))) ∧ (b = false → Wout cls d σ H)
theorem ps_try_keep {x n y : Str} {c : Value} {i j : Nat} {body : List Stmt} {np py pn2 pa pos pos' : Pos} {tb : WX → TS} {Wout : WX}
    (hs : X.stack = X.env :: X.outer) (hf : X.env.frame = some X.env.locals) (hex : X.ex = []) (hN : X.N.Nodup) (hi : X.N[i]? = some n) (hj : X.N[j]? = some y) (hln : X.env.kindOf n = some .local) (hly : X.env.scope.names.lookup y = some .local) (hc : Names X x c) (tk : Takes X Wout)
    (hb : ∀ (W : WX) (pn : List (Addr × Obj)) (xe : Value → Shared → Prop), Takes (X.tr pn xe) W → PassesOwn (model X.prog X.w) X.A X.env xe → PSs (X.tr pn xe) body (tb W))
    (hsw : swapsWith (.Name n pn2) (some (.Name y py)) pa.line X.env = pure false) (hdb : (n == ("__debug__" : Str)) = false) (hcd : (n == ("__classdict__" : Str)) = false) :
    PS X (.Try body [.ExceptHandler (some (.Name x np)) (some n) [.Assign [.Name y py] (.Name n pn2) pa] pos'] [] [] pos) (fun D σ H => tb (wKeep X.K c i j Wout D) D σ H) := by
  refine ⟨fun pins s σ H D I h => ?_⟩
  have ok := I.ok
  have hfr : X.A.frames = some (X.env :: X.outer) := by
    rw [ok.frames, hs]
  have hloc : Loc X.env.scope n := .inl hln
  refine wpAny_Try_except (wpAny_mono ((hb (wKeep X.K c i j Wout D) (X.pn ++ pins)
    (fun e s₁ => wpAny (model X.prog X.w) X.A (noteFrame e X.env)
      (fun _ s₂ => wpAny (model X.prog X.w) X.A (setFlight e none)
        (fun _ s₃ => wpAny (model X.prog X.w) X.A (handleBy e X.env
          [.ExceptHandler (some (.Name x np)) (some n) [.Assign [.Name y py] (.Name n pn2) pa] pos']) (SP X pins D) X.xe s₃) X.xe s₂) X.xe s₁)
    (fun u s' xx => ?_) PassesOwn.looking).run [] s σ H D (I.toTry _) h) (fun f s1 hsp => ?_) (fun e s1 he => he))
  · obtain ⟨a, B, sI, pins', σ', H', cls, d, rfl, J', nb, up, sky, na, os, ag, b, hb1, hyes, hno⟩ := xx
    have J : Inv X pins σ' H' sI := J'.ofTry ok
    have sky' : Sky B (X.env :: X.outer) a (Zc cls d) X.env.locals s'.heap := by
      rw [← hs]; exact sky
    show wpAny (model X.prog X.w) X.A (noteFrame (.ref a) X.env) _ _ _
    refine Sky.land Zc.steady hfr hf sky' fun h3 fl3 up3 => ?_
    have J3 : Inv X pins σ' H' { s' with heap := h3 } :=
      J.landed nb fl3.1 (up.trans up3) os ag
    obtain ⟨oe3, vs3, he3, hz3, hd3⟩ := fl3.there
    have nfr : a ∉ frs (X.env :: X.outer) := fun hm => by
      obtain ⟨_, o', e', hnf⟩ := fl3.2.2.1.mem hm
      rw [he3] at e'; cases e'
      exact hnf _ hd3
    have nL : a ≠ X.env.locals := fun z =>
      nfr (List.mem_filterMap.mpr ⟨X.env, List.mem_cons_self, by rw [hf, z]⟩)
    have nF : a ∉ X.fs := fun hm => by
      obtain ⟨e, he, q⟩ := List.mem_filterMap.mp hm
      exact nfr (List.mem_filterMap.mpr ⟨e, List.mem_cons_of_mem _ he, q⟩)
    -- the error is younger than the entry
    have aI : sI.heap.get? a = none := by
      cases q : sI.heap.get? a with
      | none => rfl
      | some o =>
        have := nb a o q (by rw [hs]; exact nfr)
        rw [fl3.2.1] at this; cases this
    have a0 : X.s_0.heap.get? a = none := by
      cases q : X.s_0.heap.get? a with
      | none => rfl
      | some o =>
        obtain ⟨o', q'⟩ := J.base.there a o q (by rw [hex]; simp)
        rw [aI] at q'; cases q'
    have npin : ∀ p ∈ X.pn ++ pins, p.1 ≠ a := fun p hp z => by
      have := (J.pin p hp).1
      rw [z, aI] at this; cases this
    have S3 := J3.suite he3 hd3 na nL nF
    refine wpAny_handleBy_cons (codeAny_handlers_test ?_) (by intro q; cases q)
    have LT : PySem.W.Looks (model X.prog X.w) h3 (typeOf (.ref a)) cls :=
      fun A Q E s k q => wpAny_typeOf_ref (k _ _ he3) (by rw [hz3.1]; exact q)
    have LM := PySem.W.exm_one (M := model X.prog X.w) (J3.kIn) LT hb1
    have test : ∀ {Q : Value → Shared → Prop} {E : Value → Shared → Prop}, Q c { s' with heap := h3 } →
        wpAny (model X.prog X.w) (X.A.mark (some (.ref a))) (eval (.Name x np) X.env) Q E { s' with heap := h3 } := fun {Q E} q => by
      obtain ⟨hg, hdbg, hm | ⟨hm, hv, hnn⟩⟩ := hc
      · exact ld_glob (X := X.suite a ((a, oe3) :: (X.pn ++ pins))) S3 hg hm q hdbg
      · exact ld_blt (X := X.suite a ((a, oe3) :: (X.pn ++ pins))) S3 hg hm hv q hnn hdbg
    refine test (LM.here ?_)
    cases b with
    | true =>
      obtain ⟨rfl, hyes2⟩ := hyes rfl
      refine codeAny_handlers_suite_as (HandSPX.lands_againZ fl3 fun h4 fl4 up4 => ?_)
      have J4 : Inv X pins σ' H' { s' with heap := h4 } :=
        J.landed nb fl4.1 ((up.trans up3).trans up4) os ag
      obtain ⟨oe4, vs4, he4, hz4, hd4⟩ := fl4.there
      have S4 := J4.suite he4 hd4 na nL nF
      refine store_ok (X := X.suite a ((a, oe4) :: (X.pn ++ pins))) (v := .ref a) S4 hN hi hloc rfl (fun s5 S5 => ?_) (.inr hln)
      have hsu : PSs (X.suite a ((a, oe4) :: (X.pn ++ pins))) [.Assign [.Name y py] (.Name n pn2) pa] (tAsg (tVar i) (gName j)) :=
        pss_one (ps_set (X := X.suite a ((a, oe4) :: (X.pn ++ pins))) hN hj (.inl hly) (pe_var hi (.inl hln) hdb hcd) hsw (.inr hly))
      have hil : i < σ'.length := by rw [J.len]; exact (List.getElem?_eq_some_iff.mp hi).1
      refine wpAny_mono (hsu.run [] s5 _ H'
        { nx := fun σ2 H2 => σ2 = (σ'.set i (some (.ref a))).set j (some (.ref a)) ∧ H2 = H', rt := fun _ _ => False } S5
        ⟨.ref a, List.getElem?_set_self hil, rfl, rfl⟩) (fun f s6 hsp => ?_) (fun _ _ z => False.elim z)
      cases f with
      | next =>
        obtain ⟨σ6, H6, S6, rfl, rfl⟩ := hsp
        have h6 : s6.heap.get? a = some oe4 := (S6.pin (a, oe4) (List.mem_append_left _ List.mem_cons_self)).1
        have J6 : Inv X pins _ H6 s6 := S6.unsuite ok
        have new : ObjOk X.prog X.w (upd H6 a (ExV cls a)) s6.heap a (ExV cls a) :=
          ⟨⟨oe4, _, h6, hz4, hd4⟩, ⟨oe4, h6⟩, fun h1 h2 ⟨oe, vs, q, r⟩ k => ⟨oe, vs, k _ q, r⟩⟩
        have J7 := inv_track J6 h6 hd4 a0 na nL npin new
        exact gone_ok J7 hN hi hln fun s7 J8 => ⟨_, _, J8, hyes2 a na⟩
      | brk => obtain ⟨_, _, _, q⟩ := hsp; exact q.elim
      | cont => obtain ⟨_, _, _, q⟩ := hsp; exact q.elim
      | ret u => obtain ⟨_, _, _, _, _, q⟩ := hsp; exact q.elim
    | false =>
      show wpAny _ X.A (handleBy (.ref a) X.env []) _ _ _
      refine wpAny_handleBy_nil ?_
      obtain ⟨k1, k2, k3, oe, vs, T, oT, ts', he, hz, hd, h1, hr⟩ := id fl3
      unfold PySem.passOn
      refine wpAny_bind (wpAny_field he hd h1 ?_)
      rw [if_neg (show ¬ ((Value.ref T == Value.none) = true) from by simp)]
      have fin : wpAny (model X.prog X.w) X.A (setFlight (.ref a) X.env.frame)
          (fun _ s4 => wpAny (model X.prog X.w) X.A (throw (.ref a) : Sem Flow) (SP X pins D) X.xe s4) X.xe { s' with heap := h3 } := by
        rw [hf]
        exact HandSPX.setFlight_upZ fl3 fun h4 hh4 up4 => wpAny_throw (tk _ _
          ⟨a, B, sI, pins, σ', H', cls, d, rfl, J, nb, (up.trans up3).trans up4, .inr (.inr (by rw [hs]; exact hh4)), na, os, ag, hno rfl⟩)
      first
        | exact wpAny_bind (wpAny_pure (wpAny_bind fin))
        | exact wpAny_bind fin
  · cases f with
    | next => obtain ⟨σ', H', J', q⟩ := hsp; exact wpAny_execs_nil ⟨σ', H', J'.ofTry ok, q⟩
    | brk => obtain ⟨σ', H', J', q⟩ := hsp; exact ⟨σ', H', J'.ofTry ok, q⟩
    | cont => obtain ⟨σ', H', J', q⟩ := hsp; exact ⟨σ', H', J'.ofTry ok, q⟩
    | ret u => obtain ⟨v, σ', H', J', r, q⟩ := hsp; exact ⟨v, σ', H', J'.ofTry ok, r, q⟩
theorem js_try_keep {x n y : Str} {c : Value} {i j : Nat} {body : List Stmt} {np py pn2 pa pos pos' : Pos} {tb : WX → List (Addr × Obj) → (Value → Shared → Prop) → TS} {mb : M Fl} (f : Str → Option Bool)
    (hN : X.N.Nodup) (hij : i ≠ j) (hc : Names X x c) (hf : ∀ z b, f z = some b → PySem.W.exmOne X.K (.ref (cl z)) c = some b) (tk : Takes X W)
    (hb : ∀ (W : WX) (pn : List (Addr × Obj)) (xe : Value → Shared → Prop), Takes (X.tr pn xe) W → JSs (X.tr pn xe) cl W body (tb W pn xe) mb)
    (et : ∀ W pn xe, tb W pn xe = tb W X.pn (fun _ _ => True) := by intros; rfl) (hs : X.stack = X.env :: X.outer := by rfl) (hfr : X.env.frame = some X.env.locals := by rfl) (hex : X.ex = [] := by rfl) (hi : X.N[i]? = some n := by rfl) (hj : X.N[j]? = some y := by rfl) (hln : X.env.kindOf n = some .local := by rfl) (hly : X.env.scope.names.lookup y = some .local := by rfl)
    (hsw : swapsWith (.Name n pn2) (some (.Name y py)) pa.line X.env = pure false := by rfl) (hdb : (n == ("__debug__" : Str)) = false := by decide) (hcd : (n == ("__classdict__" : Str)) = false := by decide) :
    JS X cl W (.Try body [.ExceptHandler (some (.Name x np)) (some n) [.Assign [.Name y py] (.Name n pn2) pa] pos'] [] [] pos) (fun D σ H => tb (wKeep X.K c i j W D) X.pn (fun _ _ => True) D σ H) (s_tryk mb i j f) := by
  refine ⟨ps_try_keep (tb := fun W => tb W X.pn (fun _ _ => True)) hs hfr hex hN hi hj hln hly hc tk (fun W pn xe t p => et W pn xe ▸ (hb W pn xe t).ps) hsw hdb hcd, fun B0 Fr fr ρ σ B H Dn R k => ?_⟩
  -- the body in its own context, only for what it computes
  have body_ss : ∀ W' : WX, SS X.K cl W' (tb W' X.pn (fun _ _ => True)) mb := fun W' => (hb W' X.pn (fun _ _ => True) fun _ _ _ => trivial).ss
  refine body_ss _ B0 Fr fr ρ σ B H Dn R ?_
  unfold s_tryk at k
  cases e : mb ρ with
  | ok fl r => rw [e] at k; exact k
  | stuck => rw [e] at k; exact k
  | exc z r =>
    rw [e] at k
    intro σ' B' H' R'
    cases ef : f z with
    | none => simp only [ef] at k; exact k.elim
    | some b =>
      simp only [ef] at k
      refine ⟨b, hf z b ef, fun hb => ⟨rfl, fun a ha => ?_⟩, fun hb => ?_⟩
      · subst hb
        simp only at k
        split at k
        · rename_i hl
          have sB := R'.sB
          have Rn := (R'.ext (Ext.newS (o := ExV (.ref (cl z)) a) sB ha)).push (RD.exc upd_same)
          refine k _ (upd B' a (ExV (.ref (cl z)) a)) _ ?_
          have hll : j < r.length := hl
          have R2 := Rn.setV allV_pdS hll
          obtain ⟨f1, g1, rp, rs, u, o⟩ := R2.ow
          obtain ⟨k2, rs2, le⟩ := RS.putNone (i := i) (x := none) rs
          have eσ : (((σ'.set i (some (V.ref a))).set j (some (V.ref a))).set i none) = ((σ'.set j (some (V.ref a))).set i none) := by
            rw [List.set_comm _ _ hij, List.set_set]
          rw [eσ]
          exact ⟨R2.s0, R2.sB, R2.sF, R2.nw, f1, k2, rp.anyV allV_pdS, rs2, fun a => by have := u a; have := le a; omega, fun a ha => o a (by have := le a; omega)⟩
        · exact k.elim
      · subst hb
        exact k σ' B' H' R'
end
end Dv
end

section
set_option Elab.async false
set_option linter.all false
set_option maxRecDepth 100000
set_option maxHeartbeats 4000000
set_option autoImplicit false
/-! Dv14: chains of comparisons, own error classes, the law's own promise. -/
namespace Dv
open PySem PySem.Spec PyProof.Rows L2

def g_cmp (p : Int → Int → Bool) : D → D → Option D
  | .int i, .int j => some (.bl (p i j))
  | _, _ => none
def m_chain (p q : Int → Int → Bool) (ma mb mc : M Op) : M Op := do
  let a ← ma
  let b ← mb
  let x ← vw a
  let y ← vw b
  match x, y with
  | .int i, .int j => bif p i j then (do
      let c ← mc
      let z ← vw c
      match z with
      | .int k => pure (sh (.bl (q j k)))
      | _ => stop) else pure (sh (.bl false))
  | _, _ => stop
/-- what the top has written of an own error class over ClueError -/
structure ExcT (K : PySem.W.Frag) (mg : Str → Option Value) (cl : Str → Addr) (c : Str) : Prop where
  gC : mg c = some (.ref (cl c))
  xC : PySem.W.excIn K (cl c) [.type "ValueError", .type "Exception", .type "BaseException", .type "object"] "ValueError.__new__" = true
  kC : PySem.W.keepIn K (.ref (cl c)) = true
  bC : PySem.W.subIn K (.ref (cl c)) (.type "BaseException") = some true
  tC : PySem.W.typeIn K (.ref (cl c)) = some (.type "type")

section
variable {K : PySem.W.Frag} {cl : Str → Addr} {W : WX} {B0 Fr : Hp} {fr w : List (D × V)} {pd pd' : List (Op × V)} {ρ ρ' : Dv.Env} {σ σ' : L2.St} {B H B' H' : Hp} {X : Cx}
variable {a b c e : Expr} {es : List Expr} {ta tb tc te : TE} {ma mb mc me : M Op} {pos : Pos}
theorem se_chain {p q : Int → Int → Bool} (ha : SE K cl W ta ma) (hb : SE K cl W tb mb) (hc : SE K cl W tc mc) :
    SE K cl W (tChain (rI0 fun i j => .bl (p i j)) (rI0 fun i j => .bl (q i j)) ta tb tc) (m_chain p q ma mb mc) := by
  intro B0 Fr fr pd ρ σ B H Q R k
  refine ha B0 Fr fr pd ρ σ B H _ R (k.bind.imp fun o1 ρ1 _ h1 => ?_)
  intro x B1 H1 s1 R1
  refine hb B0 Fr fr ((o1, x) :: pd) ρ1 σ B1 H1 _ R1 (h1.bind.imp fun o2 ρ2 _ h2 => ?_)
  intro y B2 H2 s2 R2
  have R2' : Rel K cl B0 Fr ((o2, y) :: (o1, x) :: (pd ++ pdS fr)) ρ2 σ B2 H2 := R2
  obtain ⟨d1, e1, h3⟩ := vw_ok h2.bind
  obtain ⟨d2, e2, h4⟩ := vw_ok (Pst.bind h3)
  have r1 := R2'.swap.view e1
  have r2 := R2'.view e2
  cases d1 with
  | int i =>
    cases d2 with
    | int j =>
      obtain rfl := view_int r1
      obtain rfl := view_int r2
      refine ⟨i, j, rfl, rfl, p i j, rfl, ?_⟩
      have R3 := R2'.tail.tail
      have h5 : Pst K cl W B0 Fr fr ((bif p i j then (mc >>= fun c => vw c >>= fun z => match z with
        | .int k => pure (sh (.bl (q j k)))
        | _ => stop) else pure (sh (.bl false)) : M Op) ρ2) (PoE K cl B0 Fr (pd ++ pdS fr) σ H Q) := h4
      cases hp : p i j with
      | false =>
        rw [hp] at h5
        exact iteF (h5 _ B2 H2 (s1.trans s2) (R3.push (.bl false)))
      | true =>
        rw [hp] at h5
        refine iteT (hc B0 Fr fr pd ρ2 σ B2 H2 _ R3 ((Pst.bind h5).imp fun o3 ρ3 _ h6 => ?_))
        intro z B3 H3 s3 R4
        obtain ⟨d3, e3, h7⟩ := vw_ok (Pst.bind h6)
        have r3 := R4.view e3
        cases d3 with
        | int k =>
          obtain rfl := view_int r3
          exact ⟨j, k, rfl, rfl, h7 _ B3 H3 ((s1.trans s2).trans s3) (R4.tail.push (.bl _))⟩
        | _ => exact h7.elim
    | _ => exact h4.elim
  | _ => cases d2 <;> exact h4.elim
/-- a <= b <= c -/
theorem je_chain {op op' : CmpOp} {p q : Int → Int → Bool} (ho : OpR X (compareOp op) (rI0 fun i j => .bl (p i j))) (ho' : OpR X (compareOp op') (rI0 fun i j => .bl (q i j))) (ha : JE X cl W a ta ma) (hb : JE X cl W b tb mb) (hc : JE X cl W c tc mc)
    (hm : lastMarks [op, op'] [b, c] = false := by with_unfolding_all rfl) : JE X cl W (.Compare a [op, op'] [b, c] pos) (tChain (rI0 fun i j => .bl (p i j)) (rI0 fun i j => .bl (q i j)) ta tb tc) (m_chain p q ma mb mc) :=
  ⟨pe_chain ho ho' ha.pe hb.pe hc.pe hm, se_chain ha.se hb.se hc.se⟩
theorem jt_chain {op op' : CmpOp} {p q : Int → Int → Bool} (ho : OpR X (compareOp op) (rI0 fun i j => .bl (p i j))) (ho' : OpR X (compareOp op') (rI0 fun i j => .bl (q i j))) (ha : JE X cl W a ta ma) (hb : JE X cl W b tb mb) (hc : JE X cl W c tc mc)
    (hm : lastMarks [op, op'] [b, c] = false := by with_unfolding_all rfl) : JT X cl W (.Compare a [op, op'] [b, c] pos) (tTest (tChain (rI0 fun i j => .bl (p i j)) (rI0 fun i j => .bl (q i j)) ta tb tc)) (t_val (m_chain p q ma mb mc)) :=
  ⟨pt_chain ho ho' ha.pe hb.pe hc.pe hm, st_tB (se_chain ha.se hb.se hc.se)⟩
abbrev pLe : Int → Int → Bool := fun i j => decide (i ≤ j)
abbrev pLt : Int → Int → Bool := fun i j => decide (i < j)
/-- raise X('..') -/
theorem js_raiseX {c : Str} {m : Str} {j : Nat} {p p2 cpos : Pos} (hc : X.calm = true) (T : ExcT X.K X.mg cl c) (tk : Takes X W) (hg : Gl X c := by rfl) (hdb : (c == ("__debug__" : Str)) = false := by decide) :
    JS X cl W (.Raise (some (.Call (.Name c p) [.Constant (.str m) j p2] [] cpos)) none pos) (fun _ σ H => W (.ref (cl c)) none σ H) (s_raise c) :=
  js_raise hc tk (pmk_own PySem.F.excBase_ValueError T.xC T.gC T.kC (raises_own T.bC T.tC) hg hdb)
theorem names_own {c : Str} (T : ExcT X.K X.mg cl c) (hg : Gl X c := by rfl) (hdb : (c == ("__debug__" : Str)) = false := by decide) : Names X c (.ref (cl c)) := ⟨hg, hdb, .inl T.gC⟩
theorem pe_cls {c : Str} {p : Pos} (T : ExcT X.K X.mg cl c) (hg : Gl X c := by rfl) (hdb : (c == ("__debug__" : Str)) = false := by decide) : PE X (.Name c p) (tC (.ref (cl c))) := pe_glob hg T.gC rfl hdb
theorem pe_bty {x : Str} {n : String} {p : Pos} (hm : X.mg x = none) (hv : bootBuiltins x = some (.type n) := by decide +kernel) (hg : Gl X x := by rfl) (hn : x ≠ "__name__" := by decide) (hdb : (x == ("__debug__" : Str)) = false := by decide) : PE X (.Name x p) (tC (.ty n)) := pe_bltn hg hm hv rfl hn hdb
/-- the promise of a law's own def -/
def spLaw (K : PySem.W.Frag) : Sp := fun vs H Q _ => ∃ (a : Addr) (ns : List Int), vs = [.ref a] ∧ SqL K H a (ns.map V.int) ∧ ns.length ≤ 63 ∧ ∀ H', Q (.bl true) H'
theorem law_ok {P : Program} {w : World} {mg : Str → Option Value} {base : Heap} {f : Addr} {fd : FuncData} {k : Nat} {x : Str} {F : Fn} (h : FnOk P w K mg base (L2.CX P w) k f fd [x] (spF K cl 1 F))
    (hF : ∀ ns : List Int, ns.length ≤ 63 → F [.scr ns] = .ok (.sh (.bl true))) : FnOk P w K mg base (L2.CX P w) k f fd [x] (spLaw K) :=
  h.imp fun vs H Q E ⟨a, ns, ev, hs, hl, q⟩ => by
    subst ev
    refine ⟨H, [.scr ns], Same.refl _, .cons (.scr hs) .nil, rfl, ?_⟩
    rw [hF ns hl]
    intro v B' H' _ ⟨f, ro, _⟩
    cases ro with
    | sh rd z => rw [view_bl rd]; exact q H'
theorem cx_law {P : Program} {w : World} {H : Hp} {s : Shared} {e : Value} {s' : Shared} (h : L2.CX P w [] H s (fun _ _ _ => False) e s') : False := by
  obtain ⟨_, _, _, _, _, _, _, _, _, _, _, _, z⟩ := h
  exact z
end
end Dv
end

section
set_option Elab.async false
set_option linter.all false
set_option maxRecDepth 100000
set_option maxHeartbeats 4000000
set_option autoImplicit false
/-! Dv15: slices, two names at once, defs with defaults, targets of two names, module constants. -/
namespace Dv
open PySem PySem.Spec PyProof.Rows L2

section
variable (K : PySem.W.Frag) (cl : Str → Addr) (W : WX)
def SOp (t : TO) (m : M (Option Int)) : Prop := ∀ B0 Fr fr pd ρ σ B H Q, Rel K cl B0 Fr (pd ++ pdS fr) ρ σ B H →
  Pst K cl W B0 Fr fr (m ρ) (fun o ρ' => ∀ B' H', Same H H' → Rel K cl B0 Fr (pd ++ pdS fr) ρ' σ B' H' → Q o H') → t σ H Q
end
structure JO (X : Cx) (cl : Str → Addr) (W : WX) (e : Option Expr) (t : TO) (m : M (Option Int)) : Prop where
  po : PO X e t
  so : SOp X.K cl W t m
section
variable {K : PySem.W.Frag} {cl : Str → Addr} {W : WX} {B0 Fr : Hp} {fr w : List (D × V)} {pd pd' : List (Op × V)} {ρ ρ' : Dv.Env} {σ σ' : L2.St} {B H B' H' : Hp} {X : Cx}
variable {a b c e : Expr} {es : List Expr} {ta tb tc te : TE} {ma mb mc me : M Op} {pos : Pos} {tas : TA} {mas : M (List Op)}
theorem jo_none : JO X cl W none tNoPart p_none := ⟨po_none, fun B0 Fr fr pd ρ σ B H Q R k => k B H (Same.refl _) R⟩
theorem jo_some (h : JE X cl W e te me) : JO X cl W (some e) (tPart te) (p_some me) := by
  refine ⟨po_some h.pe, fun B0 Fr fr pd ρ σ B H Q R k => h.se B0 Fr fr pd ρ σ B H _ R (k.bind.imp fun o ρ1 _ h1 => ?_)⟩
  intro v B1 H1 s1 R1
  unfold optA at h1
  obtain ⟨d, e0, h2⟩ := vw_ok h1.bind
  have rd := R1.view e0
  cases d with
  | int i => exact ⟨i, view_int rd, h2 B1 H1 s1 R1.tail⟩
  | _ => exact h2.elim
def r_sl (K : PySem.W.Frag) : V → Option Int → Option Int → Hp → VK → Prop := fun x lo hi H Q => rSlL K x lo hi H Q ∨ (rSlS x lo hi H Q ∨ rSlT K x lo hi H Q)
theorem rds_cut {G : Hp} {ds : List D} {vs : List V} {lo hi : Option Int} (r : RDs K cl G ds vs) : RDs K cl G (cutD ds lo hi) (cutV vs lo hi) := by
  unfold cutD cutV
  rw [r.length]
  exact (r.drop _).take _
theorem sl_ok {a : Op} {x : V} {lo hi : Option Int} {Q : VK} (R : Rel K cl B0 Fr ((a, x) :: pd) ρ σ B H) (h : Pst K cl W B0 Fr fr (o_slice a lo hi ρ) (PoE K cl B0 Fr pd σ H Q)) : r_sl K x lo hi H Q := by
  have same : ∀ {l : Addr} {o : HO}, H l = none → Same H (upd H l o) := fun h a o e => by rw [upd_ne (ne_of_none e h)]; exact e
  unfold o_slice at h
  cases e : a.view ρ with
  | none => rw [e] at h; exact h.elim
  | some d =>
    rw [e] at h
    have rd := R.view e
    cases d with
    | str z =>
      simp only at h
      split at h
      · rename_i hz
        exact .inr (.inl ⟨z, view_str rd, szOk_le hz, h _ B H (Same.refl _) (R.tail.push (.str _))⟩)
      · exact h.elim
    | lst ds =>
      obtain ⟨es, ρ1, B1, p, vs, h1, s1, R1, rfl, hp, r⟩ := els_ok R (Pst.bind h)
      exact .inl ⟨p, vs, rfl, SqL.of hp, fun q hq => h1 _ B1 _ (same hq) (R1.newL hq (rds_cut r))⟩
    | tup ds =>
      obtain ⟨od, ρ1, B1, h1, s1, R1⟩ := R.own (Pst.bind h)
      obtain ⟨B2, s2, R2, rd2⟩ := R1.share
      cases e2 : od.toD with
      | tup es =>
        rw [e2] at h1 rd2
        simp only at h1
        split at h1
        · exact h1.elim
        · rename_i hw
          cases rd2 with
          | tup hp r =>
            rename_i p vs
            exact .inr (.inr ⟨p, vs, rfl, sqT_same R2.sB hp, by rw [← r.length]; exact hw, fun q hq => h1 _ _ _ (same hq) (R2.newT hq (rds_cut r))⟩)
      | _ => rw [e2] at h1; exact h1.elim
    | _ => exact h.elim
theorem je_slice {lo hi : Option Expr} {tl th : TO} {ml mh : M (Option Int)} {p2 : Pos} (ha : JE X cl W a ta ma) (hl : JO X cl W lo tl ml) (hh : JO X cl W hi th mh) : JE X cl W (.Subscript a (.Slice lo hi none p2) pos) (tSl (r_sl X.K) ta tl th) (m_slice ma ml mh) := by
  refine ⟨pe_slice (sl_list.or (sl_str.or sl_tup)) ha.pe hl.po hh.po, fun B0 Fr fr pd ρ σ B H Q R k => ha.se B0 Fr fr pd ρ σ B H _ R (k.bind.imp fun o ρ1 _ h1 => ?_)⟩
  intro v B1 H1 s1 R1
  refine hl.so B0 Fr fr ((o, v) :: pd) ρ1 σ B1 H1 _ R1 (h1.bind.imp fun l ρ2 _ h2 => ?_)
  intro B2 H2 s2 R2
  refine hh.so B0 Fr fr ((o, v) :: pd) ρ2 σ B2 H2 _ R2 (h2.bind.imp fun u ρ3 _ h3 => ?_)
  intro B3 H3 s3 R3
  exact sl_ok R3 (h3.imp fun op ρ4 _ h4 v B4 H4 s4 R4 => h4 v B4 H4 (((s1.trans s2).trans s3).trans s4) R4)

/-! ### a, b = x, y -/
theorem js_par {i j : Nat} {x y : Str} {px py pt : Pos} {kt k2 : Nat} {pt2 : Pos} (hc : X.calm = true) (hN : X.N.Nodup) (h : JA X cl W [a, b] tas mas) (hi : X.N[i]? = some x := by rfl) (hj : X.N[j]? = some y := by rfl) (hij : i ≠ j := by decide)
    (hx : X.env.scope.names.lookup x = some .local := by rfl) (hy : X.env.scope.names.lookup y = some .local := by rfl)
    (hw : swappedStores [.Tuple [.Name x px, .Name y py] kt pt] (.Tuple [a, b] k2 pt2) X.env = pure (some [x, y]) := by rfl)
    (hs : swapsWithSole [.Tuple [.Name x px, .Name y py] kt pt] (.Tuple [a, b] k2 pt2) pos.line X.env = pure false := by rfl) :
    JS X cl W (.Assign [.Tuple [.Name x px, .Name y py] kt pt] (.Tuple [a, b] k2 pt2) pos) (tPar i j tas) (s_par i j mas) := by
  refine ⟨ps_par hc hN hi hj hij hx hy h.pa hw hs, fun B0 Fr fr ρ σ B H Dn R k => h.sa B0 Fr fr [] ρ σ B H _ R (k.bind.imp fun ops ρ1 _ h1 => ?_)⟩
  intro vs B1 H1 l s1 R1
  obtain ⟨ods, ρ2, B2, h2, l2, s2, R2⟩ := R1.owns l h1.bind
  match ods, vs, l2 with
  | [], _, _ => exact h2.elim
  | [_], _, _ => exact h2.elim
  | _ :: _ :: _ :: _, _, _ => exact h2.elim
  | [u, v], [uv, vv], _ =>
    refine ⟨uv, vv, rfl, ?_⟩
    have h3 := Pst.bind h2
    unfold g_name at h3
    split at h3
    · rename_i hi'
      have R3 : Rel X.K cl B0 Fr ((.v u, uv) :: (.v v, vv) :: pdS fr) ρ2 σ B2 H1 := R2
      have R4 := R3.setV (allV_cons allV_pdS) hi'
      have h4 := Pst.bind h3
      split at h4
      · rename_i hj'
        exact h4 _ B2 H1 (R4.setV allV_pdS hj')
      · exact h4.elim
    · exact h3.elim

/-! ### defs with defaults -/
theorem fn_okD {P : Program} {w : World} {mg : Str → Option Value} {base : Heap} {x qual : Str} {params : Arguments} {body : List Stmt} {scope : Scope} {dvs : List V} {kws : List (Str × V)} {f : Addr} {fd : FuncData} {N ps : List Str} {k n : Nat} {F : Fn} {m : M Fl}
    (Fx : FunD K x qual params body scope dvs kws f fd) (S : FnScope N ps scope) (hn : n = ps.length) (hF : F = runF N.length m)
    (hbody : ∀ (cdv : Value) (A : Around) (outer : List PySem.Env) (s : Shared) (H : Hp) (E : XK), Room k (A.deeper (envOfC qual scope s.heap.objs.size f cdv)) →
      ∃ t, JSs (cxOf (L2.CX P w) P w K mg base N qual scope f cdv A outer s H E) cl (fun cls d _ H => E cls d H) body t m) : FnOk P w K mg base (L2.CX P w) (k + 1) f fd ps (spF K cl n F) := by
  subst hn
  refine Fx.ok S (fun vs H Q E h => ?_) (fun cdv A outer s H vs Q E hr h => ?_)
  · obtain ⟨_, _, _, _, h, _⟩ := h
    exact h
  · obtain ⟨t, js⟩ := hbody cdv A outer s H E hr
    refine ⟨t, js.ps, ?_⟩
    obtain ⟨B, ds, sB, rd, _, h⟩ := h
    have hl := rd.length
    refine js.ss B H [] _ _ B H _ (Rel.start sB rd (N.length - vs.length)) ?_
    subst hF
    unfold runF at h
    rw [hl] at h
    have back : ∀ {ρ' σ' B' H'}, Rel K cl B H [] ρ' σ' B' H' → Ext B H B' H' := fun R => ⟨R.s0, R.sB, R.sF, R.nw⟩
    cases e : m (ds.map (fun d => some (.sh d)) ++ List.replicate (N.length - vs.length) none) with
    | stuck => rw [e] at h; exact h.elim
    | exc c ρ' =>
      rw [e] at h
      intro σ' B' H' R
      exact h B' H' (back R)
    | ok fl ρ' =>
      rw [e] at h
      cases fl with
      | nx =>
        intro σ' B' H' R
        exact h .non B' H' (back R) ⟨fun _ => 0, .sh .non fun _ => rfl, fun _ => Nat.zero_le _, fun a z => by simp at z⟩
      | bk => exact h.elim
      | ct => exact h.elim
      | rt od =>
        intro v σ' B' H' R
        refine h v B' H' ⟨R.s0, R.sB, R.sF, R.nw⟩ ?_
        obtain ⟨f0, g0, rp, rs, u, o⟩ := R.ow
        cases rp with
        | @v _ _ _ f1 f2 _ ro rp e =>
          exact ⟨f1, ro, fun a => by have := u a; rw [e] at this; omega, fun a ha => o a (by rw [e]; omega)⟩
theorem own_tup2 {n : Nat} {vs : List Nat} {i j : Nat} (hi : i ∈ vs) (hj : j ∈ vs) : OwnTg (gTup K n (gCons (gName i) (gCons (gName j) gNil))) vs := by
  intro v σ H Q h
  obtain ⟨a, xs, e1, h1, h2, y, r, e2, z, r2, e3, e4, h5⟩ := h
  refine ⟨a, xs, e1, h1, h2, y, r, e2, z, r2, e3, e4, ?_⟩
  exact h5 (by rw [wipe_set hj, wipe_set hi])
/-- a module's constant -/
theorem je_k {x : Str} {u : Value} {d : D} {p : Pos} (h : X.mg x = some u ∧ d.flat = true ∧ RelV d.v u) (hg : Gl X x := by rfl) (hdb : (x == ("__debug__" : Str)) = false := by decide) : JE X cl W (.Name x p) (tC d.v) (m_c d) :=
  ⟨pe_glob hg h.1 h.2.2 hdb, se_c fun _ => flat_rd h.2.1⟩
end
end Dv
end

section
set_option Elab.async false
set_option linter.all false
set_option maxRecDepth 100000
set_option maxHeartbeats 4000000
set_option autoImplicit false
/-! Dv16: what the top has written, as Bools over the written part; the head's own look. -/
namespace Dv
open PySem PySem.Spec PyProof.Rows L2

/-- an error class whose instances may be asked what they are -/
def excCB (K : PySem.W.Frag) (D : Addr) : Bool :=
  (decide (PySem.W.findIn K (.ref D) "__getattribute__" = some (some (.builtin "BaseException.__getattribute__")))
  && (decide (PySem.W.findIn K (.ref D) "__getattr__" = some none)
  && (decide (PySem.W.subIn K (.ref D) (.type "BaseException") = some true)
  && (PySem.W.hasDictIn K D
  && (decide (PySem.W.findIn K (.ref D) "__class__" = some (some (.builtin "object.__class__")))
  && (decide (PySem.W.specialIn K (.builtin "object.__class__") "__get__" = some (some (.builtin "getset_descriptor.__get__")))
  && (decide (PySem.W.takesIn K (.builtin "object.__class__") = some true)
  && decide (PySem.W.mroIn K D (.type "object") = some true))))))))
theorem excCB_ok {K : PySem.W.Frag} {D : Addr} (h : excCB K D = true) : ExcC K D := by
  unfold excCB at h
  simp only [Bool.and_eq_true, decide_eq_true_eq] at h
  exact ⟨h.1, h.2.1, h.2.2.1, h.2.2.2.1, h.2.2.2.2.1, h.2.2.2.2.2.1, h.2.2.2.2.2.2.1, h.2.2.2.2.2.2.2⟩
def ibL (l : List (String × Bool)) (n : String) : Option Bool := l.lookup n
def ioL (l : List (Str × Bool)) (n : Str) : Option Bool := l.lookup n
/-- the class that is asked for: an own one, a built-in one -/
inductive Cl where
  | own (x : Str)
  | ty (n : String)
def Cl.v (K : PySem.W.Frag) : Cl → V
  | .own x => .ref (He.ga K x)
  | .ty n => .ty n
def Cl.u (K : PySem.W.Frag) : Cl → Value
  | .own x => .ref (He.ga K x)
  | .ty n => .type n
inductive Fb where
  | isi (c : Cl) (lb : List (String × Bool)) (lo : List (Str × Bool))
  | exm (c : Cl) (lo : List (Str × Bool))
def Fb.ok (K : PySem.W.Frag) : Fb → Bool
  | .isi c lb lo => lb.all (fun p => decide (PySem.W.kitOne K (.type p.1) (c.u K) = some p.2)) && lo.all (fun p => excCB K (He.ga K p.1) && decide (PySem.W.kitOne K (.ref (He.ga K p.1)) (c.u K) = some p.2))
  | .exm c lo => lo.all (fun p => decide (PySem.W.exmOne K (.ref (He.ga K p.1)) (c.u K) = some p.2))
theorem lookup_mem {α β : Type} [BEq α] [LawfulBEq α] {l : List (α × β)} {n : α} {b : β} (h : l.lookup n = some b) : (n, b) ∈ l := by
  induction l with
  | nil => cases h
  | cons p r ih =>
    obtain ⟨x, y⟩ := p
    simp only [List.lookup] at h
    split at h
    · rename_i e
      rw [beq_iff_eq.mp e]
      cases h
      exact List.mem_cons_self
    · exact List.mem_cons_of_mem _ (ih h)
theorem isi_ok {K : PySem.W.Frag} {c : Cl} {lb : List (String × Bool)} {lo : List (Str × Bool)} (h : (Fb.isi c lb lo).ok K = true) : IsiC K (He.ga K) (c.v K) (ibL lb) (ioL lo) := by
  unfold Fb.ok at h
  simp only [Bool.and_eq_true, List.all_eq_true, decide_eq_true_eq] at h
  refine ⟨c.u K, ?_, fun n b e => h.1 _ (lookup_mem e), fun x b e => ?_⟩
  · cases c
    · exact .own _
    · exact .ty _
  · have := h.2 _ (lookup_mem e)
    exact ⟨excCB_ok this.1, this.2⟩
theorem exm_ok {K : PySem.W.Frag} {c : Cl} {lo : List (Str × Bool)} (h : (Fb.exm c lo).ok K = true) : ∀ z b, ioL lo z = some b → PySem.W.exmOne K (.ref (He.ga K z)) (c.u K) = some b := by
  unfold Fb.ok at h
  simp only [List.all_eq_true, decide_eq_true_eq] at h
  exact fun z b e => h _ (lookup_mem e)
theorem excT_ok {K : PySem.W.Frag} {h : Heap} {mg : Str → Option Value} {x : Str} (X : K.In h) (G : h.Ns mainGlobals mg) (c : (He.Fa.glo x).ok K = true) (e : (He.Fa.exc x).ok K = true) : ExcT K mg (He.ga K) x := by
  obtain ⟨h1, h2, h3, h4⟩ := He.exc_ok e
  exact ⟨He.glo_ok X G c, h1, h2, h3, h4⟩
/-! ### the head's look -/
abbrev AlB : Type := He.AlD × Bool
def obsB (fa : List He.Fa) (fn : List He.DefD) (fb : List Fb) (K : PySem.W.Frag) : AlB := (He.obsD fa fn K, fb.all fun f => f.ok K)
structure SaysB (fa : List He.Fa) (fn : List He.DefD) (fb : List Fb) (K : PySem.W.Frag) : Prop where
  d : He.SaysD fa fn K
  b : (fb.all fun f => f.ok K) = true
def obsBG (n : Nat) (fa : List He.Fa) (fn : List He.DefD) (fb : List Fb) (g : Addr → Option Obj) : AlB := obsB fa fn fb (He.frG g (He.asD g n))
def hookB (n : Nat) (fa : List He.Fa) (fn : List He.DefD) (fb : List Fb) : PySem.W.Hook where
  α := AlB
  obs := fun s => obsBG n fa fn fb s.heap.get?
  val := fun _ => (He.valD fn, true)
  says := fun _ h => ∃ K : PySem.W.Frag, K.In h ∧ SaysB fa fn fb K
  of := fun _ _ e => ⟨_, He.frG_in, ⟨congrArg Prod.fst e, congrArg Prod.snd e⟩⟩
  keeps := fun _ _ _ ⟨K, hK, c⟩ k => ⟨K, PySem.W.Frag.In.keeps hK k, c⟩
theorem obsBG_eq {n : Nat} {fa : List He.Fa} {fn : List He.DefD} {fb : List Fb} {g : Addr → Option Obj} {s : Shared} (h : ∀ a, g a = s.heap.get? a) : obsBG n fa fn fb g = (hookB n fa fn fb).obs s := by
  have e : g = s.heap.get? := funext h
  rw [e]
  rfl
theorem SaysB.fb {fa : List He.Fa} {fn : List He.DefD} {fb : List Fb} {K : PySem.W.Frag} (c : SaysB fa fn fb K) (i : Nat) {f : Fb} (h : fb[i]? = some f) : f.ok K = true := List.all_eq_true.mp c.b f (List.mem_of_getElem? h)
/-! ### the end -/
theorem walk_law {l : PySem.W.OpenLaw} {k : Nat} {q : Program} {loose : List Str} {XP : (Str → Option Value) → Heap → Prop} {YP : World → Heap → Prop} {d : DefRec} {x : Str}
    (hn : l.most = some 63) (hdf : d.params.defaults = []) (hr : Room k callerA)
    (F : ∀ (w : World) (mg : Str → Option Value) (fa : Addr) (h : Heap), YP w h → h.Ns mainGlobals mg → mg d.name = some (.ref fa) →
      ∃ (K : PySem.W.Frag) (fd : FuncData), K.In h ∧ (∀ (s : Shared) (u : Value), BindsTo s fd ⟨[u], []⟩ [(x, u)]) ∧
        ∀ base : Heap, K.In base → base.Ns mainGlobals mg → FnOk l.prog w K mg base (L2.CX l.prog w) k fa fd [x] (spLaw K)) :
    PySem.W.WalkO q loose XP YP l.row.toRowW d [] (fun f vs => PySem.call f vs) := by
  refine Att.attach_call hn hdf fun w s₀ s₁ mg mb fa o pm cd doc a vs ns G Y ho hd hcd hmg hobj hints hlen hg => ?_
  obtain ⟨K, fd, KX, hb, hF⟩ := F w mg fa _ Y G.T.g hmg
  exact law_call KX G.T.g G.T.b G.T.builtins G.T.nolimit hg hobj hints (Nat.le_trans hlen (by decide)) hr hF hb (fun H hO hS => ⟨a, ns, rfl, hS, hlen, fun _ => rfl⟩) fun H e s' h => cx_law h
end Dv
end

section
set_option Elab.async false
set_option linter.all false
set_option maxRecDepth 100000
set_option maxHeartbeats 4000000
set_option autoImplicit false
/-! Dv17: how the denotations compute, as rules for simp. -/
namespace Dv
open PySem

def Rs.th {α β : Type} (r : Rs α) (f : α → M β) : Rs β := match r with
  | .ok a ρ => f a ρ
  | .exc c ρ => .exc c ρ
  | .stuck => .stuck
section
variable {α β : Type} {ρ : Dv.Env}
@[simp] theorem th_ok (a : α) (f : α → M β) : Rs.th (.ok a ρ) f = f a ρ := rfl
@[simp] theorem th_exc (c : Str) (f : α → M β) : Rs.th (.exc c ρ) f = .exc c ρ := rfl
@[simp] theorem th_stuck (f : α → M β) : Rs.th (.stuck) f = .stuck := rfl
@[simp] theorem bindE (m : M α) (f : α → M β) : (m >>= f) ρ = (m ρ).th f := by
  show M.bind m f ρ = _
  unfold M.bind Rs.th
  rfl
@[simp] theorem pureE (a : α) : (pure a : M α) ρ = .ok a ρ := rfl
@[simp] theorem stopE : (stop : M α) ρ = .stuck := rfl
@[simp] theorem ifE (c : Prop) [Decidable c] (a b : M α) : (if c then a else b) ρ = if c then a ρ else b ρ := by split <;> rfl
@[simp] theorem th_ite (c : Prop) [Decidable c] (a b : Rs α) (f : α → M β) : Rs.th (if c then a else b) f = if c then Rs.th a f else Rs.th b f := by split <;> rfl
@[simp] theorem vw_v (od : OD) : vw (.v od) ρ = .ok od.toD ρ := rfl
@[simp] theorem toD_sh (d : D) : (OD.sh d).toD = d := rfl
@[simp] theorem toD_ls (xs : List OD) : (OD.ls xs).toD = .lst (OD.toDs xs) := rfl
@[simp] theorem toD_tp (xs : List OD) : (OD.tp xs).toD = .tup (OD.toDs xs) := rfl
@[simp] theorem toDs_nil : OD.toDs [] = [] := rfl
@[simp] theorem toDs_cons (x : OD) (xs : List OD) : OD.toDs (x :: xs) = x.toD :: OD.toDs xs := rfl
@[simp] theorem toDs_sh (ds : List D) : OD.toDs (ds.map OD.sh) = ds := by
  induction ds with
  | nil => rfl
  | cons d ds ih => rw [List.map_cons, toDs_cons, ih]; rfl
theorem vw_late {i : Nat} {od : OD} (h : ρ[i]? = some (some od)) : vw (.late i []) ρ = .ok od.toD ρ := by
  have e : (Op.late i []).view ρ = some od.toD := by
    have e1 : (Op.late i []).at? ρ = some od := by
      show ((ρ[i]?).bind id).bind (fun od => od.at? []) = some od
      rw [h]
      cases od <;> rfl
    unfold Op.view
    rw [e1]
  unfold vw
  rw [e]
@[simp] theorem m_cE (d : D) : m_c d ρ = .ok (sh d) ρ := rfl
@[simp] theorem guardE (b : Bool) : guard' b ρ = if b then .ok () ρ else .stuck := rfl
@[simp] theorem own_v (od : OD) : own (.v od) ρ = .ok od ρ := rfl
@[simp] theorem give_v (od : OD) : give (.v od) ρ = .ok od ρ := rfl
@[simp] theorem view_v (od : OD) : (Op.v od).view ρ = some od.toD := rfl
@[simp] theorem at_v (od : OD) : (Op.v od).at? ρ = some od := rfl
@[simp] theorem at_nil (od : OD) : od.at? [] = some od := by cases od <;> rfl
@[simp] theorem g_nameE (i : Nat) (od : OD) : g_name i od ρ = if i < ρ.length then .ok () (ρ.set i (some od)) else .stuck := rfl
@[simp] theorem goOn_nx (m : M Fl) : goOn m .nx = m := rfl
@[simp] theorem goOn_ct (m : M Fl) : goOn m .ct = m := rfl
@[simp] theorem goOn_bk (m : M Fl) : goOn m .bk = pure .nx := rfl
@[simp] theorem goOn_rt (m : M Fl) (od : OD) : goOn m (.rt od) = pure (.rt od) := rfl
@[simp] theorem forL_nil (g : G) (b : M Fl) : forL g b [] ρ = .ok .nx ρ := rfl
theorem forL_cons (g : G) (b : M Fl) (d : D) (ds : List D) : forL g b (d :: ds) ρ = (g (.sh d) ρ).th fun _ ρ1 => (b ρ1).th (goOn (forL g b ds)) := by
  rw [show forL g b (d :: ds) = (g (.sh d) >>= fun _ => b >>= goOn (forL g b ds)) from rfl, bindE]
  cases g (.sh d) ρ with
  | ok a ρ1 => exact bindE _ _
  | _ => rfl
theorem seqE (a b : M Fl) : s_seq a b ρ = (a ρ).th fun f => match f with | .nx => b | f => pure f := by
  rw [show s_seq a b = (a >>= fun f => match f with | .nx => b | f => pure f) from rfl, bindE]
theorem seq_ok {a b : M Fl} {ρ1 : Dv.Env} (h : a ρ = .ok .nx ρ1) : s_seq a b ρ = b ρ1 := by rw [seqE, h]; rfl
theorem for_ok {mi : M (List D)} {g : G} {b : M Fl} {xs : List D} {ρ1 : Dv.Env} (h : mi ρ = .ok xs ρ1) : s_for mi g b ρ = forL g b xs ρ1 := by
  rw [show s_for mi g b = (mi >>= fun xs => forL g b xs) from rfl, bindE, h]; rfl
theorem run_rt {n : Nat} {m : M Fl} {ds : List D} {od : OD} {ρ1 : Dv.Env} (h : m (ds.map (fun d => some (.sh d)) ++ List.replicate (n - ds.length) none) = .ok (.rt od) ρ1) : runF n m ds = .ok od := by
  unfold runF; rw [h]
theorem run_nx {n : Nat} {m : M Fl} {ds : List D} {ρ1 : Dv.Env} (h : m (ds.map (fun d => some (.sh d)) ++ List.replicate (n - ds.length) none) = .ok .nx ρ1) : runF n m ds = .ok (.sh .non) := by
  unfold runF; rw [h]
theorem run_exc {n : Nat} {m : M Fl} {ds : List D} {c : Str} {ρ1 : Dv.Env} (h : m (ds.map (fun d => some (.sh d)) ++ List.replicate (n - ds.length) none) = .exc c ρ1) : runF n m ds = .exc c := by
  unfold runF; rw [h]
theorem seq_exc {a b : M Fl} {c : Str} {ρ1 : Dv.Env} (h : a ρ = .exc c ρ1) : s_seq a b ρ = .exc c ρ1 := by rw [seqE, h]; rfl
theorem seq_rt {a b : M Fl} {od : OD} {ρ1 : Dv.Env} (h : a ρ = .ok (.rt od) ρ1) : s_seq a b ρ = .ok (.rt od) ρ1 := by rw [seqE, h]; rfl
@[simp] theorem t_yesE : t_yes ρ = .ok true ρ := rfl
/-! ### equal -/
@[simp] theorem py_int (i : Int) : (D.int i).py = some (.int i) := rfl
@[simp] theorem py_lst (xs : List D) : (D.lst xs).py = (D.pys xs).map PyData.list := rfl
@[simp] theorem pys_nil : D.pys [] = some [] := rfl
theorem pys_cons (x : D) (xs : List D) : D.pys (x :: xs) = match x.py, D.pys xs with
    | some d, some ds => some (d :: ds)
    | _, _ => none := rfl
@[simp] theorem pys_ints : ∀ xs : List Int, D.pys (xs.map D.int) = some (xs.map PyData.int)
  | [] => rfl
  | x :: xs => by rw [List.map_cons, pys_cons, py_int, pys_ints xs]; rfl
theorem lay_ints : ∀ xs : List Int, PyData.canLayAll0 (xs.map PyData.int) = true
  | [] => by simp [PyData.canLayAll0]
  | x :: xs => by simp [PyData.canLayAll0, PyData.canLay0, lay_ints xs]
theorem dep_ints : ∀ xs : List Int, PyData.depthAll (xs.map PyData.int) ≤ 1
  | [] => by simp [PyData.depthAll]
  | x :: xs => by
    have := dep_ints xs
    simp [PyData.depthAll, PyData.depth]
    omega
@[simp] theorem shaped_int (i : Int) : SeqAt.shaped (.int i) = true := by simp [SeqAt.shaped, PyData.canLay0, PyData.depth]
@[simp] theorem shaped_ints (xs : List Int) : SeqAt.shaped (.list (xs.map PyData.int)) = true := by
  have := dep_ints xs
  simp [SeqAt.shaped, PyData.canLay0, PyData.depth, lay_ints xs]
  omega
theorem shaped_ints2 (xs ys : List Int) : SeqAt.shaped (.list [.list (xs.map PyData.int), .list (ys.map PyData.int)]) = true := by
  have := dep_ints xs
  have := dep_ints ys
  simp [SeqAt.shaped, PyData.canLay0, PyData.canLayAll0, PyData.depth, PyData.depthAll, lay_ints xs, lay_ints ys]
  omega
theorem beq_dec (a b : Int) : (a == b) = decide (a = b) := by rw [Bool.eq_iff_iff]; simp
theorem eqvs_ints : ∀ xs ys : List Int, PyData.eqvAll (xs.map PyData.int) (ys.map PyData.int) = decide (xs = ys)
  | [], [] => by simp [PyData.eqvAll]
  | [], y :: ys => by simp [PyData.eqvAll]
  | x :: xs, [] => by simp [PyData.eqvAll]
  | x :: xs, y :: ys => by
    simp [PyData.eqvAll, PyData.eqv, eqvs_ints xs ys, beq_dec]
@[simp] theorem g_eq_int (a b : Int) : g_eq (.int a) (.int b) = some (.bl (decide (a = b))) := by
  simp [g_eq, eqD, PyData.eqv, beq_dec]
@[simp] theorem g_ne_int (a b : Int) : g_ne (.int a) (.int b) = some (.bl (!decide (a = b))) := by
  simp [g_ne, eqD, PyData.eqv, beq_dec]
@[simp] theorem g_eq_ints (a b : List Int) : g_eq (.lst (a.map D.int)) (.lst (b.map D.int)) = some (.bl (decide (a = b))) := by
  simp [g_eq, eqD, PyData.eqv, eqvs_ints]
@[simp] theorem g_ne_ints (a b : List Int) : g_ne (.lst (a.map D.int)) (.lst (b.map D.int)) = some (.bl (!decide (a = b))) := by
  simp [g_ne, eqD, PyData.eqv, eqvs_ints]
@[simp] theorem g_ne_ints2 (a b c d : List Int) : g_ne (.lst [.lst (a.map D.int), .lst (b.map D.int)]) (.lst [.lst (c.map D.int), .lst (d.map D.int)]) = some (.bl (!(decide (a = c) && decide (b = d)))) := by
  simp [g_ne, eqD, pys_cons, shaped_ints2, PyData.eqv, PyData.eqvAll, eqvs_ints]
end
end Dv
end

section
set_option Elab.async false
set_option linter.all false
set_option maxRecDepth 100000
set_option autoImplicit false
/-! P_k66: what the defs of this law compute (printed by gen.py). -/
namespace L66
open PySem Dv

def lb_NoFilling : List (String × Bool) := [("NoneType", false), ("int", false), ("bool", false), ("list", false), ("str", false), ("tuple", false)]
def lo_NoFilling : List (Str × Bool) := [("NoMove", false)]
def lb_NoMove : List (String × Bool) := [("NoneType", false), ("int", false), ("bool", false), ("list", false), ("str", false), ("tuple", false)]
def lo_NoMove : List (Str × Bool) := [("NoMove", true)]
def lb_NoPuzzle : List (String × Bool) := [("NoneType", false), ("int", false), ("bool", false), ("list", false), ("str", false), ("tuple", false)]
def lo_NoPuzzle : List (Str × Bool) := [("NoMove", false)]
def lb_TooMany : List (String × Bool) := [("NoneType", false), ("int", false), ("bool", false), ("list", false), ("str", false), ("tuple", false)]
def lo_TooMany : List (Str × Bool) := [("NoMove", false)]
def lb_ValueError : List (String × Bool) := [("NoneType", false), ("int", false), ("bool", false), ("list", false), ("str", false), ("tuple", false)]
def lo_ValueError : List (Str × Bool) := [("NoMove", true)]
def lb_bool : List (String × Bool) := [("NoneType", false), ("int", false), ("bool", true), ("list", false), ("str", false), ("tuple", false)]
def lo_bool : List (Str × Bool) := []
def lb_int : List (String × Bool) := [("NoneType", false), ("int", true), ("bool", true), ("list", false), ("str", false), ("tuple", false)]
def lo_int : List (Str × Bool) := []
def lb_list : List (String × Bool) := [("NoneType", false), ("int", false), ("bool", false), ("list", true), ("str", false), ("tuple", false)]
def lo_list : List (Str × Bool) := []
def lx_ClueError : List (Str × Bool) := [("NoMove", true)]
/-- slots: 0:floor -/
def b_many_cells : M Fl :=
  (s_ret (m_op (o_flat g_mul) (m_op o_ix (m_var 0) (m_c (.int 0))) (m_op o_ix (m_var 0) (m_c (.int 1)))))
def F_many_cells : Fn := runF 1 b_many_cells
/-- slots: 0:floor 1:cell -/
def b_spot_of : M Fl :=
  (s_ret (m_tup (m_args (m_op (o_flat g_fdiv) (m_var 1) (m_op o_ix (m_var 0) (m_c (.int 1)))) (m_args (m_op (o_flat g_mod) (m_var 1) (m_op o_ix (m_var 0) (m_c (.int 1)))) m_args0))))
def F_spot_of : Fn := runF 2 b_spot_of
/-- slots: 0:move -/
def b_look_at_move : M Fl :=
  (s_if (t_not (t_val (m_chain pLe pLe (m_c (.int 0)) (m_var 0) (m_c (.int 7)))))
    (s_raise "NoMove")
    s_nx)
def F_look_at_move : Fn := runF 1 b_look_at_move
/-- slots: 0:high 1:spot -/
def b_turned_spot : M Fl :=
  (s_ret (m_tup (m_args (m_op o_ix (m_var 1) (m_c (.int 1))) (m_args (m_op (o_flat g_sub) (m_op (o_flat g_sub) (m_var 0) (m_c (.int 1))) (m_op o_ix (m_var 1) (m_c (.int 0)))) m_args0))))
def F_turned_spot : Fn := runF 2 b_turned_spot
/-- slots: 0:floor 1:move 2:high 3:wide 4:signs -/
def b_moved_floor : M Fl :=
  (s_seq (s_expr (m_callN 1 F_look_at_move [] (m_args (m_var 1) m_args0)))
   (s_seq (s_asg (m_var 0) (g_tup [g_name 2, g_name 3, g_name 4]))
   (s_seq (s_if (t_val (m_op (o_flat g_eq) (m_op (o_flat g_mod) (m_var 1) (m_c (.int 2))) (m_c (.int 1))))
    (s_ret (m_tup (m_args (m_var 3) (m_args (m_var 2) (m_args (m_var 4) m_args0)))))
    s_nx)
   (s_ret (m_tup (m_args (m_var 2) (m_args (m_var 3) (m_args (m_var 4) m_args0))))))))
def F_moved_floor : Fn := runF 5 b_moved_floor
/-- slots: 0:floor 1:move 2:found 3:cell 4:high 5:wide 6:signs 7:spot 8:turn -/
def b_moved_cells : M Fl :=
  (s_seq (s_expr (m_callN 1 F_look_at_move [] (m_args (m_var 1) m_args0)))
   (s_seq (s_asg (m_lst m_args0) (g_name 2))
   (s_seq (s_for (i_range1 (m_args (m_callN 1 F_many_cells [] (m_args (m_var 0) m_args0)) m_args0)) (g_name 3)
    (s_seq (s_asg (m_var 0) (g_tup [g_name 4, g_name 5, g_name 6]))
   (s_seq (s_asg (m_callN 2 F_spot_of [] (m_args (m_var 0) (m_args (m_var 3) m_args0))) (g_name 7))
   (s_seq (s_if (t_val (m_op (o_flat g_ge) (m_var 1) (m_c (.int 4))))
    (s_asg (m_tup (m_args (m_op o_ix (m_var 7) (m_c (.int 0))) (m_args (m_op (o_flat g_sub) (m_op (o_flat g_sub) (m_var 5) (m_c (.int 1))) (m_op o_ix (m_var 7) (m_c (.int 1)))) m_args0))) (g_name 7))
    s_nx)
   (s_seq (s_for (i_range1 (m_args (m_op (o_flat g_mod) (m_var 1) (m_c (.int 4))) m_args0)) (g_name 8)
    (s_seq (s_asg (m_callN 2 F_turned_spot [] (m_args (m_var 4) (m_args (m_var 7) m_args0))) (g_name 7))
   (s_par 4 5 (m_args (m_var 5) (m_args (m_var 4) m_args0)))))
   (s_mut (m_var 2) (m_args (m_op o_add (m_op (o_flat g_mul) (m_op o_ix (m_var 7) (m_c (.int 0))) (m_var 5)) (m_op o_ix (m_var 7) (m_c (.int 1)))) m_args0) f_append))))))
   (s_ret (m_var 2)))))
def F_moved_cells : Fn := runF 9 b_moved_cells
/-- slots: 0:floor -/
def b_all_signs : M Fl :=
  (s_ret (l_range2 (m_c (.int 1)) (m_op o_add (m_op o_ix (m_var 0) (m_c (.int 2))) (m_c (.int 1)))))
def F_all_signs : Fn := runF 1 b_all_signs
/-- slots: 0:floor 1:signs -/
def b_signs_by : M Fl :=
  (s_seq (s_if (t_val (m_un (u_flat u_isN) (m_var 1)))
    (s_ret (m_callN 1 F_all_signs [] (m_args (m_var 0) m_args0)))
    s_nx)
   (s_seq (s_if (t_val (m_op (o_flat g_ne) (m_cb c_sortI (m_args (m_var 1) m_args0)) (m_callN 1 F_all_signs [] (m_args (m_var 0) m_args0))))
    (s_raise "NoMove")
    s_nx)
   (s_ret (m_cb c_list (m_args (m_var 1) m_args0)))))
def F_signs_by : Fn := runF 2 b_signs_by
/-- slots: 0:floor 1:filling 2:move 3:signs 4:changed 5:found 6:cell 7:sign -/
def b_moved_filling : M Fl :=
  (s_seq (s_asg (m_op o_add (m_lst (m_args (m_c (.int 0)) m_args0)) (m_callN 2 F_signs_by [] (m_args (m_var 0) (m_args (m_var 3) m_args0)))) (g_name 4))
   (s_seq (s_asg (m_lc [6] (i_of (m_var 1)) (g_name 6) t_yes (m_c (.int 0))) (g_name 5))
   (s_seq (s_for (i_by f_zip (m_args (m_var 1) (m_args (m_callN 2 F_moved_cells [] (m_args (m_var 0) (m_args (m_var 2) m_args0))) m_args0))) (g_tup [g_name 7, g_name 6])
    (s_setix (m_op o_ix (m_var 4) (m_var 7)) (m_var 5) (m_var 6)))
   (s_ret (m_var 5)))))
def F_moved_filling : Fn := runF 8 b_moved_filling
/-- slots: 0:_law_script 1:_law_k 2:_law_mixed -/
def b__law_at : M Fl :=
  (s_seq (s_if (t_val (m_op (o_flat g_lt) (m_var 1) (m_cb (c1 g_len) (m_args (m_var 0) m_args0))))
    (s_ret (m_op o_ix (m_var 0) (m_var 1)))
    s_nx)
   (s_seq (s_asg (m_op o_add (m_op (o_flat g_mul) (m_c (.int 7)) (m_var 1)) (m_c (.int 3))) (g_name 2))
   (s_seq (s_if (t_val (m_op (o_flat g_gt) (m_cb (c1 g_len) (m_args (m_var 0) m_args0)) (m_c (.int 0))))
    (s_asg (m_op o_add (m_var 2) (m_op (o_flat g_mul) (m_op (o_flat g_mod) (m_op o_ix (m_var 0) (m_op (o_flat g_mod) (m_var 1) (m_cb (c1 g_len) (m_args (m_var 0) m_args0)))) (m_c (.int 1000003))) (m_op o_add (m_var 1) (m_c (.int 1))))) (g_name 2))
    s_nx)
   (s_ret (m_op o_add (m_op (o_flat g_mod) (m_op (o_flat g_mul) (m_var 2) (m_var 2)) (m_c (.int 999979))) (m_op (o_flat g_mod) (m_var 2) (m_c (.int 101))))))))
def F__law_at : Fn := runF 3 b__law_at
/-- slots: 0:_law_found -/
def b__law_whole : M Fl :=
  (s_ret (m_and (m_un (u_flat (u_isi (ibL lb_int) (ioL lo_int))) (m_var 0)) (m_un (u_flat u_not) (m_un (u_flat (u_isi (ibL lb_bool) (ioL lo_bool))) (m_var 0)))))
def F__law_whole : Fn := runF 1 b__law_whole
/-- slots: 0:_law_script 1:_law_high 2:_law_wide -/
def b__law_floor : M Fl :=
  (s_seq (s_asg (m_op o_add (m_c (.int 1)) (m_op (o_flat g_mod) (m_callN 2 F__law_at [] (m_args (m_var 0) (m_args (m_c (.int 0)) m_args0))) (m_c (.int 6)))) (g_name 1))
   (s_seq (s_asg (m_op o_add (m_c (.int 1)) (m_op (o_flat g_mod) (m_callN 2 F__law_at [] (m_args (m_var 0) (m_args (m_c (.int 1)) m_args0))) (m_cb (c2 g_min2) (m_args (m_c (.int 6)) (m_args (m_op (o_flat g_fdiv) (m_c (.int 16)) (m_var 1)) m_args0))))) (g_name 2))
   (s_ret (m_tup (m_args (m_var 1) (m_args (m_var 2) (m_args (m_op o_add (m_c (.int 1)) (m_op (o_flat g_mod) (m_callN 2 F__law_at [] (m_args (m_var 0) (m_args (m_c (.int 2)) m_args0))) (m_c (.int 6)))) m_args0)))))))
def F__law_floor : Fn := runF 3 b__law_floor
/-- slots: 0:_law_floor_here 1:_law_cell 2:_law_move 3:_law_high 4:_law_wide 5:_law_signs 6:_law_row 7:_law_column 8:_law_turn -/
def b__law_spot : M Fl :=
  (s_seq (s_asg (m_var 0) (g_tup [g_name 3, g_name 4, g_name 5]))
   (s_seq (s_asg (m_op (o_flat g_fdiv) (m_var 1) (m_var 4)) (g_name 6))
   (s_seq (s_asg (m_op (o_flat g_mod) (m_var 1) (m_var 4)) (g_name 7))
   (s_seq (s_if (t_val (m_op (o_flat g_gt) (m_var 2) (m_c (.int 3))))
    (s_asg (m_op (o_flat g_sub) (m_op (o_flat g_sub) (m_var 4) (m_c (.int 1))) (m_var 7)) (g_name 7))
    s_nx)
   (s_seq (s_for (i_range1 (m_args (m_op (o_flat g_mod) (m_var 2) (m_c (.int 4))) m_args0)) (g_name 8)
    (s_seq (s_par 6 7 (m_args (m_var 7) (m_args (m_op (o_flat g_sub) (m_op (o_flat g_sub) (m_var 3) (m_c (.int 1))) (m_var 6)) m_args0)))
   (s_par 3 4 (m_args (m_var 4) (m_args (m_var 3) m_args0)))))
   (s_ret (m_op o_add (m_op (o_flat g_mul) (m_var 6) (m_var 4)) (m_var 7))))))))
def F__law_spot : Fn := runF 9 b__law_spot
/-- slots: 0:_law_floor_here 1:_law_move -/
def b__law_ground : M Fl :=
  (s_seq (s_if (t_val (m_op (o_flat g_eq) (m_op (o_flat g_mod) (m_var 1) (m_c (.int 2))) (m_c (.int 1))))
    (s_ret (m_tup (m_args (m_op o_ix (m_var 0) (m_c (.int 1))) (m_args (m_op o_ix (m_var 0) (m_c (.int 0))) (m_args (m_op o_ix (m_var 0) (m_c (.int 2))) m_args0)))))
    s_nx)
   (s_ret (m_var 0)))
def F__law_ground : Fn := runF 2 b__law_ground
/-- slots: 0:_law_cell 1:_law_many 2:_law_left 3:_law_found 4:_law_k -/
def b__law_exchange : M Fl :=
  (s_seq (s_asg (l_range2 (m_c (.int 1)) (m_op o_add (m_var 1) (m_c (.int 1)))) (g_name 2))
   (s_seq (s_asg (m_lst m_args0) (g_name 3))
   (s_seq (s_for (i_range1 (m_args (m_var 1) m_args0)) (g_name 4)
    (s_appendM (m_var 3) (m_pop (m_var 2) (m_op (o_flat g_mod) (m_op (o_flat g_fdiv) (m_var 0) (m_op o_add (m_op (o_flat g_mul) (m_c (.int 3)) (m_var 4)) (m_c (.int 1)))) (m_cb (c1 g_len) (m_args (m_var 2) m_args0))))))
   (s_ret (m_var 3)))))
def F__law_exchange : Fn := runF 5 b__law_exchange
/-- slots: 0:_law_signs 1:_law_cell 2:_law_at_here -/
def b__law_bad_list : M Fl :=
  (s_seq (s_asg (m_op (o_flat g_mod) (m_op (o_flat g_fdiv) (m_var 1) (m_c (.int 5))) (m_cb (c1 g_len) (m_args (m_var 0) m_args0))) (g_name 2))
   (s_seq (s_if (t_val (m_op (o_flat g_eq) (m_op (o_flat g_mod) (m_var 1) (m_c (.int 5))) (m_c (.int 0))))
    (s_ret (m_slice (m_var 0) (p_some (m_c (.int 1))) p_none))
    s_nx)
   (s_seq (s_if (t_val (m_op (o_flat g_eq) (m_op (o_flat g_mod) (m_var 1) (m_c (.int 5))) (m_c (.int 1))))
    (s_ret (m_op o_add (m_var 0) (m_lst (m_args (m_op o_ix (m_var 0) (m_var 2)) m_args0))))
    s_nx)
   (s_seq (s_if (t_and (t_val (m_op (o_flat g_eq) (m_op (o_flat g_mod) (m_var 1) (m_c (.int 5))) (m_c (.int 2)))) (t_val (m_op (o_flat g_gt) (m_cb (c1 g_len) (m_args (m_var 0) m_args0)) (m_c (.int 1)))))
    (s_ret (m_op o_add (m_op o_add (m_slice (m_var 0) p_none (p_some (m_var 2))) (m_lst (m_args (m_op o_ix (m_var 0) (m_op (o_flat g_sub) (m_var 2) (m_c (.int 1)))) m_args0))) (m_slice (m_var 0) (p_some (m_op o_add (m_var 2) (m_c (.int 1)))) p_none)))
    s_nx)
   (s_seq (s_if (t_val (m_op (o_flat g_eq) (m_op (o_flat g_mod) (m_var 1) (m_c (.int 5))) (m_c (.int 3))))
    (s_ret (m_op o_add (m_op o_add (m_slice (m_var 0) p_none (p_some (m_var 2))) (m_lst (m_args (m_c (.int 0)) m_args0))) (m_slice (m_var 0) (p_some (m_op o_add (m_var 2) (m_c (.int 1)))) p_none)))
    s_nx)
   (s_ret (m_op o_add (m_op o_add (m_slice (m_var 0) p_none (p_some (m_var 2))) (m_lst (m_args (m_op o_add (m_op o_add (m_cb (c1 g_len) (m_args (m_var 0) m_args0)) (m_c (.int 1))) (m_op (o_flat g_mod) (m_op (o_flat g_fdiv) (m_var 1) (m_c (.int 64))) (m_op (o_flat g_pow) (m_c (.int 10)) (m_c (.int 9))))) m_args0))) (m_slice (m_var 0) (p_some (m_op o_add (m_var 2) (m_c (.int 1)))) p_none))))))))
def F__law_bad_list : Fn := runF 3 b__law_bad_list
/-- slots: 0:_law_floor_here 1:_law_filling 2:_law_move 3:_law_signs 4:_law_caught 5:error 6:_law_others -/
def b__law_refused : M Fl :=
  (s_seq (s_asg (m_c .non) (g_name 4))
   (s_seq (s_tryk (s_expr (m_callN 4 F_moved_filling [] (m_args (m_var 0) (m_args (m_var 1) (m_args (m_var 2) (m_args (m_var 3) m_args0)))))) 5 4 (ioL lx_ClueError))
   (s_seq (s_asg (m_lst (m_args (m_un (u_flat (u_isi (ibL lb_NoFilling) (ioL lo_NoFilling))) (m_var 4)) (m_args (m_un (u_flat (u_isi (ibL lb_NoPuzzle) (ioL lo_NoPuzzle))) (m_var 4)) (m_args (m_un (u_flat (u_isi (ibL lb_TooMany) (ioL lo_TooMany))) (m_var 4)) m_args0)))) (g_name 6))
   (s_ret (m_and (m_un (u_flat (u_isi (ibL lb_NoMove) (ioL lo_NoMove))) (m_var 4)) (m_and (m_un (u_flat (u_isi (ibL lb_ValueError) (ioL lo_ValueError))) (m_var 4)) (m_un (u_flat u_not) (m_cb (c1 g_any) (m_args (m_var 6) m_args0)))))))))
def F__law_refused : Fn := runF 7 b__law_refused
/-- slots: 0:_law_floor_here 1:_law_filling 2:_law_move 3:_law_signs 4:_law_due_here 5:_law_cell 6:_law_sign -/
def b__law_due : M Fl :=
  (s_seq (s_asg (m_cb c_list (m_args (m_var 1) m_args0)) (g_name 4))
   (s_seq (s_for (i_by f_enum (m_args (m_var 1) m_args0)) (g_tup [g_name 5, g_name 6])
    (s_setix (m_op o_ix (m_op o_add (m_lst (m_args (m_c (.int 0)) m_args0)) (m_var 3)) (m_var 6)) (m_var 4) (m_callN 3 F__law_spot [] (m_args (m_var 0) (m_args (m_var 5) (m_args (m_var 2) m_args0))))))
   (s_ret (m_var 4))))
def F__law_due : Fn := runF 7 b__law_due
/-- slots: 0:_law_found 1:_law_due_here 2:_law_sign -/
def b__law_are : M Fl :=
  (s_seq (s_if (t_or (t_not (t_val (m_un (u_flat (u_isi (ibL lb_list) (ioL lo_list))) (m_var 0)))) (t_val (m_op (o_flat g_ne) (m_var 0) (m_var 1))))
    (s_ret (m_c (.bl false)))
    s_nx)
   (s_ret (m_op (o_flat g_eq) (m_cb (c1 g_len) (m_args (m_lc [2] (i_of (m_var 0)) (g_name 2) (t_val (m_callN 1 F__law_whole [] (m_args (m_var 2) m_args0))) (m_var 2)) m_args0)) (m_cb (c1 g_len) (m_args (m_var 1) m_args0)))))
def F__law_are : Fn := runF 3 b__law_are
/-- slots: 0:_law_script 1:_law_floor_here 2:_law_filling 3:_law_k 4:_law_move 5:_law_back 6:_law_plain_signs 7:_law_signs 8:_law_due_here 9:_law_handed 10:_law_found 11:_law_there 12:_law_turned_signs 13:_law_sign 14:_law_odd -/
def b_law : M Fl :=
  (s_seq (s_asg (m_callN 1 F__law_floor [] (m_args (m_var 0) m_args0)) (g_name 1))
   (s_seq (s_asg (m_lc [3] (i_range1 (m_args (m_op (o_flat g_mul) (m_op o_ix (m_var 1) (m_c (.int 0))) (m_op o_ix (m_var 1) (m_c (.int 1)))) m_args0)) (g_name 3) t_yes (m_op (o_flat g_mod) (m_callN 2 F__law_at [] (m_args (m_var 0) (m_args (m_op o_add (m_c (.int 7)) (m_var 3)) m_args0))) (m_op o_add (m_op o_ix (m_var 1) (m_c (.int 2))) (m_c (.int 1))))) (g_name 2))
   (s_seq (s_asg (m_op (o_flat g_mod) (m_callN 2 F__law_at [] (m_args (m_var 0) (m_args (m_c (.int 3)) m_args0))) (m_c (.int 8))) (g_name 4))
   (s_seq (s_asg (m_op o_ix (m_lst (m_args (m_c (.int 0)) (m_args (m_c (.int 3)) (m_args (m_c (.int 2)) (m_args (m_c (.int 1)) (m_args (m_c (.int 4)) (m_args (m_c (.int 5)) (m_args (m_c (.int 6)) (m_args (m_c (.int 7)) m_args0))))))))) (m_var 4)) (g_name 5))
   (s_seq (s_asg (l_range2 (m_c (.int 1)) (m_op o_add (m_op o_ix (m_var 1) (m_c (.int 2))) (m_c (.int 1)))) (g_name 6))
   (s_seq (s_asg (m_callN 2 F__law_exchange [] (m_args (m_callN 2 F__law_at [] (m_args (m_var 0) (m_args (m_c (.int 4)) m_args0))) (m_args (m_op o_ix (m_var 1) (m_c (.int 2))) m_args0))) (g_name 7))
   (s_seq (s_if (t_not (t_val (m_callN 2 F__law_are [] (m_args (m_callN 4 F_moved_filling [.non] (m_args (m_var 1) (m_args (m_cb c_list (m_args (m_var 2) m_args0)) (m_args (m_var 4) m_args0)))) (m_args (m_callN 4 F__law_due [] (m_args (m_var 1) (m_args (m_var 2) (m_args (m_var 4) (m_args (m_var 6) m_args0))))) m_args0)))))
    (s_ret (m_c (.bl false)))
    s_nx)
   (s_seq (s_if (t_not (t_val (m_callN 2 F__law_are [] (m_args (m_callN 4 F_moved_filling [] (m_args (m_var 1) (m_args (m_cb c_list (m_args (m_var 2) m_args0)) (m_args (m_var 4) (m_args (m_c .non) m_args0))))) (m_args (m_callN 4 F__law_due [] (m_args (m_var 1) (m_args (m_var 2) (m_args (m_var 4) (m_args (m_var 6) m_args0))))) m_args0)))))
    (s_ret (m_c (.bl false)))
    s_nx)
   (s_seq (s_asg (m_callN 4 F__law_due [] (m_args (m_var 1) (m_args (m_var 2) (m_args (m_var 4) (m_args (m_var 7) m_args0))))) (g_name 8))
   (s_seq (s_asg (m_lst (m_args (m_cb c_list (m_args (m_var 2) m_args0)) (m_args (m_cb c_list (m_args (m_var 7) m_args0)) m_args0))) (g_name 9))
   (s_seq (s_asg (m_callN 4 F_moved_filling [] (m_args (m_var 1) (m_args (m_op o_ix (m_var 9) (m_c (.int 0))) (m_args (m_var 4) (m_args (m_op o_ix (m_var 9) (m_c (.int 1))) m_args0))))) (g_name 10))
   (s_seq (s_if (t_or (t_not (t_val (m_callN 2 F__law_are [] (m_args (m_var 10) (m_args (m_var 8) m_args0))))) (t_val (m_op (o_flat g_ne) (m_var 9) (m_lst (m_args (m_var 2) (m_args (m_var 7) m_args0))))))
    (s_ret (m_c (.bl false)))
    s_nx)
   (s_seq (s_asg (m_callN 2 F_moved_floor [] (m_args (m_var 1) (m_args (m_var 4) m_args0))) (g_name 11))
   (s_seq (s_asg (m_lc [13] (i_of (m_var 6)) (g_name 13) t_yes (m_op o_add (m_bm1 isLst o_index (m_var 7) (m_var 13)) (m_c (.int 1)))) (g_name 12))
   (s_seq (s_if (t_not (t_val (m_callN 2 F__law_are [] (m_args (m_callN 4 F_moved_filling [] (m_args (m_var 11) (m_args (m_var 10) (m_args (m_var 5) (m_args (m_var 12) m_args0))))) (m_args (m_var 2) m_args0)))))
    (s_ret (m_c (.bl false)))
    s_nx)
   (s_seq (s_if (t_not (t_val (m_callN 4 F__law_refused [] (m_args (m_var 1) (m_args (m_op o_ix (m_var 9) (m_c (.int 0))) (m_args (m_var 4) (m_args (m_callN 2 F__law_bad_list [] (m_args (m_var 7) (m_args (m_callN 2 F__law_at [] (m_args (m_var 0) (m_args (m_c (.int 5)) m_args0))) m_args0))) m_args0)))))))
    (s_ret (m_c (.bl false)))
    s_nx)
   (s_seq (s_asg (m_op o_ix (m_lst (m_args (m_un (u_flat u_neg) (m_c (.int 1))) (m_args (m_c (.int 8)) (m_args (m_un (u_flat u_neg) (m_c (.int 9))) (m_args (m_op o_add (m_op (o_flat g_pow) (m_c (.int 10)) (m_c (.int 20))) (m_var 4)) m_args0))))) (m_op (o_flat g_mod) (m_callN 2 F__law_at [] (m_args (m_var 0) (m_args (m_c (.int 6)) m_args0))) (m_c (.int 4)))) (g_name 14))
   (s_seq (s_if (t_or (t_not (t_val (m_callN 4 F__law_refused [] (m_args (m_var 1) (m_args (m_op o_ix (m_var 9) (m_c (.int 0))) (m_args (m_var 14) (m_args (m_c .non) m_args0))))))) (t_not (t_val (m_callN 4 F__law_refused [] (m_args (m_var 1) (m_args (m_op o_ix (m_var 9) (m_c (.int 0))) (m_args (m_var 14) (m_args (m_var 7) m_args0))))))))
    (s_ret (m_c (.bl false)))
    s_nx)
   (s_seq (s_mut (m_var 10) m_args0 f_clear)
   (s_seq (s_mut (m_op o_ix (m_var 9) (m_c (.int 1))) m_args0 f_clear)
   (s_ret (m_callN 2 F__law_are [] (m_args (m_callN 4 F_moved_filling [] (m_args (m_var 1) (m_args (m_op o_ix (m_var 9) (m_c (.int 0))) (m_args (m_var 4) (m_args (m_cb c_list (m_args (m_var 7) m_args0)) m_args0))))) (m_args (m_var 8) m_args0))))))))))))))))))))))))
def F_law : Fn := runF 15 b_law
end L66
end

section
set_option Elab.async false
set_option linter.all false
set_option maxRecDepth 100000
set_option maxHeartbeats 8000000
set_option autoImplicit false
/-! J_k66: the defs of the text compute what P says (printed by gen.py). -/
namespace L66
open PySem PySem.Spec PyProof.Rows L2 Dv

def topS (i : Nat) : Stmt := PySem.Challenge.pw_cluemaker_k66_fillings_moved.main.body.getD i (.Pass ⟨0, 0, 0, 0⟩)
abbrev s_many_cells : Stmt := topS 7
theorem sc_many_cells : FnScope ["floor"] ["floor"] (defScope s_many_cells) := ⟨rfl, rfl, rfl, by decide +kernel, rfl, by decide +kernel, by decide +kernel⟩
abbrev s_spot_of : Stmt := topS 8
theorem sc_spot_of : FnScope ["floor", "cell"] ["floor", "cell"] (defScope s_spot_of) := ⟨rfl, rfl, rfl, by decide +kernel, rfl, by decide +kernel, by decide +kernel⟩
abbrev s_look_at_move : Stmt := topS 10
theorem sc_look_at_move : FnScope ["move"] ["move"] (defScope s_look_at_move) := ⟨rfl, rfl, rfl, by decide +kernel, rfl, by decide +kernel, by decide +kernel⟩
abbrev s_turned_spot : Stmt := topS 11
theorem sc_turned_spot : FnScope ["high", "spot"] ["high", "spot"] (defScope s_turned_spot) := ⟨rfl, rfl, rfl, by decide +kernel, rfl, by decide +kernel, by decide +kernel⟩
abbrev s_moved_floor : Stmt := topS 12
theorem sc_moved_floor : FnScope ["floor", "move", "high", "wide", "signs"] ["floor", "move"] (defScope s_moved_floor) := ⟨rfl, rfl, rfl, by decide +kernel, rfl, by decide +kernel, by decide +kernel⟩
abbrev s_moved_cells : Stmt := topS 13
theorem sc_moved_cells : FnScope ["floor", "move", "found", "cell", "high", "wide", "signs", "spot", "turn"] ["floor", "move"] (defScope s_moved_cells) := ⟨rfl, rfl, rfl, by decide +kernel, rfl, by decide +kernel, by decide +kernel⟩
abbrev s_all_signs : Stmt := topS 14
theorem sc_all_signs : FnScope ["floor"] ["floor"] (defScope s_all_signs) := ⟨rfl, rfl, rfl, by decide +kernel, rfl, by decide +kernel, by decide +kernel⟩
abbrev s_signs_by : Stmt := topS 15
theorem sc_signs_by : FnScope ["floor", "signs"] ["floor", "signs"] (defScope s_signs_by) := ⟨rfl, rfl, rfl, by decide +kernel, rfl, by decide +kernel, by decide +kernel⟩
abbrev s_moved_filling : Stmt := topS 16
theorem sc_moved_filling : FnScope ["floor", "filling", "move", "signs", "changed", "found", "cell", "sign"] ["floor", "filling", "move", "signs"] (defScope s_moved_filling) := ⟨rfl, rfl, rfl, by decide +kernel, rfl, by decide +kernel, by decide +kernel⟩
abbrev s__law_at : Stmt := topS 18
theorem sc__law_at : FnScope ["_law_script", "_law_k", "_law_mixed"] ["_law_script", "_law_k"] (defScope s__law_at) := ⟨rfl, rfl, rfl, by decide +kernel, rfl, by decide +kernel, by decide +kernel⟩
abbrev s__law_whole : Stmt := topS 19
theorem sc__law_whole : FnScope ["_law_found"] ["_law_found"] (defScope s__law_whole) := ⟨rfl, rfl, rfl, by decide +kernel, rfl, by decide +kernel, by decide +kernel⟩
abbrev s__law_floor : Stmt := topS 20
theorem sc__law_floor : FnScope ["_law_script", "_law_high", "_law_wide"] ["_law_script"] (defScope s__law_floor) := ⟨rfl, rfl, rfl, by decide +kernel, rfl, by decide +kernel, by decide +kernel⟩
abbrev s__law_spot : Stmt := topS 21
theorem sc__law_spot : FnScope ["_law_floor_here", "_law_cell", "_law_move", "_law_high", "_law_wide", "_law_signs", "_law_row", "_law_column", "_law_turn"] ["_law_floor_here", "_law_cell", "_law_move"] (defScope s__law_spot) := ⟨rfl, rfl, rfl, by decide +kernel, rfl, by decide +kernel, by decide +kernel⟩
abbrev s__law_ground : Stmt := topS 22
theorem sc__law_ground : FnScope ["_law_floor_here", "_law_move"] ["_law_floor_here", "_law_move"] (defScope s__law_ground) := ⟨rfl, rfl, rfl, by decide +kernel, rfl, by decide +kernel, by decide +kernel⟩
abbrev s__law_exchange : Stmt := topS 23
theorem sc__law_exchange : FnScope ["_law_cell", "_law_many", "_law_left", "_law_found", "_law_k"] ["_law_cell", "_law_many"] (defScope s__law_exchange) := ⟨rfl, rfl, rfl, by decide +kernel, rfl, by decide +kernel, by decide +kernel⟩
abbrev s__law_bad_list : Stmt := topS 24
theorem sc__law_bad_list : FnScope ["_law_signs", "_law_cell", "_law_at_here"] ["_law_signs", "_law_cell"] (defScope s__law_bad_list) := ⟨rfl, rfl, rfl, by decide +kernel, rfl, by decide +kernel, by decide +kernel⟩
abbrev s__law_refused : Stmt := topS 25
theorem sc__law_refused : FnScope ["_law_floor_here", "_law_filling", "_law_move", "_law_signs", "_law_caught", "error", "_law_others"] ["_law_floor_here", "_law_filling", "_law_move", "_law_signs"] (defScope s__law_refused) := ⟨rfl, rfl, rfl, by decide +kernel, rfl, by decide +kernel, by decide +kernel⟩
abbrev s__law_due : Stmt := topS 26
theorem sc__law_due : FnScope ["_law_floor_here", "_law_filling", "_law_move", "_law_signs", "_law_due_here", "_law_cell", "_law_sign"] ["_law_floor_here", "_law_filling", "_law_move", "_law_signs"] (defScope s__law_due) := ⟨rfl, rfl, rfl, by decide +kernel, rfl, by decide +kernel, by decide +kernel⟩
abbrev s__law_are : Stmt := topS 27
theorem sc__law_are : FnScope ["_law_found", "_law_due_here", "_law_sign"] ["_law_found", "_law_due_here"] (defScope s__law_are) := ⟨rfl, rfl, rfl, by decide +kernel, rfl, by decide +kernel, by decide +kernel⟩
abbrev s_law : Stmt := topS 28
theorem sc_law : FnScope ["_law_script", "_law_floor_here", "_law_filling", "_law_k", "_law_move", "_law_back", "_law_plain_signs", "_law_signs", "_law_due_here", "_law_handed", "_law_found", "_law_there", "_law_turned_signs", "_law_sign", "_law_odd"] ["_law_script"] (defScope s_law) := ⟨rfl, rfl, rfl, by decide +kernel, rfl, by decide +kernel, by decide +kernel⟩
/-- what the top has written -/
structure Txt (K : PySem.W.Frag) (mg : Str → Option Value) (cl : Str → Addr) : Prop where
  b_ValueError : mg "ValueError" = none
  b_any : mg "any" = none
  b_bool : mg "bool" = none
  b_enumerate : mg "enumerate" = none
  b_int : mg "int" = none
  b_isinstance : mg "isinstance" = none
  b_len : mg "len" = none
  b_list : mg "list" = none
  b_min : mg "min" = none
  b_range : mg "range" = none
  b_sorted : mg "sorted" = none
  b_zip : mg "zip" = none
  e_ClueError : ExcT K mg cl "ClueError"
  e_NoFilling : ExcT K mg cl "NoFilling"
  e_NoMove : ExcT K mg cl "NoMove"
  e_NoPuzzle : ExcT K mg cl "NoPuzzle"
  e_TooMany : ExcT K mg cl "TooMany"
  i_NoFilling : IsiC K cl (.ref (cl "NoFilling")) (ibL lb_NoFilling) (ioL lo_NoFilling)
  i_NoMove : IsiC K cl (.ref (cl "NoMove")) (ibL lb_NoMove) (ioL lo_NoMove)
  i_NoPuzzle : IsiC K cl (.ref (cl "NoPuzzle")) (ibL lb_NoPuzzle) (ioL lo_NoPuzzle)
  i_TooMany : IsiC K cl (.ref (cl "TooMany")) (ibL lb_TooMany) (ioL lo_TooMany)
  i_ValueError : IsiC K cl (.ty "ValueError") (ibL lb_ValueError) (ioL lo_ValueError)
  i_bool : IsiC K cl (.ty "bool") (ibL lb_bool) (ioL lo_bool)
  i_int : IsiC K cl (.ty "int") (ibL lb_int) (ioL lo_int)
  i_list : IsiC K cl (.ty "list") (ibL lb_list) (ioL lo_list)
  x_ClueError : ∀ z b, ioL lx_ClueError z = some b → PySem.W.exmOne K (.ref (cl z)) (.ref (cl "ClueError")) = some b
section
variable {P : Program} {w : World} {K : PySem.W.Frag} {mg : Str → Option Value} {base : Heap} {cl : Str → Addr}
theorem ok_many_cells (T : Txt K mg cl)  {f : Addr} {fd : FuncData} (Fx : FunD K "many_cells" "many_cells" (defArgs s_many_cells) (defBody s_many_cells) (defScope s_many_cells) [] [] f fd) :
    FnOk P w K mg base (L2.CX P w) 1 f fd ["floor"] (spF K cl 1 F_many_cells) :=
  fn_okD (k := 0) (m := b_many_cells) Fx sc_many_cells rfl rfl fun cdv A outer s H E hr => by
    have tk := takes_of (X := cxOf (L2.CX P w) P w K mg base ["floor"] "many_cells" (defScope s_many_cells) f cdv A outer s H E) (E := E) rfl rfl rfl rfl
    have hp := passes_of (X := cxOf (L2.CX P w) P w K mg base ["floor"] "many_cells" (defScope s_many_cells) f cdv A outer s H E) rfl
    exact ⟨_, (jss_one (js_ret (je_op ro_mul (je_ix (je_var 0) je_int) (je_ix (je_var 0) je_int))))⟩
theorem ok_spot_of (T : Txt K mg cl)  {f : Addr} {fd : FuncData} (Fx : FunD K "spot_of" "spot_of" (defArgs s_spot_of) (defBody s_spot_of) (defScope s_spot_of) [] [] f fd) :
    FnOk P w K mg base (L2.CX P w) 1 f fd ["floor", "cell"] (spF K cl 2 F_spot_of) :=
  fn_okD (k := 0) (m := b_spot_of) Fx sc_spot_of rfl rfl fun cdv A outer s H E hr => by
    have tk := takes_of (X := cxOf (L2.CX P w) P w K mg base ["floor", "cell"] "spot_of" (defScope s_spot_of) f cdv A outer s H E) (E := E) rfl rfl rfl rfl
    have hp := passes_of (X := cxOf (L2.CX P w) P w K mg base ["floor", "cell"] "spot_of" (defScope s_spot_of) f cdv A outer s H E) rfl
    exact ⟨_, (jss_one (js_ret (je_tup (ja_cons (je_op ro_fdiv (je_var 1) (je_ix (je_var 0) je_int)) (ja_cons (je_op ro_mod (je_var 1) (je_ix (je_var 0) je_int)) ja_nil)))))⟩
theorem ok_look_at_move (T : Txt K mg cl)  {f : Addr} {fd : FuncData} (Fx : FunD K "look_at_move" "look_at_move" (defArgs s_look_at_move) (defBody s_look_at_move) (defScope s_look_at_move) [] [] f fd) :
    FnOk P w K mg base (L2.CX P w) 1 f fd ["move"] (spF K cl 1 F_look_at_move) :=
  fn_okD (k := 0) (m := b_look_at_move) Fx sc_look_at_move rfl rfl fun cdv A outer s H E hr => by
    have tk := takes_of (X := cxOf (L2.CX P w) P w K mg base ["move"] "look_at_move" (defScope s_look_at_move) f cdv A outer s H E) (E := E) rfl rfl rfl rfl
    have hp := passes_of (X := cxOf (L2.CX P w) P w K mg base ["move"] "look_at_move" (defScope s_look_at_move) f cdv A outer s H E) rfl
    exact ⟨_, (jss_one (js_if (jt_not (jt_chain (p := pLe) (q := pLe) op_le op_le je_int (je_var 0) je_int)) (jss_one (js_raiseX rfl T.e_NoMove tk)) jss_nil))⟩
theorem ok_turned_spot (T : Txt K mg cl)  {f : Addr} {fd : FuncData} (Fx : FunD K "turned_spot" "turned_spot" (defArgs s_turned_spot) (defBody s_turned_spot) (defScope s_turned_spot) [] [] f fd) :
    FnOk P w K mg base (L2.CX P w) 1 f fd ["high", "spot"] (spF K cl 2 F_turned_spot) :=
  fn_okD (k := 0) (m := b_turned_spot) Fx sc_turned_spot rfl rfl fun cdv A outer s H E hr => by
    have tk := takes_of (X := cxOf (L2.CX P w) P w K mg base ["high", "spot"] "turned_spot" (defScope s_turned_spot) f cdv A outer s H E) (E := E) rfl rfl rfl rfl
    have hp := passes_of (X := cxOf (L2.CX P w) P w K mg base ["high", "spot"] "turned_spot" (defScope s_turned_spot) f cdv A outer s H E) rfl
    exact ⟨_, (jss_one (js_ret (je_tup (ja_cons (je_ix (je_var 1) je_int) (ja_cons (je_op ro_sub (je_op ro_sub (je_var 0) je_int) (je_ix (je_var 1) je_int)) ja_nil)))))⟩
theorem ok_moved_floor (T : Txt K mg cl) (d_look_at_move : DefOk P w K mg base cl 1 1 "look_at_move" F_look_at_move []) {f : Addr} {fd : FuncData} (Fx : FunD K "moved_floor" "moved_floor" (defArgs s_moved_floor) (defBody s_moved_floor) (defScope s_moved_floor) [] [] f fd) :
    FnOk P w K mg base (L2.CX P w) 2 f fd ["floor", "move"] (spF K cl 2 F_moved_floor) :=
  fn_okD (k := 1) (m := b_moved_floor) Fx sc_moved_floor rfl rfl fun cdv A outer s H E hr => by
    have tk := takes_of (X := cxOf (L2.CX P w) P w K mg base ["floor", "move", "high", "wide", "signs"] "moved_floor" (defScope s_moved_floor) f cdv A outer s H E) (E := E) rfl rfl rfl rfl
    have hp := passes_of (X := cxOf (L2.CX P w) P w K mg base ["floor", "move", "high", "wide", "signs"] "moved_floor" (defScope s_moved_floor) f cdv A outer s H E) rfl
    exact ⟨_, (jss_cons (js_expr (je_call d_look_at_move hr tk (ja_cons (je_var 1) ja_nil))) (jss_cons (js_asg (je_var 0) (jg_tup rfl (jgs_cons (i := 2) sc_moved_floor.nd (jgs_cons (i := 3) sc_moved_floor.nd (jgs_cons (i := 4) sc_moved_floor.nd jgs_nil))))) (jss_cons (js_if (jt_cmp (rc_eq hr) (je_op ro_mod (je_var 1) je_int) je_int) (jss_one (js_ret (je_tup (ja_cons (je_var 3) (ja_cons (je_var 2) (ja_cons (je_var 4) ja_nil)))))) jss_nil) (jss_one (js_ret (je_tup (ja_cons (je_var 2) (ja_cons (je_var 3) (ja_cons (je_var 4) ja_nil)))))))))⟩
theorem ok_moved_cells (T : Txt K mg cl) (d_look_at_move : DefOk P w K mg base cl 1 1 "look_at_move" F_look_at_move []) (d_many_cells : DefOk P w K mg base cl 1 1 "many_cells" F_many_cells []) (d_spot_of : DefOk P w K mg base cl 1 2 "spot_of" F_spot_of []) (d_turned_spot : DefOk P w K mg base cl 1 2 "turned_spot" F_turned_spot []) {f : Addr} {fd : FuncData} (Fx : FunD K "moved_cells" "moved_cells" (defArgs s_moved_cells) (defBody s_moved_cells) (defScope s_moved_cells) [] [] f fd) :
    FnOk P w K mg base (L2.CX P w) 2 f fd ["floor", "move"] (spF K cl 2 F_moved_cells) :=
  fn_okD (k := 1) (m := b_moved_cells) Fx sc_moved_cells rfl rfl fun cdv A outer s H E hr => by
    have tk := takes_of (X := cxOf (L2.CX P w) P w K mg base ["floor", "move", "found", "cell", "high", "wide", "signs", "spot", "turn"] "moved_cells" (defScope s_moved_cells) f cdv A outer s H E) (E := E) rfl rfl rfl rfl
    have hp := passes_of (X := cxOf (L2.CX P w) P w K mg base ["floor", "move", "found", "cell", "high", "wide", "signs", "spot", "turn"] "moved_cells" (defScope s_moved_cells) f cdv A outer s H E) rfl
    exact ⟨_, (jss_cons (js_expr (je_call d_look_at_move hr tk (ja_cons (je_var 1) ja_nil))) (jss_cons (js_set (i := 2) sc_moved_cells.nd (je_lst ja_nil)) (jss_cons (js_for hp rfl (ji_range1 T.b_range (ja_cons (je_call d_many_cells hr tk (ja_cons (je_var 0) ja_nil)) ja_nil)) (jg_name (i := 3) sc_moved_cells.nd) (jss_cons (js_asg (je_var 0) (jg_tup rfl (jgs_cons (i := 4) sc_moved_cells.nd (jgs_cons (i := 5) sc_moved_cells.nd (jgs_cons (i := 6) sc_moved_cells.nd jgs_nil))))) (jss_cons (js_set (i := 7) sc_moved_cells.nd (je_call d_spot_of hr tk (ja_cons (je_var 0) (ja_cons (je_var 3) ja_nil)))) (jss_cons (js_if (jt_cmp rc_ge (je_var 1) je_int) (jss_one (js_set (i := 7) sc_moved_cells.nd (je_tup (ja_cons (je_ix (je_var 7) je_int) (ja_cons (je_op ro_sub (je_op ro_sub (je_var 5) je_int) (je_ix (je_var 7) je_int)) ja_nil))))) jss_nil) (jss_cons (js_for hp rfl (ji_range1 T.b_range (ja_cons (je_op ro_mod (je_var 1) je_int) ja_nil)) (jg_name (i := 8) sc_moved_cells.nd) (jss_cons (js_set (i := 7) sc_moved_cells.nd (je_call d_turned_spot hr tk (ja_cons (je_var 4) (ja_cons (je_var 7) ja_nil)))) (jss_one (js_par (i := 4) (j := 5) rfl sc_moved_cells.nd (ja_cons (je_var 5) (ja_cons (je_var 4) ja_nil)))))) (jss_one (js_append (je_var 2) (je_op ro_add (je_op ro_mul (je_ix (je_var 7) je_int) (je_var 5)) (je_ix (je_var 7) je_int))))))))) (jss_one (js_ret (je_var 2))))))⟩
theorem ok_all_signs (T : Txt K mg cl)  {f : Addr} {fd : FuncData} (Fx : FunD K "all_signs" "all_signs" (defArgs s_all_signs) (defBody s_all_signs) (defScope s_all_signs) [] [] f fd) :
    FnOk P w K mg base (L2.CX P w) 1 f fd ["floor"] (spF K cl 1 F_all_signs) :=
  fn_okD (k := 0) (m := b_all_signs) Fx sc_all_signs rfl rfl fun cdv A outer s H E hr => by
    have tk := takes_of (X := cxOf (L2.CX P w) P w K mg base ["floor"] "all_signs" (defScope s_all_signs) f cdv A outer s H E) (E := E) rfl rfl rfl rfl
    have hp := passes_of (X := cxOf (L2.CX P w) P w K mg base ["floor"] "all_signs" (defScope s_all_signs) f cdv A outer s H E) rfl
    exact ⟨_, (jss_one (js_ret (je_listRg2 rfl T.b_list T.b_range je_int (je_op ro_add (je_ix (je_var 0) je_int) je_int))))⟩
theorem ok_signs_by (T : Txt K mg cl) (d_all_signs : DefOk P w K mg base cl 1 1 "all_signs" F_all_signs []) {f : Addr} {fd : FuncData} (Fx : FunD K "signs_by" "signs_by" (defArgs s_signs_by) (defBody s_signs_by) (defScope s_signs_by) [] [] f fd) :
    FnOk P w K mg base (L2.CX P w) 2 f fd ["floor", "signs"] (spF K cl 2 F_signs_by) :=
  fn_okD (k := 1) (m := b_signs_by) Fx sc_signs_by rfl rfl fun cdv A outer s H E hr => by
    have tk := takes_of (X := cxOf (L2.CX P w) P w K mg base ["floor", "signs"] "signs_by" (defScope s_signs_by) f cdv A outer s H E) (E := E) rfl rfl rfl rfl
    have hp := passes_of (X := cxOf (L2.CX P w) P w K mg base ["floor", "signs"] "signs_by" (defScope s_signs_by) f cdv A outer s H E) rfl
    exact ⟨_, (jss_cons (js_if (jt_isN (je_var 1)) (jss_one (js_ret (je_call d_all_signs hr tk (ja_cons (je_var 0) ja_nil)))) jss_nil) (jss_cons (js_if (jt_cmp (rc_ne hr) (je_cb cr_sortedI sc_sortI T.b_sorted (ja_cons (je_var 1) ja_nil)) (je_call d_all_signs hr tk (ja_cons (je_var 0) ja_nil))) (jss_one (js_raiseX rfl T.e_NoMove tk)) jss_nil) (jss_one (js_ret (je_ct call_list_of sc_list T.b_list (ja_cons (je_var 1) ja_nil))))))⟩
theorem ok_moved_filling (T : Txt K mg cl) (d_moved_cells : DefOk P w K mg base cl 2 2 "moved_cells" F_moved_cells []) (d_signs_by : DefOk P w K mg base cl 2 2 "signs_by" F_signs_by []) {f : Addr} {fd : FuncData} (Fx : FunD K "moved_filling" "moved_filling" (defArgs s_moved_filling) (defBody s_moved_filling) (defScope s_moved_filling) [.non] [] f fd) :
    FnOk P w K mg base (L2.CX P w) 3 f fd ["floor", "filling", "move", "signs"] (spF K cl 4 F_moved_filling) :=
  fn_okD (k := 2) (m := b_moved_filling) Fx sc_moved_filling rfl rfl fun cdv A outer s H E hr => by
    have tk := takes_of (X := cxOf (L2.CX P w) P w K mg base ["floor", "filling", "move", "signs", "changed", "found", "cell", "sign"] "moved_filling" (defScope s_moved_filling) f cdv A outer s H E) (E := E) rfl rfl rfl rfl
    have hp := passes_of (X := cxOf (L2.CX P w) P w K mg base ["floor", "filling", "move", "signs", "changed", "found", "cell", "sign"] "moved_filling" (defScope s_moved_filling) f cdv A outer s H E) rfl
    exact ⟨_, (jss_cons (js_set (i := 4) sc_moved_filling.nd (je_op ro_add (je_lst (ja_cons je_int ja_nil)) (je_call d_signs_by hr tk (ja_cons (je_var 0) (ja_cons (je_var 3) ja_nil))))) (jss_cons (js_setLc (i := 5) [("cell", 6)] rfl sc_moved_filling.nd (ji_of (je_var 1)) (blkOk_by (own := [("cell", 6)]) (N := ["floor", "filling", "move", "signs", "changed", "found", "cell", "sign"]) (sc := defScope s_moved_filling) (by decide +kernel)) (fun _ _ _ _ _ => (jg_name (i := 6) sc_moved_filling.nd)) (own_name (by decide)) (fun _ _ _ _ _ => jp_nil) (fun _ _ _ _ _ => je_int) (sw_true rfl rfl rfl (by decide +kernel))) (jss_cons (js_for hp rfl (ji_zip T.b_zip (ja_cons (je_var 1) (ja_cons (je_call d_moved_cells hr tk (ja_cons (je_var 0) (ja_cons (je_var 2) ja_nil))) ja_nil))) (jg_tup rfl (jgs_cons (i := 7) sc_moved_filling.nd (jgs_cons (i := 6) sc_moved_filling.nd jgs_nil))) (jss_one (js_setix (je_ix (je_var 4) (je_var 7)) (je_var 5) (je_var 6)))) (jss_one (js_ret (je_var 5))))))⟩
theorem ok__law_at (T : Txt K mg cl)  {f : Addr} {fd : FuncData} (Fx : FunD K "_law_at" "_law_at" (defArgs s__law_at) (defBody s__law_at) (defScope s__law_at) [] [] f fd) :
    FnOk P w K mg base (L2.CX P w) 1 f fd ["_law_script", "_law_k"] (spF K cl 2 F__law_at) :=
  fn_okD (k := 0) (m := b__law_at) Fx sc__law_at rfl rfl fun cdv A outer s H E hr => by
    have tk := takes_of (X := cxOf (L2.CX P w) P w K mg base ["_law_script", "_law_k", "_law_mixed"] "_law_at" (defScope s__law_at) f cdv A outer s H E) (E := E) rfl rfl rfl rfl
    have hp := passes_of (X := cxOf (L2.CX P w) P w K mg base ["_law_script", "_law_k", "_law_mixed"] "_law_at" (defScope s__law_at) f cdv A outer s H E) rfl
    exact ⟨_, (jss_cons (js_if (jt_cmp rc_lt (je_var 1) (je_len T.b_len (je_var 0))) (jss_one (js_ret (je_ix (je_var 0) (je_var 1)))) jss_nil) (jss_cons (js_set (i := 2) sc__law_at.nd (je_op ro_add (je_op ro_mul je_int (je_var 1)) je_int)) (jss_cons (js_if (jt_cmp rc_gt (je_len T.b_len (je_var 0)) je_int) (jss_one (js_set (i := 2) sc__law_at.nd (je_op ro_add (je_var 2) (je_op ro_mul (je_op ro_mod (je_ix (je_var 0) (je_op ro_mod (je_var 1) (je_len T.b_len (je_var 0)))) je_int) (je_op ro_add (je_var 1) je_int))))) jss_nil) (jss_one (js_ret (je_op ro_add (je_op ro_mod (je_op ro_mul (je_var 2) (je_var 2)) je_int) (je_op ro_mod (je_var 2) je_int)))))))⟩
theorem ok__law_whole (T : Txt K mg cl)  {f : Addr} {fd : FuncData} (Fx : FunD K "_law_whole" "_law_whole" (defArgs s__law_whole) (defBody s__law_whole) (defScope s__law_whole) [] [] f fd) :
    FnOk P w K mg base (L2.CX P w) 1 f fd ["_law_found"] (spF K cl 1 F__law_whole) :=
  fn_okD (k := 0) (m := b__law_whole) Fx sc__law_whole rfl rfl fun cdv A outer s H E hr => by
    have tk := takes_of (X := cxOf (L2.CX P w) P w K mg base ["_law_found"] "_law_whole" (defScope s__law_whole) f cdv A outer s H E) (E := E) rfl rfl rfl rfl
    have hp := passes_of (X := cxOf (L2.CX P w) P w K mg base ["_law_found"] "_law_whole" (defScope s__law_whole) f cdv A outer s H E) rfl
    exact ⟨_, (jss_one (js_ret (je_and (je_isi T.b_isinstance T.i_int (je_var 0) (pe_bty T.b_int)) (je_one (je_not (je_isi T.b_isinstance T.i_bool (je_var 0) (pe_bty T.b_bool)))))))⟩
theorem ok__law_floor (T : Txt K mg cl) (d__law_at : DefOk P w K mg base cl 1 2 "_law_at" F__law_at []) {f : Addr} {fd : FuncData} (Fx : FunD K "_law_floor" "_law_floor" (defArgs s__law_floor) (defBody s__law_floor) (defScope s__law_floor) [] [] f fd) :
    FnOk P w K mg base (L2.CX P w) 2 f fd ["_law_script"] (spF K cl 1 F__law_floor) :=
  fn_okD (k := 1) (m := b__law_floor) Fx sc__law_floor rfl rfl fun cdv A outer s H E hr => by
    have tk := takes_of (X := cxOf (L2.CX P w) P w K mg base ["_law_script", "_law_high", "_law_wide"] "_law_floor" (defScope s__law_floor) f cdv A outer s H E) (E := E) rfl rfl rfl rfl
    have hp := passes_of (X := cxOf (L2.CX P w) P w K mg base ["_law_script", "_law_high", "_law_wide"] "_law_floor" (defScope s__law_floor) f cdv A outer s H E) rfl
    exact ⟨_, (jss_cons (js_set (i := 1) sc__law_floor.nd (je_op ro_add je_int (je_op ro_mod (je_call d__law_at hr tk (ja_cons (je_var 0) (ja_cons je_int ja_nil))) je_int))) (jss_cons (js_set (i := 2) sc__law_floor.nd (je_op ro_add je_int (je_op ro_mod (je_call d__law_at hr tk (ja_cons (je_var 0) (ja_cons je_int ja_nil))) (je_cb (call_min2 rfl) sc_min2 T.b_min (ja_cons je_int (ja_cons (je_op ro_fdiv je_int (je_var 1)) ja_nil)))))) (jss_one (js_ret (je_tup (ja_cons (je_var 1) (ja_cons (je_var 2) (ja_cons (je_op ro_add je_int (je_op ro_mod (je_call d__law_at hr tk (ja_cons (je_var 0) (ja_cons je_int ja_nil))) je_int)) ja_nil))))))))⟩
theorem ok__law_spot (T : Txt K mg cl)  {f : Addr} {fd : FuncData} (Fx : FunD K "_law_spot" "_law_spot" (defArgs s__law_spot) (defBody s__law_spot) (defScope s__law_spot) [] [] f fd) :
    FnOk P w K mg base (L2.CX P w) 1 f fd ["_law_floor_here", "_law_cell", "_law_move"] (spF K cl 3 F__law_spot) :=
  fn_okD (k := 0) (m := b__law_spot) Fx sc__law_spot rfl rfl fun cdv A outer s H E hr => by
    have tk := takes_of (X := cxOf (L2.CX P w) P w K mg base ["_law_floor_here", "_law_cell", "_law_move", "_law_high", "_law_wide", "_law_signs", "_law_row", "_law_column", "_law_turn"] "_law_spot" (defScope s__law_spot) f cdv A outer s H E) (E := E) rfl rfl rfl rfl
    have hp := passes_of (X := cxOf (L2.CX P w) P w K mg base ["_law_floor_here", "_law_cell", "_law_move", "_law_high", "_law_wide", "_law_signs", "_law_row", "_law_column", "_law_turn"] "_law_spot" (defScope s__law_spot) f cdv A outer s H E) rfl
    exact ⟨_, (jss_cons (js_asg (je_var 0) (jg_tup rfl (jgs_cons (i := 3) sc__law_spot.nd (jgs_cons (i := 4) sc__law_spot.nd (jgs_cons (i := 5) sc__law_spot.nd jgs_nil))))) (jss_cons (js_set (i := 6) sc__law_spot.nd (je_op ro_fdiv (je_var 1) (je_var 4))) (jss_cons (js_set (i := 7) sc__law_spot.nd (je_op ro_mod (je_var 1) (je_var 4))) (jss_cons (js_if (jt_cmp rc_gt (je_var 2) je_int) (jss_one (js_set (i := 7) sc__law_spot.nd (je_op ro_sub (je_op ro_sub (je_var 4) je_int) (je_var 7)))) jss_nil) (jss_cons (js_for hp rfl (ji_range1 T.b_range (ja_cons (je_op ro_mod (je_var 2) je_int) ja_nil)) (jg_name (i := 8) sc__law_spot.nd) (jss_cons (js_par (i := 6) (j := 7) rfl sc__law_spot.nd (ja_cons (je_var 7) (ja_cons (je_op ro_sub (je_op ro_sub (je_var 3) je_int) (je_var 6)) ja_nil))) (jss_one (js_par (i := 3) (j := 4) rfl sc__law_spot.nd (ja_cons (je_var 4) (ja_cons (je_var 3) ja_nil)))))) (jss_one (js_ret (je_op ro_add (je_op ro_mul (je_var 6) (je_var 4)) (je_var 7)))))))))⟩
theorem ok__law_ground (T : Txt K mg cl)  {f : Addr} {fd : FuncData} (Fx : FunD K "_law_ground" "_law_ground" (defArgs s__law_ground) (defBody s__law_ground) (defScope s__law_ground) [] [] f fd) :
    FnOk P w K mg base (L2.CX P w) 1 f fd ["_law_floor_here", "_law_move"] (spF K cl 2 F__law_ground) :=
  fn_okD (k := 0) (m := b__law_ground) Fx sc__law_ground rfl rfl fun cdv A outer s H E hr => by
    have tk := takes_of (X := cxOf (L2.CX P w) P w K mg base ["_law_floor_here", "_law_move"] "_law_ground" (defScope s__law_ground) f cdv A outer s H E) (E := E) rfl rfl rfl rfl
    have hp := passes_of (X := cxOf (L2.CX P w) P w K mg base ["_law_floor_here", "_law_move"] "_law_ground" (defScope s__law_ground) f cdv A outer s H E) rfl
    exact ⟨_, (jss_cons (js_if (jt_cmp (rc_eq hr) (je_op ro_mod (je_var 1) je_int) je_int) (jss_one (js_ret (je_tup (ja_cons (je_ix (je_var 0) je_int) (ja_cons (je_ix (je_var 0) je_int) (ja_cons (je_ix (je_var 0) je_int) ja_nil)))))) jss_nil) (jss_one (js_ret (je_var 0))))⟩
theorem ok__law_exchange (T : Txt K mg cl)  {f : Addr} {fd : FuncData} (Fx : FunD K "_law_exchange" "_law_exchange" (defArgs s__law_exchange) (defBody s__law_exchange) (defScope s__law_exchange) [] [] f fd) :
    FnOk P w K mg base (L2.CX P w) 1 f fd ["_law_cell", "_law_many"] (spF K cl 2 F__law_exchange) :=
  fn_okD (k := 0) (m := b__law_exchange) Fx sc__law_exchange rfl rfl fun cdv A outer s H E hr => by
    have tk := takes_of (X := cxOf (L2.CX P w) P w K mg base ["_law_cell", "_law_many", "_law_left", "_law_found", "_law_k"] "_law_exchange" (defScope s__law_exchange) f cdv A outer s H E) (E := E) rfl rfl rfl rfl
    have hp := passes_of (X := cxOf (L2.CX P w) P w K mg base ["_law_cell", "_law_many", "_law_left", "_law_found", "_law_k"] "_law_exchange" (defScope s__law_exchange) f cdv A outer s H E) rfl
    exact ⟨_, (jss_cons (js_set (i := 2) sc__law_exchange.nd (je_listRg2 rfl T.b_list T.b_range je_int (je_op ro_add (je_var 1) je_int))) (jss_cons (js_set (i := 3) sc__law_exchange.nd (je_lst ja_nil)) (jss_cons (js_for hp rfl (ji_range1 T.b_range (ja_cons (je_var 1) ja_nil)) (jg_name (i := 4) sc__law_exchange.nd) (jss_one (js_appendM (je_var 3) (jm_pop (je_var 2) (je_op ro_mod (je_op ro_fdiv (je_var 0) (je_op ro_add (je_op ro_mul je_int (je_var 4)) je_int)) (je_len T.b_len (je_var 2))))))) (jss_one (js_ret (je_var 3))))))⟩
theorem ok__law_bad_list (T : Txt K mg cl)  {f : Addr} {fd : FuncData} (Fx : FunD K "_law_bad_list" "_law_bad_list" (defArgs s__law_bad_list) (defBody s__law_bad_list) (defScope s__law_bad_list) [] [] f fd) :
    FnOk P w K mg base (L2.CX P w) 1 f fd ["_law_signs", "_law_cell"] (spF K cl 2 F__law_bad_list) :=
  fn_okD (k := 0) (m := b__law_bad_list) Fx sc__law_bad_list rfl rfl fun cdv A outer s H E hr => by
    have tk := takes_of (X := cxOf (L2.CX P w) P w K mg base ["_law_signs", "_law_cell", "_law_at_here"] "_law_bad_list" (defScope s__law_bad_list) f cdv A outer s H E) (E := E) rfl rfl rfl rfl
    have hp := passes_of (X := cxOf (L2.CX P w) P w K mg base ["_law_signs", "_law_cell", "_law_at_here"] "_law_bad_list" (defScope s__law_bad_list) f cdv A outer s H E) rfl
    exact ⟨_, (jss_cons (js_set (i := 2) sc__law_bad_list.nd (je_op ro_mod (je_op ro_fdiv (je_var 1) je_int) (je_len T.b_len (je_var 0)))) (jss_cons (js_if (jt_cmp (rc_eq hr) (je_op ro_mod (je_var 1) je_int) je_int) (jss_one (js_ret (je_slice (je_var 0) (jo_some je_int) jo_none))) jss_nil) (jss_cons (js_if (jt_cmp (rc_eq hr) (je_op ro_mod (je_var 1) je_int) je_int) (jss_one (js_ret (je_op ro_add (je_var 0) (je_lst (ja_cons (je_ix (je_var 0) (je_var 2)) ja_nil))))) jss_nil) (jss_cons (js_if (jw_and (jt_cmp (rc_eq hr) (je_op ro_mod (je_var 1) je_int) je_int) (jw_and1 (jt_cmp rc_gt (je_len T.b_len (je_var 0)) je_int))).jt (jss_one (js_ret (je_op ro_add (je_op ro_add (je_slice (je_var 0) jo_none (jo_some (je_var 2))) (je_lst (ja_cons (je_ix (je_var 0) (je_op ro_sub (je_var 2) je_int)) ja_nil))) (je_slice (je_var 0) (jo_some (je_op ro_add (je_var 2) je_int)) jo_none)))) jss_nil) (jss_cons (js_if (jt_cmp (rc_eq hr) (je_op ro_mod (je_var 1) je_int) je_int) (jss_one (js_ret (je_op ro_add (je_op ro_add (je_slice (je_var 0) jo_none (jo_some (je_var 2))) (je_lst (ja_cons je_int ja_nil))) (je_slice (je_var 0) (jo_some (je_op ro_add (je_var 2) je_int)) jo_none)))) jss_nil) (jss_one (js_ret (je_op ro_add (je_op ro_add (je_slice (je_var 0) jo_none (jo_some (je_var 2))) (je_lst (ja_cons (je_op ro_add (je_op ro_add (je_len T.b_len (je_var 0)) je_int) (je_op ro_mod (je_op ro_fdiv (je_var 1) je_int) (je_op ro_pow je_int je_int))) ja_nil))) (je_slice (je_var 0) (jo_some (je_op ro_add (je_var 2) je_int)) jo_none)))))))))⟩
theorem ok__law_refused (T : Txt K mg cl) (d_moved_filling : DefOk P w K mg base cl 3 4 "moved_filling" F_moved_filling []) {f : Addr} {fd : FuncData} (Fx : FunD K "_law_refused" "_law_refused" (defArgs s__law_refused) (defBody s__law_refused) (defScope s__law_refused) [] [] f fd) :
    FnOk P w K mg base (L2.CX P w) 4 f fd ["_law_floor_here", "_law_filling", "_law_move", "_law_signs"] (spF K cl 4 F__law_refused) :=
  fn_okD (k := 3) (m := b__law_refused) Fx sc__law_refused rfl rfl fun cdv A outer s H E hr => by
    have tk := takes_of (X := cxOf (L2.CX P w) P w K mg base ["_law_floor_here", "_law_filling", "_law_move", "_law_signs", "_law_caught", "error", "_law_others"] "_law_refused" (defScope s__law_refused) f cdv A outer s H E) (E := E) rfl rfl rfl rfl
    have hp := passes_of (X := cxOf (L2.CX P w) P w K mg base ["_law_floor_here", "_law_filling", "_law_move", "_law_signs", "_law_caught", "error", "_law_others"] "_law_refused" (defScope s__law_refused) f cdv A outer s H E) rfl
    exact ⟨_, (jss_cons (js_set (i := 4) sc__law_refused.nd je_non) (jss_cons (js_try_keep (i := 5) (j := 4) (ioL lx_ClueError) sc__law_refused.nd (by decide) (names_own T.e_ClueError) T.x_ClueError tk (fun W pn xe tk2 => (jss_one (js_expr (je_call d_moved_filling hr tk2 (ja_cons (je_var 0) (ja_cons (je_var 1) (ja_cons (je_var 2) (ja_cons (je_var 3) ja_nil))))))))) (jss_cons (js_set (i := 6) sc__law_refused.nd (je_lst (ja_cons (je_isi T.b_isinstance T.i_NoFilling (je_var 4) (pe_cls T.e_NoFilling)) (ja_cons (je_isi T.b_isinstance T.i_NoPuzzle (je_var 4) (pe_cls T.e_NoPuzzle)) (ja_cons (je_isi T.b_isinstance T.i_TooMany (je_var 4) (pe_cls T.e_TooMany)) ja_nil))))) (jss_one (js_ret (je_and (je_isi T.b_isinstance T.i_NoMove (je_var 4) (pe_cls T.e_NoMove)) (je_and (je_isi T.b_isinstance T.i_ValueError (je_var 4) (pe_bty T.b_ValueError)) (je_one (je_not (je_cb (cr_any rfl) sc_any T.b_any (ja_cons (je_var 6) ja_nil)))))))))))⟩
theorem ok__law_due (T : Txt K mg cl) (d__law_spot : DefOk P w K mg base cl 1 3 "_law_spot" F__law_spot []) {f : Addr} {fd : FuncData} (Fx : FunD K "_law_due" "_law_due" (defArgs s__law_due) (defBody s__law_due) (defScope s__law_due) [] [] f fd) :
    FnOk P w K mg base (L2.CX P w) 2 f fd ["_law_floor_here", "_law_filling", "_law_move", "_law_signs"] (spF K cl 4 F__law_due) :=
  fn_okD (k := 1) (m := b__law_due) Fx sc__law_due rfl rfl fun cdv A outer s H E hr => by
    have tk := takes_of (X := cxOf (L2.CX P w) P w K mg base ["_law_floor_here", "_law_filling", "_law_move", "_law_signs", "_law_due_here", "_law_cell", "_law_sign"] "_law_due" (defScope s__law_due) f cdv A outer s H E) (E := E) rfl rfl rfl rfl
    have hp := passes_of (X := cxOf (L2.CX P w) P w K mg base ["_law_floor_here", "_law_filling", "_law_move", "_law_signs", "_law_due_here", "_law_cell", "_law_sign"] "_law_due" (defScope s__law_due) f cdv A outer s H E) rfl
    exact ⟨_, (jss_cons (js_set (i := 4) sc__law_due.nd (je_ct call_list_of sc_list T.b_list (ja_cons (je_var 1) ja_nil))) (jss_cons (js_for hp rfl (ji_enum T.b_enumerate (ja_cons (je_var 1) ja_nil)) (jg_tup rfl (jgs_cons (i := 5) sc__law_due.nd (jgs_cons (i := 6) sc__law_due.nd jgs_nil))) (jss_one (js_setix (je_ix (je_op ro_add (je_lst (ja_cons je_int ja_nil)) (je_var 3)) (je_var 6)) (je_var 4) (je_call d__law_spot hr tk (ja_cons (je_var 0) (ja_cons (je_var 5) (ja_cons (je_var 2) ja_nil))))))) (jss_one (js_ret (je_var 4)))))⟩
theorem ok__law_are (T : Txt K mg cl) (d__law_whole : DefOk P w K mg base cl 1 1 "_law_whole" F__law_whole []) {f : Addr} {fd : FuncData} (Fx : FunD K "_law_are" "_law_are" (defArgs s__law_are) (defBody s__law_are) (defScope s__law_are) [] [] f fd) :
    FnOk P w K mg base (L2.CX P w) 2 f fd ["_law_found", "_law_due_here"] (spF K cl 2 F__law_are) :=
  fn_okD (k := 1) (m := b__law_are) Fx sc__law_are rfl rfl fun cdv A outer s H E hr => by
    have tk := takes_of (X := cxOf (L2.CX P w) P w K mg base ["_law_found", "_law_due_here", "_law_sign"] "_law_are" (defScope s__law_are) f cdv A outer s H E) (E := E) rfl rfl rfl rfl
    have hp := passes_of (X := cxOf (L2.CX P w) P w K mg base ["_law_found", "_law_due_here", "_law_sign"] "_law_are" (defScope s__law_are) f cdv A outer s H E) rfl
    exact ⟨_, (jss_cons (js_if (jw_or (jt_not (jt_val (je_isi T.b_isinstance T.i_list (je_var 0) (pe_bty T.b_list)))) (jw_or1 (jt_cmp (rc_ne hr) (je_var 0) (je_var 1)))).jt (jss_one (js_ret je_bl)) jss_nil) (jss_one (js_ret (je_cmp (rc_eq hr) (je_len T.b_len (je_lc [("_law_sign", 2)] rfl sc__law_are.nd (ji_of (je_var 0)) (blkOk_by (own := [("_law_sign", 2)]) (N := ["_law_found", "_law_due_here", "_law_sign"]) (sc := defScope s__law_are) (by decide +kernel)) (fun _ _ _ _ _ => (jg_name (i := 2) sc__law_are.nd)) (own_name (by decide)) (fun _ _ _ _ _ => jp_one (jt_val (je_call d__law_whole hr takes0 (ja_cons (je_var 2) ja_nil)))) (fun _ _ _ _ _ => (je_var 2)))) (je_len T.b_len (je_var 1))))))⟩
theorem ok_law (T : Txt K mg cl) (d__law_are : DefOk P w K mg base cl 2 2 "_law_are" F__law_are []) (d__law_at : DefOk P w K mg base cl 1 2 "_law_at" F__law_at []) (d__law_bad_list : DefOk P w K mg base cl 1 2 "_law_bad_list" F__law_bad_list []) (d__law_due : DefOk P w K mg base cl 2 4 "_law_due" F__law_due []) (d__law_exchange : DefOk P w K mg base cl 1 2 "_law_exchange" F__law_exchange []) (d__law_floor : DefOk P w K mg base cl 2 1 "_law_floor" F__law_floor []) (d__law_refused : DefOk P w K mg base cl 4 4 "_law_refused" F__law_refused []) (d_moved_filling : DefOk P w K mg base cl 3 4 "moved_filling" F_moved_filling []) (d1_moved_filling : DefOk P w K mg base cl 3 4 "moved_filling" F_moved_filling [.non]) (d_moved_floor : DefOk P w K mg base cl 2 2 "moved_floor" F_moved_floor []) {f : Addr} {fd : FuncData} (Fx : FunD K "law" "law" (defArgs s_law) (defBody s_law) (defScope s_law) [] [] f fd) :
    FnOk P w K mg base (L2.CX P w) 5 f fd ["_law_script"] (spF K cl 1 F_law) :=
  fn_okD (k := 4) (m := b_law) Fx sc_law rfl rfl fun cdv A outer s H E hr => by
    have tk := takes_of (X := cxOf (L2.CX P w) P w K mg base ["_law_script", "_law_floor_here", "_law_filling", "_law_k", "_law_move", "_law_back", "_law_plain_signs", "_law_signs", "_law_due_here", "_law_handed", "_law_found", "_law_there", "_law_turned_signs", "_law_sign", "_law_odd"] "law" (defScope s_law) f cdv A outer s H E) (E := E) rfl rfl rfl rfl
    have hp := passes_of (X := cxOf (L2.CX P w) P w K mg base ["_law_script", "_law_floor_here", "_law_filling", "_law_k", "_law_move", "_law_back", "_law_plain_signs", "_law_signs", "_law_due_here", "_law_handed", "_law_found", "_law_there", "_law_turned_signs", "_law_sign", "_law_odd"] "law" (defScope s_law) f cdv A outer s H E) rfl
    exact ⟨_, (jss_cons (js_set (i := 1) sc_law.nd (je_call d__law_floor hr tk (ja_cons (je_var 0) ja_nil))) (jss_cons (js_setLc (i := 2) [("_law_k", 3)] rfl sc_law.nd (ji_range1 T.b_range (ja_cons (je_op ro_mul (je_ix (je_var 1) je_int) (je_ix (je_var 1) je_int)) ja_nil)) (blkOk_by (own := [("_law_k", 3)]) (N := ["_law_script", "_law_floor_here", "_law_filling", "_law_k", "_law_move", "_law_back", "_law_plain_signs", "_law_signs", "_law_due_here", "_law_handed", "_law_found", "_law_there", "_law_turned_signs", "_law_sign", "_law_odd"]) (sc := defScope s_law) (by decide +kernel)) (fun _ _ _ _ _ => (jg_name (i := 3) sc_law.nd)) (own_name (by decide)) (fun _ _ _ _ _ => jp_nil) (fun _ _ _ _ _ => (je_op ro_mod (je_call d__law_at hr takes0 (ja_cons (je_var 0) (ja_cons (je_op ro_add je_int (je_var 3)) ja_nil))) (je_op ro_add (je_ix (je_var 1) je_int) je_int))) (sw_true rfl rfl rfl (by decide +kernel))) (jss_cons (js_set (i := 4) sc_law.nd (je_op ro_mod (je_call d__law_at hr tk (ja_cons (je_var 0) (ja_cons je_int ja_nil))) je_int)) (jss_cons (js_set (i := 5) sc_law.nd (je_ix (je_lst (ja_cons je_int (ja_cons je_int (ja_cons je_int (ja_cons je_int (ja_cons je_int (ja_cons je_int (ja_cons je_int (ja_cons je_int ja_nil))))))))) (je_var 4))) (jss_cons (js_set (i := 6) sc_law.nd (je_listRg2 rfl T.b_list T.b_range je_int (je_op ro_add (je_ix (je_var 1) je_int) je_int))) (jss_cons (js_set (i := 7) sc_law.nd (je_call d__law_exchange hr tk (ja_cons (je_call d__law_at hr tk (ja_cons (je_var 0) (ja_cons je_int ja_nil))) (ja_cons (je_ix (je_var 1) je_int) ja_nil)))) (jss_cons (js_if (jt_not (jt_val (je_call d__law_are hr tk (ja_cons (je_call d1_moved_filling hr tk (ja_cons (je_var 1) (ja_cons (je_ct call_list_of sc_list T.b_list (ja_cons (je_var 2) ja_nil)) (ja_cons (je_var 4) ja_nil)))) (ja_cons (je_call d__law_due hr tk (ja_cons (je_var 1) (ja_cons (je_var 2) (ja_cons (je_var 4) (ja_cons (je_var 6) ja_nil))))) ja_nil))))) (jss_one (js_ret je_bl)) jss_nil) (jss_cons (js_if (jt_not (jt_val (je_call d__law_are hr tk (ja_cons (je_call d_moved_filling hr tk (ja_cons (je_var 1) (ja_cons (je_ct call_list_of sc_list T.b_list (ja_cons (je_var 2) ja_nil)) (ja_cons (je_var 4) (ja_cons je_non ja_nil))))) (ja_cons (je_call d__law_due hr tk (ja_cons (je_var 1) (ja_cons (je_var 2) (ja_cons (je_var 4) (ja_cons (je_var 6) ja_nil))))) ja_nil))))) (jss_one (js_ret je_bl)) jss_nil) (jss_cons (js_set (i := 8) sc_law.nd (je_call d__law_due hr tk (ja_cons (je_var 1) (ja_cons (je_var 2) (ja_cons (je_var 4) (ja_cons (je_var 7) ja_nil)))))) (jss_cons (js_set (i := 9) sc_law.nd (je_lst (ja_cons (je_ct call_list_of sc_list T.b_list (ja_cons (je_var 2) ja_nil)) (ja_cons (je_ct call_list_of sc_list T.b_list (ja_cons (je_var 7) ja_nil)) ja_nil)))) (jss_cons (js_set (i := 10) sc_law.nd (je_call d_moved_filling hr tk (ja_cons (je_var 1) (ja_cons (je_ix (je_var 9) je_int) (ja_cons (je_var 4) (ja_cons (je_ix (je_var 9) je_int) ja_nil)))))) (jss_cons (js_if (jw_or (jt_not (jt_val (je_call d__law_are hr tk (ja_cons (je_var 10) (ja_cons (je_var 8) ja_nil))))) (jw_or1 (jt_cmp (rc_ne hr) (je_var 9) (je_lst (ja_cons (je_var 2) (ja_cons (je_var 7) ja_nil)))))).jt (jss_one (js_ret je_bl)) jss_nil) (jss_cons (js_set (i := 11) sc_law.nd (je_call d_moved_floor hr tk (ja_cons (je_var 1) (ja_cons (je_var 4) ja_nil)))) (jss_cons (js_setLc (i := 12) [("_law_sign", 13)] rfl sc_law.nd (ji_of (je_var 6)) (blkOk_by (own := [("_law_sign", 13)]) (N := ["_law_script", "_law_floor_here", "_law_filling", "_law_k", "_law_move", "_law_back", "_law_plain_signs", "_law_signs", "_law_due_here", "_law_handed", "_law_found", "_law_there", "_law_turned_signs", "_law_sign", "_law_odd"]) (sc := defScope s_law) (by decide +kernel)) (fun _ _ _ _ _ => (jg_name (i := 13) sc_law.nd)) (own_name (by decide)) (fun _ _ _ _ _ => jp_nil) (fun _ _ _ _ _ => (je_op ro_add (je_index (je_var 7) (je_var 13)) je_int)) (sw_true rfl rfl rfl (by decide +kernel))) (jss_cons (js_if (jt_not (jt_val (je_call d__law_are hr tk (ja_cons (je_call d_moved_filling hr tk (ja_cons (je_var 11) (ja_cons (je_var 10) (ja_cons (je_var 5) (ja_cons (je_var 12) ja_nil))))) (ja_cons (je_var 2) ja_nil))))) (jss_one (js_ret je_bl)) jss_nil) (jss_cons (js_if (jt_not (jt_val (je_call d__law_refused hr tk (ja_cons (je_var 1) (ja_cons (je_ix (je_var 9) je_int) (ja_cons (je_var 4) (ja_cons (je_call d__law_bad_list hr tk (ja_cons (je_var 7) (ja_cons (je_call d__law_at hr tk (ja_cons (je_var 0) (ja_cons je_int ja_nil))) ja_nil))) ja_nil))))))) (jss_one (js_ret je_bl)) jss_nil) (jss_cons (js_set (i := 14) sc_law.nd (je_ix (je_lst (ja_cons (je_neg je_int) (ja_cons je_int (ja_cons (je_neg je_int) (ja_cons (je_op ro_add (je_op ro_pow je_int je_int) (je_var 4)) ja_nil))))) (je_op ro_mod (je_call d__law_at hr tk (ja_cons (je_var 0) (ja_cons je_int ja_nil))) je_int))) (jss_cons (js_if (jw_or (jt_not (jt_val (je_call d__law_refused hr tk (ja_cons (je_var 1) (ja_cons (je_ix (je_var 9) je_int) (ja_cons (je_var 14) (ja_cons je_non ja_nil))))))) (jw_or1 (jt_not (jt_val (je_call d__law_refused hr tk (ja_cons (je_var 1) (ja_cons (je_ix (je_var 9) je_int) (ja_cons (je_var 14) (ja_cons (je_var 7) ja_nil))))))))).jt (jss_one (js_ret je_bl)) jss_nil) (jss_cons (js_clear (je_var 10)) (jss_cons (js_clear (je_ix (je_var 9) je_int)) (jss_one (js_ret (je_call d__law_are hr tk (ja_cons (je_call d_moved_filling hr tk (ja_cons (je_var 1) (ja_cons (je_ix (je_var 9) je_int) (ja_cons (je_var 4) (ja_cons (je_ct call_list_of sc_list T.b_list (ja_cons (je_var 7) ja_nil)) ja_nil))))) (ja_cons (je_var 8) ja_nil)))))))))))))))))))))))))⟩
end
end L66
end

section
set_option Elab.async false
set_option linter.all false
set_option maxRecDepth 100000
set_option maxHeartbeats 4000000
set_option autoImplicit false
/-! Pa_k66: what is finite: the floors, the moves, the cells. -/
namespace L66
open PySem Dv

def intsB : List OD → List Int → Bool
  | [], [] => true
  | .sh (.int i) :: ys, x :: xs => decide (i = x) && intsB ys xs
  | _, _ => false
theorem intsB_ok : ∀ {ys : List OD} {xs : List Int}, intsB ys xs = true → ys = xs.map fun i => .sh (.int i)
  | [], [], _ => rfl
  | .sh (.int i) :: ys, x :: xs, h => by
    rw [intsB, Bool.and_eq_true, decide_eq_true_eq] at h
    rw [List.map_cons, h.1, intsB_ok h.2]
def outInts (o : Out) (xs : List Int) : Bool := match o with
  | .ok (.ls ys) => intsB ys xs
  | _ => false
theorem outInts_ok {o : Out} {xs : List Int} (h : outInts o xs = true) : o = .ok (.ls (xs.map fun i => .sh (.int i))) := by
  unfold outInts at h
  split at h
  · rw [intsB_ok h]
  · cases h
def outInt (o : Out) (x : Int) : Bool := match o with
  | .ok (.sh (.int i)) => decide (i = x)
  | _ => false
theorem outInt_ok {o : Out} {x : Int} (h : outInt o x = true) : o = .ok (.sh (.int x)) := by
  unfold outInt at h
  split at h
  · rw [of_decide_eq_true h]
  · cases h
abbrev flD (h w s : Int) : D := .tup [.int h, .int w, .int s]
/-- where a cell goes -/
def sp (h w mv c : Int) : Int :=
  let r := c / w
  let k := if 4 ≤ mv then w - 1 - c % w else c % w
  if mv % 4 = 0 then r * w + k else if mv % 4 = 1 then k * h + (h - 1 - r) else if mv % 4 = 2 then (h - 1 - r) * w + (w - 1 - k) else (w - 1 - k) * h + (h - 1 - (h - 1 - r))
def back (mv : Int) : Int := if mv = 1 then 3 else if mv = 3 then 1 else mv
def high2 (h w mv : Int) : Int := if mv % 2 = 1 then w else h
def wide2 (h w mv : Int) : Int := if mv % 2 = 1 then h else w
def spB (h w mv c : Int) : Bool := decide (0 ≤ sp h w mv c) && decide (sp h w mv c < h * w) && decide (sp (high2 h w mv) (wide2 h w mv) (back mv) (sp h w mv c) = c)
def allB : Bool := (List.range 6).all fun h => (List.range 6).all fun w => (List.range 8).all fun mv => (List.range ((h + 1) * (w + 1))).all fun c => spB ((h + 1 : Nat) : Int) ((w + 1 : Nat) : Int) (mv : Int) (c : Int)
theorem all_true : allB = true := by decide +kernel
theorem sp_ok {h w mv c : Int} (h1 : 1 ≤ h) (h2 : h ≤ 6) (w1 : 1 ≤ w) (w2 : w ≤ 6) (m1 : 0 ≤ mv) (m2 : mv < 8) (c0 : 0 ≤ c) (c1 : c < h * w) : 0 ≤ sp h w mv c ∧ sp h w mv c < h * w ∧ sp (high2 h w mv) (wide2 h w mv) (back mv) (sp h w mv c) = c := by
  have a := all_true
  unfold allB at a
  simp only [List.all_eq_true, List.mem_range] at a
  have eh : ((h.toNat - 1 + 1 : Nat) : Int) = h := by omega
  have ew : ((w.toNat - 1 + 1 : Nat) : Int) = w := by omega
  have em : (mv.toNat : Int) = mv := by omega
  have ec : (c.toNat : Int) = c := by omega
  have hc : c.toNat < (h.toNat - 1 + 1) * (w.toNat - 1 + 1) := by
    have : ((c.toNat : Nat) : Int) < (((h.toNat - 1 + 1) * (w.toNat - 1 + 1) : Nat) : Int) := by
      rw [Int.natCast_mul, eh, ew, ec]; exact c1
    exact Int.ofNat_lt.mp this
  have b := a (h.toNat - 1) (by omega) (w.toNat - 1) (by omega) mv.toNat (by omega) c.toNat hc
  rw [eh, ew, em, ec] at b
  unfold spB at b
  simp only [Bool.and_eq_true, decide_eq_true_eq] at b
  exact ⟨b.1.1, b.1.2, b.2⟩
end L66
end

section
set_option Elab.async false
set_option linter.all false
set_option maxRecDepth 100000
set_option maxHeartbeats 4000000
set_option autoImplicit false
/-! Pb_k66: what the small defs give. -/
namespace L66
open PySem Dv L2

theorem mulOk_l {i j : Int} (a : -100000000 ≤ i) (b : i ≤ 100000000) : mulOk i j = true := by
  unfold mulOk
  have h1 : decide (-(2 : Int) ^ 64 < i) = true := decide_eq_true (by omega)
  have h2 : decide (i < (2 : Int) ^ 64) = true := decide_eq_true (by omega)
  rw [h1, h2]; rfl
theorem mulOk_r {i j : Int} (a : -100000000 ≤ j) (b : j ≤ 100000000) : mulOk i j = true := by
  unfold mulOk
  have h1 : decide (-(2 : Int) ^ 64 < j) = true := decide_eq_true (by omega)
  have h2 : decide (j < (2 : Int) ^ 64) = true := decide_eq_true (by omega)
  rw [h1, h2]; simp
theorem p_many_cells (h w s : Int) (h1 : 1 ≤ h) (h2 : h ≤ 6) : F_many_cells [flD h w s] = .ok (.sh (.int (h * w))) := by
  simp [F_many_cells, b_many_cells, runF, s_ret, m_op, m_var, o_ix, o_flat, g_mul, atI, ixN, mulOk_l (i := h) (j := w) (by omega) (by omega)]
theorem p_spot_of (h w s c : Int) (hw : 1 ≤ w) (hw2 : w ≤ 6) : F_spot_of [flD h w s, .int c] = .ok (.sh (.tup [.int (c / w), .int (c % w)])) := by
  have a1 : (0 : Int) < w := by omega
  have a2 : w < 1073741824 := by omega
  simp [F_spot_of, b_spot_of, runF, s_ret, m_op, m_var, o_ix, o_flat, g_mul, atI, ixN, m_tup, m_args, m_args0, g_fdiv, g_mod, owns, szOk, a1, a2]
theorem p_look (mv : Int) (h1 : 0 ≤ mv) (h2 : mv < 8) : F_look_at_move [.int mv] = .ok (.sh .non) := by
  have a : mv ≤ 7 := by omega
  simp [F_look_at_move, b_look_at_move, runF, s_if, t_not, t_val, m_chain, m_var, pLe, h1, a, s_nx]
theorem p_look_x (mv : Int) (h : ¬ (0 ≤ mv ∧ mv < 8)) : F_look_at_move [.int mv] = .exc "NoMove" := by
  by_cases a : 0 ≤ mv
  · have b : ¬ mv ≤ 7 := by omega
    simp [F_look_at_move, b_look_at_move, runF, s_if, t_not, t_val, m_chain, m_var, pLe, a, b, s_raise]
  · simp [F_look_at_move, b_look_at_move, runF, s_if, t_not, t_val, m_chain, m_var, pLe, a, s_raise]
theorem p_turned (h r k : Int) : F_turned_spot [.int h, .tup [.int r, .int k]] = .ok (.sh (.tup [.int k, .int (h - 1 - r)])) := by
  simp [F_turned_spot, b_turned_spot, runF, s_ret, m_op, m_var, o_ix, o_flat, atI, ixN, m_tup, m_args, m_args0, g_sub, owns, szOk]
theorem p_moved_floor (h w s mv : Int) (h1 : 0 ≤ mv) (h2 : mv < 8) : F_moved_floor [flD h w s, .int mv] = .ok (.sh (flD (high2 h w mv) (wide2 h w mv) s)) := by
  by_cases c : mv % 2 = 1
  · simp [F_moved_floor, b_moved_floor, runF, seqE, s_expr, m_callN, runCall, m_args, m_args0, m_var, owns, p_look mv h1 h2, OD.own, D.flat, s_asg, g_tup, g_list, s_if, t_val, m_op, o_flat, g_mod, s_ret, m_tup, szOk, high2, wide2, c, s_nx]
  · simp [F_moved_floor, b_moved_floor, runF, seqE, s_expr, m_callN, runCall, m_args, m_args0, m_var, owns, p_look mv h1 h2, OD.own, D.flat, s_asg, g_tup, g_list, s_if, t_val, m_op, o_flat, g_mod, s_ret, m_tup, szOk, high2, wide2, c, s_nx]
def bodyMC : M Fl := (s_seq (s_asg (m_var 0) (g_tup [g_name 4, g_name 5, g_name 6]))
   (s_seq (s_asg (m_callN 2 F_spot_of [] (m_args (m_var 0) (m_args (m_var 3) m_args0))) (g_name 7))
   (s_seq (s_if (t_val (m_op (o_flat g_ge) (m_var 1) (m_c (.int 4))))
    (s_asg (m_tup (m_args (m_op o_ix (m_var 7) (m_c (.int 0))) (m_args (m_op (o_flat g_sub) (m_op (o_flat g_sub) (m_var 5) (m_c (.int 1))) (m_op o_ix (m_var 7) (m_c (.int 1)))) m_args0))) (g_name 7))
    s_nx)
   (s_seq (s_for (i_range1 (m_args (m_op (o_flat g_mod) (m_var 1) (m_c (.int 4))) m_args0)) (g_name 8)
    (s_seq (s_asg (m_callN 2 F_turned_spot [] (m_args (m_var 4) (m_args (m_var 7) m_args0))) (g_name 7))
   (s_par 4 5 (m_args (m_var 5) (m_args (m_var 4) m_args0)))))
   (s_mut (m_var 2) (m_args (m_op o_add (m_op (o_flat g_mul) (m_op o_ix (m_var 7) (m_c (.int 0))) (m_var 5)) (m_op o_ix (m_var 7) (m_c (.int 1)))) m_args0) f_append)))))
theorem p_body_mc (h w s mv c : Int) (fs : List OD) (x4 x5 x6 x7 x8 : Option OD) (h1 : 1 ≤ h) (h2 : h ≤ 6) (w1 : 1 ≤ w) (w2 : w ≤ 6) (m1 : 0 ≤ mv) (m2 : mv < 8) (c0 : 0 ≤ c) (c1 : c < h * w) (hl : fs.length < 16777216) :
    ∃ y4 y5 y6 y7 y8, bodyMC [some (.sh (flD h w s)), some (.sh (.int mv)), some (.ls fs), some (.sh (.int c)), x4, x5, x6, x7, x8] = .ok .nx [some (.sh (flD h w s)), some (.sh (.int mv)), some (.ls (fs ++ [.sh (.int (sp h w mv c))])), some (.sh (.int c)), y4, y5, y6, y7, y8] := by
  have mw : ∀ a : Int, mulOk a w = true := fun a => mulOk_r (by omega) (by omega)
  have mh : ∀ a : Int, mulOk a h = true := fun a => mulOk_r (by omega) (by omega)
  have hcm : mv = 0 ∨ mv = 1 ∨ mv = 2 ∨ mv = 3 ∨ mv = 4 ∨ mv = 5 ∨ mv = 6 ∨ mv = 7 := by omega
  have d0 : 0 ≤ c / w := Int.ediv_nonneg c0 (by omega)
  have d1 : c / w < h := Int.ediv_lt_of_lt_mul (by omega) c1
  have e0 : 0 ≤ c % w := Int.emod_nonneg _ (by omega)
  have e1 : c % w < w := Int.emod_lt_of_pos _ (by omega)
  have r0 : rangeD 0 0 = [] := rfl
  have r1 : rangeD 0 1 = [.int 0] := rfl
  have r2 : rangeD 0 2 = [.int 0, .int 1] := rfl
  have r3 : rangeD 0 3 = [.int 0, .int 1, .int 2] := rfl
  rcases hcm with rfl | rfl | rfl | rfl | rfl | rfl | rfl | rfl <;>
  simp [bodyMC, seqE, s_asg, m_var, g_tup, g_list, m_callN, runCall, m_args, m_args0, owns, p_spot_of h w s c w1 w2, p_turned, OD.own, D.flat, s_if, t_val, m_op, o_flat, g_ge, s_nx, s_for, i_range1, g_mod, rngOk, r0, r1, r2, r3, forL_cons, s_par, m_tup, szOk, s_mut, lsAt, Op.at?, o_ix, atI, ixN, g_mul, g_sub, mw, mh, o_add, g_add, f_append, hl, Dv.putAt, OD.setAt, sp]
/-- the cells of a floor, moved -/
def cells (h w mv : Int) : List Int := (List.range (h * w).toNat).map fun (k : Nat) => sp h w mv (0 + (k : Int))
theorem mc_loop (h w s mv : Int) (h1 : 1 ≤ h) (h2 : h ≤ 6) (w1 : 1 ≤ w) (w2 : w ≤ 6) (m1 : 0 ≤ mv) (m2 : mv < 8) : ∀ (cs : List Int) (fs : List Int) (x3 x4 x5 x6 x7 x8 : Option OD), (∀ c ∈ cs, 0 ≤ c ∧ c < h * w) → fs.length + cs.length < 16777216 →
    ∃ y3 y4 y5 y6 y7 y8, forL (g_name 3) bodyMC (cs.map D.int) [some (.sh (flD h w s)), some (.sh (.int mv)), some (.ls ((fs.map D.int).map OD.sh)), x3, x4, x5, x6, x7, x8] = .ok .nx [some (.sh (flD h w s)), some (.sh (.int mv)), some (.ls (((fs ++ cs.map (sp h w mv)).map D.int).map OD.sh)), y3, y4, y5, y6, y7, y8]
  | [], fs, x3, x4, x5, x6, x7, x8, _, _ => ⟨x3, x4, x5, x6, x7, x8, by simp⟩
  | c :: cs, fs, x3, x4, x5, x6, x7, x8, hc, hl => by
    have c0 := hc c List.mem_cons_self
    obtain ⟨y4, y5, y6, y7, y8, e⟩ := p_body_mc h w s mv c ((fs.map D.int).map OD.sh) x4 x5 x6 x7 x8 h1 h2 w1 w2 m1 m2 c0.1 c0.2 (by simp at hl ⊢; omega)
    have ih := mc_loop h w s mv h1 h2 w1 w2 m1 m2 cs (fs ++ [sp h w mv c]) (some (.sh (.int c))) y4 y5 y6 y7 y8 (fun x hx => hc x (List.mem_cons_of_mem _ hx)) (by simp at hl ⊢; omega)
    have e2 : (fs.map D.int).map OD.sh ++ [OD.sh (.int (sp h w mv c))] = ((fs ++ [sp h w mv c]).map D.int).map OD.sh := by simp
    rw [e2] at e
    have e3 : fs ++ [sp h w mv c] ++ cs.map (sp h w mv) = fs ++ (c :: cs).map (sp h w mv) := by simp
    rw [e3] at ih
    rw [List.map_cons, forL_cons]
    simp only [g_nameE, List.length_cons, List.length_nil, List.set_cons_succ, List.set_cons_zero]
    simp only [show (3 : Nat) < 0 + 1 + 1 + 1 + 1 + 1 + 1 + 1 + 1 + 1 from by omega, if_true, th_ok, e, goOn_nx]
    exact ih
theorem p_moved_cells (h w s mv : Int) (h1 : 1 ≤ h) (h2 : h ≤ 6) (w1 : 1 ≤ w) (w2 : w ≤ 6) (m1 : 0 ≤ mv) (m2 : mv < 8) : F_moved_cells [flD h w s, .int mv] = .ok (.ls (((cells h w mv).map D.int).map OD.sh)) := by
  have hw0 : 0 ≤ h * w := Int.mul_nonneg (by omega) (by omega)
  have hw1 : h * w ≤ 36 := by
    have : h * w ≤ 6 * 6 := Int.mul_le_mul h2 w2 (by omega) (by omega)
    omega
  have er : rangeD 0 (h * w) = ((List.range (h * w).toNat).map fun (k : Nat) => (0 + (k : Int))).map D.int := by
    unfold rangeD
    rw [List.map_map, Int.sub_zero]
    rfl
  obtain ⟨y3, y4, y5, y6, y7, y8, e⟩ := mc_loop h w s mv h1 h2 w1 w2 m1 m2 ((List.range (h * w).toNat).map fun (k : Nat) => (0 + (k : Int))) [] none none none none none none (by
    intro c hc
    obtain ⟨k, hk, rfl⟩ := List.mem_map.mp hc
    have := List.mem_range.mp hk
    omega) (by simp; omega)
  have r1 : -(4611686018427387904 : Int) ≤ h * w := by omega
  have r2 : h * w < 4611686018427387904 := by omega
  have go : b_moved_cells [some (.sh (flD h w s)), some (.sh (.int mv)), none, none, none, none, none, none, none] = (forL (g_name 3) bodyMC (rangeD 0 (h * w)) [some (.sh (flD h w s)), some (.sh (.int mv)), some (.ls (([] : List Int).map D.int |>.map OD.sh)), none, none, none, none, none, none]).th fun f => match f with | .nx => s_ret (m_var 2) | f => pure f := by
    simp only [b_moved_cells]
    simp [seqE, s_expr, m_callN, runCall, m_args, m_args0, m_var, owns, p_look mv m1 m2, p_many_cells h w s h1 h2, OD.own, OD.owns, D.flat, s_asg, m_lst, szOk, s_for, i_range1, rngOk, r1, r2]
    rfl
  unfold F_moved_cells runF
  show (match b_moved_cells [some (.sh (flD h w s)), some (.sh (.int mv)), none, none, none, none, none, none, none] with
    | .ok (.rt od) _ => Out.ok od
    | .ok .nx _ => .ok (.sh .non)
    | .exc c _ => .exc c
    | _ => .stuck) = _
  rw [go, er, e]
  have ec : ((List.range (h * w).toNat).map (fun (k : Nat) => (0 + (k : Int)))).map (sp h w mv) = cells h w mv := by
    unfold cells
    rw [List.map_map]
    rfl
  simp only [List.nil_append, ec]
  simp [s_ret, m_var, give]
end L66
end

section
set_option Elab.async false
set_option linter.all false
set_option maxRecDepth 100000
set_option maxHeartbeats 4000000
set_option autoImplicit false
/-! Pc_k66: signs, fillings. -/
namespace L66
open PySem Dv L2

theorem p_spot (h w s mv c : Int) (h1 : 1 ≤ h) (h2 : h ≤ 6) (w1 : 1 ≤ w) (w2 : w ≤ 6) (m1 : 0 ≤ mv) (m2 : mv < 8) : F__law_spot [flD h w s, .int c, .int mv] = .ok (.sh (.int (sp h w mv c))) := by
  have mw : ∀ a : Int, mulOk a w = true := fun a => mulOk_r (by omega) (by omega)
  have mh : ∀ a : Int, mulOk a h = true := fun a => mulOk_r (by omega) (by omega)
  have hcm : mv = 0 ∨ mv = 1 ∨ mv = 2 ∨ mv = 3 ∨ mv = 4 ∨ mv = 5 ∨ mv = 6 ∨ mv = 7 := by omega
  have r0 : rangeD 0 0 = [] := rfl
  have r1 : rangeD 0 1 = [.int 0] := rfl
  have r2 : rangeD 0 2 = [.int 0, .int 1] := rfl
  have r3 : rangeD 0 3 = [.int 0, .int 1, .int 2] := rfl
  have a1 : (0 : Int) < w := by omega
  have a2 : w < 1073741824 := by omega
  rcases hcm with rfl | rfl | rfl | rfl | rfl | rfl | rfl | rfl <;>
  simp [F__law_spot, b__law_spot, runF, seqE, s_asg, m_var, g_tup, g_list, m_args, m_args0, owns, s_if, t_val, m_op, o_flat, g_gt, s_nx, s_for, i_range1, g_mod, g_fdiv, a1, a2, rngOk, r0, r1, r2, r3, forL_cons, s_par, g_mul, g_sub, mw, mh, o_add, g_add, s_ret, sp]
/-- 1, 2 .. s -/
def one (s : Int) : List Int := (List.range s.toNat).map fun (k : Nat) => 1 + (k : Int)
theorem rg_one (s : Int) : rangeD 1 (s + 1) = (one s).map D.int := by
  unfold rangeD one
  rw [List.map_map, show s + 1 - 1 = s from by omega]
  rfl
theorem p_all_signs (h w s : Int) (s1 : 1 ≤ s) (s2 : s ≤ 6) : F_all_signs [flD h w s] = .ok (.ls (((one s).map D.int).map OD.sh)) := by
  have a1 : -(4611686018427387904 : Int) ≤ s + 1 := by omega
  have a2 : s + 1 < 4611686018427387904 := by omega
  have a3 : s ≤ 16777216 := by omega
  simp [F_all_signs, b_all_signs, runF, s_ret, l_range2, m_op, m_var, o_ix, atI, ixN, o_add, o_flat, g_add, rngOk, a1, a2, a3, rg_one, newL]
theorem asInts_map : ∀ xs : List Int, asInts (xs.map D.int) = some xs
  | [] => rfl
  | x :: xs => by rw [List.map_cons, asInts, asInts_map xs]; rfl
theorem ints_own : ∀ xs : List Int, OD.owns ((xs.map D.int).map OD.sh) = true
  | [] => rfl
  | x :: xs => by
    show ((OD.sh (D.int x)).own && OD.owns ((xs.map D.int).map OD.sh)) = true
    rw [ints_own xs]; rfl
theorem ints_own2 (xs : List Int) : OD.own (.ls ((xs.map D.int).map OD.sh)) = true := ints_own xs
theorem p_signs_none (h w s : Int) (s1 : 1 ≤ s) (s2 : s ≤ 6) : F_signs_by [flD h w s, .non] = .ok (.ls (((one s).map D.int).map OD.sh)) := by
  simp [F_signs_by, b_signs_by, runF, seqE, s_if, t_val, m_un, u_flat, u_isN, Dv.isNon, m_var, s_ret, m_callN, runCall, m_args, m_args0, owns, p_all_signs h w s s1 s2, -List.map_map]

theorem p_signs (h w s : Int) (ss : List Int) (s1 : 1 ≤ s) (s2 : s ≤ 6) : F_signs_by [flD h w s, .lst (ss.map D.int)] = if sortI ss = one s then .ok (.ls ((ss.map D.int).map OD.sh)) else .exc "NoMove" := by
  have e2 : newL ((sortI ss).map D.int) = .v (.ls (((sortI ss).map D.int).map OD.sh)) := rfl
  by_cases hs : sortI ss = one s
  · simp [F_signs_by, b_signs_by, runF, seqE, s_if, t_val, m_un, u_flat, u_isN, Dv.isNon, m_var, s_ret, m_callN, runCall, m_args, m_args0, owns, p_all_signs h w s s1 s2, s_nx, m_op, o_flat, m_cb, c_sortI, asInts_map, newL, ints_own2, hs, c_list, -List.map_map]
  · simp [F_signs_by, b_signs_by, runF, seqE, s_if, t_val, m_un, u_flat, u_isN, Dv.isNon, m_var, s_ret, m_callN, runCall, m_args, m_args0, owns, p_all_signs h w s s1 s2, s_nx, m_op, o_flat, m_cb, c_sortI, asInts_map, newL, ints_own2, hs, s_raise, -List.map_map]
/-! ### scattering -/
def scat (W : List (Int × Int)) (b : List Int) : List Int := W.foldl (fun b p => b.set p.1.toNat p.2) b
theorem scat_cons (p : Int × Int) (W : List (Int × Int)) (b : List Int) : scat (p :: W) b = scat W (b.set p.1.toNat p.2) := rfl
theorem scat_len : ∀ (W : List (Int × Int)) (b : List Int), (scat W b).length = b.length
  | [], _ => rfl
  | p :: W, b => by rw [scat_cons, scat_len W, List.length_set]
theorem scat_any : ∀ (W : List (Int × Int)) (a b : List Int), a.length = b.length → (∀ j : Nat, j < a.length → a[j]? = b[j]? ∨ ∃ p ∈ W, p.1.toNat = j) → scat W a = scat W b
  | [], a, b, l, h => by
    show a = b
    apply List.ext_getElem?
    intro j
    by_cases hj : j < a.length
    · rcases h j hj with e | ⟨p, hp, _⟩
      · exact e
      · cases hp
    · rw [List.getElem?_eq_none (by omega), List.getElem?_eq_none (by omega)]
  | p :: W, a, b, l, h => by
    rw [scat_cons, scat_cons]
    refine scat_any W _ _ (by simp [l]) fun j hj => ?_
    rw [List.length_set] at hj
    by_cases e : p.1.toNat = j
    · left
      subst e
      rw [List.getElem?_set_self hj, List.getElem?_set_self (by omega)]
    · rw [List.getElem?_set_ne e, List.getElem?_set_ne e]
      rcases h j hj with q | ⟨r, hr, q⟩
      · exact .inl q
      · rcases List.mem_cons.mp hr with rfl | hr
        · exact absurd q e
        · exact .inr ⟨r, hr, q⟩
theorem scat_get : ∀ (W : List (Int × Int)) (b : List Int) (j : Nat) (v : Int), j < b.length → (∀ p ∈ W, p.1.toNat = j → p.2 = v) → (b[j]? = some v ∨ ∃ p ∈ W, p.1.toNat = j) → (scat W b)[j]? = some v
  | [], b, j, v, hj, _, h => by
    rcases h with h | ⟨p, hp, _⟩
    · exact h
    · cases hp
  | p :: W, b, j, v, hj, hc, h => by
    rw [scat_cons]
    refine scat_get W _ j v (by simpa using hj) (fun q hq e => hc q (List.mem_cons_of_mem _ hq) e) ?_
    by_cases e : p.1.toNat = j
    · left
      subst e
      rw [List.getElem?_set_self hj, hc p List.mem_cons_self rfl]
    · rcases h with h | ⟨q, hq, qe⟩
      · left; rw [List.getElem?_set_ne e]; exact h
      · rcases List.mem_cons.mp hq with rfl | hq
        · exact absurd qe e
        · exact .inr ⟨q, hq, qe⟩
end L66
end

section
set_option Elab.async false
set_option linter.all false
set_option maxRecDepth 100000
set_option maxHeartbeats 4000000
set_option autoImplicit false
/-! Pd_k66: fillings moved. -/
namespace L66
open PySem Dv L2

theorem ixN_in {n : Nat} {i : Int} (a : 0 ≤ i) (b : i < n) : ixN n i = some i.toNat := by
  unfold ixN
  rw [if_pos a, if_pos b]
abbrev lsI (xs : List Int) : OD := .ls ((xs.map D.int).map OD.sh)
theorem mf_lc (a0 a1 a2 a3 a4 a5 a7 : Option OD) : ∀ (ds acc : List D), acc.length + ds.length < 16777216 →
    lcL [6] (g_name 6) t_yes (m_c (.int 0)) ds acc [a0, a1, a2, a3, a4, a5, none, a7] = .ok (acc ++ List.replicate ds.length (.int 0)) [a0, a1, a2, a3, a4, a5, none, a7]
  | [], acc, _ => by simp [lcL]
  | d :: ds, acc, h => by
    have ih := mf_lc a0 a1 a2 a3 a4 a5 a7 ds (acc ++ [.int 0]) (by simp at h ⊢; omega)
    have hl : acc.length < 16777216 := by simp at h; omega
    have ty : ∀ ρ : Dv.Env, t_yes ρ = .ok true ρ := fun _ => rfl
    simp [lcL, noExc, ty, wipeE, hl, ih]
    exact (List.replicate_succ ..).symm
def bodyMF : M Fl := s_setix (m_op o_ix (m_var 4) (m_var 7)) (m_var 5) (m_var 6)
theorem mf_step (a0 a1 a2 a3 x6 x7 : Option OD) (ch b : List Int) (s c : Int) (s0 : 0 ≤ s) (s1 : s < ch.length) (c0 : 0 ≤ c) (c1 : c < b.length) :
    (g_tup [g_name 7, g_name 6] (.sh (.tup [.int s, .int c])) [a0, a1, a2, a3, some (lsI ch), some (lsI b), x6, x7]).th (fun _ ρ1 => bodyMF ρ1) = .ok .nx [a0, a1, a2, a3, some (lsI ch), some (lsI (b.set c.toNat (ch.getD s.toNat 0))), some (.sh (.int c)), some (.sh (.int s))] := by
  have e1 : ixN ch.length s = some s.toNat := ixN_in s0 s1
  have e2 : ixN b.length c = some c.toNat := ixN_in c0 c1
  have hs : s.toNat < ch.length := by omega
  have e3 : ch[s.toNat]? = some (ch.getD s.toNat 0) := by
    rw [List.getD_eq_getElem?_getD, List.getElem?_eq_getElem hs]; rfl
  have e4 : ch[s.toNat] = ch.getD s.toNat 0 := by
    rw [List.getElem?_eq_getElem hs] at e3; exact Option.some.inj e3
  have e5 : ((b.set c.toNat (ch.getD s.toNat 0)).map D.int).map OD.sh = ((b.map D.int).map OD.sh).set c.toNat (.sh (.int (ch.getD s.toNat 0))) := by rw [List.map_set, List.map_set]
  have e6 : ((ch.map D.int).map OD.sh)[s.toNat]? = some (.sh (.int (ch.getD s.toNat 0))) := by rw [List.getElem?_map, List.getElem?_map, e3]; rfl
  unfold lsI
  rw [e5]
  generalize hC : (ch.map D.int).map OD.sh = C at *
  generalize hB : (b.map D.int).map OD.sh = Bb at *
  have l1 : C.length = ch.length := by rw [← hC]; simp
  have l2 : Bb.length = b.length := by rw [← hB]; simp
  simp [bodyMF, g_tup, g_list, s_setix, m_op, m_var, o_ix, Op.at?, l1, l2, e1, e2, e6, lsAt, Dv.putAt, OD.setAt]
theorem mf_loop (a0 a1 a2 a3 : Option OD) (ch : List Int) : ∀ (zs : List (Int × Int)) (b : List Int) (x6 x7 : Option OD), (∀ z ∈ zs, 0 ≤ z.1 ∧ z.1 < ch.length ∧ 0 ≤ z.2 ∧ z.2 < b.length) →
    ∃ y6 y7, forL (g_tup [g_name 7, g_name 6]) bodyMF (zs.map fun z => .tup [.int z.1, .int z.2]) [a0, a1, a2, a3, some (lsI ch), some (lsI b), x6, x7] = .ok .nx [a0, a1, a2, a3, some (lsI ch), some (lsI (scat (zs.map fun z => (z.2, ch.getD z.1.toNat 0)) b)), y6, y7]
  | [], b, x6, x7, _ => ⟨x6, x7, rfl⟩
  | z :: zs, b, x6, x7, h => by
    have hz := h z List.mem_cons_self
    have st := mf_step a0 a1 a2 a3 x6 x7 ch b z.1 z.2 hz.1 hz.2.1 hz.2.2.1 hz.2.2.2
    obtain ⟨y6, y7, ih⟩ := mf_loop a0 a1 a2 a3 ch zs (b.set z.2.toNat (ch.getD z.1.toNat 0)) (some (.sh (.int z.2))) (some (.sh (.int z.1))) (fun q hq => by have := h q (List.mem_cons_of_mem _ hq); simpa using this)
    refine ⟨y6, y7, ?_⟩
    rw [List.map_cons, forL_cons]
    cases e : g_tup [g_name 7, g_name 6] (.sh (.tup [.int z.1, .int z.2])) [a0, a1, a2, a3, some (lsI ch), some (lsI b), x6, x7] with
    | ok u ρ1 =>
      rw [e] at st
      simp only [th_ok] at st ⊢
      rw [st]
      simp only [th_ok, goOn_nx]
      exact ih
    | exc c r => rw [e] at st; cases st
    | stuck => rw [e] at st; cases st
theorem zip_ints (f p : List Int) : (((f.map D.int).zip (p.map D.int)).map fun q => D.tup [q.1, q.2]) = (f.zip p).map fun z => D.tup [.int z.1, .int z.2] := by
  rw [List.zip_map, List.map_map]
  rfl
theorem cells_len (h w mv : Int) : (cells h w mv).length = (h * w).toNat := by simp [cells]
theorem cells_in {h w mv x : Int} (h1 : 1 ≤ h) (h2 : h ≤ 6) (w1 : 1 ≤ w) (w2 : w ≤ 6) (m1 : 0 ≤ mv) (m2 : mv < 8) (hx : x ∈ cells h w mv) : 0 ≤ x ∧ x < h * w := by
  obtain ⟨k, hk, rfl⟩ := List.mem_map.mp hx
  have := List.mem_range.mp hk
  have s := sp_ok (c := 0 + (k : Int)) h1 h2 w1 w2 m1 m2 (by omega) (by omega)
  exact ⟨s.1, s.2.1⟩
/-- what moved_filling gives -/
def moved (h w mv : Int) (ch f : List Int) : List Int := scat ((f.zip (cells h w mv)).map fun z => (z.2, ch.getD z.1.toNat 0)) (List.replicate f.length 0)
theorem p_moved_filling (h w s mv : Int) (h1 : 1 ≤ h) (h2 : h ≤ 6) (w1 : 1 ≤ w) (w2 : w ≤ 6) (m1 : 0 ≤ mv) (m2 : mv < 8) (f ch : List Int) (sg : D) (hs : F_signs_by [flD h w s, sg] = .ok (lsI ch)) (hf : (f.length : Int) = h * w) (hc : ch.length < 1000)
    (hv : ∀ x ∈ f, 0 ≤ x ∧ x < ch.length + 1) : F_moved_filling [flD h w s, .lst (f.map D.int), .int mv, sg] = .ok (lsI (moved h w mv (0 :: ch) f)) := by
  have hw1 : h * w ≤ 36 := by
    have : h * w ≤ 6 * 6 := Int.mul_le_mul h2 w2 (by omega) (by omega)
    omega
  obtain ⟨y6, y7, lp⟩ := mf_loop (some (.sh (flD h w s))) (some (.sh (.lst (f.map D.int)))) (some (.sh (.int mv))) (some (.sh sg)) (0 :: ch) (f.zip (cells h w mv)) (List.replicate f.length 0) none none (by
    intro z hz
    obtain ⟨a, b⟩ := List.of_mem_zip hz
    have u := hv _ a
    have v := cells_in h1 h2 w1 w2 m1 m2 b
    simp
    omega)
  have lc := mf_lc (some (.sh (flD h w s))) (some (.sh (.lst (f.map D.int)))) (some (.sh (.int mv))) (some (.sh sg)) (some (lsI (0 :: ch))) none none (f.map D.int) [] (by simp; omega)
  have hc2 : 1 + ch.length ≤ 16777216 := by omega
  have s1 : (s_asg (m_op o_add (m_lst (m_args (m_c (.int 0)) m_args0)) (m_callN 2 F_signs_by [] (m_args (m_var 0) (m_args (m_var 3) m_args0)))) (g_name 4)) [some (.sh (flD h w s)), some (.sh (.lst (f.map D.int))), some (.sh (.int mv)), some (.sh sg), none, none, none, none] = .ok .nx [some (.sh (flD h w s)), some (.sh (.lst (f.map D.int))), some (.sh (.int mv)), some (.sh sg), some (lsI (0 :: ch)), none, none, none] := by
    simp [s_asg, m_var, m_op, o_add, m_lst, m_args, m_args0, owns, szOk, m_callN, runCall, hs, ints_own2, els, newL, hc2, -List.map_map]
  have s2 : (s_asg (m_lc [6] (i_of (m_var 1)) (g_name 6) t_yes (m_c (.int 0))) (g_name 5)) [some (.sh (flD h w s)), some (.sh (.lst (f.map D.int))), some (.sh (.int mv)), some (.sh sg), some (lsI (0 :: ch)), none, none, none] = .ok .nx [some (.sh (flD h w s)), some (.sh (.lst (f.map D.int))), some (.sh (.int mv)), some (.sh sg), some (lsI (0 :: ch)), some (lsI (List.replicate f.length 0)), none, none] := by
    simp [s_asg, m_var, m_lc, i_of, itemsD, wipeE, saved, restore, newL, lc, -List.map_map]
  have s3 : (i_by f_zip (m_args (m_var 1) (m_args (m_callN 2 F_moved_cells [] (m_args (m_var 0) (m_args (m_var 2) m_args0))) m_args0))) [some (.sh (flD h w s)), some (.sh (.lst (f.map D.int))), some (.sh (.int mv)), some (.sh sg), some (lsI (0 :: ch)), some (lsI (List.replicate f.length 0)), none, none] = .ok ((f.zip (cells h w mv)).map fun z => D.tup [.int z.1, .int z.2]) [some (.sh (flD h w s)), some (.sh (.lst (f.map D.int))), some (.sh (.int mv)), some (.sh sg), some (lsI (0 :: ch)), some (lsI (List.replicate f.length 0)), none, none] := by
    simp [i_by, m_var, m_args, m_args0, owns, m_callN, runCall, p_moved_cells h w s mv h1 h2 w1 w2 m1 m2, ints_own2, f_zip, zip_ints, -List.map_map]
  refine run_rt (ρ1 := [some (.sh (flD h w s)), some (.sh (.lst (f.map D.int))), some (.sh (.int mv)), some (.sh sg), some (lsI (0 :: ch)), none, y6, y7]) ?_
  rw [show ([flD h w s, .lst (f.map D.int), .int mv, sg].map (fun d => some (OD.sh d)) ++ List.replicate (8 - [flD h w s, .lst (f.map D.int), .int mv, sg].length) none) = [some (.sh (flD h w s)), some (.sh (.lst (f.map D.int))), some (.sh (.int mv)), some (.sh sg), none, none, none, none] from rfl]
  unfold b_moved_filling
  rw [seq_ok s1, seq_ok s2]
  refine (seq_ok ((for_ok s3).trans lp)).trans ?_
  simp [s_ret, m_var, give]
  rfl
end L66
end

section
set_option Elab.async false
set_option linter.all false
set_option maxRecDepth 100000
set_option maxHeartbeats 4000000
set_option autoImplicit false
/-! Pe_k66: what is due, and that it is what is moved. -/
namespace L66
open PySem Dv L2

def enI : Nat → List Int → List (Int × Int)
  | _, [] => []
  | k, x :: xs => ((k : Int), x) :: enI (k + 1) xs
theorem enI_get : ∀ (k : Nat) (f : List Int) (i : Nat), (enI k f)[i]? = f[i]?.map fun x => (((k + i : Nat) : Int), x)
  | _, [], i => by simp [enI]
  | k, x :: xs, 0 => by simp [enI]
  | k, x :: xs, i + 1 => by
    rw [enI, List.getElem?_cons_succ, enI_get (k + 1) xs i, List.getElem?_cons_succ]
    congr 1
    funext y
    congr 2
    omega
theorem enumD_ints : ∀ (k : Nat) (f : List Int), enumD k (f.map D.int) = (enI k f).map fun z => D.tup [.int z.1, .int z.2]
  | _, [] => rfl
  | k, x :: xs => by rw [List.map_cons, enumD, enumD_ints (k + 1) xs, enI, List.map_cons]
def bodyDue : M Fl := s_setix (m_op o_ix (m_op o_add (m_lst (m_args (m_c (.int 0)) m_args0)) (m_var 3)) (m_var 6)) (m_var 4) (m_callN 3 F__law_spot [] (m_args (m_var 0) (m_args (m_var 5) (m_args (m_var 2) m_args0))))
theorem due_step (h w s mv : Int) (h1 : 1 ≤ h) (h2 : h ≤ 6) (w1 : 1 ≤ w) (w2 : w ≤ 6) (m1 : 0 ≤ mv) (m2 : mv < 8) (a1 x5 x6 : Option OD) (ss b : List Int) (c x : Int) (hb : (b.length : Int) = h * w) (c0 : 0 ≤ c) (c1 : c < h * w) (x0 : 0 ≤ x) (x1 : x < ss.length + 1) (hs : ss.length < 1000) :
    (g_tup [g_name 5, g_name 6] (.sh (.tup [.int c, .int x])) [some (.sh (flD h w s)), a1, some (.sh (.int mv)), some (.sh (.lst (ss.map D.int))), some (lsI b), x5, x6]).th (fun _ ρ1 => bodyDue ρ1) = .ok .nx [some (.sh (flD h w s)), a1, some (.sh (.int mv)), some (.sh (.lst (ss.map D.int))), some (lsI (b.set (sp h w mv c).toNat ((0 :: ss).getD x.toNat 0))), some (.sh (.int c)), some (.sh (.int x))] := by
  have q := sp_ok h1 h2 w1 w2 m1 m2 c0 c1
  have e1 : ixN (ss.length + 1) x = some x.toNat := ixN_in x0 (by omega)
  have e2 : ixN b.length (sp h w mv c) = some (sp h w mv c).toNat := ixN_in q.1 (by omega)
  have hx : x.toNat < (0 :: ss).length := by simp; omega
  have e3 : (0 :: ss)[x.toNat]? = some ((0 :: ss).getD x.toNat 0) := by
    rw [List.getD_eq_getElem?_getD, List.getElem?_eq_getElem hx]; rfl
  have e5 : ((b.set (sp h w mv c).toNat ((0 :: ss).getD x.toNat 0)).map D.int).map OD.sh = ((b.map D.int).map OD.sh).set (sp h w mv c).toNat (.sh (.int ((0 :: ss).getD x.toNat 0))) := by rw [List.map_set, List.map_set]
  have e6 : (D.int 0 :: ss.map D.int)[x.toNat]? = some (.int ((0 :: ss).getD x.toNat 0)) := by
    rw [show (D.int 0 :: ss.map D.int) = (0 :: ss).map D.int from rfl, List.getElem?_map, e3]; rfl
  have e7 : (1 + ss.length ≤ 16777216) := by omega
  unfold lsI
  rw [e5]
  generalize hB : (b.map D.int).map OD.sh = Bb at *
  have l2 : Bb.length = b.length := by rw [← hB]; simp
  generalize (0 :: ss).getD x.toNat 0 = v at *
  simp [bodyDue, g_tup, g_list, s_setix, m_op, m_var, o_ix, Op.at?, l2, e1, e2, e6, e7, lsAt, Dv.putAt, OD.setAt, o_add, m_lst, m_args, m_args0, owns, szOk, els, newL, atI, m_callN, runCall, p_spot h w s mv c h1 h2 w1 w2 m1 m2, OD.own, D.flat, -List.map_map]
theorem due_loop (h w s mv : Int) (h1 : 1 ≤ h) (h2 : h ≤ 6) (w1 : 1 ≤ w) (w2 : w ≤ 6) (m1 : 0 ≤ mv) (m2 : mv < 8) (a1 : Option OD) (ss : List Int) (hs : ss.length < 1000) : ∀ (zs : List (Int × Int)) (b : List Int) (x5 x6 : Option OD), (b.length : Int) = h * w → (∀ z ∈ zs, 0 ≤ z.1 ∧ z.1 < h * w ∧ 0 ≤ z.2 ∧ z.2 < ss.length + 1) →
    ∃ y5 y6, forL (g_tup [g_name 5, g_name 6]) bodyDue (zs.map fun z => .tup [.int z.1, .int z.2]) [some (.sh (flD h w s)), a1, some (.sh (.int mv)), some (.sh (.lst (ss.map D.int))), some (lsI b), x5, x6] = .ok .nx [some (.sh (flD h w s)), a1, some (.sh (.int mv)), some (.sh (.lst (ss.map D.int))), some (lsI (scat (zs.map fun z => (sp h w mv z.1, (0 :: ss).getD z.2.toNat 0)) b)), y5, y6]
  | [], b, x5, x6, _, _ => ⟨x5, x6, rfl⟩
  | z :: zs, b, x5, x6, hb, hz => by
    have q := hz z List.mem_cons_self
    have st := due_step h w s mv h1 h2 w1 w2 m1 m2 a1 x5 x6 ss b z.1 z.2 hb q.1 q.2.1 q.2.2.1 q.2.2.2 hs
    obtain ⟨y5, y6, ih⟩ := due_loop h w s mv h1 h2 w1 w2 m1 m2 a1 ss hs zs (b.set (sp h w mv z.1).toNat ((0 :: ss).getD z.2.toNat 0)) (some (.sh (.int z.1))) (some (.sh (.int z.2))) (by simpa using hb) (fun q hq => hz q (List.mem_cons_of_mem _ hq))
    refine ⟨y5, y6, ?_⟩
    rw [List.map_cons, forL_cons]
    cases e : g_tup [g_name 5, g_name 6] (.sh (.tup [.int z.1, .int z.2])) [some (.sh (flD h w s)), a1, some (.sh (.int mv)), some (.sh (.lst (ss.map D.int))), some (lsI b), x5, x6] with
    | ok u ρ1 =>
      rw [e] at st
      simp only [th_ok] at st ⊢
      rw [st]
      simp only [th_ok, goOn_nx]
      exact ih
    | exc c r => rw [e] at st; cases st
    | stuck => rw [e] at st; cases st
def dueI (h w mv : Int) (ss f : List Int) : List Int := scat ((enI 0 f).map fun z => (sp h w mv z.1, (0 :: ss).getD z.2.toNat 0)) f
theorem p_due (h w s mv : Int) (h1 : 1 ≤ h) (h2 : h ≤ 6) (w1 : 1 ≤ w) (w2 : w ≤ 6) (m1 : 0 ≤ mv) (m2 : mv < 8) (ss f : List Int) (hs : ss.length < 1000) (hf : (f.length : Int) = h * w) (hv : ∀ x ∈ f, 0 ≤ x ∧ x < ss.length + 1) :
    F__law_due [flD h w s, .lst (f.map D.int), .int mv, .lst (ss.map D.int)] = .ok (lsI (dueI h w mv ss f)) := by
  obtain ⟨y5, y6, lp⟩ := due_loop h w s mv h1 h2 w1 w2 m1 m2 (some (.sh (.lst (f.map D.int)))) ss hs (enI 0 f) f none none hf (by
    intro z hz
    obtain ⟨i, hi⟩ := List.mem_iff_getElem?.mp hz
    rw [enI_get] at hi
    cases e : f[i]? with
    | none => rw [e] at hi; cases hi
    | some x =>
      rw [e] at hi
      have hz2 := Option.some.inj hi
      have hx := hv x (List.mem_of_getElem? e)
      have hl := (List.getElem?_eq_some_iff.mp e).1
      rw [← hz2]
      simp
      omega)
  have s1 : (s_asg (m_cb c_list (m_args (m_var 1) m_args0)) (g_name 4)) [some (.sh (flD h w s)), some (.sh (.lst (f.map D.int))), some (.sh (.int mv)), some (.sh (.lst (ss.map D.int))), none, none, none] = .ok .nx [some (.sh (flD h w s)), some (.sh (.lst (f.map D.int))), some (.sh (.int mv)), some (.sh (.lst (ss.map D.int))), some (lsI f), none, none] := by
    simp [s_asg, m_var, m_cb, c_list, m_args, m_args0, newL]
  have s3 : (i_by f_enum (m_args (m_var 1) m_args0)) [some (.sh (flD h w s)), some (.sh (.lst (f.map D.int))), some (.sh (.int mv)), some (.sh (.lst (ss.map D.int))), some (lsI f), none, none] = .ok ((enI 0 f).map fun z => D.tup [.int z.1, .int z.2]) [some (.sh (flD h w s)), some (.sh (.lst (f.map D.int))), some (.sh (.int mv)), some (.sh (.lst (ss.map D.int))), some (lsI f), none, none] := by
    simp [i_by, m_var, m_args, m_args0, owns, f_enum, enumD_ints]
  refine run_rt (ρ1 := [some (.sh (flD h w s)), some (.sh (.lst (f.map D.int))), some (.sh (.int mv)), some (.sh (.lst (ss.map D.int))), none, y5, y6]) ?_
  rw [show ([flD h w s, .lst (f.map D.int), .int mv, .lst (ss.map D.int)].map (fun d => some (OD.sh d)) ++ List.replicate (7 - [flD h w s, .lst (f.map D.int), .int mv, .lst (ss.map D.int)].length) none) = [some (.sh (flD h w s)), some (.sh (.lst (f.map D.int))), some (.sh (.int mv)), some (.sh (.lst (ss.map D.int))), none, none, none] from rfl]
  unfold b__law_due
  rw [seq_ok s1]
  refine (seq_ok ((for_ok s3).trans lp)).trans ?_
  simp [s_ret, m_var, give]
  rfl
/-! ### the plain facts -/
theorem back_ok {mv : Int} (m1 : 0 ≤ mv) (m2 : mv < 8) : 0 ≤ back mv ∧ back mv < 8 ∧ back (back mv) = mv ∧ back mv % 2 = mv % 2 := by
  unfold back
  split <;> (try split) <;> simp_all <;> omega
theorem sp_back {h w mv j : Int} (h1 : 1 ≤ h) (h2 : h ≤ 6) (w1 : 1 ≤ w) (w2 : w ≤ 6) (m1 : 0 ≤ mv) (m2 : mv < 8) (c0 : 0 ≤ j) (c1 : j < h * w) :
    0 ≤ sp (high2 h w mv) (wide2 h w mv) (back mv) j ∧ sp (high2 h w mv) (wide2 h w mv) (back mv) j < h * w ∧ sp h w mv (sp (high2 h w mv) (wide2 h w mv) (back mv) j) = j := by
  obtain ⟨b1, b2, b3, b4⟩ := back_ok m1 m2
  have hc := Int.mul_comm h w
  by_cases c : mv % 2 = 1
  · have c' : back mv % 2 = 1 := by omega
    have q := sp_ok (h := w) (w := h) (c := j) w1 w2 h1 h2 b1 b2 c0 (by rw [← hc]; exact c1)
    simp only [high2, wide2, c, c', if_true, b3] at q ⊢
    exact ⟨q.1, by rw [hc]; exact q.2.1, q.2.2⟩
  · have c' : ¬ back mv % 2 = 1 := by omega
    have q := sp_ok (h := h) (w := w) (c := j) h1 h2 w1 w2 b1 b2 c0 c1
    simp only [high2, wide2, c, c', if_false, b3] at q ⊢
    exact q
def wr (h w mv : Int) (ch f : List Int) : List (Int × Int) := (f.zip (cells h w mv)).map fun z => (z.2, ch.getD z.1.toNat 0)
theorem wr_get {h w mv : Int} {ch f : List Int} (hf : (f.length : Int) = h * w) (i : Nat) : (wr h w mv ch f)[i]? = f[i]?.map fun x => (sp h w mv i, ch.getD x.toNat 0) := by
  unfold wr
  rw [List.getElem?_map, List.zip, List.getElem?_zipWith]
  have ec : (cells h w mv)[i]? = if i < (h * w).toNat then some (sp h w mv i) else none := by
    unfold cells
    rw [List.getElem?_map]
    split
    · rename_i c
      rw [List.getElem?_range c]
      simp
    · rename_i c
      rw [List.getElem?_eq_none (by simpa using c)]
      rfl
  rw [ec]
  by_cases c : i < f.length
  · rw [List.getElem?_eq_getElem c, if_pos (by omega)]
    rfl
  · rw [List.getElem?_eq_none (by omega)]
    rfl
theorem due_moved {h w mv : Int} {ss f : List Int} (h1 : 1 ≤ h) (h2 : h ≤ 6) (w1 : 1 ≤ w) (w2 : w ≤ 6) (m1 : 0 ≤ mv) (m2 : mv < 8) (hf : (f.length : Int) = h * w) : moved h w mv (0 :: ss) f = dueI h w mv ss f := by
  have e : ((enI 0 f).map fun z => (sp h w mv z.1, (0 :: ss).getD z.2.toNat 0)) = wr h w mv (0 :: ss) f := by
    apply List.ext_getElem?
    intro i
    rw [wr_get hf, List.getElem?_map, enI_get, Option.map_map]
    congr 1
    funext x
    simp
  unfold dueI
  rw [e]
  show scat (wr h w mv (0 :: ss) f) _ = _
  refine scat_any _ _ _ (by simp) fun j hj => .inr ?_
  simp only [List.length_replicate] at hj
  have q := sp_back (j := (j : Int)) h1 h2 w1 w2 m1 m2 (by omega) (by omega)
  have hi : (sp (high2 h w mv) (wide2 h w mv) (back mv) j).toNat < f.length := by omega
  refine ⟨_, List.mem_of_getElem? ((wr_get hf _).trans (by rw [List.getElem?_eq_getElem hi]; rfl)), ?_⟩
  show (sp h w mv (((sp (high2 h w mv) (wide2 h w mv) (back mv) j).toNat : Nat) : Int)).toNat = j
  rw [Int.toNat_of_nonneg q.1, q.2.2]
  rfl
end L66
end

section
set_option Elab.async false
set_option linter.all false
set_option maxRecDepth 100000
set_option maxHeartbeats 4000000
set_option autoImplicit false
/-! Pf_k66: compared, refused, exchanged, drawn. -/
namespace L66
open PySem Dv L2

theorem p_whole (i : Int) : F__law_whole [.int i] = .ok (.sh (.bl true)) := by
  have e1 : u_isi (ibL lb_int) (ioL lo_int) (.int i) = some (.bl true) := rfl
  have e2 : u_isi (ibL lb_bool) (ioL lo_bool) (.int i) = some (.bl false) := rfl
  simp [F__law_whole, b__law_whole, runF, s_ret, m_and, m_un, u_flat, m_var, e1, e2, u_not]
theorem are_lc (a0 a1 : Option OD) : ∀ (xs : List Int) (acc : List D), acc.length + xs.length < 16777216 → lcL [2] (g_name 2) (t_val (m_callN 1 F__law_whole [] (m_args (m_var 2) m_args0))) (m_var 2) (xs.map D.int) acc [a0, a1, none] = .ok (acc ++ xs.map D.int) [a0, a1, none]
  | [], acc, _ => by simp [lcL]
  | x :: xs, acc, h => by
    have ih := are_lc a0 a1 xs (acc ++ [.int x]) (by simp at h ⊢; omega)
    have hl : acc.length < 16777216 := by simp at h; omega
    have e : t_val (m_callN 1 F__law_whole [] (m_args (m_var 2) m_args0)) [a0, a1, some (.sh (.int x))] = .ok true [a0, a1, some (.sh (.int x))] := by
      simp [t_val, m_callN, runCall, m_args, m_args0, m_var, owns, p_whole, OD.own, D.flat]
    have e2 : m_var 2 [a0, a1, some (.sh (.int x))] = .ok (sh (.int x)) [a0, a1, some (.sh (.int x))] := by simp [m_var]
    rw [List.map_cons]
    unfold lcL
    simp [noExc, e, e2, wipeE, hl, ih]
theorem p_are (xs ys : List Int) (hl : xs.length < 1000) : F__law_are [.lst (xs.map D.int), .lst (ys.map D.int)] = .ok (.sh (.bl (decide (xs = ys)))) := by
  have e1 : ∀ ds : List D, u_isi (ibL lb_list) (ioL lo_list) (.lst ds) = some (.bl true) := fun _ => rfl
  have lc := are_lc (some (.sh (.lst (xs.map D.int)))) (some (.sh (.lst (ys.map D.int)))) xs [] (by simp; omega)
  by_cases c : xs = ys
  · subst c
    have s1 : (s_if (t_or (t_not (t_val (m_un (u_flat (u_isi (ibL lb_list) (ioL lo_list))) (m_var 0)))) (t_val (m_op (o_flat g_ne) (m_var 0) (m_var 1)))) (s_ret (m_c (.bl false))) s_nx) [some (.sh (.lst (xs.map D.int))), some (.sh (.lst (xs.map D.int))), none] = .ok .nx [some (.sh (.lst (xs.map D.int))), some (.sh (.lst (xs.map D.int))), none] := by
      simp [s_if, t_or, t_not, t_val, m_un, u_flat, m_var, e1, m_op, o_flat, s_nx]
    refine run_rt (ρ1 := [some (.sh (.lst (xs.map D.int))), some (.sh (.lst (xs.map D.int))), none]) ?_
    rw [show ([D.lst (xs.map D.int), .lst (xs.map D.int)].map (fun d => some (OD.sh d)) ++ List.replicate (3 - [D.lst (xs.map D.int), .lst (xs.map D.int)].length) none) = [some (.sh (.lst (xs.map D.int))), some (.sh (.lst (xs.map D.int))), none] from rfl]
    unfold b__law_are
    rw [seq_ok s1]
    have lc2 : m_lc [2] (i_of (m_var 0)) (g_name 2) (t_val (m_callN 1 F__law_whole [] (m_args (m_var 2) m_args0))) (m_var 2) [some (.sh (.lst (xs.map D.int))), some (.sh (.lst (xs.map D.int))), none] = .ok (.v (lsI xs)) [some (.sh (.lst (xs.map D.int))), some (.sh (.lst (xs.map D.int))), none] := by
      unfold m_lc
      simp [i_of, m_var, itemsD, wipeE, saved, restore, -List.map_map]
      simp [lc, newL, -List.map_map]
    generalize m_lc [2] (i_of (m_var 0)) (g_name 2) (t_val (m_callN 1 F__law_whole [] (m_args (m_var 2) m_args0))) (m_var 2) = MM at lc2 ⊢
    simp [s_ret, m_op, m_cb, m_args, m_args0, lc2, c1, u_flat, g_len, m_var, o_flat, lsI, -List.map_map]
  · simp [F__law_are, b__law_are, runF, seqE, s_if, t_or, t_not, t_val, m_un, u_flat, m_var, e1, m_op, o_flat, s_nx, s_ret, c]
theorem p_refused (fl f m sg : D) (h : F_moved_filling [fl, f, m, sg] = .exc "NoMove") : F__law_refused [fl, f, m, sg] = .ok (.sh (.bl true)) := by
  have x1 : ioL lx_ClueError "NoMove" = some true := rfl
  have x2 : u_isi (ibL lb_NoFilling) (ioL lo_NoFilling) (.exc "NoMove") = some (.bl false) := rfl
  have x3 : u_isi (ibL lb_NoPuzzle) (ioL lo_NoPuzzle) (.exc "NoMove") = some (.bl false) := rfl
  have x4 : u_isi (ibL lb_TooMany) (ioL lo_TooMany) (.exc "NoMove") = some (.bl false) := rfl
  have x5 : u_isi (ibL lb_NoMove) (ioL lo_NoMove) (.exc "NoMove") = some (.bl true) := rfl
  have x6 : u_isi (ibL lb_ValueError) (ioL lo_ValueError) (.exc "NoMove") = some (.bl true) := rfl
  simp [F__law_refused, b__law_refused, runF, seqE, s_asg, s_tryk, s_expr, m_callN, runCall, m_args, m_args0, m_var, owns, h, x1, m_lst, m_un, u_flat, x2, x3, x4, x5, x6, szOk, s_ret, m_and, m_cb, c1, g_any, asBls, u_not, vw_late]
theorem p_mf_bad (fl f m sg : D) (h : F_signs_by [fl, sg] = .exc "NoMove") : F_moved_filling [fl, f, m, sg] = .exc "NoMove" := by
  simp [F_moved_filling, b_moved_filling, runF, seqE, s_asg, m_op, m_lst, m_args, m_args0, owns, szOk, m_callN, runCall, m_var, h]
theorem p_mc_odd (fl : D) (m : Int) (h : ¬ (0 ≤ m ∧ m < 8)) : F_moved_cells [fl, .int m] = .exc "NoMove" := by
  simp [F_moved_cells, b_moved_cells, runF, seqE, s_expr, m_callN, runCall, m_args, m_args0, m_var, owns, p_look_x m h]
theorem p_mf_odd (fl sg : D) (f ch : List Int) (m : Int) (h : ¬ (0 ≤ m ∧ m < 8)) (hs : F_signs_by [fl, sg] = .ok (lsI ch)) (hc : ch.length < 1000) (hf : f.length < 1000) : F_moved_filling [fl, .lst (f.map D.int), .int m, sg] = .exc "NoMove" := by
  have hc2 : 1 + ch.length ≤ 16777216 := by omega
  have lc := mf_lc (some (.sh fl)) (some (.sh (.lst (f.map D.int)))) (some (.sh (.int m))) (some (.sh sg)) (some (lsI (0 :: ch))) none none (f.map D.int) [] (by simp; omega)
  have s1 : (s_asg (m_op o_add (m_lst (m_args (m_c (.int 0)) m_args0)) (m_callN 2 F_signs_by [] (m_args (m_var 0) (m_args (m_var 3) m_args0)))) (g_name 4)) [some (.sh fl), some (.sh (.lst (f.map D.int))), some (.sh (.int m)), some (.sh sg), none, none, none, none] = .ok .nx [some (.sh fl), some (.sh (.lst (f.map D.int))), some (.sh (.int m)), some (.sh sg), some (lsI (0 :: ch)), none, none, none] := by
    simp [s_asg, m_var, m_op, o_add, m_lst, m_args, m_args0, owns, szOk, m_callN, runCall, hs, ints_own2, els, newL, hc2, -List.map_map]
  have s2 : (s_asg (m_lc [6] (i_of (m_var 1)) (g_name 6) t_yes (m_c (.int 0))) (g_name 5)) [some (.sh fl), some (.sh (.lst (f.map D.int))), some (.sh (.int m)), some (.sh sg), some (lsI (0 :: ch)), none, none, none] = .ok .nx [some (.sh fl), some (.sh (.lst (f.map D.int))), some (.sh (.int m)), some (.sh sg), some (lsI (0 :: ch)), some (lsI (List.replicate f.length 0)), none, none] := by
    simp [s_asg, m_var, m_lc, i_of, itemsD, wipeE, saved, restore, newL, lc, -List.map_map]
  refine run_exc (ρ1 := [some (.sh fl), some (.sh (.lst (f.map D.int))), some (.sh (.int m)), some (.sh sg), some (lsI (0 :: ch)), some (lsI (List.replicate f.length 0)), none, none]) ?_
  rw [show ([fl, .lst (f.map D.int), .int m, sg].map (fun d => some (OD.sh d)) ++ List.replicate (8 - [fl, .lst (f.map D.int), .int m, sg].length) none) = [some (.sh fl), some (.sh (.lst (f.map D.int))), some (.sh (.int m)), some (.sh sg), none, none, none, none] from rfl]
  unfold b_moved_filling
  rw [seq_ok s1, seq_ok s2]
  refine seq_exc ?_
  simp [s_for, i_by, m_args, m_args0, m_var, m_callN, runCall, owns, p_mc_odd fl m h]
end L66
end

section
set_option Elab.async false
set_option linter.all false
set_option maxRecDepth 100000
set_option maxHeartbeats 4000000
set_option autoImplicit false
/-! Pg_k66: what is drawn from the script. -/
namespace L66
open PySem Dv L2

theorem mulOk_w {i j : Int} (a : -10000000000000000 ≤ i) (b : i ≤ 10000000000000000) : mulOk i j = true := by
  unfold mulOk
  have h1 : decide (-(2 : Int) ^ 64 < i) = true := decide_eq_true (by omega)
  have h2 : decide (i < (2 : Int) ^ 64) = true := decide_eq_true (by omega)
  rw [h1, h2]; rfl
theorem p_at (ns : List Int) (k : Int) (hl : ns.length ≤ 63) (k0 : 0 ≤ k) (k1 : k < 1000) : ∃ v : Int, F__law_at [.scr ns, .int k] = .ok (.sh (.int v)) := by
  have m7 : mulOk 7 k = true := mulOk_w (by omega) (by omega)
  by_cases c : k < ns.length
  · have e1 : ixN ns.length k = some k.toNat := ixN_in k0 c
    have hk : k.toNat < ns.length := by omega
    refine ⟨ns[k.toNat], ?_⟩
    simp [F__law_at, b__law_at, runF, seqE, s_if, t_val, m_op, m_var, m_cb, c1, m_args, m_args0, o_flat, u_flat, g_len, g_lt, c, s_ret, o_ix, atI, e1, hk]
  · by_cases d : ns.length = 0
    · have mm : mulOk (7 * k + 3) (7 * k + 3) = true := mulOk_w (by omega) (by omega)
      refine ⟨(7 * k + 3) * (7 * k + 3) % 999979 + (7 * k + 3) % 101, ?_⟩
      have c' : ¬ k < 0 := by omega
      simp [F__law_at, b__law_at, runF, seqE, s_if, t_val, m_op, m_var, m_cb, c1, m_args, m_args0, o_flat, u_flat, g_len, g_lt, g_gt, c', d, s_ret, s_nx, s_asg, g_mul, m7, o_add, g_add, mm, g_mod]
    · have hp : (0 : Int) < ns.length := by omega
      have r0 : 0 ≤ k % (ns.length : Int) := Int.emod_nonneg _ (by omega)
      have r1 : k % (ns.length : Int) < ns.length := Int.emod_lt_of_pos _ hp
      have e1 : ixN ns.length (k % (ns.length : Int)) = some (k % (ns.length : Int)).toNat := ixN_in r0 r1
      have hk : (k % (ns.length : Int)).toNat < ns.length := by omega
      have q0 : 0 ≤ ns[(k % (ns.length : Int)).toNat] % 1000003 := Int.emod_nonneg _ (by omega)
      have q1 : ns[(k % (ns.length : Int)).toNat] % 1000003 < 1000003 := Int.emod_lt_of_pos _ (by omega)
      have hz : 0 < ns.length := by omega
      have hz2 : ns ≠ [] := by intro z; simp [z] at d
      generalize hq : ns[(k % (ns.length : Int)).toNat] % 1000003 = q at q0 q1
      have m2 : mulOk q (k + 1) = true := mulOk_w (by omega) (by omega)
      have b0 : 0 ≤ q * (k + 1) := Int.mul_nonneg (by omega) (by omega)
      have b1 : q * (k + 1) ≤ 1000003 * 1000 := Int.mul_le_mul (by omega) (by omega) (by omega) (by omega)
      have mm : mulOk (7 * k + 3 + q * (k + 1)) (7 * k + 3 + q * (k + 1)) = true := mulOk_w (by omega) (by omega)
      refine ⟨(7 * k + 3 + q * (k + 1)) * (7 * k + 3 + q * (k + 1)) % 999979 + (7 * k + 3 + q * (k + 1)) % 101, ?_⟩
      simp [F__law_at, b__law_at, runF, seqE, s_if, t_val, m_op, m_var, m_cb, c1, m_args, m_args0, o_flat, u_flat, g_len, g_lt, g_gt, c, hp, hz, hz2, s_ret, s_nx, s_asg, g_mul, m7, o_add, g_add, mm, g_mod, o_ix, atI, e1, hk, hq, m2]
theorem p_floor (ns : List Int) (hl : ns.length ≤ 63) : ∃ h w s : Int, F__law_floor [.scr ns] = .ok (.sh (flD h w s)) ∧ 1 ≤ h ∧ h ≤ 6 ∧ 1 ≤ w ∧ w ≤ 6 ∧ h * w ≤ 16 ∧ 1 ≤ s ∧ s ≤ 6 := by
  obtain ⟨v0, e0⟩ := p_at ns 0 hl (by omega) (by omega)
  obtain ⟨v1, e1⟩ := p_at ns 1 hl (by omega) (by omega)
  obtain ⟨v2, e2⟩ := p_at ns 2 hl (by omega) (by omega)
  have a0 := Int.emod_nonneg v0 (b := 6) (by omega)
  have a1 := Int.emod_lt_of_pos v0 (b := 6) (by omega)
  have c0 := Int.emod_nonneg v2 (b := 6) (by omega)
  have c1 := Int.emod_lt_of_pos v2 (b := 6) (by omega)
  generalize hh : v0 % 6 = r at a0 a1
  generalize hs : v2 % 6 = t at c0 c1
  have p1 : (0 : Int) < 1 + r := by omega
  have p2 : 1 + r < 1073741824 := by omega
  generalize hm : (if (16 : Int) / (1 + r) < 6 then 16 / (1 + r) else 6) = m
  have m1 : 1 ≤ m ∧ m ≤ 6 ∧ (1 + r) * m ≤ 16 := by
    have : r = 0 ∨ r = 1 ∨ r = 2 ∨ r = 3 ∨ r = 4 ∨ r = 5 := by omega
    rcases this with rfl | rfl | rfl | rfl | rfl | rfl <;> simp at hm <;> subst hm <;> decide
  have w0 := Int.emod_nonneg v1 (b := m) (by omega)
  have w1 := Int.emod_lt_of_pos v1 (b := m) (by omega)
  have p3 : 0 < m := by omega
  refine ⟨1 + r, 1 + v1 % m, 1 + t, ?_, by omega, by omega, by omega, by omega, ?_, by omega, by omega⟩
  · simp [F__law_floor, b__law_floor, runF, seqE, s_asg, m_op, o_add, g_add, o_flat, g_mod, m_callN, runCall, m_args, m_args0, m_var, owns, e0, e1, e2, OD.own, D.flat, hh, hs, m_cb, c2, g_min2, g_fdiv, p1, p2, hm, p3, s_ret, m_tup, szOk]
  · exact Int.le_trans (Int.mul_le_mul_of_nonneg_left (show 1 + v1 % m ≤ m by omega) (show 0 ≤ 1 + r by omega)) m1.2.2
theorem fill_lc (ns : List Int) (hl : ns.length ≤ 63) (s : Int) (s1 : 1 ≤ s) (s2 : s ≤ 6) (h w : Int) (a2 a4 a5 a6 a7 a8 a9 a10 a11 a12 a13 a14 : Option OD) : ∀ (ks : List Int) (acc : List Int), (∀ k ∈ ks, 0 ≤ k ∧ k < 900) → acc.length + ks.length < 16777216 →
    ∃ f : List Int, lcL [3] (g_name 3) t_yes (m_op (o_flat g_mod) (m_callN 2 F__law_at [] (m_args (m_var 0) (m_args (m_op o_add (m_c (.int 7)) (m_var 3)) m_args0))) (m_op o_add (m_op o_ix (m_var 1) (m_c (.int 2))) (m_c (.int 1)))) (ks.map D.int) (acc.map D.int) [some (.sh (.scr ns)), some (.sh (flD h w s)), a2, none, a4, a5, a6, a7, a8, a9, a10, a11, a12, a13, a14]
      = .ok ((acc ++ f).map D.int) [some (.sh (.scr ns)), some (.sh (flD h w s)), a2, none, a4, a5, a6, a7, a8, a9, a10, a11, a12, a13, a14] ∧ f.length = ks.length ∧ ∀ x ∈ f, 0 ≤ x ∧ x < s + 1
  | [], acc, _, _ => ⟨[], by simp [lcL], rfl, fun _ h => nomatch h⟩
  | k :: ks, acc, hk, hla => by
    have k0 := hk k List.mem_cons_self
    obtain ⟨v, e⟩ := p_at ns (7 + k) hl (by omega) (by omega)
    have r0 := Int.emod_nonneg v (b := s + 1) (by omega)
    have r1 := Int.emod_lt_of_pos v (b := s + 1) (by omega)
    obtain ⟨f, e2, l2, b2⟩ := fill_lc ns hl s s1 s2 h w a2 a4 a5 a6 a7 a8 a9 a10 a11 a12 a13 a14 ks (acc ++ [v % (s + 1)]) (fun x hx => hk x (List.mem_cons_of_mem _ hx)) (by simp at hla ⊢; omega)
    refine ⟨v % (s + 1) :: f, ?_, by simp [l2], fun x hx => ?_⟩
    · have hl2 : acc.length < 16777216 := by simp at hla; omega
      have p : 0 < s + 1 := by omega
      have em : (m_op (o_flat g_mod) (m_callN 2 F__law_at [] (m_args (m_var 0) (m_args (m_op o_add (m_c (.int 7)) (m_var 3)) m_args0))) (m_op o_add (m_op o_ix (m_var 1) (m_c (.int 2))) (m_c (.int 1)))) [some (.sh (.scr ns)), some (.sh (flD h w s)), a2, some (.sh (.int k)), a4, a5, a6, a7, a8, a9, a10, a11, a12, a13, a14] = .ok (sh (.int (v % (s + 1)))) [some (.sh (.scr ns)), some (.sh (flD h w s)), a2, some (.sh (.int k)), a4, a5, a6, a7, a8, a9, a10, a11, a12, a13, a14] := by
        simp [m_op, o_flat, g_mod, m_callN, runCall, m_args, m_args0, m_var, owns, o_add, g_add, e, OD.own, D.flat, o_ix, atI, ixN, p]
      have e3 : (acc.map D.int) ++ [D.int (v % (s + 1))] = (acc ++ [v % (s + 1)]).map D.int := by simp
      have e4 : acc ++ [v % (s + 1)] ++ f = acc ++ v % (s + 1) :: f := by simp
      rw [e4] at e2
      rw [List.map_cons]
      unfold lcL
      generalize (m_op (o_flat g_mod) (m_callN 2 F__law_at [] (m_args (m_var 0) (m_args (m_op o_add (m_c (.int 7)) (m_var 3)) m_args0))) (m_op o_add (m_op o_ix (m_var 1) (m_c (.int 2))) (m_c (.int 1)))) = MM at em e2 ⊢
      simp [noExc, em, wipeE, hl2, e3, -List.map_append]
      exact e2
    · rcases List.mem_cons.mp hx with rfl | hx
      · exact ⟨r0, r1⟩
      · exact b2 x hx
end L66
end

section
set_option Elab.async false
set_option linter.all false
set_option maxRecDepth 100000
set_option maxHeartbeats 4000000
set_option autoImplicit false
/-! Ph_k66: the signs exchanged; sorted. -/
namespace L66
open PySem Dv L2

theorem map_er {α β : Type} (f : α → β) : ∀ (l : List α) (i : Nat), (l.eraseIdx i).map f = (l.map f).eraseIdx i
  | [], i => by simp
  | x :: xs, 0 => rfl
  | x :: xs, i + 1 => by
    show f x :: (xs.eraseIdx i).map f = f x :: (xs.map f).eraseIdx i
    rw [map_er f xs i]
theorem er_perm {α : Type} : ∀ (l : List α) (i : Nat) (hi : i < l.length), (l[i] :: l.eraseIdx i).Perm l
  | x :: xs, 0, _ => List.Perm.refl _
  | x :: xs, i + 1, hi => by
    have h : i < xs.length := by simpa using hi
    show (xs[i] :: x :: xs.eraseIdx i).Perm (x :: xs)
    exact (List.Perm.swap _ _ _).trans ((er_perm xs i h).cons x)
def bodyEx : M Fl := s_appendM (m_var 3) (m_pop (m_var 2) (m_op (o_flat g_mod) (m_op (o_flat g_fdiv) (m_var 0) (m_op o_add (m_op (o_flat g_mul) (m_c (.int 3)) (m_var 4)) (m_c (.int 1)))) (m_cb (c1 g_len) (m_args (m_var 2) m_args0))))
theorem ex_step (c k : Int) (a1 x4 : Option OD) (lf fd : List Int) (k0 : 0 ≤ k) (k1 : k < 1000) (hl : 0 < lf.length) (hl2 : lf.length < 1000) (hf : fd.length < 1000) : ∃ i, ∃ hi : i < lf.length, (g_name 4 (.sh (.int k)) [some (.sh (.int c)), a1, some (lsI lf), some (lsI fd), x4]).th (fun _ ρ1 => bodyEx ρ1) = .ok .nx [some (.sh (.int c)), a1, some (lsI (lf.eraseIdx i)), some (lsI (fd ++ [lf[i]])), some (.sh (.int k))] := by
  have m3 : mulOk 3 k = true := mulOk_w (by omega) (by omega)
  have p1 : 0 < 3 * k + 1 := by omega
  have p2 : 3 * k + 1 < 1073741824 := by omega
  have hp : (0 : Int) < lf.length := by omega
  generalize hq : c / (3 * k + 1) = q
  have r0 := Int.emod_nonneg q (b := (lf.length : Int)) (by omega)
  have r1 := Int.emod_lt_of_pos q (b := (lf.length : Int)) hp
  generalize hr : q % (lf.length : Int) = r at r0 r1
  have hr0 : r.toNat < lf.length := by omega
  refine ⟨r.toNat, hr0, ?_⟩
  have e1 : ixN lf.length r = some r.toNat := ixN_in r0 r1
  have g1 : -(4611686018427387904 : Int) ≤ r := by omega
  have g2 : r < 4611686018427387904 := by omega
  have e5 : ((lf.eraseIdx r.toNat).map D.int).map OD.sh = ((lf.map D.int).map OD.sh).eraseIdx r.toNat := by rw [map_er, map_er]
  have e6 : ((fd ++ [lf[r.toNat]]).map D.int).map OD.sh = (fd.map D.int).map OD.sh ++ [.sh (.int lf[r.toNat])] := by simp
  have e7 : ((lf.map D.int).map OD.sh)[r.toNat]? = some (.sh (.int lf[r.toNat])) := by
    rw [List.getElem?_map, List.getElem?_map, List.getElem?_eq_getElem hr0]; rfl
  have e8 : (OD.ls ((lf.map D.int).map OD.sh)).toD = .lst (lf.map D.int) := by rw [toD_ls, toDs_sh]
  have hf2 : fd.length < 16777216 := by omega
  unfold lsI
  rw [e5, e6]
  have l1 : (lf.map D.int).length = lf.length := List.length_map ..
  generalize hA : (lf.map D.int).map OD.sh = A at *
  generalize hB : (fd.map D.int).map OD.sh = Bb at *
  have l2 : Bb.length = fd.length := by rw [← hB]; simp
  have l3 : A.length = lf.length := by rw [← hA]; simp
  simp [bodyEx, s_appendM, m_pop, m_var, lsAt, Op.at?, m_op, o_flat, g_mul, m3, o_add, g_add, g_fdiv, p1, p2, m_cb, c1, m_args, m_args0, u_flat, vw_late, e8, g_len, l1, hp, g_mod, hl, hq, hr, rngOk, g1, g2, l3, e1, e7, Dv.putAt, OD.setAt, l2, hf2, -toD_ls]
theorem perm_step {lf fd : List Int} {i : Nat} (hi : i < lf.length) : ((fd ++ [lf[i]]) ++ lf.eraseIdx i).Perm (fd ++ lf) := by
  rw [List.append_assoc]
  refine List.Perm.append_left _ ?_
  exact er_perm lf i hi
theorem ex_loop (c : Int) (a1 : Option OD) : ∀ (ks lf fd : List Int) (x4 : Option OD), (∀ k ∈ ks, 0 ≤ k ∧ k < 1000) → lf.length = ks.length → lf.length < 900 → fd.length + ks.length < 900 →
    ∃ ss y4, forL (g_name 4) bodyEx (ks.map D.int) [some (.sh (.int c)), a1, some (lsI lf), some (lsI fd), x4] = .ok .nx [some (.sh (.int c)), a1, some (lsI []), some (lsI ss), y4] ∧ ss.Perm (fd ++ lf)
  | [], lf, fd, x4, _, hl, _, _ => by
    have : lf = [] := List.eq_nil_of_length_eq_zero hl
    subst this
    exact ⟨fd, x4, rfl, by simp⟩
  | k :: ks, lf, fd, x4, hk, hl, hl2, hf => by
    have k0 := hk k List.mem_cons_self
    simp only [List.length_cons] at hl hf
    obtain ⟨i, hi, st⟩ := ex_step c k a1 x4 lf fd k0.1 k0.2 (by omega) (by omega) (by omega)
    obtain ⟨ss, y4, ih, pe⟩ := ex_loop c a1 ks (lf.eraseIdx i) (fd ++ [lf[i]]) (some (.sh (.int k))) (fun x hx => hk x (List.mem_cons_of_mem _ hx)) (by rw [List.length_eraseIdx_of_lt hi]; omega) (by rw [List.length_eraseIdx_of_lt hi]; omega) (by simp; omega)
    refine ⟨ss, y4, ?_, pe.trans (perm_step hi)⟩
    rw [List.map_cons, forL_cons]
    cases e : g_name 4 (.sh (.int k)) [some (.sh (.int c)), a1, some (lsI lf), some (lsI fd), x4] with
    | ok u ρ1 =>
      rw [e] at st
      simp only [th_ok] at st ⊢
      rw [st]
      simp only [th_ok, goOn_nx]
      exact ih
    | exc c r => rw [e] at st; cases st
    | stuck => rw [e] at st; cases st
theorem one_len (s : Int) : (one s).length = s.toNat := by simp [one]
theorem p_exchange (c s : Int) (s1 : 1 ≤ s) (s2 : s ≤ 6) : ∃ ss : List Int, F__law_exchange [.int c, .int s] = .ok (lsI ss) ∧ ss.Perm (one s) := by
  have er : rangeD 0 s = ((List.range s.toNat).map fun (k : Nat) => (0 + (k : Int))).map D.int := by
    unfold rangeD
    rw [List.map_map, Int.sub_zero]
    rfl
  obtain ⟨ss, y4, lp, pe⟩ := ex_loop c (some (.sh (.int s))) ((List.range s.toNat).map fun (k : Nat) => (0 + (k : Int))) (one s) [] none (by
    intro k hk
    obtain ⟨j, hj, rfl⟩ := List.mem_map.mp hk
    have := List.mem_range.mp hj
    omega) (by rw [one_len]; simp) (by rw [one_len]; omega) (by simp; omega)
  refine ⟨ss, ?_, by simpa using pe⟩
  have a1 : -(4611686018427387904 : Int) ≤ s + 1 := by omega
  have a2 : s + 1 < 4611686018427387904 := by omega
  have a3 : s ≤ 16777216 := by omega
  have a4 : -(4611686018427387904 : Int) ≤ s := by omega
  have a5 : s < 4611686018427387904 := by omega
  have q1 : (s_asg (l_range2 (m_c (.int 1)) (m_op o_add (m_var 1) (m_c (.int 1)))) (g_name 2)) [some (.sh (.int c)), some (.sh (.int s)), none, none, none] = .ok .nx [some (.sh (.int c)), some (.sh (.int s)), some (lsI (one s)), none, none] := by
    simp [s_asg, l_range2, m_op, o_add, o_flat, g_add, m_var, rngOk, a1, a2, a3, rg_one, newL, -List.map_map]
  have q2 : (s_asg (m_lst m_args0) (g_name 3)) [some (.sh (.int c)), some (.sh (.int s)), some (lsI (one s)), none, none] = .ok .nx [some (.sh (.int c)), some (.sh (.int s)), some (lsI (one s)), some (lsI []), none] := by
    simp [s_asg, m_lst, m_args0, owns, szOk]
  have q3 : (i_range1 (m_args (m_var 1) m_args0)) [some (.sh (.int c)), some (.sh (.int s)), some (lsI (one s)), some (lsI []), none] = .ok (((List.range s.toNat).map fun (k : Nat) => (0 + (k : Int))).map D.int) [some (.sh (.int c)), some (.sh (.int s)), some (lsI (one s)), some (lsI []), none] := by
    rw [← er]
    simp [i_range1, m_args, m_args0, m_var, rngOk, a4, a5]
  refine run_rt (ρ1 := [some (.sh (.int c)), some (.sh (.int s)), some (lsI []), none, y4]) ?_
  rw [show ([D.int c, .int s].map (fun d => some (OD.sh d)) ++ List.replicate (5 - [D.int c, .int s].length) none) = [some (.sh (.int c)), some (.sh (.int s)), none, none, none] from rfl]
  unfold b__law_exchange
  rw [seq_ok q1, seq_ok q2]
  refine (seq_ok ((for_ok q3).trans lp)).trans ?_
  simp [s_ret, m_var, give]
/-! ### sorted -/
theorem sort_perm (l : List Int) : (sortI l).Perm l := List.mergeSort_perm _ _
theorem sort_pair (l : List Int) : (sortI l).Pairwise (fun a b => a ≤ b) := by
  have := List.pairwise_mergeSort (le := fun a b : Int => decide (a ≤ b)) (fun a b c h1 h2 => by simp at *; omega) (fun a b => by simp; omega) l
  exact this.imp fun h => by simpa using h
theorem one_pair (s : Int) : (one s).Pairwise (fun a b => a ≤ b) := by
  unfold one
  rw [List.pairwise_map]
  refine List.pairwise_lt_range.imp fun h => ?_
  omega
theorem sort_one {l : List Int} {s : Int} (h : l.Perm (one s)) : sortI l = one s :=
  ((sort_perm l).trans h).eq_of_pairwise (fun a b _ _ h1 h2 => by omega) (sort_pair l) (one_pair s)
theorem perm_of_sort {l : List Int} {s : Int} (h : sortI l = one s) : l.Perm (one s) := by
  rw [← h]; exact (sort_perm l).symm
theorem one_nodup (s : Int) : (one s).Nodup := by
  unfold one
  rw [List.Nodup, List.pairwise_map]
  refine List.pairwise_lt_range.imp fun h => ?_
  omega
theorem mem_one {s x : Int} : x ∈ one s ↔ 1 ≤ x ∧ x ≤ s := by
  unfold one
  rw [List.mem_map]
  constructor
  · rintro ⟨k, hk, rfl⟩
    have := List.mem_range.mp hk
    omega
  · intro h
    exact ⟨(x - 1).toNat, List.mem_range.mpr (by omega), by omega⟩
end L66
end

section
set_option Elab.async false
set_option linter.all false
set_option maxRecDepth 100000
set_option maxHeartbeats 4000000
set_option autoImplicit false
/-! Pi_k66: there and back; signs that are none. -/
namespace L66
open PySem Dv L2

theorem first_ints (x : Int) : ∀ ss : List Int, x ∈ ss → firstAt (.int x) ((ss.map D.int).map D.v) = some (ss.idxOf x)
  | [], h => nomatch h
  | a :: ss, h => by
    rw [List.map_cons, List.map_cons]
    show (if eqV (.int a) (.int x) then some 0 else (firstAt (.int x) ((ss.map D.int).map D.v)).map (· + 1)) = _
    have e : eqV (.int a) (.int x) = (a == x) := rfl
    rw [e, List.idxOf_cons]
    by_cases c : a = x
    · subst c; simp
    · have h2 : x ∈ ss := by
        rcases List.mem_cons.mp h with rfl | h
        · exact absurd rfl c
        · exact h
      have c2 : (a == x) = false := by simpa using c
      rw [c2, first_ints x ss h2]
      rfl
theorem flats : ∀ ss : List Int, (ss.map D.int).all D.flat = true
  | [] => rfl
  | a :: ss => by rw [List.map_cons, List.all_cons, flats ss]; rfl
def turned (ss : List Int) (s : Int) : List Int := (one s).map fun x => ((ss.idxOf x : Nat) : Int) + 1
theorem tn_lc (ss : List Int) (a0 a1 a2 a3 a4 a5 a6 a8 a9 a10 a11 a12 a14 : Option OD) : ∀ (xs : List Int) (acc : List Int), (∀ x ∈ xs, x ∈ ss) → acc.length + xs.length < 16777216 →
    lcL [13] (g_name 13) t_yes (m_op o_add (m_bm1 isLst o_index (m_var 7) (m_var 13)) (m_c (.int 1))) (xs.map D.int) (acc.map D.int) [a0, a1, a2, a3, a4, a5, a6, some (.sh (.lst (ss.map D.int))), a8, a9, a10, a11, a12, none, a14]
      = .ok ((acc ++ xs.map fun x => ((ss.idxOf x : Nat) : Int) + 1).map D.int) [a0, a1, a2, a3, a4, a5, a6, some (.sh (.lst (ss.map D.int))), a8, a9, a10, a11, a12, none, a14]
  | [], acc, _, _ => by simp [lcL]
  | x :: xs, acc, hx, hl => by
    have ih := tn_lc ss a0 a1 a2 a3 a4 a5 a6 a8 a9 a10 a11 a12 a14 xs (acc ++ [((ss.idxOf x : Nat) : Int) + 1]) (fun y hy => hx y (List.mem_cons_of_mem _ hy)) (by simp at hl ⊢; omega)
    have hl2 : acc.length < 16777216 := by simp at hl; omega
    have em : (m_op o_add (m_bm1 isLst o_index (m_var 7) (m_var 13)) (m_c (.int 1))) [a0, a1, a2, a3, a4, a5, a6, some (.sh (.lst (ss.map D.int))), a8, a9, a10, a11, a12, some (.sh (.int x)), a14] = .ok (sh (.int (((ss.idxOf x : Nat) : Int) + 1))) [a0, a1, a2, a3, a4, a5, a6, some (.sh (.lst (ss.map D.int))), a8, a9, a10, a11, a12, some (.sh (.int x)), a14] := by
      have fi := first_ints x ss (hx x List.mem_cons_self)
      have e2 : (D.int x).v = .int x := rfl
      have e3 : ∀ a : Int, (D.int a).flat = true := fun _ => rfl
      simp [m_op, m_bm1, isLst, o_index, m_var, flats, e2, e3, fi, o_add, o_flat, g_add, -List.map_map]
    have e3 : (acc.map D.int) ++ [D.int (((ss.idxOf x : Nat) : Int) + 1)] = (acc ++ [((ss.idxOf x : Nat) : Int) + 1]).map D.int := by simp
    have e4 : acc ++ [((ss.idxOf x : Nat) : Int) + 1] ++ (xs.map fun x => ((ss.idxOf x : Nat) : Int) + 1) = acc ++ (x :: xs).map fun x => ((ss.idxOf x : Nat) : Int) + 1 := by simp
    rw [e4] at ih
    rw [List.map_cons]
    unfold lcL
    generalize (m_op o_add (m_bm1 isLst o_index (m_var 7) (m_var 13)) (m_c (.int 1))) = MM at em ih ⊢
    simp [noExc, em, wipeE, hl2, e3, -List.map_append]
    simpa using ih
theorem turned_map {ss : List Int} (hn : ss.Nodup) : (ss.map fun x => ((ss.idxOf x : Nat) : Int) + 1) = one ss.length := by
  apply List.ext_getElem?
  intro i
  unfold one
  rw [List.getElem?_map, List.getElem?_map]
  by_cases c : i < ss.length
  · rw [List.getElem?_eq_getElem c, List.getElem?_range (by simpa using c)]
    simp only [Option.map_some]
    rw [hn.idxOf_getElem]
    congr 1
    omega
  · rw [List.getElem?_eq_none (by omega), List.getElem?_eq_none (by simpa using c)]
    rfl
theorem turned_perm {ss : List Int} {s : Int} (s0 : 0 ≤ s) (h : ss.Perm (one s)) : (turned ss s).Perm (one s) := by
  have hn : ss.Nodup := h.nodup_iff.mpr (one_nodup s)
  have hl : ss.length = s.toNat := by rw [h.length_eq, one_len]
  have e := turned_map hn
  rw [hl, Int.toNat_of_nonneg s0] at e
  rw [← e]
  exact (h.symm.map _)
theorem perm_mem {ss : List Int} {s x : Int} (h : ss.Perm (one s)) : x ∈ ss ↔ 1 ≤ x ∧ x ≤ s := h.mem_iff.trans mem_one
theorem tt {ss : List Int} {s x : Int} (s0 : 0 ≤ s) (h : ss.Perm (one s)) (x0 : 0 ≤ x) (x1 : x ≤ s) : (0 :: turned ss s).getD ((0 :: ss).getD x.toNat 0).toNat 0 = x := by
  have hn : ss.Nodup := h.nodup_iff.mpr (one_nodup s)
  have hl : ss.length = s.toNat := by rw [h.length_eq, one_len]
  obtain ⟨n, rfl⟩ : ∃ n : Nat, x = n := ⟨x.toNat, by omega⟩
  rw [Int.toNat_natCast]
  cases n with
  | zero => rfl
  | succ k =>
    have hk : k < ss.length := by omega
    have e1 : (0 :: ss).getD (k + 1) 0 = ss[k] := by
      rw [List.getD_cons_succ, List.getD_eq_getElem?_getD, List.getElem?_eq_getElem hk]; rfl
    rw [e1]
    have hv := (perm_mem h).mp (List.getElem_mem hk)
    obtain ⟨m, hm⟩ : ∃ m : Nat, ss[k] = m + 1 := ⟨(ss[k] - 1).toNat, by omega⟩
    have hm2 : ss[k].toNat = m + 1 := by omega
    rw [hm2, List.getD_cons_succ]
    unfold turned one
    rw [List.map_map, List.getD_eq_getElem?_getD, List.getElem?_map, List.getElem?_range (by omega)]
    simp only [Option.map_some, Function.comp, Option.getD_some]
    rw [show (1 + (m : Int)) = ss[k] from by omega, hn.idxOf_getElem]
    omega
theorem moved_len {h w mv : Int} {ch f : List Int} : (moved h w mv ch f).length = f.length := by
  unfold moved
  rw [scat_len, List.length_replicate]
theorem moved_at {h w mv : Int} {ch f : List Int} (h1 : 1 ≤ h) (h2 : h ≤ 6) (w1 : 1 ≤ w) (w2 : w ≤ 6) (m1 : 0 ≤ mv) (m2 : mv < 8) (hf : (f.length : Int) = h * w) {i : Nat} {x : Int} (hx : f[i]? = some x) : (moved h w mv ch f)[(sp h w mv i).toNat]? = some (ch.getD x.toNat 0) := by
  have hi : i < f.length := (List.getElem?_eq_some_iff.mp hx).1
  have q := sp_ok (c := (i : Int)) h1 h2 w1 w2 m1 m2 (by omega) (by omega)
  show (scat (wr h w mv ch f) _)[_]? = _
  refine scat_get _ _ _ _ (by rw [List.length_replicate]; omega) (fun p hp e => ?_) (.inr ⟨_, List.mem_of_getElem? ((wr_get hf i).trans (by rw [hx]; rfl)), rfl⟩)
  obtain ⟨j, hj⟩ := List.mem_iff_getElem?.mp hp
  rw [wr_get hf] at hj
  cases ej : f[j]? with
  | none => rw [ej] at hj; cases hj
  | some y =>
    rw [ej] at hj
    have hj2 := Option.some.inj hj
    have hjl : j < f.length := (List.getElem?_eq_some_iff.mp ej).1
    have r := sp_ok (c := (j : Int)) h1 h2 w1 w2 m1 m2 (by omega) (by omega)
    rw [← hj2] at e ⊢
    simp only at e ⊢
    have e2 : sp h w mv j = sp h w mv i := by omega
    have : (j : Int) = i := by rw [← r.2.2, ← q.2.2, e2]
    have : j = i := by omega
    subst this
    rw [ej] at hx
    rw [Option.some.inj hx]
theorem hw_swap (h w mv : Int) : high2 h w mv * wide2 h w mv = h * w := by
  unfold high2 wide2
  split
  · exact Int.mul_comm _ _
  · rfl
theorem hw_in {h w : Int} (mv : Int) (h1 : 1 ≤ h) (h2 : h ≤ 6) (w1 : 1 ≤ w) (w2 : w ≤ 6) : 1 ≤ high2 h w mv ∧ high2 h w mv ≤ 6 ∧ 1 ≤ wide2 h w mv ∧ wide2 h w mv ≤ 6 := by
  unfold high2 wide2
  split <;> exact ⟨by omega, by omega, by omega, by omega⟩
theorem there_back {h w s mv : Int} {ss f : List Int} (h1 : 1 ≤ h) (h2 : h ≤ 6) (w1 : 1 ≤ w) (w2 : w ≤ 6) (m1 : 0 ≤ mv) (m2 : mv < 8) (s0 : 0 ≤ s) (hp : ss.Perm (one s)) (hf : (f.length : Int) = h * w) (hv : ∀ x ∈ f, 0 ≤ x ∧ x < s + 1) :
    moved (high2 h w mv) (wide2 h w mv) (back mv) (0 :: turned ss s) (moved h w mv (0 :: ss) f) = f := by
  obtain ⟨b1, b2, _, _⟩ := back_ok m1 m2
  obtain ⟨g1, g2, g3, g4⟩ := hw_in mv h1 h2 w1 w2
  apply List.ext_getElem?
  intro i
  by_cases c : i < f.length
  · have ex : f[i]? = some f[i] := List.getElem?_eq_getElem c
    have q := sp_ok (c := (i : Int)) h1 h2 w1 w2 m1 m2 (by omega) (by omega)
    have y := moved_at (ch := 0 :: ss) h1 h2 w1 w2 m1 m2 hf ex
    have z := moved_at (ch := 0 :: turned ss s) (f := moved h w mv (0 :: ss) f) g1 g2 g3 g4 b1 b2 (by rw [moved_len, hw_swap]; exact hf) y
    rw [Int.toNat_of_nonneg q.1, q.2.2, Int.toNat_natCast] at z
    have hx := hv _ (List.getElem_mem c)
    rw [z, tt s0 hp hx.1 (by omega), ex]
  · rw [List.getElem?_eq_none (by rw [moved_len, moved_len]; omega), List.getElem?_eq_none (by omega)]
end L66
end

section
set_option Elab.async false
set_option linter.all false
set_option maxRecDepth 100000
set_option maxHeartbeats 4000000
set_option autoImplicit false
/-! Pj_k66: lists that are not each sign once. -/
namespace L66
open PySem Dv L2

theorem cut_lo {ss : List Int} {a : Int} (a0 : 0 ≤ a) (a1 : a ≤ ss.length) : cutD (ss.map D.int) none (some a) = (ss.take a.toNat).map D.int := by
  unfold cutD
  have e1 : HT.sIx (ss.map D.int).length 0 none = 0 := rfl
  have e2 : HT.sIx (ss.map D.int).length (ss.map D.int).length (some a) = a.toNat := by
    show (if a < 0 then _ else min a.toNat (ss.map D.int).length) = _
    rw [if_neg (by omega), List.length_map]
    omega
  rw [e1, e2, List.drop_zero, Nat.sub_zero, List.map_take]
theorem cut_hi {ss : List Int} {a : Int} (a0 : 0 ≤ a) (a1 : a ≤ ss.length) : cutD (ss.map D.int) (some a) none = (ss.drop a.toNat).map D.int := by
  unfold cutD
  have e1 : HT.sIx (ss.map D.int).length (ss.map D.int).length none = (ss.map D.int).length := rfl
  have e2 : HT.sIx (ss.map D.int).length 0 (some a) = a.toNat := by
    show (if a < 0 then _ else min a.toNat (ss.map D.int).length) = _
    rw [if_neg (by omega), List.length_map]
    omega
  rw [e1, e2, List.map_drop]
  apply List.take_of_length_le
  simp
theorem not_perm {ss : List Int} {s v : Int} {a : Nat} (hp : ss.Perm (one s)) (ha : a < ss.length) (hv : v ≠ ss[a]) : ¬ (ss.take a ++ [v] ++ ss.drop (a + 1)).Perm (one s) := by
  intro h
  have hn : ss.Nodup := hp.nodup_iff.mpr (one_nodup s)
  have m1 : ss[a] ∈ ss.take a ++ [v] ++ ss.drop (a + 1) := (h.trans hp.symm).mem_iff.mpr (List.getElem_mem ha)
  have n1 := (er_perm ss a ha).nodup_iff.mpr hn
  rw [List.nodup_cons, List.eraseIdx_eq_take_drop_succ] at n1
  simp only [List.mem_append, List.mem_singleton] at m1 n1
  rcases m1 with (m | m) | m
  · exact n1.1 (.inl m)
  · exact hv m.symm
  · exact n1.1 (.inr m)
theorem p_bad_list {ss : List Int} {s : Int} (c : Int) (s1 : 1 ≤ s) (s2 : s ≤ 6) (hp : ss.Perm (one s)) : ∃ bad : List Int, F__law_bad_list [.lst (ss.map D.int), .int c] = .ok (lsI bad) ∧ ¬ bad.Perm (one s) := by
  have hl : ss.length = s.toNat := by rw [hp.length_eq, one_len]
  have hn : ss.Nodup := hp.nodup_iff.mpr (one_nodup s)
  have hpos : (0 : Int) < ss.length := by omega
  have hpos2 : 0 < ss.length := by omega
  generalize hq : c / 5 = q
  have r0 := Int.emod_nonneg q (b := (ss.length : Int)) (by omega)
  have r1 := Int.emod_lt_of_pos q (b := (ss.length : Int)) hpos
  generalize hr : q % (ss.length : Int) = r at r0 r1
  have hr0 : r.toNat < ss.length := by omega
  have k0 := Int.emod_nonneg c (b := 5) (by omega)
  have k1 := Int.emod_lt_of_pos c (b := 5) (by omega)
  generalize hk : c % 5 = k at k0 k1
  have e1 : ixN ss.length r = some r.toNat := ixN_in r0 r1
  have e7 : (ss.map D.int)[r.toNat]? = some (.int ss[r.toNat]) := by rw [List.getElem?_map, List.getElem?_eq_getElem hr0]; rfl
  have lo := cut_lo (ss := ss) r0 (by omega)
  have hi := cut_hi (ss := ss) (a := r + 1) (by omega) (by omega)
  have hi1 := cut_hi (ss := ss) (a := 1) (by omega) (by omega)
  have ts : (r + 1).toNat = r.toNat + 1 := by omega
  rw [ts] at hi
  have l1 : (ss.map D.int).length = ss.length := List.length_map ..
  have y1 : ss.length ≤ 16777215 := by omega
  have y2 : r ≤ 16777215 := by omega
  have z1 : ss.length + 1 ≤ 16777216 := by omega
  have z2 : min r.toNat ss.length + 1 ≤ 16777216 := by omega
  have z3 : r.toNat + 1 ≤ 16777216 := by omega
  have z4 : r.toNat + 1 + (ss.length - (r.toNat + 1)) ≤ 16777216 := by omega
  have z5 : min r.toNat ss.length = r.toNat := by omega
  have base : ∀ v : Int, lsI (ss.take r.toNat ++ [v] ++ ss.drop (r.toNat + 1)) = .ls ((((ss.take r.toNat).map D.int ++ [D.int v]) ++ (ss.drop (r.toNat + 1)).map D.int).map OD.sh) := fun v => by simp [lsI]
  have lt : ((ss.take r.toNat).map D.int).length = r.toNat := by simp; omega
  have ld : ((ss.drop (r.toNat + 1)).map D.int).length = ss.length - (r.toNat + 1) := by simp
  have hcase : k = 0 ∨ k = 1 ∨ (k = 2 ∧ 1 < ss.length) ∨ k = 3 ∨ ((k = 4 ∨ k = 2) ∧ ¬ (k = 2 ∧ 1 < ss.length)) := by omega
  rcases hcase with rfl | rfl | ⟨rfl, h2⟩ | rfl | ⟨h4, h5⟩
  · refine ⟨ss.drop 1, ?_, fun h => ?_⟩
    · simp [F__law_bad_list, b__law_bad_list, runF, seqE, s_asg, m_op, o_flat, g_mod, g_fdiv, m_var, m_cb, c1, m_args, m_args0, u_flat, g_len, hq, hr, hk, hpos, hpos2, s_if, t_val, s_ret, m_slice, p_some, p_none, optA, asInt, o_slice, els, hi1, newL, -List.map_map, -List.map_drop]
    · have := h.length_eq
      rw [one_len, List.length_drop] at this
      omega
  · refine ⟨ss ++ [ss[r.toNat]], ?_, fun h => ?_⟩
    · rw [show lsI (ss ++ [ss[r.toNat]]) = .ls ((ss.map D.int).map OD.sh ++ [OD.sh (D.int ss[r.toNat])]) from by simp [lsI]]
      simp [F__law_bad_list, b__law_bad_list, runF, seqE, s_asg, m_op, o_flat, g_mod, g_fdiv, m_var, m_cb, c1, m_args, m_args0, u_flat, g_len, hq, hr, hk, hpos, hpos2, s_if, t_val, s_ret, s_nx, o_add, m_lst, owns, szOk, els, o_ix, atI, e1, hr0, newL, y1, z1, -List.map_map]
    · have := h.length_eq
      rw [one_len, List.length_append, List.length_singleton] at this
      omega
  · have hb : ∃ j : Nat, ∃ hj : j < ss.length, ixN ss.length (r - 1) = some j ∧ j ≠ r.toNat := by
      by_cases c0 : r = 0
      · refine ⟨ss.length - 1, by omega, ?_, by omega⟩
        subst c0
        unfold ixN
        rw [if_neg (by omega), if_pos (by omega)]
        congr 1
        omega
      · refine ⟨(r - 1).toNat, by omega, ixN_in (by omega) (by omega), by omega⟩
    obtain ⟨j, hj, ej, nj⟩ := hb
    refine ⟨ss.take r.toNat ++ [ss[j]] ++ ss.drop (r.toNat + 1), ?_, not_perm hp hr0 (fun z => nj ((List.getElem_inj hn).mp z))⟩
    have hgt : (1 : Int) < ss.length := by omega
    rw [base]
    generalize (ss.take r.toNat).map D.int = A at *
    generalize (ss.drop (r.toNat + 1)).map D.int = Bb at *
    simp [F__law_bad_list, b__law_bad_list, runF, seqE, s_asg, m_op, o_flat, g_mod, g_fdiv, m_var, m_cb, c1, m_args, m_args0, u_flat, g_len, hq, hr, hk, hpos, hpos2, s_if, t_and, t_val, g_gt, g_sub, h2, hgt, s_ret, s_nx, o_add, g_add, m_lst, owns, szOk, els, o_ix, atI, ej, hj, newL, m_slice, p_some, p_none, optA, asInt, o_slice, lo, hi, lt, ld, y1, y2, z3, z4, -List.map_map, -List.map_append, -List.map_drop, -List.map_take]
  · have hv : (0 : Int) ≠ ss[r.toNat] := by
      have := (perm_mem hp).mp (List.getElem_mem hr0)
      omega
    refine ⟨ss.take r.toNat ++ [0] ++ ss.drop (r.toNat + 1), ?_, not_perm hp hr0 hv⟩
    rw [base]
    generalize (ss.take r.toNat).map D.int = A at *
    generalize (ss.drop (r.toNat + 1)).map D.int = Bb at *
    simp [F__law_bad_list, b__law_bad_list, runF, seqE, s_asg, m_op, o_flat, g_mod, g_fdiv, m_var, m_cb, c1, m_args, m_args0, u_flat, g_len, hq, hr, hk, hpos, hpos2, s_if, t_and, t_val, s_ret, s_nx, o_add, g_add, m_lst, owns, szOk, els, newL, m_slice, p_some, p_none, optA, asInt, o_slice, lo, hi, lt, ld, y1, y2, z3, z4, -List.map_map, -List.map_append, -List.map_drop, -List.map_take]
  · have t0 := Int.emod_nonneg (c / 64) (b := 10 ^ 9) (by decide)
    have hv : (ss.length : Int) + 1 + c / 64 % 10 ^ 9 ≠ ss[r.toNat] := by
      have := (perm_mem hp).mp (List.getElem_mem hr0)
      omega
    refine ⟨ss.take r.toNat ++ [(ss.length : Int) + 1 + c / 64 % 10 ^ 9] ++ ss.drop (r.toNat + 1), ?_, not_perm hp hr0 hv⟩
    rw [base]
    have pw : powOk 10 9 = true := by decide
    have pw2 : (0 : Int) < 10 ^ 9 := by decide
    have pw3 : (10 : Int) ^ (9 : Int).toNat = 10 ^ 9 := rfl
    generalize (ss.take r.toNat).map D.int = A at *
    generalize (ss.drop (r.toNat + 1)).map D.int = Bb at *
    rcases h4 with rfl | rfl
    · simp [F__law_bad_list, b__law_bad_list, runF, seqE, s_asg, m_op, o_flat, g_mod, g_fdiv, g_pow, pw, m_var, m_cb, c1, m_args, m_args0, u_flat, g_len, hq, hr, hk, hpos, hpos2, s_if, t_and, t_val, s_ret, s_nx, o_add, g_add, m_lst, owns, szOk, els, newL, m_slice, p_some, p_none, optA, asInt, o_slice, lo, hi, lt, ld, y1, y2, z3, z4, -List.map_map, -List.map_append, -List.map_drop, -List.map_take]
    · have h6 : ¬ (1 < ss.length) := fun z => h5 ⟨rfl, z⟩
      have h7 : ¬ ((1 : Int) < ss.length) := by omega
      simp [F__law_bad_list, b__law_bad_list, runF, seqE, s_asg, m_op, o_flat, g_mod, g_fdiv, g_pow, pw, m_var, m_cb, c1, m_args, m_args0, u_flat, g_len, g_gt, h6, h7, hq, hr, hk, hpos, hpos2, s_if, t_and, t_val, s_ret, s_nx, o_add, g_add, m_lst, owns, szOk, els, newL, m_slice, p_some, p_none, optA, asInt, o_slice, lo, hi, lt, ld, y1, y2, z3, z4, -List.map_map, -List.map_append, -List.map_drop, -List.map_take]
end L66
end

section
set_option Elab.async false
set_option linter.all false
set_option maxRecDepth 100000
set_option maxHeartbeats 4000000
set_option autoImplicit false
/-! Pu_k66: the law's own def (printed by law66.py). -/
namespace L66
open PySem Dv L2

theorem back_at {mv : Int} (m1 : 0 ≤ mv) (m2 : mv < 8) : atI [D.int 0, .int 3, .int 2, .int 1, .int 4, .int 5, .int 6, .int 7] mv = some (.int (back mv)) := by
  have : mv = 0 ∨ mv = 1 ∨ mv = 2 ∨ mv = 3 ∨ mv = 4 ∨ mv = 5 ∨ mv = 6 ∨ mv = 7 := by omega
  rcases this with rfl | rfl | rfl | rfl | rfl | rfl | rfl | rfl <;> rfl
theorem odd_at {mv t : Int} (t1 : 0 ≤ t) (t2 : t < 4) (m1 : 0 ≤ mv) : ∃ od : Int, atI [D.int (-1), .int 8, .int (-9), .int (10 ^ 20 + mv)] t = some (.int od) ∧ ¬ (0 ≤ od ∧ od < 8) := by
  have : t = 0 ∨ t = 1 ∨ t = 2 ∨ t = 3 := by omega
  rcases this with rfl | rfl | rfl | rfl
  · exact ⟨-1, rfl, by omega⟩
  · exact ⟨8, rfl, by omega⟩
  · exact ⟨-9, rfl, by omega⟩
  · exact ⟨10 ^ 20 + mv, rfl, by omega⟩
theorem law_true (ns : List Int) (hl : ns.length ≤ 63) : F_law [.scr ns] = .ok (.sh (.bl true)) := by
  obtain ⟨h, w, s, e_fl, h1, h2, w1, w2, hw, s1, s2⟩ := p_floor ns hl
  obtain ⟨v3, e3⟩ := p_at ns 3 hl (by omega) (by omega)
  obtain ⟨v4, e4⟩ := p_at ns 4 hl (by omega) (by omega)
  obtain ⟨v5, e5⟩ := p_at ns 5 hl (by omega) (by omega)
  obtain ⟨v6, e6⟩ := p_at ns 6 hl (by omega) (by omega)
  have m1 := Int.emod_nonneg v3 (b := 8) (by omega)
  have m2 := Int.emod_lt_of_pos v3 (b := 8) (by omega)
  generalize h3 : v3 % 8 = mv at m1 m2
  have t1 := Int.emod_nonneg v6 (b := 4) (by omega)
  have t2 := Int.emod_lt_of_pos v6 (b := 4) (by omega)
  generalize h6 : v6 % 4 = t at t1 t2
  obtain ⟨od, e_od, od_no⟩ := odd_at t1 t2 m1
  obtain ⟨ss, e_ex, hp⟩ := p_exchange v4 s s1 s2
  have hsl : ss.length = s.toNat := by rw [hp.length_eq, one_len]
  have hol : (one s).length = s.toNat := one_len s
  have hw0 : 0 ≤ h * w := Int.mul_nonneg (by omega) (by omega)
  obtain ⟨k1, k2, k3, k4⟩ := back_ok m1 m2
  obtain ⟨g1, g2, g3, g4⟩ := hw_in mv h1 h2 w1 w2
  -- the filling
  obtain ⟨f, e_lc, hfl, hfv⟩ := fill_lc ns hl s s1 s2 h w none none none none none none none none none none none none ((List.range (h * w).toNat).map fun (k : Nat) => (0 + (k : Int))) [] (by
    intro k hk
    obtain ⟨j, hj, rfl⟩ := List.mem_map.mp hk
    have := List.mem_range.mp hj
    omega) (by simp; omega)
  have hf : (f.length : Int) = h * w := by rw [hfl]; simp; omega
  have hf3 : f.length < 1000 := by omega
  have er : rangeD 0 (h * w) = ((List.range (h * w).toNat).map fun (k : Nat) => (0 + (k : Int))).map D.int := by
    unfold rangeD
    rw [List.map_map, Int.sub_zero]
    rfl
  -- the calls
  have sgn : F_signs_by [flD h w s, .lst (ss.map D.int)] = .ok (lsI ss) := by rw [p_signs h w s ss s1 s2, if_pos (sort_one hp)]
  have sg0 := p_signs_none h w s s1 s2
  have mf0 : F_moved_filling [flD h w s, .lst (f.map D.int), .int mv, .non] = .ok (lsI (moved h w mv (0 :: one s) f)) := p_moved_filling h w s mv h1 h2 w1 w2 m1 m2 f (one s) .non sg0 hf (by omega) (fun x hx => by have := hfv x hx; omega)
  have mf1 : F_moved_filling [flD h w s, .lst (f.map D.int), .int mv, .lst (ss.map D.int)] = .ok (lsI (moved h w mv (0 :: ss) f)) := p_moved_filling h w s mv h1 h2 w1 w2 m1 m2 f ss _ sgn hf (by omega) (fun x hx => by have := hfv x hx; omega)
  have du0 : F__law_due [flD h w s, .lst (f.map D.int), .int mv, .lst ((one s).map D.int)] = .ok (lsI (dueI h w mv (one s) f)) := p_due h w s mv h1 h2 w1 w2 m1 m2 (one s) f (by omega) hf (fun x hx => by have := hfv x hx; omega)
  have du1 : F__law_due [flD h w s, .lst (f.map D.int), .int mv, .lst (ss.map D.int)] = .ok (lsI (dueI h w mv ss f)) := p_due h w s mv h1 h2 w1 w2 m1 m2 ss f (by omega) hf (fun x hx => by have := hfv x hx; omega)
  have dm0 := due_moved (ss := one s) h1 h2 w1 w2 m1 m2 hf
  have dm1 := due_moved (ss := ss) h1 h2 w1 w2 m1 m2 hf
  have are0 : F__law_are [.lst ((moved h w mv (0 :: one s) f).map D.int), .lst ((dueI h w mv (one s) f).map D.int)] = .ok (.sh (.bl true)) := by
    rw [p_are _ _ (by rw [moved_len]; exact hf3), dm0]; simp
  have are1 : F__law_are [.lst ((moved h w mv (0 :: ss) f).map D.int), .lst ((dueI h w mv ss f).map D.int)] = .ok (.sh (.bl true)) := by
    rw [p_are _ _ (by rw [moved_len]; exact hf3), dm1]; simp
  have e_mfl := p_moved_floor h w s mv m1 m2
  have tp := turned_perm (by omega) hp
  have sg2 : F_signs_by [flD (high2 h w mv) (wide2 h w mv) s, .lst ((turned ss s).map D.int)] = .ok (lsI (turned ss s)) := by rw [p_signs _ _ s _ s1 s2, if_pos (sort_one tp)]
  have htl : (turned ss s).length = s.toNat := by rw [tp.length_eq, one_len]
  have mf2 : F_moved_filling [flD (high2 h w mv) (wide2 h w mv) s, .lst ((moved h w mv (0 :: ss) f).map D.int), .int (back mv), .lst ((turned ss s).map D.int)] = .ok (lsI f) := by
    rw [p_moved_filling _ _ s _ g1 g2 g3 g4 k1 k2 _ _ _ sg2 (by rw [moved_len, hw_swap]; exact hf) (by omega) ?_, there_back h1 h2 w1 w2 m1 m2 (by omega) hp hf hfv]
    intro x hx
    rw [htl]
    -- each number moved is a sign or none
    obtain ⟨j, hj⟩ := List.mem_iff_getElem?.mp hx
    have hjl : j < f.length := by have := (List.getElem?_eq_some_iff.mp hj).1; rw [moved_len] at this; exact this
    have q := sp_back (j := (j : Int)) h1 h2 w1 w2 m1 m2 (by omega) (by omega)
    have hi : (sp (high2 h w mv) (wide2 h w mv) (back mv) j).toNat < f.length := by omega
    have z := moved_at (ch := 0 :: ss) h1 h2 w1 w2 m1 m2 hf (List.getElem?_eq_getElem hi)
    rw [Int.toNat_of_nonneg q.1, q.2.2, Int.toNat_natCast, hj] at z
    have hx2 := Option.some.inj z
    have hb := hfv _ (List.getElem_mem hi)
    rw [hx2]
    generalize f[(sp (high2 h w mv) (wide2 h w mv) (back mv) j).toNat] = y at hb
    obtain ⟨n, rfl⟩ : ∃ n : Nat, y = n := ⟨y.toNat, by omega⟩
    rw [Int.toNat_natCast]
    cases n with
    | zero =>
      rw [List.getD_cons_zero]
      omega
    | succ k =>
      have hk : k < ss.length := by omega
      rw [List.getD_cons_succ, List.getD_eq_getElem?_getD, List.getElem?_eq_getElem hk]
      have := (perm_mem hp).mp (List.getElem_mem hk)
      simp only [Option.getD_some]
      omega
  have are2 : F__law_are [.lst (f.map D.int), .lst (f.map D.int)] = .ok (.sh (.bl true)) := by
    rw [p_are _ _ hf3]; simp
  obtain ⟨bad, e_bad, bad_no⟩ := p_bad_list v5 s1 s2 hp
  have sgb : F_signs_by [flD h w s, .lst (bad.map D.int)] = .exc "NoMove" := by
    rw [p_signs h w s bad s1 s2, if_neg fun z => bad_no (perm_of_sort z)]
  have rf0 : F__law_refused [flD h w s, .lst (f.map D.int), .int mv, .lst (bad.map D.int)] = .ok (.sh (.bl true)) := p_refused _ _ _ _ (p_mf_bad _ _ _ _ sgb)
  have rf1 : F__law_refused [flD h w s, .lst (f.map D.int), .int od, .non] = .ok (.sh (.bl true)) := p_refused _ _ _ _ (p_mf_odd _ _ f (one s) od od_no sg0 (by omega) hf3)
  have rf2 : F__law_refused [flD h w s, .lst (f.map D.int), .int od, .lst (ss.map D.int)] = .ok (.sh (.bl true)) := p_refused _ _ _ _ (p_mf_odd _ _ f ss od od_no sgn (by omega) hf3)
  have b1 : -(4611686018427387904 : Int) ≤ s + 1 := by omega
  have b2 : s + 1 < 4611686018427387904 := by omega
  have b3 : s ≤ 16777216 := by omega
  have b4 : -(4611686018427387904 : Int) ≤ h * w := by omega
  have b5 : h * w < 4611686018427387904 := by omega
  have b6 : mulOk h w = true := mulOk_l (by omega) (by omega)
  have pw : powOk 10 20 = true := by decide
  have q1 : (s_asg (m_callN 1 F__law_floor [] (m_args (m_var 0) m_args0)) (g_name 1))
      [some (.sh (.scr ns)), none, none, none, none, none, none, none, none, none, none, none, none, none, none] = .ok .nx [some (.sh (.scr ns)), some (.sh (flD h w s)), none, none, none, none, none, none, none, none, none, none, none, none, none] := by
    simp [D.atL, ints_own, s_asg, s_if, s_nx, t_val, t_not, t_or, m_callN, runCall, m_args, m_args0, m_var, owns, Dv.own, Op.view, Op.at?, OD.at?, Dv.thaw, ints_own2, OD.own, D.flat, m_op, m_un, m_cb, c_list, newL, o_ix, o_flat, o_add, g_add, g_mod, g_mul, szOk, e_fl, -List.map_map]
  have q2 : (s_asg (m_lc [3] (i_range1 (m_args (m_op (o_flat g_mul) (m_op o_ix (m_var 1) (m_c (.int 0))) (m_op o_ix (m_var 1) (m_c (.int 1)))) m_args0)) (g_name 3) t_yes (m_op (o_flat g_mod) (m_callN 2 F__law_at [] (m_args (m_var 0) (m_args (m_op o_add (m_c (.int 7)) (m_var 3)) m_args0))) (m_op o_add (m_op o_ix (m_var 1) (m_c (.int 2))) (m_c (.int 1))))) (g_name 2))
      [some (.sh (.scr ns)), some (.sh (flD h w s)), none, none, none, none, none, none, none, none, none, none, none, none, none] = .ok .nx [some (.sh (.scr ns)), some (.sh (flD h w s)), some (lsI f), none, none, none, none, none, none, none, none, none, none, none, none] := by
    have em : m_lc [3] (i_range1 (m_args (m_op (o_flat g_mul) (m_op o_ix (m_var 1) (m_c (.int 0))) (m_op o_ix (m_var 1) (m_c (.int 1)))) m_args0)) (g_name 3) t_yes (m_op (o_flat g_mod) (m_callN 2 F__law_at [] (m_args (m_var 0) (m_args (m_op o_add (m_c (.int 7)) (m_var 3)) m_args0))) (m_op o_add (m_op o_ix (m_var 1) (m_c (.int 2))) (m_c (.int 1)))) [some (.sh (.scr ns)), some (.sh (flD h w s)), none, none, none, none, none, none, none, none, none, none, none, none, none] = .ok (.v (lsI f)) [some (.sh (.scr ns)), some (.sh (flD h w s)), none, none, none, none, none, none, none, none, none, none, none, none, none] := by
      unfold m_lc
      have ei : i_range1 (m_args (m_op (o_flat g_mul) (m_op o_ix (m_var 1) (m_c (.int 0))) (m_op o_ix (m_var 1) (m_c (.int 1)))) m_args0) [some (.sh (.scr ns)), some (.sh (flD h w s)), none, none, none, none, none, none, none, none, none, none, none, none, none] = .ok (rangeD 0 (h * w)) [some (.sh (.scr ns)), some (.sh (flD h w s)), none, none, none, none, none, none, none, none, none, none, none, none, none] := by
        simp [i_range1, m_args, m_args0, m_op, o_flat, g_mul, b6, m_var, o_ix, atI, ixN, rngOk, b4, b5]
      rw [er] at ei
      generalize (m_op (o_flat g_mod) (m_callN 2 F__law_at [] (m_args (m_var 0) (m_args (m_op o_add (m_c (.int 7)) (m_var 3)) m_args0))) (m_op o_add (m_op o_ix (m_var 1) (m_c (.int 2))) (m_c (.int 1)))) = MM at e_lc ⊢
      rw [List.map_nil, List.nil_append] at e_lc
      generalize ((List.range (h * w).toNat).map fun (k : Nat) => (0 + (k : Int))) = ks at e_lc ei
      simp only [bindE, ei, th_ok]
      simp [wipeE, saved, restore, -List.map_map, e_lc, newL]
    generalize m_lc [3] (i_range1 (m_args (m_op (o_flat g_mul) (m_op o_ix (m_var 1) (m_c (.int 0))) (m_op o_ix (m_var 1) (m_c (.int 1)))) m_args0)) (g_name 3) t_yes (m_op (o_flat g_mod) (m_callN 2 F__law_at [] (m_args (m_var 0) (m_args (m_op o_add (m_c (.int 7)) (m_var 3)) m_args0))) (m_op o_add (m_op o_ix (m_var 1) (m_c (.int 2))) (m_c (.int 1)))) = MM at em ⊢
    simp [s_asg, em, -List.map_map]
  have q3 : (s_asg (m_op (o_flat g_mod) (m_callN 2 F__law_at [] (m_args (m_var 0) (m_args (m_c (.int 3)) m_args0))) (m_c (.int 8))) (g_name 4))
      [some (.sh (.scr ns)), some (.sh (flD h w s)), some (lsI f), none, none, none, none, none, none, none, none, none, none, none, none] = .ok .nx [some (.sh (.scr ns)), some (.sh (flD h w s)), some (lsI f), none, some (.sh (.int mv)), none, none, none, none, none, none, none, none, none, none] := by
    simp [D.atL, ints_own, s_asg, s_if, s_nx, t_val, t_not, t_or, m_callN, runCall, m_args, m_args0, m_var, owns, Dv.own, Op.view, Op.at?, OD.at?, Dv.thaw, ints_own2, OD.own, D.flat, m_op, m_un, m_cb, c_list, newL, o_ix, o_flat, o_add, g_add, g_mod, g_mul, szOk, e3, h3, -List.map_map]
  have q4 : (s_asg (m_op o_ix (m_lst (m_args (m_c (.int 0)) (m_args (m_c (.int 3)) (m_args (m_c (.int 2)) (m_args (m_c (.int 1)) (m_args (m_c (.int 4)) (m_args (m_c (.int 5)) (m_args (m_c (.int 6)) (m_args (m_c (.int 7)) m_args0))))))))) (m_var 4)) (g_name 5))
      [some (.sh (.scr ns)), some (.sh (flD h w s)), some (lsI f), none, some (.sh (.int mv)), none, none, none, none, none, none, none, none, none, none] = .ok .nx [some (.sh (.scr ns)), some (.sh (flD h w s)), some (lsI f), none, some (.sh (.int mv)), some (.sh (.int (back mv))), none, none, none, none, none, none, none, none, none] := by
    have eb := back_at m1 m2
    simp [s_asg, m_op, m_lst, m_args, m_args0, owns, szOk, m_var, o_ix, eb, -List.map_map]
  have q5 : (s_asg (l_range2 (m_c (.int 1)) (m_op o_add (m_op o_ix (m_var 1) (m_c (.int 2))) (m_c (.int 1)))) (g_name 6))
      [some (.sh (.scr ns)), some (.sh (flD h w s)), some (lsI f), none, some (.sh (.int mv)), some (.sh (.int (back mv))), none, none, none, none, none, none, none, none, none] = .ok .nx [some (.sh (.scr ns)), some (.sh (flD h w s)), some (lsI f), none, some (.sh (.int mv)), some (.sh (.int (back mv))), some (lsI (one s)), none, none, none, none, none, none, none, none] := by
    simp [D.atL, ints_own, s_asg, s_if, s_nx, t_val, t_not, t_or, m_callN, runCall, m_args, m_args0, m_var, owns, Dv.own, Op.view, Op.at?, OD.at?, Dv.thaw, ints_own2, OD.own, D.flat, m_op, m_un, m_cb, c_list, newL, o_ix, o_flat, o_add, g_add, g_mod, g_mul, szOk, l_range2, atI, ixN, rngOk, b1, b2, b3, rg_one, -List.map_map]
  have q6 : (s_asg (m_callN 2 F__law_exchange [] (m_args (m_callN 2 F__law_at [] (m_args (m_var 0) (m_args (m_c (.int 4)) m_args0))) (m_args (m_op o_ix (m_var 1) (m_c (.int 2))) m_args0))) (g_name 7))
      [some (.sh (.scr ns)), some (.sh (flD h w s)), some (lsI f), none, some (.sh (.int mv)), some (.sh (.int (back mv))), some (lsI (one s)), none, none, none, none, none, none, none, none] = .ok .nx [some (.sh (.scr ns)), some (.sh (flD h w s)), some (lsI f), none, some (.sh (.int mv)), some (.sh (.int (back mv))), some (lsI (one s)), some (lsI ss), none, none, none, none, none, none, none] := by
    simp [D.atL, ints_own, s_asg, s_if, s_nx, t_val, t_not, t_or, m_callN, runCall, m_args, m_args0, m_var, owns, Dv.own, Op.view, Op.at?, OD.at?, Dv.thaw, ints_own2, OD.own, D.flat, m_op, m_un, m_cb, c_list, newL, o_ix, o_flat, o_add, g_add, g_mod, g_mul, szOk, e4, e_ex, atI, ixN, -List.map_map]
  have q7 : (s_if (t_not (t_val (m_callN 2 F__law_are [] (m_args (m_callN 4 F_moved_filling [.non] (m_args (m_var 1) (m_args (m_cb c_list (m_args (m_var 2) m_args0)) (m_args (m_var 4) m_args0)))) (m_args (m_callN 4 F__law_due [] (m_args (m_var 1) (m_args (m_var 2) (m_args (m_var 4) (m_args (m_var 6) m_args0))))) m_args0)))))
    (s_ret (m_c (.bl false)))
    s_nx)
      [some (.sh (.scr ns)), some (.sh (flD h w s)), some (lsI f), none, some (.sh (.int mv)), some (.sh (.int (back mv))), some (lsI (one s)), some (lsI ss), none, none, none, none, none, none, none] = .ok .nx [some (.sh (.scr ns)), some (.sh (flD h w s)), some (.sh (.lst (f.map D.int))), none, some (.sh (.int mv)), some (.sh (.int (back mv))), some (lsI (one s)), some (lsI ss), none, none, none, none, none, none, none] := by
    simp [D.atL, ints_own, s_asg, s_if, s_nx, t_val, t_not, t_or, m_callN, runCall, m_args, m_args0, m_var, owns, Dv.own, Op.view, Op.at?, OD.at?, Dv.thaw, ints_own2, OD.own, D.flat, m_op, m_un, m_cb, c_list, newL, o_ix, o_flat, o_add, g_add, g_mod, g_mul, szOk, mf0, du0, are0, -List.map_map]
  have q8 : (s_if (t_not (t_val (m_callN 2 F__law_are [] (m_args (m_callN 4 F_moved_filling [] (m_args (m_var 1) (m_args (m_cb c_list (m_args (m_var 2) m_args0)) (m_args (m_var 4) (m_args (m_c .non) m_args0))))) (m_args (m_callN 4 F__law_due [] (m_args (m_var 1) (m_args (m_var 2) (m_args (m_var 4) (m_args (m_var 6) m_args0))))) m_args0)))))
    (s_ret (m_c (.bl false)))
    s_nx)
      [some (.sh (.scr ns)), some (.sh (flD h w s)), some (.sh (.lst (f.map D.int))), none, some (.sh (.int mv)), some (.sh (.int (back mv))), some (lsI (one s)), some (lsI ss), none, none, none, none, none, none, none] = .ok .nx [some (.sh (.scr ns)), some (.sh (flD h w s)), some (.sh (.lst (f.map D.int))), none, some (.sh (.int mv)), some (.sh (.int (back mv))), some (lsI (one s)), some (lsI ss), none, none, none, none, none, none, none] := by
    simp [D.atL, ints_own, s_asg, s_if, s_nx, t_val, t_not, t_or, m_callN, runCall, m_args, m_args0, m_var, owns, Dv.own, Op.view, Op.at?, OD.at?, Dv.thaw, ints_own2, OD.own, D.flat, m_op, m_un, m_cb, c_list, newL, o_ix, o_flat, o_add, g_add, g_mod, g_mul, szOk, mf0, du0, are0, -List.map_map]
  have q9 : (s_asg (m_callN 4 F__law_due [] (m_args (m_var 1) (m_args (m_var 2) (m_args (m_var 4) (m_args (m_var 7) m_args0))))) (g_name 8))
      [some (.sh (.scr ns)), some (.sh (flD h w s)), some (.sh (.lst (f.map D.int))), none, some (.sh (.int mv)), some (.sh (.int (back mv))), some (lsI (one s)), some (lsI ss), none, none, none, none, none, none, none] = .ok .nx [some (.sh (.scr ns)), some (.sh (flD h w s)), some (.sh (.lst (f.map D.int))), none, some (.sh (.int mv)), some (.sh (.int (back mv))), some (lsI (one s)), some (lsI ss), some (lsI (dueI h w mv ss f)), none, none, none, none, none, none] := by
    simp [D.atL, ints_own, s_asg, s_if, s_nx, t_val, t_not, t_or, m_callN, runCall, m_args, m_args0, m_var, owns, Dv.own, Op.view, Op.at?, OD.at?, Dv.thaw, ints_own2, OD.own, D.flat, m_op, m_un, m_cb, c_list, newL, o_ix, o_flat, o_add, g_add, g_mod, g_mul, szOk, du1, -List.map_map]
  have q10 : (s_asg (m_lst (m_args (m_cb c_list (m_args (m_var 2) m_args0)) (m_args (m_cb c_list (m_args (m_var 7) m_args0)) m_args0))) (g_name 9))
      [some (.sh (.scr ns)), some (.sh (flD h w s)), some (.sh (.lst (f.map D.int))), none, some (.sh (.int mv)), some (.sh (.int (back mv))), some (lsI (one s)), some (lsI ss), some (lsI (dueI h w mv ss f)), none, none, none, none, none, none] = .ok .nx [some (.sh (.scr ns)), some (.sh (flD h w s)), some (.sh (.lst (f.map D.int))), none, some (.sh (.int mv)), some (.sh (.int (back mv))), some (lsI (one s)), some (.sh (.lst (ss.map D.int))), some (lsI (dueI h w mv ss f)), some (.ls [lsI f, lsI ss]), none, none, none, none, none] := by
    simp [D.atL, ints_own, s_asg, s_if, s_nx, t_val, t_not, t_or, m_callN, runCall, m_args, m_args0, m_var, owns, Dv.own, Op.view, Op.at?, OD.at?, Dv.thaw, ints_own2, OD.own, D.flat, m_op, m_un, m_cb, c_list, newL, o_ix, o_flat, o_add, g_add, g_mod, g_mul, szOk, m_lst, -List.map_map]
  have q11 : (s_asg (m_callN 4 F_moved_filling [] (m_args (m_var 1) (m_args (m_op o_ix (m_var 9) (m_c (.int 0))) (m_args (m_var 4) (m_args (m_op o_ix (m_var 9) (m_c (.int 1))) m_args0))))) (g_name 10))
      [some (.sh (.scr ns)), some (.sh (flD h w s)), some (.sh (.lst (f.map D.int))), none, some (.sh (.int mv)), some (.sh (.int (back mv))), some (lsI (one s)), some (.sh (.lst (ss.map D.int))), some (lsI (dueI h w mv ss f)), some (.ls [lsI f, lsI ss]), none, none, none, none, none] = .ok .nx [some (.sh (.scr ns)), some (.sh (flD h w s)), some (.sh (.lst (f.map D.int))), none, some (.sh (.int mv)), some (.sh (.int (back mv))), some (lsI (one s)), some (.sh (.lst (ss.map D.int))), some (lsI (dueI h w mv ss f)), some (.ls [lsI f, lsI ss]), some (lsI (moved h w mv (0 :: ss) f)), none, none, none, none] := by
    simp [D.atL, ints_own, s_asg, s_if, s_nx, t_val, t_not, t_or, m_callN, runCall, m_args, m_args0, m_var, owns, Dv.own, Op.view, Op.at?, OD.at?, Dv.thaw, ints_own2, OD.own, D.flat, m_op, m_un, m_cb, c_list, newL, o_ix, o_flat, o_add, g_add, g_mod, g_mul, szOk, mf1, atI, ixN, -List.map_map]
  have q12 : (s_if (t_or (t_not (t_val (m_callN 2 F__law_are [] (m_args (m_var 10) (m_args (m_var 8) m_args0))))) (t_val (m_op (o_flat g_ne) (m_var 9) (m_lst (m_args (m_var 2) (m_args (m_var 7) m_args0))))))
    (s_ret (m_c (.bl false)))
    s_nx)
      [some (.sh (.scr ns)), some (.sh (flD h w s)), some (.sh (.lst (f.map D.int))), none, some (.sh (.int mv)), some (.sh (.int (back mv))), some (lsI (one s)), some (.sh (.lst (ss.map D.int))), some (lsI (dueI h w mv ss f)), some (.ls [lsI f, lsI ss]), some (lsI (moved h w mv (0 :: ss) f)), none, none, none, none] = .ok .nx [some (.sh (.scr ns)), some (.sh (flD h w s)), some (.sh (.lst (f.map D.int))), none, some (.sh (.int mv)), some (.sh (.int (back mv))), some (lsI (one s)), some (.sh (.lst (ss.map D.int))), some (lsI (dueI h w mv ss f)), some (.ls [lsI f, lsI ss]), some (lsI (moved h w mv (0 :: ss) f)), none, none, none, none] := by
    simp [D.atL, ints_own, s_asg, s_if, s_nx, t_val, t_not, t_or, m_callN, runCall, m_args, m_args0, m_var, owns, Dv.own, Op.view, Op.at?, OD.at?, Dv.thaw, ints_own2, OD.own, D.flat, m_op, m_un, m_cb, c_list, newL, o_ix, o_flat, o_add, g_add, g_mod, g_mul, szOk, are1, m_lst, vw, -List.map_map]
  have q13 : (s_asg (m_callN 2 F_moved_floor [] (m_args (m_var 1) (m_args (m_var 4) m_args0))) (g_name 11))
      [some (.sh (.scr ns)), some (.sh (flD h w s)), some (.sh (.lst (f.map D.int))), none, some (.sh (.int mv)), some (.sh (.int (back mv))), some (lsI (one s)), some (.sh (.lst (ss.map D.int))), some (lsI (dueI h w mv ss f)), some (.ls [lsI f, lsI ss]), some (lsI (moved h w mv (0 :: ss) f)), none, none, none, none] = .ok .nx [some (.sh (.scr ns)), some (.sh (flD h w s)), some (.sh (.lst (f.map D.int))), none, some (.sh (.int mv)), some (.sh (.int (back mv))), some (lsI (one s)), some (.sh (.lst (ss.map D.int))), some (lsI (dueI h w mv ss f)), some (.ls [lsI f, lsI ss]), some (lsI (moved h w mv (0 :: ss) f)), some (.sh (flD (high2 h w mv) (wide2 h w mv) s)), none, none, none] := by
    simp [D.atL, ints_own, s_asg, s_if, s_nx, t_val, t_not, t_or, m_callN, runCall, m_args, m_args0, m_var, owns, Dv.own, Op.view, Op.at?, OD.at?, Dv.thaw, ints_own2, OD.own, D.flat, m_op, m_un, m_cb, c_list, newL, o_ix, o_flat, o_add, g_add, g_mod, g_mul, szOk, e_mfl, -List.map_map]
  have q14 : (s_asg (m_lc [13] (i_of (m_var 6)) (g_name 13) t_yes (m_op o_add (m_bm1 isLst o_index (m_var 7) (m_var 13)) (m_c (.int 1)))) (g_name 12))
      [some (.sh (.scr ns)), some (.sh (flD h w s)), some (.sh (.lst (f.map D.int))), none, some (.sh (.int mv)), some (.sh (.int (back mv))), some (lsI (one s)), some (.sh (.lst (ss.map D.int))), some (lsI (dueI h w mv ss f)), some (.ls [lsI f, lsI ss]), some (lsI (moved h w mv (0 :: ss) f)), some (.sh (flD (high2 h w mv) (wide2 h w mv) s)), none, none, none] = .ok .nx [some (.sh (.scr ns)), some (.sh (flD h w s)), some (.sh (.lst (f.map D.int))), none, some (.sh (.int mv)), some (.sh (.int (back mv))), some (.sh (.lst ((one s).map D.int))), some (.sh (.lst (ss.map D.int))), some (lsI (dueI h w mv ss f)), some (.ls [lsI f, lsI ss]), some (lsI (moved h w mv (0 :: ss) f)), some (.sh (flD (high2 h w mv) (wide2 h w mv) s)), some (lsI (turned ss s)), none, none] := by
    have lc := tn_lc ss (some (.sh (.scr ns))) (some (.sh (flD h w s))) (some (.sh (.lst (f.map D.int)))) (none) (some (.sh (.int mv))) (some (.sh (.int (back mv)))) (some (.sh (.lst ((one s).map D.int)))) (some (lsI (dueI h w mv ss f))) (some (.ls [lsI f, lsI ss])) (some (lsI (moved h w mv (0 :: ss) f))) (some (.sh (flD (high2 h w mv) (wide2 h w mv) s))) none (none) (one s) [] (fun x hx => hp.mem_iff.mpr hx) (by simp; omega)
    rw [List.map_nil, List.nil_append] at lc
    have em : m_lc [13] (i_of (m_var 6)) (g_name 13) t_yes (m_op o_add (m_bm1 isLst o_index (m_var 7) (m_var 13)) (m_c (.int 1))) [some (.sh (.scr ns)), some (.sh (flD h w s)), some (.sh (.lst (f.map D.int))), none, some (.sh (.int mv)), some (.sh (.int (back mv))), some (lsI (one s)), some (.sh (.lst (ss.map D.int))), some (lsI (dueI h w mv ss f)), some (.ls [lsI f, lsI ss]), some (lsI (moved h w mv (0 :: ss) f)), some (.sh (flD (high2 h w mv) (wide2 h w mv) s)), none, none, none] = .ok (.v (lsI (turned ss s))) [some (.sh (.scr ns)), some (.sh (flD h w s)), some (.sh (.lst (f.map D.int))), none, some (.sh (.int mv)), some (.sh (.int (back mv))), some (.sh (.lst ((one s).map D.int))), some (.sh (.lst (ss.map D.int))), some (lsI (dueI h w mv ss f)), some (.ls [lsI f, lsI ss]), some (lsI (moved h w mv (0 :: ss) f)), some (.sh (flD (high2 h w mv) (wide2 h w mv) s)), none, none, none] := by
      unfold m_lc
      have ei : i_of (m_var 6) [some (.sh (.scr ns)), some (.sh (flD h w s)), some (.sh (.lst (f.map D.int))), none, some (.sh (.int mv)), some (.sh (.int (back mv))), some (lsI (one s)), some (.sh (.lst (ss.map D.int))), some (lsI (dueI h w mv ss f)), some (.ls [lsI f, lsI ss]), some (lsI (moved h w mv (0 :: ss) f)), some (.sh (flD (high2 h w mv) (wide2 h w mv) s)), none, none, none] = .ok ((one s).map D.int) [some (.sh (.scr ns)), some (.sh (flD h w s)), some (.sh (.lst (f.map D.int))), none, some (.sh (.int mv)), some (.sh (.int (back mv))), some (.sh (.lst ((one s).map D.int))), some (.sh (.lst (ss.map D.int))), some (lsI (dueI h w mv ss f)), some (.ls [lsI f, lsI ss]), some (lsI (moved h w mv (0 :: ss) f)), some (.sh (flD (high2 h w mv) (wide2 h w mv) s)), none, none, none] := by
        simp [i_of, m_var, Dv.own, Op.view, Op.at?, Dv.thaw, itemsD, -List.map_map]
      generalize (m_op o_add (m_bm1 isLst o_index (m_var 7) (m_var 13)) (m_c (.int 1))) = MM at lc ⊢
      simp only [bindE, ei, th_ok]
      simp [wipeE, saved, restore, -List.map_map, lc, newL, turned]
    generalize m_lc [13] (i_of (m_var 6)) (g_name 13) t_yes (m_op o_add (m_bm1 isLst o_index (m_var 7) (m_var 13)) (m_c (.int 1))) = MM at em ⊢
    simp [s_asg, em, -List.map_map]
  have q15 : (s_if (t_not (t_val (m_callN 2 F__law_are [] (m_args (m_callN 4 F_moved_filling [] (m_args (m_var 11) (m_args (m_var 10) (m_args (m_var 5) (m_args (m_var 12) m_args0))))) (m_args (m_var 2) m_args0)))))
    (s_ret (m_c (.bl false)))
    s_nx)
      [some (.sh (.scr ns)), some (.sh (flD h w s)), some (.sh (.lst (f.map D.int))), none, some (.sh (.int mv)), some (.sh (.int (back mv))), some (.sh (.lst ((one s).map D.int))), some (.sh (.lst (ss.map D.int))), some (lsI (dueI h w mv ss f)), some (.ls [lsI f, lsI ss]), some (lsI (moved h w mv (0 :: ss) f)), some (.sh (flD (high2 h w mv) (wide2 h w mv) s)), some (lsI (turned ss s)), none, none] = .ok .nx [some (.sh (.scr ns)), some (.sh (flD h w s)), some (.sh (.lst (f.map D.int))), none, some (.sh (.int mv)), some (.sh (.int (back mv))), some (.sh (.lst ((one s).map D.int))), some (.sh (.lst (ss.map D.int))), some (lsI (dueI h w mv ss f)), some (.ls [lsI f, lsI ss]), some (lsI (moved h w mv (0 :: ss) f)), some (.sh (flD (high2 h w mv) (wide2 h w mv) s)), some (lsI (turned ss s)), none, none] := by
    simp [D.atL, ints_own, s_asg, s_if, s_nx, t_val, t_not, t_or, m_callN, runCall, m_args, m_args0, m_var, owns, Dv.own, Op.view, Op.at?, OD.at?, Dv.thaw, ints_own2, OD.own, D.flat, m_op, m_un, m_cb, c_list, newL, o_ix, o_flat, o_add, g_add, g_mod, g_mul, szOk, mf2, are2, -List.map_map]
  have q16 : (s_if (t_not (t_val (m_callN 4 F__law_refused [] (m_args (m_var 1) (m_args (m_op o_ix (m_var 9) (m_c (.int 0))) (m_args (m_var 4) (m_args (m_callN 2 F__law_bad_list [] (m_args (m_var 7) (m_args (m_callN 2 F__law_at [] (m_args (m_var 0) (m_args (m_c (.int 5)) m_args0))) m_args0))) m_args0)))))))
    (s_ret (m_c (.bl false)))
    s_nx)
      [some (.sh (.scr ns)), some (.sh (flD h w s)), some (.sh (.lst (f.map D.int))), none, some (.sh (.int mv)), some (.sh (.int (back mv))), some (.sh (.lst ((one s).map D.int))), some (.sh (.lst (ss.map D.int))), some (lsI (dueI h w mv ss f)), some (.ls [lsI f, lsI ss]), some (lsI (moved h w mv (0 :: ss) f)), some (.sh (flD (high2 h w mv) (wide2 h w mv) s)), some (lsI (turned ss s)), none, none] = .ok .nx [some (.sh (.scr ns)), some (.sh (flD h w s)), some (.sh (.lst (f.map D.int))), none, some (.sh (.int mv)), some (.sh (.int (back mv))), some (.sh (.lst ((one s).map D.int))), some (.sh (.lst (ss.map D.int))), some (lsI (dueI h w mv ss f)), some (.ls [lsI f, lsI ss]), some (lsI (moved h w mv (0 :: ss) f)), some (.sh (flD (high2 h w mv) (wide2 h w mv) s)), some (lsI (turned ss s)), none, none] := by
    simp [D.atL, ints_own, s_asg, s_if, s_nx, t_val, t_not, t_or, m_callN, runCall, m_args, m_args0, m_var, owns, Dv.own, Op.view, Op.at?, OD.at?, Dv.thaw, ints_own2, OD.own, D.flat, m_op, m_un, m_cb, c_list, newL, o_ix, o_flat, o_add, g_add, g_mod, g_mul, szOk, e5, e_bad, rf0, ixN, -List.map_map]
  have q17 : (s_asg (m_op o_ix (m_lst (m_args (m_un (u_flat u_neg) (m_c (.int 1))) (m_args (m_c (.int 8)) (m_args (m_un (u_flat u_neg) (m_c (.int 9))) (m_args (m_op o_add (m_op (o_flat g_pow) (m_c (.int 10)) (m_c (.int 20))) (m_var 4)) m_args0))))) (m_op (o_flat g_mod) (m_callN 2 F__law_at [] (m_args (m_var 0) (m_args (m_c (.int 6)) m_args0))) (m_c (.int 4)))) (g_name 14))
      [some (.sh (.scr ns)), some (.sh (flD h w s)), some (.sh (.lst (f.map D.int))), none, some (.sh (.int mv)), some (.sh (.int (back mv))), some (.sh (.lst ((one s).map D.int))), some (.sh (.lst (ss.map D.int))), some (lsI (dueI h w mv ss f)), some (.ls [lsI f, lsI ss]), some (lsI (moved h w mv (0 :: ss) f)), some (.sh (flD (high2 h w mv) (wide2 h w mv) s)), some (lsI (turned ss s)), none, none] = .ok .nx [some (.sh (.scr ns)), some (.sh (flD h w s)), some (.sh (.lst (f.map D.int))), none, some (.sh (.int mv)), some (.sh (.int (back mv))), some (.sh (.lst ((one s).map D.int))), some (.sh (.lst (ss.map D.int))), some (lsI (dueI h w mv ss f)), some (.ls [lsI f, lsI ss]), some (lsI (moved h w mv (0 :: ss) f)), some (.sh (flD (high2 h w mv) (wide2 h w mv) s)), some (lsI (turned ss s)), none, some (.sh (.int od))] := by
    simp [D.atL, ints_own, s_asg, s_if, s_nx, t_val, t_not, t_or, m_callN, runCall, m_args, m_args0, m_var, owns, Dv.own, Op.view, Op.at?, OD.at?, Dv.thaw, ints_own2, OD.own, D.flat, m_op, m_un, m_cb, c_list, newL, o_ix, o_flat, o_add, g_add, g_mod, g_mul, szOk, e6, h6, m_lst, u_flat, u_neg, g_pow, pw, -List.map_map, -Int.reducePow]
    have e_od2 := e_od
    simp at e_od2
    simp [e_od2]
  have q18 : (s_if (t_or (t_not (t_val (m_callN 4 F__law_refused [] (m_args (m_var 1) (m_args (m_op o_ix (m_var 9) (m_c (.int 0))) (m_args (m_var 14) (m_args (m_c .non) m_args0))))))) (t_not (t_val (m_callN 4 F__law_refused [] (m_args (m_var 1) (m_args (m_op o_ix (m_var 9) (m_c (.int 0))) (m_args (m_var 14) (m_args (m_var 7) m_args0))))))))
    (s_ret (m_c (.bl false)))
    s_nx)
      [some (.sh (.scr ns)), some (.sh (flD h w s)), some (.sh (.lst (f.map D.int))), none, some (.sh (.int mv)), some (.sh (.int (back mv))), some (.sh (.lst ((one s).map D.int))), some (.sh (.lst (ss.map D.int))), some (lsI (dueI h w mv ss f)), some (.ls [lsI f, lsI ss]), some (lsI (moved h w mv (0 :: ss) f)), some (.sh (flD (high2 h w mv) (wide2 h w mv) s)), some (lsI (turned ss s)), none, some (.sh (.int od))] = .ok .nx [some (.sh (.scr ns)), some (.sh (flD h w s)), some (.sh (.lst (f.map D.int))), none, some (.sh (.int mv)), some (.sh (.int (back mv))), some (.sh (.lst ((one s).map D.int))), some (.sh (.lst (ss.map D.int))), some (lsI (dueI h w mv ss f)), some (.ls [lsI f, lsI ss]), some (lsI (moved h w mv (0 :: ss) f)), some (.sh (flD (high2 h w mv) (wide2 h w mv) s)), some (lsI (turned ss s)), none, some (.sh (.int od))] := by
    simp [D.atL, ints_own, s_asg, s_if, s_nx, t_val, t_not, t_or, m_callN, runCall, m_args, m_args0, m_var, owns, Dv.own, Op.view, Op.at?, OD.at?, Dv.thaw, ints_own2, OD.own, D.flat, m_op, m_un, m_cb, c_list, newL, o_ix, o_flat, o_add, g_add, g_mod, g_mul, szOk, rf1, rf2, ixN, -List.map_map]
  have q19 : (s_mut (m_var 10) m_args0 f_clear)
      [some (.sh (.scr ns)), some (.sh (flD h w s)), some (.sh (.lst (f.map D.int))), none, some (.sh (.int mv)), some (.sh (.int (back mv))), some (.sh (.lst ((one s).map D.int))), some (.sh (.lst (ss.map D.int))), some (lsI (dueI h w mv ss f)), some (.ls [lsI f, lsI ss]), some (lsI (moved h w mv (0 :: ss) f)), some (.sh (flD (high2 h w mv) (wide2 h w mv) s)), some (lsI (turned ss s)), none, some (.sh (.int od))] = .ok .nx [some (.sh (.scr ns)), some (.sh (flD h w s)), some (.sh (.lst (f.map D.int))), none, some (.sh (.int mv)), some (.sh (.int (back mv))), some (.sh (.lst ((one s).map D.int))), some (.sh (.lst (ss.map D.int))), some (lsI (dueI h w mv ss f)), some (.ls [lsI f, lsI ss]), some (.ls []), some (.sh (flD (high2 h w mv) (wide2 h w mv) s)), some (lsI (turned ss s)), none, some (.sh (.int od))] := by
    simp [D.atL, ints_own, s_asg, s_if, s_nx, t_val, t_not, t_or, m_callN, runCall, m_args, m_args0, m_var, owns, Dv.own, Op.view, Op.at?, OD.at?, Dv.thaw, ints_own2, OD.own, D.flat, m_op, m_un, m_cb, c_list, newL, o_ix, o_flat, o_add, g_add, g_mod, g_mul, szOk, s_mut, lsAt, f_clear, Dv.putAt, OD.setAt, -List.map_map]
  have q20 : (s_mut (m_op o_ix (m_var 9) (m_c (.int 1))) m_args0 f_clear)
      [some (.sh (.scr ns)), some (.sh (flD h w s)), some (.sh (.lst (f.map D.int))), none, some (.sh (.int mv)), some (.sh (.int (back mv))), some (.sh (.lst ((one s).map D.int))), some (.sh (.lst (ss.map D.int))), some (lsI (dueI h w mv ss f)), some (.ls [lsI f, lsI ss]), some (.ls []), some (.sh (flD (high2 h w mv) (wide2 h w mv) s)), some (lsI (turned ss s)), none, some (.sh (.int od))] = .ok .nx [some (.sh (.scr ns)), some (.sh (flD h w s)), some (.sh (.lst (f.map D.int))), none, some (.sh (.int mv)), some (.sh (.int (back mv))), some (.sh (.lst ((one s).map D.int))), some (.sh (.lst (ss.map D.int))), some (lsI (dueI h w mv ss f)), some (.ls [lsI f, .ls []]), some (.ls []), some (.sh (flD (high2 h w mv) (wide2 h w mv) s)), some (lsI (turned ss s)), none, some (.sh (.int od))] := by
    simp [D.atL, ints_own, s_asg, s_if, s_nx, t_val, t_not, t_or, m_callN, runCall, m_args, m_args0, m_var, owns, Dv.own, Op.view, Op.at?, OD.at?, Dv.thaw, ints_own2, OD.own, D.flat, m_op, m_un, m_cb, c_list, newL, o_ix, o_flat, o_add, g_add, g_mod, g_mul, szOk, s_mut, lsAt, f_clear, Dv.putAt, OD.setAt, ixN, -List.map_map]
  have q21 : (s_ret (m_callN 2 F__law_are [] (m_args (m_callN 4 F_moved_filling [] (m_args (m_var 1) (m_args (m_op o_ix (m_var 9) (m_c (.int 0))) (m_args (m_var 4) (m_args (m_cb c_list (m_args (m_var 7) m_args0)) m_args0))))) (m_args (m_var 8) m_args0))))
      [some (.sh (.scr ns)), some (.sh (flD h w s)), some (.sh (.lst (f.map D.int))), none, some (.sh (.int mv)), some (.sh (.int (back mv))), some (.sh (.lst ((one s).map D.int))), some (.sh (.lst (ss.map D.int))), some (lsI (dueI h w mv ss f)), some (.ls [lsI f, .ls []]), some (.ls []), some (.sh (flD (high2 h w mv) (wide2 h w mv) s)), some (lsI (turned ss s)), none, some (.sh (.int od))] = .ok (.rt (.sh (.bl true))) [some (.sh (.scr ns)), some (.sh (flD h w s)), some (.sh (.lst (f.map D.int))), none, some (.sh (.int mv)), some (.sh (.int (back mv))), some (.sh (.lst ((one s).map D.int))), some (.sh (.lst (ss.map D.int))), some (lsI (dueI h w mv ss f)), some (.ls [lsI f, .ls []]), some (.ls []), some (.sh (flD (high2 h w mv) (wide2 h w mv) s)), some (lsI (turned ss s)), none, some (.sh (.int od))] := by
    simp [D.atL, ints_own, s_asg, s_if, s_nx, t_val, t_not, t_or, m_callN, runCall, m_args, m_args0, m_var, owns, Dv.own, Op.view, Op.at?, OD.at?, Dv.thaw, ints_own2, OD.own, D.flat, m_op, m_un, m_cb, c_list, newL, o_ix, o_flat, o_add, g_add, g_mod, g_mul, szOk, s_ret, mf1, are1, ixN, -List.map_map]
  refine run_rt (ρ1 := [some (.sh (.scr ns)), some (.sh (flD h w s)), some (.sh (.lst (f.map D.int))), none, some (.sh (.int mv)), some (.sh (.int (back mv))), some (.sh (.lst ((one s).map D.int))), some (.sh (.lst (ss.map D.int))), some (lsI (dueI h w mv ss f)), some (.ls [lsI f, .ls []]), some (.ls []), some (.sh (flD (high2 h w mv) (wide2 h w mv) s)), some (lsI (turned ss s)), none, some (.sh (.int od))]) ?_
  rw [show ([D.scr ns].map (fun d => some (OD.sh d)) ++ List.replicate (15 - [D.scr ns].length) none) = [some (.sh (.scr ns)), none, none, none, none, none, none, none, none, none, none, none, none, none, none] from rfl]
  unfold b_law
  rw [seq_ok q1, seq_ok q2, seq_ok q3, seq_ok q4, seq_ok q5, seq_ok q6, seq_ok q7, seq_ok q8, seq_ok q9, seq_ok q10, seq_ok q11, seq_ok q12, seq_ok q13, seq_ok q14, seq_ok q15, seq_ok q16, seq_ok q17, seq_ok q18, seq_ok q19, seq_ok q20]
  exact q21
end L66
end

section
set_option Elab.async false
set_option linter.all false
set_option maxRecDepth 100000
set_option maxHeartbeats 0
set_option autoImplicit false
/-! E_k66: the head and the end (printed by gen.py). -/
namespace L66
open PySem PySem.Spec PyProof.Rows L2 Dv

def dd_many_cells : He.DefD := ⟨("many_cells", none), "many_cells", "many_cells", defArgs s_many_cells, defBody s_many_cells, defScope s_many_cells, [], []⟩
def dd_spot_of : He.DefD := ⟨("spot_of", none), "spot_of", "spot_of", defArgs s_spot_of, defBody s_spot_of, defScope s_spot_of, [], []⟩
def dd_look_at_move : He.DefD := ⟨("look_at_move", none), "look_at_move", "look_at_move", defArgs s_look_at_move, defBody s_look_at_move, defScope s_look_at_move, [], []⟩
def dd_turned_spot : He.DefD := ⟨("turned_spot", none), "turned_spot", "turned_spot", defArgs s_turned_spot, defBody s_turned_spot, defScope s_turned_spot, [], []⟩
def dd_moved_floor : He.DefD := ⟨("moved_floor", none), "moved_floor", "moved_floor", defArgs s_moved_floor, defBody s_moved_floor, defScope s_moved_floor, [], []⟩
def dd_moved_cells : He.DefD := ⟨("moved_cells", none), "moved_cells", "moved_cells", defArgs s_moved_cells, defBody s_moved_cells, defScope s_moved_cells, [], []⟩
def dd_all_signs : He.DefD := ⟨("all_signs", none), "all_signs", "all_signs", defArgs s_all_signs, defBody s_all_signs, defScope s_all_signs, [], []⟩
def dd_signs_by : He.DefD := ⟨("signs_by", none), "signs_by", "signs_by", defArgs s_signs_by, defBody s_signs_by, defScope s_signs_by, [], []⟩
def dd_moved_filling : He.DefD := ⟨("moved_filling", none), "moved_filling", "moved_filling", defArgs s_moved_filling, defBody s_moved_filling, defScope s_moved_filling, [.non], []⟩
def dd__law_at : He.DefD := ⟨("_law_at", none), "_law_at", "_law_at", defArgs s__law_at, defBody s__law_at, defScope s__law_at, [], []⟩
def dd__law_whole : He.DefD := ⟨("_law_whole", none), "_law_whole", "_law_whole", defArgs s__law_whole, defBody s__law_whole, defScope s__law_whole, [], []⟩
def dd__law_floor : He.DefD := ⟨("_law_floor", none), "_law_floor", "_law_floor", defArgs s__law_floor, defBody s__law_floor, defScope s__law_floor, [], []⟩
def dd__law_spot : He.DefD := ⟨("_law_spot", none), "_law_spot", "_law_spot", defArgs s__law_spot, defBody s__law_spot, defScope s__law_spot, [], []⟩
def dd__law_ground : He.DefD := ⟨("_law_ground", none), "_law_ground", "_law_ground", defArgs s__law_ground, defBody s__law_ground, defScope s__law_ground, [], []⟩
def dd__law_exchange : He.DefD := ⟨("_law_exchange", none), "_law_exchange", "_law_exchange", defArgs s__law_exchange, defBody s__law_exchange, defScope s__law_exchange, [], []⟩
def dd__law_bad_list : He.DefD := ⟨("_law_bad_list", none), "_law_bad_list", "_law_bad_list", defArgs s__law_bad_list, defBody s__law_bad_list, defScope s__law_bad_list, [], []⟩
def dd__law_refused : He.DefD := ⟨("_law_refused", none), "_law_refused", "_law_refused", defArgs s__law_refused, defBody s__law_refused, defScope s__law_refused, [], []⟩
def dd__law_due : He.DefD := ⟨("_law_due", none), "_law_due", "_law_due", defArgs s__law_due, defBody s__law_due, defScope s__law_due, [], []⟩
def dd__law_are : He.DefD := ⟨("_law_are", none), "_law_are", "_law_are", defArgs s__law_are, defBody s__law_are, defScope s__law_are, [], []⟩
def dd_law : He.DefD := ⟨("law", none), "law", "law", defArgs s_law, defBody s_law, defScope s_law, [], []⟩
def fn : List He.DefD := [dd_many_cells, dd_spot_of, dd_look_at_move, dd_turned_spot, dd_moved_floor, dd_moved_cells, dd_all_signs, dd_signs_by, dd_moved_filling, dd__law_at, dd__law_whole, dd__law_floor, dd__law_spot, dd__law_ground, dd__law_exchange, dd__law_bad_list, dd__law_refused, dd__law_due, dd__law_are, dd_law]
def fa : List He.Fa := [.free "ValueError", .free "any", .free "bool", .free "enumerate", .free "int", .free "isinstance", .free "len", .free "list", .free "min", .free "range", .free "sorted", .free "zip", .glo "ClueError", .exc "ClueError", .glo "NoFilling", .exc "NoFilling", .glo "NoMove", .exc "NoMove", .glo "NoPuzzle", .exc "NoPuzzle", .glo "TooMany", .exc "TooMany", .glo "many_cells", .glo "spot_of", .glo "look_at_move", .glo "turned_spot", .glo "moved_floor", .glo "moved_cells", .glo "all_signs", .glo "signs_by", .glo "moved_filling", .glo "_law_at", .glo "_law_whole", .glo "_law_floor", .glo "_law_spot", .glo "_law_ground", .glo "_law_exchange", .glo "_law_bad_list", .glo "_law_refused", .glo "_law_due", .glo "_law_are", .glo "law"]
def fb : List Fb := [.isi (.own "NoFilling") lb_NoFilling lo_NoFilling, .isi (.own "NoMove") lb_NoMove lo_NoMove, .isi (.own "NoPuzzle") lb_NoPuzzle lo_NoPuzzle, .isi (.own "TooMany") lb_TooMany lo_TooMany, .isi (.ty "ValueError") lb_ValueError lo_ValueError, .isi (.ty "bool") lb_bool lo_bool, .isi (.ty "int") lb_int lo_int, .isi (.ty "list") lb_list lo_list, .exm (.own "ClueError") lx_ClueError]
def nm0 : List PySem.Str := ["ClueError", "NoFilling", "NoPuzzle", "TooMany", "NoMove", "many_cells", "spot_of", "look_at_move", "turned_spot", "moved_floor", "moved_cells", "all_signs", "signs_by", "moved_filling", "_law_at", "_law_whole", "_law_floor", "_law_spot", "_law_ground", "_law_exchange", "_law_bad_list", "_law_refused", "_law_due", "_law_are", "__name__"]
def loose : List PySem.Str := nm0
abbrev R : PySem.W.OpenRow := PySem.W.OpenLaw.row PySem.Challenge.rw_cluemaker_k66_fillings_moved
abbrev hk : PySem.W.Hook := hookB 4 fa fn fb
def ob (s : PySem.W.SharedT) : AlB := obsBG 4 fa fn fb (HandSHeadRun.getT s)
theorem ob_eq (s : PySem.W.SharedT) : ob s = hk.obs s.abs := obsBG_eq (HandSHeadRun.getT_eq s)
theorem run (w : World) : HandSHeadRun.RunEq R (PySem.W.view R.prog [28]) hk ob 6000 loose w := by
  intro os
  kernel_rfl
theorem facts {P : Program} {w : World} {K : PySem.W.Frag} {h : Heap} {mg : Str → Option Value} {f : Addr} (X : K.In h) (G : h.Ns mainGlobals mg) (hfa : mg ("law" : Str) = some (.ref f)) (c : SaysB fa fn fb K) :
    ∃ fd : FuncData, (∀ (s : Shared) (v : Value), BindsTo s fd ⟨[v], []⟩ [("_law_script", v)]) ∧ ∀ base : Heap, K.In base → base.Ns mainGlobals mg → FnOk P w K mg base (L2.CX P w) 5 f fd ["_law_script"] (spLaw K) := by
  have T : Txt K mg (He.ga K) := { b_ValueError := He.free_ok X G (c.d.fact 0 (f := .free "ValueError") rfl), b_any := He.free_ok X G (c.d.fact 1 (f := .free "any") rfl), b_bool := He.free_ok X G (c.d.fact 2 (f := .free "bool") rfl), b_enumerate := He.free_ok X G (c.d.fact 3 (f := .free "enumerate") rfl), b_int := He.free_ok X G (c.d.fact 4 (f := .free "int") rfl), b_isinstance := He.free_ok X G (c.d.fact 5 (f := .free "isinstance") rfl), b_len := He.free_ok X G (c.d.fact 6 (f := .free "len") rfl), b_list := He.free_ok X G (c.d.fact 7 (f := .free "list") rfl), b_min := He.free_ok X G (c.d.fact 8 (f := .free "min") rfl), b_range := He.free_ok X G (c.d.fact 9 (f := .free "range") rfl), b_sorted := He.free_ok X G (c.d.fact 10 (f := .free "sorted") rfl), b_zip := He.free_ok X G (c.d.fact 11 (f := .free "zip") rfl), e_ClueError := excT_ok X G (c.d.fact 12 (f := .glo "ClueError") rfl) (c.d.fact 13 (f := .exc "ClueError") rfl), e_NoFilling := excT_ok X G (c.d.fact 14 (f := .glo "NoFilling") rfl) (c.d.fact 15 (f := .exc "NoFilling") rfl), e_NoMove := excT_ok X G (c.d.fact 16 (f := .glo "NoMove") rfl) (c.d.fact 17 (f := .exc "NoMove") rfl), e_NoPuzzle := excT_ok X G (c.d.fact 18 (f := .glo "NoPuzzle") rfl) (c.d.fact 19 (f := .exc "NoPuzzle") rfl), e_TooMany := excT_ok X G (c.d.fact 20 (f := .glo "TooMany") rfl) (c.d.fact 21 (f := .exc "TooMany") rfl), i_NoFilling := isi_ok (c := .own "NoFilling") (lb := lb_NoFilling) (lo := lo_NoFilling) (c.fb 0 rfl), i_NoMove := isi_ok (c := .own "NoMove") (lb := lb_NoMove) (lo := lo_NoMove) (c.fb 1 rfl), i_NoPuzzle := isi_ok (c := .own "NoPuzzle") (lb := lb_NoPuzzle) (lo := lo_NoPuzzle) (c.fb 2 rfl), i_TooMany := isi_ok (c := .own "TooMany") (lb := lb_TooMany) (lo := lo_TooMany) (c.fb 3 rfl), i_ValueError := isi_ok (c := .ty "ValueError") (lb := lb_ValueError) (lo := lo_ValueError) (c.fb 4 rfl), i_bool := isi_ok (c := .ty "bool") (lb := lb_bool) (lo := lo_bool) (c.fb 5 rfl), i_int := isi_ok (c := .ty "int") (lb := lb_int) (lo := lo_int) (c.fb 6 rfl), i_list := isi_ok (c := .ty "list") (lb := lb_list) (lo := lo_list) (c.fb 7 rfl), x_ClueError := exm_ok (c := .own "ClueError") (lo := lx_ClueError) (c.fb 8 rfl) }
  obtain ⟨fd_many_cells, F_many_cells⟩ := c.d.def_ 0 (d := dd_many_cells) rfl
  have o_many_cells := fun (base : Heap) => ok_many_cells (P := P) (w := w) (mg := mg) (base := base) T  F_many_cells
  have b_many_cells : Binds K fd_many_cells ["floor"] [] := F_many_cells.bindsN fun _ _ _ _ _ _ us hl => match us, hl with | [_], _ => rfl
  have d_many_cells : ∀ base : Heap, DefOk P w K mg base (He.ga K) 1 1 "many_cells" L66.F_many_cells [] := fun base => ⟨rfl, _, _, _, _, o_many_cells base, He.glo_ok X G (c.d.fact 22 (f := .glo "many_cells") rfl), F_many_cells.kp, b_many_cells, .nil⟩
  obtain ⟨fd_spot_of, F_spot_of⟩ := c.d.def_ 1 (d := dd_spot_of) rfl
  have o_spot_of := fun (base : Heap) => ok_spot_of (P := P) (w := w) (mg := mg) (base := base) T  F_spot_of
  have b_spot_of : Binds K fd_spot_of ["floor", "cell"] [] := F_spot_of.bindsN fun _ _ _ _ _ _ us hl => match us, hl with | [_, _], _ => rfl
  have d_spot_of : ∀ base : Heap, DefOk P w K mg base (He.ga K) 1 2 "spot_of" L66.F_spot_of [] := fun base => ⟨rfl, _, _, _, _, o_spot_of base, He.glo_ok X G (c.d.fact 23 (f := .glo "spot_of") rfl), F_spot_of.kp, b_spot_of, .nil⟩
  obtain ⟨fd_look_at_move, F_look_at_move⟩ := c.d.def_ 2 (d := dd_look_at_move) rfl
  have o_look_at_move := fun (base : Heap) => ok_look_at_move (P := P) (w := w) (mg := mg) (base := base) T  F_look_at_move
  have b_look_at_move : Binds K fd_look_at_move ["move"] [] := F_look_at_move.bindsN fun _ _ _ _ _ _ us hl => match us, hl with | [_], _ => rfl
  have d_look_at_move : ∀ base : Heap, DefOk P w K mg base (He.ga K) 1 1 "look_at_move" L66.F_look_at_move [] := fun base => ⟨rfl, _, _, _, _, o_look_at_move base, He.glo_ok X G (c.d.fact 24 (f := .glo "look_at_move") rfl), F_look_at_move.kp, b_look_at_move, .nil⟩
  obtain ⟨fd_turned_spot, F_turned_spot⟩ := c.d.def_ 3 (d := dd_turned_spot) rfl
  have o_turned_spot := fun (base : Heap) => ok_turned_spot (P := P) (w := w) (mg := mg) (base := base) T  F_turned_spot
  have b_turned_spot : Binds K fd_turned_spot ["high", "spot"] [] := F_turned_spot.bindsN fun _ _ _ _ _ _ us hl => match us, hl with | [_, _], _ => rfl
  have d_turned_spot : ∀ base : Heap, DefOk P w K mg base (He.ga K) 1 2 "turned_spot" L66.F_turned_spot [] := fun base => ⟨rfl, _, _, _, _, o_turned_spot base, He.glo_ok X G (c.d.fact 25 (f := .glo "turned_spot") rfl), F_turned_spot.kp, b_turned_spot, .nil⟩
  obtain ⟨fd_moved_floor, F_moved_floor⟩ := c.d.def_ 4 (d := dd_moved_floor) rfl
  have o_moved_floor := fun (base : Heap) => ok_moved_floor (P := P) (w := w) (mg := mg) (base := base) T (d_look_at_move base) F_moved_floor
  have b_moved_floor : Binds K fd_moved_floor ["floor", "move"] [] := F_moved_floor.bindsN fun _ _ _ _ _ _ us hl => match us, hl with | [_, _], _ => rfl
  have d_moved_floor : ∀ base : Heap, DefOk P w K mg base (He.ga K) 2 2 "moved_floor" L66.F_moved_floor [] := fun base => ⟨rfl, _, _, _, _, o_moved_floor base, He.glo_ok X G (c.d.fact 26 (f := .glo "moved_floor") rfl), F_moved_floor.kp, b_moved_floor, .nil⟩
  obtain ⟨fd_moved_cells, F_moved_cells⟩ := c.d.def_ 5 (d := dd_moved_cells) rfl
  have o_moved_cells := fun (base : Heap) => ok_moved_cells (P := P) (w := w) (mg := mg) (base := base) T (d_look_at_move base) (d_many_cells base) (d_spot_of base) (d_turned_spot base) F_moved_cells
  have b_moved_cells : Binds K fd_moved_cells ["floor", "move"] [] := F_moved_cells.bindsN fun _ _ _ _ _ _ us hl => match us, hl with | [_, _], _ => rfl
  have d_moved_cells : ∀ base : Heap, DefOk P w K mg base (He.ga K) 2 2 "moved_cells" L66.F_moved_cells [] := fun base => ⟨rfl, _, _, _, _, o_moved_cells base, He.glo_ok X G (c.d.fact 27 (f := .glo "moved_cells") rfl), F_moved_cells.kp, b_moved_cells, .nil⟩
  obtain ⟨fd_all_signs, F_all_signs⟩ := c.d.def_ 6 (d := dd_all_signs) rfl
  have o_all_signs := fun (base : Heap) => ok_all_signs (P := P) (w := w) (mg := mg) (base := base) T  F_all_signs
  have b_all_signs : Binds K fd_all_signs ["floor"] [] := F_all_signs.bindsN fun _ _ _ _ _ _ us hl => match us, hl with | [_], _ => rfl
  have d_all_signs : ∀ base : Heap, DefOk P w K mg base (He.ga K) 1 1 "all_signs" L66.F_all_signs [] := fun base => ⟨rfl, _, _, _, _, o_all_signs base, He.glo_ok X G (c.d.fact 28 (f := .glo "all_signs") rfl), F_all_signs.kp, b_all_signs, .nil⟩
  obtain ⟨fd_signs_by, F_signs_by⟩ := c.d.def_ 7 (d := dd_signs_by) rfl
  have o_signs_by := fun (base : Heap) => ok_signs_by (P := P) (w := w) (mg := mg) (base := base) T (d_all_signs base) F_signs_by
  have b_signs_by : Binds K fd_signs_by ["floor", "signs"] [] := F_signs_by.bindsN fun _ _ _ _ _ _ us hl => match us, hl with | [_, _], _ => rfl
  have d_signs_by : ∀ base : Heap, DefOk P w K mg base (He.ga K) 2 2 "signs_by" L66.F_signs_by [] := fun base => ⟨rfl, _, _, _, _, o_signs_by base, He.glo_ok X G (c.d.fact 29 (f := .glo "signs_by") rfl), F_signs_by.kp, b_signs_by, .nil⟩
  obtain ⟨fd_moved_filling, F_moved_filling⟩ := c.d.def_ 8 (d := dd_moved_filling) rfl
  have o_moved_filling := fun (base : Heap) => ok_moved_filling (P := P) (w := w) (mg := mg) (base := base) T (d_moved_cells base) (d_signs_by base) F_moved_filling
  obtain ⟨ds0_moved_filling, v0_moved_filling, b0_moved_filling⟩ := F_moved_filling.binds1 (ps := ["floor", "filling", "move", "signs"]) 4 1 (fun z => nomatch z) rfl fun _ _ _ _ _ _ _ us its h1 h2 => match us, its, h1, h2 with | [_, _, _, _], [_], _, _ => ⟨_, rfl, rfl⟩
  have d_moved_filling : ∀ base : Heap, DefOk P w K mg base (He.ga K) 3 4 "moved_filling" L66.F_moved_filling [] := fun base => ⟨rfl, _, _, _, _, o_moved_filling base, He.glo_ok X G (c.d.fact 30 (f := .glo "moved_filling") rfl), F_moved_filling.kp, b0_moved_filling, v0_moved_filling⟩
  obtain ⟨ds1_moved_filling, v1_moved_filling, b1_moved_filling⟩ := F_moved_filling.binds1 (ps := ["floor", "filling", "move", "signs"]) 3 0 (fun z => nomatch z) rfl fun _ _ _ _ _ _ _ us its h1 h2 => match us, its, h1, h2 with | [_, _, _], [_], _, _ => ⟨_, rfl, rfl⟩
  have d1_moved_filling : ∀ base : Heap, DefOk P w K mg base (He.ga K) 3 4 "moved_filling" L66.F_moved_filling [.non] := fun base => ⟨rfl, _, _, _, _, o_moved_filling base, He.glo_ok X G (c.d.fact 30 (f := .glo "moved_filling") rfl), F_moved_filling.kp, b1_moved_filling, v1_moved_filling⟩
  obtain ⟨fd__law_at, F__law_at⟩ := c.d.def_ 9 (d := dd__law_at) rfl
  have o__law_at := fun (base : Heap) => ok__law_at (P := P) (w := w) (mg := mg) (base := base) T  F__law_at
  have b__law_at : Binds K fd__law_at ["_law_script", "_law_k"] [] := F__law_at.bindsN fun _ _ _ _ _ _ us hl => match us, hl with | [_, _], _ => rfl
  have d__law_at : ∀ base : Heap, DefOk P w K mg base (He.ga K) 1 2 "_law_at" L66.F__law_at [] := fun base => ⟨rfl, _, _, _, _, o__law_at base, He.glo_ok X G (c.d.fact 31 (f := .glo "_law_at") rfl), F__law_at.kp, b__law_at, .nil⟩
  obtain ⟨fd__law_whole, F__law_whole⟩ := c.d.def_ 10 (d := dd__law_whole) rfl
  have o__law_whole := fun (base : Heap) => ok__law_whole (P := P) (w := w) (mg := mg) (base := base) T  F__law_whole
  have b__law_whole : Binds K fd__law_whole ["_law_found"] [] := F__law_whole.bindsN fun _ _ _ _ _ _ us hl => match us, hl with | [_], _ => rfl
  have d__law_whole : ∀ base : Heap, DefOk P w K mg base (He.ga K) 1 1 "_law_whole" L66.F__law_whole [] := fun base => ⟨rfl, _, _, _, _, o__law_whole base, He.glo_ok X G (c.d.fact 32 (f := .glo "_law_whole") rfl), F__law_whole.kp, b__law_whole, .nil⟩
  obtain ⟨fd__law_floor, F__law_floor⟩ := c.d.def_ 11 (d := dd__law_floor) rfl
  have o__law_floor := fun (base : Heap) => ok__law_floor (P := P) (w := w) (mg := mg) (base := base) T (d__law_at base) F__law_floor
  have b__law_floor : Binds K fd__law_floor ["_law_script"] [] := F__law_floor.bindsN fun _ _ _ _ _ _ us hl => match us, hl with | [_], _ => rfl
  have d__law_floor : ∀ base : Heap, DefOk P w K mg base (He.ga K) 2 1 "_law_floor" L66.F__law_floor [] := fun base => ⟨rfl, _, _, _, _, o__law_floor base, He.glo_ok X G (c.d.fact 33 (f := .glo "_law_floor") rfl), F__law_floor.kp, b__law_floor, .nil⟩
  obtain ⟨fd__law_spot, F__law_spot⟩ := c.d.def_ 12 (d := dd__law_spot) rfl
  have o__law_spot := fun (base : Heap) => ok__law_spot (P := P) (w := w) (mg := mg) (base := base) T  F__law_spot
  have b__law_spot : Binds K fd__law_spot ["_law_floor_here", "_law_cell", "_law_move"] [] := F__law_spot.bindsN fun _ _ _ _ _ _ us hl => match us, hl with | [_, _, _], _ => rfl
  have d__law_spot : ∀ base : Heap, DefOk P w K mg base (He.ga K) 1 3 "_law_spot" L66.F__law_spot [] := fun base => ⟨rfl, _, _, _, _, o__law_spot base, He.glo_ok X G (c.d.fact 34 (f := .glo "_law_spot") rfl), F__law_spot.kp, b__law_spot, .nil⟩
  obtain ⟨fd__law_ground, F__law_ground⟩ := c.d.def_ 13 (d := dd__law_ground) rfl
  have o__law_ground := fun (base : Heap) => ok__law_ground (P := P) (w := w) (mg := mg) (base := base) T  F__law_ground
  have b__law_ground : Binds K fd__law_ground ["_law_floor_here", "_law_move"] [] := F__law_ground.bindsN fun _ _ _ _ _ _ us hl => match us, hl with | [_, _], _ => rfl
  have d__law_ground : ∀ base : Heap, DefOk P w K mg base (He.ga K) 1 2 "_law_ground" L66.F__law_ground [] := fun base => ⟨rfl, _, _, _, _, o__law_ground base, He.glo_ok X G (c.d.fact 35 (f := .glo "_law_ground") rfl), F__law_ground.kp, b__law_ground, .nil⟩
  obtain ⟨fd__law_exchange, F__law_exchange⟩ := c.d.def_ 14 (d := dd__law_exchange) rfl
  have o__law_exchange := fun (base : Heap) => ok__law_exchange (P := P) (w := w) (mg := mg) (base := base) T  F__law_exchange
  have b__law_exchange : Binds K fd__law_exchange ["_law_cell", "_law_many"] [] := F__law_exchange.bindsN fun _ _ _ _ _ _ us hl => match us, hl with | [_, _], _ => rfl
  have d__law_exchange : ∀ base : Heap, DefOk P w K mg base (He.ga K) 1 2 "_law_exchange" L66.F__law_exchange [] := fun base => ⟨rfl, _, _, _, _, o__law_exchange base, He.glo_ok X G (c.d.fact 36 (f := .glo "_law_exchange") rfl), F__law_exchange.kp, b__law_exchange, .nil⟩
  obtain ⟨fd__law_bad_list, F__law_bad_list⟩ := c.d.def_ 15 (d := dd__law_bad_list) rfl
  have o__law_bad_list := fun (base : Heap) => ok__law_bad_list (P := P) (w := w) (mg := mg) (base := base) T  F__law_bad_list
  have b__law_bad_list : Binds K fd__law_bad_list ["_law_signs", "_law_cell"] [] := F__law_bad_list.bindsN fun _ _ _ _ _ _ us hl => match us, hl with | [_, _], _ => rfl
  have d__law_bad_list : ∀ base : Heap, DefOk P w K mg base (He.ga K) 1 2 "_law_bad_list" L66.F__law_bad_list [] := fun base => ⟨rfl, _, _, _, _, o__law_bad_list base, He.glo_ok X G (c.d.fact 37 (f := .glo "_law_bad_list") rfl), F__law_bad_list.kp, b__law_bad_list, .nil⟩
  obtain ⟨fd__law_refused, F__law_refused⟩ := c.d.def_ 16 (d := dd__law_refused) rfl
  have o__law_refused := fun (base : Heap) => ok__law_refused (P := P) (w := w) (mg := mg) (base := base) T (d_moved_filling base) F__law_refused
  have b__law_refused : Binds K fd__law_refused ["_law_floor_here", "_law_filling", "_law_move", "_law_signs"] [] := F__law_refused.bindsN fun _ _ _ _ _ _ us hl => match us, hl with | [_, _, _, _], _ => rfl
  have d__law_refused : ∀ base : Heap, DefOk P w K mg base (He.ga K) 4 4 "_law_refused" L66.F__law_refused [] := fun base => ⟨rfl, _, _, _, _, o__law_refused base, He.glo_ok X G (c.d.fact 38 (f := .glo "_law_refused") rfl), F__law_refused.kp, b__law_refused, .nil⟩
  obtain ⟨fd__law_due, F__law_due⟩ := c.d.def_ 17 (d := dd__law_due) rfl
  have o__law_due := fun (base : Heap) => ok__law_due (P := P) (w := w) (mg := mg) (base := base) T (d__law_spot base) F__law_due
  have b__law_due : Binds K fd__law_due ["_law_floor_here", "_law_filling", "_law_move", "_law_signs"] [] := F__law_due.bindsN fun _ _ _ _ _ _ us hl => match us, hl with | [_, _, _, _], _ => rfl
  have d__law_due : ∀ base : Heap, DefOk P w K mg base (He.ga K) 2 4 "_law_due" L66.F__law_due [] := fun base => ⟨rfl, _, _, _, _, o__law_due base, He.glo_ok X G (c.d.fact 39 (f := .glo "_law_due") rfl), F__law_due.kp, b__law_due, .nil⟩
  obtain ⟨fd__law_are, F__law_are⟩ := c.d.def_ 18 (d := dd__law_are) rfl
  have o__law_are := fun (base : Heap) => ok__law_are (P := P) (w := w) (mg := mg) (base := base) T (d__law_whole base) F__law_are
  have b__law_are : Binds K fd__law_are ["_law_found", "_law_due_here"] [] := F__law_are.bindsN fun _ _ _ _ _ _ us hl => match us, hl with | [_, _], _ => rfl
  have d__law_are : ∀ base : Heap, DefOk P w K mg base (He.ga K) 2 2 "_law_are" L66.F__law_are [] := fun base => ⟨rfl, _, _, _, _, o__law_are base, He.glo_ok X G (c.d.fact 40 (f := .glo "_law_are") rfl), F__law_are.kp, b__law_are, .nil⟩
  obtain ⟨fd_law, F_law⟩ := c.d.def_ 19 (d := dd_law) rfl
  have o_law := fun (base : Heap) => ok_law (P := P) (w := w) (mg := mg) (base := base) T (d__law_are base) (d__law_at base) (d__law_bad_list base) (d__law_due base) (d__law_exchange base) (d__law_floor base) (d__law_refused base) (d_moved_filling base) (d1_moved_filling base) (d_moved_floor base) F_law
  have e := hfa.symm.trans (He.glo_ok X G (c.d.fact 41 (f := .glo "law") rfl))
  cases e
  have b := FunD.bindsA (ps := ["_law_script"]) F_law fun _ _ _ _ _ _ us hl => match us, hl with | [_], _ => rfl
  exact ⟨fd_law, fun s v => b s [v] rfl, fun base _ _ => law_ok (o_law base) law_true⟩
end L66
open PySem PySem.W PySem.Calls PyProof.Rows
theorem PySem.Challenge.cw_cluemaker_k66_fillings_moved_holds : PySem.Challenge.rw_cluemaker_k66_fillings_moved.Holds := by
  w_on; o_law
  refine HandSHeadRun.head_any (r := OpenLaw.row PySem.Challenge.rw_cluemaker_k66_fillings_moved) (q := view (OpenLaw.row PySem.Challenge.rw_cluemaker_k66_fillings_moved).prog [28]) (H := L66.hk) (ob := L66.ob) (M := 6000) (loose := L66.loose) (d := HandSHeadRun.topDef (OpenLaw.row PySem.Challenge.rw_cluemaker_k66_fillings_moved).prog 28) (kwd := []) L66.ob_eq
    (by kernel_rfl) (fun s => by kernel_rfl) L66.run (by kernel_rfl) (by kernel_rfl) (by kernel_rfl) (by rfl) (by first | assumption | decide +kernel) (by decide +kernel) ⟨rfl, rfl, rfl, rfl, rfl, by decide +kernel⟩ ?hw ?hc
  case hw => w_witness2
  case hc =>
    refine Dv.walk_law (l := PySem.Challenge.rw_cluemaker_k66_fillings_moved) (k := 5) (x := "_law_script") rfl (by kernel_rfl) ⟨rfl, by decide, by decide⟩ ?F
    intro w mg fa h Y G hmg0
    obtain ⟨K, KX, c⟩ := Y
    have hmg : mg ("law" : PySem.Str) = some (.ref fa) := by
      have e : (HandSHeadRun.topDef (OpenLaw.row PySem.Challenge.rw_cluemaker_k66_fillings_moved).prog 28).name = ("law" : PySem.Str) := by kernel_rfl
      rw [← e]
      exact hmg0
    obtain ⟨fd, hb, hF⟩ := L66.facts (P := (PySem.Challenge.rw_cluemaker_k66_fillings_moved).prog) (w := w) KX G hmg c
    exact ⟨K, fd, KX, hb, hF⟩
end
