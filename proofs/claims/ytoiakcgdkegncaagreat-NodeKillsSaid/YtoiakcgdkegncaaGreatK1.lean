import Derived.Deep.Draws
import Derived.KernelRfl
import Derived.Orders
import Derived.Tactics
import Derived.WalkKit
set_option linter.unusedVariables false
set_option linter.unusedSimpArgs false
set_option linter.unusedSectionVars false
namespace Ice
open Go Go.RowKit
/-- an assertion on a part of the heap -/
def SL := (Nat → Option Obj) → Prop
namespace SL
def star (P Q : SL) : SL := fun h => ∃ h1 h2, (∀ b, h1 b = none ∨ h2 b = none) ∧ (∀ b, h b = (h1 b).or (h2 b)) ∧ P h1 ∧ Q h2
def emp : SL := fun h => ∀ b, h b = none
instance : Mul SL := ⟨star⟩
instance : One SL := ⟨emp⟩
end SL
/-- block b holds just o -/
def pt (b : Nat) (o : Obj) : SL := fun h => h b = some o ∧ ∀ c, c ≠ b → h c = none
/-- a plain fact -/
def pu (p : Prop) : SL := fun h => p ∧ ∀ b, h b = none
/-- there is an x -/
def ex {α : Type} (f : α → SL) : SL := fun h => ∃ x, f x h
def Sat (w : World) (P : SL) : Prop := ∃ h, (∀ b o, h b = some o → w.heap[b]? = some o) ∧ P h
theorem sl_comm_le {P Q : SL} {h} (x : (P * Q) h) : (Q * P) h := by
  obtain ⟨h1, h2, d, e, p, q⟩ := x
  refine ⟨h2, h1, fun b => (d b).symm, fun b => ?_, q, p⟩
  rw [e]
  rcases d b with d | d <;> simp [d]
theorem sl_comm (P Q : SL) : P * Q = Q * P := funext fun _ => propext ⟨sl_comm_le, sl_comm_le⟩
theorem sl_assoc_le {P Q R : SL} {h} (x : (P * Q * R) h) : (P * (Q * R)) h := by
  obtain ⟨h12, h3, d, e, ⟨h1, h2, d', e', p, q⟩, r⟩ := x
  refine ⟨h1, fun b => (h2 b).or (h3 b), fun b => ?_, fun b => ?_, p, h2, h3, fun b => ?_, fun b => rfl, q, r⟩
  · rcases d b with d | d
    · rw [e'] at d; simp at d; exact .inl d.1
    · rcases d' b with d' | d'
      · exact .inl d'
      · right; simp [d, d']
  · rw [e, e']; simp [Option.or_assoc]
  · rcases d b with d | d
    · rw [e'] at d; simp at d; exact .inl d.2
    · exact .inr d
theorem sl_assoc (P Q R : SL) : P * Q * R = P * (Q * R) := funext fun _ => propext ⟨sl_assoc_le, fun x =>
  sl_comm_le (sl_assoc_le (sl_comm_le (sl_assoc_le (sl_comm_le x))))⟩
theorem sl_one_mul (P : SL) : 1 * P = P := funext fun h => propext ⟨fun ⟨h1, h2, _, e, p, q⟩ => by
    have : h = h2 := funext fun b => by rw [e, show h1 b = none from p b]; rfl
    rw [this]; exact q, fun x => ⟨fun _ => none, h, fun _ => .inl rfl, fun _ => by simp, fun _ => rfl, x⟩⟩
theorem sl_mul_one (P : SL) : P * 1 = P := by rw [sl_comm, sl_one_mul]
instance : Std.Associative (α := SL) (· * ·) := ⟨sl_assoc⟩
instance : Std.Commutative (α := SL) (· * ·) := ⟨sl_comm⟩
theorem Sat.eq {w : World} {P Q : SL} (h : Sat w P) (e : P = Q) : Sat w Q := e ▸ h
theorem Sat.mono {w : World} {P Q : SL} (h : Sat w P) (e : ∀ h, P h → Q h) : Sat w Q := let ⟨x, a, b⟩ := h; ⟨x, a, e _ b⟩
theorem star_mono {P P' Q Q' : SL} (e : ∀ h, P h → P' h) (e' : ∀ h, Q h → Q' h) {h} (x : (P * Q) h) : (P' * Q') h :=
  let ⟨h1, h2, d, g, p, q⟩ := x; ⟨h1, h2, d, g, e _ p, e' _ q⟩
theorem Sat.l {w : World} {P Q : SL} (h : Sat w (P * Q)) : Sat w P := by
  obtain ⟨h, a, h1, h2, d, e, p, q⟩ := h
  exact ⟨h1, fun b o hb => a b o (by rw [e, hb]; rfl), p⟩
theorem Sat.r {w : World} {P Q : SL} (h : Sat w (P * Q)) : Sat w Q := (h.eq (sl_comm _ _)).l
theorem Sat.heap {w w' : World} {P : SL} (h : Sat w P) (e : w'.heap = w.heap) : Sat w' P := by
  obtain ⟨h, a, p⟩ := h; exact ⟨h, fun b o hb => by rw [e]; exact a b o hb, p⟩
theorem pu_mul {p : Prop} {P : SL} {h} : (pu p * P) h ↔ p ∧ P h := by
  constructor
  · rintro ⟨h1, h2, d, e, ⟨hp, n⟩, q⟩
    have : h = h2 := funext fun b => by rw [e, n b]; rfl
    rw [this]; exact ⟨hp, q⟩
  · rintro ⟨hp, q⟩; exact ⟨fun _ => none, h, fun _ => .inl rfl, fun _ => by simp, ⟨hp, fun _ => rfl⟩, q⟩
theorem ex_mul {α : Type} {f : α → SL} {P : SL} {h} : (ex f * P) h ↔ ∃ x, (f x * P) h := by
  constructor
  · rintro ⟨h1, h2, d, e, ⟨x, p⟩, q⟩; exact ⟨x, h1, h2, d, e, p, q⟩
  · rintro ⟨x, h1, h2, d, e, p, q⟩; exact ⟨h1, h2, d, e, ⟨x, p⟩, q⟩
theorem ex_mul_eq {α : Type} (f : α → SL) (P : SL) : ex f * P = ex fun x => f x * P := funext fun _ => propext ex_mul
theorem sat_pu {w : World} {p : Prop} {P : SL} : Sat w (pu p * P) ↔ p ∧ Sat w P := by
  constructor
  · rintro ⟨h, a, x⟩; exact ⟨(pu_mul.1 x).1, h, a, (pu_mul.1 x).2⟩
  · rintro ⟨hp, h, a, x⟩; exact ⟨h, a, pu_mul.2 ⟨hp, x⟩⟩
theorem sat_pu2 {w : World} {p : Prop} {P F : SL} : Sat w (pu p * P * F) ↔ p ∧ Sat w (P * F) := by rw [sl_assoc, sat_pu]
theorem sat_ex {w : World} {α : Type} {f : α → SL} : Sat w (ex f) ↔ ∃ x, Sat w (f x) :=
  ⟨fun ⟨h, a, x, p⟩ => ⟨x, h, a, p⟩, fun ⟨x, h, a, p⟩ => ⟨h, a, x, p⟩⟩
theorem sat_ex_mul {w : World} {α : Type} {f : α → SL} {P : SL} : Sat w (ex f * P) ↔ ∃ x, Sat w (f x * P) := by rw [ex_mul_eq, sat_ex]
theorem Sat.pu {w : World} {p : Prop} {P : SL} (h : Sat w P) (hp : p) : Sat w (pu p * P) := sat_pu.2 ⟨hp, h⟩
theorem Sat.pu2 {w : World} {p : Prop} {P F : SL} (h : Sat w (P * F)) (hp : p) : Sat w (Ice.pu p * P * F) := sat_pu2.2 ⟨hp, h⟩
/-- the assertion has block b with o -/
def Has (P : SL) (b : Nat) (o : Obj) : Prop := ∀ h, P h → h b = some o
theorem Has.o {b : Nat} {o : Obj} : Has (pt b o) b o := fun _ h => h.1
theorem Has.l {P Q : SL} {b : Nat} {o : Obj} (x : Has P b o) : Has (P * Q) b o := fun _ ⟨h1, h2, _, e, p, _⟩ => by rw [e, x _ p]; rfl
theorem Has.r {P Q : SL} {b : Nat} {o : Obj} (x : Has Q b o) : Has (P * Q) b o := fun h p => x.l h (sl_comm_le p)
theorem Sat.blk {w : World} {P : SL} {b : Nat} {o : Obj} (h : Sat w P) (x : Has P b o) : w.heap[b]? = some o := let ⟨_, a, p⟩ := h; a _ _ (x _ p)
theorem Sat.lt {w : World} {P : SL} {b : Nat} {o : Obj} (h : Sat w P) (x : Has P b o) : b < w.heap.size := by
  have := h.blk x
  rcases Nat.lt_or_ge b w.heap.size with h' | h'
  · exact h'
  · simp [Array.getElem?_eq_none h'] at this
theorem cell_blk {w : World} {b : Nat} {cs : Array Value} {T : TypeId} {fr : Nat × Nat} (h : w.heap[b]? = some (.cells cs T fr)) (i : Nat) : w.cell? ⟨b, i, none⟩ = cs[i]? := by
  simp [World.cell?, h]
theorem frozen_blk {w : World} {b : Nat} {cs : Array Value} {T : TypeId} (h : w.heap[b]? = some (.cells cs T (0, 0))) (i : Nat) : w.frozen? ⟨b, i, none⟩ = false := by
  simp [World.frozen?, h]
theorem Sat.cell {w : World} {P : SL} {b : Nat} {cs : Array Value} {T : TypeId} {fr : Nat × Nat} (h : Sat w P) (x : Has P b (.cells cs T fr)) (i : Nat) : w.cell? ⟨b, i, none⟩ = cs[i]? := cell_blk (h.blk x) i
theorem Sat.free {w : World} {P : SL} {b : Nat} {cs : Array Value} {T : TypeId} (h : Sat w P) (x : Has P b (.cells cs T (0, 0))) (i : Nat) : w.frozen? ⟨b, i, none⟩ = false := frozen_blk (h.blk x) i
/-- P' is P with o' for o in block b -/
def Upd (P : SL) (b : Nat) (o o' : Obj) (P' : SL) : Prop := ∀ h, P h → h b = some o ∧ P' (fun c => if c = b then some o' else h c)
theorem Upd.o {b : Nat} {o o' : Obj} : Upd (pt b o) b o o' (pt b o') := fun h p => ⟨p.1, by simp, fun c hc => by simp [hc]; exact p.2 c hc⟩
theorem Upd.l {P P' Q : SL} {b : Nat} {o o' : Obj} (x : Upd P b o o' P') : Upd (P * Q) b o o' (P' * Q) := by
  rintro h ⟨h1, h2, d, e, p, q⟩
  obtain ⟨x1, x2⟩ := x _ p
  refine ⟨by rw [e, x1]; rfl, _, h2, fun c => ?_, fun c => ?_, x2, q⟩
  · by_cases hc : c = b
    · subst hc; right
      rcases d c with d | d
      · rw [x1] at d; simp at d
      · exact d
    · simp only [hc, if_false]; exact d c
  · by_cases hc : c = b
    · subst hc; simp
    · simp only [hc, if_false]; exact e c
theorem Upd.r {P Q Q' : SL} {b : Nat} {o o' : Obj} (x : Upd Q b o o' Q') : Upd (P * Q) b o o' (P * Q') := fun h p =>
  let ⟨a, b⟩ := x.l h (sl_comm_le p); ⟨a, sl_comm_le b⟩
theorem heap_setCell_of {w : World} {b i : Nat} {v : Value} {cs : Array Value} {T : TypeId} {fr : Nat × Nat} (h : w.heap[b]? = some (.cells cs T fr)) (c : Nat) :
    (w.setCell ⟨b, i, none⟩ v).heap[c]? = if c = b then some (.cells (cs.setIfInBounds i v) T fr) else w.heap[c]? := by
  simp only [World.setCell, Array.getElem?_modify]
  by_cases hc : c = b
  · subst hc; simp [h]
  · rw [if_neg (Ne.symm hc), if_neg hc]
theorem Sat.set {w : World} {P P' : SL} {b i : Nat} {v : Value} {cs : Array Value} {T : TypeId} {fr : Nat × Nat} (h : Sat w P)
    (x : Upd P b (.cells cs T fr) (.cells (cs.setIfInBounds i v) T fr) P') : Sat (w.setCell ⟨b, i, none⟩ v) P' := by
  obtain ⟨h, a, p⟩ := h
  obtain ⟨x1, x2⟩ := x _ p
  refine ⟨_, fun c o hc => ?_, x2⟩
  rw [heap_setCell_of (a _ _ x1)]
  by_cases e : c = b
  · simp only [e, if_true] at hc ⊢; exact hc
  · simp only [e, if_false] at hc ⊢; exact a _ _ hc
/-- a block's object is another one (a map) -/
theorem Sat.setObj {w w' : World} {P P' : SL} {b : Nat} {o o' : Obj} (h : Sat w P) (x : Upd P b o o' P')
    (e : w'.heap = w.heap.setIfInBounds b o') : Sat w' P' := by
  obtain ⟨h, a, p⟩ := h
  obtain ⟨x1, x2⟩ := x _ p
  refine ⟨_, fun c u hc => ?_, x2⟩
  rw [e]
  have hb := a _ _ x1
  have hlt : b < w.heap.size := by
    rcases Nat.lt_or_ge b w.heap.size with h' | h'
    · exact h'
    · simp [Array.getElem?_eq_none h'] at hb
  by_cases ec : c = b
  · subst ec; simp only [if_true] at hc; rw [← hc]; simp [hlt]
  · simp only [ec, if_false] at hc; rw [Array.getElem?_setIfInBounds_ne (Ne.symm ec)]; exact a _ _ hc
theorem Sat.alloc {w : World} {P : SL} (h : Sat w P) (o : Obj) : Sat (w.alloc o) (pt w.heap.size o * P) := by
  obtain ⟨h, a, p⟩ := h
  refine ⟨fun c => if c = w.heap.size then some o else h c, fun c u hc => ?_, fun c => if c = w.heap.size then some o else none, h, fun c => ?_, fun c => ?_, ⟨by simp, fun c hc => by simp [hc]⟩, p⟩
  · show (w.heap.push o)[c]? = some u
    rw [Array.getElem?_push]
    by_cases e : c = w.heap.size
    · simp only [e, if_true] at hc ⊢; exact hc
    · simp only [e, if_false] at hc ⊢; exact a _ _ hc
  · by_cases e : c = w.heap.size
    · right; subst e
      cases hh : h w.heap.size with
      | none => rfl
      | some u => have := a _ _ hh; simp at this
    · left; simp [e]
  · by_cases e : c = w.heap.size
    · simp [e]
    · simp [e]
theorem Sat.drew {w : World} {P : SL} (h : Sat w P) : Sat w.drew P := h.heap rfl
/-- what every call keeps -/
structure Kept (w w' : World) : Prop where
  os : w'.os = w.os
  tape : w'.tape = w.tape
  output : w'.output = w.output
  size : w.heap.size ≤ w'.heap.size
theorem Kept.refl (w : World) : Kept w w := ⟨rfl, rfl, rfl, Nat.le_refl _⟩
theorem Kept.trans {a b c : World} (h : Kept a b) (k : Kept b c) : Kept a c := ⟨k.os.trans h.os, k.tape.trans h.tape, k.output.trans h.output, Nat.le_trans h.size k.size⟩
theorem Kept.alloc {a b : World} (h : Kept a b) (o : Obj) : Kept a (b.alloc o) := h.trans ⟨rfl, rfl, rfl, by simp⟩
theorem Kept.drew {a b : World} (h : Kept a b) : Kept a b.drew := h.trans ⟨rfl, rfl, rfl, by simp⟩
theorem Kept.setCell {a b : World} (h : Kept a b) (p : Addr) (v : Value) : Kept a (b.setCell p v) := h.trans ⟨rfl, rfl, rfl, by simp⟩
/-- f has a text of its own -/
def goF (P : Program) (f : FuncId) : Bool := match P.funcs[f]? with
  | some fn => !(fn.name == "runtime.NumGoroutine") && !fn.body.isNone
  | none => false
/-- a call of f in a world of A comes back with v in a world of B v; whatever else is there stays -/
def Tr (P : Program) (f : FuncId) (args : Array Value) (A : SL) (B : Value → SL) : Prop :=
  goF P f = true ∧ ∀ (F : SL) (w : World), Sat w (A * F) → Calls P f args w fun e w' => ∃ v, e = .returned v ∧ Sat w' (B v * F) ∧ Kept w w'
def EntW (A J : SL) : Prop := ∀ w, Sat w A → Sat w J
theorem EntW.refl (A : SL) : EntW A A := fun _ h => h
theorem EntW.trans {A B C : SL} (h : EntW A B) (k : EntW B C) : EntW A C := fun w x => k w (h w x)
/-- A holds X, and beside it R -/
class Pick (A X : SL) (R : outParam SL) : Prop where
  eq : A = X * R
instance (priority := 1100) pick_hl (X R : SL) : Pick (X * R) X R := ⟨rfl⟩
instance (priority := 1090) pick_hr (X R : SL) : Pick (R * X) X R := ⟨sl_comm _ _⟩
instance (priority := 900) pick_r (L R X R' : SL) [h : Pick R X R'] : Pick (L * R) X (L * R') := ⟨by rw [h.eq, ← sl_assoc, sl_comm L X, sl_assoc]⟩
instance (priority := 800) pick_l (L R X L' : SL) [h : Pick L X L'] : Pick (L * R) X (L' * R) := ⟨by rw [h.eq, sl_assoc]⟩
/-- A holds all of X, and beside it R -/
class Fr (A X : SL) (R : outParam SL) : Prop where
  eq : A = X * R
instance (priority := 1200) fr_one (A : SL) : Fr A 1 A := ⟨(sl_one_mul A).symm⟩
instance (priority := 1150) fr_refl (A : SL) : Fr A A 1 := ⟨(sl_mul_one A).symm⟩
instance (priority := 1100) fr_mul (A X Y R R' : SL) [h : Fr A X R] [h' : Fr R Y R'] : Fr A (X * Y) R' := ⟨by rw [h.eq, h'.eq, sl_assoc]⟩
instance (priority := 1000) fr_pick (A X R : SL) [h : Pick A X R] : Fr A X R := ⟨h.eq⟩
theorem entW_fr {A X R : SL} [h : Fr A X R] : EntW A X := fun _ s => (s.eq h.eq).l
theorem entW_pu {A X : SL} {p : Prop} (hp : p) (h : EntW A X) : EntW A (pu p * X) := fun w s => (h w s).pu hp
theorem entW_pu2 {A X F : SL} {p : Prop} (hp : p) (h : EntW A (X * F)) : EntW A (pu p * X * F) := fun w s => (h w s).pu2 hp
theorem entW_ex2 {A F : SL} {α : Type} {X : α → SL} (x : α) (h : EntW A (X x * F)) : EntW A (ex X * F) := fun w s => sat_ex_mul.2 ⟨x, h w s⟩
class HasI (A : SL) (b : Nat) (o : outParam Obj) : Prop where
  has : Has A b o
instance (priority := 1000) hasI_o (b : Nat) (o : Obj) : HasI (pt b o) b o := ⟨.o⟩
instance (priority := 1100) hasI_hl (b : Nat) (o : Obj) (R : SL) : HasI (pt b o * R) b o := ⟨.l .o⟩
instance (priority := 900) hasI_r (L R : SL) (b : Nat) (o : Obj) [h : HasI R b o] : HasI (L * R) b o := ⟨.r h.has⟩
instance (priority := 800) hasI_l (L R : SL) (b : Nat) (o : Obj) [h : HasI L b o] : HasI (L * R) b o := ⟨.l h.has⟩
class UpdI (A : SL) (b : Nat) (o o' : Obj) (A' : outParam SL) : Prop where
  upd : Upd A b o o' A'
instance (priority := 1000) updI_o (b : Nat) (o o' : Obj) : UpdI (pt b o) b o o' (pt b o') := ⟨.o⟩
instance (priority := 1100) updI_hl (b : Nat) (o o' : Obj) (R : SL) : UpdI (pt b o * R) b o o' (pt b o' * R) := ⟨.l .o⟩
instance (priority := 900) updI_r (L R R' : SL) (b : Nat) (o o' : Obj) [h : UpdI R b o o' R'] : UpdI (L * R) b o o' (L * R') := ⟨.r h.upd⟩
instance (priority := 800) updI_l (L R L' : SL) (b : Nat) (o o' : Obj) [h : UpdI L b o o' L'] : UpdI (L * R) b o o' (L' * R) := ⟨.l h.upd⟩
#print axioms Sat.alloc
end Ice

namespace Ice
open Go
/-- the answer of a computation that asks the world nothing -/
def spv {α : Type} (p : Program) : Sem α → Option α
  | .pure a => some a
  | .program k => spv p (k p)
  | .mark _ k => spv p k
  | _ => none
theorem spv_run {α : Type} {p : Program} {s : Sem α} {a : α} (h : spv p s = some a) (w : World) : s.run p w = .ok a w := by
  induction s with
  | pure x => simp only [spv, Option.some.injEq] at h; subst h; rfl
  | program k ih => exact ih _ h
  | mark m k ih => exact ih h
  | _ => simp [spv] at h
/-- the answer of a computation that only reads the world -/
def rpv {α : Type} (p : Program) (w : World) : Sem α → Option α
  | .pure a => some a
  | .program k => rpv p w (k p)
  | .mark _ k => rpv p w k
  | .load _ a k => match w.cell? a with
    | some v => rpv p w (k v)
    | none => none
  | .shape r k => rpv p w (k (w.shape? r))
  | .frozen a k => rpv p w (k (w.frozen? a))
  | .getObj r k => match w.heap[r]? with
    | some (.cells ..) => none
    | some o => rpv p w (k o)
    | none => none
  | _ => none
theorem rpv_run {α : Type} {p : Program} {w : World} {s : Sem α} {a : α} (h : rpv p w s = some a) : s.run p w = .ok a w := by
  induction s with
  | pure x => simp only [rpv, Option.some.injEq] at h; subst h; rfl
  | program k ih => exact ih _ h
  | mark m k ih => exact ih h
  | load m b k ih =>
    simp only [rpv] at h
    simp only [Sem.run]
    split at h
    · rename_i v hv; simp only [hv]; exact ih _ h
    · simp at h
  | shape r k ih => exact ih _ h
  | frozen b k ih => exact ih _ h
  | getObj r k ih =>
    simp only [rpv] at h
    simp only [Sem.run]
    split at h
    · simp at h
    · rename_i o hn ho; simp only [ho]; exact ih _ h
    · simp at h
  | _ => simp [rpv] at h
theorem rpv_of_spv {α : Type} {p : Program} {w : World} {s : Sem α} {a : α} (h : spv p s = some a) : rpv p w s = some a := by
  induction s with
  | pure x => exact h
  | program k ih => exact ih _ h
  | mark m k ih => exact ih h
  | _ => simp [spv] at h
def val? : Option Next → Option Value
  | some (.value v) => some v
  | _ => none
theorem val?_some {x : Option Next} {v : Value} (h : val? x = some v) : x = some (.value v) := by
  unfold val? at h; split at h <;> simp_all
/-- a plain operation's value -/
def pv (P : Program) (ρ : Operand → Value) (o : Oper) : Option Value := val? (spv P (execOp ρ o))
/-- a reading operation's value -/
def rv (P : Program) (w : World) (ρ : Operand → Value) (o : Oper) : Option Value := val? (rpv P w (execOp ρ o))
theorem pv_run {P : Program} {ρ : Operand → Value} {o : Oper} {v : Value} (h : pv P ρ o = some v) (w : World) : (execOp ρ o).run P w = .ok (.value v) w := spv_run (val?_some h) w
theorem rv_run {P : Program} {w : World} {ρ : Operand → Value} {o : Oper} {v : Value} (h : rv P w ρ o = some v) : (execOp ρ o).run P w = .ok (.value v) w := rpv_run (val?_some h)
/-- how an operation of a region is taken: plain; a read that no loud one may come beside; a read in every world of the class; a loud one; a loud one beside which a read may come -/
inductive Cls where
  | pure | load | pload | loud | floud
  deriving DecidableEq
/-- a loud operation: it gives a value, or calls -/
def LStep (P : Program) (ρ : Operand → Value) (o : Oper) (w : World) (K : Value → World → Prop) : Prop :=
  match (execOp ρ o).run P w with
  | .ok (.value v) w' => K v w'
  | .ok .skip w' => K undef w'
  | .ok (.enter f args) w' => Calls P f args w' fun e w'' => ∃ v, e = .returned v ∧ K v w''
  | _ => False
theorem LStep.mono {P : Program} {ρ : Operand → Value} {o : Oper} {w : World} {K K' : Value → World → Prop} (h : LStep P ρ o w K) (hk : ∀ v w, K v w → K' v w) : LStep P ρ o w K' := by
  unfold LStep at *
  split at h
  · exact hk _ _ h
  · exact hk _ _ h
  · exact h.mono fun e w ⟨v, a, b⟩ => ⟨v, a, hk _ _ b⟩
  · exact h.elim
section
variable (P : Program) (ops : Array Oper) (S : World → Prop)
def Run (o : Oper) (c : Cls) (a : Act) (w : World) (K : Act → World → Prop) : Prop :=
  match c with
  | .pure => ∃ v, pv P a.eval o = some v ∧ K (a.put o.dst v) w
  | .load => ∃ v, rv P w a.eval o = some v ∧ K (a.put o.dst v) w
  | .pload => S w ∧ ∃ v, (∀ w', S w' → rv P w' a.eval o = some v) ∧ K (a.put o.dst v) w
  | .loud => LStep P a.eval o w fun v w' => K (a.put o.dst v) w'
  | .floud => S w ∧ LStep P a.eval o w fun v w' => S w' ∧ K (a.put o.dst v) w'
def Step1 (o : Oper) (c : Cls) (a : Act) (w : World) (K : Act → World → Prop) : Prop :=
  if Region.wanted o (yielded ops a.tmps) then Run P S o c a w K else K (a.put o.dst undef) w
/-- the operations of a region, one behind the other -/
def AL (Q : Act → World → Prop) : List (Oper × Cls) → Act → World → Prop
  | [], a, w => Q a w
  | (o, c) :: r, a, w => Step1 P ops S o c a w (AL Q r)
variable {P ops S}
variable {Q : Act → World → Prop} {a : Act} {w : World}
/-- a quiet operation leaves v -/
def YQ (P : Program) (ops : Array Oper) (S : World → Prop) (o : Oper) (c : Cls) (a : Act) (w : World) (v : Value) : Prop :=
  if Region.wanted o (yielded ops a.tmps) then
    match c with
    | .pure => pv P a.eval o = some v
    | .load => rv P w a.eval o = some v
    | .pload => S w ∧ ∀ w', S w' → rv P w' a.eval o = some v
    | _ => False
  else v = undef
def Cls.quiet : Cls → Bool
  | .pure | .load | .pload => true
  | _ => false
theorem step1_quiet {o : Oper} {c : Cls} {K : Act → World → Prop} (hc : c.quiet = true) :
    Step1 P ops S o c a w K ↔ ∃ v, YQ P ops S o c a w v ∧ K (a.put o.dst v) w := by
  unfold Step1 YQ
  by_cases hw : Region.wanted o (yielded ops a.tmps) = true
  · simp only [hw, if_true]
    cases c <;> simp only [Cls.quiet, Bool.false_eq_true] at hc <;> simp only [Run]
    constructor
    · rintro ⟨h, v, x, y⟩; exact ⟨v, ⟨h, x⟩, y⟩
    · rintro ⟨v, ⟨h, x⟩, y⟩; exact ⟨h, v, x, y⟩
  · simp only [hw]
    constructor
    · intro h; exact ⟨undef, rfl, h⟩
    · rintro ⟨v, rfl, h⟩; exact h
theorem YQ_put {o o' : Oper} {c : Cls} {u v : Value} (hs : ∀ cs b, o.op ≠ .select cs b) (h : ∀ d, o'.dst = some d → d ∉ o.looksAt ops) :
    YQ P ops S o c (a.put o'.dst u) w v ↔ YQ P ops S o c a w v := by
  unfold YQ pv rv
  rw [wanted_put o a o'.dst u h, execOp_put o hs a o'.dst u h]
theorem step1_mono {o : Oper} {c : Cls} {K K' : Act → World → Prop} (h : Step1 P ops S o c a w K) (hk : ∀ a w, K a w → K' a w) : Step1 P ops S o c a w K' := by
  unfold Step1 at *
  split
  · rename_i hw
    rw [if_pos hw] at h
    cases c <;> simp only [Run] at *
    · obtain ⟨v, x, y⟩ := h; exact ⟨v, x, hk _ _ y⟩
    · obtain ⟨v, x, y⟩ := h; exact ⟨v, x, hk _ _ y⟩
    · obtain ⟨s, v, x, y⟩ := h; exact ⟨s, v, x, hk _ _ y⟩
    · exact h.mono fun v w y => hk _ _ y
    · exact ⟨h.1, h.2.mono fun v w y => ⟨y.1, hk _ _ y.2⟩⟩
  · rename_i hw
    rw [if_neg hw] at h
    exact hk _ _ h
/-- which two may change places -/
def commOK : Cls → Cls → Bool
  | .pure, _ | _, .pure => true
  | .load, .load | .load, .pload | .pload, .load | .pload, .pload => true
  | .pload, .floud | .floud, .pload => true
  | _, _ => false
theorem LStep.some {P : Program} {ρ : Operand → Value} {o : Oper} {w : World} {K : Value → World → Prop} (h : LStep P ρ o w K) : ∃ v w', K v w' := by
  unfold LStep at h
  split at h
  · exact ⟨_, _, h⟩
  · exact ⟨_, _, h⟩
  · obtain ⟨e, w', fr, ⟨v, _, hv⟩, _⟩ := h []
    exact ⟨v, w', hv⟩
  · exact h.elim
theorem AL_swap {o1 o2 : Oper} {c1 c2 : Cls} {r : List (Oper × Cls)} (hap : o1.apart ops o2 = true) (hs1 : ∀ cs b, o1.op ≠ .select cs b)
    (hs2 : ∀ cs b, o2.op ≠ .select cs b) (hc : commOK c1 c2 = true) (h : AL P ops S Q ((o1, c1) :: (o2, c2) :: r) a w) : AL P ops S Q ((o2, c2) :: (o1, c1) :: r) a w := by
  obtain ⟨h1, h2, h3⟩ := Oper.apart_spec hap
  simp only [AL] at *
  by_cases q1 : c1.quiet = true
  · rw [step1_quiet q1] at h
    obtain ⟨v1, y1, h⟩ := h
    by_cases q2 : c2.quiet = true
    · rw [step1_quiet q2] at h ⊢
      obtain ⟨v2, y2, h⟩ := h
      refine ⟨v2, (YQ_put hs2 h1).1 y2, ?_⟩
      rw [step1_quiet q1]
      exact ⟨v1, (YQ_put hs1 h3).2 y1, by rw [← Act.put_comm a v1 v2 h2]; exact h⟩
    · -- a quiet one ahead of a loud one: the loud one first
      have hw2 := wanted_put o2 a o1.dst v1 h1
      have he2 := execOp_put o2 hs2 a o1.dst v1 h1
      unfold Step1 at h ⊢
      rw [hw2] at h
      split
      · rename_i hw
        rw [if_pos hw] at h
        cases c2 <;> simp only [Cls.quiet, not_true_eq_false, Bool.false_eq_true, not_false_eq_true] at q2 <;> simp only [Run, LStep, he2] at h ⊢
        · have hl : LStep P a.eval o2 w fun v w' => AL P ops S Q r ((a.put o1.dst v1).put o2.dst v) w' := h
          refine LStep.mono hl fun v w' hv => ?_
          refine (step1_quiet (P := P) (ops := ops) (S := S) (K := AL P ops S Q r) q1).2 ⟨v1, ?_, by rw [← Act.put_comm a v1 v h2]; exact hv⟩
          rw [YQ_put hs1 h3]
          cases c1 <;> simp only [commOK, Bool.false_eq_true] at hc
          exact y1
        · obtain ⟨s0, h⟩ := h
          have hl : LStep P a.eval o2 w fun v w' => S w' ∧ AL P ops S Q r ((a.put o1.dst v1).put o2.dst v) w' := h
          refine ⟨s0, LStep.mono hl fun v w' ⟨s1, hv⟩ => ⟨s1, ?_⟩⟩
          refine (step1_quiet (P := P) (ops := ops) (S := S) (K := AL P ops S Q r) q1).2 ⟨v1, ?_, by rw [← Act.put_comm a v1 v h2]; exact hv⟩
          rw [YQ_put hs1 h3]
          cases c1 <;> simp only [commOK, Bool.false_eq_true] at hc
          · exact y1
          · unfold YQ at y1 ⊢
            split
            · rename_i hw1; rw [if_pos hw1] at y1; exact ⟨s1, y1.2⟩
            · rename_i hw1; rw [if_neg hw1] at y1; exact y1
      · rename_i hw
        rw [if_neg hw] at h
        have := (step1_quiet (P := P) (ops := ops) (S := S) (a := a.put o2.dst undef) (w := w) (o := o1) (K := AL P ops S Q r) q1).2
          ⟨v1, (YQ_put hs1 h3).2 y1, by rw [← Act.put_comm a v1 undef h2]; exact h⟩
        exact this
  · have q2 : c2.quiet = true := by cases c1 <;> cases c2 <;> simp_all [commOK, Cls.quiet]
    rw [step1_quiet q2]
    have hw1 := fun v => wanted_put o1 a o2.dst v h3
    have he1 := fun v => execOp_put o1 hs1 a o2.dst v h3
    -- the quiet one's value
    by_cases hw : Region.wanted o1 (yielded ops a.tmps) = true
    · unfold Step1 at h
      rw [if_pos hw] at h
      cases c1 <;> simp only [Cls.quiet, not_true_eq_false, Bool.false_eq_true, not_false_eq_true] at q1 <;> simp only [Run] at h
      · have h := h.mono (K' := fun v w' => ∃ v2, YQ P ops S o2 c2 a w' v2 ∧ AL P ops S Q r ((a.put o1.dst v).put o2.dst v2) w') fun v w' hv => by
          have hv : Step1 P ops S o2 c2 (a.put o1.dst v) w' (AL P ops S Q r) := hv
          rw [step1_quiet q2] at hv; obtain ⟨v2, y2, hv⟩ := hv; exact ⟨v2, (YQ_put hs2 h1).1 y2, hv⟩
        obtain ⟨_, w1, v2, y2, _⟩ := h.some
        cases c2 <;> simp only [commOK, Bool.false_eq_true] at hc
        have yy : ∀ {w w' u u'}, YQ P ops S o2 .pure a w u → YQ P ops S o2 .pure a w' u' → u = u' := by
          intro w w' u u' x y; unfold YQ at x y; split at x
          · rename_i hh; rw [if_pos hh] at y; simp only [x, Option.some.injEq] at y; exact y
          · rename_i hh; rw [if_neg hh] at y; rw [x, y]
        have y0 : YQ P ops S o2 .pure a w v2 := y2
        refine ⟨v2, y0, ?_⟩
        unfold Step1
        rw [hw1, if_pos hw]
        simp only [Run, LStep, he1]
        exact LStep.mono h fun v w' ⟨v', y', hv⟩ => by rw [yy y2 y']; rw [← Act.put_comm a v v' h2]; exact hv
      · obtain ⟨s0, h⟩ := h
        have h := h.mono (K' := fun v w' => S w' ∧ ∃ v2, YQ P ops S o2 c2 a w' v2 ∧ AL P ops S Q r ((a.put o1.dst v).put o2.dst v2) w') fun v w' ⟨s1, hv⟩ => ⟨s1, by
          have hv : Step1 P ops S o2 c2 (a.put o1.dst v) w' (AL P ops S Q r) := hv
          rw [step1_quiet q2] at hv; obtain ⟨v2, y2, hv⟩ := hv; exact ⟨v2, (YQ_put hs2 h1).1 y2, hv⟩⟩
        obtain ⟨_, w1, s1, v2, y2, _⟩ := h.some
        cases c2 <;> simp only [commOK, Bool.false_eq_true] at hc
        · have yy : ∀ {w w' u u'}, YQ P ops S o2 .pure a w u → YQ P ops S o2 .pure a w' u' → u = u' := by
            intro w w' u u' x y; unfold YQ at x y; split at x
            · rename_i hh; rw [if_pos hh] at y; simp only [x, Option.some.injEq] at y; exact y
            · rename_i hh; rw [if_neg hh] at y; rw [x, y]
          have y0 : YQ P ops S o2 .pure a w v2 := y2
          refine ⟨v2, y0, ?_⟩
          unfold Step1
          rw [hw1, if_pos hw]
          simp only [Run, LStep, he1]
          exact ⟨s0, LStep.mono h fun v w' ⟨s2, v', y', hv⟩ => ⟨s2, by rw [yy y2 y']; rw [← Act.put_comm a v v' h2]; exact hv⟩⟩
        · have yy : ∀ {w w' u u'}, S w' → YQ P ops S o2 .pload a w u → YQ P ops S o2 .pload a w' u' → u = u' := by
            intro w w' u u' hs x y; unfold YQ at x y; split at x
            · rename_i hh; rw [if_pos hh] at y; have e1 := x.2 _ hs; have e2 := y.2 _ hs; simp only [e1, Option.some.injEq] at e2; exact e2
            · rename_i hh; rw [if_neg hh] at y; rw [x, y]
          have y0 : YQ P ops S o2 .pload a w v2 := by
            unfold YQ at y2 ⊢; split
            · rename_i hh; rw [if_pos hh] at y2; exact ⟨s0, y2.2⟩
            · rename_i hh; rw [if_neg hh] at y2; exact y2
          refine ⟨v2, y0, ?_⟩
          unfold Step1
          rw [hw1, if_pos hw]
          simp only [Run, LStep, he1]
          exact ⟨s0, LStep.mono h fun v w' ⟨s2, v', y', hv⟩ => ⟨s2, by rw [yy s2 y2 y']; rw [← Act.put_comm a v v' h2]; exact hv⟩⟩
    · unfold Step1 at h
      rw [if_neg hw] at h
      have h : Step1 P ops S o2 c2 (a.put o1.dst undef) w (AL P ops S Q r) := h
      rw [step1_quiet q2] at h
      obtain ⟨v2, y2, h⟩ := h
      refine ⟨v2, (YQ_put hs2 h1).1 y2, ?_⟩
      unfold Step1
      rw [hw1, if_neg hw, ← Act.put_comm a undef v2 h2]
      exact h
/-- number i and how it is taken -/
def item (ops : Array Oper) (cls : Nat → Cls) (i : Nat) : Oper × Cls := (ops.getD i default, cls i)
/-- whom an operation waits for: as bits -/
def maskOf (acc : List Nat) (o : Oper) : Nat :=
  o.after.toList.foldl (fun s e => bif Region.binds .any e then s ||| (1 <<< e.on) ||| (acc.getD e.on 0) else s) 0
def masks : List Oper → List Nat → List Nat
  | [], acc => acc
  | o :: r, acc => masks r (acc ++ [maskOf acc o])
def pairOK (ops : Array Oper) (ms : List Nat) (cls : Nat → Cls) (x i : Nat) : Bool :=
  (ms.getD i 0).testBit x || ((ops.getD x default).apart ops (ops.getD i default) && commOK (cls x) (cls i))
def isSel (o : Oper) : Bool := match o.op with | .select .. => true | _ => false
/-- the text's order serves for any -/
def textOK' (ops : Array Oper) (ms : List Nat) (cls : Nat → Cls) : Bool :=
  (List.range ops.size).all fun i => !isSel (ops.getD i default) &&
    ((ops.getD i default).after.all fun e => !Region.binds .any e || decide (e.on < i)) &&
    (List.range i).all fun x => pairOK ops ms cls x i
def textOK (ops : Array Oper) (cls : Nat → Cls) : Bool := textOK' ops (masks ops.toList []) cls
theorem isSel_spec {o : Oper} (h : isSel o = false) : ∀ cs b, o.op ≠ .select cs b := by
  intro cs b e; simp [isSel, e] at h
theorem AL_front {ops : Array Oper} {cls : Nat → Cls} {i : Nat} (hi : isSel (ops.getD i default) = false) : ∀ (l1 l2 : List Nat) (a : Act) (w : World),
    (∀ x ∈ l1, isSel (ops.getD x default) = false ∧ (ops.getD x default).apart ops (ops.getD i default) = true ∧ commOK (cls x) (cls i) = true) →
    AL P ops S Q ((l1 ++ i :: l2).map (item ops cls)) a w → AL P ops S Q ((i :: l1 ++ l2).map (item ops cls)) a w := by
  intro l1
  induction l1 with
  | nil => intro l2 a w _ h; exact h
  | cons x l1 ih =>
    intro l2 a w hx h
    obtain ⟨x1, x2, x3⟩ := hx x (by simp)
    have h2 : AL P ops S Q (item ops cls x :: (i :: l1 ++ l2).map (item ops cls)) a w := by
      simp only [List.cons_append, List.map_cons, AL, item] at h ⊢
      exact step1_mono h fun a' w' k => by
        have := ih l2 a' w' (fun y hy => hx y (by simp [hy])) (by simpa [item] using k)
        simpa [item, AL] using this
    simp only [List.cons_append, List.map_cons] at h2 ⊢
    exact AL_swap x2 (isSel_spec x1) (isSel_spec hi) x3 h2
/-- what has come up is closed downwards -/
def Closed (ops : Array Oper) (listed : Array Bool) : Prop :=
  ∀ j, j < ops.size → listed.getD j true = true → ∀ e ∈ (ops.getD j default).after, Region.binds .any e = true → listed.getD e.on false = true
theorem maskOf_bit {acc : List Nat} {o : Oper} {x : Nat} (h : (maskOf acc o).testBit x = true) :
    ∃ e ∈ o.after, Region.binds .any e = true ∧ (e.on = x ∨ (acc.getD e.on 0).testBit x = true) := by
  have key : ∀ (l : List Edge) (s : Nat), ((l.foldl (fun s e => bif Region.binds .any e then s ||| (1 <<< e.on) ||| (acc.getD e.on 0) else s) s).testBit x = true) →
      s.testBit x = true ∨ ∃ e ∈ l, Region.binds .any e = true ∧ (e.on = x ∨ (acc.getD e.on 0).testBit x = true) := by
    intro l
    induction l with
    | nil => intro s h; exact .inl h
    | cons e l ih =>
      intro s h
      simp only [List.foldl_cons] at h
      rcases ih _ h with h | ⟨e', h1, h2⟩
      · cases hb : Region.binds .any e with
        | false => rw [hb] at h; exact .inl h
        | true =>
          rw [hb] at h
          simp only [cond_true, Nat.testBit_or, Bool.or_eq_true] at h
          rcases h with (h | h) | h
          · exact .inl h
          · refine .inr ⟨e, by simp, hb, .inl ?_⟩
            rw [Nat.one_shiftLeft, Nat.testBit_two_pow] at h
            simpa using h
          · exact .inr ⟨e, by simp, hb, .inr h⟩
      · exact .inr ⟨e', by simp [h1], h2⟩
  rcases key _ 0 h with h | ⟨e, h1, h2⟩
  · simp at h
  · exact ⟨e, by simpa using h1, h2⟩
theorem masks_prefix : ∀ (l : List Oper) (acc : List Nat), ∃ t, masks l acc = acc ++ t ∧ t.length = l.length := by
  intro l
  induction l with
  | nil => intro acc; exact ⟨[], by simp [masks], rfl⟩
  | cons o r ih =>
    intro acc
    obtain ⟨t, h, hl⟩ := ih (acc ++ [maskOf acc o])
    exact ⟨maskOf acc o :: t, by simp [masks, h], by simp [hl]⟩
theorem masks_bit : ∀ (l : List Oper) (acc : List Nat) (i x : Nat) (o : Oper), l[i]? = some o → ((masks l acc).getD (acc.length + i) 0).testBit x = true →
    ∃ e ∈ o.after, Region.binds .any e = true ∧ (e.on = x ∨ (e.on < acc.length + i ∧ ((masks l acc).getD e.on 0).testBit x = true)) := by
  intro l
  induction l with
  | nil => intro acc i x o h; simp at h
  | cons o' r ih =>
    intro acc i x o ho h
    cases i with
    | zero =>
      simp only [List.getElem?_cons_zero, Option.some.injEq] at ho
      subst ho
      simp only [masks] at h ⊢
      obtain ⟨t, ht, _⟩ := masks_prefix r (acc ++ [maskOf acc o'])
      have hv : (masks r (acc ++ [maskOf acc o'])).getD (acc.length + 0) 0 = maskOf acc o' := by
        rw [ht]; simp
      rw [hv] at h
      obtain ⟨e, h1, h2, h3⟩ := maskOf_bit h
      refine ⟨e, h1, h2, h3.imp id fun h3 => ?_⟩
      have hlt : e.on < acc.length := by
        rcases Nat.lt_or_ge e.on acc.length with h' | h'
        · exact h'
        · simp [List.getD_eq_getElem?_getD, List.getElem?_eq_none h'] at h3
      refine ⟨by omega, ?_⟩
      rw [ht]
      have : (acc ++ [maskOf acc o'] ++ t).getD e.on 0 = acc.getD e.on 0 := by
        rw [List.getD_eq_getElem?_getD, List.getD_eq_getElem?_getD, List.append_assoc, List.getElem?_append_left hlt]
      rw [this]; exact h3
    | succ i =>
      simp only [masks] at h ⊢
      have := ih (acc ++ [maskOf acc o']) i x o (by simpa using ho) (by rw [show (acc ++ [maskOf acc o']).length + i = acc.length + (i + 1) by simp; omega]; exact h)
      obtain ⟨e, h1, h2, h3⟩ := this
      exact ⟨e, h1, h2, h3.imp id fun ⟨a, b⟩ => ⟨by simp at a; omega, b⟩⟩
theorem dep_listed {ops : Array Oper} {listed : Array Bool} (hc : Closed ops listed) (hsz : listed.size = ops.size) : ∀ (i x : Nat), i < ops.size →
    (∀ e ∈ (ops.getD i default).after, Region.binds .any e = true → listed.getD e.on false = true) → ((masks ops.toList []).getD i 0).testBit x = true → listed.getD x false = true := by
  intro i
  induction i using Nat.strongRecOn with
  | _ i ih =>
    intro x hi hall h
    have ho : ops.toList[i]? = some (ops.getD i default) := by simp [Array.getD, hi]
    obtain ⟨e, he, hb, h⟩ := masks_bit ops.toList [] i x _ ho (by simpa using h)
    have hl := hall e he hb
    rcases h with h | ⟨h1, h2⟩
    · rw [← h]; exact hl
    · have hlt : e.on < ops.size := by
        rcases Nat.lt_or_ge e.on ops.size with h' | h'
        · exact h'
        · simp [Array.getD, hsz, Nat.not_lt.2 h'] at hl
      refine ih e.on (by simpa using h1) x hlt (hc e.on hlt ?_) h2
      rw [Array.getD_eq_getD_getElem?, Array.getElem?_eq_getElem (by omega)] at hl ⊢
      simpa using hl
theorem ready_iff {ops : Array Oper} {listed : Array Bool} {i : Nat} (h : i ∈ Region.ready .any ops listed) :
    i < ops.size ∧ listed.getD i true = false ∧ ∀ e ∈ (ops.getD i default).after, Region.binds .any e = true → listed.getD e.on false = true := by
  obtain ⟨h1, o, h2, h3⟩ := mem_ready.1 h
  have hi : i < ops.size := by
    rcases Nat.lt_or_ge i ops.size with h' | h'
    · exact h'
    · simp [Array.getElem?_eq_none h'] at h2
  refine ⟨hi, h1, ?_⟩
  have : ops.getD i default = o := by rw [Array.getD_eq_getD_getElem?, h2]; rfl
  rw [this]; exact h3
theorem wp_of_run {o : Oper} {c : Cls} {K : Act → World → Prop} {Q' : Exit → Act → World → Prop} (h : Run P S o c a w K) : o.wp P a w K Q' := by
  unfold Oper.wp
  cases c <;> simp only [Run] at h
  · obtain ⟨v, x, y⟩ := h; rw [pv_run x]; exact y
  · obtain ⟨v, x, y⟩ := h; rw [rv_run x]; exact y
  · obtain ⟨s, v, x, y⟩ := h; rw [rv_run (x w s)]; exact y
  · unfold LStep at h
    split at h
    · rename_i e; rw [e]; exact h
    · rename_i e; rw [e]; exact h
    · rename_i e; rw [e]; exact h.mono fun e w ⟨v, x, y⟩ => by subst x; exact y
    · exact h.elim
  · have h := h.2
    unfold LStep at h
    split at h
    · rename_i e; rw [e]; exact h.2
    · rename_i e; rw [e]; exact h.2
    · rename_i e; rw [e]; exact h.mono fun e w ⟨v, x, y⟩ => by subst x; exact y.2
    · exact h.elim
theorem wpOp_of_step {i : Nat} {cls : Nat → Cls} {K K' : Act → World → Prop} {Q' : Exit → Act → World → Prop} (hi : i < ops.size) (hk : ∀ a w, K a w → K' a w)
    (h : Step1 P ops S (item ops cls i).1 (item ops cls i).2 a w K) : wpOp P ops Q' i K' a w := by
  unfold wpOp
  have e : ops[i]? = some (ops.getD i default) := by simp [Array.getD, hi]
  have h : Step1 P ops S (ops.getD i default) (cls i) a w K := h
  generalize ops.getD i default = o at *
  simp only [e]
  unfold Step1 at h
  split
  · rename_i hw; rw [if_pos hw] at h; exact .inl (Oper.wp_mono hk (wp_of_run h))
  · rename_i hw; rw [if_neg hw] at h; exact hk _ _ h
theorem any_of_AL {cls : Nat → Cls} {Q' : Exit → Act → World → Prop} (hok : textOK ops cls = true) (hQ : ∀ a w, Q a w → Q' .normal a w) :
    ∀ (fuel : Nat) (listed : Array Bool) (l : List Nat) (a : Act) (w : World), listed.size = ops.size → Closed ops listed →
      l = (List.range ops.size).filter (fun i => !listed.getD i true) → l.length ≤ fuel → AL P ops S Q (l.map (item ops cls)) a w → wpAny P .any ops Q' fuel listed a w := by
  have hok' : ∀ i, i < ops.size → isSel (ops.getD i default) = false ∧ (∀ e ∈ (ops.getD i default).after, Region.binds .any e = true → e.on < i) ∧ ∀ x, x < i → pairOK ops (masks ops.toList []) cls x i = true := by
    intro i hi
    have h := List.all_eq_true.1 hok i (List.mem_range.2 hi)
    simp only [Bool.and_eq_true, Bool.not_eq_true', List.all_eq_true, List.mem_range, Array.all_eq_true'] at h
    refine ⟨h.1.1, fun e he hb => ?_, h.2⟩
    have := h.1.2 e he
    simpa [hb] using this
  have hmem : ∀ (listed : Array Bool) (i : Nat), i ∈ (List.range ops.size).filter (fun i => !listed.getD i true) ↔ i < ops.size ∧ listed.getD i true = false := by
    intro listed i; simp only [List.mem_filter, List.mem_range, Bool.not_eq_true']
  have hnil : ∀ (listed : Array Bool) (l : List Nat), listed.size = ops.size → l = (List.range ops.size).filter (fun i => !listed.getD i true) → Region.ready .any ops listed = [] → l = [] := by
    intro listed l hsz hl hr
    have hsort : List.Pairwise (· < ·) l := by rw [hl]; exact List.Pairwise.filter _ (by simpa using List.pairwise_lt_range)
    cases l with
    | nil => rfl
    | cons i r =>
      exfalso
      have hi := (hmem listed i).1 (by rw [← hl]; simp)
      have : i ∈ Region.ready .any ops listed := by
        refine mem_ready.2 ⟨hi.2, ops.getD i default, by simp [Array.getD, hi.1], fun e he hb => ?_⟩
        have hlt := (hok' i hi.1).2.1 e he hb
        have hlts : e.on < ops.size := by omega
        have hun : ¬ listed.getD e.on true = false := by
          intro hf
          have hm : e.on ∈ i :: r := by rw [hl]; exact (hmem listed e.on).2 ⟨hlts, hf⟩
          rcases List.mem_cons.1 hm with h | h
          · omega
          · have := List.rel_of_pairwise_cons hsort h; omega
        rw [Array.getD_eq_getD_getElem?, Array.getElem?_eq_getElem (by omega)] at hun ⊢
        simpa using hun
      rw [hr] at this; cases this
  intro fuel
  induction fuel with
  | zero =>
    intro listed l a w hsz hcl hl hlen h
    have e : l = [] := List.length_eq_zero_iff.1 (by omega)
    refine ⟨?_, ?_⟩
    · cases hr : Region.ready .any ops listed with
      | nil => rfl
      | cons i r =>
        have hi := ready_iff (listed := listed) (ops := ops) (i := i) (by rw [hr]; simp)
        have : i ∈ l := by rw [hl]; exact (hmem listed i).2 ⟨hi.1, hi.2.1⟩
        rw [e] at this; cases this
    · rw [e] at h; exact hQ _ _ h
  | succ fuel ih =>
    intro listed l a w hsz hcl hl hlen h
    refine ⟨fun hr => by rw [hnil listed l hsz hl hr] at h; exact hQ _ _ h, fun i hi => ?_⟩
    obtain ⟨hi1, hi2, hi3⟩ := ready_iff hi
    have him : i ∈ l := by rw [hl]; exact (hmem listed i).2 ⟨hi1, hi2⟩
    have hsort : List.Pairwise (· < ·) l := by rw [hl]; exact List.Pairwise.filter _ (by simpa using List.pairwise_lt_range)
    obtain ⟨s, t, hst⟩ := List.append_of_mem him
    have hs : ∀ x ∈ s, x < i := by
      intro x hx
      rw [hst] at hsort
      exact (List.pairwise_append.1 hsort).2.2 x hx i (by simp)
    have hs2 : ∀ x ∈ s, x < ops.size ∧ listed.getD x true = false := fun x hx => (hmem listed x).1 (by rw [← hl, hst]; simp [hx])
    rw [hst] at h
    have h := AL_front (P := P) (S := S) (Q := Q) (ops := ops) (cls := cls) (i := i) (hok' i hi1).1 s t a w (fun x hx => by
      refine ⟨(hok' x (hs2 x hx).1).1, ?_⟩
      have hp := (hok' i hi1).2.2 x (hs x hx)
      unfold pairOK at hp
      rw [Bool.or_eq_true] at hp
      rcases hp with hp | hp
      · have hd := dep_listed hcl hsz i x hi1 hi3 hp
        have hf := (hs2 x hx).2
        have := (hs2 x hx).1
        rw [Array.getD_eq_getD_getElem?, Array.getElem?_eq_getElem (by omega)] at hd hf
        simp_all
      · exact Bool.and_eq_true_iff.1 hp) h
    simp only [List.cons_append, List.map_cons, AL] at h
    have hne : ∀ x ∈ s ++ t, x ≠ i := by
      have hnd : l.Nodup := by rw [hl]; exact List.Nodup.sublist List.filter_sublist List.nodup_range
      rw [hst] at hnd
      intro x hx e
      subst e
      rw [List.nodup_append] at hnd
      obtain ⟨_, n2, n3⟩ := hnd
      rcases List.mem_append.1 hx with hx | hx
      · exact n3 x hx x (by simp) rfl
      · exact (List.nodup_cons.1 n2).1 hx
    have hset : ∀ j, (listed.setIfInBounds i true).getD j true = if j = i then true else listed.getD j true := by
      intro j
      rw [Array.getD_eq_getD_getElem?, Array.getD_eq_getD_getElem?, Array.getElem?_setIfInBounds]
      by_cases e : i = j
      · subst e; simp [hsz, hi1]
      · simp [e, Ne.symm e]
    have hset' : ∀ j, (listed.setIfInBounds i true).getD j false = if j = i then true else listed.getD j false := by
      intro j
      rw [Array.getD_eq_getD_getElem?, Array.getD_eq_getD_getElem?, Array.getElem?_setIfInBounds]
      by_cases e : i = j
      · subst e; simp [hsz, hi1]
      · simp [e, Ne.symm e]
    refine wpOp_of_step hi1 (fun a' w' h' => ih (listed.setIfInBounds i true) (s ++ t) a' w' (by simp [hsz]) ?_ ?_ ?_ h') h
    · intro j hj hjl e he hb
      rw [hset'] ; rw [hset] at hjl
      split
      · rfl
      · rename_i hne'
        split at hjl
        · rename_i e2; rw [e2] at he; exact hi3 e he hb
        · exact hcl j hj hjl e he hb
    · have e1 : (List.range ops.size).filter (fun k => !(listed.setIfInBounds i true).getD k true) = l.filter (fun k => decide (k ≠ i)) := by
        rw [hl, List.filter_filter]
        refine List.filter_congr fun k _ => ?_
        rw [hset]; by_cases e : k = i <;> simp [e]
      rw [e1, hst, List.filter_append, List.filter_cons]
      simp only [ne_eq, not_true_eq_false, decide_false, Bool.false_eq_true, if_false]
      rw [List.filter_eq_self.2 (fun x hx => by simpa using hne x (by simp [hx])), List.filter_eq_self.2 (fun x hx => by simpa using hne x (by simp [hx]))]
    · rw [hst] at hlen; simp at hlen ⊢; omega
/-- A REGION THAT DRAWS ITS ORDER, WALKED IN THE TEXT's. -/
theorem region_text {cls : Nat → Cls} {id : Nat} {Q' : Exit → Act → World → Prop} (hm : P.follows .mixedOrders = true) (hok : textOK ops cls = true)
    (h : AL P ops S (Q' .normal) ((List.range ops.size).map (item ops cls)) a w.drew) : (Code.region id ops true).wp P Q' a w := by
  refine wp_region_any hm ?_
  have e : (List.range ops.size).filter (fun i => !(Array.replicate ops.size false).getD i true) = List.range ops.size := by
    refine List.filter_eq_self.2 fun i hi => ?_
    have := List.mem_range.1 hi
    simp [Array.getD, this]
  refine any_of_AL (S := S) (Q := Q' .normal) hok (fun _ _ h => h) ops.size _ (List.range ops.size) a _ (by simp) ?_ e.symm (by simp) h
  intro j hj hl
  simp [Array.getD, hj] at hl
/-- one that does not -/
theorem wpList_of_AL {Q' : Exit → Act → World → Prop} (hQ : ∀ a w, Q a w → Q' .normal a w) : ∀ (l : List (Oper × Cls)) (a : Act) (w : World), AL P ops S Q l a w → wpList P ops Q' (l.map (·.1)) a w := by
  intro l
  induction l with
  | nil => exact hQ
  | cons x r ih =>
    intro a w h
    obtain ⟨o, c⟩ := x
    simp only [AL, Step1] at h
    simp only [List.map_cons, wpList]
    split
    · rename_i hw; rw [if_pos hw] at h; exact .inl (Oper.wp_mono ih (wp_of_run h))
    · rename_i hw; rw [if_neg hw] at h; exact ih _ _ h
#print axioms region_text
end
end Ice

namespace Ice
open Go Go.RowKit
abbrev Env := List (Nat × Value)
/-- what is known of a slot -/
def lk? : Env → Nat → Option Value
  | [], _ => none
  | (s, v) :: r, t => bif Nat.beq s t then some v else lk? r t
def lk (f : Nat → Value) (l : Env) (t : Nat) : Value := (lk? l t).getD (f t)
def ev? (l : Env) : Operand → Option Value
  | .tmp t => lk? l t
  | .const v => some v
  | .global g => some (.pointer (some ⟨g, 0, none⟩))
  | .func f => some (.func (.func f) #[] #[])
def evf (f : Nat → Value) (l : Env) : Operand → Value
  | .tmp t => lk f l t
  | .const v => v
  | .global g => .pointer (some ⟨g, 0, none⟩)
  | .func f => .func (.func f) #[] #[]
def ev?s (l : Env) : List Operand → Option (List Value)
  | [] => some []
  | x :: r => match ev? l x, ev?s l r with
    | some v, some vs => some (v :: vs)
    | _, _ => none
def Fits (n : Nat) (f : Nat → Value) (l : Env) (a : Act) : Prop :=
  a.defers = [] ∧ a.tmps.size = n ∧ ∀ t, a.tmps.getD t undef = lk f l t
theorem Fits.eval {n : Nat} {f : Nat → Value} {l : Env} {a : Act} (h : Fits n f l a) : a.eval = evf f l := by
  funext x
  cases x with
  | tmp t => exact h.2.2 t
  | _ => rfl
theorem ev?_evf {f : Nat → Value} {l : Env} {x : Operand} {v : Value} (h : ev? l x = some v) : evf f l x = v := by
  cases x with
  | tmp t => simp only [ev?] at h; simp only [evf, lk, h]; rfl
  | _ => simp only [ev?, Option.some.injEq] at h; exact h
theorem ev?s_evf {f : Nat → Value} {l : Env} {xs : List Operand} {vs : List Value} (h : ev?s l xs = some vs) : xs.map (evf f l) = vs := by
  induction xs generalizing vs with
  | nil => simp only [ev?s, Option.some.injEq] at h; subst h; rfl
  | cons x r ih =>
    simp only [ev?s] at h
    split at h
    · rename_i v ws hv hw
      simp only [Option.some.injEq] at h; subst h
      simp only [List.map_cons, ev?_evf hv, ih hw]
    · simp at h
theorem Fits.put {n d : Nat} {f : Nat → Value} {l : Env} {a : Act} (h : Fits n f l a) (hd : Nat.blt d n = true) (v : Value) : Fits n f ((d, v) :: l) (a.put (some d) v) := by
  obtain ⟨h1, h2, h3⟩ := h
  refine ⟨h1, by simp [Act.put, h2], fun t => ?_⟩
  have hdn : d < n := by simpa [Nat.blt_eq] using hd
  have e : (a.put (some d) v).tmps.getD t undef = if d = t then v else a.tmps.getD t undef := by
    simp only [Act.put]
    rw [Array.getD_eq_getD_getElem?, Array.getD_eq_getD_getElem?, Array.getElem?_setIfInBounds]
    by_cases e : d = t
    · subst e; simp [h2, hdn]
    · simp [e]
  rw [e, h3]
  by_cases e : d = t
  · subst e; simp [lk, lk?]
  · have : Nat.beq d t = false := by cases h : Nat.beq d t with | false => rfl | true => exact absurd (Nat.eq_of_beq_eq_true h) e
    simp [lk, lk?, this, e]
/-- entailment -/
def Ent (A B : SL) : Prop := ∀ h, A h → B h
theorem Ent.refl (A : SL) : Ent A A := fun _ h => h
theorem Ent.of_eq {A B : SL} (e : A = B) : Ent A B := fun _ h => e ▸ h
theorem Ent.trans {A B C : SL} (h : Ent A B) (k : Ent B C) : Ent A C := fun x y => k x (h x y)
abbrev Pos := (Nat → Value) → Env → SL → Prop
/-- a way out of a piece of code -/
def lift (n : Nat) (w0 : World) (Q : Exit → Pos) : Exit → Act → World → Prop
  | .panic _, _, _ => False
  | .outgrown, _, _ => False
  | x, a, w => ∃ f l A, Fits n f l a ∧ Sat w A ∧ Kept w0 w ∧ Q x f l A
/-- code, from a frame and a heap on -/
def CC (P : Program) (n : Nat) (w0 : World) (c : Code) (Q : Exit → Pos) (f : Nat → Value) (l : Env) (A : SL) : Prop :=
  ∀ w a, Sat w A → Kept w0 w → Fits n f l a → c.wp P (lift n w0 Q) a w
def thn (K : Pos) (Q : Exit → Pos) : Exit → Pos
  | .normal => K
  | x => Q x
def blk (id : Nat) (Q : Exit → Pos) : Exit → Pos
  | .exit id' => if id' = id then Q .normal else Q (.exit id')
  | x => Q x
theorem wp_loop_gh {P : Program} {Q : Exit → Act → World → Prop} {a : Act} {w : World} {c : Code} {α : Type} (I : α → Act → World → Prop) (μ : α → Nat) (x0 : α) (h₀ : I x0 a w)
    (round : ∀ x a w, I x a w → c.wp P (Exit.then (fun a' w' => ∃ y, I y a' w' ∧ μ y < μ x) Q) a w) : (Code.loop c).wp P Q a w := by
  intro b k cs
  have key : ∀ n x a w, μ x = n → I x a w →
      ∃ e a' w', Q e a' w' ∧ Arrives P (lone (b.at a (.code c :: .inLoop c :: k)) cs w) b k cs e a' w' := by
    intro n
    induction n using Nat.strongRecOn with
    | _ n ih =>
      intro x a w hn hI
      obtain ⟨e, a₁, w₁, hq, harr⟩ := round x a w hI b (.inLoop c :: k) cs
      cases e with
      | normal =>
        obtain ⟨y, hI₁, hlt⟩ := hq
        obtain ⟨e₂, a₂, w₂, hq₂, harr₂⟩ := ih (μ y) (hn ▸ hlt) y a₁ w₁ rfl hI₁
        exact ⟨e₂, a₂, w₂, hq₂, .of_steps (Steps.trans harr (.one step_inLoop)) harr₂⟩
      | exit id => exact ⟨_, a₁, w₁, hq, .pass (x := .inLoop c) rfl (fun _ _ => .inl (by simp)) harr⟩
      | goto l => exact ⟨_, a₁, w₁, hq, .pass (x := .inLoop c) rfl (fun _ _ => .inl (by simp)) harr⟩
      | ret => exact ⟨_, a₁, w₁, hq, .pass (x := .inLoop c) rfl (fun _ _ => .inl (by simp)) harr⟩
      | panic ch => exact ⟨_, a₁, w₁, hq, .pass (x := .inLoop c) rfl (fun _ _ => .inl (by simp)) harr⟩
      | outgrown => exact ⟨_, a₁, w₁, hq, .pass (x := .inLoop c) rfl (fun _ _ => .inl (by simp)) harr⟩
  obtain ⟨e, a', w', hq, harr⟩ := key _ x0 a w rfl h₀
  exact ⟨e, a', w', hq, .of_steps (.one step_loop) harr⟩
section
variable {P : Program} {n : Nat} {w0 : World} {Q : Exit → Pos} {f : Nat → Value} {l : Env} {A : SL}
theorem CC.ent {c : Code} {B : SL} (h : CC P n w0 c Q f l B) (e : Ent A B) : CC P n w0 c Q f l A := fun w a s k x => h w a (s.mono e) k x
theorem CC.eq {c : Code} {B : SL} (h : CC P n w0 c Q f l B) (e : A = B) : CC P n w0 c Q f l A := e ▸ h
theorem CC.ex {c : Code} {α : Type} {B : α → SL} (h : ∀ x, CC P n w0 c Q f l (B x)) : CC P n w0 c Q f l (ex B) := fun _ _ s k x =>
  let ⟨y, s⟩ := sat_ex.1 s; h y _ _ s k x
theorem CC.ex1 {c : Code} {α : Type} {B : α → SL} (h : ∀ x, CC P n w0 c Q f l (B x * A)) : CC P n w0 c Q f l (Ice.ex B * A) := fun _ _ s k x =>
  let ⟨y, s⟩ := sat_ex_mul.1 s; h y _ _ s k x
theorem CC.pu {c : Code} {p : Prop} (h : p → CC P n w0 c Q f l A) : CC P n w0 c Q f l (pu p * A) := fun _ _ s k x =>
  let ⟨y, s⟩ := sat_pu.1 s; h y _ _ s k x
theorem CC.gen {c : Code} (h : ∀ w, Sat w A → CC P n w0 c Q f l A) : CC P n w0 c Q f l A := fun w a s k x => h w s w a s k x
theorem cc_skip (h : Q .normal f l A) : CC P n w0 .skip Q f l A := fun w a s k x => wp_skip ⟨f, l, A, x, s, k, h⟩
theorem cc_ret (h : Q .ret f l A) : CC P n w0 .ret Q f l A := fun w a s k x => wp_ret ⟨f, l, A, x, s, k, h⟩
theorem cc_exit {id : Nat} (h : Q (.exit id) f l A) : CC P n w0 (.exit id) Q f l A := fun w a s k x => wp_exit ⟨f, l, A, x, s, k, h⟩
theorem cc_seq {x y : Code} (h : CC P n w0 x (thn (CC P n w0 y Q) Q) f l A) : CC P n w0 (.seq x y) Q f l A := fun w a s k z => by
  refine wp_seq (Code.wp_mono ?_ (h w a s k z))
  intro e a w he
  cases e with
  | normal => obtain ⟨f, l, A, x, s, k, q⟩ := he; exact q w a s k x
  | panic c => exact he
  | outgrown => exact he
  | _ => exact he
theorem cc_block {id : Nat} {x : Code} (h : CC P n w0 x (blk id Q) f l A) : CC P n w0 (.block id x) Q f l A := fun w a s k z => by
  refine wp_block (Code.wp_mono ?_ (h w a s k z))
  intro e a w he
  cases e with
  | exit id' =>
    simp only [Exit.inBlock]
    obtain ⟨f, l, A, x, s, k, q⟩ := he
    simp only [blk] at q
    split
    · rename_i e; rw [if_pos e] at q; exact ⟨f, l, A, x, s, k, q⟩
    · rename_i e; rw [if_neg e] at q; exact ⟨f, l, A, x, s, k, q⟩
  | panic c => exact he
  | outgrown => exact he
  | _ => exact he
theorem cc_cond {x : Operand} {t e : Code} {b : Bool} (hv : ev? l x = some (.bool b)) (ht : b = true → CC P n w0 t Q f l A) (hf : b = false → CC P n w0 e Q f l A) :
    CC P n w0 (.cond x t e) Q f l A := fun w a s k z => by
  have hx : a.eval x = .bool b := by rw [z.eval]; exact ev?_evf hv
  exact wp_cond_split hx (fun h => ht h w a s k z) (fun h => hf h w a s k z)
/-- these slots hold these -/
def covers (f : Nat → Value) (l : Env) (L : Env) : Prop := ∀ t v, lk? L t = some v → lk f l t = v
theorem covers_cons {f : Nat → Value} {l L : Env} {t : Nat} {v : Value} (h : lk f l t = v) (hr : covers f l L) : covers f l ((t, v) :: L) := by
  intro u x hx
  simp only [lk?] at hx
  by_cases e : t = u
  · subst e; simp at hx; rw [← hx]; exact h
  · have : Nat.beq t u = false := by cases h : Nat.beq t u with | false => rfl | true => exact absurd (Nat.eq_of_beq_eq_true h) e
    rw [this] at hx; exact hr u x hx
theorem covers_nil {f : Nat → Value} {l : Env} : covers f l [] := fun _ _ h => by simp [lk?] at h
theorem Fits.re {a : Act} {L : Env} (h : Fits n f l a) (c : covers f l L) : Fits n (lk f l) L a :=
  ⟨h.1, h.2.1, fun t => by
    rw [h.2.2]
    cases hh : lk? L t with
    | none => simp [lk, hh]
    | some v => rw [c t v hh]; simp [lk, hh]⟩
end
end Ice

namespace Ice
open Go Go.RowKit
/-- block b: these cells, of elements of type T -/
abbrev bl (b : Nat) (T : TypeId) (cs : List Value) : SL := pt b (.cells cs.toArray T (0, 0))
def nth : List Value → Nat → Option Value
  | [], _ => none
  | v :: _, 0 => some v
  | _ :: r, k + 1 => nth r k
theorem nth_eq (cs : List Value) (k : Nat) : nth cs k = cs[k]? := by
  induction cs generalizing k with
  | nil => rfl
  | cons v r ih => cases k with
    | zero => rfl
    | succ k => simp [nth, ih]
/-- k cells from o on -/
def cutR (cs : List Value) (o : Nat) : Nat → List Value → Option (List Value)
  | 0, acc => some acc
  | k + 1, acc => match nth cs (o + k) with
    | some v => cutR cs o k (v :: acc)
    | none => none
theorem cutR_spec {cs : List Value} {o k : Nat} {acc r : List Value} (h : cutR cs o k acc = some r) :
    ∃ l, r = l ++ acc ∧ l.length = k ∧ ∀ i, i < k → l[i]? = cs[o + i]? := by
  induction k generalizing acc with
  | zero => simp only [cutR, Option.some.injEq] at h; exact ⟨[], by simp [h], rfl, fun i hi => by omega⟩
  | succ k ih =>
    simp only [cutR] at h
    split at h
    · rename_i v hv
      obtain ⟨l, h1, h2, h3⟩ := ih h
      refine ⟨l ++ [v], by simp [h1], by simp [h2], fun i hi => ?_⟩
      rw [nth_eq] at hv
      by_cases e : i < k
      · rw [List.getElem?_append_left (by omega)]; exact h3 i e
      · obtain rfl : i = k := by omega
        rw [List.getElem?_append_right (by omega), h2]; simp [hv]
    · simp at h
/-- cs with v at o -/
def setL : List Value → Nat → Value → Option (List Value)
  | [], _, _ => none
  | _ :: r, 0, v => some (v :: r)
  | x :: r, k + 1, v => match setL r k v with
    | some r => some (x :: r)
    | none => none
theorem setL_spec {cs cs' : List Value} {k : Nat} {v : Value} (h : setL cs k v = some cs') : k < cs.length ∧ cs' = cs.set k v := by
  induction cs generalizing k cs' with
  | nil => simp [setL] at h
  | cons x r ih => cases k with
    | zero => simp only [setL, Option.some.injEq] at h; subst h; simp
    | succ k =>
      simp only [setL] at h
      split at h
      · rename_i r' hr
        simp only [Option.some.injEq] at h; subst h
        obtain ⟨a, b⟩ := ih hr
        exact ⟨by simp; omega, by simp [b]⟩
      · simp at h
def setR : List Value → Nat → List Value → Option (List Value)
  | cs, _, [] => some cs
  | cs, o, v :: vs => match setL cs o v with
    | some cs => setR cs (o + 1) vs
    | none => none
/-- what a type is -/
def aggB (P : Program) (T : TypeId) : Option Bool := match P.underlying T with
  | some (.struct _) | some (.array ..) => some true
  | some _ => some false
  | none => none
def szB (P : Program) (T : TypeId) : Option Nat := (P.info? T).map (·.size)
def fOff (P : Program) (T : TypeId) (k : Nat) : Option Nat := match P.underlying T with
  | some (.struct fs) => match fs.toList[k]? with
    | some fl => match szB P fl.type with
      | some (_ + 1) => some fl.offset
      | _ => none
    | none => none
  | _ => none
def isInt (P : Program) (T : TypeId) : Bool := match P.underlying T with | some (.int _) => true | _ => false
def kindF (P : Program) (o : Oper) : Cls := match o.op with
  | .move _ | .assign _ | .pick .. | .fieldAddr .. | .field .. | .binOp .. | .unOp .. | .nilCheck _ | .extract .. | .makeInterface .. | .slice .. | .index .. | .indexAddr ..
  | .build .. | .makeFunc .. => .pure
  | .convert s d _ => bif isInt P s && isInt P d then .pure else .loud
  | .load .. | .lookup .. => .load
  | .call { callee := .builtin .len, .. } | .call { callee := .builtin .cap, .. } | .call { callee := .builtin .min, .. } | .call { callee := .builtin .max, .. } => .pure
  | _ => .loud
def memN : Nat → List Nat → Bool
  | _, [] => false
  | a, b :: r => bif Nat.beq a b then true else memN a r
/-- pl: the loads beside which a loud one may come; fl: these loud ones -/
def clsF (P : Program) (pl fl : List Nat) (k : Nat) (o : Oper) : Cls := match kindF P o with
  | .load => bif memN k pl then .pload else .load
  | .loud => bif memN k fl then .floud else .loud
  | c => c
def tag (P : Program) (pl fl : List Nat) (k : Nat) : List Oper → List (Oper × Cls)
  | [] => []
  | o :: r => (o, clsF P pl fl k o) :: tag P pl fl (k + 1) r
/-- the operations of a region from the k-th on -/
def RR (P : Program) (n : Nat) (w0 : World) (ops : Array Oper) (J : SL) (K : Pos) (pl fl : List Nat) (k : Nat) (r : List Oper) (f : Nat → Value) (l : Env) (A : SL) : Prop :=
  ∀ w a, Sat w A → Kept w0 w → Fits n f l a → AL P ops (fun w => Sat w J) (fun a w => ∃ f l A, Fits n f l a ∧ Sat w A ∧ Kept w0 w ∧ K f l A) (tag P pl fl k r) a w
theorem tag_map (P : Program) (pl fl : List Nat) (l : List Oper) : ∀ k, (tag P pl fl k l).map (·.1) = l := by
  induction l with
  | nil => intro k; rfl
  | cons o r ih => intro k; simp [tag, ih]
theorem tag_items (P : Program) (pl fl : List Nat) (ops : Array Oper) : ∀ (l : List Oper) (k : Nat), (∀ j, l[j]? = ops[k + j]?) →
    tag P pl fl k l = (List.range' k l.length).map (item ops (fun i => clsF P pl fl i (ops.getD i default))) := by
  intro l
  induction l with
  | nil => intro k _; rfl
  | cons o r ih =>
    intro k h
    have h0 : ops[k]? = some o := by simpa using (h 0).symm
    have hd : ops.getD k default = o := by rw [Array.getD_eq_getD_getElem?, h0]; rfl
    simp only [tag, List.length_cons, List.range'_succ, List.map_cons, item, hd]
    rw [ih (k + 1) (fun j => by have := h (j + 1); simpa [Nat.add_assoc, Nat.add_comm 1 j] using this)]
section
variable {P : Program} {n : Nat} {w0 : World} {Q : Exit → Pos} {f : Nat → Value} {l : Env} {A : SL}
theorem cc_region {id : Nat} {ops : List Oper} (h : RR P n w0 ops.toArray 1 (Q .normal) [] [] 0 ops f l A) : CC P n w0 (.region id ops.toArray false) Q f l A := by
  intro w a s k z
  refine wp_region_lit ?_
  have := wpList_of_AL (P := P) (ops := ops.toArray) (S := fun w => Sat w 1) (Q' := lift n w0 Q) (fun a w h => h) _ a w (h w a s k z)
  rwa [tag_map] at this
theorem cc_draw {id : Nat} {ops : List Oper} (J : SL) (pl fl : List Nat) (hm : P.follows .mixedOrders = true) (hok : textOK ops.toArray (fun i => clsF P pl fl i (ops.toArray.getD i default)) = true)
    (h : RR P n w0 ops.toArray J (Q .normal) pl fl 0 ops f l A) : CC P n w0 (.region id ops.toArray true) Q f l A := by
  intro w a s k z
  refine region_text (S := fun w => Sat w J) hm hok ?_
  have := h w.drew a s.drew k.drew z
  rw [tag_items P pl fl ops.toArray ops 0 (by simp)] at this
  rw [List.range_eq_range']
  exact this
variable {ops : Array Oper} {J : SL} {K : Pos} {pl fl : List Nat} {k : Nat} {r : List Oper} {d : Nat} {ty : TypeId} {ps : String} {af : Array Edge}
theorem rr_nil (h : K f l A) : RR P n w0 ops J K pl fl k [] f l A := fun w a s kk z => ⟨f, l, A, z, s, kk, h⟩
theorem RR.ent {B : SL} (h : RR P n w0 ops J K pl fl k r f l B) (e : Ent A B) : RR P n w0 ops J K pl fl k r f l A := fun w a s kk z => h w a (s.mono e) kk z
theorem RR.eq {B : SL} (h : RR P n w0 ops J K pl fl k r f l B) (e : A = B) : RR P n w0 ops J K pl fl k r f l A := e ▸ h
theorem RR.ex {α : Type} {B : α → SL} (h : ∀ x, RR P n w0 ops J K pl fl k r f l (B x)) : RR P n w0 ops J K pl fl k r f l (Ice.ex B) := fun w a s kk z =>
  let ⟨y, s⟩ := sat_ex.1 s; h y w a s kk z
theorem RR.ex1 {α : Type} {B : α → SL} (h : ∀ x, RR P n w0 ops J K pl fl k r f l (B x * A)) : RR P n w0 ops J K pl fl k r f l (Ice.ex B * A) := fun w a s kk z =>
  let ⟨y, s⟩ := sat_ex_mul.1 s; h y w a s kk z
theorem RR.pu {p : Prop} (h : p → RR P n w0 ops J K pl fl k r f l A) : RR P n w0 ops J K pl fl k r f l (Ice.pu p * A) := fun w a s kk z =>
  let ⟨y, s⟩ := sat_pu.1 s; h y w a s kk z
theorem RR.pu2 {p : Prop} {B : SL} (h : p → RR P n w0 ops J K pl fl k r f l (B * A)) : RR P n w0 ops J K pl fl k r f l (Ice.pu p * B * A) := by rw [sl_assoc]; exact RR.pu h
/-- an operation without a guard -/
theorem rr_step {o : Oper} (hg : o.guard = none) (h : ∀ w a, Sat w A → Kept w0 w → Fits n f l a →
      Run P (fun w => Sat w J) o (clsF P pl fl k o) a w (AL P ops (fun w => Sat w J) (fun a w => ∃ f l A, Fits n f l a ∧ Sat w A ∧ Kept w0 w ∧ K f l A) (tag P pl fl (k + 1) r))) :
    RR P n w0 ops J K pl fl k (o :: r) f l A := by
  intro w a s kk z
  simp only [tag, AL, Step1, Region.wanted, hg, if_true]
  exact h w a s kk z
def gslot (ops : Array Oper) (j : Nat) : Option Nat := match ops.toList[j]? with | some o => o.dst | none => none
theorem rr_guard {op : Op} {j : Nat} {want b : Bool} {s : Nat} (hs : gslot ops j = some s) (hb : lk? l s = some (.bool b)) (hd : Nat.blt d n = true)
    (ht : b = want → RR P n w0 ops J K pl fl k (⟨some d, op, ty, ps, af, none⟩ :: r) f ((s, .bool want) :: l) A)
    (hf : b = !want → RR P n w0 ops J K pl fl (k + 1) r f ((d, undef) :: (s, .bool !want) :: l) A) :
    RR P n w0 ops J K pl fl k (⟨some d, op, ty, ps, af, some (j, want)⟩ :: r) f l A := by
  intro w a sa kk z
  have hy : yielded ops a.tmps j = some b := by
    unfold gslot at hs
    split at hs
    · rename_i o ho
      have hl := z.2.2 s
      have hv : lk f l s = .bool b := by simp [lk, hb]
      rw [hv] at hl
      have hsz : s < a.tmps.size := by
        rcases Nat.lt_or_ge s a.tmps.size with h | h
        · exact h
        · rw [Array.getD_eq_getD_getElem?, Array.getElem?_eq_none h] at hl; simp [undef] at hl
      have ho' : ops[j]? = some o := by rw [← ho]; simp
      have : a.tmps[s]? = some (.bool b) := by
        rw [Array.getD_eq_getD_getElem?, Array.getElem?_eq_getElem hsz] at hl
        rw [Array.getElem?_eq_getElem hsz]; simpa using hl
      simp [yielded, ho', hs, this]
    · simp at hs
  have zz : ∀ c : Bool, b = c → Fits n f ((s, .bool c) :: l) a := by
    intro c e
    refine ⟨z.1, z.2.1, fun t => ?_⟩
    rw [z.2.2 t]
    by_cases e2 : s = t
    · subst e2; simp [lk, lk?, hb, e]
    · have : Nat.beq s t = false := by cases h : Nat.beq s t with | false => rfl | true => exact absurd (Nat.eq_of_beq_eq_true h) e2
      simp [lk, lk?, this]
  simp only [tag, AL, Step1, Region.wanted, hy]
  by_cases e : b = want
  · have := ht e w a sa kk (zz _ e)
    simp only [tag, AL, Step1, Region.wanted, if_true] at this
    rw [if_pos (by simp [e])]
    have hc : clsF P pl fl k (⟨some d, op, ty, ps, af, some (j, want)⟩ : Oper) = clsF P pl fl k ⟨some d, op, ty, ps, af, none⟩ := by
      unfold clsF kindF; rfl
    rw [hc]
    have he : ∀ ρ, execOp ρ (⟨some d, op, ty, ps, af, some (j, want)⟩ : Oper) = execOp ρ ⟨some d, op, ty, ps, af, none⟩ := fun ρ => by
      unfold execOp; rfl
    generalize clsF P pl fl k (⟨some d, op, ty, ps, af, none⟩ : Oper) = c at *
    cases c <;> simp only [Run, pv, rv, LStep, he] at this ⊢ <;> exact this
  · have e' : b = !want := by cases b <;> cases want <;> simp_all
    rw [if_neg (by simpa using e)]
    exact hf e' w _ sa kk ((zz _ e').put hd undef)
theorem kind_pure {o : Oper} (h : kindF P o = .pure) : clsF P pl fl k o = .pure := by simp [clsF, h]
/-- a plain operation -/
theorem rr_pure {op : Op} {v : Value} (hc : kindF P ⟨some d, op, ty, ps, af, none⟩ = .pure) (hv : pv P (evf f l) ⟨some d, op, ty, ps, af, none⟩ = some v) (hd : Nat.blt d n = true)
    (h : RR P n w0 ops J K pl fl (k + 1) r f ((d, v) :: l) A) : RR P n w0 ops J K pl fl k (⟨some d, op, ty, ps, af, none⟩ :: r) f l A := by
  refine rr_step rfl fun w a s kk z => ?_
  rw [kind_pure hc]
  exact ⟨v, by rw [z.eval]; exact hv, h w _ s kk (z.put hd v)⟩
theorem rr_move {x : Operand} {v : Value} (hv : ev? l x = some v) (hd : Nat.blt d n = true)
    (h : RR P n w0 ops J K pl fl (k + 1) r f ((d, v) :: l) A) : RR P n w0 ops J K pl fl k (⟨some d, .move x, ty, ps, af, none⟩ :: r) f l A :=
  rr_pure rfl (by show some (evf f l x) = some v; rw [ev?_evf hv]) hd h
theorem rr_assign {x : Operand} {v : Value} (hv : ev? l x = some v) (hd : Nat.blt d n = true)
    (h : RR P n w0 ops J K pl fl (k + 1) r f ((d, v) :: l) A) : RR P n w0 ops J K pl fl k (⟨some d, .assign x, ty, ps, af, none⟩ :: r) f l A :=
  rr_pure rfl (by show some (evf f l x) = some v; rw [ev?_evf hv]) hd h
def pickE (l : Env) (c a b : Operand) : Option Value := match ev? l c with
  | some (.bool true) => ev? l a
  | some (.bool false) => ev? l b
  | _ => none
theorem rr_pick {c x y : Operand} {v : Value} (hv : pickE l c x y = some v) (hd : Nat.blt d n = true)
    (h : RR P n w0 ops J K pl fl (k + 1) r f ((d, v) :: l) A) : RR P n w0 ops J K pl fl k (⟨some d, .pick c x y, ty, ps, af, none⟩ :: r) f l A := by
  refine rr_pure rfl ?_ hd h
  unfold pickE at hv
  split at hv
  · rename_i hc; have hc := ev?_evf (f := f) hc; have hx := ev?_evf (f := f) hv
    simp [pv, execOp, hc, hx, asBool, spv, val?, bind, Sem.bind, pure]
  · rename_i hc; have hc := ev?_evf (f := f) hc; have hx := ev?_evf (f := f) hv
    simp [pv, execOp, hc, hx, asBool, spv, val?, bind, Sem.bind, pure]
  · simp at hv
/-- a pick of two bools -/
theorem rr_pickb {c x y : Operand} {b v u : Bool} (hb : ev? l c = some (.bool b)) (hv : ev? l x = some (.bool v)) (hu : ev? l y = some (.bool u)) (hd : Nat.blt d n = true)
    (h : RR P n w0 ops J K pl fl (k + 1) r f ((d, .bool (bif b then v else u)) :: l) A) : RR P n w0 ops J K pl fl k (⟨some d, .pick c x y, ty, ps, af, none⟩ :: r) f l A := by
  refine rr_pure rfl ?_ hd h
  have h1 := ev?_evf (f := f) hb; have h2 := ev?_evf (f := f) hv; have h3 := ev?_evf (f := f) hu
  cases b <;> simp [pv, execOp, h1, h2, h3, asBool, spv, val?, bind, Sem.bind, pure]
theorem rr_nilCheck {x : Operand} {a : Addr} (hv : ev? l x = some (.pointer (some a))) (hd : Nat.blt d n = true)
    (h : RR P n w0 ops J K pl fl (k + 1) r f ((d, .pointer (some a)) :: l) A) : RR P n w0 ops J K pl fl k (⟨some d, .nilCheck x, ty, ps, af, none⟩ :: r) f l A := by
  refine rr_pure rfl ?_ hd h
  have h1 := ev?_evf (f := f) hv
  simp [pv, execOp, h1, spv, val?, pure]
theorem rr_extract {x : Operand} {i : Nat} {vs : List Value} {v : Value} (hx : ev? l x = some (.tuple vs.toArray)) (hv : nth vs i = some v) (hd : Nat.blt d n = true)
    (h : RR P n w0 ops J K pl fl (k + 1) r f ((d, v) :: l) A) : RR P n w0 ops J K pl fl k (⟨some d, .extract x i, ty, ps, af, none⟩ :: r) f l A := by
  refine rr_pure rfl ?_ hd h
  have h1 := ev?_evf (f := f) hx
  rw [nth_eq] at hv
  simp [pv, execOp, h1, Instr.extract, hv, spv, val?, pure, bind, Sem.bind]
theorem spv_bind {α β : Type} (s : Sem α) (g : α → Sem β) : spv P (s >>= g) = (spv P s).bind fun a => spv P (g a) := by
  show spv P (s.bind g) = _
  induction s with
  | pure a => rfl
  | program k ih => exact ih P
  | mark m k ih => exact ih
  | _ => rfl
theorem spv_pure {α : Type} (a : α) : spv P (pure a : Sem α) = some a := rfl
theorem spv_map {α β : Type} (g : α → β) (s : Sem α) : spv P (g <$> s) = (spv P s).map g := by
  show spv P (s.bind fun a => Sem.pure (g a)) = _
  exact (spv_bind (P := P) s (fun a => Sem.pure (g a))).trans (by cases spv P s <;> rfl)
theorem spv_program : spv P program = some P := rfl
theorem spv_underlying (T : TypeId) : spv P (underlying T) = P.underlying T := by
  unfold underlying
  rw [spv_bind, spv_program]
  simp only [Option.bind_some]
  split
  · rename_i h; rw [h]; rfl
  · rename_i h; rw [h]; rfl
theorem spv_typeInfo (T : TypeId) : spv P (typeInfo T) = P.info? T := by
  unfold typeInfo
  rw [spv_bind, spv_program]
  simp only [Option.bind_some]
  split
  · rename_i h; rw [h]; rfl
  · rename_i h; rw [h]; rfl
theorem spv_sizeOf (T : TypeId) : spv P (Go.sizeOf T) = szB P T := by
  unfold Go.sizeOf szB
  rw [spv_bind, spv_typeInfo]
  cases P.info? T <;> rfl
theorem rr_fieldAddr {T fi : Nat} {x : Operand} {b o dd : Nat} (hx : ev? l x = some (.pointer (some ⟨b, o, none⟩))) (hf : fOff P T fi = some dd) (hd : Nat.blt d n = true)
    (h : RR P n w0 ops J K pl fl (k + 1) r f ((d, .pointer (some ⟨b, o + dd, none⟩)) :: l) A) : RR P n w0 ops J K pl fl k (⟨some d, .fieldAddr T x fi, ty, ps, af, none⟩ :: r) f l A := by
  refine rr_pure rfl ?_ hd h
  have h1 := ev?_evf (f := f) hx
  unfold fOff at hf
  split at hf
  · rename_i fs hu
    split at hf
    · rename_i fd hfd
      split at hf
      · rename_i m hs
        simp only [Option.some.injEq] at hf; subst hf
        have hfd' : fs[fi]? = some fd := by rw [← hfd]; simp
        have e : (Addr.add ⟨b, o, none⟩ fd.offset) = ⟨b, o + fd.offset, none⟩ := by
          unfold Addr.add; split
          · rename_i e; simp [e]
          · rfl
        simp [pv, execOp, h1, Instr.fieldAt, spv_bind, spv_underlying, hu, hfd', Instr.sureAddr, spv_pure, fieldPlace, spv_sizeOf, hs, val?, e]
      · simp at hf
    · simp at hf
  · simp at hf
def elB (P : Program) (T : TypeId) : Option (TypeId × Nat) := match P.underlying T with
  | some (.slice e) => match szB P e with
    | some s => some (e, s)
    | none => none
  | _ => none
theorem addr_add (b o m : Nat) : Addr.add ⟨b, o, none⟩ m = ⟨b, o + m, none⟩ := by
  unfold Addr.add; split
  · rename_i e; simp [e]
  · rfl
/-- an element of a slice -/
theorem rr_indexAddr {T : Nat} {x ix : Operand} {b o len cap s E : Nat} {q : IntKind} {i : Int} (hx : ev? l x = some (.slice (some ⟨b, o, none⟩) len cap)) (hi : ev? l ix = some (.int q i))
    (he : elB P T = some (E, s)) (h0 : 0 ≤ i ∧ i < len) (hd : Nat.blt d n = true)
    (h : RR P n w0 ops J K pl fl (k + 1) r f ((d, .pointer (some ⟨b, o + i.toNat * s, none⟩)) :: l) A) : RR P n w0 ops J K pl fl k (⟨some d, .indexAddr T x ix, ty, ps, af, none⟩ :: r) f l A := by
  refine rr_pure rfl ?_ hd h
  have h1 := ev?_evf (f := f) hx
  have h2 := ev?_evf (f := f) hi
  unfold elB at he
  split at he
  · rename_i e hu
    split at he
    · rename_i z hz
      simp only [Option.some.injEq, Prod.mk.injEq] at he
      obtain ⟨rfl, rfl⟩ := he
      simp [pv, execOp, h1, h2, Instr.indexAt, asIntOf, spv_bind, spv_underlying, hu, spv_pure, h0, spv_sizeOf, spv_map, hz, val?, addr_add]
    · simp at he
  · simp at he
end
end Ice

namespace Ice
open Go Go.RowKit
/-- in what orders a region's operations may be taken: at alt in either way -/
inductive Ord where
  | nil
  | go (i : Nat) (t : Ord)
  | alt (x y : Ord)
section
variable (P : Program) (ops : Array Oper) (S : World → Prop) (Q : Act → World → Prop) (cls : Nat → Cls)
def AT : Ord → Act → World → Prop
  | .nil, a, w => Q a w
  | .go i t, a, w => Step1 P ops S (ops.getD i default) (cls i) a w (AT t)
  | .alt x y, a, w => AT x a w ∧ AT y a w
variable (dep : Nat → Nat → Bool)
def Cov : Ord → (Nat → Prop) → Prop
  | .nil, U => ∀ x, ¬ U x
  | .go i t, U => U i ∧ (∀ x, U x → dep i x = false) ∧ Cov t (fun x => U x ∧ x ≠ i)
  | .alt x y, U => Cov x U ∧ Cov y U
def rm (i : Nat) : Ord → Ord
  | .nil => .nil
  | .go j t => if j = i then t else .go j (rm i t)
  | .alt x y => .alt (rm i x) (rm i y)
def Nx (i : Nat) : Ord → Ord → Prop
  | .nil, _ => False
  | .go j t, r => (j = i ∧ r = t) ∨ (j ≠ i ∧ (cls j).quiet = true ∧ ∃ t', Nx i t t' ∧ r = .go j t')
  | .alt x y, r => Nx i x r ∨ Nx i y r
def CL : Nat → Ord → (Nat → Prop) → Prop
  | 0, _, U => ∀ i, U i → (cls i).quiet = true
  | n + 1, t, U => ∀ i, U i → (cls i).quiet = false → (∀ x, U x → (cls x).quiet = false → dep i x = false) → ∃ r, Nx cls i t r ∧ CL n r (fun x => U x ∧ x ≠ i)
/-- two operations that nothing binds may change places -/
def PC (U : Nat → Prop) : Prop := ∀ x i, U x → U i → x ≠ i → ((cls x).quiet = true ∨ (cls i).quiet = true) → dep i x = false → dep x i = false →
  (ops.getD x default).apart ops (ops.getD i default) = true ∧ commOK (cls x) (cls i) = true
end
section
variable {P : Program} {ops : Array Oper} {S : World → Prop} {Q : Act → World → Prop} {cls : Nat → Cls} {dep : Nat → Nat → Bool}
theorem yq_unique {o : Oper} {c : Cls} {a : Act} {w : World} {v u : Value} (h : YQ P ops S o c a w v) (k : YQ P ops S o c a w u) : v = u := by
  unfold YQ at h k
  split at h
  · rename_i hw
    rw [if_pos hw] at k
    cases c <;> simp only at h k
    · rw [h] at k; exact Option.some.inj k
    · rw [h] at k; exact Option.some.inj k
    · have := h.2 w h.1; rw [k.2 w k.1] at this; exact (Option.some.inj this).symm
  · rename_i hw
    rw [if_neg hw] at k
    rw [h, k]
theorem at_swap {i j : Nat} {t : Ord} {a : Act} {w : World} (hap : (ops.getD j default).apart ops (ops.getD i default) = true) (hs1 : isSel (ops.getD j default) = false) (hs2 : isSel (ops.getD i default) = false)
    (hc : commOK (cls j) (cls i) = true) (h : AT P ops S Q cls (.go j (.go i t)) a w) : AT P ops S Q cls (.go i (.go j t)) a w := by
  have h' : AL P ops S (AT P ops S Q cls t) [(ops.getD j default, cls j), (ops.getD i default, cls i)] a w := by simpa [AL, AT] using h
  have := AL_swap hap (isSel_spec hs1) (isSel_spec hs2) hc h'
  simpa [AL, AT] using this
theorem cov_congr {t : Ord} {U V : Nat → Prop} (h : ∀ x, U x ↔ V x) (c : Cov dep t U) : Cov dep t V := by
  have : U = V := funext fun x => propext (h x)
  rw [← this]; exact c
theorem cov_rm {i : Nat} : ∀ {t : Ord} {U : Nat → Prop}, Cov dep t U → U i → Cov dep (rm i t) (fun x => U x ∧ x ≠ i)
  | .nil, U, c, h => absurd h (c i)
  | .go j t, U, c, h => by
    simp only [rm]
    split
    · rename_i e; subst e; exact c.2.2
    · rename_i e
      refine ⟨⟨c.1, e⟩, fun x hx => c.2.1 x hx.1, ?_⟩
      exact cov_congr (fun x => by constructor <;> rintro ⟨⟨a, b⟩, d⟩ <;> exact ⟨⟨a, d⟩, b⟩) (cov_rm c.2.2 ⟨h, fun e' => e e'.symm⟩)
  | .alt x y, U, c, h => ⟨cov_rm c.1 h, cov_rm c.2 h⟩
theorem quiet_front {i : Nat} (hq : (cls i).quiet = true) (hsel : ∀ j, isSel (ops.getD j default) = false) : ∀ {t : Ord} {U : Nat → Prop} {a : Act} {w : World}, Cov dep t U → PC ops cls dep U → U i → (∀ x, U x → dep i x = false) →
    AT P ops S Q cls t a w → AT P ops S Q cls (.go i (rm i t)) a w
  | .nil, U, a, w, c, _, h, _, _ => absurd h (c i)
  | .go j t, U, a, w, c, pc, h, r, k => by
    simp only [rm]
    split
    · rename_i e; subst e; exact k
    · rename_i e
      obtain ⟨p1, p2⟩ := pc j i c.1 h e (.inr hq) (r j c.1) (c.2.1 i h)
      refine at_swap p1 (hsel j) (hsel i) p2 ?_
      simp only [AT] at k ⊢
      exact step1_mono k fun a' w' k' => quiet_front hq hsel c.2.2 (fun x y hx hy => pc x y hx.1 hy.1) ⟨h, fun e' => e e'.symm⟩ (fun x hx => r x hx.1) k'
  | .alt x y, U, a, w, c, pc, h, r, k => by
    have k1 := quiet_front hq hsel c.1 pc h r k.1
    have k2 := quiet_front hq hsel c.2 pc h r k.2
    simp only [AT] at k1 k2 ⊢
    rw [step1_quiet hq] at k1 k2 ⊢
    obtain ⟨v1, y1, k1⟩ := k1
    obtain ⟨v2, y2, k2⟩ := k2
    have := yq_unique y1 y2
    subst this
    exact ⟨v1, y1, k1, k2⟩
theorem loud_front {i : Nat} (hsel : ∀ j, isSel (ops.getD j default) = false) : ∀ {t r : Ord} {U : Nat → Prop} {a : Act} {w : World}, Nx cls i t r → Cov dep t U → PC ops cls dep U → U i → (∀ x, U x → dep i x = false) →
    AT P ops S Q cls t a w → AT P ops S Q cls (.go i r) a w
  | .nil, _, U, a, w, n, _, _, _, _, _ => n.elim
  | .go j t, r, U, a, w, n, c, pc, h, rd, k => by
    rcases n with ⟨e, e'⟩ | ⟨e, hq, t', n, e'⟩
    · subst e e'; exact k
    · subst e'
      obtain ⟨p1, p2⟩ := pc j i c.1 h e (.inl hq) (rd j c.1) (c.2.1 i h)
      refine at_swap p1 (hsel j) (hsel i) p2 ?_
      simp only [AT] at k ⊢
      exact step1_mono k fun a' w' k' => loud_front hsel n c.2.2 (fun x y hx hy => pc x y hx.1 hy.1) ⟨h, fun e' => e e'.symm⟩ (fun x hx => rd x hx.1) k'
  | .alt x y, r, U, a, w, n, c, pc, h, rd, k => by
    rcases n with n | n
    · exact loud_front hsel n c.1 pc h rd k.1
    · exact loud_front hsel n c.2 pc h rd k.2
theorem cov_nx {i : Nat} : ∀ {t r : Ord} {U : Nat → Prop}, Nx cls i t r → Cov dep t U → U i → Cov dep r (fun x => U x ∧ x ≠ i)
  | .nil, _, U, n, _, _ => n.elim
  | .go j t, r, U, n, c, h => by
    rcases n with ⟨e, e'⟩ | ⟨e, hq, t', n, e'⟩
    · subst e e'; exact c.2.2
    · subst e'
      refine ⟨⟨c.1, e⟩, fun x hx => c.2.1 x hx.1, ?_⟩
      exact cov_congr (fun x => by constructor <;> rintro ⟨⟨a, b⟩, d⟩ <;> exact ⟨⟨a, d⟩, b⟩) (cov_nx n c.2.2 ⟨h, fun e' => e e'.symm⟩)
  | .alt x y, r, U, n, c, h => by
    rcases n with n | n
    · exact cov_nx n c.1 h
    · exact cov_nx n c.2 h
theorem nx_rm {i j : Nat} (hij : j ≠ i) : ∀ {t r : Ord}, Nx cls j t r → Nx cls j (rm i t) (rm i r)
  | .nil, _, n => n.elim
  | .go k t, r, n => by
    rcases n with ⟨e, e'⟩ | ⟨e, hq, t', n, e'⟩
    · subst e e'; simp only [rm, if_neg hij]; exact .inl ⟨rfl, rfl⟩
    · subst e'
      simp only [rm]
      by_cases hk : k = i
      · rw [if_pos hk, if_pos hk]; exact n
      · rw [if_neg hk, if_neg hk]; exact .inr ⟨e, hq, _, nx_rm hij n, rfl⟩
  | .alt x y, r, n => n.imp (nx_rm hij) (nx_rm hij)
theorem cl_congr {n : Nat} {t : Ord} {U V : Nat → Prop} (h : ∀ x, U x ↔ V x) (c : CL cls dep n t U) : CL cls dep n t V := by
  have : U = V := funext fun x => propext (h x)
  rw [← this]; exact c
theorem cl_rm {i : Nat} (hq : (cls i).quiet = true) : ∀ {n : Nat} {t : Ord} {U : Nat → Prop}, CL cls dep n t U → CL cls dep n (rm i t) (fun x => U x ∧ x ≠ i)
  | 0, t, U, c => fun x hx => c x hx.1
  | n + 1, t, U, c => fun j hj hl hd => by
    obtain ⟨r, h1, h2⟩ := c j hj.1 hl (fun x hx hxl => hd x ⟨hx, fun e => by subst e; rw [hq] at hxl; cases hxl⟩ hxl)
    exact ⟨rm i r, nx_rm hj.2 h1, cl_congr (fun x => by constructor <;> rintro ⟨⟨a, b⟩, d⟩ <;> exact ⟨⟨a, d⟩, b⟩) (cl_rm hq h2)⟩
theorem cov_empty : ∀ {t : Ord} {U : Nat → Prop} {a : Act} {w : World}, Cov dep t U → (∀ x, ¬ U x) → AT P ops S Q cls t a w → Q a w
  | .nil, U, a, w, _, _, k => k
  | .go j t, U, a, w, c, h, _ => absurd c.1 (h j)
  | .alt x y, U, a, w, c, h, k => cov_empty c.1 h k.1
def unl (ops : Array Oper) (listed : Array Bool) : Nat → Prop := fun x => x < ops.size ∧ listed.getD x true = false
def depM (ms : List Nat) (i x : Nat) : Bool := (ms.getD i 0).testBit x
theorem any_of_AT {Q' : Exit → Act → World → Prop} (hE : ∀ i, i < ops.size → ∀ e ∈ (ops.getD i default).after, Region.binds .any e = true → e.on < i) (hsel : ∀ j, isSel (ops.getD j default) = false)
    (hPC : PC ops cls (depM (masks ops.toList [])) (fun x => x < ops.size)) (hQ : ∀ a w, Q a w → Q' .normal a w) :
    ∀ (fuel : Nat) (listed : Array Bool) (t : Ord) (m : Nat) (a : Act) (w : World), listed.size = ops.size → Closed ops listed → Cov (depM (masks ops.toList [])) t (unl ops listed) → CL cls (depM (masks ops.toList [])) m t (unl ops listed) →
      ((List.range ops.size).filter (fun i => !listed.getD i true)).length ≤ fuel → AT P ops S Q cls t a w → wpAny P .any ops Q' fuel listed a w := by
  have hmin : ∀ (listed : Array Bool), listed.size = ops.size → Region.ready .any ops listed = [] → ∀ x, ¬ unl ops listed x := by
    intro listed hsz hr x
    induction x using Nat.strongRecOn with
    | _ x ih =>
      intro hx
      have : x ∈ Region.ready .any ops listed := by
        refine mem_ready.2 ⟨hx.2, ops.getD x default, by simp [Array.getD, hx.1], fun e he hb => ?_⟩
        have hlt := hE x hx.1 e he hb
        have hn := ih e.on hlt
        have hlts : e.on < ops.size := Nat.lt_trans hlt hx.1
        have hun : ¬ listed.getD e.on true = false := fun hf => hn ⟨hlts, hf⟩
        rw [Array.getD_eq_getD_getElem?, Array.getElem?_eq_getElem (by omega)] at hun ⊢
        simpa using hun
      rw [hr] at this; cases this
  intro fuel
  induction fuel with
  | zero =>
    intro listed t m a w hsz hcl hcov hCL hlen k
    have hno : ∀ x, ¬ unl ops listed x := by
      intro x hx
      have : x ∈ (List.range ops.size).filter (fun i => !listed.getD i true) := by
        simp only [List.mem_filter, List.mem_range, Bool.not_eq_true']; exact hx
      rw [List.length_eq_zero_iff.1 (Nat.le_zero.1 hlen)] at this; cases this
    refine ⟨?_, hQ _ _ (cov_empty hcov hno k)⟩
    cases hr : Region.ready .any ops listed with
    | nil => rfl
    | cons i r =>
      have hi := ready_iff (listed := listed) (ops := ops) (i := i) (by rw [hr]; simp)
      exact absurd ⟨hi.1, hi.2.1⟩ (hno i)
  | succ fuel ih =>
    intro listed t m a w hsz hcl hcov hCL hlen k
    refine ⟨fun hr => hQ _ _ (cov_empty hcov (hmin listed hsz hr) k), fun i hi => ?_⟩
    obtain ⟨hi1, hi2, hi3⟩ := ready_iff hi
    have hu : unl ops listed i := ⟨hi1, hi2⟩
    have rd : ∀ x, unl ops listed x → depM (masks ops.toList []) i x = false := by
      intro x hx
      cases hd : depM (masks ops.toList []) i x with
      | false => rfl
      | true =>
        have hd := dep_listed hcl hsz i x hi1 hi3 hd
        have hf := hx.2
        have := hx.1
        rw [Array.getD_eq_getD_getElem?, Array.getElem?_eq_getElem (by omega)] at hd hf
        simp_all
    have pc : PC ops cls (depM (masks ops.toList [])) (unl ops listed) := fun x y hx hy => hPC x y hx.1 hy.1
    have hset : ∀ j, (listed.setIfInBounds i true).getD j true = if j = i then true else listed.getD j true := by
      intro j
      rw [Array.getD_eq_getD_getElem?, Array.getD_eq_getD_getElem?, Array.getElem?_setIfInBounds]
      by_cases e : i = j
      · subst e; simp [hsz, hi1]
      · simp [e, Ne.symm e]
    have hset' : ∀ j, (listed.setIfInBounds i true).getD j false = if j = i then true else listed.getD j false := by
      intro j
      rw [Array.getD_eq_getD_getElem?, Array.getD_eq_getD_getElem?, Array.getElem?_setIfInBounds]
      by_cases e : i = j
      · subst e; simp [hsz, hi1]
      · simp [e, Ne.symm e]
    have hU : ∀ x, (unl ops listed x ∧ x ≠ i) ↔ unl ops (listed.setIfInBounds i true) x := by
      intro x
      simp only [unl, hset]
      by_cases e : x = i <;> simp [e]
    have hcl' : Closed ops (listed.setIfInBounds i true) := by
      intro j hj hjl e he hb
      rw [hset'] ; rw [hset] at hjl
      split
      · rfl
      · split at hjl
        · rename_i e2; rw [e2] at he; exact hi3 e he hb
        · exact hcl j hj hjl e he hb
    have hlen' : ((List.range ops.size).filter (fun k => !(listed.setIfInBounds i true).getD k true)).length ≤ fuel := by
      have e1 : (List.range ops.size).filter (fun k => !(listed.setIfInBounds i true).getD k true) = ((List.range ops.size).filter (fun k => !listed.getD k true)).filter (fun k => decide (k ≠ i)) := by
        rw [List.filter_filter]
        refine List.filter_congr fun k _ => ?_
        rw [hset]; by_cases e : k = i <;> simp [e]
      rw [e1]
      have him : i ∈ (List.range ops.size).filter (fun k => !listed.getD k true) := by
        simp only [List.mem_filter, List.mem_range, Bool.not_eq_true']; exact hu
      have : (((List.range ops.size).filter (fun k => !listed.getD k true)).filter (fun k => decide (k ≠ i))).length < ((List.range ops.size).filter (fun k => !listed.getD k true)).length :=
        List.length_filter_lt_length_iff_exists.2 ⟨i, him, by simp⟩
      omega
    by_cases hq : (cls i).quiet = true
    · refine wpOp_of_step (cls := cls) (S := S) hi1 (fun a' w' h' => ih (listed.setIfInBounds i true) (rm i t) m a' w' (by simp [hsz]) hcl' (cov_congr hU (cov_rm hcov hu)) (cl_congr hU (cl_rm hq hCL)) hlen' h') (quiet_front hq hsel hcov pc hu rd k)
    · have hq' : (cls i).quiet = false := by simpa using hq
      cases m with
      | zero => have := hCL i hu; rw [this] at hq'; cases hq'
      | succ m =>
        obtain ⟨r, n, hCL'⟩ := hCL i hu hq' (fun x hx _ => rd x hx)
        exact wpOp_of_step (cls := cls) (S := S) hi1 (fun a' w' h' => ih (listed.setIfInBounds i true) r m a' w' (by simp [hsz]) hcl' (cov_congr hU (cov_nx n hcov hu)) (cl_congr hU hCL') hlen' h') (loud_front hsel n hcov pc hu rd k)
/-- the checks, as bits -/
def covF (ms : List Nat) : Ord → List Nat → Bool
  | .nil, U => U.isEmpty
  | .go i t, U => memN i U && (U.all fun x => !depM ms i x) && covF ms t (U.filter fun x => !Nat.beq x i)
  | .alt x y, U => covF ms x U && covF ms y U
def nxF (cls : Nat → Cls) (i : Nat) : Ord → List Ord
  | .nil => []
  | .go j t => bif Nat.beq j i then [t] else bif (cls j).quiet then (nxF cls i t).map (.go j) else []
  | .alt x y => nxF cls i x ++ nxF cls i y
def clF (cls : Nat → Cls) (ms : List Nat) : Nat → Ord → List Nat → Bool
  | 0, _, L => L.isEmpty
  | n + 1, t, L => L.all fun i => (L.any fun x => depM ms i x) || (nxF cls i t).any fun r => clF cls ms n r (L.filter fun x => !Nat.beq x i)
def permOK' (ops : Array Oper) (ms : List Nat) (cls : Nat → Cls) (t : Ord) : Bool :=
  !isSel default && ((List.range ops.size).all fun i => !isSel (ops.getD i default) &&
    ((ops.getD i default).after.all fun e => !Region.binds .any e || decide (e.on < i)) &&
    (List.range ops.size).all fun x => Nat.beq x i || (!(cls x).quiet && !(cls i).quiet) || depM ms i x || depM ms x i || ((ops.getD x default).apart ops (ops.getD i default) && commOK (cls x) (cls i))) &&
  covF ms t (List.range ops.size) && clF cls ms ops.size t ((List.range ops.size).filter fun i => !(cls i).quiet)
def permOK (ops : Array Oper) (cls : Nat → Cls) (t : Ord) : Bool := permOK' ops (masks ops.toList []) cls t
theorem memN_iff {a : Nat} {l : List Nat} : memN a l = true ↔ a ∈ l := by
  induction l with
  | nil => simp [memN]
  | cons b r ih =>
    simp only [memN]
    by_cases e : a = b
    · subst e; simp
    · have : Nat.beq a b = false := by cases h : Nat.beq a b with | false => rfl | true => exact absurd (Nat.eq_of_beq_eq_true h) e
      rw [this]; simp [ih, e]
theorem nbeq {a b : Nat} : (!Nat.beq a b) = true ↔ a ≠ b := by
  by_cases e : a = b
  · subst e; simp
  · have : Nat.beq a b = false := by cases h : Nat.beq a b with | false => rfl | true => exact absurd (Nat.eq_of_beq_eq_true h) e
    simp [this, e]
theorem covF_spec {ms : List Nat} : ∀ {t : Ord} {U : List Nat}, covF ms t U = true → Cov (depM ms) t (· ∈ U)
  | .nil, U, h => by
    have : U = [] := by simpa [covF] using h
    subst this; intro x hx; cases hx
  | .go i t, U, h => by
    simp only [covF, Bool.and_eq_true, List.all_eq_true, Bool.not_eq_true'] at h
    refine ⟨memN_iff.1 h.1.1, h.1.2, cov_congr (fun x => ?_) (covF_spec h.2)⟩
    rw [List.mem_filter, nbeq]
  | .alt x y, U, h => by
    simp only [covF, Bool.and_eq_true] at h
    exact ⟨covF_spec h.1, covF_spec h.2⟩
theorem nxF_spec {i : Nat} : ∀ {t r : Ord}, r ∈ nxF cls i t → Nx cls i t r
  | .nil, r, h => by simp [nxF] at h
  | .go j t, r, h => by
    simp only [nxF] at h
    cases e : Nat.beq j i with
    | true => rw [e] at h; simp only [cond_true, List.mem_singleton] at h; exact .inl ⟨Nat.eq_of_beq_eq_true e, h⟩
    | false =>
      rw [e] at h
      simp only [cond_false] at h
      cases q : (cls j).quiet with
      | false => rw [q] at h; simp at h
      | true =>
        rw [q] at h
        simp only [cond_true, List.mem_map] at h
        obtain ⟨t', h1, h2⟩ := h
        refine .inr ⟨fun e' => ?_, q, t', nxF_spec h1, h2.symm⟩
        subst e'; simp at e
  | .alt x y, r, h => by
    simp only [nxF, List.mem_append] at h
    exact h.imp nxF_spec nxF_spec
theorem clF_spec {ms : List Nat} : ∀ {n : Nat} {t : Ord} {L : List Nat} {U : Nat → Prop}, clF cls ms n t L = true → (∀ x, (U x ∧ (cls x).quiet = false) ↔ x ∈ L) → CL cls (depM ms) n t U
  | 0, t, L, U, h, hL => fun i hi => by
    have : L = [] := by simpa [clF] using h
    subst this
    cases hq : (cls i).quiet with
    | true => rfl
    | false => have := (hL i).1 ⟨hi, hq⟩; cases this
  | n + 1, t, L, U, h, hL => fun i hi hq hd => by
    simp only [clF, List.all_eq_true, Bool.or_eq_true, List.any_eq_true] at h
    rcases h i ((hL i).1 ⟨hi, hq⟩) with ⟨x, hx, hdx⟩ | ⟨r, hr, hc⟩
    · have := (hL x).2 hx
      rw [hd x this.1 this.2] at hdx; cases hdx
    · refine ⟨r, nxF_spec hr, clF_spec hc fun x => ?_⟩
      rw [List.mem_filter, nbeq, ← hL x]
      constructor
      · rintro ⟨⟨a, b⟩, c⟩; exact ⟨⟨a, c⟩, b⟩
      · rintro ⟨⟨a, c⟩, b⟩; exact ⟨⟨a, b⟩, c⟩
/-- A REGION THAT DRAWS ITS ORDER, WHERE LOUD ONES ARE FREE: walked in each of their orders -/
theorem region_perm {id : Nat} {w : World} {a : Act} {Q' : Exit → Act → World → Prop} {t : Ord} (hm : P.follows .mixedOrders = true) (hok : permOK ops cls t = true)
    (h : AT P ops S (Q' .normal) cls t a w.drew) : (Code.region id ops true).wp P Q' a w := by
  refine wp_region_any hm ?_
  simp only [permOK, permOK', Bool.and_eq_true, List.all_eq_true, List.mem_range, Bool.not_eq_true', Array.all_eq_true', Bool.or_eq_true, decide_eq_true_eq] at hok
  obtain ⟨⟨⟨h0, h1⟩, h2⟩, h3⟩ := hok
  have hun : ∀ x, unl ops (Array.replicate ops.size false) x ↔ x ∈ List.range ops.size := by
    intro x; simp only [unl, List.mem_range]
    constructor
    · exact fun h => h.1
    · intro hx; exact ⟨hx, by simp [Array.getD, hx]⟩
  refine any_of_AT (cls := cls) (S := S) (Q := Q' .normal) ?_ ?_ ?_ (fun _ _ h => h) ops.size _ t ops.size a _ (by simp) ?_ ?_ ?_ ?_ h
  · intro i hi e he hb
    have := (h1 i hi).1.2 e (by simpa using he)
    simpa [hb] using this
  · intro j
    by_cases hj : j < ops.size
    · exact (h1 j hj).1.1
    · have : ops.getD j default = default := by simp [Array.getD, hj]
      rw [this]; exact h0
  · intro x i hx hi hne hq d1 d2
    have := (h1 i hi).2 x hx
    rcases this with ((((e | e) | e) | e) | e)
    · exact absurd (Nat.eq_of_beq_eq_true e) hne
    · rcases hq with hq | hq
      · rw [hq] at e; simp at e
      · rw [hq] at e; simp at e
    · rw [d1] at e; cases e
    · rw [d2] at e; cases e
    · exact e
  · intro j hj hl
    simp [Array.getD, hj] at hl
  · exact cov_congr (fun x => (hun x).symm) (covF_spec h2)
  · refine clF_spec h3 fun x => ?_
    rw [List.mem_filter, hun x]
    simp
  · exact Nat.le_trans (List.length_filter_le _ _) (by simp)
#print axioms region_perm
end
section
variable {P : Program} {n : Nat} {w0 : World} {Q : Exit → Pos} {f : Nat → Value} {l : Env} {A : SL} {ops : Array Oper} {J : SL} {K : Pos} {cls : Nat → Cls}
/-- the operations of an order from here on -/
def RO (P : Program) (n : Nat) (w0 : World) (ops : Array Oper) (J : SL) (K : Pos) (cls : Nat → Cls) (t : Ord) (f : Nat → Value) (l : Env) (A : SL) : Prop :=
  ∀ w a, Sat w A → Kept w0 w → Fits n f l a → AT P ops (fun w => Sat w J) (fun a w => ∃ f l A, Fits n f l a ∧ Sat w A ∧ Kept w0 w ∧ K f l A) cls t a w
theorem ro_nil (h : K f l A) : RO P n w0 ops J K cls .nil f l A := fun w a s k z => ⟨f, l, A, z, s, k, h⟩
theorem ro_alt {x y : Ord} (h1 : RO P n w0 ops J K cls x f l A) (h2 : RO P n w0 ops J K cls y f l A) : RO P n w0 ops J K cls (.alt x y) f l A := fun w a s k z => ⟨h1 w a s k z, h2 w a s k z⟩
def nthO : List Oper → Nat → Option Oper
  | [], _ => none
  | v :: _, 0 => some v
  | _ :: r, k + 1 => nthO r k
def pickR (ops : List Oper) : List Nat → List Oper → Option (List Oper)
  | [], acc => some acc
  | i :: is, acc => match nthO ops i with
    | some o => pickR ops is (o :: acc)
    | none => none
def goR (t : Ord) : List Nat → Ord
  | [] => t
  | i :: is => goR (.go i t) is
theorem at_al {S : World → Prop} {Q0 : Act → World → Prop} {T : Ord} : ∀ (is : List Nat) {a : Act} {w : World}, AL P ops S (AT P ops S Q0 cls T) (is.map (item ops cls)) a w → AT P ops S Q0 cls (is.foldr Ord.go T) a w
  | [], a, w, h => h
  | i :: is, a, w, h => by
    simp only [List.map_cons, AL, item] at h
    simp only [List.foldr_cons, AT]
    exact step1_mono h fun a' w' k => at_al is k
theorem AL_mono2 {S : World → Prop} {Q1 Q2 : Act → World → Prop} (hk : ∀ a w, Q1 a w → Q2 a w) : ∀ (r : List (Oper × Cls)) {a : Act} {w : World}, AL P ops S Q1 r a w → AL P ops S Q2 r a w
  | [], a, w, h => hk a w h
  | (o, c) :: r, a, w, h => step1_mono h fun a' w' k => AL_mono2 hk r k
theorem goR_eq (is : List Nat) : ∀ T, goR T is = is.reverse.foldr Ord.go T := by
  induction is with
  | nil => intro T; rfl
  | cons i is ih => intro T; simp [goR, ih]
/-- a part of an order -/
theorem ro_seg {is pl fl : List Nat} {T : Ord} {r : List Oper} (hr : pickR ops.toList is [] = some r) (ht : tag P pl fl 0 r = is.reverse.map (item ops cls))
    (h : RR P n w0 ops J (fun f l A => RO P n w0 ops J K cls T f l A) pl fl 0 r f l A) : RO P n w0 ops J K cls (goR T is) f l A := by
  intro w a s k z
  have h1 := h w a s k z
  rw [ht] at h1
  rw [goR_eq]
  refine at_al _ (AL_mono2 ?_ _ h1)
  rintro a w ⟨f, l, A, z, s, k, h⟩
  exact h w a s k z
theorem cc_perm {id : Nat} {ops : List Oper} (J : SL) (pl fl : List Nat) (t : Ord) (hm : P.follows .mixedOrders = true) (hok : permOK ops.toArray (fun i => clsF P pl fl i (ops.toArray.getD i default)) t = true)
    (h : RO P n w0 ops.toArray J (Q .normal) (fun i => clsF P pl fl i (ops.toArray.getD i default)) t f l A) : CC P n w0 (.region id ops.toArray true) Q f l A := by
  intro w a s k z
  exact region_perm (S := fun w => Sat w J) hm hok (h w.drew a s.drew k.drew z)
end
end Ice

