import Derived.Test.YtoiakcgdkegncaaGreatK6
set_option linter.unusedVariables false
set_option linter.unusedSimpArgs false
set_option linter.unusedSectionVars false
namespace Go.Proofs.YtoiakcgdkegncaaGreat
open Go.RowKit Ice
attribute [local irreducible] CC RR Tr
/-- a lease -/
structure LeaseS where
  ep : Int
  en : Int
  top : Int
abbrev ptr_ (b : Nat) : Value := .pointer (some ⟨b, 0, none⟩)
abbrev clockR (c : Nat) (now : Int) : SL := bl c 24 [i64 now]
abbrev leaseR (l c : Nat) (L : LeaseS) : SL := bl l 102 [ptr_ c, i64 L.ep, i64 L.en, i64 L.top]
theorem now_tr (c : Nat) (now : Int) : Tr Tryz.prog 17 #[ptr_ c] (clockR c now) (fun v => pu (v = i64 now) * clockR c now) := by
  refine tr_body Tryz.func17 (by kernel_rfl) rfl Tryz.ntmps17 rfl (L := [(0, ptr_ c)]) (covers_cons rfl covers_nil) rfl ?_
  intro F w0 f
  refine cc_seq ?_
  refine cc_region ?_
  refine rr_assign rfl rfl ?_
  refine rr_nil ?_
  refine cc_seq ?_
  refine cc_seq ?_
  refine cc_region ?_
  refine rr_move rfl rfl ?_
  refine r_pnil rfl rfl rfl ?_
  refine rr_nil ?_
  refine cc_condF rfl ?_
  refine cc_skip ?_
  refine cc_seq ?_
  refine cc_region ?_
  refine rr_move rfl rfl ?_
  refine rr_nilCheck rfl rfl ?_
  refine r_fa rfl rfl ?_
  refine r_ld rfl (ls0 rfl) rfl rfl ?_
  refine rr_assign rfl rfl ?_
  refine rr_nil ?_
  refine cc_ret ?_
  exact ⟨_, rfl, entW_pu2 rfl entW_fr⟩
def leaseGood (L : LeaseS) (now epoch : Int) : Bool := decide (0 < epoch) && (epoch == L.ep) && decide (now < L.en)
theorem good_tr (l c : Nat) (now epoch : Int) (L : LeaseS) : Tr Tryz.prog 41 #[ptr_ l, i64 epoch] (leaseR l c L * clockR c now)
    (fun v => pu (v = .bool (leaseGood L now epoch)) * (leaseR l c L * clockR c now)) := by
  refine tr_body Tryz.func41 (by kernel_rfl) rfl Tryz.ntmps41 rfl (L := [(0, ptr_ l), (1, i64 epoch)]) (covers_cons rfl (covers_cons rfl covers_nil)) rfl ?_
  intro F w0 f
  refine cc_seq ?_
  refine cc_region ?_
  refine rr_assign rfl rfl ?_
  refine rr_nil ?_
  refine cc_seq ?_
  refine cc_draw (leaseR l c L) [23] [19] mixed (by decide +kernel) ?_
  refine rr_move rfl rfl ?_
  refine r_pnil rfl rfl rfl ?_
  refine rr_move rfl rfl ?_
  refine rr_guard rfl rfl rfl (fun hg1_2 => ?_) (fun hg1_2 => ?_)
  · refine rr_move rfl rfl ?_
    refine rr_guardY rfl rfl rfl ?_
    refine r_int rfl rfl rfl rfl ?_
    first | refine rr_pick rfl rfl ?_ | refine rr_pickb rfl rfl rfl rfl ?_
    refine rr_move rfl rfl ?_
    refine rr_guard rfl rfl rfl (fun hg1_6 => ?_) (fun hg1_6 => ?_)
    · refine rr_move rfl rfl ?_
      refine rr_guardY rfl rfl rfl ?_
      refine rr_move rfl rfl ?_
      refine rr_guardY rfl rfl rfl ?_
      refine rr_nilCheck rfl rfl ?_
      refine rr_guardY rfl rfl rfl ?_
      refine r_fa rfl rfl ?_
      refine rr_guardY rfl rfl rfl ?_
      refine r_ld rfl (ls0 rfl) rfl rfl ?_
      refine rr_guardY rfl rfl rfl ?_
      refine r_int rfl rfl rfl rfl ?_
      first | refine rr_pick rfl rfl ?_ | refine rr_pickb rfl rfl rfl rfl ?_
      refine rr_move rfl rfl ?_
      refine rr_guard rfl rfl rfl (fun hg1_14 => ?_) (fun hg1_14 => ?_)
      · refine rr_move rfl rfl ?_
        refine rr_guardY rfl rfl rfl ?_
        refine rr_nilCheck rfl rfl ?_
        refine rr_guardY rfl rfl rfl ?_
        refine r_fa rfl rfl ?_
        refine rr_guardY rfl rfl rfl ?_
        refine r_ld rfl (ls0 rfl) rfl rfl ?_
        refine rr_guardY rfl rfl rfl ?_
        refine rr_call rfl rfl rfl rfl (now_tr c now) inferInstance rfl (sd1 rfl) (fun _ => sd1 rfl) rfl (fun v => ?_)
        first | refine RR.pu2 ?_ | refine RR.pu ?_
        rintro rfl
        refine rr_guardY rfl rfl rfl ?_
        refine rr_move rfl rfl ?_
        refine rr_guardY rfl rfl rfl ?_
        refine rr_nilCheck rfl rfl ?_
        refine rr_guardY rfl rfl rfl ?_
        refine r_fa rfl rfl ?_
        refine rr_guardY rfl rfl rfl ?_
        refine r_ld rfl (ls1 rfl) rfl rfl ?_
        refine rr_guardY rfl rfl rfl ?_
        refine r_int rfl rfl rfl rfl ?_
        first | refine rr_pick rfl rfl ?_ | refine rr_pickb rfl rfl rfl rfl ?_
        refine rr_assign rfl rfl ?_
        refine rr_nil ?_
        refine cc_ret ?_
        exact ⟨_, rfl, entW_pu2 (congrArg Value.bool (by simp only [leaseGood]; grind)) entW_fr⟩
      · refine rr_guardN rfl rfl rfl rfl ?_
        refine rr_guardN rfl rfl rfl rfl ?_
        refine rr_guardN rfl rfl rfl rfl ?_
        refine rr_guardN rfl rfl rfl rfl ?_
        refine rr_guardN rfl rfl rfl rfl ?_
        refine rr_guardN rfl rfl rfl rfl ?_
        refine rr_guardN rfl rfl rfl rfl ?_
        refine rr_guardN rfl rfl rfl rfl ?_
        refine rr_guardN rfl rfl rfl rfl ?_
        first | refine rr_pick rfl rfl ?_ | refine rr_pickb rfl rfl rfl rfl ?_
        refine rr_assign rfl rfl ?_
        refine rr_nil ?_
        refine cc_ret ?_
        exact ⟨_, rfl, entW_pu2 (congrArg Value.bool (by simp only [leaseGood]; grind)) entW_fr⟩
    · refine rr_guardN rfl rfl rfl rfl ?_
      refine rr_guardN rfl rfl rfl rfl ?_
      refine rr_guardN rfl rfl rfl rfl ?_
      refine rr_guardN rfl rfl rfl rfl ?_
      refine rr_guardN rfl rfl rfl rfl ?_
      first | refine rr_pick rfl rfl ?_ | refine rr_pickb rfl rfl rfl rfl ?_
      refine rr_move rfl rfl ?_
      refine rr_guard rfl rfl rfl (fun hg1_14 => ?_) (fun hg1_14 => ?_)
      · refine rr_move rfl rfl ?_
        refine rr_guardY rfl rfl rfl ?_
        refine rr_nilCheck rfl rfl ?_
        refine rr_guardY rfl rfl rfl ?_
        refine r_fa rfl rfl ?_
        refine rr_guardY rfl rfl rfl ?_
        refine r_ld rfl (ls0 rfl) rfl rfl ?_
        refine rr_guardY rfl rfl rfl ?_
        refine rr_call rfl rfl rfl rfl (now_tr c now) inferInstance rfl (sd1 rfl) (fun _ => sd1 rfl) rfl (fun v => ?_)
        first | refine RR.pu2 ?_ | refine RR.pu ?_
        rintro rfl
        refine rr_guardY rfl rfl rfl ?_
        refine rr_move rfl rfl ?_
        refine rr_guardY rfl rfl rfl ?_
        refine rr_nilCheck rfl rfl ?_
        refine rr_guardY rfl rfl rfl ?_
        refine r_fa rfl rfl ?_
        refine rr_guardY rfl rfl rfl ?_
        refine r_ld rfl (ls1 rfl) rfl rfl ?_
        refine rr_guardY rfl rfl rfl ?_
        refine r_int rfl rfl rfl rfl ?_
        first | refine rr_pick rfl rfl ?_ | refine rr_pickb rfl rfl rfl rfl ?_
        refine rr_assign rfl rfl ?_
        refine rr_nil ?_
        refine cc_ret ?_
        exact ⟨_, rfl, entW_pu2 (congrArg Value.bool (by simp only [leaseGood]; grind)) entW_fr⟩
      · refine rr_guardN rfl rfl rfl rfl ?_
        refine rr_guardN rfl rfl rfl rfl ?_
        refine rr_guardN rfl rfl rfl rfl ?_
        refine rr_guardN rfl rfl rfl rfl ?_
        refine rr_guardN rfl rfl rfl rfl ?_
        refine rr_guardN rfl rfl rfl rfl ?_
        refine rr_guardN rfl rfl rfl rfl ?_
        refine rr_guardN rfl rfl rfl rfl ?_
        refine rr_guardN rfl rfl rfl rfl ?_
        first | refine rr_pick rfl rfl ?_ | refine rr_pickb rfl rfl rfl rfl ?_
        refine rr_assign rfl rfl ?_
        refine rr_nil ?_
        refine cc_ret ?_
        exact ⟨_, rfl, entW_pu2 (congrArg Value.bool (by simp only [leaseGood]; grind)) entW_fr⟩
  · refine rr_guardN rfl rfl rfl rfl ?_
    first | refine rr_pick rfl rfl ?_ | refine rr_pickb rfl rfl rfl rfl ?_
    refine rr_move rfl rfl ?_
    refine rr_guard rfl rfl rfl (fun hg1_6 => ?_) (fun hg1_6 => ?_)
    · refine rr_move rfl rfl ?_
      refine rr_guardY rfl rfl rfl ?_
      refine rr_move rfl rfl ?_
      refine rr_guardY rfl rfl rfl ?_
      refine rr_nilCheck rfl rfl ?_
      refine rr_guardY rfl rfl rfl ?_
      refine r_fa rfl rfl ?_
      refine rr_guardY rfl rfl rfl ?_
      refine r_ld rfl (ls0 rfl) rfl rfl ?_
      refine rr_guardY rfl rfl rfl ?_
      refine r_int rfl rfl rfl rfl ?_
      first | refine rr_pick rfl rfl ?_ | refine rr_pickb rfl rfl rfl rfl ?_
      refine rr_move rfl rfl ?_
      refine rr_guard rfl rfl rfl (fun hg1_14 => ?_) (fun hg1_14 => ?_)
      · refine rr_move rfl rfl ?_
        refine rr_guardY rfl rfl rfl ?_
        refine rr_nilCheck rfl rfl ?_
        refine rr_guardY rfl rfl rfl ?_
        refine r_fa rfl rfl ?_
        refine rr_guardY rfl rfl rfl ?_
        refine r_ld rfl (ls0 rfl) rfl rfl ?_
        refine rr_guardY rfl rfl rfl ?_
        refine rr_call rfl rfl rfl rfl (now_tr c now) inferInstance rfl (sd1 rfl) (fun _ => sd1 rfl) rfl (fun v => ?_)
        first | refine RR.pu2 ?_ | refine RR.pu ?_
        rintro rfl
        refine rr_guardY rfl rfl rfl ?_
        refine rr_move rfl rfl ?_
        refine rr_guardY rfl rfl rfl ?_
        refine rr_nilCheck rfl rfl ?_
        refine rr_guardY rfl rfl rfl ?_
        refine r_fa rfl rfl ?_
        refine rr_guardY rfl rfl rfl ?_
        refine r_ld rfl (ls1 rfl) rfl rfl ?_
        refine rr_guardY rfl rfl rfl ?_
        refine r_int rfl rfl rfl rfl ?_
        first | refine rr_pick rfl rfl ?_ | refine rr_pickb rfl rfl rfl rfl ?_
        refine rr_assign rfl rfl ?_
        refine rr_nil ?_
        refine cc_ret ?_
        exact ⟨_, rfl, entW_pu2 (congrArg Value.bool (by simp only [leaseGood]; grind)) entW_fr⟩
      · refine rr_guardN rfl rfl rfl rfl ?_
        refine rr_guardN rfl rfl rfl rfl ?_
        refine rr_guardN rfl rfl rfl rfl ?_
        refine rr_guardN rfl rfl rfl rfl ?_
        refine rr_guardN rfl rfl rfl rfl ?_
        refine rr_guardN rfl rfl rfl rfl ?_
        refine rr_guardN rfl rfl rfl rfl ?_
        refine rr_guardN rfl rfl rfl rfl ?_
        refine rr_guardN rfl rfl rfl rfl ?_
        first | refine rr_pick rfl rfl ?_ | refine rr_pickb rfl rfl rfl rfl ?_
        refine rr_assign rfl rfl ?_
        refine rr_nil ?_
        refine cc_ret ?_
        exact ⟨_, rfl, entW_pu2 (congrArg Value.bool (by simp only [leaseGood]; grind)) entW_fr⟩
    · refine rr_guardN rfl rfl rfl rfl ?_
      refine rr_guardN rfl rfl rfl rfl ?_
      refine rr_guardN rfl rfl rfl rfl ?_
      refine rr_guardN rfl rfl rfl rfl ?_
      refine rr_guardN rfl rfl rfl rfl ?_
      first | refine rr_pick rfl rfl ?_ | refine rr_pickb rfl rfl rfl rfl ?_
      refine rr_move rfl rfl ?_
      refine rr_guard rfl rfl rfl (fun hg1_14 => ?_) (fun hg1_14 => ?_)
      · refine rr_move rfl rfl ?_
        refine rr_guardY rfl rfl rfl ?_
        refine rr_nilCheck rfl rfl ?_
        refine rr_guardY rfl rfl rfl ?_
        refine r_fa rfl rfl ?_
        refine rr_guardY rfl rfl rfl ?_
        refine r_ld rfl (ls0 rfl) rfl rfl ?_
        refine rr_guardY rfl rfl rfl ?_
        refine rr_call rfl rfl rfl rfl (now_tr c now) inferInstance rfl (sd1 rfl) (fun _ => sd1 rfl) rfl (fun v => ?_)
        first | refine RR.pu2 ?_ | refine RR.pu ?_
        rintro rfl
        refine rr_guardY rfl rfl rfl ?_
        refine rr_move rfl rfl ?_
        refine rr_guardY rfl rfl rfl ?_
        refine rr_nilCheck rfl rfl ?_
        refine rr_guardY rfl rfl rfl ?_
        refine r_fa rfl rfl ?_
        refine rr_guardY rfl rfl rfl ?_
        refine r_ld rfl (ls1 rfl) rfl rfl ?_
        refine rr_guardY rfl rfl rfl ?_
        refine r_int rfl rfl rfl rfl ?_
        first | refine rr_pick rfl rfl ?_ | refine rr_pickb rfl rfl rfl rfl ?_
        refine rr_assign rfl rfl ?_
        refine rr_nil ?_
        refine cc_ret ?_
        exact ⟨_, rfl, entW_pu2 (congrArg Value.bool (by simp only [leaseGood]; grind)) entW_fr⟩
      · refine rr_guardN rfl rfl rfl rfl ?_
        refine rr_guardN rfl rfl rfl rfl ?_
        refine rr_guardN rfl rfl rfl rfl ?_
        refine rr_guardN rfl rfl rfl rfl ?_
        refine rr_guardN rfl rfl rfl rfl ?_
        refine rr_guardN rfl rfl rfl rfl ?_
        refine rr_guardN rfl rfl rfl rfl ?_
        refine rr_guardN rfl rfl rfl rfl ?_
        refine rr_guardN rfl rfl rfl rfl ?_
        first | refine rr_pick rfl rfl ?_ | refine rr_pickb rfl rfl rfl rfl ?_
        refine rr_assign rfl rfl ?_
        refine rr_nil ?_
        refine cc_ret ?_
        exact ⟨_, rfl, entW_pu2 (congrArg Value.bool (by simp only [leaseGood]; grind)) entW_fr⟩
def sinceI (now t : Int) : Int := if t < 0 ∨ now < t then 0 else now - t
theorem since_tr (c : Nat) (now t : Int) (h0 : 0 ≤ now) (h1 : now ≤ 2 ^ 41) : Tr Tryz.prog 118 #[ptr_ c, i64 t] (clockR c now) (fun v => pu (v = i64 (sinceI now t)) * clockR c now) := by
  refine tr_body Tryz.func118 (by kernel_rfl) rfl Tryz.ntmps118 rfl (L := [(0, ptr_ c), (1, i64 t)]) (covers_cons rfl (covers_cons rfl covers_nil)) rfl ?_
  intro F w0 f
  by_cases ht : t < 0
  · refine cc_seq ?_
    refine cc_region ?_
    refine rr_assign rfl rfl ?_
    refine rr_nil ?_
    refine cc_seq ?_
    refine cc_seq ?_
    refine cc_region ?_
    refine rr_move rfl rfl ?_
    refine r_int rfl rfl rfl rfl ?_
    rw [show decide (t < 0) = true by simp [ht]]
    refine rr_move rfl rfl ?_
    refine rr_guardN rfl rfl rfl rfl ?_
    refine rr_guardN rfl rfl rfl rfl ?_
    refine rr_guardN rfl rfl rfl rfl ?_
    refine rr_guardN rfl rfl rfl rfl ?_
    first | refine rr_pick rfl rfl ?_ | refine rr_pickb rfl rfl rfl rfl ?_
    refine rr_nil ?_
    refine cc_condT rfl ?_
    refine cc_seq ?_
    refine cc_region ?_
    refine rr_assign rfl rfl ?_
    refine rr_nil ?_
    refine cc_ret ?_
    exact ⟨_, rfl, entW_pu2 (congrArg (Value.int _) (by simp [sinceI, ht])) entW_fr⟩
  · refine cc_seq ?_
    refine cc_region ?_
    refine rr_assign rfl rfl ?_
    refine rr_nil ?_
    refine cc_seq ?_
    refine cc_seq ?_
    refine cc_region ?_
    refine rr_move rfl rfl ?_
    refine r_int rfl rfl rfl rfl ?_
    rw [show decide (t < 0) = false by simp [ht]]
    refine rr_move rfl rfl ?_
    refine rr_guardY rfl rfl rfl ?_
    refine rr_move rfl rfl ?_
    refine rr_guardY rfl rfl rfl ?_
    refine rr_move rfl rfl ?_
    refine rr_guardY rfl rfl rfl ?_
    refine rr_call rfl rfl rfl rfl (now_tr c now) inferInstance rfl (sd0 rfl) (fun _ => sd0 rfl) rfl (fun v => ?_)
    first | refine RR.pu2 ?_ | refine RR.pu ?_
    rintro rfl
    refine rr_guardY rfl rfl rfl ?_
    refine r_int rfl rfl rfl rfl ?_
    first | refine rr_pick rfl rfl ?_ | refine rr_pickb rfl rfl rfl rfl ?_
    refine rr_nil ?_
    refine cc_cond rfl (fun h12 => ?_) (fun h12 => ?_)
    · try simp only [decide_eq_true_eq, decide_eq_false_iff_not, beq_iff_eq, beq_eq_false_iff_ne, bne_iff_ne, bne_eq_false_iff_eq, ne_eq, Bool.not_eq_eq_eq_not, Bool.not_true, Bool.not_false] at h12
      refine cc_seq ?_
      refine cc_region ?_
      refine rr_assign rfl rfl ?_
      refine rr_nil ?_
      refine cc_ret ?_
      exact ⟨_, rfl, entW_pu2 (congrArg (Value.int _) (by simp only [sinceI]; split <;> omega)) entW_fr⟩
    · try simp only [decide_eq_true_eq, decide_eq_false_iff_not, beq_iff_eq, beq_eq_false_iff_ne, bne_iff_ne, bne_eq_false_iff_eq, ne_eq, Bool.not_eq_eq_eq_not, Bool.not_true, Bool.not_false] at h12
      refine cc_skip ?_
      refine cc_seq ?_
      refine cc_region ?_
      refine rr_move rfl rfl ?_
      refine rr_call rfl rfl rfl rfl (now_tr c now) inferInstance rfl (sd0 rfl) (fun _ => sd0 rfl) rfl (fun v => ?_)
      first | refine RR.pu2 ?_ | refine RR.pu ?_
      rintro rfl
      refine rr_move rfl rfl ?_
      refine r_sub rfl rfl rfl (by omega) ?_
      refine rr_assign rfl rfl ?_
      refine rr_nil ?_
      refine cc_ret ?_
      exact ⟨_, rfl, entW_pu2 (congrArg (Value.int _) (by simp only [sinceI]; split <;> omega)) entW_fr⟩
theorem lask_tr (l c : Nat) (now : Int) (L : LeaseS) : Tr Tryz.prog 28 #[ptr_ l] (leaseR l c L * clockR c now) (fun v => pu (v = i64 now) * (leaseR l c L * clockR c now)) := by
  refine tr_body Tryz.func28 (by kernel_rfl) rfl Tryz.ntmps28 rfl (L := [(0, ptr_ l)]) (covers_cons rfl covers_nil) rfl ?_
  intro F w0 f
  refine cc_seq ?_
  refine cc_region ?_
  refine rr_assign rfl rfl ?_
  refine rr_nil ?_
  refine cc_seq ?_
  refine cc_seq ?_
  refine cc_region ?_
  refine rr_move rfl rfl ?_
  refine r_pnil rfl rfl rfl ?_
  refine rr_nil ?_
  refine cc_condF rfl ?_
  refine cc_skip ?_
  refine cc_seq ?_
  refine cc_region ?_
  refine rr_move rfl rfl ?_
  refine rr_nilCheck rfl rfl ?_
  refine r_fa rfl rfl ?_
  refine r_ld rfl (ls0 rfl) rfl rfl ?_
  refine rr_call rfl rfl rfl rfl (now_tr c now) inferInstance rfl (sd0 rfl) (fun _ => sd0 rfl) rfl (fun v => ?_)
  first | refine RR.pu2 ?_ | refine RR.pu ?_
  rintro rfl
  refine rr_assign rfl rfl ?_
  refine rr_nil ?_
  refine cc_ret ?_
  exact ⟨_, rfl, entW_pu2 rfl entW_fr⟩
theorem ldrop_tr (l c : Nat) (L : LeaseS) : Tr Tryz.prog 117 #[ptr_ l] (leaseR l c L) (fun v => pu (v = unit) * leaseR l c ⟨0, 0, 0⟩) := by
  refine tr_body Tryz.func117 (by kernel_rfl) rfl Tryz.ntmps117 rfl (L := [(0, ptr_ l)]) (covers_cons rfl covers_nil) rfl ?_
  intro F w0 f
  refine cc_seq ?_
  refine cc_region ?_
  refine rr_move rfl rfl ?_
  refine r_pnil rfl rfl rfl ?_
  refine rr_nil ?_
  refine cc_condT rfl ?_
  refine cc_region ?_
  refine rr_move rfl rfl ?_
  refine rr_move rfl rfl ?_
  refine rr_move rfl rfl ?_
  refine rr_nilCheck rfl rfl ?_
  refine r_fa rfl rfl ?_
  refine r_st rfl rfl rfl rfl (sd0 rfl) (sd0 rfl) ?_
  refine rr_nilCheck rfl rfl ?_
  refine r_fa rfl rfl ?_
  refine r_st rfl rfl rfl rfl (sd0 rfl) (sd0 rfl) ?_
  refine rr_nilCheck rfl rfl ?_
  refine r_fa rfl rfl ?_
  refine r_st rfl rfl rfl rfl (sd0 rfl) (sd0 rfl) ?_
  refine rr_nil ?_
  exact ⟨_, rfl, entW_pu2 rfl entW_fr⟩
/-- a grant is taken -/
def leaseTake (L : LeaseS) (now sent epoch : Int) : Bool × LeaseS :=
  if epoch < 1 ∨ epoch < L.top ∨ sent < 0 ∨ now < sent ∨ 20 ≤ sinceI now sent then (false, L)
  else if epoch = L.ep ∧ sent + 20 ≤ L.en then (false, L) else (true, ⟨epoch, sent + 20, epoch⟩)
theorem ltake_tr (l c : Nat) (now sent epoch : Int) (L : LeaseS) (h0 : 0 ≤ now) (h1 : now ≤ 2 ^ 41) (h2 : -(2 ^ 50) ≤ sent) (h3 : sent ≤ 2 ^ 50) : Tr Tryz.prog 69 #[ptr_ l, i64 sent, i64 epoch] (leaseR l c L * clockR c now)
    (fun v => pu (v = .bool (leaseTake L now sent epoch).1) * (leaseR l c (leaseTake L now sent epoch).2 * clockR c now)) := by
  refine tr_body Tryz.func69 (by kernel_rfl) rfl Tryz.ntmps69 rfl (L := [(0, ptr_ l), (1, i64 sent), (2, i64 epoch)]) (covers_cons rfl (covers_cons rfl (covers_cons rfl covers_nil))) rfl ?_
  intro F w0 f
  by_cases c0 : epoch < 1
  · refine cc_seq ?_
    refine cc_region ?_
    refine rr_assign rfl rfl ?_
    refine rr_nil ?_
    refine cc_seq ?_
    refine cc_seq ?_
    refine cc_region ?_
    refine rr_move rfl rfl ?_
    refine r_pnil rfl rfl rfl ?_
    refine rr_move rfl rfl ?_
    refine rr_guardY rfl rfl rfl ?_
    refine rr_move rfl rfl ?_
    refine rr_guardY rfl rfl rfl ?_
    refine r_int rfl rfl rfl rfl ?_
    rw [show decide (epoch < 1) = true by simp; omega]
    first | refine rr_pick rfl rfl ?_ | refine rr_pickb rfl rfl rfl rfl ?_
    refine rr_move rfl rfl ?_
    refine rr_guardN rfl rfl rfl rfl ?_
    refine rr_guardN rfl rfl rfl rfl ?_
    refine rr_guardN rfl rfl rfl rfl ?_
    refine rr_guardN rfl rfl rfl rfl ?_
    refine rr_guardN rfl rfl rfl rfl ?_
    refine rr_guardN rfl rfl rfl rfl ?_
    first | refine rr_pick rfl rfl ?_ | refine rr_pickb rfl rfl rfl rfl ?_
    refine rr_move rfl rfl ?_
    refine rr_guardN rfl rfl rfl rfl ?_
    refine rr_guardN rfl rfl rfl rfl ?_
    first | refine rr_pick rfl rfl ?_ | refine rr_pickb rfl rfl rfl rfl ?_
    refine rr_move rfl rfl ?_
    refine rr_guardN rfl rfl rfl rfl ?_
    refine rr_guardN rfl rfl rfl rfl ?_
    refine rr_guardN rfl rfl rfl rfl ?_
    refine rr_guardN rfl rfl rfl rfl ?_
    refine rr_guardN rfl rfl rfl rfl ?_
    refine rr_guardN rfl rfl rfl rfl ?_
    refine rr_guardN rfl rfl rfl rfl ?_
    first | refine rr_pick rfl rfl ?_ | refine rr_pickb rfl rfl rfl rfl ?_
    refine rr_move rfl rfl ?_
    refine rr_guardN rfl rfl rfl rfl ?_
    refine rr_guardN rfl rfl rfl rfl ?_
    refine rr_guardN rfl rfl rfl rfl ?_
    refine rr_guardN rfl rfl rfl rfl ?_
    refine rr_guardN rfl rfl rfl rfl ?_
    refine rr_guardN rfl rfl rfl rfl ?_
    refine rr_guardN rfl rfl rfl rfl ?_
    first | refine rr_pick rfl rfl ?_ | refine rr_pickb rfl rfl rfl rfl ?_
    refine rr_nil ?_
    refine cc_condT rfl ?_
    refine cc_seq ?_
    refine cc_region ?_
    refine rr_assign rfl rfl ?_
    refine rr_nil ?_
    refine cc_ret ?_
    (have e : leaseTake L now sent epoch = (false, L) := by (simp only [leaseTake]; grind)); (exact ⟨_, rfl, by rw [e]; exact entW_pu2 rfl entW_fr⟩)
  by_cases c1 : epoch < L.top
  · refine cc_seq ?_
    refine cc_region ?_
    refine rr_assign rfl rfl ?_
    refine rr_nil ?_
    refine cc_seq ?_
    refine cc_seq ?_
    refine cc_region ?_
    refine rr_move rfl rfl ?_
    refine r_pnil rfl rfl rfl ?_
    refine rr_move rfl rfl ?_
    refine rr_guardY rfl rfl rfl ?_
    refine rr_move rfl rfl ?_
    refine rr_guardY rfl rfl rfl ?_
    refine r_int rfl rfl rfl rfl ?_
    rw [show decide (epoch < 1) = false by simp; omega]
    first | refine rr_pick rfl rfl ?_ | refine rr_pickb rfl rfl rfl rfl ?_
    refine rr_move rfl rfl ?_
    refine rr_guardY rfl rfl rfl ?_
    refine rr_move rfl rfl ?_
    refine rr_guardY rfl rfl rfl ?_
    refine rr_move rfl rfl ?_
    refine rr_guardY rfl rfl rfl ?_
    refine rr_nilCheck rfl rfl ?_
    refine rr_guardY rfl rfl rfl ?_
    refine r_fa rfl rfl ?_
    refine rr_guardY rfl rfl rfl ?_
    refine r_ld rfl (ls0 rfl) rfl rfl ?_
    refine rr_guardY rfl rfl rfl ?_
    refine r_int rfl rfl rfl rfl ?_
    rw [show decide (epoch < L.top) = true by simp; omega]
    first | refine rr_pick rfl rfl ?_ | refine rr_pickb rfl rfl rfl rfl ?_
    refine rr_move rfl rfl ?_
    refine rr_guardN rfl rfl rfl rfl ?_
    refine rr_guardN rfl rfl rfl rfl ?_
    first | refine rr_pick rfl rfl ?_ | refine rr_pickb rfl rfl rfl rfl ?_
    refine rr_move rfl rfl ?_
    refine rr_guardN rfl rfl rfl rfl ?_
    refine rr_guardN rfl rfl rfl rfl ?_
    refine rr_guardN rfl rfl rfl rfl ?_
    refine rr_guardN rfl rfl rfl rfl ?_
    refine rr_guardN rfl rfl rfl rfl ?_
    refine rr_guardN rfl rfl rfl rfl ?_
    refine rr_guardN rfl rfl rfl rfl ?_
    first | refine rr_pick rfl rfl ?_ | refine rr_pickb rfl rfl rfl rfl ?_
    refine rr_move rfl rfl ?_
    refine rr_guardN rfl rfl rfl rfl ?_
    refine rr_guardN rfl rfl rfl rfl ?_
    refine rr_guardN rfl rfl rfl rfl ?_
    refine rr_guardN rfl rfl rfl rfl ?_
    refine rr_guardN rfl rfl rfl rfl ?_
    refine rr_guardN rfl rfl rfl rfl ?_
    refine rr_guardN rfl rfl rfl rfl ?_
    first | refine rr_pick rfl rfl ?_ | refine rr_pickb rfl rfl rfl rfl ?_
    refine rr_nil ?_
    refine cc_condT rfl ?_
    refine cc_seq ?_
    refine cc_region ?_
    refine rr_assign rfl rfl ?_
    refine rr_nil ?_
    refine cc_ret ?_
    (have e : leaseTake L now sent epoch = (false, L) := by (simp only [leaseTake]; grind)); (exact ⟨_, rfl, by rw [e]; exact entW_pu2 rfl entW_fr⟩)
  by_cases c2 : sent < 0
  · refine cc_seq ?_
    refine cc_region ?_
    refine rr_assign rfl rfl ?_
    refine rr_nil ?_
    refine cc_seq ?_
    refine cc_seq ?_
    refine cc_region ?_
    refine rr_move rfl rfl ?_
    refine r_pnil rfl rfl rfl ?_
    refine rr_move rfl rfl ?_
    refine rr_guardY rfl rfl rfl ?_
    refine rr_move rfl rfl ?_
    refine rr_guardY rfl rfl rfl ?_
    refine r_int rfl rfl rfl rfl ?_
    rw [show decide (epoch < 1) = false by simp; omega]
    first | refine rr_pick rfl rfl ?_ | refine rr_pickb rfl rfl rfl rfl ?_
    refine rr_move rfl rfl ?_
    refine rr_guardY rfl rfl rfl ?_
    refine rr_move rfl rfl ?_
    refine rr_guardY rfl rfl rfl ?_
    refine rr_move rfl rfl ?_
    refine rr_guardY rfl rfl rfl ?_
    refine rr_nilCheck rfl rfl ?_
    refine rr_guardY rfl rfl rfl ?_
    refine r_fa rfl rfl ?_
    refine rr_guardY rfl rfl rfl ?_
    refine r_ld rfl (ls0 rfl) rfl rfl ?_
    refine rr_guardY rfl rfl rfl ?_
    refine r_int rfl rfl rfl rfl ?_
    rw [show decide (epoch < L.top) = false by simp; omega]
    first | refine rr_pick rfl rfl ?_ | refine rr_pickb rfl rfl rfl rfl ?_
    refine rr_move rfl rfl ?_
    refine rr_guardY rfl rfl rfl ?_
    refine rr_move rfl rfl ?_
    refine rr_guardY rfl rfl rfl ?_
    refine r_int rfl rfl rfl rfl ?_
    rw [show decide (sent < 0) = true by simp; omega]
    first | refine rr_pick rfl rfl ?_ | refine rr_pickb rfl rfl rfl rfl ?_
    refine rr_move rfl rfl ?_
    refine rr_guardN rfl rfl rfl rfl ?_
    refine rr_guardN rfl rfl rfl rfl ?_
    refine rr_guardN rfl rfl rfl rfl ?_
    refine rr_guardN rfl rfl rfl rfl ?_
    refine rr_guardN rfl rfl rfl rfl ?_
    refine rr_guardN rfl rfl rfl rfl ?_
    refine rr_guardN rfl rfl rfl rfl ?_
    first | refine rr_pick rfl rfl ?_ | refine rr_pickb rfl rfl rfl rfl ?_
    refine rr_move rfl rfl ?_
    refine rr_guardN rfl rfl rfl rfl ?_
    refine rr_guardN rfl rfl rfl rfl ?_
    refine rr_guardN rfl rfl rfl rfl ?_
    refine rr_guardN rfl rfl rfl rfl ?_
    refine rr_guardN rfl rfl rfl rfl ?_
    refine rr_guardN rfl rfl rfl rfl ?_
    refine rr_guardN rfl rfl rfl rfl ?_
    first | refine rr_pick rfl rfl ?_ | refine rr_pickb rfl rfl rfl rfl ?_
    refine rr_nil ?_
    refine cc_condT rfl ?_
    refine cc_seq ?_
    refine cc_region ?_
    refine rr_assign rfl rfl ?_
    refine rr_nil ?_
    refine cc_ret ?_
    (have e : leaseTake L now sent epoch = (false, L) := by (simp only [leaseTake]; grind)); (exact ⟨_, rfl, by rw [e]; exact entW_pu2 rfl entW_fr⟩)
  by_cases c3 : now < sent
  · refine cc_seq ?_
    refine cc_region ?_
    refine rr_assign rfl rfl ?_
    refine rr_nil ?_
    refine cc_seq ?_
    refine cc_seq ?_
    refine cc_region ?_
    refine rr_move rfl rfl ?_
    refine r_pnil rfl rfl rfl ?_
    refine rr_move rfl rfl ?_
    refine rr_guardY rfl rfl rfl ?_
    refine rr_move rfl rfl ?_
    refine rr_guardY rfl rfl rfl ?_
    refine r_int rfl rfl rfl rfl ?_
    rw [show decide (epoch < 1) = false by simp; omega]
    first | refine rr_pick rfl rfl ?_ | refine rr_pickb rfl rfl rfl rfl ?_
    refine rr_move rfl rfl ?_
    refine rr_guardY rfl rfl rfl ?_
    refine rr_move rfl rfl ?_
    refine rr_guardY rfl rfl rfl ?_
    refine rr_move rfl rfl ?_
    refine rr_guardY rfl rfl rfl ?_
    refine rr_nilCheck rfl rfl ?_
    refine rr_guardY rfl rfl rfl ?_
    refine r_fa rfl rfl ?_
    refine rr_guardY rfl rfl rfl ?_
    refine r_ld rfl (ls0 rfl) rfl rfl ?_
    refine rr_guardY rfl rfl rfl ?_
    refine r_int rfl rfl rfl rfl ?_
    rw [show decide (epoch < L.top) = false by simp; omega]
    first | refine rr_pick rfl rfl ?_ | refine rr_pickb rfl rfl rfl rfl ?_
    refine rr_move rfl rfl ?_
    refine rr_guardY rfl rfl rfl ?_
    refine rr_move rfl rfl ?_
    refine rr_guardY rfl rfl rfl ?_
    refine r_int rfl rfl rfl rfl ?_
    rw [show decide (sent < 0) = false by simp; omega]
    first | refine rr_pick rfl rfl ?_ | refine rr_pickb rfl rfl rfl rfl ?_
    refine rr_move rfl rfl ?_
    refine rr_guardY rfl rfl rfl ?_
    refine rr_move rfl rfl ?_
    refine rr_guardY rfl rfl rfl ?_
    refine rr_move rfl rfl ?_
    refine rr_guardY rfl rfl rfl ?_
    refine rr_nilCheck rfl rfl ?_
    refine rr_guardY rfl rfl rfl ?_
    refine r_fa rfl rfl ?_
    refine rr_guardY rfl rfl rfl ?_
    refine r_ld rfl (ls0 rfl) rfl rfl ?_
    refine rr_guardY rfl rfl rfl ?_
    refine rr_call rfl rfl rfl rfl (now_tr c now) inferInstance rfl (sd0 rfl) (fun _ => sd0 rfl) rfl (fun v => ?_)
    first | refine RR.pu2 ?_ | refine RR.pu ?_
    rintro rfl
    refine rr_guardY rfl rfl rfl ?_
    refine r_int rfl rfl rfl rfl ?_
    rw [show decide (now < sent) = true by simp; omega]
    first | refine rr_pick rfl rfl ?_ | refine rr_pickb rfl rfl rfl rfl ?_
    refine rr_move rfl rfl ?_
    refine rr_guardN rfl rfl rfl rfl ?_
    refine rr_guardN rfl rfl rfl rfl ?_
    refine rr_guardN rfl rfl rfl rfl ?_
    refine rr_guardN rfl rfl rfl rfl ?_
    refine rr_guardN rfl rfl rfl rfl ?_
    refine rr_guardN rfl rfl rfl rfl ?_
    refine rr_guardN rfl rfl rfl rfl ?_
    first | refine rr_pick rfl rfl ?_ | refine rr_pickb rfl rfl rfl rfl ?_
    refine rr_nil ?_
    refine cc_condT rfl ?_
    refine cc_seq ?_
    refine cc_region ?_
    refine rr_assign rfl rfl ?_
    refine rr_nil ?_
    refine cc_ret ?_
    (have e : leaseTake L now sent epoch = (false, L) := by (simp only [leaseTake]; grind)); (exact ⟨_, rfl, by rw [e]; exact entW_pu2 rfl entW_fr⟩)
  by_cases c4 : 20 ≤ sinceI now sent
  · refine cc_seq ?_
    refine cc_region ?_
    refine rr_assign rfl rfl ?_
    refine rr_nil ?_
    refine cc_seq ?_
    refine cc_seq ?_
    refine cc_region ?_
    refine rr_move rfl rfl ?_
    refine r_pnil rfl rfl rfl ?_
    refine rr_move rfl rfl ?_
    refine rr_guardY rfl rfl rfl ?_
    refine rr_move rfl rfl ?_
    refine rr_guardY rfl rfl rfl ?_
    refine r_int rfl rfl rfl rfl ?_
    rw [show decide (epoch < 1) = false by simp; omega]
    first | refine rr_pick rfl rfl ?_ | refine rr_pickb rfl rfl rfl rfl ?_
    refine rr_move rfl rfl ?_
    refine rr_guardY rfl rfl rfl ?_
    refine rr_move rfl rfl ?_
    refine rr_guardY rfl rfl rfl ?_
    refine rr_move rfl rfl ?_
    refine rr_guardY rfl rfl rfl ?_
    refine rr_nilCheck rfl rfl ?_
    refine rr_guardY rfl rfl rfl ?_
    refine r_fa rfl rfl ?_
    refine rr_guardY rfl rfl rfl ?_
    refine r_ld rfl (ls0 rfl) rfl rfl ?_
    refine rr_guardY rfl rfl rfl ?_
    refine r_int rfl rfl rfl rfl ?_
    rw [show decide (epoch < L.top) = false by simp; omega]
    first | refine rr_pick rfl rfl ?_ | refine rr_pickb rfl rfl rfl rfl ?_
    refine rr_move rfl rfl ?_
    refine rr_guardY rfl rfl rfl ?_
    refine rr_move rfl rfl ?_
    refine rr_guardY rfl rfl rfl ?_
    refine r_int rfl rfl rfl rfl ?_
    rw [show decide (sent < 0) = false by simp; omega]
    first | refine rr_pick rfl rfl ?_ | refine rr_pickb rfl rfl rfl rfl ?_
    refine rr_move rfl rfl ?_
    refine rr_guardY rfl rfl rfl ?_
    refine rr_move rfl rfl ?_
    refine rr_guardY rfl rfl rfl ?_
    refine rr_move rfl rfl ?_
    refine rr_guardY rfl rfl rfl ?_
    refine rr_nilCheck rfl rfl ?_
    refine rr_guardY rfl rfl rfl ?_
    refine r_fa rfl rfl ?_
    refine rr_guardY rfl rfl rfl ?_
    refine r_ld rfl (ls0 rfl) rfl rfl ?_
    refine rr_guardY rfl rfl rfl ?_
    refine rr_call rfl rfl rfl rfl (now_tr c now) inferInstance rfl (sd0 rfl) (fun _ => sd0 rfl) rfl (fun v => ?_)
    first | refine RR.pu2 ?_ | refine RR.pu ?_
    rintro rfl
    refine rr_guardY rfl rfl rfl ?_
    refine r_int rfl rfl rfl rfl ?_
    rw [show decide (now < sent) = false by simp; omega]
    first | refine rr_pick rfl rfl ?_ | refine rr_pickb rfl rfl rfl rfl ?_
    refine rr_move rfl rfl ?_
    refine rr_guardY rfl rfl rfl ?_
    refine rr_move rfl rfl ?_
    refine rr_guardY rfl rfl rfl ?_
    refine rr_nilCheck rfl rfl ?_
    refine rr_guardY rfl rfl rfl ?_
    refine r_fa rfl rfl ?_
    refine rr_guardY rfl rfl rfl ?_
    refine r_ld rfl (ls0 rfl) rfl rfl ?_
    refine rr_guardY rfl rfl rfl ?_
    refine rr_move rfl rfl ?_
    refine rr_guardY rfl rfl rfl ?_
    refine rr_call rfl rfl rfl rfl (since_tr c now sent h0 h1) inferInstance rfl (sd0 rfl) (fun _ => sd0 rfl) rfl (fun v => ?_)
    first | refine RR.pu2 ?_ | refine RR.pu ?_
    rintro rfl
    refine rr_guardY rfl rfl rfl ?_
    refine r_int rfl rfl rfl rfl ?_
    rw [show decide (20 ≤ sinceI now sent) = true by simp; omega]
    first | refine rr_pick rfl rfl ?_ | refine rr_pickb rfl rfl rfl rfl ?_
    refine rr_nil ?_
    refine cc_condT rfl ?_
    refine cc_seq ?_
    refine cc_region ?_
    refine rr_assign rfl rfl ?_
    refine rr_nil ?_
    refine cc_ret ?_
    (have e : leaseTake L now sent epoch = (false, L) := by (simp only [leaseTake]; grind)); (exact ⟨_, rfl, by rw [e]; exact entW_pu2 rfl entW_fr⟩)
  refine cc_seq ?_
  refine cc_region ?_
  refine rr_assign rfl rfl ?_
  refine rr_nil ?_
  refine cc_seq ?_
  refine cc_seq ?_
  refine cc_region ?_
  refine rr_move rfl rfl ?_
  refine r_pnil rfl rfl rfl ?_
  refine rr_move rfl rfl ?_
  refine rr_guardY rfl rfl rfl ?_
  refine rr_move rfl rfl ?_
  refine rr_guardY rfl rfl rfl ?_
  refine r_int rfl rfl rfl rfl ?_
  rw [show decide (epoch < 1) = false by simp; omega]
  first | refine rr_pick rfl rfl ?_ | refine rr_pickb rfl rfl rfl rfl ?_
  refine rr_move rfl rfl ?_
  refine rr_guardY rfl rfl rfl ?_
  refine rr_move rfl rfl ?_
  refine rr_guardY rfl rfl rfl ?_
  refine rr_move rfl rfl ?_
  refine rr_guardY rfl rfl rfl ?_
  refine rr_nilCheck rfl rfl ?_
  refine rr_guardY rfl rfl rfl ?_
  refine r_fa rfl rfl ?_
  refine rr_guardY rfl rfl rfl ?_
  refine r_ld rfl (ls0 rfl) rfl rfl ?_
  refine rr_guardY rfl rfl rfl ?_
  refine r_int rfl rfl rfl rfl ?_
  rw [show decide (epoch < L.top) = false by simp; omega]
  first | refine rr_pick rfl rfl ?_ | refine rr_pickb rfl rfl rfl rfl ?_
  refine rr_move rfl rfl ?_
  refine rr_guardY rfl rfl rfl ?_
  refine rr_move rfl rfl ?_
  refine rr_guardY rfl rfl rfl ?_
  refine r_int rfl rfl rfl rfl ?_
  rw [show decide (sent < 0) = false by simp; omega]
  first | refine rr_pick rfl rfl ?_ | refine rr_pickb rfl rfl rfl rfl ?_
  refine rr_move rfl rfl ?_
  refine rr_guardY rfl rfl rfl ?_
  refine rr_move rfl rfl ?_
  refine rr_guardY rfl rfl rfl ?_
  refine rr_move rfl rfl ?_
  refine rr_guardY rfl rfl rfl ?_
  refine rr_nilCheck rfl rfl ?_
  refine rr_guardY rfl rfl rfl ?_
  refine r_fa rfl rfl ?_
  refine rr_guardY rfl rfl rfl ?_
  refine r_ld rfl (ls0 rfl) rfl rfl ?_
  refine rr_guardY rfl rfl rfl ?_
  refine rr_call rfl rfl rfl rfl (now_tr c now) inferInstance rfl (sd0 rfl) (fun _ => sd0 rfl) rfl (fun v => ?_)
  first | refine RR.pu2 ?_ | refine RR.pu ?_
  rintro rfl
  refine rr_guardY rfl rfl rfl ?_
  refine r_int rfl rfl rfl rfl ?_
  rw [show decide (now < sent) = false by simp; omega]
  first | refine rr_pick rfl rfl ?_ | refine rr_pickb rfl rfl rfl rfl ?_
  refine rr_move rfl rfl ?_
  refine rr_guardY rfl rfl rfl ?_
  refine rr_move rfl rfl ?_
  refine rr_guardY rfl rfl rfl ?_
  refine rr_nilCheck rfl rfl ?_
  refine rr_guardY rfl rfl rfl ?_
  refine r_fa rfl rfl ?_
  refine rr_guardY rfl rfl rfl ?_
  refine r_ld rfl (ls0 rfl) rfl rfl ?_
  refine rr_guardY rfl rfl rfl ?_
  refine rr_move rfl rfl ?_
  refine rr_guardY rfl rfl rfl ?_
  refine rr_call rfl rfl rfl rfl (since_tr c now sent h0 h1) inferInstance rfl (sd0 rfl) (fun _ => sd0 rfl) rfl (fun v => ?_)
  first | refine RR.pu2 ?_ | refine RR.pu ?_
  rintro rfl
  refine rr_guardY rfl rfl rfl ?_
  refine r_int rfl rfl rfl rfl ?_
  rw [show decide (20 ≤ sinceI now sent) = false by simp; omega]
  first | refine rr_pick rfl rfl ?_ | refine rr_pickb rfl rfl rfl rfl ?_
  refine rr_nil ?_
  refine cc_condF rfl ?_
  refine cc_skip ?_
  refine cc_seq ?_
  refine cc_region ?_
  refine rr_move rfl rfl ?_
  refine r_add rfl rfl rfl (by omega) ?_
  refine rr_assign rfl rfl ?_
  refine rr_nil ?_
  refine cc_seq ?_
  refine cc_seq ?_
  refine cc_region ?_
  refine rr_move rfl rfl ?_
  refine rr_move rfl rfl ?_
  refine rr_nilCheck rfl rfl ?_
  refine r_fa rfl rfl ?_
  refine r_ld rfl (ls0 rfl) rfl rfl ?_
  refine r_int rfl rfl rfl rfl ?_
  refine rr_move rfl rfl ?_
  refine rr_guard rfl rfl rfl (fun hg4_6 => ?_) (fun hg4_6 => ?_)
  · refine rr_move rfl rfl ?_
    refine rr_guardY rfl rfl rfl ?_
    refine rr_move rfl rfl ?_
    refine rr_guardY rfl rfl rfl ?_
    refine rr_nilCheck rfl rfl ?_
    refine rr_guardY rfl rfl rfl ?_
    refine r_fa rfl rfl ?_
    refine rr_guardY rfl rfl rfl ?_
    refine r_ld rfl (ls0 rfl) rfl rfl ?_
    refine rr_guardY rfl rfl rfl ?_
    refine r_int rfl rfl rfl rfl ?_
    first | refine rr_pick rfl rfl ?_ | refine rr_pickb rfl rfl rfl rfl ?_
    refine rr_nil ?_
    refine cc_cond rfl (fun h59 => ?_) (fun h59 => ?_)
    · try simp only [decide_eq_true_eq, decide_eq_false_iff_not, beq_iff_eq, beq_eq_false_iff_ne, bne_iff_ne, bne_eq_false_iff_eq, ne_eq, Bool.not_eq_eq_eq_not, Bool.not_true, Bool.not_false] at h59
      refine cc_seq ?_
      refine cc_region ?_
      refine rr_assign rfl rfl ?_
      refine rr_nil ?_
      refine cc_ret ?_
      first | (have e : leaseTake L now sent epoch = (false, L) := by (simp only [leaseTake]; grind)); (exact ⟨_, rfl, by rw [e]; exact entW_pu2 rfl entW_fr⟩) | (have e : leaseTake L now sent epoch = (true, ⟨epoch, sent + 20, epoch⟩) := by (simp only [leaseTake]; grind)); (exact ⟨_, rfl, by rw [e]; exact entW_pu2 rfl entW_fr⟩)
    · try simp only [decide_eq_true_eq, decide_eq_false_iff_not, beq_iff_eq, beq_eq_false_iff_ne, bne_iff_ne, bne_eq_false_iff_eq, ne_eq, Bool.not_eq_eq_eq_not, Bool.not_true, Bool.not_false] at h59
      refine cc_skip ?_
      refine cc_seq ?_
      refine cc_region ?_
      refine rr_move rfl rfl ?_
      refine rr_move rfl rfl ?_
      refine rr_move rfl rfl ?_
      refine rr_move rfl rfl ?_
      refine rr_move rfl rfl ?_
      refine rr_move rfl rfl ?_
      refine rr_nilCheck rfl rfl ?_
      refine r_fa rfl rfl ?_
      refine r_st rfl rfl rfl rfl (sd0 rfl) (sd0 rfl) ?_
      refine rr_nilCheck rfl rfl ?_
      refine r_fa rfl rfl ?_
      refine r_st rfl rfl rfl rfl (sd0 rfl) (sd0 rfl) ?_
      refine rr_nilCheck rfl rfl ?_
      refine r_fa rfl rfl ?_
      refine r_st rfl rfl rfl rfl (sd0 rfl) (sd0 rfl) ?_
      refine rr_nil ?_
      refine cc_seq ?_
      refine cc_region ?_
      refine rr_assign rfl rfl ?_
      refine rr_nil ?_
      refine cc_ret ?_
      first | (have e : leaseTake L now sent epoch = (false, L) := by (simp only [leaseTake]; grind)); (exact ⟨_, rfl, by rw [e]; exact entW_pu2 rfl entW_fr⟩) | (have e : leaseTake L now sent epoch = (true, ⟨epoch, sent + 20, epoch⟩) := by (simp only [leaseTake]; grind)); (exact ⟨_, rfl, by rw [e]; exact entW_pu2 rfl entW_fr⟩)
  · refine rr_guardN rfl rfl rfl rfl ?_
    refine rr_guardN rfl rfl rfl rfl ?_
    refine rr_guardN rfl rfl rfl rfl ?_
    refine rr_guardN rfl rfl rfl rfl ?_
    refine rr_guardN rfl rfl rfl rfl ?_
    first | refine rr_pick rfl rfl ?_ | refine rr_pickb rfl rfl rfl rfl ?_
    refine rr_nil ?_
    refine cc_cond rfl (fun h59 => ?_) (fun h59 => ?_)
    · try simp only [decide_eq_true_eq, decide_eq_false_iff_not, beq_iff_eq, beq_eq_false_iff_ne, bne_iff_ne, bne_eq_false_iff_eq, ne_eq, Bool.not_eq_eq_eq_not, Bool.not_true, Bool.not_false] at h59
      refine cc_seq ?_
      refine cc_region ?_
      refine rr_assign rfl rfl ?_
      refine rr_nil ?_
      refine cc_ret ?_
      first | (have e : leaseTake L now sent epoch = (false, L) := by (simp only [leaseTake]; grind)); (exact ⟨_, rfl, by rw [e]; exact entW_pu2 rfl entW_fr⟩) | (have e : leaseTake L now sent epoch = (true, ⟨epoch, sent + 20, epoch⟩) := by (simp only [leaseTake]; grind)); (exact ⟨_, rfl, by rw [e]; exact entW_pu2 rfl entW_fr⟩)
    · try simp only [decide_eq_true_eq, decide_eq_false_iff_not, beq_iff_eq, beq_eq_false_iff_ne, bne_iff_ne, bne_eq_false_iff_eq, ne_eq, Bool.not_eq_eq_eq_not, Bool.not_true, Bool.not_false] at h59
      refine cc_skip ?_
      refine cc_seq ?_
      refine cc_region ?_
      refine rr_move rfl rfl ?_
      refine rr_move rfl rfl ?_
      refine rr_move rfl rfl ?_
      refine rr_move rfl rfl ?_
      refine rr_move rfl rfl ?_
      refine rr_move rfl rfl ?_
      refine rr_nilCheck rfl rfl ?_
      refine r_fa rfl rfl ?_
      refine r_st rfl rfl rfl rfl (sd0 rfl) (sd0 rfl) ?_
      refine rr_nilCheck rfl rfl ?_
      refine r_fa rfl rfl ?_
      refine r_st rfl rfl rfl rfl (sd0 rfl) (sd0 rfl) ?_
      refine rr_nilCheck rfl rfl ?_
      refine r_fa rfl rfl ?_
      refine r_st rfl rfl rfl rfl (sd0 rfl) (sd0 rfl) ?_
      refine rr_nil ?_
      refine cc_seq ?_
      refine cc_region ?_
      refine rr_assign rfl rfl ?_
      refine rr_nil ?_
      refine cc_ret ?_
      first | (have e : leaseTake L now sent epoch = (false, L) := by (simp only [leaseTake]; grind)); (exact ⟨_, rfl, by rw [e]; exact entW_pu2 rfl entW_fr⟩) | (have e : leaseTake L now sent epoch = (true, ⟨epoch, sent + 20, epoch⟩) := by (simp only [leaseTake]; grind)); (exact ⟨_, rfl, by rw [e]; exact entW_pu2 rfl entW_fr⟩)
theorem lnew_tr (c : Nat) (now : Int) : Tr Tryz.prog 61 #[ptr_ c] (clockR c now) (fun v => ex fun l => pu (v = ptr_ l) * (leaseR l c ⟨0, 0, 0⟩ * clockR c now)) := by
  refine tr_body Tryz.func61 (by kernel_rfl) rfl Tryz.ntmps61 rfl (L := [(0, ptr_ c)]) (covers_cons rfl covers_nil) rfl ?_
  intro F w0 f
  refine cc_seq ?_
  refine cc_region ?_
  refine rr_assign rfl rfl ?_
  refine rr_nil ?_
  refine cc_seq ?_
  refine cc_seq ?_
  refine cc_region ?_
  refine rr_move rfl rfl ?_
  refine r_pnil rfl rfl rfl ?_
  refine rr_nil ?_
  refine cc_condF rfl ?_
  refine cc_skip ?_
  refine cc_seq ?_
  refine cc_region ?_
  refine rr_move rfl rfl ?_
  refine r_bld rfl rfl rfl ?_
  refine r_boxa rfl rfl (sd0 rfl) (fun _ => sd0 rfl) (fun p3_2 => ?_)
  refine rr_assign rfl rfl ?_
  refine rr_nil ?_
  refine cc_ret ?_
  exact ⟨_, rfl, entW_ex2 p3_2 (entW_pu2 rfl entW_fr)⟩
end Go.Proofs.YtoiakcgdkegncaaGreat

namespace Go.Proofs.YtoiakcgdkegncaaGreat
open Go.RowKit Ice
attribute [local irreducible] CC RR Tr stir mixOf
abbrev PtS := UInt64 × Int
def ptV (p : PtS) : List Value := [u64V p.1, i64 p.2]
def firstAt (h : UInt64) (l : List PtS) : Option Int := match l with
  | [] => none
  | p :: r => if h ≤ p.1 then some p.2 else firstAt h r
def ownerS (l : List PtS) (h : UInt64) : Int := (firstAt h l).getD ((l.head?.map (·.2)).getD 0)
theorem firstAt_skip {h : UInt64} : ∀ {l : List PtS} {j : Nat}, (∀ (i : Nat) (x : PtS), i < j → l[i]? = some x → ¬ h ≤ x.1) → firstAt h l = firstAt h (l.drop j)
  | [], j, _ => by simp
  | x :: l, 0, _ => rfl
  | x :: l, j + 1, hh => by
    have h0 := hh 0 x (by omega) rfl
    simp only [firstAt, if_neg h0, List.drop_succ_cons]
    exact firstAt_skip fun i y hi hy => hh (i + 1) y (by omega) hy
theorem owner0_tr (h : UInt64) : Tr Tryz.prog 90 #[.pointer none, u64V h] 1 (fun v => pu (v = i64 0)) := by
  refine tr_body Tryz.func90 (by kernel_rfl) rfl Tryz.ntmps90 rfl (L := [(0, .pointer none), (1, u64V h)]) (covers_cons rfl (covers_cons rfl covers_nil)) rfl ?_
  intro F w0 f
  rw [sl_one_mul]
  refine cc_seq ?_
  refine cc_region ?_
  refine rr_assign rfl rfl ?_
  refine rr_nil ?_
  refine cc_seq ?_
  refine cc_seq ?_
  refine cc_region ?_
  refine rr_move rfl rfl ?_
  refine r_pnil rfl rfl rfl ?_
  refine rr_nil ?_
  refine cc_condT rfl ?_
  refine cc_seq ?_
  refine cc_region ?_
  refine rr_assign rfl rfl ?_
  refine rr_nil ?_
  refine cc_ret ?_
  exact ⟨_, rfl, entW_pu rfl entW_fr⟩
theorem of0_tr (k : Txt) (hk : k.length ≤ 2 ^ 30) : Tr Tryz.prog 40 #[.pointer none, str k] 1 (fun v => pu (v = i64 0)) := by
  refine tr_body Tryz.func40 (by kernel_rfl) rfl Tryz.ntmps40 rfl (L := [(0, .pointer none), (1, str k)]) (covers_cons rfl (covers_cons rfl covers_nil)) rfl ?_
  intro F w0 f
  rw [sl_one_mul]
  refine cc_seq ?_
  refine cc_region ?_
  refine rr_assign rfl rfl ?_
  refine rr_nil ?_
  refine cc_seq ?_
  refine cc_region ?_
  refine rr_move rfl rfl ?_
  refine rr_move rfl rfl ?_
  refine r_bsl (cs := [str k]) rfl rfl rfl rfl rfl rfl (sd0 rfl) (fun _ => sd0 rfl) (fun p => ?_)
  refine rr_call rfl rfl rfl rfl (mixOf_tr p 1 k hk) inferInstance rfl (sd0 rfl) (fun _ => sd0 rfl) rfl (fun v => ?_)
  first | refine RR.pu2 ?_ | refine RR.pu ?_
  rintro rfl
  refine rr_call rfl rfl rfl rfl (owner0_tr (mixOf k)) inferInstance rfl (sd0 rfl) (fun _ => sd0 rfl) rfl (fun v => ?_)
  first | refine RR.pu2 ?_ | refine RR.pu ?_
  rintro rfl
  refine rr_assign rfl rfl ?_
  refine rr_nil ?_
  refine cc_ret ?_
  exact ⟨_, rfl, entW_pu rfl entW_fr⟩
def hasI (ns : List Int) (n : Int) : Bool := (ns.findIdx? (fun x => n == x)).isSome
theorem hasI_idx (ns : List Int) (n : Int) : decide (0 ≤ idxI (ns.findIdx? (fun x => n == x))) = hasI ns n := by
  unfold hasI
  cases ns.findIdx? (fun x => n == x) with
  | none => rfl
  | some i => simp [idxI]
end Go.Proofs.YtoiakcgdkegncaaGreat

namespace Go.Proofs.YtoiakcgdkegncaaGreat
open Go.RowKit Ice
attribute [local irreducible] CC RR Tr crcL be supSec supW supMake secBytes segW devW
def genL (l : List Seg) : Nat := (l.getLast?.map fun x => x.gen + 1).getD 1
def newSegL (L : LogS) : Seg := ⟨genL L.l, L.next, 0, [], []⟩
def oldL (g segs : Nat) (s : Seg) : Bool := decide ((s.gen : Int) ≤ (g : Int) - segs)
def beginL (L : LogS) : LogS := { L with l := L.l.filter (fun s => !oldL (genL L.l) L.segs s) ++ [newSegL L] }
def beginD (L : LogS) (D : DevS) : DevS := flushD (segW D L.from_ L.segs (newSegL L) 0 L.run)
def needB (L : LogS) (n : Nat) : Bool := match L.l.getLast? with
  | none => true
  | some s => decide (370 - (n : Int) < s.buf.length)
def ensL (L : LogS) (n : Nat) : LogS := if needB L n then beginL L else L
def ensD (L : LogS) (D : DevS) (n : Nat) : DevS := if needB L n then beginD L D else D
def addSeg (S : Seg) (next : Nat) (body : Txt) : Seg := { S with buf := S.buf ++ (be 2 (UInt64.ofNat body.length) ++ be 6 (UInt64.ofNat next)) ++ body, recs := S.recs ++ [(next, body)] }
def putL (L : LogS) (body : Txt) : LogS := match L.l.getLast? with
  | none => L
  | some S => { L with l := L.l.dropLast ++ [addSeg S L.next body], next := L.next + 1, fresh := false }
def wr8 (D : DevS) (from_ segs run : Nat) (S : Seg) (was : Nat) : Nat → DevS
  | 0 => D
  | i + 1 => if was < startN (i + 1) ∧ startN i < S.buf.length then segW (wr8 D from_ segs run S was i) from_ segs S i run else wr8 D from_ segs run S was i
def putD (L : LogS) (D : DevS) (body : Txt) : DevS := match L.l.getLast? with
  | none => D
  | some S => if L.fresh then flushD (wr8 D L.from_ L.segs L.run (addSeg S L.next body) S.buf.length 8) else wr8 D L.from_ L.segs L.run (addSeg S L.next body) S.buf.length 8
/-- a record is appended -/
def appL (L : LogS) (body : Txt) : LogS := putL (ensL L body.length) body
def appD (L : LogS) (D : DevS) (body : Txt) : DevS := putD (ensL L body.length) (ensD L D body.length) body
@[simp] theorem wr8_len (D : DevS) (a b c : Nat) (S : Seg) (w : Nat) : ∀ i, (wr8 D a b c S w i).length = D.length
  | 0 => rfl
  | i + 1 => by simp only [wr8]; split <;> simp [wr8_len D a b c S w i]
@[simp] theorem beginD_len (L : LogS) (D : DevS) : (beginD L D).length = D.length := by simp [beginD]
@[simp] theorem ensD_len (L : LogS) (D : DevS) (n : Nat) : (ensD L D n).length = D.length := by unfold ensD; split <;> simp
@[simp] theorem putD_len (L : LogS) (D : DevS) (b : Txt) : (putD L D b).length = D.length := by
  unfold putD; split
  · rfl
  · split <;> simp
@[simp] theorem appD_len (L : LogS) (D : DevS) (b : Txt) : (appD L D b).length = D.length := by simp [appD]
/-- a log is well: its numbers are below k -/
structure LogOK (L : LogS) (n k : Nat) : Prop where
  s1 : 1 ≤ L.segs
  s2 : L.segs ≤ 200
  dv : L.from_ + L.segs * 8 ≤ n
  gens : ∀ x ∈ L.l, 1 ≤ x.gen ∧ x.gen ≤ k
  len : L.l.length ≤ k
  buf : ∀ x ∈ L.l, x.buf.length ≤ 378
  recs : ∀ x ∈ L.l, x.recs.length ≤ k
  nx : L.next ≤ k
  rn : L.run ≤ k
theorem LogOK.mono {L : LogS} {n k k' : Nat} (h : LogOK L n k) (hk : k ≤ k') : LogOK L n k' :=
  ⟨h.s1, h.s2, h.dv, fun x hx => ⟨(h.gens x hx).1, Nat.le_trans (h.gens x hx).2 hk⟩, Nat.le_trans h.len hk, h.buf, fun x hx => Nat.le_trans (h.recs x hx) hk, Nat.le_trans h.nx hk, Nat.le_trans h.rn hk⟩
theorem genL_le {L : LogS} {n k : Nat} (h : LogOK L n k) : 1 ≤ genL L.l ∧ genL L.l ≤ k + 1 := by
  unfold genL
  cases hl : L.l.getLast? with
  | none => simp
  | some x => have := h.gens x (List.mem_of_getLast? hl); simp; omega
theorem LogOK.begin_ {L : LogS} {n k : Nat} (h : LogOK L n k) : LogOK (beginL L) n (k + 1) := by
  have hg := genL_le h
  refine ⟨h.s1, h.s2, h.dv, ?_, ?_, ?_, ?_, Nat.le_succ_of_le h.nx, Nat.le_succ_of_le h.rn⟩
  · intro x hx
    rcases List.mem_append.1 hx with hx | hx
    · have := h.gens x (List.mem_filter.1 hx).1; omega
    · simp at hx; subst hx; exact hg
  · have := List.length_filter_le (fun s => !oldL (genL L.l) L.segs s) L.l
    have h2 := h.len
    simp only [beginL, List.length_append, List.length_singleton]; omega
  · intro x hx
    rcases List.mem_append.1 hx with hx | hx
    · exact h.buf x (List.mem_filter.1 hx).1
    · simp at hx; subst hx; simp [newSegL]
  · intro x hx
    rcases List.mem_append.1 hx with hx | hx
    · exact Nat.le_succ_of_le (h.recs x (List.mem_filter.1 hx).1)
    · simp at hx; subst hx; simp [newSegL]
theorem LogOK.ens {L : LogS} {n k : Nat} (h : LogOK L n k) (m : Nat) : LogOK (ensL L m) n (k + 1) := by
  unfold ensL; split
  · exact h.begin_
  · exact h.mono (by omega)
theorem ens_last {L : LogS} (m : Nat) (hm : m ≤ 300) : ∃ S, (ensL L m).l.getLast? = some S ∧ S.buf.length + m ≤ 370 := by
  unfold ensL needB
  cases hl : L.l.getLast? with
  | none => simp [beginL, newSegL]; omega
  | some S =>
    by_cases hd : 370 - (m : Int) < (S.buf.length : Int)
    · simp [hd, beginL, newSegL]; omega
    · simp only [hd, decide_false, Bool.false_eq_true, if_false]; exact ⟨S, hl, by omega⟩
theorem LogOK.put {L : LogS} {n k : Nat} (h : LogOK L n k) {S : Seg} (hl : L.l.getLast? = some S) {body : Txt} (hb : S.buf.length + body.length ≤ 370) : LogOK (putL L body) n (k + 1) := by
  have hS := List.mem_of_getLast? hl
  have e : putL L body = { L with l := L.l.dropLast ++ [addSeg S L.next body], next := L.next + 1, fresh := false } := by simp only [putL, hl]
  rw [e]
  have hd : ∀ x ∈ L.l.dropLast, x ∈ L.l := fun x hx => List.dropLast_subset _ hx
  refine ⟨h.s1, h.s2, h.dv, ?_, ?_, ?_, ?_, Nat.succ_le_succ h.nx, Nat.le_succ_of_le h.rn⟩
  · intro x hx
    rcases List.mem_append.1 hx with hx | hx
    · have := h.gens x (hd x hx); omega
    · simp at hx; subst hx; have := h.gens S hS; simp only [addSeg]; omega
  · have := h.len; simp; omega
  · intro x hx
    rcases List.mem_append.1 hx with hx | hx
    · exact h.buf x (hd x hx)
    · simp at hx; subst hx; simp [addSeg]; omega
  · intro x hx
    rcases List.mem_append.1 hx with hx | hx
    · exact Nat.le_succ_of_le (h.recs x (hd x hx))
    · simp at hx; subst hx; have := h.recs S hS; simp [addSeg]; omega
theorem LogOK.app {L : LogS} {n k : Nat} (h : LogOK L n k) {body : Txt} (hb : body.length ≤ 300) : LogOK (appL L body) n (k + 2) := by
  obtain ⟨S, h1, h2⟩ := ens_last (L := L) body.length hb
  exact (h.ens body.length).put h1 h2
theorem newGen_map (gs : List (Nat × Seg)) : newGen gs = genL (gs.map (·.2)) := by simp [newGen, genL, List.getLast?_map, Option.map_map, Function.comp_def]
theorem logR_mk (l d : Nat) (L : LogS) (lv : Value) (gs : List (Nat × Seg)) (h : gs.map (·.2) = L.l) :
    Ent (logB l d L lv * (slR lv 234 1 gs.length (gs.flatMap fun x => [ptr x.1]) * segsR gs)) (logR l d L) := fun _ x => ⟨lv, gs, pu_mul.2 ⟨h, x⟩⟩
/-- begin, of the whole log -/
theorem lbeginR_tr (l d n k : Nat) (L : LogS) (D : DevS) (h : LogOK L n k) (hk : k ≤ 2 ^ 29) (hn : n = D.length) : Tr Tryz.prog 142 #[ptr l] (logR l d L * devR d D)
    (fun v => pu (v = i64 0) * (logR l d (beginL L) * devR d (beginD L D))) := by
  subst hn
  refine tr_ex (by kernel_rfl) fun lv => tr_ex (by kernel_rfl) fun gs => tr_pu (by kernel_rfl) fun hgs => ?_
  have hlen : gs.length ≤ k := by have := h.len; rw [← hgs] at this; simpa using this
  have hmem : ∀ x ∈ gs, x.2 ∈ L.l := fun x hx => by rw [← hgs]; exact List.mem_map_of_mem hx
  refine tr_ent (lbegin_tr l d L lv gs D (fun x hx => by have := h.gens _ (hmem x hx); omega) (by omega) h.s1 h.s2 h.dv (by have := h.rn; omega)) (fun F => entW_fr) fun v F w' s2 => ?_
  obtain ⟨lv', s2⟩ := sat_ex_mul.1 s2
  obtain ⟨g, s2⟩ := sat_ex_mul.1 s2
  obtain ⟨hv, s2⟩ := sat_pu2.1 s2
  refine Sat.pu2 ?_ hv
  have e2 : newSeg gs L.next = newSegL L := by simp [newSeg, newSegL, newGen_map, hgs]
  have e3 : (gs.filter (fun x => !tooOld (newSegL L) L.segs x)).map (·.2) = L.l.filter (fun s => !oldL (genL L.l) L.segs s) := by
    rw [← hgs, List.filter_map]
    simp only [newSegL, hgs]; rfl
  rw [e2] at s2
  refine entW_cls (logR l d (beginL L)) (logB l d L lv' * (slR lv' 234 1 (gs.filter (fun x => !tooOld (newSegL L) L.segs x) ++ [(g, newSegL L)]).length ((gs.filter (fun x => !tooOld (newSegL L) L.segs x) ++ [(g, newSegL L)]).flatMap fun x => [ptr x.1]) * segsR (gs.filter (fun x => !tooOld (newSegL L) L.segs x) ++ [(g, newSegL L)]))) (logR_mk l d (beginL L) lv' (gs.filter (fun x => !tooOld (newSegL L) L.segs x) ++ [(g, newSegL L)]) (by simp only [List.map_append, e3, beginL]; rfl)) ?_ w' s2
  unfold beginD
  exact entW_fr
theorem recV_app {us : List Value} {rs : List (Nat × Txt)} (h : us.length = rs.length) (v : Value) (r : Nat × Txt) : recV (us ++ [v]) (rs ++ [r]) = recV us rs ++ [i64 r.1, v] := by
  simp only [recV, List.zip_append h, List.flatMap_append]; rfl
theorem bodies_app : ∀ {us : List Value} {rs : List (Nat × Txt)}, us.length = rs.length → ∀ (v : Value) (r : Nat × Txt), bodies (us ++ [v]) (rs ++ [r]) = bodies us rs * slR v 5 1 r.2.length (bv r.2)
  | [], [], _, v, r => by simp [bodies, sl_one_mul, sl_mul_one]
  | [], _ :: _, h, _, _ => by simp at h
  | _ :: _, [], h, _, _ => by simp at h
  | u :: us, x :: rs, h, v, r => by
    simp only [List.cons_append, bodies]
    rw [bodies_app (by simpa using h) v r, sl_assoc]
theorem recsR_mk (v : Value) (us : List Value) (rs : List (Nat × Txt)) (h : us.length = rs.length) : Ent (slR v 241 2 rs.length (recV us rs) * bodies us rs) (recsR v rs) := fun _ x => ⟨us, pu_mul.2 ⟨h, x⟩⟩
theorem segR_mk (g : Nat) (S : Seg) (b r : Value) : Ent (segB g S b r * (slR b 5 1 S.buf.length (bv S.buf) * recsR r S.recs)) (segR g S) := fun _ h => ⟨b, r, h⟩
theorem logR_snoc (l d : Nat) (L : LogS) (lv : Value) (g0 : List (Nat × Seg)) (g : Nat) (S S2 : Seg) (h : (g0 ++ [(g, S2)]).map (·.2) = L.l) :
    Ent (logB l d L lv * (slR lv 234 1 (g0 ++ [(g, S)]).length ((g0 ++ [(g, S)]).flatMap fun x => [ptr x.1]) * (segsR g0 * segR g S2))) (logR l d L) := by
  have := logR_mk l d L lv (g0 ++ [(g, S2)]) h
  rw [segsR_app] at this
  simp only [segsR, sl_mul_one, List.length_append, List.length_singleton, List.flatMap_append, List.flatMap_cons, List.flatMap_nil] at this ⊢
  exact this
theorem snoc_of {α : Type} {l : List α} {x : α} (h : l.getLast? = some x) : l = l.dropLast ++ [x] := by
  have hne : l ≠ [] := by intro e; subst e; simp at h
  rw [List.getLast?_eq_some_getLast hne] at h
  simp only [Option.some.injEq] at h
  rw [← h, List.dropLast_concat_getLast]
theorem needB_nil {L : LogS} {gs : List (Nat × Seg)} {n : Nat} (hgs : gs.map (·.2) = L.l) (h : ((gs.length : Int) == 0) = !false) : needB L n = true := by
  cases gs with
  | nil => simp only [needB, ← hgs]; rfl
  | cons a r => simp at h; omega
theorem lappend_tr (l d n k : Nat) (u : Value) (L : LogS) (D : DevS) (body : Txt) (h : LogOK L n k) (hk : k ≤ 2 ^ 28) (hn : n = D.length) (hb1 : 1 ≤ body.length) (hb2 : body.length ≤ 300) :
    Tr Tryz.prog 100 #[ptr l, u] (logR l d L * devR d D * slR u 5 1 body.length (bv body))
      (fun v => pu (v = .tuple #[i64 (ensL L body.length).next, i64 0]) * (logR l d (appL L body) * devR d (appD L D body) * slR u 5 1 body.length (bv body))) := by
  subst hn
  refine tr_body Tryz.func100 (by kernel_rfl) rfl Tryz.ntmps100 rfl (L := [(0, ptr l), (1, u)]) (covers_cons rfl (covers_cons rfl covers_nil)) rfl ?_
  intro F w0 f
  refine CC.slv u fun ub uc hu _ => ?_
  subst hu
  have hs1 := h.s1
  have hs2 := h.s2
  have hdv := h.dv
  have hlk := h.len
  refine CC.opn (logR l d L) rfl fun lv => ?_
  refine CC.ex1 fun gs => ?_
  refine CC.pu3 fun hgs => ?_
  refine CC.slv lv fun bb bc hlv _ => ?_
  subst hlv
  have hgl : gs.length = L.l.length := by rw [← hgs]; simp
  obtain ⟨S, hS1, hS2⟩ := ens_last (L := L) body.length hb2
  have hOK := h.ens body.length
  have hSm := List.mem_of_getLast? hS1
  have hSg := hOK.gens S hSm
  have hSr := hOK.recs S hSm
  have hnx := hOK.nx
  have hrn := hOK.rn
  have hlen1 := hOK.len
  have hens1 : (ensL L body.length).segs = L.segs ∧ (ensL L body.length).from_ = L.from_ := by unfold ensL; split <;> exact ⟨rfl, rfl⟩
  obtain ⟨hsegs, hfrom⟩ := hens1
  have hapD : appD L D body = putD (ensL L body.length) (ensD L D body.length) body := rfl
  have hapL : appL L body = putL (ensL L body.length) body := rfl
  have hensL : ∀ b, needB L body.length = b → ensL L body.length = (if b then beginL L else L) ∧ ensD L D body.length = (if b then beginD L D else D) := fun b e => by simp [ensL, ensD, e]
  refine cc_seq ?_
  refine cc_region ?_
  refine rr_assign rfl rfl ?_
  refine rr_assign rfl rfl ?_
  refine rr_nil ?_
  refine cc_seq ?_
  refine cc_block ?_
  refine cc_seq ?_
  refine cc_region ?_
  refine rr_move rfl rfl ?_
  refine r_pnil rfl rfl rfl ?_
  refine rr_assign rfl rfl ?_
  refine rr_nil ?_
  refine cc_condF rfl ?_
  refine cc_seq ?_
  refine cc_region ?_
  refine rr_move rfl rfl ?_
  refine r_lens rfl rfl ?_
  refine r_int rfl rfl rfl rfl ?_
  rw [show decide ((body.length : Int) < 1) = false by simp; omega]
  refine rr_move rfl rfl ?_
  refine rr_guardY rfl rfl rfl ?_
  refine rr_move rfl rfl ?_
  refine rr_guardY rfl rfl rfl ?_
  refine r_lens rfl rfl ?_
  refine rr_guardY rfl rfl rfl ?_
  refine r_int rfl rfl rfl rfl ?_
  rw [show decide ((300 : Int) < (body.length : Int)) = false by simp; omega]
  first | refine rr_pick rfl rfl ?_ | refine rr_pickb rfl rfl rfl rfl ?_
  refine rr_assign rfl rfl ?_
  refine rr_nil ?_
  refine cc_condF rfl ?_
  refine cc_skip ?_
  refine cc_seq ?_
  refine cc_seq ?_
  refine cc_region ?_
  refine rr_move rfl rfl ?_
  refine rr_nilCheck rfl rfl ?_
  refine r_fa rfl rfl ?_
  refine r_ld rfl (ls0 rfl) rfl rfl ?_
  refine r_lens rfl rfl ?_
  refine rr_assign rfl rfl ?_
  refine rr_nil ?_
  refine cc_seq ?_
  refine cc_join (α := Unit) (fun _u => [(49, .bool (needB L body.length)), (0, ptr l), (1, .slice ub body.length uc)]) (fun _u => (logB l d L (.slice bb gs.length bc) * (slR (.slice bb gs.length bc) 234 1 gs.length (gs.flatMap fun x => [ptr x.1]) * (segsR gs * (devR d D * (slR (.slice ub body.length uc) 5 1 body.length (bv body) * F)))))) ?_ ?_
  · refine cc_region ?_
    refine rr_move rfl rfl ?_
    refine r_int rfl rfl rfl rfl ?_
    refine rr_move rfl rfl ?_
    refine rr_guard rfl rfl rfl (fun hg6_2 => ?_) (fun hg6_2 => ?_)
    · refine rr_move rfl rfl ?_
      refine rr_guardY rfl rfl rfl ?_
      refine rr_nilCheck rfl rfl ?_
      refine rr_guardY rfl rfl rfl ?_
      refine r_fa rfl rfl ?_
      have hne : 0 < gs.length := by
        rcases gs with _ | ⟨a, r⟩
        · simp at hg6_2
        · simp
      obtain ⟨x, hx⟩ := lt_get (l := gs) (j := gs.length - 1) (by omega)
      have hlast : L.l.getLast? = some x.2 := by rw [← hgs, List.getLast?_map, List.getLast?_eq_getElem?, hx]; rfl
      have hnb : needB L body.length = decide (370 - (body.length : Int) < x.2.buf.length) := by simp only [needB, hlast]
      refine RR.cl (X := segsR gs) (Ent.of_eq (segsR_split hx)) ?_
      refine RR.opn (segR x.1 x.2) rfl fun b2 => ?_
      refine RR.ex1 fun r2 => ?_
      refine RR.slv b2 fun b2b b2c hb2 _ => ?_
      subst hb2
      refine RR.slb (.slice bb gs.length bc) hne fun lb lc lrest e1 e2 e3 => ?_
      simp only [Value.slice.injEq] at e1
      obtain ⟨hbb, _, hbc⟩ := e1
      subst hbc
      rw [hbb]
      refine rr_guardY rfl rfl rfl ?_
      refine r_ld rfl (ls0 rfl) rfl rfl ?_
      refine rr_guardY rfl rfl rfl ?_
      refine rr_move rfl rfl ?_
      refine rr_guardY rfl rfl rfl ?_
      refine r_sub rfl rfl rfl (by omega) ?_
      refine rr_guardY rfl rfl rfl ?_
      refine r_ix rfl rfl rfl (by omega) ?_
      refine rr_guardY rfl rfl rfl ?_
      refine r_ld rfl (ls0 rfl) (v := ptr x.1) (by
        have := nth_fm (g := fun x : Nat × Seg => [ptr x.1]) (w := 1) (fun _ _ => rfl) hx (j := 0) rfl lrest
        rw [show 0 + ((gs.length : Int) - 1).toNat * 1 = (gs.length - 1) * 1 + 0 by omega]; exact this) rfl ?_
      refine rr_guardY rfl rfl rfl ?_
      refine rr_nilCheck rfl rfl ?_
      refine rr_guardY rfl rfl rfl ?_
      refine r_fa rfl rfl ?_
      refine rr_guardY rfl rfl rfl ?_
      refine r_ld rfl (ls0 rfl) rfl rfl ?_
      refine rr_guardY rfl rfl rfl ?_
      refine r_lens rfl rfl ?_
      refine rr_guardY rfl rfl rfl ?_
      refine rr_move rfl rfl ?_
      refine rr_guardY rfl rfl rfl ?_
      refine r_lens rfl rfl ?_
      refine rr_guardY rfl rfl rfl ?_
      refine r_sub rfl rfl rfl (by omega) ?_
      refine rr_guardY rfl rfl rfl ?_
      refine r_int rfl rfl rfl rfl ?_
      refine RR.cl (X := bl lb 234 ((gs.flatMap fun x => [ptr x.1]) ++ lrest)) (slR_blk (cap := bc) e2 e3) ?_
      rw [← hbb]
      refine RR.cls (segR x.1 x.2) (segB x.1 x.2 (.slice b2b x.2.buf.length b2c) r2 * (slR (.slice b2b x.2.buf.length b2c) 5 1 x.2.buf.length (bv x.2.buf) * recsR r2 x.2.recs)) (fun _ h => ⟨_, _, h⟩) ?_
      refine RR.cls (segsR gs) (segsR (gs.take (gs.length - 1)) * (segR x.1 x.2 * segsR (gs.drop (gs.length - 1 + 1)))) (Ent.of_eq (segsR_split hx).symm) ?_
      first | refine rr_pick rfl rfl ?_ | refine rr_pickb rfl rfl rfl rfl ?_
      refine rr_nil ?_
      first | exact ⟨(), by rw [hnb]; ((repeat' (first | exact covers_nil | (refine covers_cons ?_ ?_; focus (first | rfl | (simp [lk, lk?]; done))))) ; (first | done | fail)), entW_fr⟩ | exact ⟨(), by rw [needB_nil hgs hg6_2]; ((repeat' (first | exact covers_nil | (refine covers_cons ?_ ?_; focus (first | rfl | (simp [lk, lk?]; done))))) ; (first | done | fail)), entW_fr⟩
    · refine rr_guardN rfl rfl rfl rfl ?_
      refine rr_guardN rfl rfl rfl rfl ?_
      refine rr_guardN rfl rfl rfl rfl ?_
      refine rr_guardN rfl rfl rfl rfl ?_
      refine rr_guardN rfl rfl rfl rfl ?_
      refine rr_guardN rfl rfl rfl rfl ?_
      refine rr_guardN rfl rfl rfl rfl ?_
      refine rr_guardN rfl rfl rfl rfl ?_
      refine rr_guardN rfl rfl rfl rfl ?_
      refine rr_guardN rfl rfl rfl rfl ?_
      refine rr_guardN rfl rfl rfl rfl ?_
      refine rr_guardN rfl rfl rfl rfl ?_
      refine rr_guardN rfl rfl rfl rfl ?_
      refine rr_guardN rfl rfl rfl rfl ?_
      refine rr_guardN rfl rfl rfl rfl ?_
      first | refine rr_pick rfl rfl ?_ | refine rr_pickb rfl rfl rfl rfl ?_
      refine rr_nil ?_
      first | exact ⟨(), by rw [hnb]; ((repeat' (first | exact covers_nil | (refine covers_cons ?_ ?_; focus (first | rfl | (simp [lk, lk?]; done))))) ; (first | done | fail)), entW_fr⟩ | exact ⟨(), by rw [needB_nil hgs hg6_2]; ((repeat' (first | exact covers_nil | (refine covers_cons ?_ ?_; focus (first | rfl | (simp [lk, lk?]; done))))) ; (first | done | fail)), entW_fr⟩
  · rintro _u f
    skip
    refine cc_join (α := Unit) (fun _u => [(0, ptr l), (1, .slice ub body.length uc)]) (fun _u => logR l d (ensL L body.length) * (devR d (ensD L D body.length) * (slR (.slice ub body.length uc) 5 1 body.length (bv body) * F))) ?_ ?_
    · refine cc_cond rfl (fun h49 => ?_) (fun h49 => ?_)
      · try simp only [decide_eq_true_eq, decide_eq_false_iff_not, beq_iff_eq, beq_eq_false_iff_ne, bne_iff_ne, bne_eq_false_iff_eq, ne_eq, Bool.not_eq_eq_eq_not, Bool.not_true, Bool.not_false] at h49
        have hb : ensL L body.length = beginL L ∧ ensD L D body.length = beginD L D := by simpa using hensL true h49
        refine cc_seq ?_
        refine CC.cls (logR l d L) (logB l d L (.slice bb gs.length bc) * (slR (.slice bb gs.length bc) 234 1 gs.length (gs.flatMap fun x => [ptr x.1]) * segsR gs)) (logR_mk l d L _ gs hgs) ?_
        refine cc_region ?_
        refine rr_move rfl rfl ?_
        refine rr_call rfl rfl rfl rfl (lbeginR_tr l d D.length k L D h (by omega) rfl) inferInstance rfl (sd0 rfl) (fun _ => sd0 rfl) rfl (fun v => ?_)
        first | refine RR.pu2 ?_ | refine RR.pu ?_
        rintro rfl
        refine rr_assign rfl rfl ?_
        refine rr_nil ?_
        refine cc_seq ?_
        refine cc_region ?_
        refine rr_move rfl rfl ?_
        refine r_int rfl rfl rfl rfl ?_
        refine rr_nil ?_
        refine cc_condF rfl ?_
        refine cc_skip ?_
        exact ⟨(), by ((repeat' (first | exact covers_nil | (refine covers_cons ?_ ?_; focus (first | rfl | (simp [lk, lk?]; done))))) ; (first | done | fail)), by rw [hb.1, hb.2]; exact entW_fr⟩
      · try simp only [decide_eq_true_eq, decide_eq_false_iff_not, beq_iff_eq, beq_eq_false_iff_ne, bne_iff_ne, bne_eq_false_iff_eq, ne_eq, Bool.not_eq_eq_eq_not, Bool.not_true, Bool.not_false] at h49
        have hb : ensL L body.length = L ∧ ensD L D body.length = D := by simpa using hensL false h49
        refine CC.cls (logR l d L) (logB l d L (.slice bb gs.length bc) * (slR (.slice bb gs.length bc) 234 1 gs.length (gs.flatMap fun x => [ptr x.1]) * segsR gs)) (logR_mk l d L _ gs hgs) ?_
        refine cc_skip ?_
        exact ⟨(), by ((repeat' (first | exact covers_nil | (refine covers_cons ?_ ?_; focus (first | rfl | (simp [lk, lk?]; done))))) ; (first | done | fail)), by rw [hb.1, hb.2]; exact entW_fr⟩
    · rintro _u f
      have hDl : (ensD L D body.length).length = D.length := ensD_len _ _ _
      generalize ensD L D body.length = D1 at *
      generalize ensL L body.length = L1 at *
      refine CC.opn (logR l d L1) rfl fun lv1 => ?_
      refine CC.ex1 fun gs1 => ?_
      refine CC.pu3 fun hgs1 => ?_
      have hL1 := snoc_of hS1
      obtain ⟨g0, g, rfl, hg0⟩ : ∃ g0 g, gs1 = g0 ++ [(g, S)] ∧ g0.map (·.2) = L1.l.dropLast := by
        rw [hL1] at hgs1
        obtain ⟨a, b, e1, e2, e3⟩ := List.map_eq_append_iff.1 hgs1
        obtain ⟨y, c, e4, e5, e6⟩ := List.map_eq_cons_iff.1 e3
        obtain rfl : c = [] := by simpa using e6
        refine ⟨a, y.1, by rw [e1, e4, ← e5], ?_⟩
        rw [e2]
      have hg0l : g0.length ≤ k + 1 := by have := congrArg List.length hg0; simp at this; omega
      have hlen2 : (g0 ++ [(g, S)]).length = g0.length + 1 := by simp
      refine CC.slb lv1 (by simp) fun lb lc lrest e1 e2 e3 => ?_
      subst e1
      have hseg : segsR (g0 ++ [(g, S)]) = segsR g0 * segR g S := by rw [segsR_app]; simp [segsR, sl_mul_one]
      refine CC.cl (X := segsR (g0 ++ [(g, S)])) (Ent.of_eq hseg) ?_
      refine CC.opn (segR g S) rfl fun b2 => ?_
      refine CC.ex1 fun r2 => ?_
      refine CC.slv b2 fun b2b b2c hb2 _ => ?_
      subst hb2
      refine cc_seq ?_
      refine cc_draw (1) [] [] mixed (by decide +kernel) ?_
      refine rr_move rfl rfl ?_
      refine rr_nilCheck rfl rfl ?_
      refine r_fa rfl rfl ?_
      refine r_ld rfl (ls0 rfl) rfl rfl ?_
      refine rr_move rfl rfl ?_
      refine rr_nilCheck rfl rfl ?_
      refine r_fa rfl rfl ?_
      refine r_ld rfl (ls0 rfl) rfl rfl ?_
      refine r_lens rfl rfl ?_
      refine r_sub rfl rfl rfl (by omega) ?_
      refine r_ix rfl rfl rfl (by omega) ?_
      refine r_ld rfl (ls0 rfl) (v := ptr g) (by
        have := nth_fm (g := fun x : Nat × Seg => [ptr x.1]) (w := 1) (fun _ _ => rfl) (l := g0 ++ [(g, S)]) (i := g0.length) (x := (g, S)) (by simp) (j := 0) rfl lrest
        rw [show 0 + ((((g0 ++ [(g, S)]).length : Nat) : Int) - 1).toNat * 1 = g0.length * 1 + 0 by omega]; exact this) rfl ?_
      refine rr_assign rfl rfl ?_
      refine rr_nil ?_
      refine CC.cl (X := bl lb 234 (((g0 ++ [(g, S)]).flatMap fun x => [ptr x.1]) ++ lrest)) (slR_blk (cap := lc) e2 e3) ?_
      refine cc_seq ?_
      refine cc_region ?_
      refine r_alloc rfl (sd0 rfl) (fun _ => sd0 rfl) (fun p11_0 => ?_)
      refine rr_nil ?_
      refine CC.clb p11_0 (bv ([] ++ (zeros 2 ++ zeros 6))) (by rfl) ?_
      refine cc_seq ?_
      refine cc_region ?_
      refine r_slaP (hi := 2) rfl (by first | rfl | exact ⟨_, rfl⟩) (by first | rfl | exact ⟨_, rfl⟩) rfl (by omega) (by omega) rfl rfl rfl ?_
      refine rr_move rfl rfl ?_
      refine r_lens rfl rfl ?_
      refine r_conv rfl rfl ?_
      rw [ku64_of]
      refine rr_call rfl rfl rfl rfl (lput_tr p11_0 0 2 8 235 (bv ([] ++ (zeros 2 ++ zeros 6))) (UInt64.ofNat body.length) (by omega) (by simp [zeros]) (by simp [zeros])) inferInstance rfl (sd0 rfl) (fun _ => sd0 rfl) rfl (fun v => ?_)
      first | refine RR.pu2 ?_ | refine RR.pu ?_
      rintro rfl
      refine rr_nil ?_
      refine CC.clb p11_0 (bv (be 2 (UInt64.ofNat body.length) ++ (zeros 6 ++ []))) ((put_cells (a := []) (m := zeros 2) (c := zeros 6) _ rfl rfl).trans (by simp [zeros])) ?_
      refine cc_seq ?_
      refine cc_draw (1) [] [] mixed (by decide +kernel) ?_
      refine r_slaP (lo := 2) rfl (by first | rfl | exact ⟨_, rfl⟩) (by first | rfl | exact ⟨_, rfl⟩) rfl (by omega) (by omega) rfl rfl rfl ?_
      refine rr_move rfl rfl ?_
      refine rr_nilCheck rfl rfl ?_
      refine r_fa rfl rfl ?_
      refine r_ld rfl (ls0 rfl) rfl rfl ?_
      refine r_conv rfl rfl ?_
      rw [ku64_of]
      refine rr_call rfl rfl rfl rfl (lput_tr p11_0 2 6 6 235 (bv (be 2 (UInt64.ofNat body.length) ++ (zeros 6 ++ []))) (UInt64.ofNat L1.next) (by omega) (by simp [zeros]) (by simp [zeros])) inferInstance rfl (sd0 rfl) (fun _ => sd0 rfl) rfl (fun v => ?_)
      first | refine RR.pu2 ?_ | refine RR.pu ?_
      rintro rfl
      refine rr_nil ?_
      refine CC.clb p11_0 (bv (be 2 (UInt64.ofNat body.length) ++ be 6 (UInt64.ofNat L1.next))) ((put_cells (a := be 2 (UInt64.ofNat body.length)) (m := zeros 6) (c := []) _ (by simp) rfl).trans (by simp [zeros])) ?_
      refine cc_seq ?_
      refine cc_region ?_
      refine rr_move rfl rfl ?_
      refine rr_nilCheck rfl rfl ?_
      refine r_fa rfl rfl ?_
      refine r_ld rfl (ls0 rfl) rfl rfl ?_
      refine r_lens rfl rfl ?_
      refine rr_assign rfl rfl ?_
      refine rr_nil ?_
      refine cc_seq ?_
      refine cc_draw (1) [] [] mixed (by decide +kernel) ?_
      refine rr_move rfl rfl ?_
      refine rr_move rfl rfl ?_
      refine rr_nilCheck rfl rfl ?_
      refine r_fa rfl rfl ?_
      refine r_ld rfl (ls0 rfl) rfl rfl ?_
      refine r_slaP rfl (by first | rfl | exact ⟨_, rfl⟩) (by first | rfl | exact ⟨_, rfl⟩) rfl (by omega) (by omega) rfl rfl rfl ?_
      refine r_appB (S.buf) (be 2 (UInt64.ofNat body.length) ++ be 6 (UInt64.ofNat L1.next)) rfl rfl (.inl (by rw [spv_underlying]; kernel_rfl)) inferInstance rfl (fun w sa => by rw [show (be 2 (UInt64.ofNat body.length) ++ be 6 (UInt64.ofNat L1.next)).length = 8 by simp]; exact src_of sa (by simp) (by rw [List.drop_zero, List.take_of_length_le]; simp)) (by simp; omega) rfl rfl (sd0 rfl) (fun _ => sd0 rfl) (fun v => ?_)
      refine rr_move rfl rfl ?_
      refine r_appB (S.buf ++ (be 2 (UInt64.ofNat body.length) ++ be 6 (UInt64.ofNat L1.next))) (body) rfl rfl (.inl (by rw [spv_underlying]; kernel_rfl)) inferInstance rfl (fun w sa => src_slR sa) (by simp; omega) rfl rfl (sd0 rfl) (fun _ => sd0 rfl) (fun v => ?_)
      refine RR.slv v fun vb vc hv _ => ?_
      subst hv
      refine rr_nilCheck rfl rfl ?_
      refine r_fa rfl rfl ?_
      refine r_st rfl rfl rfl rfl (sd0 rfl) (sd0 rfl) ?_
      refine rr_nil ?_
      have hm8 : (be 2 (UInt64.ofNat body.length) ++ be 6 (UInt64.ofNat L1.next)).length = 8 := by simp
      have hbl : (addSeg S L1.next body).buf.length = S.buf.length + 8 + body.length := by simp only [addSeg, List.length_append, hm8]
      have hbuf : S.buf ++ (be 2 (UInt64.ofNat body.length) ++ be 6 (UInt64.ofNat L1.next)) ++ body = (addSeg S L1.next body).buf := rfl
      rw [hbuf]
      refine CC.clb g [i64 (addSeg S L1.next body).gen, i64 (addSeg S L1.next body).base, i64 (addSeg S L1.next body).run, .slice vb (addSeg S L1.next body).buf.length vc, r2] (by rfl) ?_
      refine cc_seq ?_
      refine cc_seq ?_
      refine cc_region ?_
      refine rr_move rfl rfl ?_
      refine rr_nil ?_
      refine cc_block ?_
      refine cc_loopW (α := Nat) (fun j => [(95, i64 j), (0, ptr l), (1, .slice ub body.length uc), (8, ptr g), (10, i64 S.buf.length)]) (fun j => pu (j ≤ 8) * (logB l d L1 (.slice (some ⟨lb, 0, none⟩) (g0 ++ [(g, S)]).length lc) * (segB g (addSeg S L1.next body) (.slice vb (addSeg S L1.next body).buf.length vc) r2 * (slR (.slice vb (addSeg S L1.next body).buf.length vc) 5 1 (addSeg S L1.next body).buf.length (bv (addSeg S L1.next body).buf) * (devR d (wr8 D1 L1.from_ L1.segs L1.run (addSeg S L1.next body) S.buf.length j) * (slR (.slice (some ⟨lb, 0, none⟩) (g0 ++ [(g, S)]).length lc) 234 1 (g0 ++ [(g, S)]).length ((g0 ++ [(g, S)]).flatMap fun x => [ptr x.1]) * (segsR g0 * (recsR r2 S.recs * (slR (.slice ub body.length uc) 5 1 body.length (bv body) * F))))))))) (fun j => 8 - j) (0) (by ((repeat' (first | exact covers_nil | (refine covers_cons ?_ ?_; focus (first | rfl | (simp [lk, lk?]; done))))) ; (first | done | fail))) (by exact entW_pu (by omega) (by simp only [wr8]; exact entW_fr)) ?_
      rintro j f
      refine CC.pu fun hj => ?_
      refine cc_seq ?_
      refine cc_region ?_
      refine r_int rfl rfl rfl rfl ?_
      refine rr_nil ?_
      refine cc_seq ?_
      refine cc_cond rfl (fun h96 => ?_) (fun h96 => ?_)
      · try simp only [decide_eq_true_eq, decide_eq_false_iff_not, beq_iff_eq, beq_eq_false_iff_ne, bne_iff_ne, bne_eq_false_iff_eq, ne_eq, Bool.not_eq_eq_eq_not, Bool.not_true, Bool.not_false] at h96
        refine cc_skip ?_
        refine cc_seq ?_
        refine cc_block ?_
        refine cc_seq ?_
        refine cc_region ?_
        refine rr_move rfl rfl ?_
        refine rr_assign rfl rfl ?_
        refine rr_nil ?_
        refine cc_seq ?_
        refine cc_draw (segB g (addSeg S L1.next body) (.slice vb (addSeg S L1.next body).buf.length vc) r2) [11] [7] mixed (by decide +kernel) ?_
        refine rr_move rfl rfl ?_
        refine r_add rfl rfl rfl (by omega) ?_
        refine rr_call rfl rfl rfl rfl (start_tr (j + 1) (by omega)) inferInstance rfl (sd0 rfl) (fun _ => sd0 rfl) rfl (fun v => ?_)
        first | refine RR.pu2 ?_ | refine RR.pu ?_
        rintro rfl
        refine rr_move rfl rfl ?_
        refine r_int rfl rfl rfl rfl ?_
        refine rr_move rfl rfl ?_
        refine rr_guard rfl rfl rfl (fun hg19_5 => ?_) (fun hg19_5 => ?_)
        · refine rr_move rfl rfl ?_
          refine rr_guardY rfl rfl rfl ?_
          refine rr_call rfl rfl rfl rfl (start_tr j (by omega)) inferInstance rfl (sd1 rfl) (fun _ => sd1 rfl) rfl (fun v => ?_)
          first | refine RR.pu2 ?_ | refine RR.pu ?_
          rintro rfl
          refine rr_guardY rfl rfl rfl ?_
          refine rr_move rfl rfl ?_
          refine rr_guardY rfl rfl rfl ?_
          refine rr_nilCheck rfl rfl ?_
          refine rr_guardY rfl rfl rfl ?_
          refine r_fa rfl rfl ?_
          refine rr_guardY rfl rfl rfl ?_
          refine r_ld rfl (ls1 rfl) rfl rfl ?_
          refine rr_guardY rfl rfl rfl ?_
          refine r_lens rfl rfl ?_
          refine rr_guardY rfl rfl rfl ?_
          refine r_int rfl rfl rfl rfl ?_
          first | refine rr_pick rfl rfl ?_ | refine rr_pickb rfl rfl rfl rfl ?_
          refine rr_nil ?_
          refine cc_cond rfl (fun h112 => ?_) (fun h112 => ?_)
          · try simp only [decide_eq_true_eq, decide_eq_false_iff_not, beq_iff_eq, beq_eq_false_iff_ne, bne_iff_ne, bne_eq_false_iff_eq, ne_eq, Bool.not_eq_eq_eq_not, Bool.not_true, Bool.not_false] at h112
            refine cc_seq ?_
            refine cc_region ?_
            refine rr_move rfl rfl ?_
            refine rr_move rfl rfl ?_
            refine rr_move rfl rfl ?_
            refine rr_call rfl rfl rfl rfl (lwrite_tr l d g j L1 (.slice (some ⟨lb, 0, none⟩) (g0 ++ [(g, S)]).length lc) (.slice vb (addSeg S L1.next body).buf.length vc) r2 (addSeg S L1.next body) (wr8 D1 L1.from_ L1.segs L1.run (addSeg S L1.next body) S.buf.length j) (by omega) (by omega) hSg.1 (by show S.gen ≤ _; omega) (by omega) (by omega) (by rw [wr8_len]; omega) (by omega)) inferInstance rfl (sd0 rfl) (fun _ => sd0 rfl) rfl (fun v => ?_)
            first | refine RR.pu2 ?_ | refine RR.pu ?_
            rintro rfl
            refine rr_assign rfl rfl ?_
            refine rr_nil ?_
            refine cc_seq ?_
            refine cc_region ?_
            refine rr_move rfl rfl ?_
            refine r_int rfl rfl rfl rfl ?_
            refine rr_nil ?_
            refine cc_condF rfl ?_
            refine cc_skip ?_
            refine cc_region ?_
            refine r_add rfl rfl rfl (by omega) ?_
            refine rr_move rfl rfl ?_
            refine rr_nil ?_
            refine ⟨j + 1, by omega, by ((repeat' (first | exact covers_nil | (refine covers_cons ?_ ?_; focus (first | rfl | (simp [lk, lk?]; done))))) ; (first | done | fail)), entW_pu (by omega) ?_⟩
            have hw : wr8 D1 L1.from_ L1.segs L1.run (addSeg S L1.next body) S.buf.length (j + 1) = if S.buf.length < startN (j + 1) ∧ startN j < (addSeg S L1.next body).buf.length then segW (wr8 D1 L1.from_ L1.segs L1.run (addSeg S L1.next body) S.buf.length j) L1.from_ L1.segs (addSeg S L1.next body) j L1.run else wr8 D1 L1.from_ L1.segs L1.run (addSeg S L1.next body) S.buf.length j := rfl
            simp only [decide_eq_true_eq, Bool.not_true, decide_eq_false_iff_not] at hg19_5
            first
              | (exfalso; simp at h112; done)
              | (rw [hw, if_pos (by simp only [startN]; omega)]; exact entW_fr)
              | (rw [hw, if_neg (by simp only [startN]; omega)]; exact entW_fr)
          · try simp only [decide_eq_true_eq, decide_eq_false_iff_not, beq_iff_eq, beq_eq_false_iff_ne, bne_iff_ne, bne_eq_false_iff_eq, ne_eq, Bool.not_eq_eq_eq_not, Bool.not_true, Bool.not_false] at h112
            refine cc_skip ?_
            refine cc_region ?_
            refine r_add rfl rfl rfl (by omega) ?_
            refine rr_move rfl rfl ?_
            refine rr_nil ?_
            refine ⟨j + 1, by omega, by ((repeat' (first | exact covers_nil | (refine covers_cons ?_ ?_; focus (first | rfl | (simp [lk, lk?]; done))))) ; (first | done | fail)), entW_pu (by omega) ?_⟩
            have hw : wr8 D1 L1.from_ L1.segs L1.run (addSeg S L1.next body) S.buf.length (j + 1) = if S.buf.length < startN (j + 1) ∧ startN j < (addSeg S L1.next body).buf.length then segW (wr8 D1 L1.from_ L1.segs L1.run (addSeg S L1.next body) S.buf.length j) L1.from_ L1.segs (addSeg S L1.next body) j L1.run else wr8 D1 L1.from_ L1.segs L1.run (addSeg S L1.next body) S.buf.length j := rfl
            simp only [decide_eq_true_eq, Bool.not_true, decide_eq_false_iff_not] at hg19_5
            first
              | (exfalso; simp at h112; done)
              | (rw [hw, if_pos (by simp only [startN]; omega)]; exact entW_fr)
              | (rw [hw, if_neg (by simp only [startN]; omega)]; exact entW_fr)
        · refine rr_guardN rfl rfl rfl rfl ?_
          refine rr_guardN rfl rfl rfl rfl ?_
          refine rr_guardN rfl rfl rfl rfl ?_
          refine rr_guardN rfl rfl rfl rfl ?_
          refine rr_guardN rfl rfl rfl rfl ?_
          refine rr_guardN rfl rfl rfl rfl ?_
          refine rr_guardN rfl rfl rfl rfl ?_
          first | refine rr_pick rfl rfl ?_ | refine rr_pickb rfl rfl rfl rfl ?_
          refine rr_nil ?_
          refine cc_cond rfl (fun h112 => ?_) (fun h112 => ?_)
          · try simp only [decide_eq_true_eq, decide_eq_false_iff_not, beq_iff_eq, beq_eq_false_iff_ne, bne_iff_ne, bne_eq_false_iff_eq, ne_eq, Bool.not_eq_eq_eq_not, Bool.not_true, Bool.not_false] at h112
            refine cc_seq ?_
            refine cc_region ?_
            refine rr_move rfl rfl ?_
            refine rr_move rfl rfl ?_
            refine rr_move rfl rfl ?_
            refine rr_call rfl rfl rfl rfl (lwrite_tr l d g j L1 (.slice (some ⟨lb, 0, none⟩) (g0 ++ [(g, S)]).length lc) (.slice vb (addSeg S L1.next body).buf.length vc) r2 (addSeg S L1.next body) (wr8 D1 L1.from_ L1.segs L1.run (addSeg S L1.next body) S.buf.length j) (by omega) (by omega) hSg.1 (by show S.gen ≤ _; omega) (by omega) (by omega) (by rw [wr8_len]; omega) (by omega)) inferInstance rfl (sd0 rfl) (fun _ => sd0 rfl) rfl (fun v => ?_)
            first | refine RR.pu2 ?_ | refine RR.pu ?_
            rintro rfl
            refine rr_assign rfl rfl ?_
            refine rr_nil ?_
            refine cc_seq ?_
            refine cc_region ?_
            refine rr_move rfl rfl ?_
            refine r_int rfl rfl rfl rfl ?_
            refine rr_nil ?_
            refine cc_condF rfl ?_
            refine cc_skip ?_
            refine cc_region ?_
            refine r_add rfl rfl rfl (by omega) ?_
            refine rr_move rfl rfl ?_
            refine rr_nil ?_
            refine ⟨j + 1, by omega, by ((repeat' (first | exact covers_nil | (refine covers_cons ?_ ?_; focus (first | rfl | (simp [lk, lk?]; done))))) ; (first | done | fail)), entW_pu (by omega) ?_⟩
            have hw : wr8 D1 L1.from_ L1.segs L1.run (addSeg S L1.next body) S.buf.length (j + 1) = if S.buf.length < startN (j + 1) ∧ startN j < (addSeg S L1.next body).buf.length then segW (wr8 D1 L1.from_ L1.segs L1.run (addSeg S L1.next body) S.buf.length j) L1.from_ L1.segs (addSeg S L1.next body) j L1.run else wr8 D1 L1.from_ L1.segs L1.run (addSeg S L1.next body) S.buf.length j := rfl
            simp only [decide_eq_true_eq, Bool.not_true, decide_eq_false_iff_not] at hg19_5
            first
              | (exfalso; simp at h112; done)
              | (rw [hw, if_pos (by simp only [startN]; omega)]; exact entW_fr)
              | (rw [hw, if_neg (by simp only [startN]; omega)]; exact entW_fr)
          · try simp only [decide_eq_true_eq, decide_eq_false_iff_not, beq_iff_eq, beq_eq_false_iff_ne, bne_iff_ne, bne_eq_false_iff_eq, ne_eq, Bool.not_eq_eq_eq_not, Bool.not_true, Bool.not_false] at h112
            refine cc_skip ?_
            refine cc_region ?_
            refine r_add rfl rfl rfl (by omega) ?_
            refine rr_move rfl rfl ?_
            refine rr_nil ?_
            refine ⟨j + 1, by omega, by ((repeat' (first | exact covers_nil | (refine covers_cons ?_ ?_; focus (first | rfl | (simp [lk, lk?]; done))))) ; (first | done | fail)), entW_pu (by omega) ?_⟩
            have hw : wr8 D1 L1.from_ L1.segs L1.run (addSeg S L1.next body) S.buf.length (j + 1) = if S.buf.length < startN (j + 1) ∧ startN j < (addSeg S L1.next body).buf.length then segW (wr8 D1 L1.from_ L1.segs L1.run (addSeg S L1.next body) S.buf.length j) L1.from_ L1.segs (addSeg S L1.next body) j L1.run else wr8 D1 L1.from_ L1.segs L1.run (addSeg S L1.next body) S.buf.length j := rfl
            simp only [decide_eq_true_eq, Bool.not_true, decide_eq_false_iff_not] at hg19_5
            first
              | (exfalso; simp at h112; done)
              | (rw [hw, if_pos (by simp only [startN]; omega)]; exact entW_fr)
              | (rw [hw, if_neg (by simp only [startN]; omega)]; exact entW_fr)
      · try simp only [decide_eq_true_eq, decide_eq_false_iff_not, beq_iff_eq, beq_eq_false_iff_ne, bne_iff_ne, bne_eq_false_iff_eq, ne_eq, Bool.not_eq_eq_eq_not, Bool.not_true, Bool.not_false] at h96
        obtain rfl : j = 8 := by omega
        refine CC.opn (recsR r2 S.recs) rfl fun us => ?_
        refine CC.pu3 fun hus => ?_
        refine CC.slv r2 fun rb rc hr2 _ => ?_
        subst hr2
        refine cc_exit ?_
        refine cc_seq ?_
        refine cc_draw (segB g (addSeg S L1.next body) (.slice vb (addSeg S L1.next body).buf.length vc) (.slice rb S.recs.length rc) * logB l d L1 (.slice (some ⟨lb, 0, none⟩) (g0 ++ [(g, S)]).length lc)) [4, 8] [10, 12] mixed (by decide +kernel) ?_
        refine rr_move rfl rfl ?_
        refine rr_move rfl rfl ?_
        refine rr_nilCheck rfl rfl ?_
        refine r_fa rfl rfl ?_
        refine r_ld rfl (ls1 rfl) rfl rfl ?_
        refine rr_move rfl rfl ?_
        refine rr_nilCheck rfl rfl ?_
        refine r_fa rfl rfl ?_
        refine r_ld rfl (ls1 rfl) rfl rfl ?_
        refine rr_move rfl rfl ?_
        refine rr_call rfl rfl rfl rfl (cloneS_tr _ body.length body rfl (by omega)) inferInstance rfl (sd1 rfl) (fun _ => sd1 rfl) rfl (fun v => ?_)
        refine RR.slv v fun b2 c2 e2 _ => ?_
        subst e2
        refine r_bld rfl rfl rfl ?_
        refine r_bsl (cs := [i64 L1.next, .slice b2 body.length c2]) rfl rfl rfl rfl rfl rfl (by first | exact sd0 rfl | exact sd1 rfl) (fun _ => by first | exact sd0 rfl | exact sd1 rfl) (fun p24 => ?_)
        refine r_app (m := S.recs.length) (xs := recV us S.recs) (k' := 1) (ys := [i64 L1.next, .slice b2 body.length c2]) rfl rfl (.inl (by rw [spv_underlying]; kernel_rfl)) inferInstance rfl (fun w sa => src_of sa (by simp) rfl) (by simp) (by simp [oneC]) (by omega) (by omega) (by omega) rfl (by first | exact sd0 rfl | exact sd1 rfl) (fun _ => by first | exact sd0 rfl | exact sd1 rfl) (fun v4 => ?_)
        refine RR.slv v4 fun b4 c4 e4 _ => ?_
        subst e4
        refine rr_nilCheck rfl rfl ?_
        refine r_fa rfl rfl ?_
        refine r_st rfl rfl rfl rfl (sd0 rfl) (sd0 rfl) ?_
        refine rr_nil ?_
        have hrec := recsR_mk (.slice b4 (S.recs.length + 1) c4) (us ++ [.slice b2 body.length c2]) (S.recs ++ [(L1.next, body)]) (by simp [hus])
        rw [recV_app hus, bodies_app hus, List.length_append] at hrec
        refine CC.cls (recsR (.slice b4 (S.recs.length + 1) c4) (S.recs ++ [(L1.next, body)])) (slR (.slice b4 (S.recs.length + 1) c4) 241 2 (S.recs.length + 1) (recV us S.recs ++ [i64 L1.next, .slice b2 body.length c2]) * (bodies us S.recs * slR (.slice b2 body.length c2) 5 1 body.length (bv body))) hrec ?_
        refine CC.clb g [i64 (addSeg S L1.next body).gen, i64 (addSeg S L1.next body).base, i64 (addSeg S L1.next body).run, .slice vb (addSeg S L1.next body).buf.length vc, .slice b4 (S.recs.length + 1) c4] (by rfl) ?_
        refine CC.cls (segR g (addSeg S L1.next body)) (segB g (addSeg S L1.next body) (.slice vb (addSeg S L1.next body).buf.length vc) (.slice b4 (S.recs.length + 1) c4) * (slR (.slice vb (addSeg S L1.next body).buf.length vc) 5 1 (addSeg S L1.next body).buf.length (bv (addSeg S L1.next body).buf) * recsR (.slice b4 (S.recs.length + 1) c4) (S.recs ++ [(L1.next, body)]))) (segR_mk g (addSeg S L1.next body) _ _) ?_
        refine cc_seq ?_
        refine cc_region ?_
        refine rr_move rfl rfl ?_
        refine rr_nilCheck rfl rfl ?_
        refine r_fa rfl rfl ?_
        refine r_ld rfl (ls0 rfl) rfl rfl ?_
        refine r_add rfl rfl rfl (by omega) ?_
        refine rr_nilCheck rfl rfl ?_
        refine r_fa rfl rfl ?_
        refine r_st rfl rfl rfl rfl (sd0 rfl) (sd0 rfl) ?_
        refine rr_nil ?_
        refine cc_seq ?_
        refine cc_seq ?_
        refine cc_region ?_
        refine rr_move rfl rfl ?_
        refine rr_nilCheck rfl rfl ?_
        refine r_fa rfl rfl ?_
        refine r_ld rfl (ls0 rfl) rfl rfl ?_
        refine rr_nil ?_
        refine cc_cond rfl (fun h147 => ?_) (fun h147 => ?_)
        · try simp only [decide_eq_true_eq, decide_eq_false_iff_not, beq_iff_eq, beq_eq_false_iff_ne, bne_iff_ne, bne_eq_false_iff_eq, ne_eq, Bool.not_eq_eq_eq_not, Bool.not_true, Bool.not_false] at h147
          refine cc_seq ?_
          refine cc_region ?_
          refine rr_move rfl rfl ?_
          refine rr_nilCheck rfl rfl ?_
          refine r_fa rfl rfl ?_
          refine r_st rfl rfl rfl rfl (sd0 rfl) (sd0 rfl) ?_
          refine rr_nil ?_
          refine cc_seq ?_
          refine CC.clb l [ptr d, i64 L1.from_, i64 L1.segs, .slice (some ⟨lb, 0, none⟩) (g0 ++ [(g, S)]).length lc, i64 (L1.next + 1 : Nat), i64 L1.run, .bool false] (by simp) ?_
          refine cc_draw (bl l 190 [ptr d, i64 L1.from_, i64 L1.segs, .slice (some ⟨lb, 0, none⟩) (g0 ++ [(g, S)]).length lc, i64 (L1.next + 1 : Nat), i64 L1.run, .bool false]) [3] [9] mixed (by decide +kernel) ?_
          refine rr_move rfl rfl ?_
          refine rr_nilCheck rfl rfl ?_
          refine r_fa rfl rfl ?_
          refine r_ld rfl (ls1 rfl) rfl rfl ?_
          refine r_sub rfl rfl rfl (by omega) ?_
          rw [show ((L1.next + 1 : Nat) : Int) - 1 = (L1.next : Int) by omega]
          refine rr_move rfl rfl ?_
          refine rr_nilCheck rfl rfl ?_
          refine r_fa rfl rfl ?_
          refine r_ld rfl (ls0 rfl) rfl rfl ?_
          refine rr_call rfl rfl rfl rfl (flush_tr d (wr8 D1 L1.from_ L1.segs L1.run (addSeg S L1.next body) S.buf.length 8)) inferInstance rfl (sd1 rfl) (fun _ => sd1 rfl) rfl (fun v => ?_)
          first | refine RR.pu2 ?_ | refine RR.pu ?_
          rintro rfl
          refine rr_assign rfl rfl ?_
          refine rr_assign rfl rfl ?_
          refine rr_nil ?_
          refine cc_ret ?_
          refine ⟨_, rfl, entW_pu2 rfl ?_⟩
          have eL : putL L1 body = { L1 with l := L1.l.dropLast ++ [addSeg S L1.next body], next := L1.next + 1, fresh := false } := by simp only [putL, hS1]
          have eD : putD L1 D1 body = if L1.fresh then flushD (wr8 D1 L1.from_ L1.segs L1.run (addSeg S L1.next body) S.buf.length 8) else wr8 D1 L1.from_ L1.segs L1.run (addSeg S L1.next body) S.buf.length 8 := by simp only [putD, hS1]
          rw [hapL, hapD, eD, eL, h147]
          simp only [if_true, Bool.false_eq_true, if_false]
          refine entW_cls (logR l d { L1 with l := L1.l.dropLast ++ [addSeg S L1.next body], next := L1.next + 1, fresh := false }) (bl l 190 [ptr d, i64 L1.from_, i64 L1.segs, .slice (some ⟨lb, 0, none⟩) (g0 ++ [(g, S)]).length lc, i64 (L1.next + 1 : Nat), i64 L1.run, .bool false] * (slR (.slice (some ⟨lb, 0, none⟩) (g0 ++ [(g, S)]).length lc) 234 1 (g0 ++ [(g, S)]).length ((g0 ++ [(g, S)]).flatMap fun x => [ptr x.1]) * (segsR g0 * segR g (addSeg S L1.next body)))) (logR_snoc l d { L1 with l := L1.l.dropLast ++ [addSeg S L1.next body], next := L1.next + 1, fresh := false } _ g0 g S (addSeg S L1.next body) (by simp [hg0])) ?_
          exact entW_fr
        · try simp only [decide_eq_true_eq, decide_eq_false_iff_not, beq_iff_eq, beq_eq_false_iff_ne, bne_iff_ne, bne_eq_false_iff_eq, ne_eq, Bool.not_eq_eq_eq_not, Bool.not_true, Bool.not_false] at h147
          refine cc_skip ?_
          refine cc_seq ?_
          refine CC.clb l [ptr d, i64 L1.from_, i64 L1.segs, .slice (some ⟨lb, 0, none⟩) (g0 ++ [(g, S)]).length lc, i64 (L1.next + 1 : Nat), i64 L1.run, .bool false] (by simp [h147]) ?_
          refine cc_region ?_
          refine rr_move rfl rfl ?_
          refine rr_nilCheck rfl rfl ?_
          refine r_fa rfl rfl ?_
          refine r_ld rfl (ls0 rfl) rfl rfl ?_
          refine r_sub rfl rfl rfl (by omega) ?_
          rw [show ((L1.next + 1 : Nat) : Int) - 1 = (L1.next : Int) by omega]
          refine rr_assign rfl rfl ?_
          refine rr_assign rfl rfl ?_
          refine rr_nil ?_
          refine cc_ret ?_
          refine ⟨_, rfl, entW_pu2 rfl ?_⟩
          have eL : putL L1 body = { L1 with l := L1.l.dropLast ++ [addSeg S L1.next body], next := L1.next + 1, fresh := false } := by simp only [putL, hS1]
          have eD : putD L1 D1 body = if L1.fresh then flushD (wr8 D1 L1.from_ L1.segs L1.run (addSeg S L1.next body) S.buf.length 8) else wr8 D1 L1.from_ L1.segs L1.run (addSeg S L1.next body) S.buf.length 8 := by simp only [putD, hS1]
          rw [hapL, hapD, eD, eL, h147]
          simp only [if_true, Bool.false_eq_true, if_false]
          refine entW_cls (logR l d { L1 with l := L1.l.dropLast ++ [addSeg S L1.next body], next := L1.next + 1, fresh := false }) (bl l 190 [ptr d, i64 L1.from_, i64 L1.segs, .slice (some ⟨lb, 0, none⟩) (g0 ++ [(g, S)]).length lc, i64 (L1.next + 1 : Nat), i64 L1.run, .bool false] * (slR (.slice (some ⟨lb, 0, none⟩) (g0 ++ [(g, S)]).length lc) 234 1 (g0 ++ [(g, S)]).length ((g0 ++ [(g, S)]).flatMap fun x => [ptr x.1]) * (segsR g0 * segR g (addSeg S L1.next body)))) (logR_snoc l d { L1 with l := L1.l.dropLast ++ [addSeg S L1.next body], next := L1.next + 1, fresh := false } _ g0 g S (addSeg S L1.next body) (by simp [hg0])) ?_
          exact entW_fr
end Go.Proofs.YtoiakcgdkegncaaGreat

