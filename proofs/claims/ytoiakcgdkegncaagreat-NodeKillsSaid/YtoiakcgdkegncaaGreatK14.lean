import Derived.Test.YtoiakcgdkegncaaGreatK13
set_option linter.unusedVariables false
set_option linter.unusedSimpArgs false
set_option linter.unusedSectionVars false
namespace Go.Proofs.YtoiakcgdkegncaaGreat
open Go.RowKit Ice
attribute [local irreducible] CC RR Tr stir mixOf mixPoint ptsOf leaseGood
def ownerR (o : Option (Int × List Int)) (key : Txt) : Int := match o with
  | none => 0
  | some x => ownerS (ptsOf x.2) (mixOf key)
def ringFit (o : Option (Int × List Int)) : Prop := match o with
  | none => True
  | some x => 0 < (ptsOf x.2).length ∧ (ptsOf x.2).length ≤ 2 ^ 20
theorem rofO_tr (U : Pool) (rg : Value) (o : Option (Int × List Int)) (key : Txt) (h : ringOK U rg o) (hf : ringFit o) (hk : key.length ≤ 2 ^ 30) : Tr Tryz.prog 40 #[rg, str key] (poolR U)
    (fun v => pu (v = i64 (ownerR o key)) * poolR U) := by
  cases o with
  | none =>
    rw [show rg = .pointer none from h]
    have := tr_frame (poolR U) (of0_tr key hk)
    rwa [sl_one_mul] at this
  | some x =>
    obtain ⟨r, rfl, hr⟩ := h
    exact rof_tr U r x.1 x.2 key hr hf.1 hf.2 hk
def servesN (N : NodeS) (now : Int) (key : Txt) : Bool := ownerR N.ring key == N.id && leaseGood N.lease now N.store.mt.epoch
theorem ringOK.oneC {U : Pool} {rg : Value} {o : Option (Int × List Int)} (h : ringOK U rg o) : oneC rg = true := by
  cases o with
  | none => rw [show rg = .pointer none from h]; rfl
  | some x => obtain ⟨r, rfl, _⟩ := h; rfl
theorem nserves_tr (U : Pool) (n d c : Nat) (now : Int) (X : MovX) (N : NodeS) (key : Txt) (hz : N.store.mt.frozen = false) (hf : ringFit N.ring) (hk : key.length ≤ 2 ^ 30) :
    Tr Tryz.prog 14 #[ptr n, str key] (nodeR U n d c X N * (poolR U * clockR c now)) (fun v => pu (v = .bool (servesN N now key)) * (nodeR U n d c X N * (poolR U * clockR c now))) := by
  refine tr_body Tryz.func14 (by kernel_rfl) rfl Tryz.ntmps14 rfl (L := [(0, ptr n), (1, str key)]) (covers_cons rfl (covers_cons rfl covers_nil)) rfl ?_
  intro F w0 f
  refine CC.node U n d c X N fun st le tk rg wv rv mv lv M h1 h2 h3 => ?_
  refine CC.opn (storeR st d N.store) rfl fun q => ?_
  refine cc_seq ?_
  refine cc_region ?_
  refine rr_assign rfl rfl ?_
  refine rr_nil ?_
  refine cc_seq ?_
  refine cc_seq ?_
  refine cc_draw (bl n 57 [ptr st, ptr le, i64 N.id, rg, ptr tk, .bool X.knows, X.pv, X.ov, X.iv, wv, rv, i64 N.asked, mv, lv] * bl st 84 [ptr q.1, ptr q.2.1, ptr q.2.2, i64 N.store.boot]) [12, 19] [8, 27] mixed (by decide +kernel) ?_
  refine rr_move rfl rfl ?_
  refine r_pnil rfl rfl rfl ?_
  refine rr_move rfl rfl ?_
  refine rr_guardY rfl rfl rfl ?_
  refine rr_move rfl rfl ?_
  refine rr_guardY rfl rfl rfl ?_
  refine rr_nilCheck rfl rfl ?_
  refine rr_guardY rfl rfl rfl ?_
  refine r_fa rfl rfl ?_
  refine rr_guardY rfl rfl rfl ?_
  refine r_ld rfl (ls0 rfl) rfl rfl ?_
  refine rr_guardY rfl rfl rfl ?_
  refine rr_move rfl rfl ?_
  refine rr_guardY rfl rfl rfl ?_
  refine rr_call rfl rfl rfl rfl (rofO_tr U rg N.ring key h1 hf hk) inferInstance rfl (sd1 rfl) (fun _ => sd1 rfl) rfl (fun v => ?_)
  first | refine RR.pu2 ?_ | refine RR.pu ?_
  rintro rfl
  refine rr_guardY rfl rfl rfl ?_
  refine rr_move rfl rfl ?_
  refine rr_guardY rfl rfl rfl ?_
  refine rr_nilCheck rfl rfl ?_
  refine rr_guardY rfl rfl rfl ?_
  refine r_fa rfl rfl ?_
  refine rr_guardY rfl rfl rfl ?_
  refine r_ld rfl (ls1 rfl) rfl rfl ?_
  refine rr_guardY rfl rfl rfl ?_
  refine r_int rfl rfl rfl rfl ?_
  first | refine rr_pick rfl rfl ?_ | refine rr_pickb rfl rfl rfl rfl ?_
  refine rr_move rfl rfl ?_
  refine rr_guard rfl rfl rfl (fun hg1_15 => ?_) (fun hg1_15 => ?_)
  · refine rr_move rfl rfl ?_
    refine rr_guardY rfl rfl rfl ?_
    refine rr_nilCheck rfl rfl ?_
    refine rr_guardY rfl rfl rfl ?_
    refine r_fa rfl rfl ?_
    refine rr_guardY rfl rfl rfl ?_
    refine r_ld rfl (ls1 rfl) rfl rfl ?_
    refine rr_guardY rfl rfl rfl ?_
    refine rr_move rfl rfl ?_
    refine rr_guardY rfl rfl rfl ?_
    refine rr_nilCheck rfl rfl ?_
    refine rr_guardY rfl rfl rfl ?_
    refine r_fa rfl rfl ?_
    refine rr_guardY rfl rfl rfl ?_
    refine r_ld rfl (ls0 rfl) rfl rfl ?_
    refine rr_guardY rfl rfl rfl ?_
    refine rr_nilCheck rfl rfl ?_
    refine rr_guardY rfl rfl rfl ?_
    refine r_fa rfl rfl ?_
    refine rr_guardY rfl rfl rfl ?_
    refine r_ld rfl (ls0 rfl) rfl rfl ?_
    refine rr_guardY rfl rfl rfl ?_
    refine rr_call rfl rfl rfl rfl (mmetaR_tr q.2.2 d N.store.mt N.store.turn N.store.slot) inferInstance rfl (sd1 rfl) (fun _ => sd1 rfl) rfl (fun v => ?_)
    first | refine RR.pu2 ?_ | refine RR.pu ?_
    rintro rfl
    refine rr_guardY rfl rfl rfl ?_
    refine r_fld rfl rfl rfl ?_
    refine rr_guardY rfl rfl rfl ?_
    refine rr_call rfl rfl rfl rfl (good_tr le c now N.store.mt.epoch N.lease) inferInstance rfl (sd0 rfl) (fun _ => sd0 rfl) rfl (fun v => ?_)
    first | refine RR.pu2 ?_ | refine RR.pu ?_
    rintro rfl
    refine rr_guardY rfl rfl rfl ?_
    refine r_not rfl rfl ?_
    first | refine rr_pick rfl rfl ?_ | refine rr_pickb rfl rfl rfl rfl ?_
    refine rr_nil ?_
    refine cc_cond rfl (fun h38 => ?_) (fun h38 => ?_)
    · try simp only [decide_eq_true_eq, decide_eq_false_iff_not, beq_iff_eq, beq_eq_false_iff_ne, bne_iff_ne, bne_eq_false_iff_eq, ne_eq, Bool.not_eq_eq_eq_not, Bool.not_true, Bool.not_false] at h38
      try (exfalso; simp at h38; done)
      all_goals (
        refine cc_seq ?_
        refine cc_region ?_
        refine rr_assign rfl rfl ?_
        refine rr_nil ?_
        refine cc_ret ?_
        refine ⟨_, rfl, entW_pu2 (congrArg Value.bool (by simp only [servesN]; grind)) ?_⟩
        refine entW_cls (storeR st d N.store) (bl st 84 [ptr q.1, ptr q.2.1, ptr q.2.2, i64 N.store.boot] * (cacheR q.1 d N.store.cache * (journalR q.2.1 d N.store.jour * (keeperR q.2.2 d N.store.mt N.store.turn N.store.slot * devR d N.store.dev)))) (storeR_mk st d q.1 q.2.1 q.2.2 N.store) ?_
        exact entW_cls (nodeR U n d c X N) (nodeRaw n d c st le tk N.id rg X wv rv N.asked mv lv N.store N.lease N.tok N.waits N.reads M N.reps) (nodeR_mk U n d c st le tk N.id rg X wv rv N.asked mv lv N.store N.lease N.tok N.waits N.reads M N.reps h1 h2 h3) entW_fr)
    · try simp only [decide_eq_true_eq, decide_eq_false_iff_not, beq_iff_eq, beq_eq_false_iff_ne, bne_iff_ne, bne_eq_false_iff_eq, ne_eq, Bool.not_eq_eq_eq_not, Bool.not_true, Bool.not_false] at h38
      try (exfalso; simp at h38; done)
      all_goals (
        refine cc_skip ?_
        refine cc_seq ?_
        refine cc_seq ?_
        refine cc_region ?_
        refine rr_move rfl rfl ?_
        refine rr_nilCheck rfl rfl ?_
        refine r_fa rfl rfl ?_
        refine r_ld rfl (ls0 rfl) rfl rfl ?_
        refine rr_nilCheck rfl rfl ?_
        refine r_fa rfl rfl ?_
        refine r_ld rfl (ls0 rfl) rfl rfl ?_
        refine rr_call rfl rfl rfl rfl (mmetaR_tr q.2.2 d N.store.mt N.store.turn N.store.slot) inferInstance rfl (sd0 rfl) (fun _ => sd0 rfl) rfl (fun v => ?_)
        first | refine RR.pu2 ?_ | refine RR.pu ?_
        rintro rfl
        refine r_fld rfl rfl rfl ?_
        rw [hz]
        refine r_not rfl rfl ?_
        refine rr_nil ?_
        refine cc_condT rfl ?_
        refine cc_seq ?_
        refine cc_region ?_
        refine rr_assign rfl rfl ?_
        refine rr_nil ?_
        refine cc_ret ?_
        refine ⟨_, rfl, entW_pu2 (congrArg Value.bool (by simp only [servesN]; grind)) ?_⟩
        refine entW_cls (storeR st d N.store) (bl st 84 [ptr q.1, ptr q.2.1, ptr q.2.2, i64 N.store.boot] * (cacheR q.1 d N.store.cache * (journalR q.2.1 d N.store.jour * (keeperR q.2.2 d N.store.mt N.store.turn N.store.slot * devR d N.store.dev)))) (storeR_mk st d q.1 q.2.1 q.2.2 N.store) ?_
        exact entW_cls (nodeR U n d c X N) (nodeRaw n d c st le tk N.id rg X wv rv N.asked mv lv N.store N.lease N.tok N.waits N.reads M N.reps) (nodeR_mk U n d c st le tk N.id rg X wv rv N.asked mv lv N.store N.lease N.tok N.waits N.reads M N.reps h1 h2 h3) entW_fr)
  · refine rr_guardN rfl rfl rfl rfl ?_
    refine rr_guardN rfl rfl rfl rfl ?_
    refine rr_guardN rfl rfl rfl rfl ?_
    refine rr_guardN rfl rfl rfl rfl ?_
    refine rr_guardN rfl rfl rfl rfl ?_
    refine rr_guardN rfl rfl rfl rfl ?_
    refine rr_guardN rfl rfl rfl rfl ?_
    refine rr_guardN rfl rfl rfl rfl ?_
    refine rr_guardN rfl rfl rfl rfl ?_
    refine rr_guardN rfl rfl rfl rfl ?_
    refine rr_guardN rfl rfl rfl rfl ?_
    refine rr_guardN rfl rfl rfl rfl ?_
    refine rr_guardN rfl rfl rfl rfl ?_
    refine rr_guardN rfl rfl rfl rfl ?_
    first | refine rr_pick rfl rfl ?_ | refine rr_pickb rfl rfl rfl rfl ?_
    refine rr_nil ?_
    refine cc_cond rfl (fun h38 => ?_) (fun h38 => ?_)
    · try simp only [decide_eq_true_eq, decide_eq_false_iff_not, beq_iff_eq, beq_eq_false_iff_ne, bne_iff_ne, bne_eq_false_iff_eq, ne_eq, Bool.not_eq_eq_eq_not, Bool.not_true, Bool.not_false] at h38
      try (exfalso; simp at h38; done)
      all_goals (
        refine cc_seq ?_
        refine cc_region ?_
        refine rr_assign rfl rfl ?_
        refine rr_nil ?_
        refine cc_ret ?_
        refine ⟨_, rfl, entW_pu2 (congrArg Value.bool (by simp only [servesN]; grind)) ?_⟩
        refine entW_cls (storeR st d N.store) (bl st 84 [ptr q.1, ptr q.2.1, ptr q.2.2, i64 N.store.boot] * (cacheR q.1 d N.store.cache * (journalR q.2.1 d N.store.jour * (keeperR q.2.2 d N.store.mt N.store.turn N.store.slot * devR d N.store.dev)))) (storeR_mk st d q.1 q.2.1 q.2.2 N.store) ?_
        exact entW_cls (nodeR U n d c X N) (nodeRaw n d c st le tk N.id rg X wv rv N.asked mv lv N.store N.lease N.tok N.waits N.reads M N.reps) (nodeR_mk U n d c st le tk N.id rg X wv rv N.asked mv lv N.store N.lease N.tok N.waits N.reads M N.reps h1 h2 h3) entW_fr)
    · try simp only [decide_eq_true_eq, decide_eq_false_iff_not, beq_iff_eq, beq_eq_false_iff_ne, bne_iff_ne, bne_eq_false_iff_eq, ne_eq, Bool.not_eq_eq_eq_not, Bool.not_true, Bool.not_false] at h38
      try (exfalso; simp at h38; done)
      all_goals (
        refine cc_skip ?_
        refine cc_seq ?_
        refine cc_seq ?_
        refine cc_region ?_
        refine rr_move rfl rfl ?_
        refine rr_nilCheck rfl rfl ?_
        refine r_fa rfl rfl ?_
        refine r_ld rfl (ls0 rfl) rfl rfl ?_
        refine rr_nilCheck rfl rfl ?_
        refine r_fa rfl rfl ?_
        refine r_ld rfl (ls0 rfl) rfl rfl ?_
        refine rr_call rfl rfl rfl rfl (mmetaR_tr q.2.2 d N.store.mt N.store.turn N.store.slot) inferInstance rfl (sd0 rfl) (fun _ => sd0 rfl) rfl (fun v => ?_)
        first | refine RR.pu2 ?_ | refine RR.pu ?_
        rintro rfl
        refine r_fld rfl rfl rfl ?_
        rw [hz]
        refine r_not rfl rfl ?_
        refine rr_nil ?_
        refine cc_condT rfl ?_
        refine cc_seq ?_
        refine cc_region ?_
        refine rr_assign rfl rfl ?_
        refine rr_nil ?_
        refine cc_ret ?_
        refine ⟨_, rfl, entW_pu2 (congrArg Value.bool (by simp only [servesN]; grind)) ?_⟩
        refine entW_cls (storeR st d N.store) (bl st 84 [ptr q.1, ptr q.2.1, ptr q.2.2, i64 N.store.boot] * (cacheR q.1 d N.store.cache * (journalR q.2.1 d N.store.jour * (keeperR q.2.2 d N.store.mt N.store.turn N.store.slot * devR d N.store.dev)))) (storeR_mk st d q.1 q.2.1 q.2.2 N.store) ?_
        exact entW_cls (nodeR U n d c X N) (nodeRaw n d c st le tk N.id rg X wv rv N.asked mv lv N.store N.lease N.tok N.waits N.reads M N.reps) (nodeR_mk U n d c st le tk N.id rg X wv rv N.asked mv lv N.store N.lease N.tok N.waits N.reads M N.reps h1 h2 h3) entW_fr)
end Go.Proofs.YtoiakcgdkegncaaGreat

namespace Go.Proofs.YtoiakcgdkegncaaGreat
open Go.RowKit Ice
attribute [local irreducible] CC RR Tr stir mixOf mixPoint ptsOf leaseGood
theorem nring_tr (U : Pool) (n d c : Nat) (X : MovX) (N : NodeS) : Tr Tryz.prog 15 #[ptr n] (nodeR U n d c X N) (fun v => ex fun rg : Value => pu (v = rg ∧ ringOK U rg N.ring) * nodeR U n d c X N) := by
  refine tr_body Tryz.func15 (by kernel_rfl) rfl Tryz.ntmps15 rfl (L := [(0, ptr n)]) (covers_cons rfl covers_nil) rfl ?_
  intro F w0 f
  refine CC.node U n d c X N fun st le tk rg wv rv mv lv M h1 h2 h3 => ?_
  refine cc_seq ?_
  refine cc_region ?_
  refine rr_assign rfl rfl ?_
  refine rr_nil ?_
  refine cc_seq ?_
  refine cc_seq ?_
  refine cc_region ?_
  refine rr_move rfl rfl ?_
  refine r_pnil rfl rfl rfl ?_
  refine rr_nil ?_
  refine cc_condF rfl ?_
  refine cc_skip ?_
  refine cc_seq ?_
  refine cc_region ?_
  refine rr_move rfl rfl ?_
  refine rr_nilCheck rfl rfl ?_
  refine r_fa rfl rfl ?_
  refine r_ld rfl (ls0 rfl) rfl rfl ?_
  refine rr_assign rfl rfl ?_
  refine rr_nil ?_
  refine cc_ret ?_
  exact ⟨_, rfl, entW_ex2 rg (entW_pu2 ⟨rfl, h1⟩ (entW_cls (nodeR U n d c X N) (nodeRaw n d c st le tk N.id rg X wv rv N.asked mv lv N.store N.lease N.tok N.waits N.reads M N.reps) (nodeR_mk U n d c st le tk N.id rg X wv rv N.asked mv lv N.store N.lease N.tok N.waits N.reads M N.reps h1 h2 h3) entW_fr))⟩
theorem nreads_tr (U : Pool) (n d c : Nat) (X : MovX) (N : NodeS) (hl : N.reads.length ≤ 2 ^ 20) : Tr Tryz.prog 8 #[ptr n] (nodeR U n d c X N) (fun v => slR v 9 1 N.reads.length (N.reads.map fun x => str x.w.key) * nodeR U n d c X N) := by
  refine tr_body Tryz.func8 (by kernel_rfl) rfl Tryz.ntmps8 rfl (L := [(0, ptr n)]) (covers_cons rfl covers_nil) rfl ?_
  intro F w0 f
  have hw : ∀ x ∈ N.reads, (readV x).length = 5 := fun _ _ => rfl
  refine CC.node U n d c X N fun st le tk rg wv rv mv lv M h1 h2 h3 => ?_
  refine CC.slv rv fun rb rc e1 _ => ?_
  subst e1
  refine CC.entW ?_ (entW_ent (ent_nil 9 1))
  refine cc_seq ?_
  refine cc_region ?_
  refine rr_assign rfl rfl ?_
  refine rr_nil ?_
  refine cc_seq ?_
  refine cc_seq ?_
  refine cc_region ?_
  refine rr_move rfl rfl ?_
  refine r_pnil rfl rfl rfl ?_
  refine rr_nil ?_
  refine cc_condF rfl ?_
  refine cc_skip ?_
  refine cc_seq ?_
  refine cc_region ?_
  refine rr_assign rfl rfl ?_
  refine rr_nil ?_
  refine cc_seq ?_
  refine cc_seq ?_
  refine cc_region ?_
  refine rr_move rfl rfl ?_
  refine rr_nilCheck rfl rfl ?_
  refine r_fa rfl rfl ?_
  refine r_ld rfl (ls0 rfl) rfl rfl ?_
  refine r_lens rfl rfl ?_
  refine rr_move rfl rfl ?_
  refine rr_nil ?_
  refine cc_block ?_
  refine cc_loopW (α := (Nat × Value)) (fun ⟨j, l⟩ => [(13, i64 j), (12, i64 N.reads.length), (11, .slice rb N.reads.length rc), (3, l)]) (fun ⟨j, l⟩ => pu (j ≤ N.reads.length) * (slR l 9 1 j ((N.reads.take j).map fun x => str x.w.key) * (nodeRaw n d c st le tk N.id rg X wv (.slice rb N.reads.length rc) N.asked mv lv N.store N.lease N.tok N.waits N.reads M N.reps * F))) (fun ⟨j, l⟩ => N.reads.length - j) ((0, .slice none 0 0)) (by ((repeat' (first | exact covers_nil | (refine covers_cons ?_ ?_; focus (first | rfl | (simp [lk, lk?]; done))))) ; (first | done | fail))) (by exact entW_pu (by omega) (by rw [List.take_zero, List.map_nil]; exact entW_fr)) ?_
  rintro ⟨j, l⟩ f
  refine CC.pu fun hj => ?_
  refine cc_seq ?_
  refine cc_region ?_
  refine r_int rfl rfl rfl rfl ?_
  refine rr_nil ?_
  refine cc_seq ?_
  refine cc_cond rfl (fun h14 => ?_) (fun h14 => ?_)
  · try simp only [decide_eq_true_eq, decide_eq_false_iff_not, beq_iff_eq, beq_eq_false_iff_ne, bne_iff_ne, bne_eq_false_iff_eq, ne_eq, Bool.not_eq_eq_eq_not, Bool.not_true, Bool.not_false] at h14
    obtain ⟨x, hx⟩ := lt_get (l := N.reads) (j := j) (by omega)
    refine CC.slb (.slice rb N.reads.length rc) (by omega) fun b cap rest e1 e2 e3 => ?_
    simp only [Value.slice.injEq] at e1
    obtain ⟨rfl, _, rfl⟩ := e1
    refine cc_skip ?_
    refine cc_seq ?_
    refine cc_block ?_
    refine cc_seq ?_
    refine cc_region ?_
    refine r_ix rfl rfl rfl (by omega) ?_
    refine r_lda rfl (ls0 rfl) (vs := readV x) (by have := cut_fm hw hx (j := 0) (k := 5) (vs := readV x) rfl rest; simpa using this) rfl ?_
    refine r_alloc rfl (sd0 rfl) (fun _ => sd0 rfl) (fun p6_2 => ?_)
    refine r_sta (cs' := readV x) rfl rfl rfl rfl rfl (Nat.le_of_ble_eq_true rfl) (sd0 rfl) (sd0 rfl) ?_
    refine rr_nil ?_
    refine cc_region ?_
    refine rr_move rfl rfl ?_
    refine r_fa rfl rfl ?_
    refine r_fa rfl rfl ?_
    refine r_ld rfl (ls0 rfl) rfl rfl ?_
    refine r_bsl rfl rfl rfl rfl rfl rfl (sd0 rfl) (fun _ => sd0 rfl) (fun p7_4 => ?_)
    refine r_app (m := j) (xs := (N.reads.take j).map (fun x => str x.w.key)) (k' := 1) (ys := [str x.w.key]) rfl rfl (.inl (by rw [spv_underlying]; kernel_rfl)) inferInstance rfl (fun w sa => src_of sa (Nat.le_of_ble_eq_true rfl) rfl) (by simp) (by simp [oneC]) (by omega) (by omega) (by omega) rfl (by first | exact sd0 rfl | exact sd1 rfl) (fun _ => by first | exact sd0 rfl | exact sd1 rfl) (fun v => ?_)
    refine rr_assign rfl rfl ?_
    refine rr_nil ?_
    refine cc_region ?_
    refine r_add rfl rfl rfl (by omega) ?_
    refine rr_move rfl rfl ?_
    refine rr_nil ?_
    exact ⟨(j + 1, v), (by show N.reads.length - (j + 1) < N.reads.length - j; omega), by ((repeat' (first | exact covers_nil | (refine covers_cons ?_ ?_; focus (first | rfl | (simp [lk, lk?]; done))))) ; (first | done | fail)), entW_pu (by omega) (by
      rw [List.take_add_one, hx, List.map_append, Option.toList_some, List.map_singleton]
      exact (entW_ent (ent_pick (X := bl b 75 (N.reads.flatMap readV ++ rest)) (slR_blk e2 e3))).trans entW_fr)⟩
  · try simp only [decide_eq_true_eq, decide_eq_false_iff_not, beq_iff_eq, beq_eq_false_iff_ne, bne_iff_ne, bne_eq_false_iff_eq, ne_eq, Bool.not_eq_eq_eq_not, Bool.not_true, Bool.not_false] at h14
    obtain rfl : j = N.reads.length := by omega
    rw [List.take_length]
    refine cc_exit ?_
    refine cc_seq ?_
    refine cc_region ?_
    refine rr_move rfl rfl ?_
    refine rr_assign rfl rfl ?_
    refine rr_nil ?_
    refine cc_ret ?_
    exact ⟨_, rfl, entW_cls (nodeR U n d c X N) (nodeRaw n d c st le tk N.id rg X wv (.slice rb N.reads.length rc) N.asked mv lv N.store N.lease N.tok N.waits N.reads M N.reps) (nodeR_mk U n d c st le tk N.id rg X wv (.slice rb N.reads.length rc) N.asked mv lv N.store N.lease N.tok N.waits N.reads M N.reps h1 h2 h3) entW_fr⟩
def readN (N : NodeS) (w : WhoS) : NodeS := { N with reads := N.reads ++ [⟨w, N.tok.last + 1⟩], tok := giveT N.tok w.key }
def getN (N : NodeS) (w : WhoS) (now : Int) (o : Option ItemS) : NodeS := match getC o now with
  | some x => tellN N w 0 x.val true
  | none => readN N w
theorem nget_node_tr (U : Pool) (n d c m k : Nat) (now : Int) (X : MovX) (N : NodeS) (w : WhoS) (o : Option ItemS) (h : StoreOK N.store m k) (ht : TokOK N.tok k) (hk : k ≤ 2 ^ 26) (hkl : w.key.length ≤ 2 ^ 30)
    (ho : EntIs N.store.cache w.key o) (hb : N.msgs.length ≤ 2 ^ 19) (hb2 : N.reps.length ≤ 2 ^ 19) (hb3 : N.reads.length ≤ 2 ^ 20) :
    Tr Tryz.prog 50 #[ptr n, whoA w] (nodeR U n d c X N * clockR c now) (fun r => pu (r = unit) * (nodeR U n d c X (getN N w now o) * clockR c now)) := by
  refine tr_body Tryz.func50 (by kernel_rfl) rfl Tryz.ntmps50 rfl (L := [(0, ptr n), (1, whoA w)]) (covers_cons rfl (covers_cons rfl covers_nil)) rfl ?_
  intro F w0 f
  refine CC.node U n d c X N fun st le tk rg wv rv mv lv M h1 h2 h3 => ?_
  refine CC.opn (storeR st d N.store) rfl fun q => ?_
  refine CC.slv rv fun rb rc e1 _ => ?_
  subst e1
  refine cc_seq ?_
  refine cc_region ?_
  refine r_boxa rfl rfl (sd0 rfl) (fun _ => sd0 rfl) (fun p0_0 => ?_)
  refine rr_nil ?_
  refine cc_seq ?_
  refine cc_seq ?_
  refine cc_perm (bl n 57 [ptr st, ptr le, i64 N.id, rg, ptr tk, .bool X.knows, X.pv, X.ov, X.iv, wv, .slice rb N.reads.length rc, i64 N.asked, mv, lv] * (bl st 84 [ptr q.1, ptr q.2.1, ptr q.2.2, i64 N.store.boot] * (leaseR le c N.lease * bl p0_0 73 (whoV w)))) [3, 6, 8, 12, 15] [16, 21] (.alt (.go 9 (.go 10 (.go 11 (.go 12 (.go 13 (.go 14 (.go 15 (.go 16 (.alt (.go 0 (.go 1 (.go 2 (.go 3 (.go 4 (.go 5 (.go 6 (.go 7 (.go 8 (.go 17 (.go 21 (.go 18 (.go 19 (.go 22 (.go 20 (.go 23 .nil)))))))))))))))) (.go 21 (.go 0 (.go 1 (.go 2 (.go 3 (.go 4 (.go 5 (.go 6 (.go 7 (.go 8 (.go 17 (.go 18 (.go 19 (.go 22 (.go 20 (.go 23 .nil))))))))))))))))))))))))) (.go 21 (.go 9 (.go 10 (.go 11 (.go 12 (.go 13 (.go 14 (.go 15 (.go 16 (.go 0 (.go 1 (.go 2 (.go 3 (.go 4 (.go 5 (.go 6 (.go 7 (.go 8 (.go 17 (.go 18 (.go 19 (.go 22 (.go 20 (.go 23 .nil))))))))))))))))))))))))) mixed (by decide +kernel) ?_
  refine ro_alt ?_ ?_
  · refine ro_seg (is := [16, 15, 14, 13, 12, 11, 10, 9]) (pl := [3, 6]) (fl := [7]) rfl (by kernel_rfl) ?_
    refine rr_move rfl rfl ?_
    refine rr_nilCheck rfl rfl ?_
    refine r_fa rfl rfl ?_
    refine r_ld rfl (ls1 rfl) rfl rfl ?_
    refine rr_nilCheck rfl rfl ?_
    refine r_fa rfl rfl ?_
    refine r_ld rfl (ls1 rfl) rfl rfl ?_
    refine rr_call rfl rfl rfl rfl (now_tr c now) inferInstance rfl (sd1 rfl) (fun _ => sd1 rfl) rfl (fun v => ?_)
    first | refine RR.pu2 ?_ | refine RR.pu ?_
    rintro rfl
    refine rr_nil ?_
    refine ro_alt ?_ ?_
    · refine ro_seg (is := [23, 20, 22, 19, 18, 21, 17, 8, 7, 6, 5, 4, 3, 2, 1, 0]) (pl := [3, 6, 8]) (fl := [10]) rfl (by kernel_rfl) ?_
      refine rr_move rfl rfl ?_
      refine rr_nilCheck rfl rfl ?_
      refine r_fa rfl rfl ?_
      refine r_ld rfl (ls1 rfl) rfl rfl ?_
      refine rr_nilCheck rfl rfl ?_
      refine r_fa rfl rfl ?_
      refine r_ld rfl (ls1 rfl) rfl rfl ?_
      refine r_fa rfl rfl ?_
      refine r_ld rfl (ls1 rfl) rfl rfl ?_
      refine rr_call rfl rfl rfl rfl (fget_tr q.1 d m k N.store.cache w.key now o h.cache (by omega) hkl ho) inferInstance rfl (sd0 rfl) (fun _ => sd0 rfl) rfl (fun v => ?_)
      first | refine RR.pu2 ?_ | refine RR.pu ?_
      rintro rfl
      refine r_alloc rfl (sd1 rfl) (fun _ => sd1 rfl) (fun p1_21 => ?_)
      refine rr_move rfl rfl ?_
      refine rr_extract rfl rfl rfl ?_
      refine r_sta (cs' := itemV ((getC o now).getD item0)) rfl rfl rfl rfl rfl (Nat.le_of_ble_eq_true rfl) (sd0 rfl) (sd0 rfl) ?_
      refine rr_extract rfl rfl rfl ?_
      refine rr_assign rfl rfl ?_
      refine rr_nil ?_
      refine ro_nil ?_
      refine CC.cls (storeR st d N.store) (bl st 84 [ptr q.1, ptr q.2.1, ptr q.2.2, i64 N.store.boot] * (cacheR q.1 d N.store.cache * (journalR q.2.1 d N.store.jour * (keeperR q.2.2 d N.store.mt N.store.turn N.store.slot * devR d N.store.dev)))) (storeR_mk st d q.1 q.2.1 q.2.2 N.store) ?_
      refine cc_seq ?_
      refine cc_region ?_
      refine rr_move rfl rfl ?_
      refine rr_nil ?_
      refine cc_cond rfl (fun h27 => ?_) (fun h27 => ?_)
      · try simp only [decide_eq_true_eq, decide_eq_false_iff_not, beq_iff_eq, beq_eq_false_iff_ne, bne_iff_ne, bne_eq_false_iff_eq, ne_eq, Bool.not_eq_eq_eq_not, Bool.not_true, Bool.not_false] at h27
        obtain ⟨x, hx⟩ : ∃ x, getC o now = some x := by
          cases hg : getC o now with
          | none => rw [hg] at h27; simp at h27
          | some x => exact ⟨x, rfl⟩
        have hgn : getN N w now o = tellN N w 0 x.val true := by rw [getN, hx]
        rw [hx, Option.getD_some]
        refine CC.cls (nodeR U n d c X N) (nodeRaw n d c st le tk N.id rg X wv (.slice rb N.reads.length rc) N.asked mv lv N.store N.lease N.tok N.waits N.reads M N.reps) (nodeR_mk U n d c st le tk N.id rg X wv (.slice rb N.reads.length rc) N.asked mv lv N.store N.lease N.tok N.waits N.reads M N.reps h1 h2 h3) ?_
        refine cc_seq ?_
        refine cc_region ?_
        refine rr_move rfl rfl ?_
        refine r_lda rfl (ls0 rfl) rfl rfl ?_
        refine r_fa rfl rfl ?_
        refine r_ld rfl (ls0 rfl) rfl rfl ?_
        refine rr_call rfl rfl rfl rfl (ntell_tr U n d c X N w 0 x.val true hb hb2) inferInstance rfl (sd0 rfl) (fun _ => sd0 rfl) rfl (fun v => ?_)
        first | refine RR.pu2 ?_ | refine RR.pu ?_
        rintro rfl
        refine rr_nil ?_
        refine cc_ret ?_
        refine ⟨_, rfl, entW_pu2 rfl ?_⟩
        rw [hgn]
        first
        | exact entW_fr
        | exact entW_cls (nodeR U n d c X (readN N w)) (bl n 57 [ptr st, ptr le, i64 N.id, rg, ptr tk, .bool X.knows, X.pv, X.ov, X.iv, wv, .slice vb2 (N.reads.length + 1) vc2, i64 N.asked, mv, lv] *
            (storeR st d N.store * (leaseR le c N.lease * (tokR tk (giveT N.tok w.key) * (slR wv 100 7 N.waits.length (N.waits.flatMap waitV) * (slR (.slice vb2 (N.reads.length + 1) vc2) 75 5 (N.reads.length + 1) (N.reads.flatMap readV ++ readV ⟨w, N.tok.last + 1⟩) *
            (slR mv 66 21 M.length (M.flatMap msgV2) * slR lv 41 6 N.reps.length (N.reps.flatMap repV)))))))) (by
            have := nodeR_mk U n d c st le tk N.id rg X wv (.slice vb2 (N.reads.length + 1) vc2) N.asked mv lv N.store N.lease (giveT N.tok w.key) N.waits (N.reads ++ [⟨w, N.tok.last + 1⟩]) M N.reps h1 h2 h3
            rw [nodeRaw, List.length_append, List.flatMap_append, List.flatMap_singleton] at this
            exact this) entW_fr
      · try simp only [decide_eq_true_eq, decide_eq_false_iff_not, beq_iff_eq, beq_eq_false_iff_ne, bne_iff_ne, bne_eq_false_iff_eq, ne_eq, Bool.not_eq_eq_eq_not, Bool.not_true, Bool.not_false] at h27
        have hx : getC o now = none := by
          cases hg : getC o now with
          | none => rfl
          | some x => rw [hg] at h27; simp at h27
        have hgn : getN N w now o = readN N w := by rw [getN, hx]
        refine cc_skip ?_
        refine cc_draw (bl n 57 [ptr st, ptr le, i64 N.id, rg, ptr tk, .bool X.knows, X.pv, X.ov, X.iv, wv, .slice rb N.reads.length rc, i64 N.asked, mv, lv] * bl p0_0 73 (whoV w)) [4, 5] [12, 14] mixed (by decide +kernel) ?_
        refine rr_move rfl rfl ?_
        refine rr_move rfl rfl ?_
        refine rr_nilCheck rfl rfl ?_
        refine r_fa rfl rfl ?_
        refine r_ld rfl (ls1 rfl) rfl rfl ?_
        refine r_lda rfl (ls1 rfl) rfl rfl ?_
        refine rr_move rfl rfl ?_
        refine rr_nilCheck rfl rfl ?_
        refine r_fa rfl rfl ?_
        refine r_ld rfl (ls0 rfl) rfl rfl ?_
        refine r_fa rfl rfl ?_
        refine r_ld rfl (ls0 rfl) rfl rfl ?_
        refine rr_call rfl rfl rfl rfl (tgive_tr tk k N.tok w.key ht (by omega)) inferInstance rfl (sd1 rfl) (fun _ => sd1 rfl) rfl (fun v => ?_)
        first | refine RR.pu2 ?_ | refine RR.pu ?_
        rintro rfl
        refine r_bld rfl rfl rfl ?_
        refine r_bsl (cs := readV ⟨w, N.tok.last + 1⟩) rfl rfl rfl rfl rfl rfl (by first | exact sd0 rfl | exact sd1 rfl) (fun _ => by first | exact sd0 rfl | exact sd1 rfl) (fun p4_14 => ?_)
        refine r_app (m := N.reads.length) (xs := N.reads.flatMap readV) (k' := 1) (ys := readV ⟨w, N.tok.last + 1⟩) rfl rfl (.inl (by rw [spv_underlying]; kernel_rfl)) inferInstance rfl (fun w sa => src_of sa (Nat.le_of_ble_eq_true rfl) rfl) (by rfl) (by rfl) (by omega) (by omega) (by omega) rfl (by first | exact sd0 rfl | exact sd1 rfl) (fun _ => by first | exact sd0 rfl | exact sd1 rfl) (fun v => ?_)
        refine RR.slv v fun vb2 vc2 e5 _ => ?_
        subst e5
        refine rr_nilCheck rfl rfl ?_
        refine r_fa rfl rfl ?_
        refine r_st rfl rfl rfl rfl (sd0 rfl) (sd0 rfl) ?_
        refine rr_nil ?_
        refine ⟨_, rfl, entW_pu2 rfl ?_⟩
        rw [hgn]
        first
        | exact entW_fr
        | exact entW_cls (nodeR U n d c X (readN N w)) (bl n 57 [ptr st, ptr le, i64 N.id, rg, ptr tk, .bool X.knows, X.pv, X.ov, X.iv, wv, .slice vb2 (N.reads.length + 1) vc2, i64 N.asked, mv, lv] *
            (storeR st d N.store * (leaseR le c N.lease * (tokR tk (giveT N.tok w.key) * (slR wv 100 7 N.waits.length (N.waits.flatMap waitV) * (slR (.slice vb2 (N.reads.length + 1) vc2) 75 5 (N.reads.length + 1) (N.reads.flatMap readV ++ readV ⟨w, N.tok.last + 1⟩) *
            (slR mv 66 21 M.length (M.flatMap msgV2) * slR lv 41 6 N.reps.length (N.reps.flatMap repV)))))))) (by
            have := nodeR_mk U n d c st le tk N.id rg X wv (.slice vb2 (N.reads.length + 1) vc2) N.asked mv lv N.store N.lease (giveT N.tok w.key) N.waits (N.reads ++ [⟨w, N.tok.last + 1⟩]) M N.reps h1 h2 h3
            rw [nodeRaw, List.length_append, List.flatMap_append, List.flatMap_singleton] at this
            exact this) entW_fr
    · refine ro_seg (is := [23, 20, 22, 19, 18, 17, 8, 7, 6, 5, 4, 3, 2, 1, 0, 21]) (pl := [4, 7, 9]) (fl := [0]) rfl (by kernel_rfl) ?_
      refine r_alloc rfl (sd1 rfl) (fun _ => sd1 rfl) (fun p1_21 => ?_)
      refine rr_move rfl rfl ?_
      refine rr_nilCheck rfl rfl ?_
      refine r_fa rfl rfl ?_
      refine r_ld rfl (ls1 rfl) rfl rfl ?_
      refine rr_nilCheck rfl rfl ?_
      refine r_fa rfl rfl ?_
      refine r_ld rfl (ls1 rfl) rfl rfl ?_
      refine r_fa rfl rfl ?_
      refine r_ld rfl (ls1 rfl) rfl rfl ?_
      refine rr_call rfl rfl rfl rfl (fget_tr q.1 d m k N.store.cache w.key now o h.cache (by omega) hkl ho) inferInstance rfl (sd0 rfl) (fun _ => sd0 rfl) rfl (fun v => ?_)
      first | refine RR.pu2 ?_ | refine RR.pu ?_
      rintro rfl
      refine rr_move rfl rfl ?_
      refine rr_extract rfl rfl rfl ?_
      refine r_sta (cs' := itemV ((getC o now).getD item0)) rfl rfl rfl rfl rfl (Nat.le_of_ble_eq_true rfl) (sd0 rfl) (sd0 rfl) ?_
      refine rr_extract rfl rfl rfl ?_
      refine rr_assign rfl rfl ?_
      refine rr_nil ?_
      refine ro_nil ?_
      refine CC.cls (storeR st d N.store) (bl st 84 [ptr q.1, ptr q.2.1, ptr q.2.2, i64 N.store.boot] * (cacheR q.1 d N.store.cache * (journalR q.2.1 d N.store.jour * (keeperR q.2.2 d N.store.mt N.store.turn N.store.slot * devR d N.store.dev)))) (storeR_mk st d q.1 q.2.1 q.2.2 N.store) ?_
      refine cc_seq ?_
      refine cc_region ?_
      refine rr_move rfl rfl ?_
      refine rr_nil ?_
      refine cc_cond rfl (fun h27 => ?_) (fun h27 => ?_)
      · try simp only [decide_eq_true_eq, decide_eq_false_iff_not, beq_iff_eq, beq_eq_false_iff_ne, bne_iff_ne, bne_eq_false_iff_eq, ne_eq, Bool.not_eq_eq_eq_not, Bool.not_true, Bool.not_false] at h27
        obtain ⟨x, hx⟩ : ∃ x, getC o now = some x := by
          cases hg : getC o now with
          | none => rw [hg] at h27; simp at h27
          | some x => exact ⟨x, rfl⟩
        have hgn : getN N w now o = tellN N w 0 x.val true := by rw [getN, hx]
        rw [hx, Option.getD_some]
        refine CC.cls (nodeR U n d c X N) (nodeRaw n d c st le tk N.id rg X wv (.slice rb N.reads.length rc) N.asked mv lv N.store N.lease N.tok N.waits N.reads M N.reps) (nodeR_mk U n d c st le tk N.id rg X wv (.slice rb N.reads.length rc) N.asked mv lv N.store N.lease N.tok N.waits N.reads M N.reps h1 h2 h3) ?_
        refine cc_seq ?_
        refine cc_region ?_
        refine rr_move rfl rfl ?_
        refine r_lda rfl (ls0 rfl) rfl rfl ?_
        refine r_fa rfl rfl ?_
        refine r_ld rfl (ls0 rfl) rfl rfl ?_
        refine rr_call rfl rfl rfl rfl (ntell_tr U n d c X N w 0 x.val true hb hb2) inferInstance rfl (sd0 rfl) (fun _ => sd0 rfl) rfl (fun v => ?_)
        first | refine RR.pu2 ?_ | refine RR.pu ?_
        rintro rfl
        refine rr_nil ?_
        refine cc_ret ?_
        refine ⟨_, rfl, entW_pu2 rfl ?_⟩
        rw [hgn]
        first
        | exact entW_fr
        | exact entW_cls (nodeR U n d c X (readN N w)) (bl n 57 [ptr st, ptr le, i64 N.id, rg, ptr tk, .bool X.knows, X.pv, X.ov, X.iv, wv, .slice vb2 (N.reads.length + 1) vc2, i64 N.asked, mv, lv] *
            (storeR st d N.store * (leaseR le c N.lease * (tokR tk (giveT N.tok w.key) * (slR wv 100 7 N.waits.length (N.waits.flatMap waitV) * (slR (.slice vb2 (N.reads.length + 1) vc2) 75 5 (N.reads.length + 1) (N.reads.flatMap readV ++ readV ⟨w, N.tok.last + 1⟩) *
            (slR mv 66 21 M.length (M.flatMap msgV2) * slR lv 41 6 N.reps.length (N.reps.flatMap repV)))))))) (by
            have := nodeR_mk U n d c st le tk N.id rg X wv (.slice vb2 (N.reads.length + 1) vc2) N.asked mv lv N.store N.lease (giveT N.tok w.key) N.waits (N.reads ++ [⟨w, N.tok.last + 1⟩]) M N.reps h1 h2 h3
            rw [nodeRaw, List.length_append, List.flatMap_append, List.flatMap_singleton] at this
            exact this) entW_fr
      · try simp only [decide_eq_true_eq, decide_eq_false_iff_not, beq_iff_eq, beq_eq_false_iff_ne, bne_iff_ne, bne_eq_false_iff_eq, ne_eq, Bool.not_eq_eq_eq_not, Bool.not_true, Bool.not_false] at h27
        have hx : getC o now = none := by
          cases hg : getC o now with
          | none => rfl
          | some x => rw [hg] at h27; simp at h27
        have hgn : getN N w now o = readN N w := by rw [getN, hx]
        refine cc_skip ?_
        refine cc_draw (bl n 57 [ptr st, ptr le, i64 N.id, rg, ptr tk, .bool X.knows, X.pv, X.ov, X.iv, wv, .slice rb N.reads.length rc, i64 N.asked, mv, lv] * bl p0_0 73 (whoV w)) [4, 5] [12, 14] mixed (by decide +kernel) ?_
        refine rr_move rfl rfl ?_
        refine rr_move rfl rfl ?_
        refine rr_nilCheck rfl rfl ?_
        refine r_fa rfl rfl ?_
        refine r_ld rfl (ls1 rfl) rfl rfl ?_
        refine r_lda rfl (ls1 rfl) rfl rfl ?_
        refine rr_move rfl rfl ?_
        refine rr_nilCheck rfl rfl ?_
        refine r_fa rfl rfl ?_
        refine r_ld rfl (ls0 rfl) rfl rfl ?_
        refine r_fa rfl rfl ?_
        refine r_ld rfl (ls0 rfl) rfl rfl ?_
        refine rr_call rfl rfl rfl rfl (tgive_tr tk k N.tok w.key ht (by omega)) inferInstance rfl (sd1 rfl) (fun _ => sd1 rfl) rfl (fun v => ?_)
        first | refine RR.pu2 ?_ | refine RR.pu ?_
        rintro rfl
        refine r_bld rfl rfl rfl ?_
        refine r_bsl (cs := readV ⟨w, N.tok.last + 1⟩) rfl rfl rfl rfl rfl rfl (by first | exact sd0 rfl | exact sd1 rfl) (fun _ => by first | exact sd0 rfl | exact sd1 rfl) (fun p4_14 => ?_)
        refine r_app (m := N.reads.length) (xs := N.reads.flatMap readV) (k' := 1) (ys := readV ⟨w, N.tok.last + 1⟩) rfl rfl (.inl (by rw [spv_underlying]; kernel_rfl)) inferInstance rfl (fun w sa => src_of sa (Nat.le_of_ble_eq_true rfl) rfl) (by rfl) (by rfl) (by omega) (by omega) (by omega) rfl (by first | exact sd0 rfl | exact sd1 rfl) (fun _ => by first | exact sd0 rfl | exact sd1 rfl) (fun v => ?_)
        refine RR.slv v fun vb2 vc2 e5 _ => ?_
        subst e5
        refine rr_nilCheck rfl rfl ?_
        refine r_fa rfl rfl ?_
        refine r_st rfl rfl rfl rfl (sd0 rfl) (sd0 rfl) ?_
        refine rr_nil ?_
        refine ⟨_, rfl, entW_pu2 rfl ?_⟩
        rw [hgn]
        first
        | exact entW_fr
        | exact entW_cls (nodeR U n d c X (readN N w)) (bl n 57 [ptr st, ptr le, i64 N.id, rg, ptr tk, .bool X.knows, X.pv, X.ov, X.iv, wv, .slice vb2 (N.reads.length + 1) vc2, i64 N.asked, mv, lv] *
            (storeR st d N.store * (leaseR le c N.lease * (tokR tk (giveT N.tok w.key) * (slR wv 100 7 N.waits.length (N.waits.flatMap waitV) * (slR (.slice vb2 (N.reads.length + 1) vc2) 75 5 (N.reads.length + 1) (N.reads.flatMap readV ++ readV ⟨w, N.tok.last + 1⟩) *
            (slR mv 66 21 M.length (M.flatMap msgV2) * slR lv 41 6 N.reps.length (N.reps.flatMap repV)))))))) (by
            have := nodeR_mk U n d c st le tk N.id rg X wv (.slice vb2 (N.reads.length + 1) vc2) N.asked mv lv N.store N.lease (giveT N.tok w.key) N.waits (N.reads ++ [⟨w, N.tok.last + 1⟩]) M N.reps h1 h2 h3
            rw [nodeRaw, List.length_append, List.flatMap_append, List.flatMap_singleton] at this
            exact this) entW_fr
  · refine ro_seg (is := [23, 20, 22, 19, 18, 17, 8, 7, 6, 5, 4, 3, 2, 1, 0, 16, 15, 14, 13, 12, 11, 10, 9, 21]) (pl := [4, 7, 12, 15, 17]) (fl := [0, 8]) rfl (by kernel_rfl) ?_
    refine r_alloc rfl (sd1 rfl) (fun _ => sd1 rfl) (fun p1_21 => ?_)
    refine rr_move rfl rfl ?_
    refine rr_nilCheck rfl rfl ?_
    refine r_fa rfl rfl ?_
    refine r_ld rfl (ls1 rfl) rfl rfl ?_
    refine rr_nilCheck rfl rfl ?_
    refine r_fa rfl rfl ?_
    refine r_ld rfl (ls1 rfl) rfl rfl ?_
    refine rr_call rfl rfl rfl rfl (now_tr c now) inferInstance rfl (sd1 rfl) (fun _ => sd1 rfl) rfl (fun v => ?_)
    first | refine RR.pu2 ?_ | refine RR.pu ?_
    rintro rfl
    refine rr_move rfl rfl ?_
    refine rr_nilCheck rfl rfl ?_
    refine r_fa rfl rfl ?_
    refine r_ld rfl (ls1 rfl) rfl rfl ?_
    refine rr_nilCheck rfl rfl ?_
    refine r_fa rfl rfl ?_
    refine r_ld rfl (ls1 rfl) rfl rfl ?_
    refine r_fa rfl rfl ?_
    refine r_ld rfl (ls1 rfl) rfl rfl ?_
    refine rr_call rfl rfl rfl rfl (fget_tr q.1 d m k N.store.cache w.key now o h.cache (by omega) hkl ho) inferInstance rfl (sd0 rfl) (fun _ => sd0 rfl) rfl (fun v => ?_)
    first | refine RR.pu2 ?_ | refine RR.pu ?_
    rintro rfl
    refine rr_move rfl rfl ?_
    refine rr_extract rfl rfl rfl ?_
    refine r_sta (cs' := itemV ((getC o now).getD item0)) rfl rfl rfl rfl rfl (Nat.le_of_ble_eq_true rfl) (sd0 rfl) (sd0 rfl) ?_
    refine rr_extract rfl rfl rfl ?_
    refine rr_assign rfl rfl ?_
    refine rr_nil ?_
    refine ro_nil ?_
    refine CC.cls (storeR st d N.store) (bl st 84 [ptr q.1, ptr q.2.1, ptr q.2.2, i64 N.store.boot] * (cacheR q.1 d N.store.cache * (journalR q.2.1 d N.store.jour * (keeperR q.2.2 d N.store.mt N.store.turn N.store.slot * devR d N.store.dev)))) (storeR_mk st d q.1 q.2.1 q.2.2 N.store) ?_
    refine cc_seq ?_
    refine cc_region ?_
    refine rr_move rfl rfl ?_
    refine rr_nil ?_
    refine cc_cond rfl (fun h27 => ?_) (fun h27 => ?_)
    · try simp only [decide_eq_true_eq, decide_eq_false_iff_not, beq_iff_eq, beq_eq_false_iff_ne, bne_iff_ne, bne_eq_false_iff_eq, ne_eq, Bool.not_eq_eq_eq_not, Bool.not_true, Bool.not_false] at h27
      obtain ⟨x, hx⟩ : ∃ x, getC o now = some x := by
        cases hg : getC o now with
        | none => rw [hg] at h27; simp at h27
        | some x => exact ⟨x, rfl⟩
      have hgn : getN N w now o = tellN N w 0 x.val true := by rw [getN, hx]
      rw [hx, Option.getD_some]
      refine CC.cls (nodeR U n d c X N) (nodeRaw n d c st le tk N.id rg X wv (.slice rb N.reads.length rc) N.asked mv lv N.store N.lease N.tok N.waits N.reads M N.reps) (nodeR_mk U n d c st le tk N.id rg X wv (.slice rb N.reads.length rc) N.asked mv lv N.store N.lease N.tok N.waits N.reads M N.reps h1 h2 h3) ?_
      refine cc_seq ?_
      refine cc_region ?_
      refine rr_move rfl rfl ?_
      refine r_lda rfl (ls0 rfl) rfl rfl ?_
      refine r_fa rfl rfl ?_
      refine r_ld rfl (ls0 rfl) rfl rfl ?_
      refine rr_call rfl rfl rfl rfl (ntell_tr U n d c X N w 0 x.val true hb hb2) inferInstance rfl (sd0 rfl) (fun _ => sd0 rfl) rfl (fun v => ?_)
      first | refine RR.pu2 ?_ | refine RR.pu ?_
      rintro rfl
      refine rr_nil ?_
      refine cc_ret ?_
      refine ⟨_, rfl, entW_pu2 rfl ?_⟩
      rw [hgn]
      first
      | exact entW_fr
      | exact entW_cls (nodeR U n d c X (readN N w)) (bl n 57 [ptr st, ptr le, i64 N.id, rg, ptr tk, .bool X.knows, X.pv, X.ov, X.iv, wv, .slice vb2 (N.reads.length + 1) vc2, i64 N.asked, mv, lv] *
          (storeR st d N.store * (leaseR le c N.lease * (tokR tk (giveT N.tok w.key) * (slR wv 100 7 N.waits.length (N.waits.flatMap waitV) * (slR (.slice vb2 (N.reads.length + 1) vc2) 75 5 (N.reads.length + 1) (N.reads.flatMap readV ++ readV ⟨w, N.tok.last + 1⟩) *
          (slR mv 66 21 M.length (M.flatMap msgV2) * slR lv 41 6 N.reps.length (N.reps.flatMap repV)))))))) (by
          have := nodeR_mk U n d c st le tk N.id rg X wv (.slice vb2 (N.reads.length + 1) vc2) N.asked mv lv N.store N.lease (giveT N.tok w.key) N.waits (N.reads ++ [⟨w, N.tok.last + 1⟩]) M N.reps h1 h2 h3
          rw [nodeRaw, List.length_append, List.flatMap_append, List.flatMap_singleton] at this
          exact this) entW_fr
    · try simp only [decide_eq_true_eq, decide_eq_false_iff_not, beq_iff_eq, beq_eq_false_iff_ne, bne_iff_ne, bne_eq_false_iff_eq, ne_eq, Bool.not_eq_eq_eq_not, Bool.not_true, Bool.not_false] at h27
      have hx : getC o now = none := by
        cases hg : getC o now with
        | none => rfl
        | some x => rw [hg] at h27; simp at h27
      have hgn : getN N w now o = readN N w := by rw [getN, hx]
      refine cc_skip ?_
      refine cc_draw (bl n 57 [ptr st, ptr le, i64 N.id, rg, ptr tk, .bool X.knows, X.pv, X.ov, X.iv, wv, .slice rb N.reads.length rc, i64 N.asked, mv, lv] * bl p0_0 73 (whoV w)) [4, 5] [12, 14] mixed (by decide +kernel) ?_
      refine rr_move rfl rfl ?_
      refine rr_move rfl rfl ?_
      refine rr_nilCheck rfl rfl ?_
      refine r_fa rfl rfl ?_
      refine r_ld rfl (ls1 rfl) rfl rfl ?_
      refine r_lda rfl (ls1 rfl) rfl rfl ?_
      refine rr_move rfl rfl ?_
      refine rr_nilCheck rfl rfl ?_
      refine r_fa rfl rfl ?_
      refine r_ld rfl (ls0 rfl) rfl rfl ?_
      refine r_fa rfl rfl ?_
      refine r_ld rfl (ls0 rfl) rfl rfl ?_
      refine rr_call rfl rfl rfl rfl (tgive_tr tk k N.tok w.key ht (by omega)) inferInstance rfl (sd1 rfl) (fun _ => sd1 rfl) rfl (fun v => ?_)
      first | refine RR.pu2 ?_ | refine RR.pu ?_
      rintro rfl
      refine r_bld rfl rfl rfl ?_
      refine r_bsl (cs := readV ⟨w, N.tok.last + 1⟩) rfl rfl rfl rfl rfl rfl (by first | exact sd0 rfl | exact sd1 rfl) (fun _ => by first | exact sd0 rfl | exact sd1 rfl) (fun p4_14 => ?_)
      refine r_app (m := N.reads.length) (xs := N.reads.flatMap readV) (k' := 1) (ys := readV ⟨w, N.tok.last + 1⟩) rfl rfl (.inl (by rw [spv_underlying]; kernel_rfl)) inferInstance rfl (fun w sa => src_of sa (Nat.le_of_ble_eq_true rfl) rfl) (by rfl) (by rfl) (by omega) (by omega) (by omega) rfl (by first | exact sd0 rfl | exact sd1 rfl) (fun _ => by first | exact sd0 rfl | exact sd1 rfl) (fun v => ?_)
      refine RR.slv v fun vb2 vc2 e5 _ => ?_
      subst e5
      refine rr_nilCheck rfl rfl ?_
      refine r_fa rfl rfl ?_
      refine r_st rfl rfl rfl rfl (sd0 rfl) (sd0 rfl) ?_
      refine rr_nil ?_
      refine ⟨_, rfl, entW_pu2 rfl ?_⟩
      rw [hgn]
      first
      | exact entW_fr
      | exact entW_cls (nodeR U n d c X (readN N w)) (bl n 57 [ptr st, ptr le, i64 N.id, rg, ptr tk, .bool X.knows, X.pv, X.ov, X.iv, wv, .slice vb2 (N.reads.length + 1) vc2, i64 N.asked, mv, lv] *
          (storeR st d N.store * (leaseR le c N.lease * (tokR tk (giveT N.tok w.key) * (slR wv 100 7 N.waits.length (N.waits.flatMap waitV) * (slR (.slice vb2 (N.reads.length + 1) vc2) 75 5 (N.reads.length + 1) (N.reads.flatMap readV ++ readV ⟨w, N.tok.last + 1⟩) *
          (slR mv 66 21 M.length (M.flatMap msgV2) * slR lv 41 6 N.reps.length (N.reps.flatMap repV)))))))) (by
          have := nodeR_mk U n d c st le tk N.id rg X wv (.slice vb2 (N.reads.length + 1) vc2) N.asked mv lv N.store N.lease (giveT N.tok w.key) N.waits (N.reads ++ [⟨w, N.tok.last + 1⟩]) M N.reps h1 h2 h3
          rw [nodeRaw, List.length_append, List.flatMap_append, List.flatMap_singleton] at this
          exact this) entW_fr
end Go.Proofs.YtoiakcgdkegncaaGreat

namespace Ice
open Go Go.RowKit
section
variable {P : Program} {n : Nat} {w0 : World} {f : Nat → Value} {l : Env} {A : SL}
variable {ops : Array Oper} {J : SL} {K : Pos} {pl fl : List Nat} {k : Nat} {r : List Oper} {d : Nat} {ty : TypeId} {ps : String} {af : Array Edge}
theorem fm_take {α : Type} {g : α → List Value} {w : Nat} {l : List α} (hw : ∀ x ∈ l, (g x).length = w) {i : Nat} (hi : i ≤ l.length) : (l.flatMap g).take (i * w) = (l.take i).flatMap g := by
  have h : l.flatMap g = (l.take i).flatMap g ++ (l.drop i).flatMap g := by rw [← List.flatMap_append, List.take_append_drop]
  have hl : ((l.take i).flatMap g).length = i * w := by
    rw [fm_len (w := w) (fun y hy => hw y (List.mem_of_mem_take hy)), List.length_take, Nat.min_eq_left hi]
  rw [h, ← hl, List.take_left' rfl]
theorem fm_drop {α : Type} {g : α → List Value} {w : Nat} {l : List α} (hw : ∀ x ∈ l, (g x).length = w) {i : Nat} (hi : i ≤ l.length) : (l.flatMap g).drop (i * w) = (l.drop i).flatMap g := by
  have h : l.flatMap g = (l.take i).flatMap g ++ (l.drop i).flatMap g := by rw [← List.flatMap_append, List.take_append_drop]
  have hl : ((l.take i).flatMap g).length = i * w := by
    rw [fm_len (w := w) (fun y hy => hw y (List.mem_of_mem_take hy)), List.length_take, Nat.min_eq_left hi]
  rw [h, ← hl, List.drop_left' rfl]
/-- s[i:j:k] -/
theorem r_sls3 {T E s : Nat} {x xl xh xm : Operand} {b o len cap lo hi mx : Nat} {q1 q2 q3 : IntKind} [t : TE P T E s] (hx : ev? l x = some (.slice (some ⟨b, o, none⟩) len cap))
    (hl : ev? l xl = some (.int q1 (lo : Int))) (hh : ev? l xh = some (.int q2 (hi : Int))) (hm : ev? l xm = some (.int q3 (mx : Int))) (hd : Nat.blt d n = true) (h1 : lo ≤ hi) (h2 : hi ≤ mx) (h3 : mx ≤ cap)
    (h : RR P n w0 ops J K pl fl (k + 1) r f ((d, .slice (if mx = lo then some ⟨b, o, none⟩ else some ⟨b, o + lo * s, none⟩) (hi - lo) (mx - lo)) :: l) A) :
    RR P n w0 ops J K pl fl k (⟨some d, .slice T x (some xl) (some xh) (some xm), ty, ps, af, none⟩ :: r) f l A := by
  refine rr_pure rfl ?_ hd h
  have e1 := ev?_evf (f := f) hx
  have e2 := ev?_evf (f := f) hl
  have e3 := ev?_evf (f := f) hh
  have e4 := ev?_evf (f := f) hm
  have hu := te_spec t
  have hb : ∀ (q : IntKind) (v m : Nat) (c : BoundsCode), v ≤ m → spv P (Instr.sliceBound (.int q (v : Int)) m c) = some v := by
    intro q v m c h
    have h' : (v : Int) ≤ (m : Int) := by omega
    unfold Instr.sliceBound
    rw [spv_bind]
    simp only [asIntOf, spv_pure, Option.bind_some]
    rw [if_pos ⟨by omega, h'⟩]
    rfl
  have hbs : spv P (Instr.sliceBounds true len cap (some (.int q1 (lo : Int))) (some (.int q2 (hi : Int))) (some (.int q3 (mx : Int)))) = some (lo, hi, mx) := by
    simp [Instr.sliceBounds, spv_bind, spv_pure, spv_map, hb _ _ _ _ h3, hb _ _ _ _ h2, hb _ _ _ _ h1]
  simp [pv, execOp, e1, e2, e3, e4, Instr.sliceAt, Instr.slice, spv_bind, spv_underlying, hu.1, hbs, hu.2, spv_sizeOf, spv_pure, spv_map, val?, addr_add]
/-- append where there is room, out of the same row or another one -/
theorem r_appin {T T2 E s m k' b cap : Nat} {x y : Operand} {u : Value} {cs cs' ys : List Value} {R : SL} [t : TU P T (.slice E)] [t2 : TS P E s]
    (hx : ev? l x = some (.slice (some ⟨b, 0, none⟩) m cap)) (hy : ev? l y = some u) (hT2 : spv P (underlying T2) = some (.slice E))
    [p : PickBl A b cs E R] (hsrc : ∀ w, Sat w A → Src P w u s k' ys) (hone : ys.all oneC = true) (hfit : m + k' ≤ cap)
    (hlen : m * s + ys.length ≤ cs.length) (hset : setR cs (m * s) ys = some cs') (hd : Nat.blt d n = true)
    (s1 : SD (memN k fl) A J) (s2 : SD (memN k fl) (bl b E cs' * R) J)
    (h : RR P n w0 ops J K pl fl (k + 1) r f ((d, .slice (some ⟨b, 0, none⟩) (m + k') cap) :: l) (bl b E cs' * R)) :
    RR P n w0 ops J K pl fl k (⟨some d, .call ⟨.builtin .append, #[x, y], #[T, T2]⟩, ty, ps, af, none⟩ :: r) f l A := by
  refine rr_loud rfl s1 hd fun w sa => ?_
  have e1 := ev?_evf (f := f) hx
  have e2 := ev?_evf (f := f) hy
  have hu : ∀ w, (underlying T).run P w = .ok (.slice E) w := fun w => run_of (by rw [spv_underlying, t.h])
  have hu2 : ∀ w, (underlying T2).run P w = .ok (.slice E) w := fun w => run_of hT2
  have hsz : ∀ w, (Go.sizeOf E).run P w = .ok s w := fun w => run_of (by rw [spv_sizeOf, t2.h])
  have hl := (hsrc w sa w rfl).2
  have hc := (hsrc w sa w rfl).1
  have sb := sa.eq p.eq
  have hb0 := sb.blk (.l .o)
  obtain ⟨w', r1, r2, r3⟩ := run_storeCells (P := P) ys w cs (m * s) 0 hb0 (by omega) (fun v hv => List.all_eq_true.1 hone v hv)
  refine ⟨.slice (some ⟨b, 0, none⟩) (m + k') cap, w', _, .inl ?_, r3 _ _ _ sb (by simpa using hset) (.l .o), r2, s2, h⟩
  have : (Builtin.append_ #[T, T2] ty #[.slice (some ⟨b, 0, none⟩) m cap, u]).run P w = .ok (.slice (some ⟨b, 0, none⟩) (m + k') cap) w' := by
    simp [Builtin.append_, run_bind, run_map, run_pure, hu, hu2, hsz, hl, hc, hfit, addr_add, r1]
  simp [execOp, resolve, e1, e2, invoke, builtin, run_bind, run_pure, run_map, this]
end
end Ice

namespace Go.Proofs.YtoiakcgdkegncaaGreat
open Go.RowKit Ice
attribute [local irreducible] CC RR Tr
theorem delRead_tr (b cap i : Nat) (xs : List ReadS) (rest : List Value) (hi : i < xs.length) (hl : xs.length ≤ 2 ^ 30) (hcap : (xs.flatMap readV ++ rest).length = cap * 5) :
    Tr Tryz.prog 20 #[.slice (some ⟨b, 0, none⟩) xs.length cap, i64 i, i64 ((i : Int) + 1)] (bl b 75 (xs.flatMap readV ++ rest)) (fun v => slR v 75 5 (xs.eraseIdx i).length ((xs.eraseIdx i).flatMap readV)) := by
  have hw : ∀ (ys : List ReadS), ∀ x ∈ ys, (readV x).length = 5 := fun _ _ _ => rfl
  have hxl := fm_len (hw xs)
  have hcl : xs.length ≤ cap := by rw [List.length_append, hxl] at hcap; omega
  have he : xs.eraseIdx i = xs.take i ++ xs.drop (i + 1) := List.eraseIdx_eq_take_drop_succ _ _
  have hel : (xs.eraseIdx i).length = xs.length - 1 := by rw [List.length_eraseIdx, if_pos hi]
  rw [show ((i : Int) + 1) = ((i + 1 : Nat) : Int) by omega]
  refine tr_body Tryz.func20 (by kernel_rfl) rfl Tryz.ntmps20 rfl (L := [(0, .slice (some ⟨b, 0, none⟩) xs.length cap), (1, i64 i), (2, i64 ((i + 1 : Nat) : Int))]) (covers_cons rfl (covers_cons rfl (covers_cons rfl covers_nil))) rfl ?_
  intro F w0 f
  have hdl : ((xs.drop (i + 1)).flatMap readV).length = (xs.length - (i + 1)) * 5 := by rw [fm_len (hw _), List.length_drop]
  have htl : ((xs.take i).flatMap readV).length = i * 5 := by rw [fm_len (hw _), List.length_take, Nat.min_eq_left (by omega)]
  have hset : setR (xs.flatMap readV ++ rest) (i * 5) ((xs.drop (i + 1)).flatMap readV) = some ((xs.eraseIdx i).flatMap readV ++ ((xs.drop (xs.length - 1)).flatMap readV ++ rest)) := by
    rw [setR_eq (by rw [hdl, List.length_append, hxl]; omega), hdl]
    congr 1
    rw [List.take_append_of_le_length (by rw [hxl]; omega), fm_take (hw xs) (by omega), List.drop_append_of_le_length (by rw [hxl]; omega), he, List.flatMap_append,
      show i * 5 + (xs.length - (i + 1)) * 5 = (xs.length - 1) * 5 by omega, fm_drop (hw xs) (by omega)]
  have ht1 : ((xs.drop (xs.length - 1)).flatMap readV).length = 5 := by rw [fm_len (hw _), List.length_drop]; omega
  have hone : ((xs.drop (i + 1)).flatMap readV).all oneC = true := by
    rw [List.all_eq_true]; intro v hv
    obtain ⟨x, _, hx⟩ := List.mem_flatMap.1 hv
    exact List.all_eq_true.1 (show (readV x).all oneC = true from rfl) v hx
  refine cc_seq ?_
  refine cc_region ?_
  refine rr_assign rfl rfl ?_
  refine rr_nil ?_
  refine cc_seq ?_
  refine cc_region ?_
  refine rr_move rfl rfl ?_
  refine rr_move rfl rfl ?_
  refine rr_move rfl rfl ?_
  refine rr_move rfl rfl ?_
  refine r_lens rfl rfl ?_
  refine r_sls3 (lo := i) (hi := i + 1) (mx := xs.length) rfl rfl rfl rfl rfl (by omega) (by omega) (by omega) ?_
  refine rr_nil ?_
  refine cc_seq ?_
  refine cc_seq ?_
  refine cc_region ?_
  refine rr_move rfl rfl ?_
  refine rr_move rfl rfl ?_
  refine r_int rfl rfl rfl rfl ?_
  refine rr_nil ?_
  refine cc_condFp rfl (by simp; omega) ?_
  refine cc_skip ?_
  refine cc_seq ?_
  refine cc_region ?_
  refine rr_move rfl rfl ?_
  refine r_lens rfl rfl ?_
  refine rr_assign rfl rfl ?_
  refine rr_nil ?_
  refine cc_seq ?_
  refine cc_draw (1) [] [] mixed (by decide +kernel) ?_
  refine rr_move rfl rfl ?_
  refine rr_move rfl rfl ?_
  refine r_sls (lo := 0) (hi := i) rfl rfl ⟨_, rfl⟩ rfl (by omega) (by omega) (by omega) ?_
  rw [show (if cap = 0 then (some ⟨b, 0, none⟩ : Option Addr) else some ⟨b, 0 + 0 * 5, none⟩) = some ⟨b, 0, none⟩ by split <;> simp, Nat.sub_zero, Nat.sub_zero]
  refine rr_move rfl rfl ?_
  refine rr_move rfl rfl ?_
  refine r_sls (lo := i + 1) (hi := xs.length) rfl ⟨_, rfl⟩ rfl rfl (by omega) (by omega) (by omega) ?_
  refine r_appin (k' := xs.length - (i + 1)) (ys := (xs.drop (i + 1)).flatMap readV) rfl rfl (by rw [spv_underlying]; kernel_rfl) (fun w sa => by
    split
    · rename_i hc
      have h0 : xs.length - (i + 1) = 0 := by omega
      rw [h0, show xs.drop (i + 1) = [] from List.drop_of_length_le (by omega)]
      exact src_of sa (by omega) (by simp)
    · refine src_of sa ?_ ?_
      · rw [List.length_append, hxl]; omega
      · rw [Nat.zero_add, List.drop_append_of_le_length (by rw [hxl]; omega), fm_drop (hw xs) (by omega), ← hdl, List.take_left' rfl]) hone (by omega) (by rw [hdl, List.length_append, hxl]; omega) hset rfl (by first | exact sd0 rfl | exact sd1 rfl) (by first | exact sd0 rfl | exact sd1 rfl) ?_
  rw [show i + (xs.length - (i + 1)) = xs.length - 1 by omega]
  refine rr_assign rfl rfl ?_
  refine rr_nil ?_
  refine cc_seq ?_
  refine cc_region ?_
  refine rr_move rfl rfl ?_
  refine rr_move rfl rfl ?_
  refine r_lens rfl rfl ?_
  refine rr_move rfl rfl ?_
  refine r_sls (lo := xs.length - 1) (hi := xs.length) rfl ⟨_, rfl⟩ ⟨_, rfl⟩ rfl (by omega) (by omega) (by omega) ?_
  rw [if_neg (by omega), show xs.length - (xs.length - 1) = 0 + 1 by omega]
  refine r_clr (m := 0) (s := 5) rfl rfl rfl rfl (by rw [List.length_append, List.length_append, fm_len (hw _), ht1, hel]; omega) rfl (fun zz hzz => ?_)
  refine RR.clb b ((xs.eraseIdx i).flatMap readV ++ (zz ++ rest)) (by
    rw [← List.append_assoc]
    exact clr_cells (by rw [fm_len (hw _), hel]; omega) (by rw [ht1])) ?_
  refine rr_nil ?_
  refine cc_seq ?_
  refine cc_region ?_
  refine rr_move rfl rfl ?_
  refine rr_assign rfl rfl ?_
  refine rr_nil ?_
  refine cc_ret ?_
  exact ⟨_, rfl, by rw [hel]; exact (entW_ent (ent_pick (X := bl b 75 ((xs.eraseIdx i).flatMap readV ++ (zz ++ rest))) (slR_blk (cap := cap) (by rw [fm_len (hw _), hel]) (by rw [← hcap, List.length_append, List.length_append, List.length_append, fm_len (hw _), hel, hzz, hxl]; omega)))).trans entW_fr⟩
end Go.Proofs.YtoiakcgdkegncaaGreat

namespace Go.Proofs.YtoiakcgdkegncaaGreat
open Go.RowKit Ice
attribute [local irreducible] CC RR Tr stir mixOf mixPoint ptsOf leaseGood appD putC addC flushD
theorem JourOK.mono {J : JourS} {n k k' : Nat} (h : JourOK J n k) (hk : k ≤ k') : JourOK J n k' :=
  ⟨h.log.mono hk, h.srt, Nat.le_trans h.len hk, fun m hm => ⟨(h.seq m hm).1, by have := (h.seq m hm).2; omega⟩⟩
def putOK (C : CacheS) (x : ItemS) : Prop :=
  ((findI' (addC C (recOf x)).idx x.key).1 < 0 → ¬ (findI' (addC C (recOf x)).idx x.key).2 < 0) ∧ 2 * (addC C (recOf x)).idx.used < (addC C (recOf x)).idx.t.length
def putS (S : StoreS) (x : ItemS) : StoreS := { S with cache := putC S.cache x, dev := flushD (appD S.cache.log S.dev (recOf x)) }
theorem StoreOK.put {S : StoreS} {n k : Nat} (h : StoreOK S n k) {x : ItemS} (hx : itemMay x = true) (hp : putOK S.cache x) : StoreOK (putS S x) n (k + 2) := by
  have h1 := h.cache.add (b := recOf x) (recOf_len hx).2
  refine ⟨?_, ?_, ?_, h.mt, by have := h.turn; simp only [putS]; omega, h.slot⟩
  · simp only [putS, flushD_len, appD_len]; exact h.len
  · simp only [putS]; unfold putC; exact ⟨h1.log, h1.srt, h1.idx.put _ _ hp.1⟩
  · simp only [putS]
    exact h.jour.mono (by omega)
theorem keyOk_len {k : Txt} (h : keyOk k = true) : k.length ≤ 40 := by
  simp only [keyOk, Bool.and_eq_true, decide_eq_true_eq] at h; omega
def hvT (has : Bool) (val : Txt) : Txt := if has then val else []
def readOK (N : NodeS) (id : Int) : Bool := ((useT N.tok id).1.getD ([], false)).2
def readN1 (N : NodeS) (i : Nat) (r : ReadS) : NodeS := { N with reads := N.reads.eraseIdx i, tok := (useT N.tok r.token).2 }
def readI (r : ReadS) (val : Txt) : ItemS := ⟨r.w.key, val, 0, false⟩
def readC (N : NodeS) (now : Int) (r : ReadS) (val : Txt) (has : Bool) : Bool := readOK N r.token && has && decide ((val.length : Int) ≤ 200) && servesN N now r.w.key
def putN (N : NodeS) (x : ItemS) : NodeS := { N with store := putS N.store x }
def readN2 (N : NodeS) (now : Int) (i : Nat) (r : ReadS) (val : Txt) (has : Bool) : NodeS := if readC N now r val has then putN (readN1 N i r) (readI r val) else readN1 N i r
theorem readN2_same (N : NodeS) (now : Int) (i : Nat) (r : ReadS) (val : Txt) (has : Bool) : (readN2 N now i r val has).msgs = N.msgs ∧ (readN2 N now i r val has).reps = N.reps := by
  unfold readN2; split <;> exact ⟨rfl, rfl⟩
abbrev readD (N : NodeS) (now : Int) (i : Nat) (r : ReadS) (val : Txt) (has : Bool) : NodeS := tellN (readN2 N now i r (hvT has val) has) r.w 0 (hvT has val) has
theorem nread_tr (U : Pool) (n d c m k i : Nat) (now : Int) (X : MovX) (N : NodeS) (r : ReadS) (val : Txt) (has : Bool) (hr : N.reads[i]? = some r) (h : StoreOK N.store m k) (hk : k ≤ 2 ^ 26) (hf : ringFit N.ring)
    (hz : N.store.mt.frozen = false) (hkey : keyOk r.w.key = true) (hput : readC N now r (hvT has val) has = true → putOK N.store.cache (readI r (hvT has val))) (hb : N.msgs.length ≤ 2 ^ 19) (hb2 : N.reps.length ≤ 2 ^ 19) (hb3 : N.reads.length ≤ 2 ^ 20) (hvl : val.length ≤ 2 ^ 40) :
    Tr Tryz.prog 9 #[ptr n, i64 i, str val, .bool has] (nodeR U n d c X N * (poolR U * clockR c now))
      (fun v => outR U v (readD N now i r val has).msgs (readD N now i r val has).reps * (nodeR U n d c X (didN (readD N now i r val has)) * (poolR U * clockR c now))) := by
  have hil := get_lt hr
  have hw : ∀ x ∈ N.reads, (readV x).length = 5 := fun _ _ => rfl
  refine tr_bodyR Tryz.func9 (by kernel_rfl) rfl Tryz.ntmps9 rfl (L := [(0, ptr n), (1, i64 i), (2, str val), (3, .bool has)]) (covers_cons rfl (covers_cons rfl (covers_cons rfl (covers_cons rfl covers_nil)))) rfl ?_
  intro F w0 f
  refine CC.node U n d c X N fun st le tk rg wv rv mv lv M h1 h2 h3 => ?_
  refine CC.slb rv (by omega) fun rb rc rrest e1 e2 e3 => ?_
  subst e1
  have hsame := readN2_same N now i r (hvT has val) has
  refine cc_seq ?_
  refine cc_region ?_
  refine r_alloc rfl (sd0 rfl) (fun _ => sd0 rfl) (fun p0_0 => ?_)
  refine rr_nil ?_
  refine cc_seq ?_
  refine cc_seq ?_
  refine cc_region ?_
  refine rr_move rfl rfl ?_
  refine r_pnil rfl rfl rfl ?_
  refine rr_move rfl rfl ?_
  refine rr_guardY rfl rfl rfl ?_
  refine rr_move rfl rfl ?_
  refine rr_guardY rfl rfl rfl ?_
  refine r_int rfl rfl rfl rfl ?_
  rw [show decide ((i : Int) < 0) = false by simp]
  first | refine rr_pick rfl rfl ?_ | refine rr_pickb rfl rfl rfl rfl ?_
  refine rr_move rfl rfl ?_
  refine rr_guardY rfl rfl rfl ?_
  refine rr_move rfl rfl ?_
  refine rr_guardY rfl rfl rfl ?_
  refine rr_move rfl rfl ?_
  refine rr_guardY rfl rfl rfl ?_
  refine rr_nilCheck rfl rfl ?_
  refine rr_guardY rfl rfl rfl ?_
  refine r_fa rfl rfl ?_
  refine rr_guardY rfl rfl rfl ?_
  refine r_ld rfl (ls0 rfl) rfl rfl ?_
  refine rr_guardY rfl rfl rfl ?_
  refine r_lens rfl rfl ?_
  refine rr_guardY rfl rfl rfl ?_
  refine r_int rfl rfl rfl rfl ?_
  first | refine rr_pick rfl rfl ?_ | refine rr_pickb rfl rfl rfl rfl ?_
  refine rr_nil ?_
  refine cc_condFp rfl (by simp; omega) ?_
  refine cc_skip ?_
  refine cc_seq ?_
  refine cc_region ?_
  refine rr_move rfl rfl ?_
  refine rr_nilCheck rfl rfl ?_
  refine r_fa rfl rfl ?_
  refine r_ld rfl (ls0 rfl) rfl rfl ?_
  refine rr_move rfl rfl ?_
  refine r_ix rfl rfl rfl (by omega) ?_
  refine r_lda rfl (ls0 rfl) (vs := readV r) (by have := cut_fm hw hr (j := 0) (k := 5) (vs := readV r) rfl rrest; simpa using this) rfl ?_
  refine r_alloc rfl (sd0 rfl) (fun _ => sd0 rfl) (fun p3_7 => ?_)
  refine r_sta (cs' := readV r) rfl rfl rfl rfl rfl (Nat.le_of_ble_eq_true rfl) (sd0 rfl) (sd0 rfl) ?_
  refine rr_nil ?_
  refine cc_seq ?_
  refine cc_region ?_
  refine rr_move rfl rfl ?_
  refine rr_move rfl rfl ?_
  refine rr_nilCheck rfl rfl ?_
  refine r_fa rfl rfl ?_
  refine r_ld rfl (ls0 rfl) rfl rfl ?_
  refine rr_move rfl rfl ?_
  refine rr_move rfl rfl ?_
  refine r_add rfl rfl rfl (by omega) ?_
  refine rr_call rfl rfl rfl rfl (delRead_tr rb rc i N.reads rrest hil (by omega) e3) inferInstance rfl (sd0 rfl) (fun _ => sd0 rfl) rfl (fun v => ?_)
  refine RR.slv v fun nb nc hn _ => ?_
  subst hn
  refine rr_nilCheck rfl rfl ?_
  refine r_fa rfl rfl ?_
  refine r_st rfl rfl rfl rfl (sd0 rfl) (sd0 rfl) ?_
  refine rr_nil ?_
  refine cc_seq ?_
  refine cc_seq ?_
  refine cc_region ?_
  refine rr_move rfl rfl ?_
  refine r_not rfl rfl ?_
  refine rr_nil ?_
  refine cc_join (α := Unit) (fun _u => [(0, ptr n), (2, str (hvT has val)), (3, .bool has), (8, ptr p0_0), (9, ptr p3_7)]) (fun _u => nodeRaw n d c st le tk N.id rg X wv (.slice nb (N.reads.eraseIdx i).length nc) N.asked mv lv N.store N.lease N.tok N.waits (N.reads.eraseIdx i) M N.reps * (bl p0_0 35 [.slice none 0 0, .slice none 0 0] * (bl p3_7 75 (readV r) * (poolR U * (clockR c now * F))))) ?_ ?_
  · refine cc_cond rfl (fun h47 => ?_) (fun h47 => ?_)
    · try simp only [decide_eq_true_eq, decide_eq_false_iff_not, beq_iff_eq, beq_eq_false_iff_ne, bne_iff_ne, bne_eq_false_iff_eq, ne_eq, Bool.not_eq_eq_eq_not, Bool.not_true, Bool.not_false] at h47
      obtain rfl : has = false := by simpa using h47
      refine cc_region ?_
      refine rr_assign rfl rfl ?_
      refine rr_nil ?_
      exact ⟨(), by ((repeat' (first | exact covers_nil | (refine covers_cons ?_ ?_; focus (first | rfl | (simp [lk, lk?]; done))))) ; (first | done | fail)), entW_fr⟩
    · try simp only [decide_eq_true_eq, decide_eq_false_iff_not, beq_iff_eq, beq_eq_false_iff_ne, bne_iff_ne, bne_eq_false_iff_eq, ne_eq, Bool.not_eq_eq_eq_not, Bool.not_true, Bool.not_false] at h47
      obtain rfl : has = true := by simpa using h47
      refine cc_skip ?_
      exact ⟨(), by ((repeat' (first | exact covers_nil | (refine covers_cons ?_ ?_; focus (first | rfl | (simp [lk, lk?]; done))))) ; (first | done | fail)), entW_fr⟩
  · rintro _u f
    refine cc_seq ?_
    refine cc_seq ?_
    refine cc_draw (bl n 57 [ptr st, ptr le, i64 N.id, rg, ptr tk, .bool X.knows, X.pv, X.ov, X.iv, wv, .slice nb (N.reads.eraseIdx i).length nc, i64 N.asked, mv, lv] * bl p3_7 75 (readV r)) [] [] mixed (by decide +kernel) ?_
    refine rr_move rfl rfl ?_
    refine rr_nilCheck rfl rfl ?_
    refine r_fa rfl rfl ?_
    refine r_ld rfl (ls0 rfl) rfl rfl ?_
    refine r_fa rfl rfl ?_
    refine r_ld rfl (ls0 rfl) rfl rfl ?_
    refine rr_call rfl rfl rfl rfl (tuse_tr tk N.tok r.token) inferInstance rfl (sd0 rfl) (fun _ => sd0 rfl) rfl (fun v => ?_)
    first | refine RR.pu2 ?_ | refine RR.pu ?_
    rintro rfl
    refine rr_move rfl rfl ?_
    refine rr_extract rfl rfl rfl ?_
    refine rr_extract rfl rfl rfl ?_
    refine rr_assign rfl rfl ?_
    refine rr_assign rfl rfl ?_
    refine rr_nil ?_
    refine cc_seq ?_
    refine cc_join (α := Unit) (fun _u => [(73, .bool (readC N now r (hvT has val) has)), (0, ptr n), (2, str (hvT has val)), (3, .bool has), (8, ptr p0_0), (9, ptr p3_7)]) (fun _u => nodeR U n d c X (readN1 N i r) * (bl p0_0 35 [.slice none 0 0, .slice none 0 0] * (bl p3_7 75 (readV r) * (poolR U * (clockR c now * F))))) ?_ ?_
    · refine CC.cls (nodeR U n d c X (readN1 N i r)) (nodeRaw n d c st le tk N.id rg X wv (.slice nb (N.reads.eraseIdx i).length nc) N.asked mv lv N.store N.lease (useT N.tok r.token).2 N.waits (N.reads.eraseIdx i) M N.reps) (nodeR_mk U n d c st le tk N.id rg X wv (.slice nb (N.reads.eraseIdx i).length nc) N.asked mv lv N.store N.lease (useT N.tok r.token).2 N.waits (N.reads.eraseIdx i) M N.reps h1 h2 h3) ?_
      refine cc_region ?_
      refine rr_move rfl rfl ?_
      refine rr_move rfl rfl ?_
      refine rr_guard rfl rfl rfl (fun hg8_1 => ?_) (fun hg8_1 => ?_)
      · refine rr_move rfl rfl ?_
        first | refine rr_pick rfl rfl ?_ | refine rr_pickb rfl rfl rfl rfl ?_
        refine rr_move rfl rfl ?_
        refine rr_guard rfl rfl rfl (fun hg8_4 => ?_) (fun hg8_4 => ?_)
        · refine rr_move rfl rfl ?_
          refine rr_guardY rfl rfl rfl ?_
          first | refine r_lenx rfl rfl ?_ | refine r_lent rfl rfl ?_
          refine rr_guardY rfl rfl rfl ?_
          refine r_int rfl rfl rfl rfl ?_
          first | refine rr_pick rfl rfl ?_ | refine rr_pickb rfl rfl rfl rfl ?_
          refine rr_move rfl rfl ?_
          refine rr_guard rfl rfl rfl (fun hg8_9 => ?_) (fun hg8_9 => ?_)
          · refine rr_move rfl rfl ?_
            refine rr_guardY rfl rfl rfl ?_
            refine r_fa rfl rfl ?_
            refine rr_guardY rfl rfl rfl ?_
            refine r_fa rfl rfl ?_
            refine rr_guardY rfl rfl rfl ?_
            refine r_ld rfl (ls0 rfl) rfl rfl ?_
            refine rr_guardY rfl rfl rfl ?_
            refine rr_call rfl rfl rfl rfl (nserves_tr U n d c now X (readN1 N i r) r.w.key hz hf (by have := keyOk_len hkey; omega)) inferInstance rfl (sd0 rfl) (fun _ => sd0 rfl) rfl (fun v => ?_)
            first | refine RR.pu2 ?_ | refine RR.pu ?_
            rintro rfl
            first | refine rr_pick rfl rfl ?_ | refine rr_pickb rfl rfl rfl rfl ?_
            refine rr_nil ?_
            have hsv : servesN (readN1 N i r) now r.w.key = servesN N now r.w.key := rfl
            exact ⟨(), by (refine covers_cons (congrArg Value.bool ?_) ?_; focus (simp only [readC, readOK]; grind)); ((repeat' (first | exact covers_nil | (refine covers_cons ?_ ?_; focus (first | rfl | (simp [lk, lk?]; done))))) ; (first | done | fail)), entW_fr⟩
          · refine rr_guardN rfl rfl rfl rfl ?_
            refine rr_guardN rfl rfl rfl rfl ?_
            refine rr_guardN rfl rfl rfl rfl ?_
            refine rr_guardN rfl rfl rfl rfl ?_
            first | refine rr_pick rfl rfl ?_ | refine rr_pickb rfl rfl rfl rfl ?_
            refine rr_nil ?_
            have hsv : servesN (readN1 N i r) now r.w.key = servesN N now r.w.key := rfl
            exact ⟨(), by (refine covers_cons (congrArg Value.bool ?_) ?_; focus (simp only [readC, readOK]; grind)); ((repeat' (first | exact covers_nil | (refine covers_cons ?_ ?_; focus (first | rfl | (simp [lk, lk?]; done))))) ; (first | done | fail)), entW_fr⟩
        · refine rr_guardN rfl rfl rfl rfl ?_
          refine rr_guardN rfl rfl rfl rfl ?_
          first | refine rr_pick rfl rfl ?_ | refine rr_pickb rfl rfl rfl rfl ?_
          refine rr_move rfl rfl ?_
          refine rr_guard rfl rfl rfl (fun hg8_9 => ?_) (fun hg8_9 => ?_)
          · refine rr_move rfl rfl ?_
            refine rr_guardY rfl rfl rfl ?_
            refine r_fa rfl rfl ?_
            refine rr_guardY rfl rfl rfl ?_
            refine r_fa rfl rfl ?_
            refine rr_guardY rfl rfl rfl ?_
            refine r_ld rfl (ls0 rfl) rfl rfl ?_
            refine rr_guardY rfl rfl rfl ?_
            refine rr_call rfl rfl rfl rfl (nserves_tr U n d c now X (readN1 N i r) r.w.key hz hf (by have := keyOk_len hkey; omega)) inferInstance rfl (sd0 rfl) (fun _ => sd0 rfl) rfl (fun v => ?_)
            first | refine RR.pu2 ?_ | refine RR.pu ?_
            rintro rfl
            first | refine rr_pick rfl rfl ?_ | refine rr_pickb rfl rfl rfl rfl ?_
            refine rr_nil ?_
            have hsv : servesN (readN1 N i r) now r.w.key = servesN N now r.w.key := rfl
            exact ⟨(), by (refine covers_cons (congrArg Value.bool ?_) ?_; focus (simp only [readC, readOK]; grind)); ((repeat' (first | exact covers_nil | (refine covers_cons ?_ ?_; focus (first | rfl | (simp [lk, lk?]; done))))) ; (first | done | fail)), entW_fr⟩
          · refine rr_guardN rfl rfl rfl rfl ?_
            refine rr_guardN rfl rfl rfl rfl ?_
            refine rr_guardN rfl rfl rfl rfl ?_
            refine rr_guardN rfl rfl rfl rfl ?_
            first | refine rr_pick rfl rfl ?_ | refine rr_pickb rfl rfl rfl rfl ?_
            refine rr_nil ?_
            have hsv : servesN (readN1 N i r) now r.w.key = servesN N now r.w.key := rfl
            exact ⟨(), by (refine covers_cons (congrArg Value.bool ?_) ?_; focus (simp only [readC, readOK]; grind)); ((repeat' (first | exact covers_nil | (refine covers_cons ?_ ?_; focus (first | rfl | (simp [lk, lk?]; done))))) ; (first | done | fail)), entW_fr⟩
      · first | refine rr_pick rfl rfl ?_ | refine rr_pickb rfl rfl rfl rfl ?_
        refine rr_move rfl rfl ?_
        refine rr_guard rfl rfl rfl (fun hg8_4 => ?_) (fun hg8_4 => ?_)
        · refine rr_move rfl rfl ?_
          refine rr_guardY rfl rfl rfl ?_
          first | refine r_lenx rfl rfl ?_ | refine r_lent rfl rfl ?_
          refine rr_guardY rfl rfl rfl ?_
          refine r_int rfl rfl rfl rfl ?_
          first | refine rr_pick rfl rfl ?_ | refine rr_pickb rfl rfl rfl rfl ?_
          refine rr_move rfl rfl ?_
          refine rr_guard rfl rfl rfl (fun hg8_9 => ?_) (fun hg8_9 => ?_)
          · refine rr_move rfl rfl ?_
            refine rr_guardY rfl rfl rfl ?_
            refine r_fa rfl rfl ?_
            refine rr_guardY rfl rfl rfl ?_
            refine r_fa rfl rfl ?_
            refine rr_guardY rfl rfl rfl ?_
            refine r_ld rfl (ls0 rfl) rfl rfl ?_
            refine rr_guardY rfl rfl rfl ?_
            refine rr_call rfl rfl rfl rfl (nserves_tr U n d c now X (readN1 N i r) r.w.key hz hf (by have := keyOk_len hkey; omega)) inferInstance rfl (sd0 rfl) (fun _ => sd0 rfl) rfl (fun v => ?_)
            first | refine RR.pu2 ?_ | refine RR.pu ?_
            rintro rfl
            first | refine rr_pick rfl rfl ?_ | refine rr_pickb rfl rfl rfl rfl ?_
            refine rr_nil ?_
            have hsv : servesN (readN1 N i r) now r.w.key = servesN N now r.w.key := rfl
            exact ⟨(), by (refine covers_cons (congrArg Value.bool ?_) ?_; focus (simp only [readC, readOK]; grind)); ((repeat' (first | exact covers_nil | (refine covers_cons ?_ ?_; focus (first | rfl | (simp [lk, lk?]; done))))) ; (first | done | fail)), entW_fr⟩
          · refine rr_guardN rfl rfl rfl rfl ?_
            refine rr_guardN rfl rfl rfl rfl ?_
            refine rr_guardN rfl rfl rfl rfl ?_
            refine rr_guardN rfl rfl rfl rfl ?_
            first | refine rr_pick rfl rfl ?_ | refine rr_pickb rfl rfl rfl rfl ?_
            refine rr_nil ?_
            have hsv : servesN (readN1 N i r) now r.w.key = servesN N now r.w.key := rfl
            exact ⟨(), by (refine covers_cons (congrArg Value.bool ?_) ?_; focus (simp only [readC, readOK]; grind)); ((repeat' (first | exact covers_nil | (refine covers_cons ?_ ?_; focus (first | rfl | (simp [lk, lk?]; done))))) ; (first | done | fail)), entW_fr⟩
        · refine rr_guardN rfl rfl rfl rfl ?_
          refine rr_guardN rfl rfl rfl rfl ?_
          first | refine rr_pick rfl rfl ?_ | refine rr_pickb rfl rfl rfl rfl ?_
          refine rr_move rfl rfl ?_
          refine rr_guard rfl rfl rfl (fun hg8_9 => ?_) (fun hg8_9 => ?_)
          · refine rr_move rfl rfl ?_
            refine rr_guardY rfl rfl rfl ?_
            refine r_fa rfl rfl ?_
            refine rr_guardY rfl rfl rfl ?_
            refine r_fa rfl rfl ?_
            refine rr_guardY rfl rfl rfl ?_
            refine r_ld rfl (ls0 rfl) rfl rfl ?_
            refine rr_guardY rfl rfl rfl ?_
            refine rr_call rfl rfl rfl rfl (nserves_tr U n d c now X (readN1 N i r) r.w.key hz hf (by have := keyOk_len hkey; omega)) inferInstance rfl (sd0 rfl) (fun _ => sd0 rfl) rfl (fun v => ?_)
            first | refine RR.pu2 ?_ | refine RR.pu ?_
            rintro rfl
            first | refine rr_pick rfl rfl ?_ | refine rr_pickb rfl rfl rfl rfl ?_
            refine rr_nil ?_
            have hsv : servesN (readN1 N i r) now r.w.key = servesN N now r.w.key := rfl
            exact ⟨(), by (refine covers_cons (congrArg Value.bool ?_) ?_; focus (simp only [readC, readOK]; grind)); ((repeat' (first | exact covers_nil | (refine covers_cons ?_ ?_; focus (first | rfl | (simp [lk, lk?]; done))))) ; (first | done | fail)), entW_fr⟩
          · refine rr_guardN rfl rfl rfl rfl ?_
            refine rr_guardN rfl rfl rfl rfl ?_
            refine rr_guardN rfl rfl rfl rfl ?_
            refine rr_guardN rfl rfl rfl rfl ?_
            first | refine rr_pick rfl rfl ?_ | refine rr_pickb rfl rfl rfl rfl ?_
            refine rr_nil ?_
            have hsv : servesN (readN1 N i r) now r.w.key = servesN N now r.w.key := rfl
            exact ⟨(), by (refine covers_cons (congrArg Value.bool ?_) ?_; focus (simp only [readC, readOK]; grind)); ((repeat' (first | exact covers_nil | (refine covers_cons ?_ ?_; focus (first | rfl | (simp [lk, lk?]; done))))) ; (first | done | fail)), entW_fr⟩
    · rintro _u f
      refine cc_cond rfl (fun h73 => ?_) (fun h73 => ?_)
      · try simp only [decide_eq_true_eq, decide_eq_false_iff_not, beq_iff_eq, beq_eq_false_iff_ne, bne_iff_ne, bne_eq_false_iff_eq, ne_eq, Bool.not_eq_eq_eq_not, Bool.not_true, Bool.not_false] at h73
        have hC : readC N now r (hvT has val) has = true := h73
        have hht : has = true := by simp only [readC, Bool.and_eq_true] at hC; exact hC.1.1.2
        have hvv : hvT has val = val := by rw [hht]; rfl
        have hx : itemMay (readI r (hvT has val)) = true := by
          have : decide (((hvT has val).length : Int) ≤ 200) = true := by simp only [readC, Bool.and_eq_true] at hC; exact hC.1.2
          simp at this; simp [itemMay, readI, hkey]; first | exact this | omega | grind
        have hN2 : readN2 N now i r (hvT has val) has = putN (readN1 N i r) (readI r (hvT has val)) := by rw [readN2, if_pos hC]
        have hpt := hput hC
        refine CC.node U n d c X (readN1 N i r) fun st le tk rg wv rv mv lv M h1 h2 h3 => ?_
        refine CC.opn (storeR st d (readN1 N i r).store) rfl fun q => ?_
        refine cc_seq ?_
        refine cc_draw (bl st 84 [ptr q.1, ptr q.2.1, ptr q.2.2, i64 (readN1 N i r).store.boot] * (bl n 57 [ptr st, ptr le, i64 (readN1 N i r).id, rg, ptr tk, .bool X.knows, X.pv, X.ov, X.iv, wv, rv, i64 (readN1 N i r).asked, mv, lv] * bl p3_7 75 (readV r))) [] [] mixed (by decide +kernel) ?_
        refine rr_move rfl rfl ?_
        refine rr_nilCheck rfl rfl ?_
        refine r_fa rfl rfl ?_
        refine r_ld rfl (ls0 rfl) rfl rfl ?_
        refine rr_nilCheck rfl rfl ?_
        refine r_fa rfl rfl ?_
        refine r_ld rfl (ls0 rfl) rfl rfl ?_
        refine r_fa rfl rfl ?_
        refine r_fa rfl rfl ?_
        refine r_ld rfl (ls0 rfl) rfl rfl ?_
        refine rr_move rfl rfl ?_
        refine r_bld rfl rfl rfl ?_
        refine rr_call rfl rfl rfl rfl (fput_tr q.1 d m k (readN1 N i r).store.cache (readN1 N i r).store.dev (readI r (hvT has val)) h.cache (by omega) h.len.symm hx rfl hpt.1 hpt.2) inferInstance rfl (sd0 rfl) (fun _ => sd0 rfl) rfl (fun v => ?_)
        first | refine RR.pu2 ?_ | refine RR.pu ?_
        rintro rfl
        refine r_int rfl rfl rfl rfl ?_
        refine rr_nil ?_
        refine cc_condT rfl ?_
        refine cc_region ?_
        refine rr_move rfl rfl ?_
        refine rr_nilCheck rfl rfl ?_
        refine r_fa rfl rfl ?_
        refine r_ld rfl (ls0 rfl) rfl rfl ?_
        refine rr_nilCheck rfl rfl ?_
        refine r_fa rfl rfl ?_
        refine r_ld rfl (ls0 rfl) rfl rfl ?_
        refine rr_call rfl rfl rfl rfl (fflush_tr q.1 d (putC (readN1 N i r).store.cache (readI r (hvT has val))) (appD (readN1 N i r).store.cache.log (readN1 N i r).store.dev (recOf (readI r (hvT has val))))) inferInstance rfl (sd0 rfl) (fun _ => sd0 rfl) rfl (fun v => ?_)
        first | refine RR.pu2 ?_ | refine RR.pu ?_
        rintro rfl
        refine rr_nil ?_
        refine CC.cls (storeR st d (putS (readN1 N i r).store (readI r (hvT has val)))) (bl st 84 [ptr q.1, ptr q.2.1, ptr q.2.2, i64 (readN1 N i r).store.boot] * (cacheR q.1 d (putC (readN1 N i r).store.cache (readI r (hvT has val))) * (journalR q.2.1 d (readN1 N i r).store.jour * (keeperR q.2.2 d (readN1 N i r).store.mt (readN1 N i r).store.turn (readN1 N i r).store.slot * devR d (flushD (appD (readN1 N i r).store.cache.log (readN1 N i r).store.dev (recOf (readI r (hvT has val))))))))) (storeR_mk st d q.1 q.2.1 q.2.2 (putS (readN1 N i r).store (readI r (hvT has val)))) ?_
        refine CC.cls (nodeR U n d c X (putN (readN1 N i r) (readI r (hvT has val)))) (nodeRaw n d c st le tk (readN1 N i r).id rg X wv rv (readN1 N i r).asked mv lv (putS (readN1 N i r).store (readI r (hvT has val))) (readN1 N i r).lease (readN1 N i r).tok (readN1 N i r).waits (readN1 N i r).reads M (readN1 N i r).reps) (nodeR_mk U n d c st le tk (readN1 N i r).id rg X wv rv (readN1 N i r).asked mv lv (putS (readN1 N i r).store (readI r (hvT has val))) (readN1 N i r).lease (readN1 N i r).tok (readN1 N i r).waits (readN1 N i r).reads M (readN1 N i r).reps h1 h2 h3) ?_
        rw [← hN2]
        refine cc_seq ?_
        refine cc_region ?_
        refine rr_move rfl rfl ?_
        refine r_fa rfl rfl ?_
        refine r_lda rfl (ls0 rfl) rfl rfl ?_
        refine rr_move rfl rfl ?_
        refine rr_move rfl rfl ?_
        refine rr_call rfl rfl rfl rfl (ntell_tr U n d c X (readN2 N now i r (hvT has val) has) r.w 0 (hvT has val) has (by rw [hsame.1]; exact hb) (by rw [hsame.2]; exact hb2)) inferInstance rfl (sd0 rfl) (fun _ => sd0 rfl) rfl (fun v => ?_)
        first | refine RR.pu2 ?_ | refine RR.pu ?_
        rintro rfl
        refine rr_nil ?_
        refine cc_seq ?_
        refine cc_region ?_
        refine rr_move rfl rfl ?_
        refine rr_call rfl rfl rfl rfl (ndid_tr U n d c X (tellN (readN2 N now i r (hvT has val) has) r.w 0 (hvT has val) has)) inferInstance rfl (sd0 rfl) (fun _ => sd0 rfl) rfl (fun v => ?_)
        refine RR.opn (outR U v (tellN (readN2 N now i r (hvT has val) has) r.w 0 (hvT has val) has).msgs (tellN (readN2 N now i r (hvT has val) has) r.w 0 (hvT has val) has).reps) rfl fun q => ?_
        refine RR.pu2 fun hq => ?_
        obtain ⟨rfl, hq1, hq2⟩ := hq
        obtain ⟨qm, ql, qM⟩ := q
        simp only at hq1 hq2 ⊢
        refine RR.slv qm fun qb qc hqm _ => ?_
        subst hqm
        refine RR.slv ql fun rb2 rc2 hql _ => ?_
        subst hql
        refine r_sta rfl rfl rfl rfl rfl (by first | exact Nat.le_of_ble_eq_true rfl | simp) (sd0 rfl) (sd0 rfl) ?_
        refine rr_nil ?_
        refine cc_ret ?_
        refine ⟨_, .agg inferInstance rfl inferInstance rfl .nil, ?_⟩
        exact entW_cls (outR U (.agg #[.slice qb qM.length qc, .slice rb2 (readD N now i r val has).reps.length rc2]) (readD N now i r val has).msgs (readD N now i r val has).reps) (slR (.slice qb qM.length qc) 66 21 qM.length (qM.flatMap msgV2) * slR (.slice rb2 (readD N now i r val has).reps.length rc2) 41 6 (readD N now i r val has).reps.length ((readD N now i r val has).reps.flatMap repV)) (outR_mk U _ _ qM _ _ hq1 hq2) entW_fr
      · try simp only [decide_eq_true_eq, decide_eq_false_iff_not, beq_iff_eq, beq_eq_false_iff_ne, bne_iff_ne, bne_eq_false_iff_eq, ne_eq, Bool.not_eq_eq_eq_not, Bool.not_true, Bool.not_false] at h73
        have hC : readC N now r (hvT has val) has = false := h73
        have hN2 : readN2 N now i r (hvT has val) has = readN1 N i r := by rw [readN2, if_neg (by rw [hC]; simp)]
        rw [← hN2]
        refine cc_skip ?_
        refine cc_seq ?_
        refine cc_region ?_
        refine rr_move rfl rfl ?_
        refine r_fa rfl rfl ?_
        refine r_lda rfl (ls0 rfl) rfl rfl ?_
        refine rr_move rfl rfl ?_
        refine rr_move rfl rfl ?_
        refine rr_call rfl rfl rfl rfl (ntell_tr U n d c X (readN2 N now i r (hvT has val) has) r.w 0 (hvT has val) has (by rw [hsame.1]; exact hb) (by rw [hsame.2]; exact hb2)) inferInstance rfl (sd0 rfl) (fun _ => sd0 rfl) rfl (fun v => ?_)
        first | refine RR.pu2 ?_ | refine RR.pu ?_
        rintro rfl
        refine rr_nil ?_
        refine cc_seq ?_
        refine cc_region ?_
        refine rr_move rfl rfl ?_
        refine rr_call rfl rfl rfl rfl (ndid_tr U n d c X (tellN (readN2 N now i r (hvT has val) has) r.w 0 (hvT has val) has)) inferInstance rfl (sd0 rfl) (fun _ => sd0 rfl) rfl (fun v => ?_)
        refine RR.opn (outR U v (tellN (readN2 N now i r (hvT has val) has) r.w 0 (hvT has val) has).msgs (tellN (readN2 N now i r (hvT has val) has) r.w 0 (hvT has val) has).reps) rfl fun q => ?_
        refine RR.pu2 fun hq => ?_
        obtain ⟨rfl, hq1, hq2⟩ := hq
        obtain ⟨qm, ql, qM⟩ := q
        simp only at hq1 hq2 ⊢
        refine RR.slv qm fun qb qc hqm _ => ?_
        subst hqm
        refine RR.slv ql fun rb2 rc2 hql _ => ?_
        subst hql
        refine r_sta rfl rfl rfl rfl rfl (by first | exact Nat.le_of_ble_eq_true rfl | simp) (sd0 rfl) (sd0 rfl) ?_
        refine rr_nil ?_
        refine cc_ret ?_
        refine ⟨_, .agg inferInstance rfl inferInstance rfl .nil, ?_⟩
        exact entW_cls (outR U (.agg #[.slice qb qM.length qc, .slice rb2 (readD N now i r val has).reps.length rc2]) (readD N now i r val has).msgs (readD N now i r val has).reps) (slR (.slice qb qM.length qc) 66 21 qM.length (qM.flatMap msgV2) * slR (.slice rb2 (readD N now i r val has).reps.length rc2) 41 6 (readD N now i r val has).reps.length ((readD N now i r val has).reps.flatMap repV)) (outR_mk U _ _ qM _ _ hq1 hq2) entW_fr
end Go.Proofs.YtoiakcgdkegncaaGreat

namespace Go.Proofs.YtoiakcgdkegncaaGreat
open Go.RowKit Ice
attribute [local irreducible] CC RR Tr stir mixOf mixPoint ptsOf leaseGood appD putC addC flushD killS killT hasS
/-- Ask, by ask -/
theorem nAsk_tr (U : Pool) (n d c : Nat) (now : Int) (X : MovX) (N N2 : NodeS) (id op : Int) (key : Txt)
    (h : Tr Tryz.prog 18 #[ptr n, whoA ⟨0, id, op, key⟩] (nodeR U n d c X N * (poolR U * clockR c now)) (fun r => pu (r = unit) * (nodeR U n d c X N2 * (poolR U * clockR c now)))) :
    Tr Tryz.prog 7 #[ptr n, i64 id, i64 op, str key] (nodeR U n d c X N * (poolR U * clockR c now)) (fun v => outR U v N2.msgs N2.reps * (nodeR U n d c X (didN N2) * (poolR U * clockR c now))) := by
  refine tr_bodyR Tryz.func7 (by kernel_rfl) rfl Tryz.ntmps7 rfl (L := [(0, ptr n), (1, i64 id), (2, i64 op), (3, str key)]) (covers_cons rfl (covers_cons rfl (covers_cons rfl (covers_cons rfl covers_nil)))) rfl ?_
  intro F w0 f
  refine cc_seq ?_
  refine cc_region ?_
  refine r_alloc rfl (sd0 rfl) (fun _ => sd0 rfl) (fun p0_0 => ?_)
  refine rr_nil ?_
  refine cc_seq ?_
  refine cc_seq ?_
  refine cc_region ?_
  refine rr_move rfl rfl ?_
  refine r_pnil rfl rfl rfl ?_
  refine rr_nil ?_
  refine cc_condF rfl ?_
  refine cc_skip ?_
  refine cc_seq ?_
  refine cc_region ?_
  refine rr_move rfl rfl ?_
  refine rr_move rfl rfl ?_
  refine rr_move rfl rfl ?_
  refine rr_move rfl rfl ?_
  refine r_bld rfl rfl rfl ?_
  refine rr_call rfl rfl rfl rfl (h) inferInstance rfl (sd0 rfl) (fun _ => sd0 rfl) rfl (fun v => ?_)
  first | refine RR.pu2 ?_ | refine RR.pu ?_
  rintro rfl
  refine rr_nil ?_
  refine cc_seq ?_
  refine cc_region ?_
  refine rr_move rfl rfl ?_
  refine rr_call rfl rfl rfl rfl (ndid_tr U n d c X N2) inferInstance rfl (sd0 rfl) (fun _ => sd0 rfl) rfl (fun v => ?_)
  refine RR.opn (outR U v N2.msgs N2.reps) rfl fun q => ?_
  refine RR.pu2 fun hq => ?_
  obtain ⟨rfl, hq1, hq2⟩ := hq
  obtain ⟨qm, ql, qM⟩ := q
  simp only at hq1 hq2 ⊢
  refine RR.slv qm fun qb qc hqm _ => ?_
  subst hqm
  refine RR.slv ql fun rb2 rc2 hql _ => ?_
  subst hql
  refine r_sta rfl rfl rfl rfl rfl (by first | exact Nat.le_of_ble_eq_true rfl | simp) (sd0 rfl) (sd0 rfl) ?_
  refine rr_nil ?_
  refine cc_ret ?_
  refine ⟨_, .agg inferInstance rfl inferInstance rfl .nil, ?_⟩
  exact entW_cls (outR U (.agg #[.slice qb qM.length qc, .slice rb2 N2.reps.length rc2]) N2.msgs N2.reps) (slR (.slice qb qM.length qc) 66 21 qM.length (qM.flatMap msgV2) * slR (.slice rb2 N2.reps.length rc2) 41 6 N2.reps.length (N2.reps.flatMap repV)) (outR_mk U _ _ qM _ _ hq1 hq2) entW_fr
theorem nask_nil_tr (U : Pool) (n d c : Nat) (now : Int) (X : MovX) (N : NodeS) (nd id : Int) (key : Txt) (hr : N.ring = none) (hkey : keyOk key = true) (hb : N.msgs.length ≤ 2 ^ 19) (hb2 : N.reps.length ≤ 2 ^ 19) :
    Tr Tryz.prog 18 #[ptr n, whoA ⟨nd, id, 1, key⟩] (nodeR U n d c X N * (poolR U * clockR c now)) (fun r => pu (r = unit) * (nodeR U n d c X (tellN N ⟨nd, id, 1, key⟩ 6 [] false) * (poolR U * clockR c now))) := by
  refine tr_body Tryz.func18 (by kernel_rfl) rfl Tryz.ntmps18 rfl (L := [(0, ptr n), (1, whoA ⟨nd, id, 1, key⟩)]) (covers_cons rfl (covers_cons rfl covers_nil)) rfl ?_
  intro F w0 f
  have hkl := keyOk_len hkey
  refine CC.node U n d c X N fun st le tk rg wv rv mv lv M h1 h2 h3 => ?_
  obtain rfl : rg = .pointer none := by rw [hr] at h1; exact h1
  refine cc_seq ?_
  refine cc_region ?_
  refine r_boxa rfl rfl (sd0 rfl) (fun _ => sd0 rfl) (fun p0_0 => ?_)
  refine rr_nil ?_
  refine cc_seq ?_
  refine cc_draw (bl n 57 [ptr st, ptr le, i64 N.id, .pointer none, ptr tk, .bool X.knows, X.pv, X.ov, X.iv, wv, rv, i64 N.asked, mv, lv] * bl p0_0 73 (whoV ⟨nd, id, 1, key⟩)) [] [] mixed (by decide +kernel) ?_
  refine rr_move rfl rfl ?_
  refine rr_nilCheck rfl rfl ?_
  refine r_fa rfl rfl ?_
  refine r_ld rfl (ls0 rfl) rfl rfl ?_
  refine r_fa rfl rfl ?_
  refine r_ld rfl (ls0 rfl) rfl rfl ?_
  refine rr_call rfl rfl rfl rfl (of0_tr key (by omega)) inferInstance rfl (sd0 rfl) (fun _ => sd0 rfl) rfl (fun v => ?_)
  first | refine RR.pu2 ?_ | refine RR.pu ?_
  rintro rfl
  refine rr_assign rfl rfl ?_
  refine rr_nil ?_
  refine cc_block ?_
  refine cc_seq ?_
  refine cc_region ?_
  refine r_fa rfl rfl ?_
  refine r_ld rfl (ls0 rfl) rfl rfl ?_
  refine r_int rfl rfl rfl rfl ?_
  refine rr_move rfl rfl ?_
  refine rr_guardN rfl rfl rfl rfl ?_
  refine rr_guardN rfl rfl rfl rfl ?_
  refine rr_guardN rfl rfl rfl rfl ?_
  first | refine rr_pick rfl rfl ?_ | refine rr_pickb rfl rfl rfl rfl ?_
  refine rr_move rfl rfl ?_
  refine rr_guardY rfl rfl rfl ?_
  refine r_fa rfl rfl ?_
  refine rr_guardY rfl rfl rfl ?_
  refine r_ld rfl (ls0 rfl) rfl rfl ?_
  refine rr_guardY rfl rfl rfl ?_
  refine rr_call rfl rfl rfl rfl (key_tr key) inferInstance rfl (sd0 rfl) (fun _ => sd0 rfl) rfl (fun v => ?_)
  first | refine RR.pu2 ?_ | refine RR.pu ?_
  rintro rfl
  refine rr_guardY rfl rfl rfl ?_
  refine r_not rfl rfl ?_
  rw [hkey]
  first | refine rr_pick rfl rfl ?_ | refine rr_pickb rfl rfl rfl rfl ?_
  refine rr_assign rfl rfl ?_
  refine rr_nil ?_
  refine cc_condF rfl ?_
  refine cc_seq ?_
  refine cc_region ?_
  refine rr_move rfl rfl ?_
  refine rr_nilCheck rfl rfl ?_
  refine r_fa rfl rfl ?_
  refine r_ld rfl (ls0 rfl) rfl rfl ?_
  refine r_pnil rfl rfl rfl ?_
  refine rr_assign rfl rfl ?_
  refine rr_nil ?_
  refine cc_condT rfl ?_
  refine CC.cls (nodeR U n d c X N) (nodeRaw n d c st le tk N.id (.pointer none) X wv rv N.asked mv lv N.store N.lease N.tok N.waits N.reads M N.reps) (nodeR_mk U n d c st le tk N.id (.pointer none) X wv rv N.asked mv lv N.store N.lease N.tok N.waits N.reads M N.reps h1 h2 h3) ?_
  refine cc_region ?_
  refine rr_move rfl rfl ?_
  refine r_lda rfl (ls0 rfl) (vs := whoV ⟨nd, id, 1, key⟩) rfl rfl ?_
  refine rr_call rfl rfl rfl rfl (ntell_tr U n d c X N ⟨nd, id, 1, key⟩ 6 [] false hb hb2) inferInstance rfl (sd0 rfl) (fun _ => sd0 rfl) rfl (fun v => ?_)
  first | refine RR.pu2 ?_ | refine RR.pu ?_
  rintro rfl
  refine rr_nil ?_
  exact ⟨_, rfl, entW_pu2 rfl entW_fr⟩
def killN (N : NodeS) (key : Txt) : NodeS := { N with tok := killT N.tok (hasS [key]), store := killS N.store [key] }
theorem nask_kill_tr (U : Pool) (n d c m k : Nat) (now : Int) (X : MovX) (N : NodeS) (nd id : Int) (key : Txt) (x : Int × List Int) (hr : N.ring = some x) (hf : ringFit N.ring) (how : ownerR N.ring key = N.id) (hz : N.store.mt.frozen = false)
    (hsv : servesN N now key = true) (h : StoreOK N.store m k) (ht : TokOK N.tok k) (htl : N.tok.m.length ≤ 2 ^ 40) (hk : k ≤ 2 ^ 25) (hkey : keyOk key = true) (hb : N.msgs.length ≤ 2 ^ 19) (hb2 : N.reps.length ≤ 2 ^ 19) :
    Tr Tryz.prog 18 #[ptr n, whoA ⟨nd, id, 2, key⟩] (nodeR U n d c X N * (poolR U * clockR c now)) (fun r => pu (r = unit) * (nodeR U n d c X (tellN (killN N key) ⟨nd, id, 2, key⟩ 0 [] false) * (poolR U * clockR c now))) := by
  refine tr_body Tryz.func18 (by kernel_rfl) rfl Tryz.ntmps18 rfl (L := [(0, ptr n), (1, whoA ⟨nd, id, 2, key⟩)]) (covers_cons rfl (covers_cons rfl covers_nil)) rfl ?_
  intro F w0 f
  have hkl := keyOk_len hkey
  refine CC.node U n d c X N fun st le tk rg wv rv mv lv M h1 h2 h3 => ?_
  obtain ⟨r, hrg, hri⟩ : ∃ r, rg = ptr r ∧ ringIn U r x.1 x.2 := by rw [hr] at h1; exact h1
  refine cc_seq ?_
  refine cc_region ?_
  refine r_boxa rfl rfl (sd0 rfl) (fun _ => sd0 rfl) (fun p0_0 => ?_)
  refine rr_nil ?_
  refine cc_seq ?_
  refine cc_draw (bl n 57 [ptr st, ptr le, i64 N.id, rg, ptr tk, .bool X.knows, X.pv, X.ov, X.iv, wv, rv, i64 N.asked, mv, lv] * bl p0_0 73 (whoV ⟨nd, id, 2, key⟩)) [] [] mixed (by decide +kernel) ?_
  refine rr_move rfl rfl ?_
  refine rr_nilCheck rfl rfl ?_
  refine r_fa rfl rfl ?_
  refine r_ld rfl (ls0 rfl) rfl rfl ?_
  refine r_fa rfl rfl ?_
  refine r_ld rfl (ls0 rfl) rfl rfl ?_
  refine rr_call rfl rfl rfl rfl (rofO_tr U rg N.ring key h1 hf (by omega)) inferInstance rfl (sd0 rfl) (fun _ => sd0 rfl) rfl (fun v => ?_)
  first | refine RR.pu2 ?_ | refine RR.pu ?_
  rintro rfl
  refine rr_assign rfl rfl ?_
  refine rr_nil ?_
  refine cc_block ?_
  refine cc_seq ?_
  refine cc_region ?_
  refine r_fa rfl rfl ?_
  refine r_ld rfl (ls0 rfl) rfl rfl ?_
  refine r_int rfl rfl rfl rfl ?_
  refine rr_move rfl rfl ?_
  refine rr_guardY rfl rfl rfl ?_
  refine r_fa rfl rfl ?_
  refine rr_guardY rfl rfl rfl ?_
  refine r_ld rfl (ls0 rfl) rfl rfl ?_
  refine rr_guardY rfl rfl rfl ?_
  refine r_int rfl rfl rfl rfl ?_
  first | refine rr_pick rfl rfl ?_ | refine rr_pickb rfl rfl rfl rfl ?_
  refine rr_move rfl rfl ?_
  refine rr_guardY rfl rfl rfl ?_
  refine r_fa rfl rfl ?_
  refine rr_guardY rfl rfl rfl ?_
  refine r_ld rfl (ls0 rfl) rfl rfl ?_
  refine rr_guardY rfl rfl rfl ?_
  refine rr_call rfl rfl rfl rfl (key_tr key) inferInstance rfl (sd0 rfl) (fun _ => sd0 rfl) rfl (fun v => ?_)
  first | refine RR.pu2 ?_ | refine RR.pu ?_
  rintro rfl
  refine rr_guardY rfl rfl rfl ?_
  refine r_not rfl rfl ?_
  rw [hkey]
  first | refine rr_pick rfl rfl ?_ | refine rr_pickb rfl rfl rfl rfl ?_
  refine rr_assign rfl rfl ?_
  refine rr_nil ?_
  refine cc_condF rfl ?_
  refine cc_seq ?_
  refine cc_region ?_
  refine rr_move rfl rfl ?_
  refine rr_nilCheck rfl rfl ?_
  refine r_fa rfl rfl ?_
  refine r_ld rfl (ls0 rfl) rfl rfl ?_
  rw [hrg]
  refine r_pnil rfl rfl rfl ?_
  refine rr_assign rfl rfl ?_
  refine rr_nil ?_
  refine cc_condF rfl ?_
  refine cc_seq ?_
  refine cc_region ?_
  refine rr_move rfl rfl ?_
  rw [how]
  refine rr_move rfl rfl ?_
  refine rr_nilCheck rfl rfl ?_
  refine r_fa rfl rfl ?_
  refine r_ld rfl (ls0 rfl) rfl rfl ?_
  refine r_int rfl rfl rfl rfl ?_
  refine rr_assign rfl rfl ?_
  refine rr_nil ?_
  refine cc_condFp rfl (by simp) ?_
  refine cc_seq ?_
  refine CC.cls (nodeR U n d c X N) (nodeRaw n d c st le tk N.id (ptr r) X wv rv N.asked mv lv N.store N.lease N.tok N.waits N.reads M N.reps) (nodeR_mk U n d c st le tk N.id (ptr r) X wv rv N.asked mv lv N.store N.lease N.tok N.waits N.reads M N.reps (hrg ▸ h1) h2 h3) ?_
  refine cc_region ?_
  refine rr_move rfl rfl ?_
  refine r_fa rfl rfl ?_
  refine r_ld rfl (ls0 rfl) rfl rfl ?_
  refine rr_call rfl rfl rfl rfl (nserves_tr U n d c now X N key hz hf (by omega)) inferInstance rfl (sd0 rfl) (fun _ => sd0 rfl) rfl (fun v => ?_)
  first | refine RR.pu2 ?_ | refine RR.pu ?_
  rintro rfl
  refine r_not rfl rfl ?_
  rw [hsv]
  refine rr_assign rfl rfl ?_
  refine rr_nil ?_
  refine cc_condF rfl ?_
  refine cc_seq ?_
  refine cc_region ?_
  refine r_fa rfl rfl ?_
  refine r_ld rfl (ls0 rfl) rfl rfl ?_
  refine r_int rfl rfl rfl rfl ?_
  refine rr_assign rfl rfl ?_
  refine rr_nil ?_
  refine cc_condT rfl ?_
  refine cc_seq ?_
  refine CC.node U n d c X N fun st le tk rg wv rv mv lv M h1 h2 h3 => ?_
  refine cc_draw (bl n 57 [ptr st, ptr le, i64 N.id, rg, ptr tk, .bool X.knows, X.pv, X.ov, X.iv, wv, rv, i64 N.asked, mv, lv] * bl p0_0 73 (whoV ⟨nd, id, 2, key⟩)) [3] [6] mixed (by decide +kernel) ?_
  refine rr_move rfl rfl ?_
  refine rr_nilCheck rfl rfl ?_
  refine r_fa rfl rfl ?_
  refine r_ld rfl (ls1 rfl) rfl rfl ?_
  refine r_fa rfl rfl ?_
  refine r_ld rfl (ls0 rfl) rfl rfl ?_
  refine r_bsl (cs := [key].map str ++ []) rfl rfl rfl rfl rfl rfl (by first | exact sd0 rfl | exact sd1 rfl) (fun _ => by first | exact sd0 rfl | exact sd1 rfl) (fun p15_6 => ?_)
  refine rr_call rfl rfl rfl rfl (tKill_tr tk k p15_6 1 [] N.tok [key] ht htl (by simp)) inferInstance rfl (sd0 rfl) (fun _ => sd0 rfl) rfl (fun v => ?_)
  refine RR.ex1 fun cc => ?_
  refine RR.pu2 ?_
  rintro rfl
  refine rr_nil ?_
  refine cc_seq ?_
  refine cc_draw (bl n 57 [ptr st, ptr le, i64 N.id, rg, ptr tk, .bool X.knows, X.pv, X.ov, X.iv, wv, rv, i64 N.asked, mv, lv] * bl p0_0 73 (whoV ⟨nd, id, 2, key⟩)) [3] [6] mixed (by decide +kernel) ?_
  refine rr_move rfl rfl ?_
  refine rr_nilCheck rfl rfl ?_
  refine r_fa rfl rfl ?_
  refine r_ld rfl (ls1 rfl) rfl rfl ?_
  refine r_fa rfl rfl ?_
  refine r_ld rfl (ls0 rfl) rfl rfl ?_
  refine r_bsl (cs := [key].map str ++ []) rfl rfl rfl rfl rfl rfl (by first | exact sd0 rfl | exact sd1 rfl) (fun _ => by first | exact sd0 rfl | exact sd1 rfl) (fun p16_6 => ?_)
  refine rr_call rfl rfl rfl rfl (skill_tr st d m k p16_6 1 [] N.store [key] h (by simp; omega) (by simpa using hkey) (by simp)) inferInstance rfl (sd0 rfl) (fun _ => sd0 rfl) rfl (fun v => ?_)
  first | refine RR.pu2 ?_ | refine RR.pu ?_
  rintro rfl
  refine rr_move rfl rfl ?_
  refine rr_extract rfl rfl rfl ?_
  refine rr_extract rfl rfl rfl ?_
  refine rr_assign rfl rfl ?_
  refine rr_assign rfl rfl ?_
  refine rr_nil ?_
  refine CC.cls (nodeR U n d c X (killN N key)) (nodeRaw n d c st le tk N.id rg X wv rv N.asked mv lv (killS N.store [key]) N.lease (killT N.tok (hasS [key])) N.waits N.reads M N.reps) (nodeR_mk U n d c st le tk N.id rg X wv rv N.asked mv lv (killS N.store [key]) N.lease (killT N.tok (hasS [key])) N.waits N.reads M N.reps h1 h2 h3) ?_
  refine cc_region ?_
  refine rr_move rfl rfl ?_
  refine r_lda rfl (ls0 rfl) (vs := whoV ⟨nd, id, 2, key⟩) rfl rfl ?_
  refine rr_move rfl rfl ?_
  refine rr_call rfl rfl rfl rfl (ntell_tr U n d c X (killN N key) ⟨nd, id, 2, key⟩ 0 [] false hb hb2) inferInstance rfl (sd0 rfl) (fun _ => sd0 rfl) rfl (fun v => ?_)
  first | refine RR.pu2 ?_ | refine RR.pu ?_
  rintro rfl
  refine rr_nil ?_
  exact ⟨_, rfl, entW_pu2 rfl entW_fr⟩
theorem nask_get_tr (U : Pool) (n d c m k : Nat) (now : Int) (X : MovX) (N : NodeS) (nd id : Int) (key : Txt) (x : Int × List Int) (o : Option ItemS) (hr : N.ring = some x) (hf : ringFit N.ring) (how : ownerR N.ring key = N.id) (hz : N.store.mt.frozen = false)
    (hsv : servesN N now key = true) (h : StoreOK N.store m k) (ht : TokOK N.tok k) (hk : k ≤ 2 ^ 25) (hkey : keyOk key = true) (ho : EntIs N.store.cache key o) (hb : N.msgs.length ≤ 2 ^ 19) (hb2 : N.reps.length ≤ 2 ^ 19) (hb3 : N.reads.length ≤ 2 ^ 20) :
    Tr Tryz.prog 18 #[ptr n, whoA ⟨nd, id, 1, key⟩] (nodeR U n d c X N * (poolR U * clockR c now)) (fun r => pu (r = unit) * (nodeR U n d c X (getN N ⟨nd, id, 1, key⟩ now o) * (poolR U * clockR c now))) := by
  refine tr_body Tryz.func18 (by kernel_rfl) rfl Tryz.ntmps18 rfl (L := [(0, ptr n), (1, whoA ⟨nd, id, 1, key⟩)]) (covers_cons rfl (covers_cons rfl covers_nil)) rfl ?_
  intro F w0 f
  have hkl := keyOk_len hkey
  refine CC.node U n d c X N fun st le tk rg wv rv mv lv M h1 h2 h3 => ?_
  obtain ⟨r, hrg, hri⟩ : ∃ r, rg = ptr r ∧ ringIn U r x.1 x.2 := by rw [hr] at h1; exact h1
  refine cc_seq ?_
  refine cc_region ?_
  refine r_boxa rfl rfl (sd0 rfl) (fun _ => sd0 rfl) (fun p0_0 => ?_)
  refine rr_nil ?_
  refine cc_seq ?_
  refine cc_draw (bl n 57 [ptr st, ptr le, i64 N.id, rg, ptr tk, .bool X.knows, X.pv, X.ov, X.iv, wv, rv, i64 N.asked, mv, lv] * bl p0_0 73 (whoV ⟨nd, id, 1, key⟩)) [] [] mixed (by decide +kernel) ?_
  refine rr_move rfl rfl ?_
  refine rr_nilCheck rfl rfl ?_
  refine r_fa rfl rfl ?_
  refine r_ld rfl (ls0 rfl) rfl rfl ?_
  refine r_fa rfl rfl ?_
  refine r_ld rfl (ls0 rfl) rfl rfl ?_
  refine rr_call rfl rfl rfl rfl (rofO_tr U rg N.ring key h1 hf (by omega)) inferInstance rfl (sd0 rfl) (fun _ => sd0 rfl) rfl (fun v => ?_)
  first | refine RR.pu2 ?_ | refine RR.pu ?_
  rintro rfl
  refine rr_assign rfl rfl ?_
  refine rr_nil ?_
  refine cc_block ?_
  refine cc_seq ?_
  refine cc_region ?_
  refine r_fa rfl rfl ?_
  refine r_ld rfl (ls0 rfl) rfl rfl ?_
  refine r_int rfl rfl rfl rfl ?_
  refine rr_move rfl rfl ?_
  refine rr_guardN rfl rfl rfl rfl ?_
  refine rr_guardN rfl rfl rfl rfl ?_
  refine rr_guardN rfl rfl rfl rfl ?_
  first | refine rr_pick rfl rfl ?_ | refine rr_pickb rfl rfl rfl rfl ?_
  refine rr_move rfl rfl ?_
  refine rr_guardY rfl rfl rfl ?_
  refine r_fa rfl rfl ?_
  refine rr_guardY rfl rfl rfl ?_
  refine r_ld rfl (ls0 rfl) rfl rfl ?_
  refine rr_guardY rfl rfl rfl ?_
  refine rr_call rfl rfl rfl rfl (key_tr key) inferInstance rfl (sd0 rfl) (fun _ => sd0 rfl) rfl (fun v => ?_)
  first | refine RR.pu2 ?_ | refine RR.pu ?_
  rintro rfl
  refine rr_guardY rfl rfl rfl ?_
  refine r_not rfl rfl ?_
  rw [hkey]
  first | refine rr_pick rfl rfl ?_ | refine rr_pickb rfl rfl rfl rfl ?_
  refine rr_assign rfl rfl ?_
  refine rr_nil ?_
  refine cc_condF rfl ?_
  refine cc_seq ?_
  refine cc_region ?_
  refine rr_move rfl rfl ?_
  refine rr_nilCheck rfl rfl ?_
  refine r_fa rfl rfl ?_
  refine r_ld rfl (ls0 rfl) rfl rfl ?_
  rw [hrg]
  refine r_pnil rfl rfl rfl ?_
  refine rr_assign rfl rfl ?_
  refine rr_nil ?_
  refine cc_condF rfl ?_
  refine cc_seq ?_
  refine cc_region ?_
  refine rr_move rfl rfl ?_
  rw [how]
  refine rr_move rfl rfl ?_
  refine rr_nilCheck rfl rfl ?_
  refine r_fa rfl rfl ?_
  refine r_ld rfl (ls0 rfl) rfl rfl ?_
  refine r_int rfl rfl rfl rfl ?_
  refine rr_assign rfl rfl ?_
  refine rr_nil ?_
  refine cc_condFp rfl (by simp) ?_
  refine cc_seq ?_
  refine CC.cls (nodeR U n d c X N) (nodeRaw n d c st le tk N.id (ptr r) X wv rv N.asked mv lv N.store N.lease N.tok N.waits N.reads M N.reps) (nodeR_mk U n d c st le tk N.id (ptr r) X wv rv N.asked mv lv N.store N.lease N.tok N.waits N.reads M N.reps (hrg ▸ h1) h2 h3) ?_
  refine cc_region ?_
  refine rr_move rfl rfl ?_
  refine r_fa rfl rfl ?_
  refine r_ld rfl (ls0 rfl) rfl rfl ?_
  refine rr_call rfl rfl rfl rfl (nserves_tr U n d c now X N key hz hf (by omega)) inferInstance rfl (sd0 rfl) (fun _ => sd0 rfl) rfl (fun v => ?_)
  first | refine RR.pu2 ?_ | refine RR.pu ?_
  rintro rfl
  refine r_not rfl rfl ?_
  rw [hsv]
  refine rr_assign rfl rfl ?_
  refine rr_nil ?_
  refine cc_condF rfl ?_
  refine cc_seq ?_
  refine cc_region ?_
  refine r_fa rfl rfl ?_
  refine r_ld rfl (ls0 rfl) rfl rfl ?_
  refine r_int rfl rfl rfl rfl ?_
  refine rr_assign rfl rfl ?_
  refine rr_nil ?_
  refine cc_condF rfl ?_
  refine cc_region ?_
  refine rr_move rfl rfl ?_
  refine r_lda rfl (ls0 rfl) (vs := whoV ⟨nd, id, 1, key⟩) rfl rfl ?_
  refine rr_call rfl rfl rfl rfl (nget_node_tr U n d c m k now X N ⟨nd, id, 1, key⟩ o h ht (by omega) (by show key.length ≤ _; omega) ho hb hb2 hb3) inferInstance rfl (sd0 rfl) (fun _ => sd0 rfl) rfl (fun v => ?_)
  first | refine RR.pu2 ?_ | refine RR.pu ?_
  rintro rfl
  refine rr_nil ?_
  exact ⟨_, rfl, entW_pu2 rfl entW_fr⟩
end Go.Proofs.YtoiakcgdkegncaaGreat

namespace Go.Proofs.YtoiakcgdkegncaaGreat
open Go.RowKit Ice
attribute [local irreducible] CC RR Tr stir mixOf mixPoint ptsOf leaseGood appD putC addC flushD killS killT hasS
instance tmOut : TM Tryz.prog 52 3 97 := ⟨by kernel_rfl⟩
theorem onext0_tr : Tr Tryz.prog 30 #[.pointer none] 1 (fun v => pu (v = .slice none 0 0)) := by
  refine tr_body Tryz.func30 (by kernel_rfl) rfl Tryz.ntmps30 rfl (L := [(0, .pointer none)]) (covers_cons rfl covers_nil) rfl ?_
  intro F w0 f
  rw [sl_one_mul]
  refine cc_seq ?_
  refine cc_region ?_
  refine rr_assign rfl rfl ?_
  refine rr_nil ?_
  refine cc_seq ?_
  refine cc_block ?_
  refine cc_seq ?_
  refine cc_region ?_
  refine rr_move rfl rfl ?_
  refine r_pnil rfl rfl rfl ?_
  refine rr_move rfl rfl ?_
  refine rr_guardN rfl rfl rfl rfl ?_
  refine rr_guardN rfl rfl rfl rfl ?_
  first | refine rr_pick rfl rfl ?_ | refine rr_pickb rfl rfl rfl rfl ?_
  refine rr_assign rfl rfl ?_
  refine rr_nil ?_
  refine cc_condT rfl ?_
  refine cc_seq ?_
  refine cc_region ?_
  refine rr_assign rfl rfl ?_
  refine rr_nil ?_
  refine cc_ret ?_
  exact ⟨_, rfl, entW_pu rfl entW_fr⟩
theorem sayN_nil (N : NodeS) : sayN N [] = N := by simp [sayN]
theorem nsay0_tr (U : Pool) (n d c : Nat) (X : MovX) (N : NodeS) (hb : N.msgs.length ≤ 2 ^ 20) : Tr Tryz.prog 27 #[ptr n, .slice none 0 0] (nodeR U n d c X N) (fun r => pu (r = unit) * nodeR U n d c X N) := by
  have := nsay_tr U n d c X N (.slice none 0 0) 1 [] View.nil (fun _ h => by cases h) (by simpa using hb)
  rw [List.map_nil, sayN_nil, sl_mul_one] at this
  exact this
def renewM (N : NodeS) (now : Int) : MsgS := { msg0 with kind := 1, tick := now, epoch := N.store.mt.epoch, seq := N.store.mt.ready }
theorem nbeat_tr (U : Pool) (n d c : Nat) (now : Int) (X : MovX) (N : NodeS) (hX : X.ov = .map none) (hw : N.waits = []) (hb : N.msgs.length ≤ 2 ^ 19) :
    Tr Tryz.prog 12 #[ptr n] (nodeR U n d c X N * clockR c now)
      (fun v => outR U v (sayN N [renewM N now]).msgs (sayN N [renewM N now]).reps * (nodeR U n d c X (didN (sayN N [renewM N now])) * clockR c now)) := by
  refine tr_bodyR Tryz.func12 (by kernel_rfl) rfl Tryz.ntmps12 rfl (L := [(0, ptr n)]) (covers_cons rfl covers_nil) rfl ?_
  intro F w0 f
  have hl2 : (sayN N [renewM N now]).msgs.length ≤ 2 ^ 20 := by simp [sayN]; omega
  refine CC.node U n d c X N fun st le tk rg wv rv mv lv M h1 h2 h3 => ?_
  refine CC.opn (storeR st d N.store) rfl fun q => ?_
  generalize hN2 : sayN N [renewM N now] = N2 at *
  have hw2 : N2.waits = [] := by rw [← hN2]; exact hw
  refine cc_seq ?_
  refine cc_region ?_
  refine r_alloc rfl (sd0 rfl) (fun _ => sd0 rfl) (fun p0_0 => ?_)
  refine rr_nil ?_
  refine cc_seq ?_
  refine cc_seq ?_
  refine cc_region ?_
  refine rr_move rfl rfl ?_
  refine r_pnil rfl rfl rfl ?_
  refine rr_nil ?_
  refine cc_condF rfl ?_
  refine cc_skip ?_
  refine cc_seq ?_
  refine cc_draw (bl n 57 [ptr st, ptr le, i64 N.id, rg, ptr tk, .bool X.knows, X.pv, X.ov, X.iv, wv, rv, i64 N.asked, mv, lv] * bl st 84 [ptr q.1, ptr q.2.1, ptr q.2.2, i64 N.store.boot]) [9, 12, 18, 21] [5, 13] mixed (by decide +kernel) ?_
  refine rr_move rfl rfl ?_
  refine rr_move rfl rfl ?_
  refine rr_nilCheck rfl rfl ?_
  refine r_fa rfl rfl ?_
  refine r_ld rfl (ls0 rfl) rfl rfl ?_
  refine rr_call rfl rfl rfl rfl (lask_tr le c now N.lease) inferInstance rfl (sd1 rfl) (fun _ => sd1 rfl) rfl (fun v => ?_)
  first | refine RR.pu2 ?_ | refine RR.pu ?_
  rintro rfl
  refine rr_move rfl rfl ?_
  refine rr_nilCheck rfl rfl ?_
  refine r_fa rfl rfl ?_
  refine r_ld rfl (ls1 rfl) rfl rfl ?_
  refine rr_nilCheck rfl rfl ?_
  refine r_fa rfl rfl ?_
  refine r_ld rfl (ls1 rfl) rfl rfl ?_
  refine rr_call rfl rfl rfl rfl (mmetaR_tr q.2.2 d N.store.mt N.store.turn N.store.slot) inferInstance rfl (sd1 rfl) (fun _ => sd1 rfl) rfl (fun v => ?_)
  first | refine RR.pu2 ?_ | refine RR.pu ?_
  rintro rfl
  refine r_fld rfl rfl rfl ?_
  refine rr_move rfl rfl ?_
  refine rr_nilCheck rfl rfl ?_
  refine r_fa rfl rfl ?_
  refine r_ld rfl (ls1 rfl) rfl rfl ?_
  refine rr_nilCheck rfl rfl ?_
  refine r_fa rfl rfl ?_
  refine r_ld rfl (ls1 rfl) rfl rfl ?_
  refine rr_call rfl rfl rfl rfl (mmetaR_tr q.2.2 d N.store.mt N.store.turn N.store.slot) inferInstance rfl (sd0 rfl) (fun _ => sd0 rfl) rfl (fun v => ?_)
  first | refine RR.pu2 ?_ | refine RR.pu ?_
  rintro rfl
  refine r_fld rfl rfl rfl ?_
  refine r_bld rfl rfl rfl ?_
  refine r_bsl (cs := msgV2 (renewM N now, msgL0)) rfl rfl rfl rfl rfl rfl (by first | exact sd0 rfl | exact sd1 rfl) (fun _ => by first | exact sd0 rfl | exact sd1 rfl) (fun p3_25 => ?_)
  refine RR.cls (storeR st d N.store) (bl st 84 [ptr q.1, ptr q.2.1, ptr q.2.2, i64 N.store.boot] * (cacheR q.1 d N.store.cache * (journalR q.2.1 d N.store.jour * (keeperR q.2.2 d N.store.mt N.store.turn N.store.slot * devR d N.store.dev)))) (storeR_mk st d q.1 q.2.1 q.2.2 N.store) ?_
  refine RR.cls (nodeR U n d c X N) (nodeRaw n d c st le tk N.id rg X wv rv N.asked mv lv N.store N.lease N.tok N.waits N.reads M N.reps) (nodeR_mk U n d c st le tk N.id rg X wv rv N.asked mv lv N.store N.lease N.tok N.waits N.reads M N.reps h1 h2 h3) ?_
  refine rr_call rfl rfl rfl rfl (nsay1_tr U n d c p3_25 X N (renewM N now) (msgIn0 U _ rfl rfl rfl rfl) hb) inferInstance rfl (sd0 rfl) (fun _ => sd0 rfl) rfl (fun v => ?_)
  first | refine RR.pu2 ?_ | refine RR.pu ?_
  rintro rfl
  refine rr_nil ?_
  rw [hN2]
  refine cc_seq ?_
  refine cc_seq ?_
  refine cc_region ?_
  refine rr_assign rfl rfl ?_
  refine rr_nil ?_
  refine cc_block ?_
  refine cc_loopW (α := Nat) (fun j => [(3, i64 ((j : Int) + 1)), (0, ptr n), (2, ptr p0_0)]) (fun j => pu (j ≤ 5) * (nodeR U n d c X N2 * (clockR c now * (bl p0_0 35 [.slice none 0 0, .slice none 0 0] * F)))) (fun j => 5 - j) (0) (by ((repeat' (first | exact covers_nil | (refine covers_cons ?_ ?_; focus (first | rfl | (simp [lk, lk?]; done))))) ; (first | done | fail))) (by exact entW_pu (by omega) entW_fr) ?_
  rintro j f
  refine CC.pu fun hj => ?_
  refine cc_seq ?_
  refine cc_seq ?_
  refine cc_region ?_
  refine rr_move rfl rfl ?_
  refine r_int rfl rfl rfl rfl ?_
  refine rr_nil ?_
  refine cc_cond rfl (fun h38 => ?_) (fun h38 => ?_)
  · try simp only [decide_eq_true_eq, decide_eq_false_iff_not, beq_iff_eq, beq_eq_false_iff_ne, bne_iff_ne, bne_eq_false_iff_eq, ne_eq, Bool.not_eq_eq_eq_not, Bool.not_true, Bool.not_false] at h38
    refine CC.node U n d c X N2 fun st le tk rg wv rv mv lv M h1 h2 h3 => ?_
    refine cc_skip ?_
    refine cc_seq ?_
    refine cc_block ?_
    refine cc_region ?_
    refine rr_move rfl rfl ?_
    refine rr_move rfl rfl ?_
    refine rr_nilCheck rfl rfl ?_
    refine r_fa rfl rfl ?_
    refine r_ld rfl (ls0 rfl) rfl rfl ?_
    refine rr_move rfl rfl ?_
    refine r_look0 (α := Int) (a := (j : Int) + 1) (z := .pointer none) (congrArg some hX) rfl (by kernel_rfl) rfl rfl ?_
    refine RR.cls (nodeR U n d c X N2) (nodeRaw n d c st le tk N2.id rg X wv rv N2.asked mv lv N2.store N2.lease N2.tok N2.waits N2.reads M N2.reps) (nodeR_mk U n d c st le tk N2.id rg X wv rv N2.asked mv lv N2.store N2.lease N2.tok N2.waits N2.reads M N2.reps h1 h2 h3) ?_
    refine rr_call rfl rfl rfl rfl (onext0_tr) inferInstance rfl (sd0 rfl) (fun _ => sd0 rfl) rfl (fun v => ?_)
    first | refine RR.pu2 ?_ | refine RR.pu ?_
    rintro rfl
    refine rr_call rfl rfl rfl rfl (nsay0_tr U n d c X N2 hl2) inferInstance rfl (sd0 rfl) (fun _ => sd0 rfl) rfl (fun v => ?_)
    first | refine RR.pu2 ?_ | refine RR.pu ?_
    rintro rfl
    refine rr_nil ?_
    refine cc_region ?_
    refine rr_move rfl rfl ?_
    refine r_add rfl rfl rfl (by omega) ?_
    refine rr_assign rfl rfl ?_
    refine rr_nil ?_
    exact ⟨j + 1, by omega, by ((repeat' (first | exact covers_nil | (refine covers_cons ?_ ?_; focus (first | rfl | (simp [lk, lk?]; done))))) ; (first | done | fail)), entW_pu (by omega) entW_fr⟩
  · try simp only [decide_eq_true_eq, decide_eq_false_iff_not, beq_iff_eq, beq_eq_false_iff_ne, bne_iff_ne, bne_eq_false_iff_eq, ne_eq, Bool.not_eq_eq_eq_not, Bool.not_true, Bool.not_false] at h38
    refine CC.node U n d c X N2 fun st le tk rg wv rv mv lv M h1 h2 h3 => ?_
    rw [hw2]
    refine CC.slv wv fun wb wc hwv _ => ?_
    subst hwv
    refine cc_exit ?_
    refine cc_seq ?_
    refine cc_region ?_
    refine rr_assign rfl rfl ?_
    refine rr_nil ?_
    refine cc_seq ?_
    refine cc_seq ?_
    refine cc_region ?_
    refine rr_move rfl rfl ?_
    refine rr_nilCheck rfl rfl ?_
    refine r_fa rfl rfl ?_
    refine r_ld rfl (ls0 rfl) rfl rfl ?_
    refine r_lens rfl rfl ?_
    refine rr_move rfl rfl ?_
    refine rr_nil ?_
    refine cc_block ?_
    refine cc_loopW (α := Nat) (fun j => [(55, i64 0), (54, i64 0), (4, .slice none 0 0), (0, ptr n), (2, ptr p0_0)]) (fun j => nodeRaw n d c st le tk N2.id rg X (.slice wb ([] : List WaitS).length wc) rv N2.asked mv lv N2.store N2.lease N2.tok [] N2.reads M N2.reps * (clockR c now * (bl p0_0 35 [.slice none 0 0, .slice none 0 0] * F))) (fun j => j) (0) (by ((repeat' (first | exact covers_nil | (refine covers_cons ?_ ?_; focus (first | rfl | (simp [lk, lk?]; done))))) ; (first | done | fail))) (by exact entW_fr) ?_
    rintro j f
    refine cc_seq ?_
    refine cc_region ?_
    refine r_int rfl rfl rfl rfl ?_
    refine rr_nil ?_
    refine cc_seq ?_
    refine cc_condF rfl ?_
    refine cc_exit ?_
    refine cc_seq ?_
    refine cc_region ?_
    refine rr_move rfl rfl ?_
    refine rr_move rfl rfl ?_
    refine rr_nilCheck rfl rfl ?_
    refine r_fa rfl rfl ?_
    refine r_st rfl rfl rfl rfl (sd0 rfl) (sd0 rfl) ?_
    refine rr_nil ?_
    refine (CC.entW · (entW_ent (ent_nil 100 7))) ?_
    refine CC.cls (nodeR U n d c X N2) (bl n 57 [ptr st, ptr le, i64 N2.id, rg, ptr tk, .bool X.knows, X.pv, X.ov, X.iv, .slice none 0 0, rv, i64 N2.asked, mv, lv] *
      (storeR st d N2.store * (leaseR le c N2.lease * (tokR tk N2.tok * (slR (.slice none 0 0) 100 7 0 [] * (slR rv 75 5 N2.reads.length (N2.reads.flatMap readV) *
    (slR mv 66 21 M.length (M.flatMap msgV2) * slR lv 41 6 N2.reps.length (N2.reps.flatMap repV)))))))) (by
        have := nodeR_mk U n d c st le tk N2.id rg X (.slice none 0 0) rv N2.asked mv lv N2.store N2.lease N2.tok [] N2.reads M N2.reps h1 h2 h3
        rw [show (⟨N2.store, N2.lease, N2.id, N2.ring, N2.tok, [], N2.reads, N2.asked, N2.msgs, N2.reps⟩ : NodeS) = N2 by rw [← hw2]] at this
        exact this) ?_
    refine cc_seq ?_
    refine cc_region ?_
    refine rr_move rfl rfl ?_
    refine rr_call rfl rfl rfl rfl (ndid_tr U n d c X N2) inferInstance rfl (sd0 rfl) (fun _ => sd0 rfl) rfl (fun v => ?_)
    refine RR.opn (outR U v N2.msgs N2.reps) rfl fun q => ?_
    refine RR.pu2 fun hq => ?_
    obtain ⟨rfl, hq1, hq2⟩ := hq
    obtain ⟨qm, ql, qM⟩ := q
    simp only at hq1 hq2 ⊢
    refine RR.slv qm fun qb qc hqm _ => ?_
    subst hqm
    refine RR.slv ql fun rb2 rc2 hql _ => ?_
    subst hql
    refine r_sta rfl rfl rfl rfl rfl (by first | exact Nat.le_of_ble_eq_true rfl | simp) (sd0 rfl) (sd0 rfl) ?_
    refine rr_nil ?_
    refine cc_ret ?_
    refine ⟨_, .agg inferInstance rfl inferInstance rfl .nil, ?_⟩
    exact entW_cls (outR U (.agg #[.slice qb qM.length qc, .slice rb2 N2.reps.length rc2]) N2.msgs N2.reps) (slR (.slice qb qM.length qc) 66 21 qM.length (qM.flatMap msgV2) * slR (.slice rb2 N2.reps.length rc2) 41 6 N2.reps.length (N2.reps.flatMap repV)) (outR_mk U _ _ qM _ _ hq1 hq2) entW_fr
end Go.Proofs.YtoiakcgdkegncaaGreat

