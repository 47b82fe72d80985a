import Derived.Laws.StructEq
import Derived.Test.YtoiakcgdkegncaaGreatK12
set_option linter.unusedVariables false
set_option linter.unusedSimpArgs false
set_option linter.unusedSectionVars false
namespace Go.Proofs.YtoiakcgdkegncaaGreat
open Go.RowKit Ice
attribute [local irreducible] CC RR Tr stir mixOf mixPoint ptsOf
theorem rowner_tr (U : Pool) (r : Nat) (ep : Int) (ns : List Int) (h : UInt64) (hr : ringIn U r ep ns) (h0 : 0 < (ptsOf ns).length) (h1 : (ptsOf ns).length ≤ 2 ^ 20) : Tr Tryz.prog 90 #[ptr r, u64V h] (poolR U)
    (fun v => pu (v = i64 (ownerS (ptsOf ns) h)) * poolR U) := by
  generalize hpts : ptsOf ns = pts at *
  have hw : ∀ x ∈ pts, (ptV x).length = 2 := fun _ _ => rfl
  obtain ⟨nV, lV, hr1, hr2, hr3⟩ := hr
  rw [hpts] at hr3
  have hv := hr3.view
  obtain ⟨base, cap, rfl⟩ := hv.val
  haveI : InP U r 120 [i64 ep, nV, .slice base pts.length cap] := ⟨hr1⟩
  obtain ⟨p0, hp0⟩ := lt_get h0
  obtain ⟨b, o, cap', cs, e1, e2, e3, e4⟩ := hv.get rfl hw rfl hp0
  simp only [Value.slice.injEq] at e1
  obtain ⟨rfl, _, rfl⟩ := e1
  refine tr_body Tryz.func90 (by kernel_rfl) rfl Tryz.ntmps90 rfl (L := [(0, ptr r), (1, u64V h)]) (covers_cons rfl (covers_cons rfl covers_nil)) rfl ?_
  intro F w0 f
  refine cc_seq ?_
  refine cc_region ?_
  refine rr_assign rfl rfl ?_
  refine rr_nil ?_
  refine cc_seq ?_
  refine cc_seq ?_
  refine cc_region ?_
  refine rr_move rfl rfl ?_
  refine r_pnil rfl rfl rfl ?_
  refine rr_nil ?_
  refine cc_condF rfl ?_
  refine cc_skip ?_
  refine cc_seq ?_
  refine cc_seq ?_
  refine cc_region ?_
  refine rr_move rfl rfl ?_
  refine rr_nilCheck rfl rfl ?_
  refine r_fa rfl rfl ?_
  refine r_ld rfl (ls0 rfl) rfl rfl ?_
  refine r_lens rfl rfl ?_
  refine rr_move rfl rfl ?_
  refine rr_nil ?_
  refine cc_block ?_
  refine cc_loopW (α := Nat) (fun j => [(14, i64 j), (13, i64 pts.length), (12, .slice (some ⟨b, o, none⟩) pts.length cap), (0, ptr r), (1, u64V h)]) (fun j => pu (j ≤ pts.length ∧ ∀ (i : Nat) (x : PtS), i < j → pts[i]? = some x → ¬ h ≤ x.1) * (poolR U * F)) (fun j => pts.length - j) (0) (by ((repeat' (first | exact covers_nil | (refine covers_cons ?_ ?_; focus (first | rfl | (simp [lk, lk?]; done))))) ; (first | done | fail))) (by exact entW_pu ⟨by omega, fun i x hi => by omega⟩ entW_fr) ?_
  rintro j f
  refine CC.pu fun hj => ?_
  refine cc_seq ?_
  refine cc_region ?_
  refine r_int rfl rfl rfl rfl ?_
  refine rr_nil ?_
  refine cc_seq ?_
  refine cc_cond rfl (fun h15 => ?_) (fun h15 => ?_)
  · try simp only [decide_eq_true_eq, decide_eq_false_iff_not, beq_iff_eq, beq_eq_false_iff_ne, bne_iff_ne, bne_eq_false_iff_eq, ne_eq, Bool.not_eq_eq_eq_not, Bool.not_true, Bool.not_false] at h15
    obtain ⟨x, hx⟩ := lt_get (l := pts) (j := j) (by omega)
    obtain ⟨b2, o2, cap2, cs2, g1, g2, g3, g4⟩ := hv.get rfl hw rfl hx
    simp only [Value.slice.injEq, Option.some.injEq, Addr.mk.injEq] at g1
    obtain ⟨⟨rfl, rfl, _⟩, _, _⟩ := g1
    refine cc_skip ?_
    refine cc_seq ?_
    refine cc_block ?_
    refine cc_seq ?_
    refine cc_region ?_
    refine r_ix rfl rfl rfl (by omega) ?_
    refine r_lda rfl (ls0 rfl) g3 rfl ?_
    refine r_alloc rfl (sd0 rfl) (fun _ => sd0 rfl) (fun p5_2 => ?_)
    refine r_sta (cs' := ptV x) rfl rfl rfl rfl rfl (Nat.le_of_ble_eq_true rfl) (sd0 rfl) (sd0 rfl) ?_
    refine rr_nil ?_
    refine cc_seq ?_
    refine cc_region ?_
    refine r_fa rfl rfl ?_
    refine r_ld rfl (ls0 rfl) rfl rfl ?_
    refine rr_move rfl rfl ?_
    refine r_int rfl rfl rfl rfl ?_
    refine rr_nil ?_
    refine cc_cond rfl (fun h21 => ?_) (fun h21 => ?_)
    · try simp only [decide_eq_true_eq, decide_eq_false_iff_not, beq_iff_eq, beq_eq_false_iff_ne, bne_iff_ne, bne_eq_false_iff_eq, ne_eq, Bool.not_eq_eq_eq_not, Bool.not_true, Bool.not_false] at h21
      have hle : h ≤ x.1 := by rw [UInt64.le_iff_toNat_le]; omega
      have hfin : ownerS pts h = x.2 := by
        rw [ownerS, firstAt_skip hj.2, drop_cons_get hx]; simp [firstAt, hle]
      refine cc_seq ?_
      refine cc_region ?_
      refine r_fa rfl rfl ?_
      refine r_ld rfl (ls0 rfl) rfl rfl ?_
      refine rr_assign rfl rfl ?_
      refine rr_nil ?_
      refine cc_ret ?_
      exact ⟨_, rfl, entW_pu2 (by rw [hfin]) entW_fr⟩
    · try simp only [decide_eq_true_eq, decide_eq_false_iff_not, beq_iff_eq, beq_eq_false_iff_ne, bne_iff_ne, bne_eq_false_iff_eq, ne_eq, Bool.not_eq_eq_eq_not, Bool.not_true, Bool.not_false] at h21
      refine cc_skip ?_
      refine cc_region ?_
      refine r_add rfl rfl rfl (by omega) ?_
      refine rr_move rfl rfl ?_
      refine rr_nil ?_
      exact ⟨j + 1, by omega, by ((repeat' (first | exact covers_nil | (refine covers_cons ?_ ?_; focus (first | rfl | (simp [lk, lk?]; done))))) ; (first | done | fail)), entW_pu ⟨by omega, fun i y hi hy => by
        by_cases e : i = j
        · subst e; rw [hx] at hy; simp only [Option.some.injEq] at hy; subst hy; rw [UInt64.le_iff_toNat_le]; omega
        · exact hj.2 i y (by omega) hy⟩ entW_fr⟩
  · try simp only [decide_eq_true_eq, decide_eq_false_iff_not, beq_iff_eq, beq_eq_false_iff_ne, bne_iff_ne, bne_eq_false_iff_eq, ne_eq, Bool.not_eq_eq_eq_not, Bool.not_true, Bool.not_false] at h15
    have hfin : ownerS pts h = p0.2 := by
      have hh : pts.head? = some p0 := by rw [List.head?_eq_getElem?]; exact hp0
      rw [ownerS, firstAt_skip hj.2, List.drop_of_length_le (by omega), hh]; rfl
    refine cc_exit ?_
    refine cc_seq ?_
    refine cc_region ?_
    refine rr_move rfl rfl ?_
    refine rr_nilCheck rfl rfl ?_
    refine r_fa rfl rfl ?_
    refine r_ld rfl (ls0 rfl) rfl rfl ?_
    refine r_ix rfl rfl rfl (by omega) ?_
    refine r_fa rfl rfl ?_
    refine r_ld rfl (ls0 rfl) (v := i64 p0.2) (e4 1 _ rfl) rfl ?_
    refine rr_assign rfl rfl ?_
    refine rr_nil ?_
    refine cc_ret ?_
    exact ⟨_, rfl, entW_pu2 (by rw [hfin]) entW_fr⟩
theorem rof_tr (U : Pool) (r : Nat) (ep : Int) (ns : List Int) (k : Txt) (hr : ringIn U r ep ns) (h0 : 0 < (ptsOf ns).length) (h1 : (ptsOf ns).length ≤ 2 ^ 20) (hk : k.length ≤ 2 ^ 30) : Tr Tryz.prog 40 #[ptr r, str k] (poolR U)
    (fun v => pu (v = i64 (ownerS (ptsOf ns) (mixOf k))) * poolR U) := by
  refine tr_body Tryz.func40 (by kernel_rfl) rfl Tryz.ntmps40 rfl (L := [(0, ptr r), (1, str k)]) (covers_cons rfl (covers_cons rfl covers_nil)) rfl ?_
  intro F w0 f
  refine cc_seq ?_
  refine cc_region ?_
  refine rr_assign rfl rfl ?_
  refine rr_nil ?_
  refine cc_seq ?_
  refine cc_region ?_
  refine rr_move rfl rfl ?_
  refine rr_move rfl rfl ?_
  refine r_bsl (cs := [str k]) rfl rfl rfl rfl rfl rfl (sd0 rfl) (fun _ => sd0 rfl) (fun p => ?_)
  refine rr_call rfl rfl rfl rfl (mixOf_tr p 1 k hk) inferInstance rfl (sd0 rfl) (fun _ => sd0 rfl) rfl (fun v => ?_)
  first | refine RR.pu2 ?_ | refine RR.pu ?_
  rintro rfl
  refine rr_call rfl rfl rfl rfl (rowner_tr U r ep ns (mixOf k) hr h0 h1) inferInstance rfl (sd0 rfl) (fun _ => sd0 rfl) rfl (fun v => ?_)
  first | refine RR.pu2 ?_ | refine RR.pu ?_
  rintro rfl
  refine rr_assign rfl rfl ?_
  refine rr_nil ?_
  refine cc_ret ?_
  exact ⟨_, rfl, entW_pu2 rfl entW_fr⟩
theorem indexIv_tr (lv : Value) (ns : List Int) (n : Int) (X : SL) (hv : View X lv 3 1 ns.length (ns.map i64)) (hl : ns.length ≤ 2 ^ 20) : Tr Tryz.prog 92 #[lv, i64 n] X
    (fun v => pu (v = i64 (idxI (ns.findIdx? (fun x => n == x)))) * X) := by
  obtain ⟨bb, bc, rfl⟩ := hv.val
  refine tr_body Tryz.func92 (by kernel_rfl) rfl Tryz.ntmps92 rfl (L := [(0, .slice bb ns.length bc), (1, i64 n)]) (covers_cons rfl (covers_cons rfl covers_nil)) rfl ?_
  intro F w0 f
  refine cc_seq ?_
  refine cc_region ?_
  refine rr_assign rfl rfl ?_
  refine rr_nil ?_
  refine cc_seq ?_
  refine cc_seq ?_
  refine cc_region ?_
  refine rr_move rfl rfl ?_
  refine r_lens rfl rfl ?_
  refine rr_move rfl rfl ?_
  refine rr_nil ?_
  refine cc_block ?_
  refine cc_loopW (α := Nat) (fun j => [(8, i64 j), (7, i64 ns.length), (0, .slice bb ns.length bc), (1, i64 n)]) (fun j => pu (j ≤ ns.length ∧ ∀ (i : Nat) (x : Int), i < j → ns[i]? = some x → (n == x) = false) * (X * F)) (fun j => ns.length - j) (0) (by ((repeat' (first | exact covers_nil | (refine covers_cons ?_ ?_; focus (first | rfl | (simp [lk, lk?]; done))))) ; (first | done | fail))) (by exact entW_pu ⟨by omega, fun i x hi => by omega⟩ entW_fr) ?_
  rintro j f
  refine CC.pu fun hj => ?_
  refine cc_seq ?_
  refine cc_region ?_
  refine r_int rfl rfl rfl rfl ?_
  refine rr_nil ?_
  refine cc_seq ?_
  refine cc_cond rfl (fun h9 => ?_) (fun h9 => ?_)
  · try simp only [decide_eq_true_eq, decide_eq_false_iff_not, beq_iff_eq, beq_eq_false_iff_ne, bne_iff_ne, bne_eq_false_iff_eq, ne_eq, Bool.not_eq_eq_eq_not, Bool.not_true, Bool.not_false] at h9
    obtain ⟨x, hx⟩ := lt_get (l := ns) (j := j) (by omega)
    obtain ⟨b, o, cap', cs, e1, e2, e3⟩ := hv.get1 rfl rfl hx
    simp only [Value.slice.injEq] at e1
    obtain ⟨rfl, _, rfl⟩ := e1
    refine cc_skip ?_
    refine cc_seq ?_
    refine cc_block ?_
    refine cc_seq ?_
    refine cc_region ?_
    refine rr_move rfl rfl ?_
    refine rr_assign rfl rfl ?_
    refine rr_nil ?_
    refine cc_seq ?_
    refine cc_region ?_
    refine rr_move rfl rfl ?_
    refine rr_move rfl rfl ?_
    refine rr_move rfl rfl ?_
    refine r_ix rfl rfl rfl (by omega) ?_
    refine r_ld rfl (ls0 rfl) (v := i64 x) e3 rfl ?_
    refine r_int rfl rfl rfl rfl ?_
    refine rr_nil ?_
    refine cc_cond rfl (fun h16 => ?_) (fun h16 => ?_)
    · try simp only [decide_eq_true_eq, decide_eq_false_iff_not, beq_iff_eq, beq_eq_false_iff_ne, bne_iff_ne, bne_eq_false_iff_eq, ne_eq, Bool.not_eq_eq_eq_not, Bool.not_true, Bool.not_false] at h16
      have hno : ns.findIdx? (fun x => n == x) = some j := findIdx_some_of hx (by simpa using h16) hj.2
      refine cc_seq ?_
      refine cc_region ?_
      refine rr_move rfl rfl ?_
      refine rr_assign rfl rfl ?_
      refine rr_nil ?_
      refine cc_ret ?_
      exact ⟨_, rfl, entW_pu2 (by rw [hno]; rfl) entW_fr⟩
    · try simp only [decide_eq_true_eq, decide_eq_false_iff_not, beq_iff_eq, beq_eq_false_iff_ne, bne_iff_ne, bne_eq_false_iff_eq, ne_eq, Bool.not_eq_eq_eq_not, Bool.not_true, Bool.not_false] at h16
      refine cc_skip ?_
      refine cc_region ?_
      refine r_add rfl rfl rfl (by omega) ?_
      refine rr_move rfl rfl ?_
      refine rr_nil ?_
      exact ⟨j + 1, by omega, by ((repeat' (first | exact covers_nil | (refine covers_cons ?_ ?_; focus (first | rfl | (simp [lk, lk?]; done))))) ; (first | done | fail)), entW_pu ⟨by omega, fun i y hi hy => by
        by_cases e : i = j
        · subst e; rw [hx] at hy; simp only [Option.some.injEq] at hy; subst hy; simpa using h16
        · exact hj.2 i y (by omega) hy⟩ entW_fr⟩
  · try simp only [decide_eq_true_eq, decide_eq_false_iff_not, beq_iff_eq, beq_eq_false_iff_ne, bne_iff_ne, bne_eq_false_iff_eq, ne_eq, Bool.not_eq_eq_eq_not, Bool.not_true, Bool.not_false] at h9
    have hno : ns.findIdx? (fun x => n == x) = none := findIdx_none_of fun i x hi => hj.2 i x (by have := get_lt hi; omega) hi
    refine cc_exit ?_
    refine cc_seq ?_
    refine cc_region ?_
    refine rr_assign rfl rfl ?_
    refine rr_nil ?_
    refine cc_ret ?_
    exact ⟨_, rfl, entW_pu2 (by rw [hno]; rfl) entW_fr⟩
theorem containsIv_tr (lv : Value) (ns : List Int) (n : Int) (X : SL) (hv : View X lv 3 1 ns.length (ns.map i64)) (hl : ns.length ≤ 2 ^ 20) : Tr Tryz.prog 45 #[lv, i64 n] X
    (fun v => pu (v = .bool (hasI ns n)) * X) := by
  obtain ⟨bb, bc, rfl⟩ := hv.val
  refine tr_body Tryz.func45 (by kernel_rfl) rfl Tryz.ntmps45 rfl (L := [(0, .slice bb ns.length bc), (1, i64 n)]) (covers_cons rfl (covers_cons rfl covers_nil)) rfl ?_
  intro F w0 f
  refine cc_seq ?_
  refine cc_region ?_
  refine rr_assign rfl rfl ?_
  refine rr_nil ?_
  refine cc_seq ?_
  refine cc_region ?_
  refine rr_move rfl rfl ?_
  refine rr_move rfl rfl ?_
  refine rr_call rfl rfl rfl rfl (indexIv_tr (.slice bb ns.length bc) ns n X hv hl) inferInstance rfl (sd0 rfl) (fun _ => sd0 rfl) rfl (fun v => ?_)
  first | refine RR.pu2 ?_ | refine RR.pu ?_
  rintro rfl
  refine r_int rfl rfl rfl rfl ?_
  refine rr_assign rfl rfl ?_
  refine rr_nil ?_
  refine cc_ret ?_
  exact ⟨_, rfl, entW_pu2 (congrArg Value.bool (hasI_idx ns n)) entW_fr⟩
theorem rhas_tr (U : Pool) (r : Nat) (ep node : Int) (ns : List Int) (hr : ringIn U r ep ns) (hl : ns.length ≤ 2 ^ 20) : Tr Tryz.prog 16 #[ptr r, i64 node] (poolR U)
    (fun v => pu (v = .bool (hasI ns node)) * poolR U) := by
  obtain ⟨nV, lV, hr1, hr2, hr3⟩ := hr
  have hv := hr2.view
  obtain ⟨base, cap, rfl⟩ := hv.val
  haveI : InP U r 120 [i64 ep, .slice base ns.length cap, lV] := ⟨hr1⟩
  refine tr_body Tryz.func16 (by kernel_rfl) rfl Tryz.ntmps16 rfl (L := [(0, ptr r), (1, i64 node)]) (covers_cons rfl (covers_cons rfl covers_nil)) rfl ?_
  intro F w0 f
  refine cc_seq ?_
  refine cc_region ?_
  refine rr_assign rfl rfl ?_
  refine rr_nil ?_
  refine cc_seq ?_
  refine cc_region ?_
  refine rr_move rfl rfl ?_
  refine r_pnil rfl rfl rfl ?_
  refine rr_move rfl rfl ?_
  refine rr_guardY rfl rfl rfl ?_
  refine rr_move rfl rfl ?_
  refine rr_guardY rfl rfl rfl ?_
  refine rr_nilCheck rfl rfl ?_
  refine rr_guardY rfl rfl rfl ?_
  refine r_fa rfl rfl ?_
  refine rr_guardY rfl rfl rfl ?_
  refine r_ld rfl (ls0 rfl) rfl rfl ?_
  refine rr_guardY rfl rfl rfl ?_
  refine rr_move rfl rfl ?_
  refine rr_guardY rfl rfl rfl ?_
  refine rr_call rfl rfl rfl rfl (containsIv_tr (.slice base ns.length cap) ns node (poolR U) hv hl) inferInstance rfl (sd0 rfl) (fun _ => sd0 rfl) rfl (fun v => ?_)
  first | refine RR.pu2 ?_ | refine RR.pu ?_
  rintro rfl
  first | refine rr_pick rfl rfl ?_ | refine rr_pickb rfl rfl rfl rfl ?_
  refine rr_assign rfl rfl ?_
  refine rr_nil ?_
  refine cc_ret ?_
  exact ⟨_, rfl, entW_pu2 rfl entW_fr⟩
end Go.Proofs.YtoiakcgdkegncaaGreat

namespace Go.Proofs.YtoiakcgdkegncaaGreat
open Go.RowKit Ice
attribute [local irreducible] CC RR Tr stir mixOf mixPoint
theorem insStr0_tr : Tr Tryz.prog 229 #[.slice none 0 0, i64 0, i64 0] 1 (fun v => pu (v = unit)) := by
  refine tr_body Tryz.func229 (by kernel_rfl) rfl Tryz.ntmps229 rfl (L := [(0, .slice none 0 0), (1, i64 0), (2, i64 0)]) (covers_cons rfl (covers_cons rfl (covers_cons rfl covers_nil))) rfl ?_
  intro F w0 f
  rw [sl_one_mul]
  refine cc_seq ?_
  refine cc_region ?_
  refine rr_move rfl rfl ?_
  refine r_add rfl rfl rfl (by omega) ?_
  refine rr_assign rfl rfl ?_
  refine rr_nil ?_
  refine cc_block ?_
  refine cc_loopW (α := Nat) (fun j => [(6, i64 1), (2, i64 0)]) (fun j => F) (fun j => j) (0) (by ((repeat' (first | exact covers_nil | (refine covers_cons ?_ ?_; focus (first | rfl | (simp [lk, lk?]; done))))) ; (first | done | fail))) (by exact entW_fr) ?_
  rintro j f
  refine cc_seq ?_
  refine cc_seq ?_
  refine cc_region ?_
  refine rr_move rfl rfl ?_
  refine rr_move rfl rfl ?_
  refine r_int rfl rfl rfl rfl ?_
  refine rr_nil ?_
  refine cc_condF rfl ?_
  refine cc_exit ?_
  exact ⟨_, rfl, entW_pu rfl entW_fr⟩
theorem pdqStr0_tr (k : Int) : Tr Tryz.prog 216 #[.slice none 0 0, i64 0, i64 0, i64 k] 1 (fun v => pu (v = unit)) := by
  refine tr_body Tryz.func216 (by kernel_rfl) rfl Tryz.ntmps216 rfl (L := [(0, .slice none 0 0), (1, i64 0), (2, i64 0), (3, i64 k)]) (covers_cons rfl (covers_cons rfl (covers_cons rfl (covers_cons rfl covers_nil)))) rfl ?_
  intro F w0 f
  rw [sl_one_mul]
  refine cc_seq ?_
  refine cc_region ?_
  refine rr_assign rfl rfl ?_
  refine rr_nil ?_
  refine cc_seq ?_
  refine cc_region ?_
  refine rr_assign rfl rfl ?_
  refine rr_nil ?_
  refine cc_block ?_
  refine cc_loopW (α := Nat) (fun j => [(0, .slice none 0 0), (1, i64 0), (2, i64 0)]) (fun j => F) (fun j => j) (0) (by ((repeat' (first | exact covers_nil | (refine covers_cons ?_ ?_; focus (first | rfl | (simp [lk, lk?]; done))))) ; (first | done | fail))) (by exact entW_fr) ?_
  rintro j f
  refine cc_block ?_
  refine cc_seq ?_
  refine cc_region ?_
  refine rr_move rfl rfl ?_
  refine rr_move rfl rfl ?_
  refine r_sub rfl rfl rfl (by omega) ?_
  refine rr_assign rfl rfl ?_
  refine rr_nil ?_
  refine cc_seq ?_
  refine cc_seq ?_
  refine cc_region ?_
  refine rr_move rfl rfl ?_
  refine r_int rfl rfl rfl rfl ?_
  refine rr_nil ?_
  refine cc_condT rfl ?_
  refine cc_seq ?_
  refine cc_region ?_
  refine rr_move rfl rfl ?_
  refine rr_move rfl rfl ?_
  refine rr_move rfl rfl ?_
  refine rr_call rfl rfl rfl rfl (insStr0_tr) inferInstance rfl (sd0 rfl) (fun _ => sd0 rfl) rfl (fun v => ?_)
  first | refine RR.pu2 ?_ | refine RR.pu ?_
  rintro rfl
  refine rr_nil ?_
  refine cc_ret ?_
  exact ⟨_, rfl, entW_pu rfl entW_fr⟩
theorem sortStr0_tr : Tr Tryz.prog 190 #[.slice none 0 0] 1 (fun v => pu (v = unit)) := by
  refine tr_body Tryz.func190 (by kernel_rfl) rfl Tryz.ntmps190 rfl (L := [(0, .slice none 0 0)]) (covers_cons rfl covers_nil) rfl ?_
  intro F w0 f
  rw [sl_one_mul]
  refine cc_seq ?_
  refine cc_region ?_
  refine rr_move rfl rfl ?_
  refine r_lens rfl rfl ?_
  refine rr_assign rfl rfl ?_
  refine rr_nil ?_
  refine cc_region ?_
  refine rr_move rfl rfl ?_
  refine rr_move rfl rfl ?_
  refine rr_move rfl rfl ?_
  refine r_conv rfl rfl ?_
  rw [show IntKind.wrap .u64 ((0 : Nat) : Int) = 0 from rfl]
  refine rr_call rfl rfl rfl rfl (bitsLenI0_tr) inferInstance rfl (sd0 rfl) (fun _ => sd0 rfl) rfl (fun v => ?_)
  first | refine RR.pu2 ?_ | refine RR.pu ?_
  rintro rfl
  refine rr_call rfl rfl rfl rfl (pdqStr0_tr 0) inferInstance rfl (sd0 rfl) (fun _ => sd0 rfl) rfl (fun v => ?_)
  first | refine RR.pu2 ?_ | refine RR.pu ?_
  rintro rfl
  refine rr_nil ?_
  exact ⟨_, rfl, entW_pu rfl entW_fr⟩
def rawKeys (t : List PlaceS) : List Txt := (t.filter (·.has)).map (·.key)
def sortT (ks : List Txt) : List Txt := (Go.Sort.sort ltS ks.toArray).toList
theorem sortT_len {ks : List Txt} (h : ks.length ≤ 12) : (sortT ks).length = ks.length := by
  rw [sortT, Array.length_toList, sort_size (by simpa using h), List.size_toArray]
theorem sortStrS_tr (v : Value) (ks : List Txt) (h12 : ks.length ≤ 12) : Tr Tryz.prog 190 #[v] (slR v 9 1 ks.length (ks.map str))
    (fun r => pu (r = unit) * slR v 9 1 (sortT ks).length ((sortT ks).map str)) := by
  have hl := sortT_len h12
  have h := tr_slo (P := Tryz.prog) (g := 190) (args := #[v]) (v := v) (E := 9) (s := 1) (m := ks.length) (xs := ks.map str) (X := 1) (B := fun r => pu (r = unit) * slR v 9 1 (sortT ks).length ((sortT ks).map str)) (by kernel_rfl) ?_ ?_
  · rwa [sl_mul_one] at h
  · intro e1 e2 e3
    subst e1
    have h0 : ks = [] := List.length_eq_zero_iff.1 e2
    subst h0
    have hs : sortT [] = [] := List.length_eq_zero_iff.1 hl
    rw [hs]
    refine tr_post sortStr0_tr fun r => ?_
    intro h0 x
    rw [← sl_mul_one (pu _)] at x
    exact ent_starR (slR_nil _ _) _ x
  · intro b cap rest e1 e2 e3
    subst e1
    rw [sl_mul_one]
    have hc := sortStr_tr b cap ks.toArray rest (by simpa using h12)
    rw [show (ks.toArray.toList.flatMap fun g => [str g]) = ks.map str by rw [map_fm1]] at hc
    refine tr_post hc fun r => ent_starR ?_
    rw [← map_fm1 str]
    have hx : (sortT ks).map str = (Go.Sort.sort ltS ks.toArray).toList.map str := rfl
    rw [← hx, hl]
    refine slR_blk (by simp [hl]) ?_
    rw [← e3]; simp [hl]
abbrev keysI (I : IdxS) : List Txt := sortT (rawKeys I.t)
theorem rawKeys_succ {t : List PlaceS} {j : Nat} {p : PlaceS} (h : t[j]? = some p) : rawKeys (t.take (j + 1)) = rawKeys (t.take j) ++ if p.has then [p.key] else [] := by
  rw [rawKeys, filter_take_succ _ h, List.map_append, ← rawKeys]
  cases p.has <;> rfl
theorem rawKeys_len (t : List PlaceS) : (rawKeys t).length ≤ t.length := by
  rw [rawKeys, List.length_map]; exact List.length_filter_le _ _
theorem ikeys_tr (x : Nat) (I : IdxS) (h1 : I.t.length ≤ 2 ^ 40) (h12 : (rawKeys I.t).length ≤ 12) :
    Tr Tryz.prog 163 #[ptr x] (indexR x I) (fun v => slR v 9 1 (keysI I).length ((keysI I).map str) * indexR x I) := by
  refine tr_body Tryz.func163 (by kernel_rfl) rfl Tryz.ntmps163 rfl (L := [(0, ptr x)]) (covers_cons rfl covers_nil) rfl ?_
  intro F w0 f
  refine CC.entW ?_ (entW_ent (ent_nil 9 1))
  have hkl : ∀ j, (rawKeys (I.t.take j)).length ≤ 2 ^ 40 := fun j => Nat.le_trans (rawKeys_len _) (by rw [List.length_take]; omega)
  refine CC.opn (indexR x I) rfl fun b => ?_
  refine cc_seq ?_
  refine cc_region ?_
  refine rr_assign rfl rfl ?_
  refine rr_nil ?_
  refine cc_seq ?_
  refine cc_seq ?_
  refine cc_region ?_
  refine rr_move rfl rfl ?_
  refine r_pnil rfl rfl rfl ?_
  refine rr_nil ?_
  refine cc_condF rfl ?_
  refine cc_skip ?_
  refine cc_seq ?_
  refine cc_region ?_
  refine rr_assign rfl rfl ?_
  refine rr_nil ?_
  refine cc_seq ?_
  refine cc_seq ?_
  refine cc_region ?_
  refine rr_move rfl rfl ?_
  refine rr_nilCheck rfl rfl ?_
  refine r_fa rfl rfl ?_
  refine r_ld rfl (ls0 rfl) rfl rfl ?_
  refine r_lens rfl rfl ?_
  refine rr_move rfl rfl ?_
  refine rr_nil ?_
  refine cc_block ?_
  refine cc_loopW (α := (Nat × Value)) (fun ⟨j, l⟩ => [(13, i64 j), (12, i64 I.t.length), (11, .slice (some ⟨b, 0, none⟩) I.t.length I.t.length), (3, l)]) (fun ⟨j, l⟩ => pu (j ≤ I.t.length) * (slR l 9 1 (rawKeys (I.t.take j)).length ((rawKeys (I.t.take j)).map str) * (bl x 183 [.slice (some ⟨b, 0, none⟩) I.t.length I.t.length, i64 I.n, i64 I.used] * bl b 187 (I.t.flatMap placeV)) * F)) (fun ⟨j, l⟩ => I.t.length - j) ((0, .slice none 0 0)) (by ((repeat' (first | exact covers_nil | (refine covers_cons ?_ ?_; focus (first | rfl | (simp [lk, lk?]; done))))) ; (first | done | fail))) (by exact entW_pu (by omega) (by rw [show rawKeys (I.t.take 0) = [] from rfl, List.map_nil, List.length_nil]; exact entW_fr)) ?_
  rintro ⟨j, l⟩ f
  refine CC.pu fun hj => ?_
  refine cc_seq ?_
  refine cc_region ?_
  refine r_int rfl rfl rfl rfl ?_
  refine rr_nil ?_
  refine cc_seq ?_
  refine cc_cond rfl (fun h14 => ?_) (fun h14 => ?_)
  · try simp only [decide_eq_true_eq, decide_eq_false_iff_not, beq_iff_eq, beq_eq_false_iff_ne, bne_iff_ne, bne_eq_false_iff_eq, ne_eq, Bool.not_eq_eq_eq_not, Bool.not_true, Bool.not_false] at h14
    obtain ⟨p, hp⟩ := lt_get (l := I.t) (j := j) (by omega)
    have hsucc := rawKeys_succ hp
    have hjl := hkl j
    refine cc_skip ?_
    refine cc_seq ?_
    refine cc_block ?_
    refine cc_seq ?_
    refine cc_region ?_
    refine r_ix rfl rfl rfl (by omega) ?_
    refine r_lda rfl (ls0 rfl) (vs := placeV p) (cut_at (g := placeV) (w := 4) (j := 0) (fun _ _ => rfl) hp (by omega) rfl) rfl ?_
    refine r_alloc rfl (sd0 rfl) (fun _ => sd0 rfl) (fun p6_2 => ?_)
    refine r_sta rfl rfl rfl rfl rfl (by first | exact Nat.le_of_ble_eq_true rfl | simp) (sd0 rfl) (sd0 rfl) ?_
    refine rr_nil ?_
    refine cc_seq ?_
    refine cc_region ?_
    refine r_fa rfl rfl ?_
    refine r_ld rfl (ls0 rfl) rfl rfl ?_
    refine rr_nil ?_
    refine cc_cond rfl (fun h18 => ?_) (fun h18 => ?_)
    · try simp only [decide_eq_true_eq, decide_eq_false_iff_not, beq_iff_eq, beq_eq_false_iff_ne, bne_iff_ne, bne_eq_false_iff_eq, ne_eq, Bool.not_eq_eq_eq_not, Bool.not_true, Bool.not_false] at h18
      rw [h18, if_pos rfl] at hsucc
      refine cc_region ?_
      refine rr_move rfl rfl ?_
      refine r_fa rfl rfl ?_
      refine r_ld rfl (ls0 rfl) rfl rfl ?_
      refine r_bsl rfl rfl rfl rfl rfl rfl (sd0 rfl) (fun _ => sd0 rfl) (fun p8_3 => ?_)
      refine r_app (m := (rawKeys (I.t.take j)).length) (xs := (rawKeys (I.t.take j)).map str) (k' := 1) (ys := [str p.key]) rfl rfl (.inl (by rw [spv_underlying]; kernel_rfl)) inferInstance rfl (fun w sa => src_of sa (Nat.le_of_ble_eq_true rfl) rfl) (by simp) (by simp [oneC]) (by omega) (by omega) (by omega) rfl (by first | exact sd0 rfl | exact sd1 rfl) (fun _ => by first | exact sd0 rfl | exact sd1 rfl) (fun v => ?_)
      refine rr_assign rfl rfl ?_
      refine rr_nil ?_
      refine cc_region ?_
      refine r_add rfl rfl rfl (by omega) ?_
      refine rr_move rfl rfl ?_
      refine rr_nil ?_
      first | exact ⟨(j + 1, v), (by show I.t.length - (j + 1) < I.t.length - j; omega), by ((repeat' (first | exact covers_nil | (refine covers_cons ?_ ?_; focus (first | rfl | (simp [lk, lk?]; done))))) ; (first | done | fail)), entW_pu (by omega) (by rw [hsucc, List.map_append, List.length_append, List.map_singleton]; exact entW_fr)⟩ | exact ⟨(j + 1, l), (by show I.t.length - (j + 1) < I.t.length - j; omega), by ((repeat' (first | exact covers_nil | (refine covers_cons ?_ ?_; focus (first | rfl | (simp [lk, lk?]; done))))) ; (first | done | fail)), entW_pu (by omega) (by rw [hsucc]; exact entW_fr)⟩
    · try simp only [decide_eq_true_eq, decide_eq_false_iff_not, beq_iff_eq, beq_eq_false_iff_ne, bne_iff_ne, bne_eq_false_iff_eq, ne_eq, Bool.not_eq_eq_eq_not, Bool.not_true, Bool.not_false] at h18
      rw [h18, if_neg Bool.false_ne_true, List.append_nil] at hsucc
      refine cc_skip ?_
      refine cc_region ?_
      refine r_add rfl rfl rfl (by omega) ?_
      refine rr_move rfl rfl ?_
      refine rr_nil ?_
      first | exact ⟨(j + 1, v), (by show I.t.length - (j + 1) < I.t.length - j; omega), by ((repeat' (first | exact covers_nil | (refine covers_cons ?_ ?_; focus (first | rfl | (simp [lk, lk?]; done))))) ; (first | done | fail)), entW_pu (by omega) (by rw [hsucc, List.map_append, List.length_append, List.map_singleton]; exact entW_fr)⟩ | exact ⟨(j + 1, l), (by show I.t.length - (j + 1) < I.t.length - j; omega), by ((repeat' (first | exact covers_nil | (refine covers_cons ?_ ?_; focus (first | rfl | (simp [lk, lk?]; done))))) ; (first | done | fail)), entW_pu (by omega) (by rw [hsucc]; exact entW_fr)⟩
  · try simp only [decide_eq_true_eq, decide_eq_false_iff_not, beq_iff_eq, beq_eq_false_iff_ne, bne_iff_ne, bne_eq_false_iff_eq, ne_eq, Bool.not_eq_eq_eq_not, Bool.not_true, Bool.not_false] at h14
    obtain rfl : j = I.t.length := by omega
    rw [List.take_length]
    refine CC.cl (X := bl x 183 [.slice (some ⟨b, 0, none⟩) I.t.length I.t.length, i64 I.n, i64 I.used] * bl b 187 (I.t.flatMap placeV)) (Y := indexR x I) (indexR_mk x b I) ?_
    refine cc_exit ?_
    refine cc_seq ?_
    refine cc_region ?_
    refine rr_move rfl rfl ?_
    refine rr_call rfl rfl rfl rfl (sortStrS_tr l (rawKeys I.t) h12) inferInstance rfl (sd0 rfl) (fun _ => sd0 rfl) rfl (fun v => ?_)
    first | refine RR.pu2 ?_ | refine RR.pu ?_
    rintro rfl
    refine rr_nil ?_
    refine cc_seq ?_
    refine cc_region ?_
    refine rr_move rfl rfl ?_
    refine rr_assign rfl rfl ?_
    refine rr_nil ?_
    refine cc_ret ?_
    exact ⟨_, rfl, entW_fr⟩
theorem fkeys_tr (c d : Nat) (C : CacheS) (h1 : C.idx.t.length ≤ 2 ^ 40) (h12 : (rawKeys C.idx.t).length ≤ 12) :
    Tr Tryz.prog 127 #[ptr c] (cacheR c d C) (fun v => slR v 9 1 (keysI C.idx).length ((keysI C.idx).map str) * cacheR c d C) := by
  refine tr_body Tryz.func127 (by kernel_rfl) rfl Tryz.ntmps127 rfl (L := [(0, ptr c)]) (covers_cons rfl covers_nil) rfl ?_
  intro F w0 f
  refine CC.opn (cacheR c d C) rfl fun q => ?_
  refine cc_seq ?_
  refine cc_region ?_
  refine rr_assign rfl rfl ?_
  refine rr_nil ?_
  refine cc_seq ?_
  refine cc_seq ?_
  refine cc_region ?_
  refine rr_move rfl rfl ?_
  refine r_pnil rfl rfl rfl ?_
  refine rr_nil ?_
  refine cc_condF rfl ?_
  refine cc_skip ?_
  refine cc_seq ?_
  refine cc_region ?_
  refine rr_move rfl rfl ?_
  refine rr_nilCheck rfl rfl ?_
  refine r_fa rfl rfl ?_
  refine r_ld rfl (ls0 rfl) rfl rfl ?_
  refine rr_call rfl rfl rfl rfl (ikeys_tr q.2 C.idx h1 h12) inferInstance rfl (sd0 rfl) (fun _ => sd0 rfl) rfl (fun v => ?_)
  refine rr_assign rfl rfl ?_
  refine rr_nil ?_
  refine cc_ret ?_
  exact ⟨_, rfl, entW_cls (cacheR c d C) (bl c 136 [ptr q.1, ptr q.2] * (logR q.1 d C.log * indexR q.2 C.idx)) (cacheR_mk c d q.1 q.2 _ _) entW_fr⟩
end Go.Proofs.YtoiakcgdkegncaaGreat

namespace Ice
open Go Go.RowKit
/-- structs of plain fields: compared field by field -/
def kOf (P : Program) (T : Nat) : Option Nat := match aggB P T with
  | some false => match P.underlying T with
    | some .bool => some 0
    | some (.int _) => some 1
    | some .string => some 2
    | _ => none
  | _ => none
def flatF (P : Program) (l : List Field) : Option (List (Nat × Nat)) := match l with
  | [] => some []
  | f :: fs => if f.name = "_" then none else match kOf P f.type, flatF P fs with
    | some k, some r => some ((f.offset, k) :: r)
    | _, _ => none
def flatOf (P : Program) (T : Nat) : Option (List (Nat × Nat)) := match P.underlying T with
  | some (.struct fs) => if P.stoodInHeld T || P.eqGuardType P.depth T then none else flatF P fs.toList
  | _ => none
def eqL (xs ys : List Value) (l : List (Nat × Nat)) : Option Bool := match l with
  | [] => some true
  | x :: r => match nth xs x.1, nth ys x.1 with
    | some (.bool a), some (.bool b) => if x.2 = 0 then (if a == b then eqL xs ys r else some false) else none
    | some (.int q a), some (.int q2 b) => if x.2 = 1 then if q = q2 then (if a == b then eqL xs ys r else some false) else none else none
    | some (.string a), some (.string b) => if x.2 = 2 then (if a.toList == b.toList then eqL xs ys r else some false) else none
    | _, _ => none
variable {P : Program}
theorem spv_part {T : Nat} {cs : List Value} {o : Nat} {v : Value} (h : aggB P T = some false) (hv : nth cs o = some v) : spv P (part T cs.toArray o) = some v := by
  rw [nth_eq] at hv
  simp [part, spv_bind, aggB_spv h, hv, spv_pure]
theorem eqF_spv {d : Nat} {xs ys : List Value} : ∀ {fs : List Field} {l : List (Nat × Nat)} {u : Bool}, flatF P fs = some l → eqL xs ys l = some u → spv P (Op.eqFields (d + 1) xs.toArray ys.toArray fs) = some u
  | [], l, u, h1, h2 => by
    simp only [flatF, Option.some.injEq] at h1; subst h1
    simp only [eqL, Option.some.injEq] at h2; subst h2
    simp [Op.eqFields, spv_pure]
  | f :: fs, l, u, h1, h2 => by
    unfold flatF at h1
    split at h1
    · cases h1
    rename_i hn
    split at h1
    · rename_i k r hk hr
      simp only [Option.some.injEq] at h1; subst h1
      unfold kOf at hk
      split at hk
      · rename_i ha
        unfold eqL at h2
        simp only at h2
        unfold Op.eqFields
        rw [if_pos hn]
        split at h2
        · rename_i a b e1 e2
          split at h2
          · rename_i e0
            subst e0
            split at hk <;> simp at hk
            rename_i hu
            rw [spv_bind, spv_part ha e1, Option.bind_some, spv_bind, spv_part ha e2, Option.bind_some, spv_bind]
            have : spv P (Op.equalIn (d + 1) f.type (.bool a) (.bool b)) = some (a == b) := by simp [Op.equalIn, spv_bind, spv_underlying, hu, spv_pure]
            rw [this, Option.bind_some]
            split at h2
            · rename_i e3; rw [e3]; simp only [Bool.not_true, Bool.false_eq_true, if_false]; exact eqF_spv hr h2
            · rename_i e3; rw [Bool.not_eq_true] at e3; rw [e3]; simp only [Bool.not_false, if_true]; exact h2
          · cases h2
        · rename_i q a q2 b e1 e2
          split at h2
          · rename_i e0
            subst e0
            split at h2
            · rename_i eq; subst eq
              split at hk <;> simp at hk
              rename_i hu
              rw [spv_bind, spv_part ha e1, Option.bind_some, spv_bind, spv_part ha e2, Option.bind_some, spv_bind]
              have : spv P (Op.equalIn (d + 1) f.type (.int q a) (.int q b)) = some (a == b) := by simp [Op.equalIn, spv_bind, spv_underlying, hu, spv_pure]
              rw [this, Option.bind_some]
              split at h2
              · rename_i e3; rw [e3]; simp only [Bool.not_true, Bool.false_eq_true, if_false]; exact eqF_spv hr h2
              · rename_i e3; rw [Bool.not_eq_true] at e3; rw [e3]; simp only [Bool.not_false, if_true]; exact h2
            · cases h2
          · cases h2
        · rename_i a b e1 e2
          split at h2
          · rename_i e0
            subst e0
            split at hk <;> simp at hk
            rename_i hu
            rw [spv_bind, spv_part ha e1, Option.bind_some, spv_bind, spv_part ha e2, Option.bind_some, spv_bind]
            have : spv P (Op.equalIn (d + 1) f.type (.string a) (.string b)) = some (a.toList == b.toList) := by simp [Op.equalIn, spv_bind, spv_underlying, hu, spv_pure, beq_toListBytes]
            rw [this, Option.bind_some]
            split at h2
            · rename_i e3; rw [e3]; simp only [Bool.not_true, Bool.false_eq_true, if_false]; exact eqF_spv hr h2
            · rename_i e3; rw [Bool.not_eq_true] at e3; rw [e3]; simp only [Bool.not_false, if_true]; exact h2
          · cases h2
        · cases h2
      · cases hk
    · cases h1
theorem spv_if {α : Type} {c : Prop} [Decidable c] (a b : Sem α) : spv P (if c then a else b) = if c then spv P a else spv P b := by split <;> rfl
theorem spv_equalIn_struct (d : Nat) (t : TypeId) (xs ys : Array Value) (fs : Array Field) (ht : P.underlying t = some (.struct fs)) (hp : P.stoodInHeld t = false) :
    spv P (Op.equalIn (d + 1) t (.agg xs) (.agg ys)) = spv P (Op.eqFields d xs ys fs.toList) := by
  simp only [Op.equalIn, spv_bind, spv_underlying, ht, Option.bind_some, spv_program, hp, Bool.false_eq_true, if_false]
  rw [← Array.forIn_toList]
  generalize fs.toList = fs
  clear ht
  induction fs with
  | nil => simp [Op.eqFields, spv_pure]
  | cons f fs ih =>
    simp only [List.forIn_cons, Op.eqFields, spv_bind, spv_if]
    split
    · cases spv P (part f.type xs f.offset) with
      | none => simp
      | some a =>
        simp only [Option.bind_some]
        cases spv P (part f.type ys f.offset) with
        | none => simp
        | some b =>
          simp only [Option.bind_some]
          cases spv P (Op.equalIn d f.type a b) with
          | none => simp
          | some r =>
            cases r
            · simp only [Option.bind_some, Bool.not_false, if_true, spv_pure]
            · simp only [Option.bind_some, Bool.not_true, Bool.false_eq_true, if_false, spv_pure]
              exact ih
    · simp only [spv_pure, Option.bind_some]
      exact ih
variable {n : Nat} {w0 : World} {f : Nat → Value} {l : Env} {A : SL}
variable {ops : Array Oper} {J : SL} {K : Pos} {pl fl : List Nat} {k : Nat} {r : List Oper} {dd : Nat} {ty : TypeId} {ps : String} {af : Array Edge}
class TFl (P : Program) (T : Nat) (p : outParam (List (Nat × Nat))) : Prop where
  h : flatOf P T = some p
/-- two structs: are they the same? -/
theorem r_eqs {T ty2 : Nat} {x y : Operand} {xs ys : List Value} {u : Bool} {p : List (Nat × Nat)} [t : TFl P T p] (hx : ev? l x = some (.agg xs.toArray)) (hy : ev? l y = some (.agg ys.toArray))
    (hu : eqL xs ys p = some u) (hd : Nat.blt dd n = true)
    (h : RR P n w0 ops J K pl fl (k + 1) r f ((dd, .bool u) :: l) A) : RR P n w0 ops J K pl fl k (⟨some dd, .binOp .eql T x y ty2, ty, ps, af, none⟩ :: r) f l A := by
  refine rr_pure rfl ?_ hd h
  have h1 := ev?_evf (f := f) hx
  have h2 := ev?_evf (f := f) hy
  have ht := t.h
  unfold flatOf at ht
  split at ht
  · rename_i fs hf
    split at ht
    · cases ht
    · rename_i hb
      simp only [Bool.or_eq_true, not_or, Bool.not_eq_true] at hb
      have he : spv P (Op.equal T (.agg xs.toArray) (.agg ys.toArray)) = some u := by
        show spv P (Op.equalIn (9998 + 1 + 1) T (.agg xs.toArray) (.agg ys.toArray)) = some u
        rw [spv_equalIn_struct _ _ _ _ fs hf hb.1]
        exact eqF_spv ht hu
      simp [pv, execOp, h1, h2, eqGuard, binOp, spv_bind, spv_pure, spv_map, val?, spv_program, hb.2, he]
  · cases ht
end Ice

namespace Go.Proofs.YtoiakcgdkegncaaGreat
open Go.RowKit Ice
attribute [local irreducible] CC RR Tr
structure MsgS where
  kind : Int
  from_ : Int
  to_ : Int
  epoch : Int
  tick : Int
  seq : Int
  n : Int
  id : Int
  op : Int
  key : Txt
  err : Int
  last : Bool
  item : ItemS
  items : List ItemS
  marks : List (Int × Txt)
  members : List Int
  base : Int
  old : List Int
structure MsgL where
  iv : Value
  mv : Value
  ev : Value
  ov : Value
def msg0 : MsgS := ⟨0, 0, 0, 0, 0, 0, 0, 0, 0, [], 0, false, item0, [], [], [], 0, []⟩
abbrev nilS : Value := .slice none 0 0
def msgL0 : MsgL := ⟨nilS, nilS, nilS, nilS⟩
def msgV (m : MsgS) (L : MsgL) : List Value :=
  [i64 m.kind, i64 m.from_, i64 m.to_, i64 m.epoch, i64 m.tick, i64 m.seq, i64 m.n, i64 m.id, i64 m.op, str m.key, i64 m.err, .bool m.last,
   str m.item.key, str m.item.val, i64 m.item.end_, .bool m.item.gone, L.iv, L.mv, L.ev, i64 m.base, L.ov]
abbrev msgA (m : MsgS) (L : MsgL) : Value := .agg (msgV m L).toArray
def msgIn (U : Pool) (m : MsgS) (L : MsgL) : Prop :=
  inSl U L.iv 62 4 m.items.length (m.items.flatMap itemV) ∧ inSl U L.mv 206 2 m.marks.length (m.marks.flatMap fun x => [i64 x.1, str x.2]) ∧
  inSl U L.ev 3 1 m.members.length (m.members.map i64) ∧ inSl U L.ov 3 1 m.old.length (m.old.map i64)
theorem msgIn.mono {U V : Pool} {m : MsgS} {L : MsgL} (h : msgIn U m L) (k : Sub U V) : msgIn V m L := ⟨h.1.mono k, h.2.1.mono k, h.2.2.1.mono k, h.2.2.2.mono k⟩
def inN (great : Int) (ns : List Int) : Bool := ns.all fun n => !(decide (n < 0) || decide (great < n))
theorem inN_step {great : Int} {ns : List Int} {j : Nat} {n : Int} (h : ns[j]? = some n) : inN great (ns.drop j) = (!(decide (n < 0) || decide (great < n)) && inN great (ns.drop (j + 1))) := by
  rw [drop_cons_get h]; rfl
theorem min_tr (great : Int) (v : Value) (ns : List Int) (X : SL) (hv : View X v 2 1 ns.length (ns.map i64)) (hl : ns.length ≤ 2 ^ 20) :
    Tr Tryz.prog 66 #[i64 great, v] X (fun r => pu (r = .bool (inN great ns)) * X) := by
  obtain ⟨base, cap, rfl⟩ := hv.val
  refine tr_body Tryz.func66 (by kernel_rfl) rfl Tryz.ntmps66 rfl (L := [(0, i64 great), (1, .slice base ns.length cap)]) (covers_cons rfl (covers_cons rfl covers_nil)) rfl ?_
  intro F w0 f
  refine cc_seq ?_
  refine cc_region ?_
  refine rr_assign rfl rfl ?_
  refine rr_nil ?_
  refine cc_seq ?_
  refine cc_seq ?_
  refine cc_region ?_
  refine rr_move rfl rfl ?_
  refine r_lens rfl rfl ?_
  refine rr_move rfl rfl ?_
  refine rr_nil ?_
  refine cc_block ?_
  refine cc_loopW (α := Nat) (fun j => [(9, i64 j), (8, i64 ns.length), (7, .slice base ns.length cap), (0, i64 great)]) (fun j => pu (j ≤ ns.length ∧ inN great ns = inN great (ns.drop j)) * (X * F)) (fun j => ns.length - j) (0) (by ((repeat' (first | exact covers_nil | (refine covers_cons ?_ ?_; focus (first | rfl | (simp [lk, lk?]; done))))) ; (first | done | fail))) (by exact entW_pu ⟨by omega, rfl⟩ entW_fr) ?_
  rintro j f
  refine CC.pu fun hj => ?_
  refine cc_seq ?_
  refine cc_region ?_
  refine r_int rfl rfl rfl rfl ?_
  refine rr_nil ?_
  refine cc_seq ?_
  refine cc_cond rfl (fun h10 => ?_) (fun h10 => ?_)
  · try simp only [decide_eq_true_eq, decide_eq_false_iff_not, beq_iff_eq, beq_eq_false_iff_ne, bne_iff_ne, bne_eq_false_iff_eq, ne_eq, Bool.not_eq_eq_eq_not, Bool.not_true, Bool.not_false] at h10
    obtain ⟨n, hn⟩ := lt_get (l := ns) (j := j) (by omega)
    obtain ⟨b, o, cap', cs, e1, e2, e3⟩ := hv.get1 rfl rfl hn
    simp only [Value.slice.injEq] at e1
    obtain ⟨rfl, _, rfl⟩ := e1
    have hst := inN_step (great := great) hn
    refine cc_skip ?_
    refine cc_seq ?_
    refine cc_block ?_
    refine cc_seq ?_
    refine cc_region ?_
    refine r_ix rfl rfl rfl (by omega) ?_
    refine r_ld rfl (ls0 rfl) e3 rfl ?_
    refine rr_assign rfl rfl ?_
    refine rr_nil ?_
    refine cc_seq ?_
    refine cc_region ?_
    refine rr_move rfl rfl ?_
    refine r_int rfl rfl rfl rfl ?_
    refine rr_move rfl rfl ?_
    refine rr_guard rfl rfl rfl (fun hg4_2 => ?_) (fun hg4_2 => ?_)
    · refine rr_move rfl rfl ?_
      refine rr_guardY rfl rfl rfl ?_
      refine rr_move rfl rfl ?_
      refine rr_guardY rfl rfl rfl ?_
      refine r_int rfl rfl rfl rfl ?_
      first | refine rr_pick rfl rfl ?_ | refine rr_pickb rfl rfl rfl rfl ?_
      refine rr_nil ?_
      refine cc_cond rfl (fun h19 => ?_) (fun h19 => ?_)
      · try simp only [decide_eq_true_eq, decide_eq_false_iff_not, beq_iff_eq, beq_eq_false_iff_ne, bne_iff_ne, bne_eq_false_iff_eq, ne_eq, Bool.not_eq_eq_eq_not, Bool.not_true, Bool.not_false] at h19
        try (exfalso; simp at h19; done)
        all_goals (
          have hfin : inN great ns = false := by
            rw [hj.2, hst]; grind
          refine cc_seq ?_
          refine cc_region ?_
          refine rr_assign rfl rfl ?_
          refine rr_nil ?_
          refine cc_ret ?_
          exact ⟨_, rfl, entW_pu2 (by rw [hfin]) entW_fr⟩)
      · try simp only [decide_eq_true_eq, decide_eq_false_iff_not, beq_iff_eq, beq_eq_false_iff_ne, bne_iff_ne, bne_eq_false_iff_eq, ne_eq, Bool.not_eq_eq_eq_not, Bool.not_true, Bool.not_false] at h19
        try (exfalso; simp at h19; done)
        all_goals (
          have hgo : inN great ns = inN great (ns.drop (j + 1)) := by
            rw [hj.2, hst]; grind
          refine cc_skip ?_
          refine cc_region ?_
          refine r_add rfl rfl rfl (by omega) ?_
          refine rr_move rfl rfl ?_
          refine rr_nil ?_
          exact ⟨j + 1, by omega, by ((repeat' (first | exact covers_nil | (refine covers_cons ?_ ?_; focus (first | rfl | (simp [lk, lk?]; done))))) ; (first | done | fail)), entW_pu ⟨by omega, hgo⟩ entW_fr⟩)
    · refine rr_guardN rfl rfl rfl rfl ?_
      refine rr_guardN rfl rfl rfl rfl ?_
      first | refine rr_pick rfl rfl ?_ | refine rr_pickb rfl rfl rfl rfl ?_
      refine rr_nil ?_
      refine cc_cond rfl (fun h19 => ?_) (fun h19 => ?_)
      · try simp only [decide_eq_true_eq, decide_eq_false_iff_not, beq_iff_eq, beq_eq_false_iff_ne, bne_iff_ne, bne_eq_false_iff_eq, ne_eq, Bool.not_eq_eq_eq_not, Bool.not_true, Bool.not_false] at h19
        try (exfalso; simp at h19; done)
        all_goals (
          have hfin : inN great ns = false := by
            rw [hj.2, hst]; grind
          refine cc_seq ?_
          refine cc_region ?_
          refine rr_assign rfl rfl ?_
          refine rr_nil ?_
          refine cc_ret ?_
          exact ⟨_, rfl, entW_pu2 (by rw [hfin]) entW_fr⟩)
      · try simp only [decide_eq_true_eq, decide_eq_false_iff_not, beq_iff_eq, beq_eq_false_iff_ne, bne_iff_ne, bne_eq_false_iff_eq, ne_eq, Bool.not_eq_eq_eq_not, Bool.not_true, Bool.not_false] at h19
        try (exfalso; simp at h19; done)
        all_goals (
          have hgo : inN great ns = inN great (ns.drop (j + 1)) := by
            rw [hj.2, hst]; grind
          refine cc_skip ?_
          refine cc_region ?_
          refine r_add rfl rfl rfl (by omega) ?_
          refine rr_move rfl rfl ?_
          refine rr_nil ?_
          exact ⟨j + 1, by omega, by ((repeat' (first | exact covers_nil | (refine covers_cons ?_ ?_; focus (first | rfl | (simp [lk, lk?]; done))))) ; (first | done | fail)), entW_pu ⟨by omega, hgo⟩ entW_fr⟩)
  · try simp only [decide_eq_true_eq, decide_eq_false_iff_not, beq_iff_eq, beq_eq_false_iff_ne, bne_iff_ne, bne_eq_false_iff_eq, ne_eq, Bool.not_eq_eq_eq_not, Bool.not_true, Bool.not_false] at h10
    have hfin : inN great ns = true := by rw [hj.2, List.drop_of_length_le (by omega)]; rfl
    refine cc_exit ?_
    refine cc_seq ?_
    refine cc_region ?_
    refine rr_assign rfl rfl ?_
    refine rr_nil ?_
    refine cc_ret ?_
    exact ⟨_, rfl, entW_pu2 (by rw [hfin]) entW_fr⟩
def marksOK (l : Int) (ms : List (Int × Txt)) : Bool := match ms with
  | [] => true
  | x :: r => !(decide (x.1 ≤ l) || decide (1099511627776 < x.1) || !keyOk x.2) && marksOK x.1 r
def listsOK (m : MsgS) : Bool :=
  marksOK 0 m.marks && m.items.all itemMay && decide ((m.items.length : Int) ≤ 4) && decide ((m.marks.length : Int) ≤ 4) && ((m.members.length : Int) == 0 || mayP m.members) && ((m.old.length : Int) == 0 || mayP m.old)
def markV2 (x : Int × Txt) : List Value := [i64 x.1, str x.2]
theorem lists_tr (U : Pool) (m : MsgS) (L : MsgL) (h : msgIn U m L) (hm : listsOK m = true) (hl1 : m.members.length ≤ 2 ^ 20) (hl2 : m.old.length ≤ 2 ^ 20) :
    Tr Tryz.prog 67 #[msgA m L] (poolR U) (fun r => pu (r = .bool true) * poolR U) := by
  obtain ⟨iv, mv, ev, ov⟩ := L
  obtain ⟨h1, h2, h3, h4⟩ := h
  have v1 := h1.view; have v2 := h2.view; have v3 := h3.view; have v4 := h4.view
  simp only at v1 v2 v3 v4
  obtain ⟨ib, ic, rfl⟩ := v1.val
  obtain ⟨mb, mc, rfl⟩ := v2.val
  obtain ⟨eb, ec, rfl⟩ := v3.val
  obtain ⟨ob, oc, rfl⟩ := v4.val
  simp only [listsOK, Bool.and_eq_true, Bool.or_eq_true, decide_eq_true_eq, beq_iff_eq] at hm
  obtain ⟨⟨⟨⟨⟨a1, a2⟩, a3⟩, a4⟩, a5⟩, a6⟩ := hm
  have hwm : ∀ x ∈ m.marks, (markV2 x).length = 2 := fun _ _ => rfl
  have hwi : ∀ x ∈ m.items, (itemV x).length = 4 := fun _ _ => rfl
  refine tr_body Tryz.func67 (by kernel_rfl) rfl Tryz.ntmps67 rfl (L := [(0, msgA m ⟨.slice ib m.items.length ic, .slice mb m.marks.length mc, .slice eb m.members.length ec, .slice ob m.old.length oc⟩)]) (covers_cons rfl covers_nil) rfl ?_
  intro F w0 f
  refine cc_seq ?_
  refine cc_region ?_
  refine r_boxa rfl rfl (sd0 rfl) (fun _ => sd0 rfl) (fun p0_0 => ?_)
  refine rr_assign rfl rfl ?_
  refine rr_nil ?_
  refine cc_seq ?_
  refine cc_region ?_
  refine rr_assign rfl rfl ?_
  refine rr_nil ?_
  refine cc_seq ?_
  refine cc_seq ?_
  refine cc_region ?_
  refine r_fa rfl rfl ?_
  refine r_ld rfl (ls0 rfl) rfl rfl ?_
  refine r_lens rfl rfl ?_
  refine rr_move rfl rfl ?_
  refine rr_nil ?_
  refine cc_block ?_
  refine cc_loopW (α := (Nat × Int)) (fun ⟨j, lt⟩ => [(11, i64 j), (10, i64 m.marks.length), (9, .slice mb m.marks.length mc), (3, i64 lt), (1, ptr p0_0)]) (fun ⟨j, lt⟩ => pu (j ≤ m.marks.length ∧ marksOK lt (m.marks.drop j) = true) * (bl p0_0 66 (msgV m ⟨.slice ib m.items.length ic, .slice mb m.marks.length mc, .slice eb m.members.length ec, .slice ob m.old.length oc⟩) * poolR U * F)) (fun ⟨j, lt⟩ => m.marks.length - j) ((0, 0)) (by ((repeat' (first | exact covers_nil | (refine covers_cons ?_ ?_; focus (first | rfl | (simp [lk, lk?]; done))))) ; (first | done | fail))) (by exact entW_pu ⟨by omega, a1⟩ entW_fr) ?_
  rintro ⟨j, lt⟩ f
  refine CC.pu fun hj => ?_
  refine cc_seq ?_
  refine cc_region ?_
  refine r_int rfl rfl rfl rfl ?_
  refine rr_nil ?_
  refine cc_seq ?_
  refine cc_cond rfl (fun h12 => ?_) (fun h12 => ?_)
  · try simp only [decide_eq_true_eq, decide_eq_false_iff_not, beq_iff_eq, beq_eq_false_iff_ne, bne_iff_ne, bne_eq_false_iff_eq, ne_eq, Bool.not_eq_eq_eq_not, Bool.not_true, Bool.not_false] at h12
    obtain ⟨x, hx⟩ := lt_get (l := m.marks) (j := j) (by omega)
    have hst := hj.2
    rw [drop_cons_get hx] at hst
    simp only [marksOK, Bool.and_eq_true, Bool.not_eq_true', Bool.or_eq_false_iff, Bool.not_eq_false'] at hst
    obtain ⟨⟨⟨s1, s2⟩, s3⟩, s4⟩ := hst
    obtain ⟨b, o, cap', cs, e1, e2, e3, e4⟩ := v2.get (g := markV2) rfl hwm rfl hx
    simp only [Value.slice.injEq] at e1
    obtain ⟨rfl, _, rfl⟩ := e1
    refine cc_skip ?_
    refine cc_seq ?_
    refine cc_block ?_
    refine cc_seq ?_
    refine cc_region ?_
    refine r_ix rfl rfl rfl (by omega) ?_
    refine r_lda rfl (ls0 rfl) e3 rfl ?_
    refine r_alloc rfl (sd0 rfl) (fun _ => sd0 rfl) (fun p4_2 => ?_)
    refine r_sta (cs' := markV2 x) rfl rfl rfl rfl rfl (Nat.le_of_ble_eq_true rfl) (sd0 rfl) (sd0 rfl) ?_
    refine rr_nil ?_
    refine cc_seq ?_
    refine cc_seq ?_
    refine cc_region ?_
    refine r_fa rfl rfl ?_
    refine r_ld rfl (ls0 rfl) rfl rfl ?_
    refine rr_move rfl rfl ?_
    refine r_int rfl rfl rfl rfl ?_
    rw [s1]
    refine rr_move rfl rfl ?_
    refine rr_guardY rfl rfl rfl ?_
    refine r_fa rfl rfl ?_
    refine rr_guardY rfl rfl rfl ?_
    refine r_ld rfl (ls0 rfl) rfl rfl ?_
    refine rr_guardY rfl rfl rfl ?_
    refine r_int rfl rfl rfl rfl ?_
    rw [s2]
    first | refine rr_pick rfl rfl ?_ | refine rr_pickb rfl rfl rfl rfl ?_
    refine rr_move rfl rfl ?_
    refine rr_guardY rfl rfl rfl ?_
    refine r_fa rfl rfl ?_
    refine rr_guardY rfl rfl rfl ?_
    refine r_ld rfl (ls0 rfl) rfl rfl ?_
    refine rr_guardY rfl rfl rfl ?_
    refine rr_call rfl rfl rfl rfl (key_tr x.2) inferInstance rfl (sd0 rfl) (fun _ => sd0 rfl) rfl (fun v => ?_)
    first | refine RR.pu2 ?_ | refine RR.pu ?_
    rintro rfl
    refine rr_guardY rfl rfl rfl ?_
    refine r_not rfl rfl ?_
    rw [s3]
    first | refine rr_pick rfl rfl ?_ | refine rr_pickb rfl rfl rfl rfl ?_
    refine rr_nil ?_
    refine cc_condF rfl ?_
    refine cc_skip ?_
    refine cc_region ?_
    refine r_fa rfl rfl ?_
    refine r_ld rfl (ls0 rfl) rfl rfl ?_
    refine rr_assign rfl rfl ?_
    refine rr_nil ?_
    refine cc_region ?_
    refine r_add rfl rfl rfl (by omega) ?_
    refine rr_move rfl rfl ?_
    refine rr_nil ?_
    exact ⟨(j + 1, x.1), (by show m.marks.length - (j + 1) < m.marks.length - j; omega), by ((repeat' (first | exact covers_nil | (refine covers_cons ?_ ?_; focus (first | rfl | (simp [lk, lk?]; done))))) ; (first | done | fail)), entW_pu ⟨by omega, s4⟩ entW_fr⟩
  · try simp only [decide_eq_true_eq, decide_eq_false_iff_not, beq_iff_eq, beq_eq_false_iff_ne, bne_iff_ne, bne_eq_false_iff_eq, ne_eq, Bool.not_eq_eq_eq_not, Bool.not_true, Bool.not_false] at h12
    refine cc_exit ?_
    refine cc_seq ?_
    refine cc_seq ?_
    refine cc_region ?_
    refine r_fa rfl rfl ?_
    refine r_ld rfl (ls0 rfl) rfl rfl ?_
    refine r_lens rfl rfl ?_
    refine rr_move rfl rfl ?_
    refine rr_nil ?_
    refine cc_block ?_
    refine cc_loopW (α := Nat) (fun j => [(36, i64 j), (35, i64 m.items.length), (34, .slice ib m.items.length ic), (1, ptr p0_0)]) (fun j => pu (j ≤ m.items.length) * (bl p0_0 66 (msgV m ⟨.slice ib m.items.length ic, .slice mb m.marks.length mc, .slice eb m.members.length ec, .slice ob m.old.length oc⟩) * poolR U * F)) (fun j => m.items.length - j) (0) (by ((repeat' (first | exact covers_nil | (refine covers_cons ?_ ?_; focus (first | rfl | (simp [lk, lk?]; done))))) ; (first | done | fail))) (by exact entW_pu (by omega) entW_fr) ?_
    rintro j f
    refine CC.pu fun hj => ?_
    refine cc_seq ?_
    refine cc_region ?_
    refine r_int rfl rfl rfl rfl ?_
    refine rr_nil ?_
    refine cc_seq ?_
    refine cc_cond rfl (fun h37 => ?_) (fun h37 => ?_)
    · try simp only [decide_eq_true_eq, decide_eq_false_iff_not, beq_iff_eq, beq_eq_false_iff_ne, bne_iff_ne, bne_eq_false_iff_eq, ne_eq, Bool.not_eq_eq_eq_not, Bool.not_true, Bool.not_false] at h37
      obtain ⟨x, hx⟩ := lt_get (l := m.items) (j := j) (by omega)
      have hix : itemMay x = true := List.all_eq_true.1 a2 x (get_mem hx)
      obtain ⟨b, o, cap', cs, e1, e2, e3, e4⟩ := v1.get (g := itemV) rfl hwi rfl hx
      simp only [Value.slice.injEq] at e1
      obtain ⟨rfl, _, rfl⟩ := e1
      refine cc_skip ?_
      refine cc_seq ?_
      refine cc_block ?_
      refine cc_seq ?_
      refine cc_region ?_
      refine r_ix rfl rfl rfl (by omega) ?_
      refine r_lda rfl (ls0 rfl) e3 rfl ?_
      refine r_alloc rfl (sd0 rfl) (fun _ => sd0 rfl) (fun p11_2 => ?_)
      refine r_sta (cs' := itemV x) rfl rfl rfl rfl rfl (Nat.le_of_ble_eq_true rfl) (sd0 rfl) (sd0 rfl) ?_
      refine rr_nil ?_
      refine cc_seq ?_
      refine cc_region ?_
      refine r_lda rfl (ls0 rfl) rfl rfl ?_
      refine rr_call rfl rfl rfl rfl (imay_tr x) inferInstance rfl (sd0 rfl) (fun _ => sd0 rfl) rfl (fun v => ?_)
      first | refine RR.pu2 ?_ | refine RR.pu ?_
      rintro rfl
      refine r_not rfl rfl ?_
      rw [hix]
      refine rr_nil ?_
      refine cc_condF rfl ?_
      refine cc_skip ?_
      refine cc_region ?_
      refine r_add rfl rfl rfl (by omega) ?_
      refine rr_move rfl rfl ?_
      refine rr_nil ?_
      exact ⟨j + 1, by omega, by ((repeat' (first | exact covers_nil | (refine covers_cons ?_ ?_; focus (first | rfl | (simp [lk, lk?]; done))))) ; (first | done | fail)), entW_pu (by omega) entW_fr⟩
    · try simp only [decide_eq_true_eq, decide_eq_false_iff_not, beq_iff_eq, beq_eq_false_iff_ne, bne_iff_ne, bne_eq_false_iff_eq, ne_eq, Bool.not_eq_eq_eq_not, Bool.not_true, Bool.not_false] at h37
      refine cc_exit ?_
      refine cc_seq ?_
      refine cc_region ?_
      refine r_fa rfl rfl ?_
      refine r_ld rfl (ls0 rfl) rfl rfl ?_
      refine r_lens rfl rfl ?_
      refine r_int rfl rfl rfl rfl ?_
      rw [show decide ((m.items.length : Int) ≤ 4) = true by simp; omega]
      refine rr_move rfl rfl ?_
      refine rr_guardY rfl rfl rfl ?_
      refine r_fa rfl rfl ?_
      refine rr_guardY rfl rfl rfl ?_
      refine r_ld rfl (ls0 rfl) rfl rfl ?_
      refine rr_guardY rfl rfl rfl ?_
      refine r_lens rfl rfl ?_
      refine rr_guardY rfl rfl rfl ?_
      refine r_int rfl rfl rfl rfl ?_
      rw [show decide ((m.marks.length : Int) ≤ 4) = true by simp; omega]
      first | refine rr_pick rfl rfl ?_ | refine rr_pickb rfl rfl rfl rfl ?_
      refine rr_move rfl rfl ?_
      refine rr_guardY rfl rfl rfl ?_
      refine r_fa rfl rfl ?_
      refine rr_guardY rfl rfl rfl ?_
      refine r_ld rfl (ls0 rfl) rfl rfl ?_
      refine rr_guardY rfl rfl rfl ?_
      refine r_lens rfl rfl ?_
      refine rr_guardY rfl rfl rfl ?_
      refine r_int rfl rfl rfl rfl ?_
      refine rr_guardY rfl rfl rfl ?_
      refine rr_move rfl rfl ?_
      refine rr_guard rfl rfl rfl (fun hg15_15 => ?_) (fun hg15_15 => ?_)
      · refine r_fa rfl rfl ?_
        refine rr_guardY rfl rfl rfl ?_
        refine r_ld rfl (ls0 rfl) rfl rfl ?_
        refine rr_guardY rfl rfl rfl ?_
        refine rr_call rfl rfl rfl rfl (ptsMay_tr (.slice eb m.members.length ec) m.members (poolR U) v3 hl1) inferInstance rfl (sd0 rfl) (fun _ => sd0 rfl) rfl (fun v => ?_)
        first | refine RR.pu2 ?_ | refine RR.pu ?_
        rintro rfl
        rw [show mayP m.members = true by grind]
        refine rr_guardY rfl rfl rfl ?_
        first | refine rr_pick rfl rfl ?_ | refine rr_pickb rfl rfl rfl rfl ?_
        first | refine rr_pick rfl rfl ?_ | refine rr_pickb rfl rfl rfl rfl ?_
        refine rr_move rfl rfl ?_
        refine rr_guardY rfl rfl rfl ?_
        refine r_fa rfl rfl ?_
        refine rr_guardY rfl rfl rfl ?_
        refine r_ld rfl (ls0 rfl) rfl rfl ?_
        refine rr_guardY rfl rfl rfl ?_
        refine r_lens rfl rfl ?_
        refine rr_guardY rfl rfl rfl ?_
        refine r_int rfl rfl rfl rfl ?_
        refine rr_guardY rfl rfl rfl ?_
        refine rr_move rfl rfl ?_
        refine rr_guard rfl rfl rfl (fun hg15_26 => ?_) (fun hg15_26 => ?_)
        · refine r_fa rfl rfl ?_
          refine rr_guardY rfl rfl rfl ?_
          refine r_ld rfl (ls0 rfl) rfl rfl ?_
          refine rr_guardY rfl rfl rfl ?_
          refine rr_call rfl rfl rfl rfl (ptsMay_tr (.slice ob m.old.length oc) m.old (poolR U) v4 hl2) inferInstance rfl (sd0 rfl) (fun _ => sd0 rfl) rfl (fun v => ?_)
          first | refine RR.pu2 ?_ | refine RR.pu ?_
          rintro rfl
          rw [show mayP m.old = true by grind]
          refine rr_guardY rfl rfl rfl ?_
          first | refine rr_pick rfl rfl ?_ | refine rr_pickb rfl rfl rfl rfl ?_
          first | refine rr_pick rfl rfl ?_ | refine rr_pickb rfl rfl rfl rfl ?_
          refine rr_assign rfl rfl ?_
          refine rr_nil ?_
          refine cc_ret ?_
          exact ⟨_, rfl, entW_pu2 (by first | rfl | grind) entW_fr⟩
        · refine rr_guardN rfl rfl rfl rfl ?_
          refine rr_guardN rfl rfl rfl rfl ?_
          refine rr_guardY rfl rfl rfl ?_
          first | refine rr_pick rfl rfl ?_ | refine rr_pickb rfl rfl rfl rfl ?_
          first | refine rr_pick rfl rfl ?_ | refine rr_pickb rfl rfl rfl rfl ?_
          refine rr_assign rfl rfl ?_
          refine rr_nil ?_
          refine cc_ret ?_
          exact ⟨_, rfl, entW_pu2 (by first | rfl | grind) entW_fr⟩
      · refine rr_guardN rfl rfl rfl rfl ?_
        refine rr_guardN rfl rfl rfl rfl ?_
        refine rr_guardY rfl rfl rfl ?_
        first | refine rr_pick rfl rfl ?_ | refine rr_pickb rfl rfl rfl rfl ?_
        first | refine rr_pick rfl rfl ?_ | refine rr_pickb rfl rfl rfl rfl ?_
        refine rr_move rfl rfl ?_
        refine rr_guardY rfl rfl rfl ?_
        refine r_fa rfl rfl ?_
        refine rr_guardY rfl rfl rfl ?_
        refine r_ld rfl (ls0 rfl) rfl rfl ?_
        refine rr_guardY rfl rfl rfl ?_
        refine r_lens rfl rfl ?_
        refine rr_guardY rfl rfl rfl ?_
        refine r_int rfl rfl rfl rfl ?_
        refine rr_guardY rfl rfl rfl ?_
        refine rr_move rfl rfl ?_
        refine rr_guard rfl rfl rfl (fun hg15_26 => ?_) (fun hg15_26 => ?_)
        · refine r_fa rfl rfl ?_
          refine rr_guardY rfl rfl rfl ?_
          refine r_ld rfl (ls0 rfl) rfl rfl ?_
          refine rr_guardY rfl rfl rfl ?_
          refine rr_call rfl rfl rfl rfl (ptsMay_tr (.slice ob m.old.length oc) m.old (poolR U) v4 hl2) inferInstance rfl (sd0 rfl) (fun _ => sd0 rfl) rfl (fun v => ?_)
          first | refine RR.pu2 ?_ | refine RR.pu ?_
          rintro rfl
          rw [show mayP m.old = true by grind]
          refine rr_guardY rfl rfl rfl ?_
          first | refine rr_pick rfl rfl ?_ | refine rr_pickb rfl rfl rfl rfl ?_
          first | refine rr_pick rfl rfl ?_ | refine rr_pickb rfl rfl rfl rfl ?_
          refine rr_assign rfl rfl ?_
          refine rr_nil ?_
          refine cc_ret ?_
          exact ⟨_, rfl, entW_pu2 (by first | rfl | grind) entW_fr⟩
        · refine rr_guardN rfl rfl rfl rfl ?_
          refine rr_guardN rfl rfl rfl rfl ?_
          refine rr_guardY rfl rfl rfl ?_
          first | refine rr_pick rfl rfl ?_ | refine rr_pickb rfl rfl rfl rfl ?_
          first | refine rr_pick rfl rfl ?_ | refine rr_pickb rfl rfl rfl rfl ?_
          refine rr_assign rfl rfl ?_
          refine rr_nil ?_
          refine cc_ret ?_
          exact ⟨_, rfl, entW_pu2 (by first | rfl | grind) entW_fr⟩
end Go.Proofs.YtoiakcgdkegncaaGreat

namespace Go.Proofs.YtoiakcgdkegncaaGreat
open Go.RowKit Ice
attribute [local irreducible] CC RR Tr
instance : TFl Tryz.prog 62 [(0, 2), (1, 2), (2, 1), (3, 0)] := ⟨by kernel_rfl⟩
def isI0 (x : ItemS) : Bool := x.key == [] && (x.val == [] && (x.end_ == 0 && x.gone == false))
theorem empty_list : ByteArray.empty.toList = [] := by rw [ByteArray.toList_eq]; rfl
theorem ite_some (c b : Bool) : (if c = true then some b else some false) = some (c && b) := by cases c <;> rfl
theorem ite_some1 (c : Bool) : (if c = true then some true else some false) = some c := by cases c <;> rfl
theorem eqL_i0 (x : ItemS) : eqL (itemV x) [.string ByteArray.empty, .string ByteArray.empty, i64 0, .bool false] [(0, 2), (1, 2), (2, 1), (3, 0)] = some (isI0 x) := by
  simp only [eqL, itemV, nth, txt_toList, empty_list, if_true]
  rw [ite_some1, ite_some, ite_some, ite_some]
  rfl
def mayMsg (m : MsgS) : Bool :=
  !decide (m.kind < 1) && !decide (14 < m.kind) && !(m.from_ == m.to_) && inN 5 [m.from_, m.to_] && inN 1099511627776 [m.epoch, m.tick, m.seq, m.id, m.base] && inN 1073741824 [m.n] &&
  inN 2 [m.op] && decide ((m.key.length : Int) ≤ 40) && inN 10 [m.err] && (isI0 m.item || itemMay m.item) && listsOK m
theorem msgMay_tr (U : Pool) (m : MsgS) (L : MsgL) (h : msgIn U m L) (hm : mayMsg m = true) (hl1 : m.members.length ≤ 2 ^ 20) (hl2 : m.old.length ≤ 2 ^ 20) :
    Tr Tryz.prog 31 #[msgA m L] (poolR U) (fun r => pu (r = .bool true) * poolR U) := by
  simp only [mayMsg, Bool.and_eq_true, Bool.not_eq_true', decide_eq_true_eq] at hm
  obtain ⟨⟨⟨⟨⟨⟨⟨⟨⟨⟨a1, a2⟩, a3⟩, a4⟩, a5⟩, a6⟩, a7⟩, a8⟩, a9⟩, a10⟩, a11⟩ := hm
  refine tr_body Tryz.func31 (by kernel_rfl) rfl Tryz.ntmps31 rfl (L := [(0, msgA m L)]) (covers_cons rfl covers_nil) rfl ?_
  intro F w0 f
  refine cc_seq ?_
  refine cc_region ?_
  refine r_boxa rfl rfl (sd0 rfl) (fun _ => sd0 rfl) (fun p0_0 => ?_)
  refine rr_assign rfl rfl ?_
  refine rr_nil ?_
  refine cc_seq ?_
  refine cc_seq ?_
  refine cc_region ?_
  refine r_fa rfl rfl ?_
  refine r_ld rfl (ls0 rfl) rfl rfl ?_
  refine r_int rfl rfl rfl rfl ?_
  rw [a1]
  refine rr_move rfl rfl ?_
  refine rr_guardY rfl rfl rfl ?_
  refine r_fa rfl rfl ?_
  refine rr_guardY rfl rfl rfl ?_
  refine r_ld rfl (ls0 rfl) rfl rfl ?_
  refine rr_guardY rfl rfl rfl ?_
  refine r_int rfl rfl rfl rfl ?_
  rw [a2]
  first | refine rr_pick rfl rfl ?_ | refine rr_pickb rfl rfl rfl rfl ?_
  refine rr_move rfl rfl ?_
  refine rr_guardY rfl rfl rfl ?_
  refine r_fa rfl rfl ?_
  refine rr_guardY rfl rfl rfl ?_
  refine r_ld rfl (ls0 rfl) rfl rfl ?_
  refine rr_guardY rfl rfl rfl ?_
  refine r_fa rfl rfl ?_
  refine rr_guardY rfl rfl rfl ?_
  refine r_ld rfl (ls0 rfl) rfl rfl ?_
  refine rr_guardY rfl rfl rfl ?_
  refine r_int rfl rfl rfl rfl ?_
  rw [a3]
  first | refine rr_pick rfl rfl ?_ | refine rr_pickb rfl rfl rfl rfl ?_
  refine rr_move rfl rfl ?_
  refine rr_guardY rfl rfl rfl ?_
  refine r_fa rfl rfl ?_
  refine rr_guardY rfl rfl rfl ?_
  refine r_ld rfl (ls0 rfl) rfl rfl ?_
  refine rr_guardY rfl rfl rfl ?_
  refine r_fa rfl rfl ?_
  refine rr_guardY rfl rfl rfl ?_
  refine r_ld rfl (ls0 rfl) rfl rfl ?_
  refine rr_guardY rfl rfl rfl ?_
  refine r_bsl (cs := [i64 m.from_, i64 m.to_]) rfl rfl rfl rfl rfl rfl (by first | exact sd0 rfl | exact sd1 rfl) (fun _ => by first | exact sd0 rfl | exact sd1 rfl) (fun p1_20 => ?_)
  refine rr_guardY rfl rfl rfl ?_
  refine rr_call rfl rfl rfl rfl (min_tr 5 (.slice (some ⟨p1_20, 0, none⟩) 2 2) [m.from_, m.to_] (bl p1_20 2 [i64 m.from_, i64 m.to_]) (View.blk0 rfl (by omega)) (by simp)) inferInstance rfl (sd0 rfl) (fun _ => sd0 rfl) rfl (fun v => ?_)
  first | refine RR.pu2 ?_ | refine RR.pu ?_
  rintro rfl
  rw [a4]
  refine rr_guardY rfl rfl rfl ?_
  refine r_not rfl rfl ?_
  first | refine rr_pick rfl rfl ?_ | refine rr_pickb rfl rfl rfl rfl ?_
  refine rr_move rfl rfl ?_
  refine rr_guardY rfl rfl rfl ?_
  refine r_fa rfl rfl ?_
  refine rr_guardY rfl rfl rfl ?_
  refine r_ld rfl (ls0 rfl) rfl rfl ?_
  refine rr_guardY rfl rfl rfl ?_
  refine r_fa rfl rfl ?_
  refine rr_guardY rfl rfl rfl ?_
  refine r_ld rfl (ls0 rfl) rfl rfl ?_
  refine rr_guardY rfl rfl rfl ?_
  refine r_fa rfl rfl ?_
  refine rr_guardY rfl rfl rfl ?_
  refine r_ld rfl (ls0 rfl) rfl rfl ?_
  refine rr_guardY rfl rfl rfl ?_
  refine r_fa rfl rfl ?_
  refine rr_guardY rfl rfl rfl ?_
  refine r_ld rfl (ls0 rfl) rfl rfl ?_
  refine rr_guardY rfl rfl rfl ?_
  refine r_fa rfl rfl ?_
  refine rr_guardY rfl rfl rfl ?_
  refine r_ld rfl (ls0 rfl) rfl rfl ?_
  refine rr_guardY rfl rfl rfl ?_
  refine r_bsl (cs := [i64 m.epoch, i64 m.tick, i64 m.seq, i64 m.id, i64 m.base]) rfl rfl rfl rfl rfl rfl (by first | exact sd0 rfl | exact sd1 rfl) (fun _ => by first | exact sd0 rfl | exact sd1 rfl) (fun p1_35 => ?_)
  refine rr_guardY rfl rfl rfl ?_
  refine rr_call rfl rfl rfl rfl (min_tr 1099511627776 (.slice (some ⟨p1_35, 0, none⟩) 5 5) [m.epoch, m.tick, m.seq, m.id, m.base] (bl p1_35 2 [i64 m.epoch, i64 m.tick, i64 m.seq, i64 m.id, i64 m.base]) (View.blk0 rfl (by omega)) (by simp)) inferInstance rfl (sd0 rfl) (fun _ => sd0 rfl) rfl (fun v => ?_)
  first | refine RR.pu2 ?_ | refine RR.pu ?_
  rintro rfl
  rw [a5]
  refine rr_guardY rfl rfl rfl ?_
  refine r_not rfl rfl ?_
  first | refine rr_pick rfl rfl ?_ | refine rr_pickb rfl rfl rfl rfl ?_
  refine rr_move rfl rfl ?_
  refine rr_guardY rfl rfl rfl ?_
  refine r_fa rfl rfl ?_
  refine rr_guardY rfl rfl rfl ?_
  refine r_ld rfl (ls0 rfl) rfl rfl ?_
  refine rr_guardY rfl rfl rfl ?_
  refine r_bsl (cs := [i64 m.n]) rfl rfl rfl rfl rfl rfl (by first | exact sd0 rfl | exact sd1 rfl) (fun _ => by first | exact sd0 rfl | exact sd1 rfl) (fun p1_42 => ?_)
  refine rr_guardY rfl rfl rfl ?_
  refine rr_call rfl rfl rfl rfl (min_tr 1073741824 (.slice (some ⟨p1_42, 0, none⟩) 1 1) [m.n] (bl p1_42 2 [i64 m.n]) (View.blk0 rfl (by omega)) (by simp)) inferInstance rfl (sd0 rfl) (fun _ => sd0 rfl) rfl (fun v => ?_)
  first | refine RR.pu2 ?_ | refine RR.pu ?_
  rintro rfl
  rw [a6]
  refine rr_guardY rfl rfl rfl ?_
  refine r_not rfl rfl ?_
  first | refine rr_pick rfl rfl ?_ | refine rr_pickb rfl rfl rfl rfl ?_
  refine rr_nil ?_
  refine cc_condF rfl ?_
  refine cc_skip ?_
  refine cc_seq ?_
  refine cc_seq ?_
  refine cc_region ?_
  refine r_fa rfl rfl ?_
  refine r_ld rfl (ls0 rfl) rfl rfl ?_
  refine r_bsl (cs := [i64 m.op]) rfl rfl rfl rfl rfl rfl (by first | exact sd0 rfl | exact sd1 rfl) (fun _ => by first | exact sd0 rfl | exact sd1 rfl) (fun p3_2 => ?_)
  refine rr_call rfl rfl rfl rfl (min_tr 2 (.slice (some ⟨p3_2, 0, none⟩) 1 1) [m.op] (bl p3_2 2 [i64 m.op]) (View.blk0 rfl (by omega)) (by simp)) inferInstance rfl (sd0 rfl) (fun _ => sd0 rfl) rfl (fun v => ?_)
  first | refine RR.pu2 ?_ | refine RR.pu ?_
  rintro rfl
  rw [a7]
  refine r_not rfl rfl ?_
  refine rr_move rfl rfl ?_
  refine rr_guardY rfl rfl rfl ?_
  refine r_fa rfl rfl ?_
  refine rr_guardY rfl rfl rfl ?_
  refine r_ld rfl (ls0 rfl) rfl rfl ?_
  refine rr_guardY rfl rfl rfl ?_
  first | refine r_lenx rfl rfl ?_ | refine r_lent rfl rfl ?_
  refine rr_guardY rfl rfl rfl ?_
  refine r_int rfl rfl rfl rfl ?_
  rw [show decide ((40 : Int) < (m.key.length : Int)) = false by simp; omega]
  first | refine rr_pick rfl rfl ?_ | refine rr_pickb rfl rfl rfl rfl ?_
  refine rr_move rfl rfl ?_
  refine rr_guardY rfl rfl rfl ?_
  refine r_fa rfl rfl ?_
  refine rr_guardY rfl rfl rfl ?_
  refine r_ld rfl (ls0 rfl) rfl rfl ?_
  refine rr_guardY rfl rfl rfl ?_
  refine r_bsl (cs := [i64 m.err]) rfl rfl rfl rfl rfl rfl (by first | exact sd0 rfl | exact sd1 rfl) (fun _ => by first | exact sd0 rfl | exact sd1 rfl) (fun p3_14 => ?_)
  refine rr_guardY rfl rfl rfl ?_
  refine rr_call rfl rfl rfl rfl (min_tr 10 (.slice (some ⟨p3_14, 0, none⟩) 1 1) [m.err] (bl p3_14 2 [i64 m.err]) (View.blk0 rfl (by omega)) (by simp)) inferInstance rfl (sd0 rfl) (fun _ => sd0 rfl) rfl (fun v => ?_)
  first | refine RR.pu2 ?_ | refine RR.pu ?_
  rintro rfl
  rw [a9]
  refine rr_guardY rfl rfl rfl ?_
  refine r_not rfl rfl ?_
  first | refine rr_pick rfl rfl ?_ | refine rr_pickb rfl rfl rfl rfl ?_
  refine rr_nil ?_
  refine cc_condF rfl ?_
  refine cc_skip ?_
  refine cc_seq ?_
  refine cc_region ?_
  refine r_fa rfl rfl ?_
  refine r_lda rfl (ls0 rfl) rfl rfl ?_
  refine r_bld rfl rfl rfl ?_
  refine r_eqs rfl rfl (eqL_i0 m.item) rfl ?_
  refine rr_move rfl rfl ?_
  refine rr_guard rfl rfl rfl (fun hg5_4 => ?_) (fun hg5_4 => ?_)
  · refine r_fa rfl rfl ?_
    refine rr_guardY rfl rfl rfl ?_
    refine r_lda rfl (ls0 rfl) rfl rfl ?_
    refine rr_guardY rfl rfl rfl ?_
    refine rr_call rfl rfl rfl rfl (imay_tr m.item) inferInstance rfl (sd0 rfl) (fun _ => sd0 rfl) rfl (fun v => ?_)
    first | refine RR.pu2 ?_ | refine RR.pu ?_
    rintro rfl
    rw [show itemMay m.item = true by grind]
    first | refine rr_pick rfl rfl ?_ | refine rr_pickb rfl rfl rfl rfl ?_
    refine rr_move rfl rfl ?_
    refine rr_guard rfl rfl rfl (fun hg5_9 => ?_) (fun hg5_9 => ?_)
    · refine r_lda rfl (ls0 rfl) rfl rfl ?_
      refine rr_guardY rfl rfl rfl ?_
      refine rr_call rfl rfl rfl rfl (lists_tr U m L h a11 hl1 hl2) inferInstance rfl (sd0 rfl) (fun _ => sd0 rfl) rfl (fun v => ?_)
      first | refine RR.pu2 ?_ | refine RR.pu ?_
      rintro rfl
      first | refine rr_pick rfl rfl ?_ | refine rr_pickb rfl rfl rfl rfl ?_
      refine rr_assign rfl rfl ?_
      refine rr_nil ?_
      refine cc_ret ?_
      exact ⟨_, rfl, entW_pu2 (by first | rfl | grind) entW_fr⟩
    · refine rr_guardN rfl rfl rfl rfl ?_
      first | refine rr_pick rfl rfl ?_ | refine rr_pickb rfl rfl rfl rfl ?_
      refine rr_assign rfl rfl ?_
      refine rr_nil ?_
      refine cc_ret ?_
      exact ⟨_, rfl, entW_pu2 (by first | rfl | grind) entW_fr⟩
  · refine rr_guardN rfl rfl rfl rfl ?_
    refine rr_guardN rfl rfl rfl rfl ?_
    first | refine rr_pick rfl rfl ?_ | refine rr_pickb rfl rfl rfl rfl ?_
    refine rr_move rfl rfl ?_
    refine rr_guard rfl rfl rfl (fun hg5_9 => ?_) (fun hg5_9 => ?_)
    · refine r_lda rfl (ls0 rfl) rfl rfl ?_
      refine rr_guardY rfl rfl rfl ?_
      refine rr_call rfl rfl rfl rfl (lists_tr U m L h a11 hl1 hl2) inferInstance rfl (sd0 rfl) (fun _ => sd0 rfl) rfl (fun v => ?_)
      first | refine RR.pu2 ?_ | refine RR.pu ?_
      rintro rfl
      first | refine rr_pick rfl rfl ?_ | refine rr_pickb rfl rfl rfl rfl ?_
      refine rr_assign rfl rfl ?_
      refine rr_nil ?_
      refine cc_ret ?_
      exact ⟨_, rfl, entW_pu2 (by first | rfl | grind) entW_fr⟩
    · refine rr_guardN rfl rfl rfl rfl ?_
      first | refine rr_pick rfl rfl ?_ | refine rr_pickb rfl rfl rfl rfl ?_
      refine rr_assign rfl rfl ?_
      refine rr_nil ?_
      refine cc_ret ?_
      exact ⟨_, rfl, entW_pu2 (by first | rfl | grind) entW_fr⟩
end Go.Proofs.YtoiakcgdkegncaaGreat

namespace Go.Proofs.YtoiakcgdkegncaaGreat
open Go.RowKit Ice
attribute [local irreducible] CC RR Tr
structure WhoS where
  node : Int
  id : Int
  op : Int
  key : Txt
def whoV (w : WhoS) : List Value := [i64 w.node, i64 w.id, i64 w.op, str w.key]
abbrev whoA (w : WhoS) : Value := .agg (whoV w).toArray
structure WaitS where
  w : WhoS
  id : Int
  to_ : Int
  when_ : Int
def waitV (x : WaitS) : List Value := [i64 x.w.node, i64 x.w.id, i64 x.w.op, str x.w.key, i64 x.id, i64 x.to_, i64 x.when_]
structure ReadS where
  w : WhoS
  token : Int
def readV (x : ReadS) : List Value := [i64 x.w.node, i64 x.w.id, i64 x.w.op, str x.w.key, i64 x.token]
structure RepS where
  id : Int
  op : Int
  key : Txt
  err : Int
  val : Txt
  has : Bool
def repV (x : RepS) : List Value := [i64 x.id, i64 x.op, str x.key, i64 x.err, str x.val, .bool x.has]
def msgV2 (x : MsgS × MsgL) : List Value := msgV x.1 x.2
/-- what a node has of moves (as it lies there) -/
structure MovX where
  knows : Bool
  pv : Value
  ov : Value
  iv : Value
def movX0 : MovX := ⟨false, .slice none 0 0, .map none, .map none⟩
structure NodeS where
  store : StoreS
  lease : LeaseS
  id : Int
  ring : Option (Int × List Int)
  tok : TokS
  waits : List WaitS
  reads : List ReadS
  asked : Int
  msgs : List MsgS
  reps : List RepS
def ringOK (U : Pool) (rg : Value) (o : Option (Int × List Int)) : Prop := match o with
  | none => rg = .pointer none
  | some x => ∃ r, rg = ptr r ∧ ringIn U r x.1 x.2
theorem ringOK.mono {U V : Pool} {rg : Value} {o : Option (Int × List Int)} (h : ringOK U rg o) (k : Sub U V) : ringOK V rg o := by
  cases o with
  | none => exact h
  | some x => obtain ⟨r, a, b⟩ := h; exact ⟨r, a, b.mono k⟩
def msgsIn (U : Pool) (M : List (MsgS × MsgL)) : Prop := ∀ x ∈ M, msgIn U x.1 x.2
theorem msgsIn.mono {U V : Pool} {M : List (MsgS × MsgL)} (h : msgsIn U M) (k : Sub U V) : msgsIn V M := fun x hx => (h x hx).mono k
abbrev nodeRaw (n d c st le tk : Nat) (id : Int) (rg : Value) (X : MovX) (wv rv : Value) (asked : Int) (mv lv : Value) (S : StoreS) (L : LeaseS) (T : TokS) (W : List WaitS) (R : List ReadS) (M : List (MsgS × MsgL)) (A : List RepS) : SL :=
  bl n 57 [ptr st, ptr le, i64 id, rg, ptr tk, .bool X.knows, X.pv, X.ov, X.iv, wv, rv, i64 asked, mv, lv] *
    (storeR st d S * (leaseR le c L * (tokR tk T * (slR wv 100 7 W.length (W.flatMap waitV) * (slR rv 75 5 R.length (R.flatMap readV) *
      (slR mv 66 21 M.length (M.flatMap msgV2) * slR lv 41 6 A.length (A.flatMap repV)))))))
structure NodeQ where
  st : Nat
  le : Nat
  tk : Nat
  rg : Value
  wv : Value
  rv : Value
  mv : Value
  lv : Value
  M : List (MsgS × MsgL)
/-- a node -/
def nodeR (U : Pool) (n d c : Nat) (X : MovX) (N : NodeS) : SL := ex fun q : NodeQ =>
  pu (ringOK U q.rg N.ring ∧ q.M.map (·.1) = N.msgs ∧ msgsIn U q.M) * nodeRaw n d c q.st q.le q.tk N.id q.rg X q.wv q.rv N.asked q.mv q.lv N.store N.lease N.tok N.waits N.reads q.M N.reps
theorem nodeR_mk (U : Pool) (n d c st le tk : Nat) (id : Int) (rg : Value) (X : MovX) (wv rv : Value) (asked : Int) (mv lv : Value) (S : StoreS) (L : LeaseS) (T : TokS) (W : List WaitS) (R : List ReadS) (M : List (MsgS × MsgL)) (A : List RepS)
    {ring : Option (Int × List Int)} {ms : List MsgS} (h1 : ringOK U rg ring) (h2 : M.map (·.1) = ms) (h3 : msgsIn U M) :
    Ent (nodeRaw n d c st le tk id rg X wv rv asked mv lv S L T W R M A) (nodeR U n d c X ⟨S, L, id, ring, T, W, R, asked, ms, A⟩) :=
  fun _ h => ⟨⟨st, le, tk, rg, wv, rv, mv, lv, M⟩, pu_mul.2 ⟨⟨h1, h2, h3⟩, h⟩⟩
section
variable {P : Program} {k : Nat} {w0 : World} {Q : Exit → Pos} {f : Nat → Value} {l : Env} {A : SL}
theorem CC.node {cc : Code} (U : Pool) (n d c : Nat) (X : MovX) (N : NodeS) {R : SL} [p : Pick A (nodeR U n d c X N) R]
    (h : ∀ (st le tk : Nat) (rg wv rv mv lv : Value) (M : List (MsgS × MsgL)), ringOK U rg N.ring → M.map (·.1) = N.msgs → msgsIn U M →
      CC P k w0 cc Q f l (nodeRaw n d c st le tk N.id rg X wv rv N.asked mv lv N.store N.lease N.tok N.waits N.reads M N.reps * R)) : CC P k w0 cc Q f l A := by
  refine CC.opn (nodeR U n d c X N) rfl fun q => ?_
  refine CC.pu3 fun hq => ?_
  exact h q.st q.le q.tk q.rg q.wv q.rv q.mv q.lv q.M hq.1 hq.2.1 hq.2.2
end
theorem nodeR_mono {U V : Pool} (k : Sub U V) (n d c : Nat) (X : MovX) (N : NodeS) : Ent (nodeR U n d c X N) (nodeR V n d c X N) := by
  rintro h ⟨q, x⟩
  obtain ⟨h1, h2⟩ := pu_mul.1 x
  exact ⟨q, pu_mul.2 ⟨⟨h1.1.mono k, h1.2.1, h1.2.2.mono k⟩, h2⟩⟩
def begunN (id : Int) (S : StoreS) : NodeS := ⟨S, ⟨0, 0, 0⟩, id, none, ⟨0, []⟩, [], [], 0, [], []⟩
theorem nbegin_tr (U : Pool) (id : Int) (s d c : Nat) (now : Int) (S : StoreS) : Tr Tryz.prog 26 #[i64 id, ptr s, i64 0, ptr c] (storeR s d S * clockR c now)
    (fun v => ex fun n => pu (v = .tuple #[ptr n, i64 0]) * (nodeR U n d c movX0 (begunN id S) * clockR c now)) := by
  refine tr_body Tryz.func26 (by kernel_rfl) rfl Tryz.ntmps26 rfl (L := [(0, i64 id), (1, ptr s), (2, i64 0), (3, ptr c)]) (covers_cons rfl (covers_cons rfl (covers_cons rfl (covers_cons rfl covers_nil)))) rfl ?_
  intro F w0 f
  refine cc_seq ?_
  refine cc_region ?_
  refine rr_assign rfl rfl ?_
  refine rr_assign rfl rfl ?_
  refine rr_nil ?_
  refine cc_seq ?_
  refine cc_seq ?_
  refine cc_region ?_
  refine rr_move rfl rfl ?_
  refine r_int rfl rfl rfl rfl ?_
  refine rr_nil ?_
  refine cc_condF rfl ?_
  refine cc_skip ?_
  refine cc_seq ?_
  refine cc_region ?_
  refine rr_move rfl rfl ?_
  refine rr_move rfl rfl ?_
  refine rr_call rfl rfl rfl rfl (lnew_tr c now) inferInstance rfl (sd0 rfl) (fun _ => sd0 rfl) rfl (fun v => ?_)
  refine RR.ex1 fun le => ?_
  refine RR.pu2 ?_
  rintro rfl
  refine rr_move rfl rfl ?_
  refine rr_call rfl rfl rfl rfl (tnew_tr) inferInstance rfl (sd0 rfl) (fun _ => sd0 rfl) rfl (fun v => ?_)
  refine RR.ex1 fun tk => ?_
  refine RR.pu2 ?_
  rintro rfl
  refine r_bld rfl rfl rfl ?_
  refine r_boxa rfl rfl (sd0 rfl) (fun _ => sd0 rfl) (fun p3_6 => ?_)
  refine rr_assign rfl rfl ?_
  refine rr_assign rfl rfl ?_
  refine rr_nil ?_
  refine cc_ret ?_
  refine ⟨_, rfl, entW_ex2 p3_6 (entW_pu2 rfl ?_)⟩
  refine (entW_ent (ent_nil 100 7)).trans ((entW_ent (ent_nil 75 5)).trans ((entW_ent (ent_nil 66 21)).trans ((entW_ent (ent_nil 41 6)).trans ?_)))
  exact entW_cls (nodeR U p3_6 d c movX0 (begunN id S)) (bl p3_6 57 [ptr s, ptr le, i64 id, .pointer none, ptr tk, .bool false, .slice none 0 0, .map none, .map none, .slice none 0 0, .slice none 0 0, i64 0, .slice none 0 0, .slice none 0 0] * (storeR s d S * (leaseR le c ⟨0, 0, 0⟩ * (tokR tk ⟨0, []⟩ * (slR (.slice none 0 0) 100 7 0 [] * (slR (.slice none 0 0) 75 5 0 [] * (slR (.slice none 0 0) 66 21 0 [] * slR (.slice none 0 0) 41 6 0 []))))))) (nodeR_mk U p3_6 d c s le tk id (.pointer none) movX0 (.slice none 0 0) (.slice none 0 0) 0 (.slice none 0 0) (.slice none 0 0) S ⟨0, 0, 0⟩ ⟨0, []⟩ [] [] [] [] rfl rfl (fun _ h => by cases h)) entW_fr
theorem nmake_tr (U : Pool) (id : Int) (d c : Nat) (now : Int) (D : DevS) (h1 : 1 ≤ id) (h2 : id ≤ 5) (hl : 192 ≤ D.length) : Tr Tryz.prog 10 #[i64 id, ptr d, ptr c] (devR d D * clockR c now)
    (fun v => ex fun n => pu (v = .tuple #[ptr n, i64 0]) * (nodeR U n d c movX0 (begunN id (makeS D)) * clockR c now)) := by
  refine tr_body Tryz.func10 (by kernel_rfl) rfl Tryz.ntmps10 rfl (L := [(0, i64 id), (1, ptr d), (2, ptr c)]) (covers_cons rfl (covers_cons rfl (covers_cons rfl covers_nil))) rfl ?_
  intro F w0 f
  refine cc_seq ?_
  refine cc_region ?_
  refine rr_assign rfl rfl ?_
  refine rr_assign rfl rfl ?_
  refine rr_nil ?_
  refine cc_seq ?_
  refine cc_seq ?_
  refine cc_region ?_
  refine rr_move rfl rfl ?_
  refine r_int rfl rfl rfl rfl ?_
  rw [show decide (id < 1) = false by simp; omega]
  refine rr_move rfl rfl ?_
  refine rr_guardY rfl rfl rfl ?_
  refine rr_move rfl rfl ?_
  refine rr_guardY rfl rfl rfl ?_
  refine r_int rfl rfl rfl rfl ?_
  rw [show decide (5 < id) = false by simp; omega]
  first | refine rr_pick rfl rfl ?_ | refine rr_pickb rfl rfl rfl rfl ?_
  refine rr_move rfl rfl ?_
  refine rr_guardY rfl rfl rfl ?_
  refine rr_move rfl rfl ?_
  refine rr_guardY rfl rfl rfl ?_
  refine r_pnil rfl rfl rfl ?_
  first | refine rr_pick rfl rfl ?_ | refine rr_pickb rfl rfl rfl rfl ?_
  refine rr_nil ?_
  refine cc_condF rfl ?_
  refine cc_skip ?_
  refine cc_seq ?_
  refine cc_region ?_
  refine rr_move rfl rfl ?_
  refine rr_call rfl rfl rfl rfl (smakeS_tr d D hl) inferInstance rfl (sd0 rfl) (fun _ => sd0 rfl) rfl (fun v => ?_)
  refine RR.ex1 fun s => ?_
  refine RR.pu2 ?_
  rintro rfl
  refine rr_move rfl rfl ?_
  refine rr_extract rfl rfl rfl ?_
  refine rr_extract rfl rfl rfl ?_
  refine rr_assign rfl rfl ?_
  refine rr_assign rfl rfl ?_
  refine rr_nil ?_
  refine cc_seq ?_
  refine cc_region ?_
  refine rr_move rfl rfl ?_
  refine rr_move rfl rfl ?_
  refine rr_move rfl rfl ?_
  refine rr_move rfl rfl ?_
  refine rr_call rfl rfl rfl rfl (nbegin_tr U id s d c now (makeS D)) inferInstance rfl (sd0 rfl) (fun _ => sd0 rfl) rfl (fun v => ?_)
  refine RR.ex1 fun n => ?_
  refine RR.pu2 ?_
  rintro rfl
  refine rr_extract rfl rfl rfl ?_
  refine rr_extract rfl rfl rfl ?_
  refine rr_assign rfl rfl ?_
  refine rr_assign rfl rfl ?_
  refine rr_nil ?_
  refine cc_ret ?_
  exact ⟨_, rfl, entW_ex2 n (entW_pu2 rfl entW_fr)⟩
end Go.Proofs.YtoiakcgdkegncaaGreat

namespace Go.Proofs.YtoiakcgdkegncaaGreat
open Go.RowKit Ice
attribute [local irreducible] CC RR Tr
/-- what came of a call -/
def outR (U : Pool) (v : Value) (ms : List MsgS) (rs : List RepS) : SL := ex fun q : Value × Value × List (MsgS × MsgL) =>
  pu (v = .agg #[q.1, q.2.1] ∧ q.2.2.map (·.1) = ms ∧ msgsIn U q.2.2) * (slR q.1 66 21 q.2.2.length (q.2.2.flatMap msgV2) * slR q.2.1 41 6 rs.length (rs.flatMap repV))
theorem outR_mk (U : Pool) (mv lv : Value) (M : List (MsgS × MsgL)) (ms : List MsgS) (rs : List RepS) (h1 : M.map (·.1) = ms) (h2 : msgsIn U M) :
    Ent (slR mv 66 21 M.length (M.flatMap msgV2) * slR lv 41 6 rs.length (rs.flatMap repV)) (outR U (.agg #[mv, lv]) ms rs) :=
  fun _ h => ⟨(mv, lv, M), pu_mul.2 ⟨⟨rfl, h1, h2⟩, h⟩⟩
abbrev nodeRaw0 (n d c st le tk : Nat) (id : Int) (rg : Value) (X : MovX) (wv rv : Value) (asked : Int) (S : StoreS) (L : LeaseS) (T : TokS) (W : List WaitS) (R : List ReadS) : SL :=
  bl n 57 [ptr st, ptr le, i64 id, rg, ptr tk, .bool X.knows, X.pv, X.ov, X.iv, wv, rv, i64 asked, .slice none 0 0, .slice none 0 0] *
    (storeR st d S * (leaseR le c L * (tokR tk T * (slR wv 100 7 W.length (W.flatMap waitV) * (slR rv 75 5 R.length (R.flatMap readV) *
      (slR (.slice none 0 0) 66 21 0 [] * slR (.slice none 0 0) 41 6 0 []))))))
theorem nodeR_mk0 (U : Pool) (n d c st le tk : Nat) (id : Int) (rg : Value) (X : MovX) (wv rv : Value) (asked : Int) (S : StoreS) (L : LeaseS) (T : TokS) (W : List WaitS) (R : List ReadS)
    {ring : Option (Int × List Int)} (h1 : ringOK U rg ring) : Ent (nodeRaw0 n d c st le tk id rg X wv rv asked S L T W R) (nodeR U n d c X ⟨S, L, id, ring, T, W, R, asked, [], []⟩) :=
  nodeR_mk U n d c st le tk id rg X wv rv asked (.slice none 0 0) (.slice none 0 0) S L T W R [] [] h1 rfl (fun _ h => by cases h)
def didN (N : NodeS) : NodeS := { N with msgs := [], reps := [] }
theorem ndid_tr (U : Pool) (n d c : Nat) (X : MovX) (N : NodeS) : Tr Tryz.prog 19 #[ptr n] (nodeR U n d c X N) (fun v => outR U v N.msgs N.reps * nodeR U n d c X (didN N)) := by
  refine tr_bodyR Tryz.func19 (by kernel_rfl) rfl Tryz.ntmps19 rfl (L := [(0, ptr n)]) (covers_cons rfl covers_nil) rfl ?_
  intro F w0 f
  refine CC.node U n d c X N fun st le tk rg wv rv mv lv M h1 h2 h3 => ?_
  refine CC.slv mv fun mb mc e1 _ => ?_
  refine CC.slv lv fun lb lc e2 _ => ?_
  subst e1 e2
  refine cc_seq ?_
  refine cc_region ?_
  refine r_alloc rfl (sd0 rfl) (fun _ => sd0 rfl) (fun p0_0 => ?_)
  refine rr_nil ?_
  refine cc_seq ?_
  refine cc_region ?_
  refine rr_move rfl rfl ?_
  refine rr_nilCheck rfl rfl ?_
  refine r_fa rfl rfl ?_
  refine r_lda rfl (ls0 rfl) rfl rfl ?_
  refine r_alloc rfl (sd0 rfl) (fun _ => sd0 rfl) (fun p1_4 => ?_)
  refine r_sta rfl rfl rfl rfl rfl (by first | exact Nat.le_of_ble_eq_true rfl | simp) (sd0 rfl) (sd0 rfl) ?_
  refine rr_nil ?_
  refine cc_seq ?_
  refine cc_region ?_
  refine rr_move rfl rfl ?_
  refine r_bld rfl rfl rfl ?_
  refine rr_nilCheck rfl rfl ?_
  refine r_fa rfl rfl ?_
  refine r_sta rfl rfl rfl rfl rfl (by first | exact Nat.le_of_ble_eq_true rfl | simp) (sd0 rfl) (sd0 rfl) ?_
  refine rr_nil ?_
  refine cc_seq ?_
  refine cc_region ?_
  refine r_lda rfl (ls0 rfl) rfl rfl ?_
  refine r_sta rfl rfl rfl rfl rfl (by first | exact Nat.le_of_ble_eq_true rfl | simp) (sd0 rfl) (sd0 rfl) ?_
  refine rr_nil ?_
  refine cc_ret ?_
  refine ⟨_, .agg inferInstance rfl inferInstance rfl .nil, ?_⟩
  refine (entW_ent (ent_nil 66 21)).trans ((entW_ent (ent_nil 41 6)).trans ?_)
  refine entW_cls (nodeR U n d c X (didN N)) (nodeRaw0 n d c st le tk N.id rg X wv rv N.asked N.store N.lease N.tok N.waits N.reads) (nodeR_mk0 U n d c st le tk N.id rg X wv rv N.asked N.store N.lease N.tok N.waits N.reads h1) ?_
  exact entW_cls (outR U (.agg #[.slice mb M.length mc, .slice lb N.reps.length lc]) N.msgs N.reps) _ (outR_mk U _ _ M N.msgs N.reps h2 h3) entW_fr
theorem inSl.one {U : Pool} {v : Value} {E s m : Nat} {xs : List Value} (h : inSl U v E s m xs) : oneC v = true := by
  obtain ⟨⟨b, c, rfl⟩, _⟩ := h.val; rfl
theorem msgIn.one {U : Pool} {m : MsgS} {L : MsgL} (h : msgIn U m L) : (msgV m L).all oneC = true := by
  simp only [msgV, List.all_cons, List.all_nil, inSl.one h.1, inSl.one h.2.1, inSl.one h.2.2.1, inSl.one h.2.2.2]; rfl
def fromM (id : Int) (x : MsgS × MsgL) : MsgS × MsgL := ({ x.1 with from_ := id }, x.2)
def sayN (N : NodeS) (ms : List MsgS) : NodeS := { N with msgs := N.msgs ++ ms.map (fun m => { m with from_ := N.id }) }
theorem nsay_tr (U : Pool) (n d c : Nat) (X : MovX) (N : NodeS) (v : Value) (Y : SL) (ms : List (MsgS × MsgL)) (hv : View Y v 66 21 ms.length (ms.flatMap msgV2)) (hms : msgsIn U ms) (hb : N.msgs.length + ms.length ≤ 2 ^ 20) :
    Tr Tryz.prog 27 #[ptr n, v] (nodeR U n d c X N * Y) (fun r => pu (r = unit) * (nodeR U n d c X (sayN N (ms.map (·.1))) * Y)) := by
  obtain ⟨vb, vc, rfl⟩ := hv.val
  have hw : ∀ x ∈ ms, (msgV2 x).length = 21 := fun _ _ => rfl
  refine tr_body Tryz.func27 (by kernel_rfl) rfl Tryz.ntmps27 rfl (L := [(0, ptr n), (1, .slice vb ms.length vc)]) (covers_cons rfl (covers_cons rfl covers_nil)) rfl ?_
  intro F w0 f
  refine CC.node U n d c X N fun st le tk rg wv rv mv lv M h1 h2 h3 => ?_
  have hMl : M.length = N.msgs.length := by rw [← h2, List.length_map]
  refine CC.slv mv fun mb mc e1 _ => ?_
  subst e1
  refine cc_seq ?_
  refine cc_region ?_
  refine rr_move rfl rfl ?_
  refine r_lens rfl rfl ?_
  refine rr_move rfl rfl ?_
  refine rr_nil ?_
  refine cc_block ?_
  refine cc_loopW (α := (Nat × Value)) (fun ⟨j, mv⟩ => [(8, i64 j), (7, i64 ms.length), (6, .slice vb ms.length vc), (0, ptr n)]) (fun ⟨j, mv⟩ => pu (j ≤ ms.length ∧ oneC mv = true) * (nodeRaw n d c st le tk N.id rg X wv rv N.asked mv lv N.store N.lease N.tok N.waits N.reads (M ++ (ms.take j).map (fromM N.id)) N.reps * Y * F)) (fun ⟨j, mv⟩ => ms.length - j) ((0, .slice mb M.length mc)) (by ((repeat' (first | exact covers_nil | (refine covers_cons ?_ ?_; focus (first | rfl | (simp [lk, lk?]; done))))) ; (first | done | fail))) (by exact entW_pu ⟨by omega, rfl⟩ (by rw [List.take_zero, List.map_nil, List.append_nil]; exact entW_fr)) ?_
  rintro ⟨j, mv⟩ f
  refine CC.pu fun hj => ?_
  refine cc_seq ?_
  refine cc_region ?_
  refine r_int rfl rfl rfl rfl ?_
  refine rr_nil ?_
  refine cc_seq ?_
  refine cc_cond rfl (fun h9 => ?_) (fun h9 => ?_)
  · try simp only [decide_eq_true_eq, decide_eq_false_iff_not, beq_iff_eq, beq_eq_false_iff_ne, bne_iff_ne, bne_eq_false_iff_eq, ne_eq, Bool.not_eq_eq_eq_not, Bool.not_true, Bool.not_false] at h9
    obtain ⟨x, hx⟩ := lt_get (l := ms) (j := j) (by omega)
    obtain ⟨b, o, cap', cs, e1, e2, e3, e4⟩ := hv.get (g := msgV2) rfl hw rfl hx
    simp only [Value.slice.injEq] at e1
    obtain ⟨rfl, _, rfl⟩ := e1
    have hsucc : M ++ (ms.take (j + 1)).map (fromM N.id) = (M ++ (ms.take j).map (fromM N.id)) ++ [fromM N.id x] := by
      rw [List.take_add_one, hx, List.map_append, ← List.append_assoc]; rfl
    have hgl : (M ++ (ms.take j).map (fromM N.id)).length ≤ 2 ^ 20 := by
      rw [List.length_append, List.length_map, List.length_take]; omega
    generalize M ++ (ms.take j).map (fromM N.id) = G at hsucc hgl ⊢
    have ho1 : (msgV2 x).all oneC = true := (hms x (get_mem hx)).one
    have ho2 : (msgV2 (fromM N.id x)).all oneC = true := msgIn.one (m := { x.1 with from_ := N.id }) (L := x.2) (hms x (get_mem hx))
    refine cc_skip ?_
    refine cc_seq ?_
    refine cc_block ?_
    refine cc_seq ?_
    refine cc_region ?_
    refine r_ix rfl rfl rfl (by omega) ?_
    refine r_lda rfl (ls0 rfl) e3 rfl ?_
    refine r_alloc rfl (sd0 rfl) (fun _ => sd0 rfl) (fun p2_2 => ?_)
    refine r_sta (cs' := msgV2 x) rfl rfl rfl ho1 rfl (Nat.le_of_ble_eq_true rfl) (sd0 rfl) (sd0 rfl) ?_
    refine rr_nil ?_
    refine cc_seq ?_
    refine cc_region ?_
    refine rr_move rfl rfl ?_
    refine rr_nilCheck rfl rfl ?_
    refine r_fa rfl rfl ?_
    refine r_ld rfl (ls0 rfl) rfl rfl ?_
    refine r_fa rfl rfl ?_
    refine r_st (cs' := msgV2 (fromM N.id x)) rfl rfl rfl rfl (sd0 rfl) (sd0 rfl) ?_
    refine rr_nil ?_
    refine cc_draw (bl n 57 [ptr st, ptr le, i64 N.id, rg, ptr tk, .bool X.knows, X.pv, X.ov, X.iv, wv, rv, i64 N.asked, mv, lv] * bl p2_2 66 (msgV2 (fromM N.id x))) [5] [7] mixed (by decide +kernel) ?_
    refine rr_move rfl rfl ?_
    refine rr_move rfl rfl ?_
    refine rr_nilCheck rfl rfl ?_
    refine r_fa rfl rfl ?_
    refine r_fa rfl rfl ?_
    refine r_ld rfl (ls1 rfl) rfl rfl ?_
    refine r_lda rfl (ls0 rfl) rfl rfl ?_
    refine r_bsl (cs := msgV2 (fromM N.id x)) rfl rfl rfl rfl rfl rfl (by first | exact sd0 rfl | exact sd1 rfl) (fun _ => by first | exact sd0 rfl | exact sd1 rfl) (fun p4_7 => ?_)
    refine r_app (m := G.length) (xs := G.flatMap msgV2) (k' := 1) (ys := msgV2 (fromM N.id x)) rfl rfl (.inl (by rw [spv_underlying]; kernel_rfl)) inferInstance rfl (fun w sa => src_of sa (Nat.le_of_ble_eq_true rfl) rfl) (by rfl) (by exact ho2) (by omega) (by omega) (by omega) rfl (by first | exact sd0 rfl | exact sd1 rfl) (fun _ => by first | exact sd0 rfl | exact sd1 rfl) (fun v => ?_)
    refine RR.slv v fun vb2 vc2 e5 _ => ?_
    subst e5
    refine rr_nilCheck rfl rfl ?_
    refine r_fa rfl rfl ?_
    refine r_fa rfl rfl ?_
    refine r_st rfl rfl rfl rfl (sd0 rfl) (sd0 rfl) ?_
    refine rr_nil ?_
    refine cc_region ?_
    refine r_add rfl rfl rfl (by omega) ?_
    refine rr_move rfl rfl ?_
    refine rr_nil ?_
    exact ⟨(j + 1, .slice vb2 (G.length + 1) vc2), (by show ms.length - (j + 1) < ms.length - j; omega), by ((repeat' (first | exact covers_nil | (refine covers_cons ?_ ?_; focus (first | rfl | (simp [lk, lk?]; done))))) ; (first | done | fail)), entW_pu ⟨by omega, rfl⟩ (by
      rw [hsucc, nodeRaw, List.flatMap_append, List.length_append, List.flatMap_singleton]
      exact entW_fr)⟩
  · try simp only [decide_eq_true_eq, decide_eq_false_iff_not, beq_iff_eq, beq_eq_false_iff_ne, bne_iff_ne, bne_eq_false_iff_eq, ne_eq, Bool.not_eq_eq_eq_not, Bool.not_true, Bool.not_false] at h9
    obtain rfl : j = ms.length := by omega
    rw [List.take_length]
    refine cc_exit ?_
    refine ⟨_, rfl, entW_pu2 rfl ?_⟩
    exact entW_cls (nodeR U n d c X (sayN N (ms.map (·.1)))) (nodeRaw n d c st le tk N.id rg X wv rv N.asked mv lv N.store N.lease N.tok N.waits N.reads (M ++ ms.map (fromM N.id)) N.reps) (nodeR_mk U n d c st le tk N.id rg X wv rv N.asked mv lv N.store N.lease N.tok N.waits N.reads (M ++ ms.map (fromM N.id)) N.reps h1 (by
      rw [List.map_append, h2, List.map_map, List.map_map]; rfl) (fun y hy => by
      rcases List.mem_append.1 hy with hy | hy
      · exact h3 y hy
      · obtain ⟨z, hz, rfl⟩ := List.mem_map.1 hy
        exact hms z hz)) entW_fr
end Go.Proofs.YtoiakcgdkegncaaGreat

namespace Go.Proofs.YtoiakcgdkegncaaGreat
open Go.RowKit Ice
attribute [local irreducible] CC RR Tr
def ansM (w : WhoS) (err : Int) (val : Txt) (has : Bool) : MsgS :=
  { msg0 with kind := 14, to_ := w.node, id := w.id, err := err, item := if w.op == 1 && err == 0 then ⟨w.key, val, 0, !has⟩ else item0 }
def tellN (N : NodeS) (w : WhoS) (err : Int) (val : Txt) (has : Bool) : NodeS :=
  if w.node == 0 then { N with reps := N.reps ++ [⟨w.id, w.op, w.key, err, val, has⟩] } else sayN N [ansM w err val has]
theorem msgIn0 (U : Pool) (m : MsgS) (h1 : m.items = []) (h2 : m.marks = []) (h3 : m.members = []) (h4 : m.old = []) : msgIn U m msgL0 := by
  refine ⟨?_, ?_, ?_, ?_⟩
  · rw [h1]; exact inSl.nil _ _ _
  · rw [h2]; exact inSl.nil _ _ _
  · rw [h3]; exact inSl.nil _ _ _
  · rw [h4]; exact inSl.nil _ _ _
theorem nsay1_tr (U : Pool) (n d c p : Nat) (X : MovX) (N : NodeS) (m : MsgS) (hm : msgIn U m msgL0) (hb : N.msgs.length ≤ 2 ^ 19) :
    Tr Tryz.prog 27 #[ptr n, .slice (some ⟨p, 0, none⟩) 1 1] (nodeR U n d c X N * bl p 66 (msgV2 (m, msgL0))) (fun r => pu (r = unit) * (nodeR U n d c X (sayN N [m]) * bl p 66 (msgV2 (m, msgL0)))) :=
  nsay_tr U n d c X N (.slice (some ⟨p, 0, none⟩) 1 1) (bl p 66 (msgV2 (m, msgL0))) [(m, msgL0)] (View.blk0 rfl (by omega)) (fun x hx => by
        obtain rfl := List.mem_singleton.1 hx
        exact hm) (by simp; omega)
theorem ntell_tr (U : Pool) (n d c : Nat) (X : MovX) (N : NodeS) (w : WhoS) (err : Int) (val : Txt) (has : Bool) (hb : N.msgs.length ≤ 2 ^ 19) (hb2 : N.reps.length ≤ 2 ^ 19) :
    Tr Tryz.prog 24 #[ptr n, whoA w, i64 err, str val, .bool has] (nodeR U n d c X N) (fun r => pu (r = unit) * nodeR U n d c X (tellN N w err val has)) := by
  refine tr_body Tryz.func24 (by kernel_rfl) rfl Tryz.ntmps24 rfl (L := [(0, ptr n), (1, whoA w), (2, i64 err), (3, str val), (4, .bool has)]) (covers_cons rfl (covers_cons rfl (covers_cons rfl (covers_cons rfl (covers_cons rfl covers_nil))))) rfl ?_
  intro F w0 f
  refine cc_seq ?_
  refine cc_region ?_
  refine r_boxa rfl rfl (sd0 rfl) (fun _ => sd0 rfl) (fun p0_0 => ?_)
  refine rr_nil ?_
  refine cc_seq ?_
  refine cc_seq ?_
  refine cc_region ?_
  refine r_fa rfl rfl ?_
  refine r_ld rfl (ls0 rfl) rfl rfl ?_
  refine r_int rfl rfl rfl rfl ?_
  refine rr_nil ?_
  refine cc_cond rfl (fun h13 => ?_) (fun h13 => ?_)
  · try simp only [decide_eq_true_eq, decide_eq_false_iff_not, beq_iff_eq, beq_eq_false_iff_ne, bne_iff_ne, bne_eq_false_iff_eq, ne_eq, Bool.not_eq_eq_eq_not, Bool.not_true, Bool.not_false] at h13
    refine CC.node U n d c X N fun st le tk rg wv rv mv lv M h1 h2 h3 => ?_
    refine CC.slv lv fun lb lc e1 _ => ?_
    subst e1
    have hte : tellN N w err val has = { N with reps := N.reps ++ [⟨w.id, w.op, w.key, err, val, has⟩] } := by rw [tellN, if_pos (by simp [h13])]
    refine cc_seq ?_
    refine cc_draw (bl n 57 [ptr st, ptr le, i64 N.id, rg, ptr tk, .bool X.knows, X.pv, X.ov, X.iv, wv, rv, i64 N.asked, mv, .slice lb N.reps.length lc] * bl p0_0 73 (whoV w)) [5] [16] mixed (by decide +kernel) ?_
    refine rr_move rfl rfl ?_
    refine rr_move rfl rfl ?_
    refine rr_nilCheck rfl rfl ?_
    refine r_fa rfl rfl ?_
    refine r_fa rfl rfl ?_
    refine r_ld rfl (ls1 rfl) rfl rfl ?_
    refine r_fa rfl rfl ?_
    refine r_ld rfl (ls0 rfl) rfl rfl ?_
    refine r_fa rfl rfl ?_
    refine r_ld rfl (ls0 rfl) rfl rfl ?_
    refine r_fa rfl rfl ?_
    refine r_ld rfl (ls0 rfl) rfl rfl ?_
    refine rr_move rfl rfl ?_
    refine rr_move rfl rfl ?_
    refine rr_move rfl rfl ?_
    refine r_bld rfl rfl rfl ?_
    refine r_bsl (cs := repV ⟨w.id, w.op, w.key, err, val, has⟩) rfl rfl rfl rfl rfl rfl (by first | exact sd0 rfl | exact sd1 rfl) (fun _ => by first | exact sd0 rfl | exact sd1 rfl) (fun p2_16 => ?_)
    refine r_app (m := N.reps.length) (xs := N.reps.flatMap repV) (k' := 1) (ys := repV ⟨w.id, w.op, w.key, err, val, has⟩) rfl rfl (.inl (by rw [spv_underlying]; kernel_rfl)) inferInstance rfl (fun w sa => src_of sa (Nat.le_of_ble_eq_true rfl) rfl) (by rfl) (by rfl) (by omega) (by omega) (by omega) rfl (by first | exact sd0 rfl | exact sd1 rfl) (fun _ => by first | exact sd0 rfl | exact sd1 rfl) (fun v => ?_)
    refine RR.slv v fun vb2 vc2 e5 _ => ?_
    subst e5
    refine rr_nilCheck rfl rfl ?_
    refine r_fa rfl rfl ?_
    refine r_fa rfl rfl ?_
    refine r_st rfl rfl rfl rfl (sd0 rfl) (sd0 rfl) ?_
    refine rr_nil ?_
    refine cc_ret ?_
    refine ⟨_, rfl, entW_pu2 rfl ?_⟩
    rw [hte]
    first
    | exact entW_fr
    | exact entW_cls (nodeR U n d c X { N with reps := N.reps ++ [⟨w.id, w.op, w.key, err, val, has⟩] }) (bl n 57 [ptr st, ptr le, i64 N.id, rg, ptr tk, .bool X.knows, X.pv, X.ov, X.iv, wv, rv, i64 N.asked, mv, .slice vb2 (N.reps.length + 1) vc2] *
        (storeR st d N.store * (leaseR le c N.lease * (tokR tk N.tok * (slR wv 100 7 N.waits.length (N.waits.flatMap waitV) * (slR rv 75 5 N.reads.length (N.reads.flatMap readV) *
        (slR mv 66 21 M.length (M.flatMap msgV2) * slR (.slice vb2 (N.reps.length + 1) vc2) 41 6 (N.reps.length + 1) (N.reps.flatMap repV ++ repV ⟨w.id, w.op, w.key, err, val, has⟩)))))))) (by
        have := nodeR_mk U n d c st le tk N.id rg X wv rv N.asked mv (.slice vb2 (N.reps.length + 1) vc2) N.store N.lease N.tok N.waits N.reads M (N.reps ++ [⟨w.id, w.op, w.key, err, val, has⟩]) h1 h2 h3
        rw [nodeRaw, List.length_append, List.flatMap_append, List.flatMap_singleton] at this
        exact this) entW_fr
  · try simp only [decide_eq_true_eq, decide_eq_false_iff_not, beq_iff_eq, beq_eq_false_iff_ne, bne_iff_ne, bne_eq_false_iff_eq, ne_eq, Bool.not_eq_eq_eq_not, Bool.not_true, Bool.not_false] at h13
    have hte : tellN N w err val has = sayN N [ansM w err val has] := by rw [tellN, if_neg (by simpa using h13)]
    refine cc_skip ?_
    refine cc_seq ?_
    refine cc_region ?_
    refine r_fa rfl rfl ?_
    refine r_ld rfl (ls0 rfl) rfl rfl ?_
    refine r_fa rfl rfl ?_
    refine r_ld rfl (ls0 rfl) rfl rfl ?_
    refine rr_move rfl rfl ?_
    refine r_bld rfl rfl rfl ?_
    refine r_alloc rfl (sd0 rfl) (fun _ => sd0 rfl) (fun p3_6 => ?_)
    refine r_sta rfl rfl rfl rfl rfl (by first | exact Nat.le_of_ble_eq_true rfl | simp) (sd0 rfl) (sd0 rfl) ?_
    refine rr_nil ?_
    refine cc_seq ?_
    refine cc_seq ?_
    refine cc_region ?_
    refine r_fa rfl rfl ?_
    refine r_ld rfl (ls0 rfl) rfl rfl ?_
    refine r_int rfl rfl rfl rfl ?_
    refine rr_move rfl rfl ?_
    refine rr_guard rfl rfl rfl (fun hg4_3 => ?_) (fun hg4_3 => ?_)
    · refine rr_move rfl rfl ?_
      refine rr_guardY rfl rfl rfl ?_
      refine r_int rfl rfl rfl rfl ?_
      first | refine rr_pick rfl rfl ?_ | refine rr_pickb rfl rfl rfl rfl ?_
      refine rr_nil ?_
      refine cc_cond rfl (fun h47 => ?_) (fun h47 => ?_)
      · try simp only [decide_eq_true_eq, decide_eq_false_iff_not, beq_iff_eq, beq_eq_false_iff_ne, bne_iff_ne, bne_eq_false_iff_eq, ne_eq, Bool.not_eq_eq_eq_not, Bool.not_true, Bool.not_false] at h47
        have hit : (if w.op == 1 && err == 0 then (⟨w.key, val, 0, !has⟩ : ItemS) else item0) = ⟨w.key, val, 0, !has⟩ := by grind
        refine cc_region ?_
        refine r_fa rfl rfl ?_
        refine r_ld rfl (ls0 rfl) rfl rfl ?_
        refine rr_move rfl rfl ?_
        refine rr_move rfl rfl ?_
        refine r_not rfl rfl ?_
        refine r_bld rfl rfl rfl ?_
        refine r_fa rfl rfl ?_
        refine r_sta rfl rfl rfl rfl rfl (by first | exact Nat.le_of_ble_eq_true rfl | simp) (sd0 rfl) (sd0 rfl) ?_
        refine rr_nil ?_
        refine cc_region ?_
        refine rr_move rfl rfl ?_
        refine r_lda rfl (ls0 rfl) rfl rfl ?_
        refine r_bsl (cs := msgV2 (ansM w err val has, msgL0)) rfl rfl (by rw [show msgV2 (ansM w err val has, msgL0) = _ from by rw [msgV2, ansM, hit]]; rfl) rfl rfl rfl (by first | exact sd0 rfl | exact sd1 rfl) (fun _ => by first | exact sd0 rfl | exact sd1 rfl) (fun p6_2 => ?_)
        refine rr_call rfl rfl rfl rfl (nsay1_tr U n d c p6_2 X N (ansM w err val has) (msgIn0 U _ rfl rfl rfl rfl) hb) inferInstance rfl (sd0 rfl) (fun _ => sd0 rfl) rfl (fun v => ?_)
        first | refine RR.pu2 ?_ | refine RR.pu ?_
        rintro rfl
        refine rr_nil ?_
        refine ⟨_, rfl, entW_pu2 rfl ?_⟩
        rw [hte]
        first
        | exact entW_fr
        | exact entW_cls (nodeR U n d c X { N with reps := N.reps ++ [⟨w.id, w.op, w.key, err, val, has⟩] }) (bl n 57 [ptr st, ptr le, i64 N.id, rg, ptr tk, .bool X.knows, X.pv, X.ov, X.iv, wv, rv, i64 N.asked, mv, .slice vb2 (N.reps.length + 1) vc2] *
            (storeR st d N.store * (leaseR le c N.lease * (tokR tk N.tok * (slR wv 100 7 N.waits.length (N.waits.flatMap waitV) * (slR rv 75 5 N.reads.length (N.reads.flatMap readV) *
            (slR mv 66 21 M.length (M.flatMap msgV2) * slR (.slice vb2 (N.reps.length + 1) vc2) 41 6 (N.reps.length + 1) (N.reps.flatMap repV ++ repV ⟨w.id, w.op, w.key, err, val, has⟩)))))))) (by
            have := nodeR_mk U n d c st le tk N.id rg X wv rv N.asked mv (.slice vb2 (N.reps.length + 1) vc2) N.store N.lease N.tok N.waits N.reads M (N.reps ++ [⟨w.id, w.op, w.key, err, val, has⟩]) h1 h2 h3
            rw [nodeRaw, List.length_append, List.flatMap_append, List.flatMap_singleton] at this
            exact this) entW_fr
      · try simp only [decide_eq_true_eq, decide_eq_false_iff_not, beq_iff_eq, beq_eq_false_iff_ne, bne_iff_ne, bne_eq_false_iff_eq, ne_eq, Bool.not_eq_eq_eq_not, Bool.not_true, Bool.not_false] at h47
        have hit : (if w.op == 1 && err == 0 then (⟨w.key, val, 0, !has⟩ : ItemS) else item0) = item0 := by grind
        refine cc_skip ?_
        refine cc_region ?_
        refine rr_move rfl rfl ?_
        refine r_lda rfl (ls0 rfl) rfl rfl ?_
        refine r_bsl (cs := msgV2 (ansM w err val has, msgL0)) rfl rfl (by rw [show msgV2 (ansM w err val has, msgL0) = _ from by rw [msgV2, ansM, hit]]; rfl) rfl rfl rfl (by first | exact sd0 rfl | exact sd1 rfl) (fun _ => by first | exact sd0 rfl | exact sd1 rfl) (fun p6_2 => ?_)
        refine rr_call rfl rfl rfl rfl (nsay1_tr U n d c p6_2 X N (ansM w err val has) (msgIn0 U _ rfl rfl rfl rfl) hb) inferInstance rfl (sd0 rfl) (fun _ => sd0 rfl) rfl (fun v => ?_)
        first | refine RR.pu2 ?_ | refine RR.pu ?_
        rintro rfl
        refine rr_nil ?_
        refine ⟨_, rfl, entW_pu2 rfl ?_⟩
        rw [hte]
        first
        | exact entW_fr
        | exact entW_cls (nodeR U n d c X { N with reps := N.reps ++ [⟨w.id, w.op, w.key, err, val, has⟩] }) (bl n 57 [ptr st, ptr le, i64 N.id, rg, ptr tk, .bool X.knows, X.pv, X.ov, X.iv, wv, rv, i64 N.asked, mv, .slice vb2 (N.reps.length + 1) vc2] *
            (storeR st d N.store * (leaseR le c N.lease * (tokR tk N.tok * (slR wv 100 7 N.waits.length (N.waits.flatMap waitV) * (slR rv 75 5 N.reads.length (N.reads.flatMap readV) *
            (slR mv 66 21 M.length (M.flatMap msgV2) * slR (.slice vb2 (N.reps.length + 1) vc2) 41 6 (N.reps.length + 1) (N.reps.flatMap repV ++ repV ⟨w.id, w.op, w.key, err, val, has⟩)))))))) (by
            have := nodeR_mk U n d c st le tk N.id rg X wv rv N.asked mv (.slice vb2 (N.reps.length + 1) vc2) N.store N.lease N.tok N.waits N.reads M (N.reps ++ [⟨w.id, w.op, w.key, err, val, has⟩]) h1 h2 h3
            rw [nodeRaw, List.length_append, List.flatMap_append, List.flatMap_singleton] at this
            exact this) entW_fr
    · refine rr_guardN rfl rfl rfl rfl ?_
      first | refine rr_pick rfl rfl ?_ | refine rr_pickb rfl rfl rfl rfl ?_
      refine rr_nil ?_
      refine cc_cond rfl (fun h47 => ?_) (fun h47 => ?_)
      · try simp only [decide_eq_true_eq, decide_eq_false_iff_not, beq_iff_eq, beq_eq_false_iff_ne, bne_iff_ne, bne_eq_false_iff_eq, ne_eq, Bool.not_eq_eq_eq_not, Bool.not_true, Bool.not_false] at h47
        have hit : (if w.op == 1 && err == 0 then (⟨w.key, val, 0, !has⟩ : ItemS) else item0) = ⟨w.key, val, 0, !has⟩ := by grind
        refine cc_region ?_
        refine r_fa rfl rfl ?_
        refine r_ld rfl (ls0 rfl) rfl rfl ?_
        refine rr_move rfl rfl ?_
        refine rr_move rfl rfl ?_
        refine r_not rfl rfl ?_
        refine r_bld rfl rfl rfl ?_
        refine r_fa rfl rfl ?_
        refine r_sta rfl rfl rfl rfl rfl (by first | exact Nat.le_of_ble_eq_true rfl | simp) (sd0 rfl) (sd0 rfl) ?_
        refine rr_nil ?_
        refine cc_region ?_
        refine rr_move rfl rfl ?_
        refine r_lda rfl (ls0 rfl) rfl rfl ?_
        refine r_bsl (cs := msgV2 (ansM w err val has, msgL0)) rfl rfl (by rw [show msgV2 (ansM w err val has, msgL0) = _ from by rw [msgV2, ansM, hit]]; rfl) rfl rfl rfl (by first | exact sd0 rfl | exact sd1 rfl) (fun _ => by first | exact sd0 rfl | exact sd1 rfl) (fun p6_2 => ?_)
        refine rr_call rfl rfl rfl rfl (nsay1_tr U n d c p6_2 X N (ansM w err val has) (msgIn0 U _ rfl rfl rfl rfl) hb) inferInstance rfl (sd0 rfl) (fun _ => sd0 rfl) rfl (fun v => ?_)
        first | refine RR.pu2 ?_ | refine RR.pu ?_
        rintro rfl
        refine rr_nil ?_
        refine ⟨_, rfl, entW_pu2 rfl ?_⟩
        rw [hte]
        first
        | exact entW_fr
        | exact entW_cls (nodeR U n d c X { N with reps := N.reps ++ [⟨w.id, w.op, w.key, err, val, has⟩] }) (bl n 57 [ptr st, ptr le, i64 N.id, rg, ptr tk, .bool X.knows, X.pv, X.ov, X.iv, wv, rv, i64 N.asked, mv, .slice vb2 (N.reps.length + 1) vc2] *
            (storeR st d N.store * (leaseR le c N.lease * (tokR tk N.tok * (slR wv 100 7 N.waits.length (N.waits.flatMap waitV) * (slR rv 75 5 N.reads.length (N.reads.flatMap readV) *
            (slR mv 66 21 M.length (M.flatMap msgV2) * slR (.slice vb2 (N.reps.length + 1) vc2) 41 6 (N.reps.length + 1) (N.reps.flatMap repV ++ repV ⟨w.id, w.op, w.key, err, val, has⟩)))))))) (by
            have := nodeR_mk U n d c st le tk N.id rg X wv rv N.asked mv (.slice vb2 (N.reps.length + 1) vc2) N.store N.lease N.tok N.waits N.reads M (N.reps ++ [⟨w.id, w.op, w.key, err, val, has⟩]) h1 h2 h3
            rw [nodeRaw, List.length_append, List.flatMap_append, List.flatMap_singleton] at this
            exact this) entW_fr
      · try simp only [decide_eq_true_eq, decide_eq_false_iff_not, beq_iff_eq, beq_eq_false_iff_ne, bne_iff_ne, bne_eq_false_iff_eq, ne_eq, Bool.not_eq_eq_eq_not, Bool.not_true, Bool.not_false] at h47
        have hit : (if w.op == 1 && err == 0 then (⟨w.key, val, 0, !has⟩ : ItemS) else item0) = item0 := by grind
        refine cc_skip ?_
        refine cc_region ?_
        refine rr_move rfl rfl ?_
        refine r_lda rfl (ls0 rfl) rfl rfl ?_
        refine r_bsl (cs := msgV2 (ansM w err val has, msgL0)) rfl rfl (by rw [show msgV2 (ansM w err val has, msgL0) = _ from by rw [msgV2, ansM, hit]]; rfl) rfl rfl rfl (by first | exact sd0 rfl | exact sd1 rfl) (fun _ => by first | exact sd0 rfl | exact sd1 rfl) (fun p6_2 => ?_)
        refine rr_call rfl rfl rfl rfl (nsay1_tr U n d c p6_2 X N (ansM w err val has) (msgIn0 U _ rfl rfl rfl rfl) hb) inferInstance rfl (sd0 rfl) (fun _ => sd0 rfl) rfl (fun v => ?_)
        first | refine RR.pu2 ?_ | refine RR.pu ?_
        rintro rfl
        refine rr_nil ?_
        refine ⟨_, rfl, entW_pu2 rfl ?_⟩
        rw [hte]
        first
        | exact entW_fr
        | exact entW_cls (nodeR U n d c X { N with reps := N.reps ++ [⟨w.id, w.op, w.key, err, val, has⟩] }) (bl n 57 [ptr st, ptr le, i64 N.id, rg, ptr tk, .bool X.knows, X.pv, X.ov, X.iv, wv, rv, i64 N.asked, mv, .slice vb2 (N.reps.length + 1) vc2] *
            (storeR st d N.store * (leaseR le c N.lease * (tokR tk N.tok * (slR wv 100 7 N.waits.length (N.waits.flatMap waitV) * (slR rv 75 5 N.reads.length (N.reads.flatMap readV) *
            (slR mv 66 21 M.length (M.flatMap msgV2) * slR (.slice vb2 (N.reps.length + 1) vc2) 41 6 (N.reps.length + 1) (N.reps.flatMap repV ++ repV ⟨w.id, w.op, w.key, err, val, has⟩)))))))) (by
            have := nodeR_mk U n d c st le tk N.id rg X wv rv N.asked mv (.slice vb2 (N.reps.length + 1) vc2) N.store N.lease N.tok N.waits N.reads M (N.reps ++ [⟨w.id, w.op, w.key, err, val, has⟩]) h1 h2 h3
            rw [nodeRaw, List.length_append, List.flatMap_append, List.flatMap_singleton] at this
            exact this) entW_fr
end Go.Proofs.YtoiakcgdkegncaaGreat

