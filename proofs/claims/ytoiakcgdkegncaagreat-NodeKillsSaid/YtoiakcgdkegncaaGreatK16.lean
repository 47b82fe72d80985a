import Derived.Test.YtoiakcgdkegncaaGreatK15
set_option linter.unusedVariables false
set_option linter.unusedSimpArgs false
set_option linter.unusedSectionVars false
namespace Go.Proofs.YtoiakcgdkegncaaGreat
open Go.RowKit Ice
attribute [local irreducible] CC RR Tr stir mixOf mixPoint ptsOf appD putC addC flushD killS dropsC supW metaText devN begunN stM makeS Sb Sb2
theorem b_reads (U : Pool) (n d c : Nat) : Tr Tryz.prog 8 #[ptr n] (nodeR U n d c movX0 (stM Sb [rdB] ⟨1, [(1, kk, true)]⟩)) (fun v => slR v 9 1 1 [str kk] * nodeR U n d c movX0 (stM Sb [rdB] ⟨1, [(1, kk, true)]⟩)) := by
  have := nreads_tr U n d c movX0 (stM Sb [rdB] ⟨1, [(1, kk, true)]⟩) (by unfold stM; decide)
  unfold stM at this ⊢
  exact this
theorem b_ring (U : Pool) (n d c : Nat) : Tr Tryz.prog 15 #[ptr n] (nodeR U n d c movX0 (stM (killS Sb2 [kk]) [] ⟨1, []⟩)) (fun v => ex fun r : Nat => pu (v = ptr r ∧ ringIn U r 2 [1]) * nodeR U n d c movX0 (stM (killS Sb2 [kk]) [] ⟨1, []⟩)) := by
  refine tr_post (nring_tr U n d c movX0 (stM (killS Sb2 [kk]) [] ⟨1, []⟩)) fun v => ?_
  intro h x0
  obtain ⟨rg, x1⟩ := x0
  obtain ⟨⟨hv, hr⟩, x⟩ := pu_mul.1 x1
  clear x1
  subst hv
  unfold stM at hr
  obtain ⟨r, e, hr⟩ := hr
  exact ⟨r, pu_mul.2 ⟨⟨e, hr⟩, x⟩⟩
theorem b_first (n d c p : Nat) : Tr Tryz.prog 13 #[ptr n, msgA (grantM 2) (grantL p)] (nodeR [(p, 3, [i64 1])] n d c movX0 (begunN 1 (makeS (devN 400))) * (poolR [(p, 3, [i64 1])] * clockR c 0))
      (fun v => ex fun V : Pool => pu (Sub [(p, 3, [i64 1])] V) * (outR V v [] [] * (nodeR V n d c movX0 (stM Sb [] ⟨0, []⟩) * (poolR V * clockR c 0)))) := by
  have := nfirst_tr n d c p (devN 400) 2 (by omega) (by omega) (by rw [devN_len]; omega) (by rw [devN_len]; omega)
  rw [first_stM] at this
  exact this
set_option maxRecDepth 20000 in
theorem begun_tr : Tr Tryz.prog 4 #[] 1 (fun v => pu (v = .bool true)) := by
  refine tr_body Tryz.func4 (by kernel_rfl) rfl Tryz.ntmps4 rfl (L := []) covers_nil rfl ?_
  intro F w0 f
  rw [sl_one_mul]
  have hl : (devN 400).length = 400 := devN_len 400
  refine cc_seq ?_
  refine cc_region ?_
  refine rr_assign rfl rfl ?_
  refine rr_nil ?_
  refine cc_seq ?_
  refine cc_region ?_
  refine r_alloc rfl (sd0 rfl) (fun _ => sd0 rfl) (fun p1_0 => ?_)
  refine rr_nil ?_
  refine cc_seq ?_
  refine cc_region ?_
  refine rr_call rfl rfl rfl rfl (newD_tr 400 (by omega) (by omega)) inferInstance rfl (sd0 rfl) (fun _ => sd0 rfl) rfl (fun v => ?_)
  refine RR.ex1 fun d => ?_
  refine RR.pu2 ?_
  rintro rfl
  refine rr_call rfl rfl rfl rfl (nmake_tr [] 1 d p1_0 0 (devN 400) (by omega) (by omega) (by omega)) inferInstance rfl (sd0 rfl) (fun _ => sd0 rfl) rfl (fun v => ?_)
  refine RR.ex1 fun n => ?_
  refine RR.pu2 ?_
  rintro rfl
  refine RR.entW (B := poolR [] * _) ?_ (fun w s => by rw [show poolR [] = 1 from rfl, sl_one_mul]; exact s)
  refine rr_move rfl rfl ?_
  refine rr_extract rfl rfl rfl ?_
  refine rr_extract rfl rfl rfl ?_
  refine rr_assign rfl rfl ?_
  refine rr_assign rfl rfl ?_
  refine rr_nil ?_
  refine cc_seq ?_
  refine cc_seq ?_
  refine CC.node [] n d p1_0 movX0 (begunN 1 (makeS (devN 400))) fun st le tk rg wv rv mv lv M h1 h2 h3 => ?_
  refine cc_region ?_
  refine rr_move rfl rfl ?_
  refine r_int rfl rfl rfl rfl ?_
  refine rr_move rfl rfl ?_
  refine rr_guardY rfl rfl rfl ?_
  refine rr_move rfl rfl ?_
  refine rr_guardY rfl rfl rfl ?_
  refine r_pnil rfl rfl rfl ?_
  first | refine rr_pick rfl rfl ?_ | refine rr_pickb rfl rfl rfl rfl ?_
  refine rr_move rfl rfl ?_
  refine rr_guardY rfl rfl rfl ?_
  refine rr_move rfl rfl ?_
  refine rr_guardY rfl rfl rfl ?_
  refine rr_nilCheck rfl rfl ?_
  refine rr_guardY rfl rfl rfl ?_
  refine r_fa rfl rfl ?_
  refine rr_guardY rfl rfl rfl ?_
  refine r_ld rfl (ls0 rfl) rfl rfl ?_
  refine rr_guardY rfl rfl rfl ?_
  refine r_pnil rfl rfl rfl ?_
  first | refine rr_pick rfl rfl ?_ | refine rr_pickb rfl rfl rfl rfl ?_
  refine rr_move rfl rfl ?_
  refine rr_guardY rfl rfl rfl ?_
  refine rr_move rfl rfl ?_
  refine rr_guardY rfl rfl rfl ?_
  refine rr_nilCheck rfl rfl ?_
  refine rr_guardY rfl rfl rfl ?_
  refine r_fa rfl rfl ?_
  refine rr_guardY rfl rfl rfl ?_
  refine r_ld rfl (ls0 rfl) rfl rfl ?_
  refine rr_guardY rfl rfl rfl ?_
  refine r_pnil rfl rfl rfl ?_
  first | refine rr_pick rfl rfl ?_ | refine rr_pickb rfl rfl rfl rfl ?_
  refine rr_nil ?_
  refine cc_condF rfl ?_
  refine cc_skip ?_
  refine cc_seq ?_
  refine CC.cls (nodeR [] n d p1_0 movX0 (begunN 1 (makeS (devN 400)))) (nodeRaw n d p1_0 st le tk (begunN 1 (makeS (devN 400))).id rg movX0 wv rv (begunN 1 (makeS (devN 400))).asked mv lv (begunN 1 (makeS (devN 400))).store (begunN 1 (makeS (devN 400))).lease (begunN 1 (makeS (devN 400))).tok (begunN 1 (makeS (devN 400))).waits (begunN 1 (makeS (devN 400))).reads M (begunN 1 (makeS (devN 400))).reps) (nodeR_mk [] n d p1_0 st le tk (begunN 1 (makeS (devN 400))).id rg movX0 wv rv (begunN 1 (makeS (devN 400))).asked mv lv (begunN 1 (makeS (devN 400))).store (begunN 1 (makeS (devN 400))).lease (begunN 1 (makeS (devN 400))).tok (begunN 1 (makeS (devN 400))).waits (begunN 1 (makeS (devN 400))).reads M (begunN 1 (makeS (devN 400))).reps h1 h2 h3) ?_
  refine cc_region ?_
  refine rr_move rfl rfl ?_
  refine rr_call rfl rfl rfl rfl (b_ask1 [] n d p1_0) inferInstance rfl (sd0 rfl) (fun _ => sd0 rfl) rfl (fun v => ?_)
  refine RR.opn (outR1 v ⟨1, 1, kk, 6, [], false⟩) rfl fun qa => ?_
  refine RR.pu2 ?_
  rintro rfl
  refine r_alloc rfl (sd0 rfl) (fun _ => sd0 rfl) (fun p5_2 => ?_)
  refine r_sta rfl rfl rfl rfl rfl (by first | exact Nat.le_of_ble_eq_true rfl | simp) (sd0 rfl) (sd0 rfl) ?_
  refine rr_nil ?_
  refine cc_seq ?_
  refine cc_region ?_
  refine rr_move rfl rfl ?_
  refine rr_call rfl rfl rfl rfl (b_beat [] n d p1_0) inferInstance rfl (sd0 rfl) (fun _ => sd0 rfl) rfl (fun v => ?_)
  refine RR.opn (outM1 v { renewM (begunN 1 (makeS (devN 400))) 0 with from_ := 1 }) rfl fun qo => ?_
  refine RR.pu2 ?_
  rintro rfl
  refine r_alloc rfl (sd0 rfl) (fun _ => sd0 rfl) (fun p6_2 => ?_)
  refine r_sta rfl rfl rfl rfl rfl (by first | exact Nat.le_of_ble_eq_true rfl | simp) (sd0 rfl) (sd0 rfl) ?_
  refine rr_nil ?_
  refine cc_seq ?_
  refine cc_region ?_
  refine rr_move rfl rfl ?_
  refine r_bsl (cs := [i64 1]) rfl rfl rfl rfl rfl rfl (by first | exact sd0 rfl | exact sd1 rfl) (fun _ => by first | exact sd0 rfl | exact sd1 rfl) (fun p7_1 => ?_)
  refine RR.cls (poolR [(p7_1, 3, [i64 1])]) (bl p7_1 3 [i64 1] * poolR []) (Ent.refl _) ?_
  refine RR.cl (X := nodeR [] n d p1_0 movX0 (begunN 1 (makeS (devN 400)))) (Y := nodeR [(p7_1, 3, [i64 1])] n d p1_0 movX0 (begunN 1 (makeS (devN 400)))) (nodeR_mono (fun _ h => by cases h) _ _ _ _ _) ?_
  refine r_bld rfl rfl rfl ?_
  refine rr_call rfl rfl rfl rfl (b_first n d p1_0 p7_1) inferInstance rfl (sd0 rfl) (fun _ => sd0 rfl) rfl (fun v => ?_)
  refine RR.ex1 fun V => ?_
  refine RR.pu2 fun hV => ?_
  refine rr_nil ?_
  refine cc_seq ?_
  refine cc_region ?_
  refine rr_move rfl rfl ?_
  refine rr_call rfl rfl rfl rfl (b_ask2 V n d p1_0) inferInstance rfl (sd0 rfl) (fun _ => sd0 rfl) rfl (fun v => ?_)
  refine RR.opn (outN v 0 0) rfl fun qb => ?_
  refine RR.pu ?_
  rintro rfl
  refine r_alloc rfl (sd0 rfl) (fun _ => sd0 rfl) (fun p8_2 => ?_)
  refine r_sta rfl rfl rfl rfl rfl (by first | exact Nat.le_of_ble_eq_true rfl | simp) (sd0 rfl) (sd0 rfl) ?_
  refine rr_nil ?_
  refine cc_seq ?_
  refine cc_region ?_
  refine rr_move rfl rfl ?_
  refine rr_call rfl rfl rfl rfl (b_reads V n d p1_0) inferInstance rfl (sd0 rfl) (fun _ => sd0 rfl) rfl (fun v => ?_)
  refine RR.slb v (by omega) fun rb rc rrest e1 e2 e3 => ?_
  subst e1
  refine rr_assign rfl rfl ?_
  refine rr_nil ?_
  refine cc_seq ?_
  refine cc_region ?_
  refine rr_move rfl rfl ?_
  refine rr_call rfl rfl rfl rfl (b_read V n d p1_0) inferInstance rfl (sd0 rfl) (fun _ => sd0 rfl) rfl (fun v => ?_)
  refine RR.opn (outR1 v ⟨2, 1, kk, 0, vv, true⟩) rfl fun qx => ?_
  refine RR.pu2 ?_
  rintro rfl
  refine r_alloc rfl (sd0 rfl) (fun _ => sd0 rfl) (fun p10_2 => ?_)
  refine r_sta rfl rfl rfl rfl rfl (by first | exact Nat.le_of_ble_eq_true rfl | simp) (sd0 rfl) (sd0 rfl) ?_
  refine rr_nil ?_
  refine cc_seq ?_
  refine cc_region ?_
  refine rr_move rfl rfl ?_
  refine rr_call rfl rfl rfl rfl (b_ask3 V n d p1_0) inferInstance rfl (sd0 rfl) (fun _ => sd0 rfl) rfl (fun v => ?_)
  refine RR.opn (outR1 v ⟨3, 1, kk, 0, vv, true⟩) rfl fun qy => ?_
  refine RR.pu2 ?_
  rintro rfl
  refine r_alloc rfl (sd0 rfl) (fun _ => sd0 rfl) (fun p11_2 => ?_)
  refine r_sta rfl rfl rfl rfl rfl (by first | exact Nat.le_of_ble_eq_true rfl | simp) (sd0 rfl) (sd0 rfl) ?_
  refine rr_nil ?_
  refine cc_seq ?_
  refine cc_region ?_
  refine rr_move rfl rfl ?_
  refine rr_call rfl rfl rfl rfl (b_ask4 V n d p1_0) inferInstance rfl (sd0 rfl) (fun _ => sd0 rfl) rfl (fun v => ?_)
  refine RR.opn (outR1 v ⟨4, 2, kk, 0, [], false⟩) rfl fun qz => ?_
  refine RR.pu2 ?_
  rintro rfl
  refine r_alloc rfl (sd0 rfl) (fun _ => sd0 rfl) (fun p12_2 => ?_)
  refine r_sta rfl rfl rfl rfl rfl (by first | exact Nat.le_of_ble_eq_true rfl | simp) (sd0 rfl) (sd0 rfl) ?_
  refine rr_nil ?_
  refine cc_seq ?_
  refine cc_region ?_
  refine r_fa rfl rfl ?_
  refine r_ld rfl (ls0 rfl) rfl rfl ?_
  refine r_lens rfl rfl ?_
  refine r_int rfl rfl rfl rfl ?_
  refine rr_move rfl rfl ?_
  refine rr_guardY rfl rfl rfl ?_
  refine r_fa rfl rfl ?_
  refine rr_guardY rfl rfl rfl ?_
  refine r_ld rfl (ls0 rfl) rfl rfl ?_
  refine rr_guardY rfl rfl rfl ?_
  refine r_ix rfl rfl rfl (by omega) ?_
  refine rr_guardY rfl rfl rfl ?_
  refine r_fa rfl rfl ?_
  refine rr_guardY rfl rfl rfl ?_
  refine r_ld rfl (ls0 rfl) rfl rfl ?_
  refine rr_guardY rfl rfl rfl ?_
  refine r_int rfl rfl rfl rfl ?_
  first | refine rr_pick rfl rfl ?_ | refine rr_pickb rfl rfl rfl rfl ?_
  refine rr_move rfl rfl ?_
  refine rr_guardY rfl rfl rfl ?_
  refine r_fa rfl rfl ?_
  refine rr_guardY rfl rfl rfl ?_
  refine r_ld rfl (ls0 rfl) rfl rfl ?_
  refine rr_guardY rfl rfl rfl ?_
  refine r_lens rfl rfl ?_
  refine rr_guardY rfl rfl rfl ?_
  refine r_int rfl rfl rfl rfl ?_
  first | refine rr_pick rfl rfl ?_ | refine rr_pickb rfl rfl rfl rfl ?_
  refine rr_move rfl rfl ?_
  refine rr_guardY rfl rfl rfl ?_
  refine r_fa rfl rfl ?_
  refine rr_guardY rfl rfl rfl ?_
  refine r_ld rfl (ls0 rfl) rfl rfl ?_
  refine rr_guardY rfl rfl rfl ?_
  refine r_ix rfl rfl rfl (by omega) ?_
  refine rr_guardY rfl rfl rfl ?_
  refine r_fa rfl rfl ?_
  refine rr_guardY rfl rfl rfl ?_
  refine r_ld rfl (ls0 rfl) rfl rfl ?_
  refine rr_guardY rfl rfl rfl ?_
  refine r_int rfl rfl rfl rfl ?_
  first | refine rr_pick rfl rfl ?_ | refine rr_pickb rfl rfl rfl rfl ?_
  refine rr_move rfl rfl ?_
  refine rr_guardY rfl rfl rfl ?_
  refine r_fa rfl rfl ?_
  refine rr_guardY rfl rfl rfl ?_
  refine r_ld rfl (ls0 rfl) rfl rfl ?_
  refine rr_guardY rfl rfl rfl ?_
  refine r_lens rfl rfl ?_
  refine rr_guardY rfl rfl rfl ?_
  refine r_int rfl rfl rfl rfl ?_
  first | refine rr_pick rfl rfl ?_ | refine rr_pickb rfl rfl rfl rfl ?_
  refine rr_move rfl rfl ?_
  refine rr_guardY rfl rfl rfl ?_
  refine rr_move rfl rfl ?_
  refine rr_guardY rfl rfl rfl ?_
  refine r_lens rfl rfl ?_
  refine rr_guardY rfl rfl rfl ?_
  refine r_int rfl rfl rfl rfl ?_
  first | refine rr_pick rfl rfl ?_ | refine rr_pickb rfl rfl rfl rfl ?_
  refine rr_move rfl rfl ?_
  refine rr_guardY rfl rfl rfl ?_
  refine rr_move rfl rfl ?_
  refine rr_guardY rfl rfl rfl ?_
  refine r_ix rfl rfl rfl (by omega) ?_
  refine rr_guardY rfl rfl rfl ?_
  refine r_ld rfl (ls0 rfl) rfl rfl ?_
  refine rr_guardY rfl rfl rfl ?_
  first | refine r_strx rfl rfl rfl rfl ?_ | refine r_str rfl rfl rfl rfl ?_
  first | refine rr_pick rfl rfl ?_ | refine rr_pickb rfl rfl rfl rfl ?_
  refine rr_move rfl rfl ?_
  refine rr_guardY rfl rfl rfl ?_
  refine r_fa rfl rfl ?_
  refine rr_guardY rfl rfl rfl ?_
  refine r_ld rfl (ls0 rfl) rfl rfl ?_
  refine rr_guardY rfl rfl rfl ?_
  refine r_lens rfl rfl ?_
  refine rr_guardY rfl rfl rfl ?_
  refine r_int rfl rfl rfl rfl ?_
  first | refine rr_pick rfl rfl ?_ | refine rr_pickb rfl rfl rfl rfl ?_
  refine rr_move rfl rfl ?_
  refine rr_guardY rfl rfl rfl ?_
  refine r_fa rfl rfl ?_
  refine rr_guardY rfl rfl rfl ?_
  refine r_ld rfl (ls0 rfl) rfl rfl ?_
  refine rr_guardY rfl rfl rfl ?_
  refine r_ix rfl rfl rfl (by omega) ?_
  refine rr_guardY rfl rfl rfl ?_
  refine r_fa rfl rfl ?_
  refine rr_guardY rfl rfl rfl ?_
  refine r_ld rfl (ls0 rfl) rfl rfl ?_
  refine rr_guardY rfl rfl rfl ?_
  refine r_int rfl rfl rfl rfl ?_
  first | refine rr_pick rfl rfl ?_ | refine rr_pickb rfl rfl rfl rfl ?_
  refine rr_move rfl rfl ?_
  refine rr_guardY rfl rfl rfl ?_
  refine r_fa rfl rfl ?_
  refine rr_guardY rfl rfl rfl ?_
  refine r_ld rfl (ls0 rfl) rfl rfl ?_
  refine rr_guardY rfl rfl rfl ?_
  refine r_ix rfl rfl rfl (by omega) ?_
  refine rr_guardY rfl rfl rfl ?_
  refine r_fa rfl rfl ?_
  refine rr_guardY rfl rfl rfl ?_
  refine r_ld rfl (ls0 rfl) rfl rfl ?_
  refine rr_guardY rfl rfl rfl ?_
  first | refine r_strx rfl rfl rfl rfl ?_ | refine r_str rfl rfl rfl rfl ?_
  first | refine rr_pick rfl rfl ?_ | refine rr_pickb rfl rfl rfl rfl ?_
  refine rr_move rfl rfl ?_
  refine rr_guardY rfl rfl rfl ?_
  refine r_fa rfl rfl ?_
  refine rr_guardY rfl rfl rfl ?_
  refine r_ld rfl (ls0 rfl) rfl rfl ?_
  refine rr_guardY rfl rfl rfl ?_
  refine r_lens rfl rfl ?_
  refine rr_guardY rfl rfl rfl ?_
  refine r_int rfl rfl rfl rfl ?_
  first | refine rr_pick rfl rfl ?_ | refine rr_pickb rfl rfl rfl rfl ?_
  refine rr_move rfl rfl ?_
  refine rr_guardY rfl rfl rfl ?_
  refine r_fa rfl rfl ?_
  refine rr_guardY rfl rfl rfl ?_
  refine r_ld rfl (ls0 rfl) rfl rfl ?_
  refine rr_guardY rfl rfl rfl ?_
  refine r_ix rfl rfl rfl (by omega) ?_
  refine rr_guardY rfl rfl rfl ?_
  refine r_fa rfl rfl ?_
  refine rr_guardY rfl rfl rfl ?_
  refine r_ld rfl (ls0 rfl) rfl rfl ?_
  first | refine rr_pick rfl rfl ?_ | refine rr_pickb rfl rfl rfl rfl ?_
  refine rr_move rfl rfl ?_
  refine rr_guardY rfl rfl rfl ?_
  refine r_fa rfl rfl ?_
  refine rr_guardY rfl rfl rfl ?_
  refine r_ld rfl (ls0 rfl) rfl rfl ?_
  refine rr_guardY rfl rfl rfl ?_
  refine r_lens rfl rfl ?_
  refine rr_guardY rfl rfl rfl ?_
  refine r_int rfl rfl rfl rfl ?_
  first | refine rr_pick rfl rfl ?_ | refine rr_pickb rfl rfl rfl rfl ?_
  refine rr_move rfl rfl ?_
  refine rr_guardY rfl rfl rfl ?_
  refine r_fa rfl rfl ?_
  refine rr_guardY rfl rfl rfl ?_
  refine r_ld rfl (ls0 rfl) rfl rfl ?_
  refine rr_guardY rfl rfl rfl ?_
  refine r_ix rfl rfl rfl (by omega) ?_
  refine rr_guardY rfl rfl rfl ?_
  refine r_fa rfl rfl ?_
  refine rr_guardY rfl rfl rfl ?_
  refine r_ld rfl (ls0 rfl) rfl rfl ?_
  refine rr_guardY rfl rfl rfl ?_
  refine r_int rfl rfl rfl rfl ?_
  first | refine rr_pick rfl rfl ?_ | refine rr_pickb rfl rfl rfl rfl ?_
  refine rr_move rfl rfl ?_
  refine rr_guardY rfl rfl rfl ?_
  refine rr_move rfl rfl ?_
  refine rr_guardY rfl rfl rfl ?_
  refine rr_call rfl rfl rfl rfl (b_serves V n d p1_0) inferInstance rfl (sd0 rfl) (fun _ => sd0 rfl) rfl (fun v => ?_)
  first | refine RR.pu2 ?_ | refine RR.pu ?_
  rintro rfl
  first | refine rr_pick rfl rfl ?_ | refine rr_pickb rfl rfl rfl rfl ?_
  refine rr_move rfl rfl ?_
  refine rr_guardY rfl rfl rfl ?_
  refine rr_move rfl rfl ?_
  refine rr_guardY rfl rfl rfl ?_
  refine rr_call rfl rfl rfl rfl (b_ring V n d p1_0) inferInstance rfl (sd0 rfl) (fun _ => sd0 rfl) rfl (fun v => ?_)
  refine RR.ex1 fun r => ?_
  refine RR.pu2 fun hr => ?_
  obtain ⟨rfl, hr⟩ := hr
  refine rr_guardY rfl rfl rfl ?_
  refine rr_call rfl rfl rfl rfl (rhas_tr V r 2 1 [1] hr (by decide)) inferInstance rfl (sd0 rfl) (fun _ => sd0 rfl) rfl (fun v => ?_)
  first | refine RR.pu2 ?_ | refine RR.pu ?_
  rintro rfl
  first | refine rr_pick rfl rfl ?_ | refine rr_pickb rfl rfl rfl rfl ?_
  refine rr_assign rfl rfl ?_
  refine rr_nil ?_
  refine cc_ret ?_
  exact ⟨_, rfl, entW_pu rfl entW_fr⟩
end Go.Proofs.YtoiakcgdkegncaaGreat

namespace Go.Proofs.YtoiakcgdkegncaaGreat
open Go.RowKit Ice
attribute [local irreducible] CC RR Tr stir mixOf mixPoint ptsOf appD putC addC flushD killS dropsC supW metaText devN begunN makeS N1 N2 N3 firstN
theorem tmod_bd (a b : Int) (h : 0 < b) : -b < a.tmod b ∧ a.tmod b < b := ⟨Int.lt_tmod_of_pos a h, Int.tmod_lt_of_pos a h⟩
theorem readsLen_tr (U : Pool) (n d c k : Nat) (X : MovX) (N : NodeS) (h : N.reads.length = k) (hk : k ≤ 2 ^ 20) : Tr Tryz.prog 8 #[ptr n] (nodeR U n d c X N) (fun v => ex fun q : Option Addr × Nat => pu (v = .slice q.1 k q.2) * nodeR U n d c X N) := by
  subst h
  refine tr_ent (nreads_tr U n d c X N hk) (fun F w s => s) fun v F w s => ?_
  rw [sl_assoc] at s
  obtain ⟨b, cap, e, _⟩ := slR_val s
  exact sat_ex_mul.2 ⟨(b, cap), sat_pu2.2 ⟨e, s.r⟩⟩
theorem N2_reads (m kl : Nat) : (N2 m kl 0).reads.length = m := by
  unfold N2; show ((rdL m).drop 0).length = m; simp [rdL]
theorem N3_reads (m kl : Nat) (h : kl < m) : (N3 m kl m).reads.length = 1 := by
  unfold N3; rw [if_pos h]; rfl
theorem first_N1 : firstN (devN 800) 1 = N1 0 := by unfold N1; exact first_st
theorem nodeKills_tr (n kill : Int) (hn : -9223372036854775808 ≤ n ∧ n ≤ 9223372036854775807) (hk : -9223372036854775808 ≤ kill ∧ kill ≤ 9223372036854775807) :
    Tr Tryz.prog 3 #[i64 n, i64 kill] 1 (fun v => pu (v = .bool true)) := by
  refine tr_body Tryz.func3 (by kernel_rfl) rfl Tryz.ntmps3 rfl (L := [(0, i64 n), (1, i64 kill)]) (covers_cons rfl (covers_cons rfl covers_nil)) rfl ?_
  intro F w0 f
  rw [sl_one_mul]
  obtain ⟨h1, h2⟩ := tmod_bd n 8 (by omega)
  refine cc_seq ?_
  refine cc_region ?_
  refine rr_assign rfl rfl ?_
  refine rr_nil ?_
  refine cc_seq ?_
  refine cc_region ?_
  refine rr_call rfl rfl rfl rfl (begun_tr) inferInstance rfl (sd0 rfl) (fun _ => sd0 rfl) rfl (fun v => ?_)
  first | refine RR.pu2 ?_ | refine RR.pu ?_
  rintro rfl
  refine rr_assign rfl rfl ?_
  refine rr_nil ?_
  refine cc_seq ?_
  refine cc_seq ?_
  refine cc_region ?_
  refine rr_move rfl rfl ?_
  refine r_not rfl rfl ?_
  refine rr_nil ?_
  refine cc_condF rfl ?_
  refine cc_skip ?_
  refine cc_seq ?_
  refine cc_region ?_
  refine rr_move rfl rfl ?_
  refine r_rem rfl rfl rfl (by decide) ?_
  generalize n.tmod 8 = x at h1 h2 ⊢
  obtain ⟨h3, h4⟩ := tmod_bd (x + 8) 8 (by omega)
  have h5 := Int.tmod_nonneg 8 (by omega : 0 ≤ x + 8)
  refine r_add rfl rfl rfl (by omega) ?_
  refine r_rem rfl rfl rfl (by decide) ?_
  generalize (x + 8).tmod 8 = y at h3 h4 h5 ⊢
  obtain ⟨m, rfl⟩ : ∃ m : Nat, y = (m : Int) := ⟨y.toNat, by omega⟩
  refine r_add rfl rfl rfl (by omega) ?_
  rw [show (1 : Int) + (m : Int) = ((m + 1 : Nat) : Int) by omega]
  refine rr_assign rfl rfl ?_
  refine rr_nil ?_
  refine cc_seq ?_
  obtain ⟨m', hm'⟩ : ∃ m', m' = m + 1 := ⟨_, rfl⟩
  rw [← hm']
  have hm1 : 1 ≤ m' := by omega
  have hm8 : m' ≤ 8 := by omega
  obtain ⟨k1, k2⟩ := tmod_bd kill m' (by omega)
  refine cc_region ?_
  refine rr_move rfl rfl ?_
  refine rr_move rfl rfl ?_
  refine r_rem rfl rfl rfl (by omega) ?_
  generalize kill.tmod m' = x2 at k1 k2 ⊢
  obtain ⟨k3, k4⟩ := tmod_bd (x2 + m') m' (by omega)
  have k5 := Int.tmod_nonneg m' (by omega : 0 ≤ x2 + m')
  refine rr_move rfl rfl ?_
  refine r_add rfl rfl rfl (by omega) ?_
  refine rr_move rfl rfl ?_
  refine r_rem rfl rfl rfl (by omega) ?_
  generalize (x2 + (m' : Int)).tmod m' = y2 at k3 k4 k5 ⊢
  obtain ⟨kl, rfl⟩ : ∃ kl : Nat, y2 = (kl : Int) := ⟨y2.toNat, by omega⟩
  have hkl : kl < m' := by omega
  refine rr_assign rfl rfl ?_
  refine rr_nil ?_
  refine cc_seq ?_
  refine cc_region ?_
  refine r_alloc rfl (sd0 rfl) (fun _ => sd0 rfl) (fun p6_0 => ?_)
  refine rr_nil ?_
  refine cc_seq ?_
  refine cc_region ?_
  refine rr_call rfl rfl rfl rfl (alone_tr p6_0) inferInstance rfl (sd0 rfl) (fun _ => sd0 rfl) rfl (fun v => ?_)
  refine RR.ex1 fun q => ?_
  refine RR.pu2 ?_
  rintro rfl
  obtain ⟨nn, d, V⟩ := q
  simp only
  rw [first_N1]
  refine rr_move rfl rfl ?_
  refine rr_extract rfl rfl rfl ?_
  refine rr_extract rfl rfl rfl ?_
  refine rr_assign rfl rfl ?_
  refine rr_assign rfl rfl ?_
  refine rr_nil ?_
  refine cc_seq ?_
  refine cc_seq ?_
  refine cc_region ?_
  refine rr_move rfl rfl ?_
  refine r_pnil rfl rfl rfl ?_
  refine rr_nil ?_
  refine cc_condF rfl ?_
  refine cc_skip ?_
  refine cc_seq ?_
  refine cc_region ?_
  refine rr_assign rfl rfl ?_
  refine rr_nil ?_
  refine cc_seq ?_
  refine cc_seq ?_
  refine cc_region ?_
  refine rr_assign rfl rfl ?_
  refine rr_nil ?_
  refine cc_block ?_
  refine cc_loopW (α := Nat) (fun i => [(10, i64 i), (0, i64 m'), (1, i64 kl), (7, ptr nn), (9, .func (.func 6) #[] #[])]) (fun i => pu (i ≤ m') * (nodeR V nn d p6_0 movX0 (N1 i) * (poolR V * (clockR p6_0 0 * F)))) (fun i => m' - i) (0) (by ((repeat' (first | exact covers_nil | (refine covers_cons ?_ ?_; focus (first | rfl | (simp [lk, lk?]; done))))) ; (first | done | fail))) (by exact entW_pu (by omega) entW_fr) ?_
  rintro i f
  refine CC.pu fun hi => ?_
  refine cc_seq ?_
  refine cc_seq ?_
  refine cc_region ?_
  refine rr_move rfl rfl ?_
  refine rr_move rfl rfl ?_
  refine r_int rfl rfl rfl rfl ?_
  refine rr_nil ?_
  refine cc_cond rfl (fun h39 => ?_) (fun h39 => ?_)
  · try simp only [decide_eq_true_eq, decide_eq_false_iff_not, beq_iff_eq, beq_eq_false_iff_ne, bne_iff_ne, bne_eq_false_iff_eq, ne_eq, Bool.not_eq_eq_eq_not, Bool.not_true, Bool.not_false] at h39
    refine cc_skip ?_
    refine cc_seq ?_
    refine cc_block ?_
    refine cc_region ?_
    refine rr_move rfl rfl ?_
    refine rr_move rfl rfl ?_
    refine r_add rfl rfl rfl (by omega) ?_
    refine rr_move rfl rfl ?_
    refine rr_move rfl rfl ?_
    refine rr_call rfl rfl rfl rfl (name_tr i (by omega)) inferInstance rfl (sd0 rfl) (fun _ => sd0 rfl) rfl (fun v => ?_)
    first | refine RR.pu2 ?_ | refine RR.pu ?_
    rintro rfl
    refine rr_call rfl rfl rfl rfl (ask1_tr V nn d p6_0 i movX0 (by omega)) inferInstance rfl (sd0 rfl) (fun _ => sd0 rfl) rfl (fun v => ?_)
    skip
    refine rr_nil ?_
    refine cc_region ?_
    refine rr_move rfl rfl ?_
    refine r_add rfl rfl rfl (by omega) ?_
    refine rr_assign rfl rfl ?_
    refine rr_nil ?_
    exact ⟨i + 1, by omega, by ((repeat' (first | exact covers_nil | (refine covers_cons ?_ ?_; focus (first | rfl | (simp [lk, lk?]; done))))) ; (first | done | fail)), entW_pu (by omega) entW_fr⟩
  · try simp only [decide_eq_true_eq, decide_eq_false_iff_not, beq_iff_eq, beq_eq_false_iff_ne, bne_iff_ne, bne_eq_false_iff_eq, ne_eq, Bool.not_eq_eq_eq_not, Bool.not_true, Bool.not_false] at h39
    obtain rfl : m' = i := by omega
    refine cc_exit ?_
    refine cc_seq ?_
    refine cc_region ?_
    refine rr_move rfl rfl ?_
    refine rr_move rfl rfl ?_
    refine rr_move rfl rfl ?_
    refine rr_call rfl rfl rfl rfl (name_tr kl (by omega)) inferInstance rfl (sd0 rfl) (fun _ => sd0 rfl) rfl (fun v => ?_)
    first | refine RR.pu2 ?_ | refine RR.pu ?_
    rintro rfl
    refine rr_call rfl rfl rfl rfl (tr_out (fun v R => outR_1 V v _ _ R) (askK_tr V nn d p6_0 m' kl movX0 hm8 hkl)) inferInstance rfl (sd0 rfl) (fun _ => sd0 rfl) rfl (fun v => ?_)
    refine RR.opn (outR1 v ⟨50, 2, nameK kl, 0, [], false⟩) rfl fun qz => ?_
    refine RR.pu2 ?_
    rintro rfl
    refine r_alloc rfl (sd0 rfl) (fun _ => sd0 rfl) (fun p15_5 => ?_)
    refine r_sta rfl rfl rfl rfl rfl (by first | exact Nat.le_of_ble_eq_true rfl | simp) (sd0 rfl) (sd0 rfl) ?_
    refine rr_nil ?_
    refine cc_seq ?_
    refine cc_seq ?_
    refine cc_region ?_
    refine rr_move rfl rfl ?_
    refine rr_call rfl rfl rfl rfl (readsLen_tr V nn d p6_0 m' movX0 (N2 m' kl 0) (N2_reads m' kl) (by omega)) inferInstance rfl (sd0 rfl) (fun _ => sd0 rfl) rfl (fun v => ?_)
    refine RR.ex1 fun qr => ?_
    refine RR.pu2 ?_
    rintro rfl
    refine r_lens rfl rfl ?_
    refine rr_move rfl rfl ?_
    refine r_int rfl rfl rfl rfl ?_
    rw [show ((m' : Int) != (m' : Int)) = false by simp]
    refine rr_move rfl rfl ?_
    refine rr_guardY rfl rfl rfl ?_
    refine r_fa rfl rfl ?_
    refine rr_guardY rfl rfl rfl ?_
    refine r_ld rfl (ls0 rfl) rfl rfl ?_
    refine rr_guardY rfl rfl rfl ?_
    refine r_lens rfl rfl ?_
    refine rr_guardY rfl rfl rfl ?_
    refine r_int rfl rfl rfl rfl ?_
    first | refine rr_pick rfl rfl ?_ | refine rr_pickb rfl rfl rfl rfl ?_
    refine rr_move rfl rfl ?_
    refine rr_guardY rfl rfl rfl ?_
    refine r_fa rfl rfl ?_
    refine rr_guardY rfl rfl rfl ?_
    refine r_ld rfl (ls0 rfl) rfl rfl ?_
    refine rr_guardY rfl rfl rfl ?_
    refine r_ix rfl rfl rfl (by omega) ?_
    refine rr_guardY rfl rfl rfl ?_
    refine r_fa rfl rfl ?_
    refine rr_guardY rfl rfl rfl ?_
    refine r_ld rfl (ls0 rfl) rfl rfl ?_
    refine rr_guardY rfl rfl rfl ?_
    refine r_int rfl rfl rfl rfl ?_
    first | refine rr_pick rfl rfl ?_ | refine rr_pickb rfl rfl rfl rfl ?_
    refine rr_nil ?_
    refine cc_condF rfl ?_
    refine cc_skip ?_
    refine cc_seq ?_
    refine cc_seq ?_
    refine cc_region ?_
    refine rr_assign rfl rfl ?_
    refine rr_nil ?_
    refine cc_block ?_
    refine cc_loopW (α := Nat) (fun j => [(12, i64 j), (0, i64 m'), (1, i64 kl), (7, ptr nn), (9, .func (.func 6) #[] #[])]) (fun j => pu (j ≤ m') * (nodeR V nn d p6_0 movX0 (N2 m' kl j) * (poolR V * (clockR p6_0 0 * F)))) (fun j => m' - j) (0) (by ((repeat' (first | exact covers_nil | (refine covers_cons ?_ ?_; focus (first | rfl | (simp [lk, lk?]; done))))) ; (first | done | fail))) (by exact entW_pu (by omega) entW_fr) ?_
    rintro j f
    refine CC.pu fun hj => ?_
    refine cc_seq ?_
    refine cc_seq ?_
    refine cc_region ?_
    refine rr_move rfl rfl ?_
    refine rr_move rfl rfl ?_
    refine r_int rfl rfl rfl rfl ?_
    refine rr_nil ?_
    refine cc_cond rfl (fun h75 => ?_) (fun h75 => ?_)
    · try simp only [decide_eq_true_eq, decide_eq_false_iff_not, beq_iff_eq, beq_eq_false_iff_ne, bne_iff_ne, bne_eq_false_iff_eq, ne_eq, Bool.not_eq_eq_eq_not, Bool.not_true, Bool.not_false] at h75
      refine cc_skip ?_
      refine cc_seq ?_
      refine cc_block ?_
      refine cc_seq ?_
      refine cc_region ?_
      refine rr_move rfl rfl ?_
      refine rr_call rfl rfl rfl rfl (tr_out (fun v R => outR_1 V v _ _ R) (read2_tr V nn d p6_0 m' kl j movX0 hm8 hkl (by omega))) inferInstance rfl (sd0 rfl) (fun _ => sd0 rfl) rfl (fun v => ?_)
      refine RR.opn (outR1 v ⟨(j : Int) + 1, 1, nameK j, 0, [118], true⟩) rfl fun qx => ?_
      refine RR.pu2 ?_
      rintro rfl
      refine r_alloc rfl (sd0 rfl) (fun _ => sd0 rfl) (fun p21_2 => ?_)
      refine r_sta rfl rfl rfl rfl rfl (by first | exact Nat.le_of_ble_eq_true rfl | simp) (sd0 rfl) (sd0 rfl) ?_
      refine rr_nil ?_
      refine cc_seq ?_
      refine cc_region ?_
      refine r_fa rfl rfl ?_
      refine r_ld rfl (ls0 rfl) rfl rfl ?_
      refine r_lens rfl rfl ?_
      refine r_int rfl rfl rfl rfl ?_
      refine rr_move rfl rfl ?_
      refine rr_guardY rfl rfl rfl ?_
      refine r_fa rfl rfl ?_
      refine rr_guardY rfl rfl rfl ?_
      refine r_ld rfl (ls0 rfl) rfl rfl ?_
      refine rr_guardY rfl rfl rfl ?_
      refine r_ix rfl rfl rfl (by omega) ?_
      refine rr_guardY rfl rfl rfl ?_
      refine r_fa rfl rfl ?_
      refine rr_guardY rfl rfl rfl ?_
      refine r_ld rfl (ls0 rfl) rfl rfl ?_
      refine rr_guardY rfl rfl rfl ?_
      refine rr_move rfl rfl ?_
      refine rr_guardY rfl rfl rfl ?_
      refine r_add rfl rfl rfl (by omega) ?_
      refine rr_guardY rfl rfl rfl ?_
      refine r_int rfl rfl rfl rfl ?_
      rw [show (((j : Int) + 1) != ((j : Int) + 1)) = false by simp]
      first | refine rr_pick rfl rfl ?_ | refine rr_pickb rfl rfl rfl rfl ?_
      refine rr_move rfl rfl ?_
      refine rr_guardY rfl rfl rfl ?_
      refine r_fa rfl rfl ?_
      refine rr_guardY rfl rfl rfl ?_
      refine r_ld rfl (ls0 rfl) rfl rfl ?_
      refine rr_guardY rfl rfl rfl ?_
      refine r_ix rfl rfl rfl (by omega) ?_
      refine rr_guardY rfl rfl rfl ?_
      refine r_fa rfl rfl ?_
      refine rr_guardY rfl rfl rfl ?_
      refine r_ld rfl (ls0 rfl) rfl rfl ?_
      refine rr_guardY rfl rfl rfl ?_
      first | refine r_strx rfl rfl rfl rfl ?_ | refine r_str rfl rfl rfl rfl ?_
      first | refine rr_pick rfl rfl ?_ | refine rr_pickb rfl rfl rfl rfl ?_
      refine rr_nil ?_
      refine cc_condF rfl ?_
      refine cc_skip ?_
      refine cc_region ?_
      refine rr_move rfl rfl ?_
      refine r_add rfl rfl rfl (by omega) ?_
      refine rr_assign rfl rfl ?_
      refine rr_nil ?_
      exact ⟨j + 1, by omega, by ((repeat' (first | exact covers_nil | (refine covers_cons ?_ ?_; focus (first | rfl | (simp [lk, lk?]; done))))) ; (first | done | fail)), entW_pu (by omega) entW_fr⟩
    · try simp only [decide_eq_true_eq, decide_eq_false_iff_not, beq_iff_eq, beq_eq_false_iff_ne, bne_iff_ne, bne_eq_false_iff_eq, ne_eq, Bool.not_eq_eq_eq_not, Bool.not_true, Bool.not_false] at h75
      obtain rfl : m' = j := by omega
      rw [N3_0]
      refine cc_exit ?_
      refine cc_seq ?_
      refine cc_seq ?_
      refine cc_region ?_
      refine rr_assign rfl rfl ?_
      refine rr_nil ?_
      refine cc_block ?_
      refine cc_loopW (α := Nat) (fun i => [(14, i64 i), (0, i64 m'), (1, i64 kl), (7, ptr nn), (9, .func (.func 6) #[] #[])]) (fun i => pu (i ≤ m') * (nodeR V nn d p6_0 movX0 (N3 m' kl i) * (poolR V * (clockR p6_0 0 * F)))) (fun i => m' - i) (0) (by ((repeat' (first | exact covers_nil | (refine covers_cons ?_ ?_; focus (first | rfl | (simp [lk, lk?]; done))))) ; (first | done | fail))) (by exact entW_pu (by omega) entW_fr) ?_
      rintro i f
      refine CC.pu fun hi => ?_
      refine cc_seq ?_
      refine cc_seq ?_
      refine cc_region ?_
      refine rr_move rfl rfl ?_
      refine rr_move rfl rfl ?_
      refine r_int rfl rfl rfl rfl ?_
      refine rr_nil ?_
      refine cc_cond rfl (fun h104 => ?_) (fun h104 => ?_)
      · try simp only [decide_eq_true_eq, decide_eq_false_iff_not, beq_iff_eq, beq_eq_false_iff_ne, bne_iff_ne, bne_eq_false_iff_eq, ne_eq, Bool.not_eq_eq_eq_not, Bool.not_true, Bool.not_false] at h104
        refine cc_skip ?_
        refine cc_seq ?_
        refine cc_block ?_
        refine cc_seq ?_
        refine cc_region ?_
        refine rr_move rfl rfl ?_
        refine rr_move rfl rfl ?_
        refine r_add rfl rfl rfl (by omega) ?_
        refine rr_move rfl rfl ?_
        refine rr_move rfl rfl ?_
        refine rr_call rfl rfl rfl rfl (name_tr i (by omega)) inferInstance rfl (sd0 rfl) (fun _ => sd0 rfl) rfl (fun v => ?_)
        first | refine RR.pu2 ?_ | refine RR.pu ?_
        rintro rfl
        refine rr_call rfl rfl rfl rfl (tr_out (fun v R => outR_n V v _ _ R) (ask3_tr V nn d p6_0 m' kl i movX0 hm8 hkl (by omega))) inferInstance rfl (sd0 rfl) (fun _ => sd0 rfl) rfl (fun v => ?_)
        refine RR.opn (outN v ([] : List MsgS).length (reps3 kl i).length) rfl fun qb => ?_
        refine RR.pu ?_
        rintro rfl
        refine r_alloc rfl (sd0 rfl) (fun _ => sd0 rfl) (fun p27_7 => ?_)
        refine r_sta rfl rfl rfl rfl rfl (by first | exact Nat.le_of_ble_eq_true rfl | simp) (sd0 rfl) (sd0 rfl) ?_
        refine rr_nil ?_
        refine cc_seq ?_
        refine cc_region ?_
        refine r_fa rfl rfl ?_
        refine r_ld rfl (ls0 rfl) rfl rfl ?_
        refine r_lens rfl rfl ?_
        refine r_int rfl rfl rfl rfl ?_
        refine rr_move rfl rfl ?_
        refine rr_move rfl rfl ?_
        refine r_int rfl rfl rfl rfl ?_
        refine r_beq rfl rfl rfl rfl ?_
        refine rr_nil ?_
        refine cc_condFp rfl (by (unfold reps3; by_cases hik : i = kl <;> simp [hik] <;> omega)) ?_
        refine cc_skip ?_
        refine cc_region ?_
        refine rr_move rfl rfl ?_
        refine r_add rfl rfl rfl (by omega) ?_
        refine rr_assign rfl rfl ?_
        refine rr_nil ?_
        exact ⟨i + 1, by omega, by ((repeat' (first | exact covers_nil | (refine covers_cons ?_ ?_; focus (first | rfl | (simp [lk, lk?]; done))))) ; (first | done | fail)), entW_pu (by omega) entW_fr⟩
      · try simp only [decide_eq_true_eq, decide_eq_false_iff_not, beq_iff_eq, beq_eq_false_iff_ne, bne_iff_ne, bne_eq_false_iff_eq, ne_eq, Bool.not_eq_eq_eq_not, Bool.not_true, Bool.not_false] at h104
        obtain rfl : m' = i := by omega
        refine cc_exit ?_
        refine cc_seq ?_
        refine cc_region ?_
        refine rr_move rfl rfl ?_
        refine rr_call rfl rfl rfl rfl (readsLen_tr V nn d p6_0 1 movX0 (N3 m' kl m') (N3_reads m' kl hkl) (by omega)) inferInstance rfl (sd0 rfl) (fun _ => sd0 rfl) rfl (fun v => ?_)
        refine RR.ex1 fun qr => ?_
        refine RR.pu2 ?_
        rintro rfl
        refine r_lens rfl rfl ?_
        refine r_int rfl rfl rfl rfl ?_
        refine rr_assign rfl rfl ?_
        refine rr_nil ?_
        refine cc_ret ?_
        exact ⟨_, rfl, entW_pu rfl entW_fr⟩
end Go.Proofs.YtoiakcgdkegncaaGreat

