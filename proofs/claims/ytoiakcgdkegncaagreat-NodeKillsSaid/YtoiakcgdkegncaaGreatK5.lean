import Derived.Test.YtoiakcgdkegncaaGreatK4
set_option linter.unusedVariables false
set_option linter.unusedSimpArgs false
set_option linter.unusedSectionVars false
namespace Go.Proofs.YtoiakcgdkegncaaGreat
open Go.RowKit Ice
attribute [local irreducible] CC RR Tr crcL be supSec supW supMake
structure Seg where
  gen : Nat
  base : Nat
  run : Nat
  buf : Txt
  recs : List (Nat × Txt)
def bodies : List Value → List (Nat × Txt) → SL
  | [], [] => 1
  | u :: us, r :: rs => slR u 5 1 r.2.length (bv r.2) * bodies us rs
  | _, _ => pu False
def recV (us : List Value) (rs : List (Nat × Txt)) : List Value := (us.zip rs).flatMap fun x => [i64 x.2.1, x.1]
/-- records -/
def recsR (v : Value) (rs : List (Nat × Txt)) : SL := ex fun us => pu (us.length = rs.length) * (slR v 241 2 rs.length (recV us rs) * bodies us rs)
/-- a segment, but for what its slices own -/
abbrev segB (g : Nat) (S : Seg) (bv_ rv : Value) : SL := bl g 233 [i64 S.gen, i64 S.base, i64 S.run, bv_, rv]
def startN (i : Nat) : Nat := i * 48 - 6
def secTo (i : Nat) : Nat := if i = 0 then 42 else 48
/-- a sector's part of a segment's bytes -/
def secPart (i : Nat) (buf : Txt) : Txt := (buf.drop (startN i)).take (secTo i)
def secData (i base : Nat) (buf : Txt) : Txt := (if i = 0 then be 6 (UInt64.ofNat base) else []) ++ (secPart i buf ++ zeros (secTo i - (secPart i buf).length))
def secRest (S : Seg) (i run : Nat) : Txt := be 6 (UInt64.ofNat S.gen) ++ (be 4 (UInt64.ofNat run) ++ (UInt8.ofNat i :: UInt8.ofNat (secPart i S.buf).length :: secData i S.base S.buf))
/-- a segment's sector -/
def secBytes (S : Seg) (i run : Nat) : Txt := be 4 (crcL (secRest S i run)).toUInt64 ++ secRest S i run
theorem secPart_le (i : Nat) (buf : Txt) : (secPart i buf).length ≤ secTo i := by simp [secPart]; omega
theorem secRest_len (S : Seg) (i run : Nat) : (secRest S i run).length = 60 := by
  have := secPart_le i S.buf
  simp only [secRest, secData, List.length_append, List.length_cons, be_len, zeros, List.length_replicate]
  split
  · rename_i h; simp only [secTo, h, if_true] at this ⊢; simp; omega
  · rename_i h; simp only [secTo, h, if_false] at this ⊢; simp; omega
theorem secBytes_len (S : Seg) (i run : Nat) : (secBytes S i run).length = 64 := by simp [secBytes, secRest_len]
theorem part_cells (i : Nat) (buf : Txt) : ((((bv buf).drop (min (startN i) buf.length * 1)).take ((buf.length - min (startN i) buf.length) * 1)).take ((secPart i buf).length * 1)) = bv (secPart i buf) := by
  rw [Nat.mul_one, Nat.mul_one, Nat.mul_one, bv_drop, bv_take, bv_take]
  congr 1
  rw [List.take_of_length_le (l := buf.drop _) (by simp)]
  by_cases h : startN i ≤ buf.length
  · rw [Nat.min_eq_left h, secPart, List.length_take, List.length_drop]
    rw [List.take_eq_take_iff]; simp
  · have : secPart i buf = [] := by rw [secPart, List.drop_of_length_le (by omega)]; simp
    rw [this]; rfl
theorem sector_tr (g i run : Nat) (bV rV : Value) (S : Seg) (hi : i ≤ 7) (hb : S.buf.length ≤ 400) :
    Tr Tryz.prog 169 #[ptr g, i64 i, i64 run] (segB g S bV rV * slR bV 5 1 S.buf.length (bv S.buf))
      (fun v => ex fun x => pu (v = .slice (some ⟨x, 0, none⟩) 64 64) * (bl x 5 (bv (secBytes S i run)) * segB g S bV rV * slR bV 5 1 S.buf.length (bv S.buf))) := by
  refine tr_body Tryz.func169 (by kernel_rfl) rfl Tryz.ntmps169 rfl (L := [(0, ptr g), (1, i64 i), (2, i64 run)]) (covers_cons rfl (covers_cons rfl (covers_cons rfl covers_nil))) rfl ?_
  intro F w0 f
  refine CC.slv bV fun bb bc hbV _ => ?_
  subst hbV
  have hpl := secPart_le i S.buf
  generalize hpre : zeros 4 ++ (be 6 (UInt64.ofNat S.gen) ++ (be 4 (UInt64.ofNat run) ++ ([UInt8.ofNat i, 0] ++ (if i = 0 then be 6 (UInt64.ofNat S.base) else [])))) = pre
  have hpre1 : pre.length = if i = 0 then 22 else 16 := by rw [← hpre]; split <;> simp [zeros]
  refine cc_seq ?_
  refine cc_region ?_
  refine rr_assign rfl rfl ?_
  refine rr_nil ?_
  refine cc_seq ?_
  refine cc_region ?_
  refine r_mks (m := 64) (c := 64) rfl rfl rfl (by omega) (by omega) (by omega) rfl (sd0 rfl) (fun _ => sd0 rfl) (fun x => ?_)
  rw [repC_zero]
  refine rr_assign rfl rfl ?_
  refine rr_nil ?_
  refine cc_seq ?_
  refine cc_draw (1) [] [] mixed (by decide +kernel) ?_
  refine rr_move rfl rfl ?_
  refine r_sls (lo := 4) (hi := 10) rfl (by first | rfl | exact ⟨_, rfl⟩) (by first | rfl | exact ⟨_, rfl⟩) rfl (by omega) (by omega) (by omega) ?_
  refine rr_move rfl rfl ?_
  refine rr_nilCheck rfl rfl ?_
  refine r_fa rfl rfl ?_
  refine r_ld rfl (ls0 rfl) rfl rfl ?_
  refine r_conv rfl rfl ?_
  rw [ku64_of]
  refine rr_call rfl rfl rfl rfl (lput_tr x 4 6 60 5 (bv (zeros 64)) (UInt64.ofNat S.gen) (by omega) (by simp [zeros]) (by simp [zeros])) inferInstance rfl (sd0 rfl) (fun _ => sd0 rfl) rfl (fun v => ?_)
  first | refine RR.pu2 ?_ | refine RR.pu ?_
  rintro rfl
  refine rr_nil ?_
  refine CC.clb x (bv ((zeros 4 ++ be 6 (UInt64.ofNat S.gen)) ++ (zeros 4 ++ zeros 50))) ((put_cells (a := zeros 4) (m := zeros 6) (c := zeros 54) _ rfl rfl).trans (by simp only [List.append_assoc]; rfl)) ?_
  refine cc_seq ?_
  refine cc_region ?_
  refine rr_move rfl rfl ?_
  refine r_sls (lo := 10) (hi := 14) rfl (by first | rfl | exact ⟨_, rfl⟩) (by first | rfl | exact ⟨_, rfl⟩) rfl (by omega) (by omega) (by omega) ?_
  refine rr_move rfl rfl ?_
  refine r_conv rfl rfl ?_
  rw [ku64_of]
  refine rr_call rfl rfl rfl rfl (lput_tr x 10 4 54 5 (bv ((zeros 4 ++ be 6 (UInt64.ofNat S.gen)) ++ (zeros 4 ++ zeros 50))) (UInt64.ofNat run) (by omega) (by simp [zeros]) (by simp [zeros])) inferInstance rfl (sd0 rfl) (fun _ => sd0 rfl) rfl (fun v => ?_)
  first | refine RR.pu2 ?_ | refine RR.pu ?_
  rintro rfl
  refine rr_nil ?_
  refine CC.clb x (bv ((zeros 4 ++ (be 6 (UInt64.ofNat S.gen) ++ be 4 (UInt64.ofNat run))) ++ (0 :: zeros 49))) ((put_cells (a := zeros 4 ++ be 6 (UInt64.ofNat S.gen)) (m := zeros 4) (c := zeros 50) _ (by simp [zeros]) rfl).trans (by simp only [List.append_assoc]; rfl)) ?_
  refine cc_seq ?_
  refine cc_region ?_
  refine rr_move rfl rfl ?_
  refine rr_move rfl rfl ?_
  refine r_conv rfl rfl ?_
  rw [ku8_of]
  refine r_ix rfl rfl rfl (by omega) ?_
  refine r_st (cs' := bv ((zeros 4 ++ (be 6 (UInt64.ofNat S.gen) ++ be 4 (UInt64.ofNat run))) ++ (UInt8.ofNat i :: zeros 49))) rfl rfl rfl (setb (by simp [zeros])) (sd0 rfl) (sd0 rfl) ?_
  refine rr_nil ?_
  refine cc_seq ?_
  refine cc_region ?_
  refine rr_move rfl rfl ?_
  refine r_sls (lo := 16) rfl (by first | rfl | exact ⟨_, rfl⟩) (by first | rfl | exact ⟨_, rfl⟩) rfl (by omega) (by omega) (by omega) ?_
  refine rr_assign rfl rfl ?_
  refine rr_nil ?_
  refine cc_seq ?_
  refine cc_seq ?_
  refine cc_region ?_
  refine rr_move rfl rfl ?_
  refine r_int rfl rfl rfl rfl ?_
  refine rr_nil ?_
  refine cc_cond rfl (fun h30 => ?_) (fun h30 => ?_)
  · try simp only [decide_eq_true_eq, decide_eq_false_iff_not, beq_iff_eq, beq_eq_false_iff_ne, bne_iff_ne, bne_eq_false_iff_eq, ne_eq, Bool.not_eq_eq_eq_not, Bool.not_true, Bool.not_false] at h30
    have h31 : i = 0 := by omega
    refine CC.clb x (bv ((zeros 4 ++ (be 6 (UInt64.ofNat S.gen) ++ (be 4 (UInt64.ofNat run) ++ [UInt8.ofNat i, 0]))) ++ (zeros 6 ++ zeros 42))) (by simp only [List.append_assoc]; rfl) ?_
    refine cc_seq ?_
    refine cc_draw (1) [] [] mixed (by decide +kernel) ?_
    refine rr_move rfl rfl ?_
    refine r_sls (hi := 6) rfl (by first | rfl | exact ⟨_, rfl⟩) (by first | rfl | exact ⟨_, rfl⟩) rfl (by omega) (by omega) (by omega) ?_
    refine rr_move rfl rfl ?_
    refine rr_nilCheck rfl rfl ?_
    refine r_fa rfl rfl ?_
    refine r_ld rfl (ls0 rfl) rfl rfl ?_
    refine r_conv rfl rfl ?_
    rw [ku64_of]
    refine rr_call rfl rfl rfl rfl (lput_tr x 16 6 48 5 (bv ((zeros 4 ++ (be 6 (UInt64.ofNat S.gen) ++ (be 4 (UInt64.ofNat run) ++ [UInt8.ofNat i, 0]))) ++ (zeros 6 ++ zeros 42))) (UInt64.ofNat S.base) (by omega) (by simp [zeros]) (by simp [zeros])) inferInstance rfl (sd0 rfl) (fun _ => sd0 rfl) rfl (fun v => ?_)
    first | refine RR.pu2 ?_ | refine RR.pu ?_
    rintro rfl
    refine rr_nil ?_
    refine CC.clb x (bv (pre ++ (zeros (secPart i S.buf).length ++ zeros (secTo i - (secPart i S.buf).length)))) ((put_cells (a := zeros 4 ++ (be 6 (UInt64.ofNat S.gen) ++ (be 4 (UInt64.ofNat run) ++ [UInt8.ofNat i, 0]))) (m := zeros 6) (c := zeros 42) _ (by simp [zeros]) rfl).trans (by
      have e : zeros (secPart i S.buf).length ++ zeros (secTo i - (secPart i S.buf).length) = zeros 42 := by
        simp only [zeros, secTo, h31, if_true] at hpl ⊢; rw [List.replicate_append_replicate]; congr 1; omega
      rw [e, ← hpre, if_pos h31]; simp only [List.append_assoc]; rfl)) ?_
    refine cc_region ?_
    refine rr_move rfl rfl ?_
    refine r_sls (lo := 6) rfl (by first | rfl | exact ⟨_, rfl⟩) (by first | rfl | exact ⟨_, rfl⟩) rfl (by omega) (by omega) (by omega) ?_
    refine rr_assign rfl rfl ?_
    refine rr_nil ?_
    refine cc_seq ?_
    refine cc_draw (segB g S (.slice bb S.buf.length bc) rV) [5, 11] [7] mixed (by decide +kernel) ?_
    refine rr_move rfl rfl ?_
    refine rr_move rfl rfl ?_
    refine rr_move rfl rfl ?_
    refine rr_nilCheck rfl rfl ?_
    refine r_fa rfl rfl ?_
    refine r_ld rfl (ls1 rfl) rfl rfl ?_
    refine rr_move rfl rfl ?_
    refine rr_call rfl rfl rfl rfl (start_tr i (by omega)) inferInstance rfl (sd1 rfl) (fun _ => sd1 rfl) rfl (fun v => ?_)
    first | refine RR.pu2 ?_ | refine RR.pu ?_
    rintro rfl
    refine rr_move rfl rfl ?_
    refine rr_nilCheck rfl rfl ?_
    refine r_fa rfl rfl ?_
    refine r_ld rfl (ls1 rfl) rfl rfl ?_
    refine r_lens rfl rfl ?_
    refine r_min rfl rfl rfl ?_
    rw [show (if (S.buf.length : Int) < ((i * 48 - 6 : Nat) : Int) then (S.buf.length : Int) else ((i * 48 - 6 : Nat) : Int)) = ((min (startN i) S.buf.length : Nat) : Int) by simp only [startN]; split <;> omega]
    refine r_slsS (lo := min (startN i) S.buf.length) (hi := S.buf.length) rfl ⟨_, rfl⟩ rfl rfl rfl (by omega) (Nat.le_refl _) fun pb pc hsrc => ?_
    refine r_cpy (m := S.buf.length - min (startN i) S.buf.length) (kk' := (secPart i S.buf).length) (ys := bv (secPart i S.buf)) (cs' := bv (pre ++ (secPart i S.buf ++ zeros (secTo i - (secPart i S.buf).length)))) rfl rfl inferInstance (fun w sa => (hsrc w (sa.eq (PickSl.eq (A := _) (v := .slice bb S.buf.length bc))).l).1) (by simp only [secPart, secTo, h31, if_true, if_false, List.length_take, List.length_drop, startN]; omega) (fun w sa => by
      have h1 := (hsrc w (sa.eq (PickSl.eq (A := _) (v := .slice bb S.buf.length bc))).l).2 (secPart i S.buf).length (by simp only [secPart, secTo, h31, if_true, if_false, List.length_take, List.length_drop, startN]; omega)
      rw [part_cells] at h1; exact h1) (by rw [bv_length, bv_length]; simp only [List.length_append, hpre1, zeros, List.length_replicate, h31, if_true, if_false]; omega) (bv_one _) (copyb (by simp [hpre1, h31]) (by simp [zeros])) inferInstance rfl (sd0 rfl) (sd0 rfl) ?_
    refine r_conv rfl rfl ?_
    rw [ku8_of]
    refine RR.clb x (bv ((zeros 4 ++ (be 6 (UInt64.ofNat S.gen) ++ (be 4 (UInt64.ofNat run) ++ [UInt8.ofNat i]))) ++ (0 :: secData i S.base S.buf))) (by rw [← hpre]; simp [secData]) ?_
    refine r_ix rfl rfl rfl (by omega) ?_
    refine r_st (cs' := bv ((zeros 4 ++ (be 6 (UInt64.ofNat S.gen) ++ (be 4 (UInt64.ofNat run) ++ [UInt8.ofNat i]))) ++ (UInt8.ofNat (secPart i S.buf).length :: secData i S.base S.buf))) rfl rfl rfl (setb (by simp [zeros])) (sd0 rfl) (sd0 rfl) ?_
    refine rr_nil ?_
    refine CC.clb x (bv (zeros 4 ++ secRest S i run)) (by simp [secRest]) ?_
    refine cc_seq ?_
    refine cc_draw (1) [] [] mixed (by decide +kernel) ?_
    refine rr_move rfl rfl ?_
    refine r_sls (hi := 4) rfl (by first | rfl | exact ⟨_, rfl⟩) (by first | rfl | exact ⟨_, rfl⟩) rfl (by omega) (by omega) (by omega) ?_
    refine rr_move rfl rfl ?_
    refine r_sls (lo := 4) rfl (by first | rfl | exact ⟨_, rfl⟩) (by first | rfl | exact ⟨_, rfl⟩) rfl (by omega) (by omega) (by omega) ?_
    refine r_bsl (cs := [vS x 4 60 60]) rfl rfl rfl rfl rfl rfl (sd0 rfl) (fun _ => sd0 rfl) (fun p => ?_)
    refine rr_call rfl rfl rfl rfl (sum_tr x p 4 60 60 1 5 (bv (zeros 4 ++ secRest S i run)) (secRest S i run) (secRest_len S i run) (by omega) (fun j hj => nth_app (by simp [zeros]))) inferInstance rfl (sd0 rfl) (fun _ => sd0 rfl) rfl (fun v => ?_)
    first | refine RR.pu2 ?_ | refine RR.pu ?_
    rintro rfl
    refine r_conv rfl rfl ?_
    rw [ku32_u64]
    refine rr_call rfl rfl rfl rfl (lput_tr x 0 4 64 5 (bv (zeros 4 ++ secRest S i run)) _ (by omega) (by simp [zeros]) (by simp [zeros, secRest_len])) inferInstance rfl (sd0 rfl) (fun _ => sd0 rfl) rfl (fun v => ?_)
    first | refine RR.pu2 ?_ | refine RR.pu ?_
    rintro rfl
    refine rr_nil ?_
    refine CC.clb x (bv (secBytes S i run)) (by rw [bv_take, bv_drop, ← bv_append, ← bv_append]; rfl) ?_
    refine cc_seq ?_
    refine cc_region ?_
    refine rr_move rfl rfl ?_
    refine rr_assign rfl rfl ?_
    refine rr_nil ?_
    refine cc_ret ?_
    exact ⟨_, rfl, entW_ex2 x (entW_pu2 rfl entW_fr)⟩
  · try simp only [decide_eq_true_eq, decide_eq_false_iff_not, beq_iff_eq, beq_eq_false_iff_ne, bne_iff_ne, bne_eq_false_iff_eq, ne_eq, Bool.not_eq_eq_eq_not, Bool.not_true, Bool.not_false] at h30
    have h31 : ¬ i = 0 := by omega
    refine CC.clb x (bv (pre ++ (zeros (secPart i S.buf).length ++ zeros (secTo i - (secPart i S.buf).length)))) (by
      have e : zeros (secPart i S.buf).length ++ zeros (secTo i - (secPart i S.buf).length) = zeros 48 := by
        simp only [zeros, secTo, h31, if_false] at hpl ⊢; rw [List.replicate_append_replicate]; congr 1; omega
      rw [e, ← hpre, if_neg h31]; simp only [List.append_assoc]; rfl) ?_
    refine cc_skip ?_
    refine cc_seq ?_
    refine cc_draw (segB g S (.slice bb S.buf.length bc) rV) [5, 11] [7] mixed (by decide +kernel) ?_
    refine rr_move rfl rfl ?_
    refine rr_move rfl rfl ?_
    refine rr_move rfl rfl ?_
    refine rr_nilCheck rfl rfl ?_
    refine r_fa rfl rfl ?_
    refine r_ld rfl (ls1 rfl) rfl rfl ?_
    refine rr_move rfl rfl ?_
    refine rr_call rfl rfl rfl rfl (start_tr i (by omega)) inferInstance rfl (sd1 rfl) (fun _ => sd1 rfl) rfl (fun v => ?_)
    first | refine RR.pu2 ?_ | refine RR.pu ?_
    rintro rfl
    refine rr_move rfl rfl ?_
    refine rr_nilCheck rfl rfl ?_
    refine r_fa rfl rfl ?_
    refine r_ld rfl (ls1 rfl) rfl rfl ?_
    refine r_lens rfl rfl ?_
    refine r_min rfl rfl rfl ?_
    rw [show (if (S.buf.length : Int) < ((i * 48 - 6 : Nat) : Int) then (S.buf.length : Int) else ((i * 48 - 6 : Nat) : Int)) = ((min (startN i) S.buf.length : Nat) : Int) by simp only [startN]; split <;> omega]
    refine r_slsS (lo := min (startN i) S.buf.length) (hi := S.buf.length) rfl ⟨_, rfl⟩ rfl rfl rfl (by omega) (Nat.le_refl _) fun pb pc hsrc => ?_
    refine r_cpy (m := S.buf.length - min (startN i) S.buf.length) (kk' := (secPart i S.buf).length) (ys := bv (secPart i S.buf)) (cs' := bv (pre ++ (secPart i S.buf ++ zeros (secTo i - (secPart i S.buf).length)))) rfl rfl inferInstance (fun w sa => (hsrc w (sa.eq (PickSl.eq (A := _) (v := .slice bb S.buf.length bc))).l).1) (by simp only [secPart, secTo, h31, if_true, if_false, List.length_take, List.length_drop, startN]; omega) (fun w sa => by
      have h1 := (hsrc w (sa.eq (PickSl.eq (A := _) (v := .slice bb S.buf.length bc))).l).2 (secPart i S.buf).length (by simp only [secPart, secTo, h31, if_true, if_false, List.length_take, List.length_drop, startN]; omega)
      rw [part_cells] at h1; exact h1) (by rw [bv_length, bv_length]; simp only [List.length_append, hpre1, zeros, List.length_replicate, h31, if_true, if_false]; omega) (bv_one _) (copyb (by simp [hpre1, h31]) (by simp [zeros])) inferInstance rfl (sd0 rfl) (sd0 rfl) ?_
    refine r_conv rfl rfl ?_
    rw [ku8_of]
    refine RR.clb x (bv ((zeros 4 ++ (be 6 (UInt64.ofNat S.gen) ++ (be 4 (UInt64.ofNat run) ++ [UInt8.ofNat i]))) ++ (0 :: secData i S.base S.buf))) (by rw [← hpre]; simp [secData]) ?_
    refine r_ix rfl rfl rfl (by omega) ?_
    refine r_st (cs' := bv ((zeros 4 ++ (be 6 (UInt64.ofNat S.gen) ++ (be 4 (UInt64.ofNat run) ++ [UInt8.ofNat i]))) ++ (UInt8.ofNat (secPart i S.buf).length :: secData i S.base S.buf))) rfl rfl rfl (setb (by simp [zeros])) (sd0 rfl) (sd0 rfl) ?_
    refine rr_nil ?_
    refine CC.clb x (bv (zeros 4 ++ secRest S i run)) (by simp [secRest]) ?_
    refine cc_seq ?_
    refine cc_draw (1) [] [] mixed (by decide +kernel) ?_
    refine rr_move rfl rfl ?_
    refine r_sls (hi := 4) rfl (by first | rfl | exact ⟨_, rfl⟩) (by first | rfl | exact ⟨_, rfl⟩) rfl (by omega) (by omega) (by omega) ?_
    refine rr_move rfl rfl ?_
    refine r_sls (lo := 4) rfl (by first | rfl | exact ⟨_, rfl⟩) (by first | rfl | exact ⟨_, rfl⟩) rfl (by omega) (by omega) (by omega) ?_
    refine r_bsl (cs := [vS x 4 60 60]) rfl rfl rfl rfl rfl rfl (sd0 rfl) (fun _ => sd0 rfl) (fun p => ?_)
    refine rr_call rfl rfl rfl rfl (sum_tr x p 4 60 60 1 5 (bv (zeros 4 ++ secRest S i run)) (secRest S i run) (secRest_len S i run) (by omega) (fun j hj => nth_app (by simp [zeros]))) inferInstance rfl (sd0 rfl) (fun _ => sd0 rfl) rfl (fun v => ?_)
    first | refine RR.pu2 ?_ | refine RR.pu ?_
    rintro rfl
    refine r_conv rfl rfl ?_
    rw [ku32_u64]
    refine rr_call rfl rfl rfl rfl (lput_tr x 0 4 64 5 (bv (zeros 4 ++ secRest S i run)) _ (by omega) (by simp [zeros]) (by simp [zeros, secRest_len])) inferInstance rfl (sd0 rfl) (fun _ => sd0 rfl) rfl (fun v => ?_)
    first | refine RR.pu2 ?_ | refine RR.pu ?_
    rintro rfl
    refine rr_nil ?_
    refine CC.clb x (bv (secBytes S i run)) (by rw [bv_take, bv_drop, ← bv_append, ← bv_append]; rfl) ?_
    refine cc_seq ?_
    refine cc_region ?_
    refine rr_move rfl rfl ?_
    refine rr_assign rfl rfl ?_
    refine rr_nil ?_
    refine cc_ret ?_
    exact ⟨_, rfl, entW_ex2 x (entW_pu2 rfl entW_fr)⟩
def segOf (S : Seg) (segs : Nat) : Nat := (S.gen - 1) % segs
/-- a segment's sector, on the device -/
def segW (D : DevS) (from_ segs : Nat) (S : Seg) (i run : Nat) : DevS := devW D (from_ + segOf S segs * 8 + i) (secBytes S i run)
@[simp] theorem segW_len (D : DevS) (a b : Nat) (S : Seg) (i r : Nat) : (segW D a b S i r).length = D.length := by simp [segW]
structure LogS where
  from_ : Nat
  segs : Nat
  l : List Seg
  next : Nat
  run : Nat
  fresh : Bool
abbrev logB (l d : Nat) (L : LogS) (lv : Value) : SL := bl l 190 [ptr d, i64 L.from_, i64 L.segs, lv, i64 L.next, i64 L.run, .bool L.fresh]
theorem lwrite_tr (l d g i : Nat) (L : LogS) (lv bV rV : Value) (S : Seg) (D : DevS) (hi : i ≤ 7) (hb : S.buf.length ≤ 400) (h1 : 1 ≤ S.gen) (h2 : S.gen ≤ 2 ^ 40) (h3 : 1 ≤ L.segs) (h4 : L.segs ≤ 200) (h5 : L.from_ + L.segs * 8 ≤ D.length) (h6 : L.run ≤ 2 ^ 40) :
    Tr Tryz.prog 145 #[ptr l, ptr g, i64 i] (logB l d L lv * segB g S bV rV * slR bV 5 1 S.buf.length (bv S.buf) * devR d D)
      (fun v => pu (v = i64 0) * (logB l d L lv * segB g S bV rV * slR bV 5 1 S.buf.length (bv S.buf) * devR d (segW D L.from_ L.segs S i L.run))) := by
  refine tr_body Tryz.func145 (by kernel_rfl) rfl Tryz.ntmps145 rfl (L := [(0, ptr l), (1, ptr g), (2, i64 i)]) (covers_cons rfl (covers_cons rfl (covers_cons rfl covers_nil))) rfl ?_
  intro F w0 f
  have hso : segOf S L.segs < L.segs := Nat.mod_lt _ (by omega)
  refine CC.fact (devR d D) (fun w => devR_fact) fun hd => ?_
  have hh := hd.hi
  refine cc_seq ?_
  refine cc_region ?_
  refine rr_assign rfl rfl ?_
  refine rr_nil ?_
  refine cc_seq ?_
  refine cc_draw (1) [] [] mixed (by decide +kernel) ?_
  refine rr_move rfl rfl ?_
  refine rr_nilCheck rfl rfl ?_
  refine r_fa rfl rfl ?_
  refine r_ld rfl (ls0 rfl) rfl rfl ?_
  refine r_sub rfl rfl rfl (by omega) ?_
  refine rr_move rfl rfl ?_
  refine rr_nilCheck rfl rfl ?_
  refine r_fa rfl rfl ?_
  refine r_ld rfl (ls0 rfl) rfl rfl ?_
  refine r_rem rfl rfl rfl (by omega) ?_
  rw [show ((S.gen : Int) - 1).tmod (L.segs : Int) = ((segOf S L.segs : Nat) : Int) by
    rw [show (S.gen : Int) - 1 = ((S.gen - 1 : Nat) : Int) by omega, Int.tmod_eq_emod_of_nonneg (by omega)]; rfl]
  refine rr_assign rfl rfl ?_
  refine rr_nil ?_
  refine cc_seq ?_
  refine cc_draw (logB l d L lv) [3, 7] [19] mixed (by decide +kernel) ?_
  refine rr_move rfl rfl ?_
  refine rr_nilCheck rfl rfl ?_
  refine r_fa rfl rfl ?_
  refine r_ld rfl (ls1 rfl) rfl rfl ?_
  refine rr_move rfl rfl ?_
  refine rr_nilCheck rfl rfl ?_
  refine r_fa rfl rfl ?_
  refine r_ld rfl (ls1 rfl) rfl rfl ?_
  refine rr_move rfl rfl ?_
  refine r_mul rfl rfl rfl (by omega) ?_
  refine r_add rfl rfl rfl (by omega) ?_
  refine rr_move rfl rfl ?_
  refine r_add rfl rfl rfl (by omega) ?_
  refine rr_move rfl rfl ?_
  refine rr_move rfl rfl ?_
  refine rr_move rfl rfl ?_
  refine rr_nilCheck rfl rfl ?_
  refine r_fa rfl rfl ?_
  refine r_ld rfl (ls0 rfl) rfl rfl ?_
  refine rr_call rfl rfl rfl rfl (sector_tr g i L.run bV rV S hi hb) inferInstance rfl (sd1 rfl) (fun _ => sd1 rfl) rfl (fun v => ?_)
  refine RR.ex1 fun x => ?_
  refine RR.pu2 ?_
  rintro rfl
  refine rr_call rfl rfl rfl rfl (writeW_tr d (L.from_ + segOf S L.segs * 8 + i) D (by omega) x 0 64 64 5 (bv (secBytes S i L.run)) (secBytes S i L.run) (secBytes_len _ _ _) (by omega) (by simp [secBytes_len]) (by rw [List.drop_zero, List.take_of_length_le]; simp [secBytes_len])) inferInstance rfl (sd0 rfl) (fun _ => sd0 rfl) rfl (fun v => ?_)
  first | refine RR.pu2 ?_ | refine RR.pu ?_
  rintro rfl
  refine rr_assign rfl rfl ?_
  refine rr_nil ?_
  refine cc_ret ?_
  exact ⟨_, rfl, entW_pu2 rfl (by simp only [segW]; exact entW_fr)⟩
def segR (g : Nat) (S : Seg) : SL := ex fun bV => ex fun rV => segB g S bV rV * (slR bV 5 1 S.buf.length (bv S.buf) * recsR rV S.recs)
def segsR : List (Nat × Seg) → SL
  | [] => 1
  | x :: r => segR x.1 x.2 * segsR r
/-- a log -/
def logR (l d : Nat) (L : LogS) : SL := ex fun lv => ex fun gs : List (Nat × Seg) => pu (gs.map (·.2) = L.l) * (logB l d L lv * (slR lv 234 1 gs.length (gs.flatMap fun x => [ptr x.1]) * segsR gs))
theorem segsR_split : ∀ {gs : List (Nat × Seg)} {j : Nat} {x : Nat × Seg}, gs[j]? = some x → segsR gs = segsR (gs.take j) * (segR x.1 x.2 * segsR (gs.drop (j + 1)))
  | y :: gs, 0, x, h => by
    simp only [List.getElem?_cons_zero, Option.some.injEq] at h
    subst h
    simp [segsR, sl_one_mul]
  | y :: gs, j + 1, x, h => by
    simp only [List.getElem?_cons_succ] at h
    simp only [segsR, List.take_succ_cons, List.drop_succ_cons]
    rw [segsR_split h, sl_assoc]
  | [], _, _, h => by simp at h
theorem segsR_app : ∀ (a b : List (Nat × Seg)), segsR (a ++ b) = segsR a * segsR b
  | [], b => by simp [segsR, sl_one_mul]
  | x :: a, b => by simp only [List.cons_append, segsR]; rw [segsR_app a b, sl_assoc]
theorem lflush_tr (l d : Nat) (L : LogS) (D : DevS) (lv : Value) : Tr Tryz.prog 55 #[ptr l] (logB l d L lv * devR d D) (fun v => pu (v = i64 0) * (logB l d L lv * devR d (flushD D))) := by
  refine tr_body Tryz.func55 (by kernel_rfl) rfl Tryz.ntmps55 rfl (L := [(0, ptr l)]) (covers_cons rfl covers_nil) rfl ?_
  intro F w0 f
  refine cc_seq ?_
  refine cc_region ?_
  refine rr_assign rfl rfl ?_
  refine rr_nil ?_
  refine cc_seq ?_
  refine cc_seq ?_
  refine cc_region ?_
  refine rr_move rfl rfl ?_
  refine r_pnil rfl rfl rfl ?_
  refine rr_nil ?_
  refine cc_condF rfl ?_
  refine cc_skip ?_
  refine cc_seq ?_
  refine cc_region ?_
  refine rr_move rfl rfl ?_
  refine rr_nilCheck rfl rfl ?_
  refine r_fa rfl rfl ?_
  refine r_ld rfl (ls0 rfl) rfl rfl ?_
  refine rr_call rfl rfl rfl rfl (flush_tr d D) inferInstance rfl (sd0 rfl) (fun _ => sd0 rfl) rfl (fun v => ?_)
  first | refine RR.pu2 ?_ | refine RR.pu ?_
  rintro rfl
  refine rr_assign rfl rfl ?_
  refine rr_nil ?_
  refine cc_ret ?_
  exact ⟨_, rfl, entW_pu2 rfl entW_fr⟩
end Go.Proofs.YtoiakcgdkegncaaGreat

namespace Go.Proofs.YtoiakcgdkegncaaGreat
open Go.RowKit Ice
attribute [local irreducible] CC RR Tr
structure ItemS where
  key : Txt
  val : Txt
  end_ : Int
  gone : Bool
def itemV (x : ItemS) : List Value := [str x.key, str x.val, i64 x.end_, .bool x.gone]
abbrev itemA (x : ItemS) : Value := .agg (itemV x).toArray
def frB (b : Bool) : Int := if b then 1 else 0
def keyOk (k : Txt) : Bool := k != [] && decide ((k.length : Int) ≤ 40)
def itemMay (x : ItemS) : Bool :=
  keyOk x.key && !decide ((200 : Int) < x.val.length) && !decide (x.end_ < 0) && !decide (1099511627776 < x.end_) && (!x.gone || (x.val == [] && x.end_ == 0))
theorem key_tr (k : Txt) : Tr Tryz.prog 46 #[str k] 1 (fun v => pu (v = .bool (keyOk k))) := by
  refine tr_body Tryz.func46 (by kernel_rfl) rfl Tryz.ntmps46 rfl (L := [(0, str k)]) (covers_cons rfl covers_nil) rfl ?_
  intro F w0 f
  rw [sl_one_mul]
  refine cc_seq ?_
  refine cc_region ?_
  refine rr_assign rfl rfl ?_
  refine rr_nil ?_
  refine cc_seq ?_
  refine cc_region ?_
  refine rr_move rfl rfl ?_
  first | refine r_strx rfl rfl rfl rfl ?_ | refine r_str rfl rfl rfl rfl ?_
  refine rr_move rfl rfl ?_
  refine rr_guard rfl rfl rfl (fun hg1_2 => ?_) (fun hg1_2 => ?_)
  · refine rr_move rfl rfl ?_
    refine rr_guardY rfl rfl rfl ?_
    first | refine r_lenx rfl rfl ?_ | refine r_lent rfl rfl ?_
    refine rr_guardY rfl rfl rfl ?_
    refine r_int rfl rfl rfl rfl ?_
    first | refine rr_pick rfl rfl ?_ | refine rr_pickb rfl rfl rfl rfl ?_
    refine rr_assign rfl rfl ?_
    refine rr_nil ?_
    refine cc_ret ?_
    exact ⟨_, rfl, entW_pu (congrArg Value.bool (by simp only [keyOk, hg1_2]; rfl)) entW_fr⟩
  · refine rr_guardN rfl rfl rfl rfl ?_
    refine rr_guardN rfl rfl rfl rfl ?_
    first | refine rr_pick rfl rfl ?_ | refine rr_pickb rfl rfl rfl rfl ?_
    refine rr_assign rfl rfl ?_
    refine rr_nil ?_
    refine cc_ret ?_
    exact ⟨_, rfl, entW_pu (congrArg Value.bool (by simp only [keyOk, hg1_2]; rfl)) entW_fr⟩
theorem imay_tr (x : ItemS) : Tr Tryz.prog 51 #[itemA x] 1 (fun v => pu (v = .bool (itemMay x))) := by
  refine tr_body Tryz.func51 (by kernel_rfl) rfl Tryz.ntmps51 rfl (L := [(0, itemA x)]) (covers_cons rfl covers_nil) rfl ?_
  intro F w0 f
  rw [sl_one_mul]
  refine cc_seq ?_
  refine cc_region ?_
  refine r_boxa rfl rfl (sd0 rfl) (fun _ => sd0 rfl) (fun p0_0 => ?_)
  refine rr_assign rfl rfl ?_
  refine rr_nil ?_
  refine cc_seq ?_
  refine cc_seq ?_
  refine cc_region ?_
  refine r_fa rfl rfl ?_
  refine r_ld rfl (ls0 rfl) rfl rfl ?_
  refine rr_call rfl rfl rfl rfl (key_tr x.key) inferInstance rfl (sd0 rfl) (fun _ => sd0 rfl) rfl (fun v => ?_)
  first | refine RR.pu2 ?_ | refine RR.pu ?_
  rintro rfl
  refine r_not rfl rfl ?_
  refine rr_move rfl rfl ?_
  refine rr_guard rfl rfl rfl (fun hg1_4 => ?_) (fun hg1_4 => ?_)
  · refine r_fa rfl rfl ?_
    refine rr_guardY rfl rfl rfl ?_
    refine r_ld rfl (ls0 rfl) rfl rfl ?_
    refine rr_guardY rfl rfl rfl ?_
    first | refine r_lenx rfl rfl ?_ | refine r_lent rfl rfl ?_
    refine rr_guardY rfl rfl rfl ?_
    refine r_int rfl rfl rfl rfl ?_
    first | refine rr_pick rfl rfl ?_ | refine rr_pickb rfl rfl rfl rfl ?_
    refine rr_move rfl rfl ?_
    refine rr_guard rfl rfl rfl (fun hg1_10 => ?_) (fun hg1_10 => ?_)
    · refine r_fa rfl rfl ?_
      refine rr_guardY rfl rfl rfl ?_
      refine r_ld rfl (ls0 rfl) rfl rfl ?_
      refine rr_guardY rfl rfl rfl ?_
      refine r_int rfl rfl rfl rfl ?_
      first | refine rr_pick rfl rfl ?_ | refine rr_pickb rfl rfl rfl rfl ?_
      refine rr_move rfl rfl ?_
      refine rr_guard rfl rfl rfl (fun hg1_15 => ?_) (fun hg1_15 => ?_)
      · refine r_fa rfl rfl ?_
        refine rr_guardY rfl rfl rfl ?_
        refine r_ld rfl (ls0 rfl) rfl rfl ?_
        refine rr_guardY rfl rfl rfl ?_
        refine r_int rfl rfl rfl rfl ?_
        first | refine rr_pick rfl rfl ?_ | refine rr_pickb rfl rfl rfl rfl ?_
        refine rr_nil ?_
        refine cc_cond rfl (fun h22 => ?_) (fun h22 => ?_)
        · try simp only [decide_eq_true_eq, decide_eq_false_iff_not, beq_iff_eq, beq_eq_false_iff_ne, bne_iff_ne, bne_eq_false_iff_eq, ne_eq, Bool.not_eq_eq_eq_not, Bool.not_true, Bool.not_false] at h22
          refine cc_seq ?_
          refine cc_region ?_
          refine rr_assign rfl rfl ?_
          refine rr_nil ?_
          refine cc_ret ?_
          exact ⟨_, rfl, entW_pu (congrArg Value.bool (by simp only [itemMay]; grind)) entW_fr⟩
        · try simp only [decide_eq_true_eq, decide_eq_false_iff_not, beq_iff_eq, beq_eq_false_iff_ne, bne_iff_ne, bne_eq_false_iff_eq, ne_eq, Bool.not_eq_eq_eq_not, Bool.not_true, Bool.not_false] at h22
          refine cc_skip ?_
          refine cc_seq ?_
          refine cc_region ?_
          refine r_fa rfl rfl ?_
          refine r_ld rfl (ls0 rfl) rfl rfl ?_
          refine r_not rfl rfl ?_
          refine rr_move rfl rfl ?_
          refine rr_guard rfl rfl rfl (fun hg3_3 => ?_) (fun hg3_3 => ?_)
          · refine r_fa rfl rfl ?_
            refine rr_guardY rfl rfl rfl ?_
            refine r_ld rfl (ls0 rfl) rfl rfl ?_
            refine rr_guardY rfl rfl rfl ?_
            first | refine r_strx rfl rfl rfl rfl ?_ | refine r_str rfl rfl rfl rfl ?_
            refine rr_guardY rfl rfl rfl ?_
            refine rr_move rfl rfl ?_
            refine rr_guard rfl rfl rfl (fun hg3_7 => ?_) (fun hg3_7 => ?_)
            · refine r_fa rfl rfl ?_
              refine rr_guardY rfl rfl rfl ?_
              refine r_ld rfl (ls0 rfl) rfl rfl ?_
              refine rr_guardY rfl rfl rfl ?_
              refine r_int rfl rfl rfl rfl ?_
              refine rr_guardY rfl rfl rfl ?_
              first | refine rr_pick rfl rfl ?_ | refine rr_pickb rfl rfl rfl rfl ?_
              first | refine rr_pick rfl rfl ?_ | refine rr_pickb rfl rfl rfl rfl ?_
              refine rr_assign rfl rfl ?_
              refine rr_nil ?_
              refine cc_ret ?_
              exact ⟨_, rfl, entW_pu (congrArg Value.bool (by simp only [itemMay]; grind)) entW_fr⟩
            · refine rr_guardN rfl rfl rfl rfl ?_
              refine rr_guardN rfl rfl rfl rfl ?_
              refine rr_guardY rfl rfl rfl ?_
              first | refine rr_pick rfl rfl ?_ | refine rr_pickb rfl rfl rfl rfl ?_
              first | refine rr_pick rfl rfl ?_ | refine rr_pickb rfl rfl rfl rfl ?_
              refine rr_assign rfl rfl ?_
              refine rr_nil ?_
              refine cc_ret ?_
              exact ⟨_, rfl, entW_pu (congrArg Value.bool (by simp only [itemMay]; grind)) entW_fr⟩
          · refine rr_guardN rfl rfl rfl rfl ?_
            refine rr_guardN rfl rfl rfl rfl ?_
            refine rr_guardN rfl rfl rfl rfl ?_
            refine rr_guardU rfl rfl rfl ?_
            refine rr_guardU rfl rfl rfl ?_
            refine rr_guardU rfl rfl rfl ?_
            refine rr_guardN rfl rfl rfl rfl ?_
            first | refine rr_pick rfl rfl ?_ | refine rr_pickb rfl rfl rfl rfl ?_
            refine rr_assign rfl rfl ?_
            refine rr_nil ?_
            refine cc_ret ?_
            exact ⟨_, rfl, entW_pu (congrArg Value.bool (by simp only [itemMay]; grind)) entW_fr⟩
      · refine rr_guardN rfl rfl rfl rfl ?_
        refine rr_guardN rfl rfl rfl rfl ?_
        first | refine rr_pick rfl rfl ?_ | refine rr_pickb rfl rfl rfl rfl ?_
        refine rr_nil ?_
        refine cc_cond rfl (fun h22 => ?_) (fun h22 => ?_)
        · try simp only [decide_eq_true_eq, decide_eq_false_iff_not, beq_iff_eq, beq_eq_false_iff_ne, bne_iff_ne, bne_eq_false_iff_eq, ne_eq, Bool.not_eq_eq_eq_not, Bool.not_true, Bool.not_false] at h22
          refine cc_seq ?_
          refine cc_region ?_
          refine rr_assign rfl rfl ?_
          refine rr_nil ?_
          refine cc_ret ?_
          exact ⟨_, rfl, entW_pu (congrArg Value.bool (by simp only [itemMay]; grind)) entW_fr⟩
        · try simp only [decide_eq_true_eq, decide_eq_false_iff_not, beq_iff_eq, beq_eq_false_iff_ne, bne_iff_ne, bne_eq_false_iff_eq, ne_eq, Bool.not_eq_eq_eq_not, Bool.not_true, Bool.not_false] at h22
          refine cc_skip ?_
          refine cc_seq ?_
          refine cc_region ?_
          refine r_fa rfl rfl ?_
          refine r_ld rfl (ls0 rfl) rfl rfl ?_
          refine r_not rfl rfl ?_
          refine rr_move rfl rfl ?_
          refine rr_guard rfl rfl rfl (fun hg3_3 => ?_) (fun hg3_3 => ?_)
          · refine r_fa rfl rfl ?_
            refine rr_guardY rfl rfl rfl ?_
            refine r_ld rfl (ls0 rfl) rfl rfl ?_
            refine rr_guardY rfl rfl rfl ?_
            first | refine r_strx rfl rfl rfl rfl ?_ | refine r_str rfl rfl rfl rfl ?_
            refine rr_guardY rfl rfl rfl ?_
            refine rr_move rfl rfl ?_
            refine rr_guard rfl rfl rfl (fun hg3_7 => ?_) (fun hg3_7 => ?_)
            · refine r_fa rfl rfl ?_
              refine rr_guardY rfl rfl rfl ?_
              refine r_ld rfl (ls0 rfl) rfl rfl ?_
              refine rr_guardY rfl rfl rfl ?_
              refine r_int rfl rfl rfl rfl ?_
              refine rr_guardY rfl rfl rfl ?_
              first | refine rr_pick rfl rfl ?_ | refine rr_pickb rfl rfl rfl rfl ?_
              first | refine rr_pick rfl rfl ?_ | refine rr_pickb rfl rfl rfl rfl ?_
              refine rr_assign rfl rfl ?_
              refine rr_nil ?_
              refine cc_ret ?_
              exact ⟨_, rfl, entW_pu (congrArg Value.bool (by simp only [itemMay]; grind)) entW_fr⟩
            · refine rr_guardN rfl rfl rfl rfl ?_
              refine rr_guardN rfl rfl rfl rfl ?_
              refine rr_guardY rfl rfl rfl ?_
              first | refine rr_pick rfl rfl ?_ | refine rr_pickb rfl rfl rfl rfl ?_
              first | refine rr_pick rfl rfl ?_ | refine rr_pickb rfl rfl rfl rfl ?_
              refine rr_assign rfl rfl ?_
              refine rr_nil ?_
              refine cc_ret ?_
              exact ⟨_, rfl, entW_pu (congrArg Value.bool (by simp only [itemMay]; grind)) entW_fr⟩
          · refine rr_guardN rfl rfl rfl rfl ?_
            refine rr_guardN rfl rfl rfl rfl ?_
            refine rr_guardN rfl rfl rfl rfl ?_
            refine rr_guardU rfl rfl rfl ?_
            refine rr_guardU rfl rfl rfl ?_
            refine rr_guardU rfl rfl rfl ?_
            refine rr_guardN rfl rfl rfl rfl ?_
            first | refine rr_pick rfl rfl ?_ | refine rr_pickb rfl rfl rfl rfl ?_
            refine rr_assign rfl rfl ?_
            refine rr_nil ?_
            refine cc_ret ?_
            exact ⟨_, rfl, entW_pu (congrArg Value.bool (by simp only [itemMay]; grind)) entW_fr⟩
    · refine rr_guardN rfl rfl rfl rfl ?_
      refine rr_guardN rfl rfl rfl rfl ?_
      first | refine rr_pick rfl rfl ?_ | refine rr_pickb rfl rfl rfl rfl ?_
      refine rr_move rfl rfl ?_
      refine rr_guard rfl rfl rfl (fun hg1_15 => ?_) (fun hg1_15 => ?_)
      · refine r_fa rfl rfl ?_
        refine rr_guardY rfl rfl rfl ?_
        refine r_ld rfl (ls0 rfl) rfl rfl ?_
        refine rr_guardY rfl rfl rfl ?_
        refine r_int rfl rfl rfl rfl ?_
        first | refine rr_pick rfl rfl ?_ | refine rr_pickb rfl rfl rfl rfl ?_
        refine rr_nil ?_
        refine cc_cond rfl (fun h22 => ?_) (fun h22 => ?_)
        · try simp only [decide_eq_true_eq, decide_eq_false_iff_not, beq_iff_eq, beq_eq_false_iff_ne, bne_iff_ne, bne_eq_false_iff_eq, ne_eq, Bool.not_eq_eq_eq_not, Bool.not_true, Bool.not_false] at h22
          refine cc_seq ?_
          refine cc_region ?_
          refine rr_assign rfl rfl ?_
          refine rr_nil ?_
          refine cc_ret ?_
          exact ⟨_, rfl, entW_pu (congrArg Value.bool (by simp only [itemMay]; grind)) entW_fr⟩
        · try simp only [decide_eq_true_eq, decide_eq_false_iff_not, beq_iff_eq, beq_eq_false_iff_ne, bne_iff_ne, bne_eq_false_iff_eq, ne_eq, Bool.not_eq_eq_eq_not, Bool.not_true, Bool.not_false] at h22
          refine cc_skip ?_
          refine cc_seq ?_
          refine cc_region ?_
          refine r_fa rfl rfl ?_
          refine r_ld rfl (ls0 rfl) rfl rfl ?_
          refine r_not rfl rfl ?_
          refine rr_move rfl rfl ?_
          refine rr_guard rfl rfl rfl (fun hg3_3 => ?_) (fun hg3_3 => ?_)
          · refine r_fa rfl rfl ?_
            refine rr_guardY rfl rfl rfl ?_
            refine r_ld rfl (ls0 rfl) rfl rfl ?_
            refine rr_guardY rfl rfl rfl ?_
            first | refine r_strx rfl rfl rfl rfl ?_ | refine r_str rfl rfl rfl rfl ?_
            refine rr_guardY rfl rfl rfl ?_
            refine rr_move rfl rfl ?_
            refine rr_guard rfl rfl rfl (fun hg3_7 => ?_) (fun hg3_7 => ?_)
            · refine r_fa rfl rfl ?_
              refine rr_guardY rfl rfl rfl ?_
              refine r_ld rfl (ls0 rfl) rfl rfl ?_
              refine rr_guardY rfl rfl rfl ?_
              refine r_int rfl rfl rfl rfl ?_
              refine rr_guardY rfl rfl rfl ?_
              first | refine rr_pick rfl rfl ?_ | refine rr_pickb rfl rfl rfl rfl ?_
              first | refine rr_pick rfl rfl ?_ | refine rr_pickb rfl rfl rfl rfl ?_
              refine rr_assign rfl rfl ?_
              refine rr_nil ?_
              refine cc_ret ?_
              exact ⟨_, rfl, entW_pu (congrArg Value.bool (by simp only [itemMay]; grind)) entW_fr⟩
            · refine rr_guardN rfl rfl rfl rfl ?_
              refine rr_guardN rfl rfl rfl rfl ?_
              refine rr_guardY rfl rfl rfl ?_
              first | refine rr_pick rfl rfl ?_ | refine rr_pickb rfl rfl rfl rfl ?_
              first | refine rr_pick rfl rfl ?_ | refine rr_pickb rfl rfl rfl rfl ?_
              refine rr_assign rfl rfl ?_
              refine rr_nil ?_
              refine cc_ret ?_
              exact ⟨_, rfl, entW_pu (congrArg Value.bool (by simp only [itemMay]; grind)) entW_fr⟩
          · refine rr_guardN rfl rfl rfl rfl ?_
            refine rr_guardN rfl rfl rfl rfl ?_
            refine rr_guardN rfl rfl rfl rfl ?_
            refine rr_guardU rfl rfl rfl ?_
            refine rr_guardU rfl rfl rfl ?_
            refine rr_guardU rfl rfl rfl ?_
            refine rr_guardN rfl rfl rfl rfl ?_
            first | refine rr_pick rfl rfl ?_ | refine rr_pickb rfl rfl rfl rfl ?_
            refine rr_assign rfl rfl ?_
            refine rr_nil ?_
            refine cc_ret ?_
            exact ⟨_, rfl, entW_pu (congrArg Value.bool (by simp only [itemMay]; grind)) entW_fr⟩
      · refine rr_guardN rfl rfl rfl rfl ?_
        refine rr_guardN rfl rfl rfl rfl ?_
        first | refine rr_pick rfl rfl ?_ | refine rr_pickb rfl rfl rfl rfl ?_
        refine rr_nil ?_
        refine cc_cond rfl (fun h22 => ?_) (fun h22 => ?_)
        · try simp only [decide_eq_true_eq, decide_eq_false_iff_not, beq_iff_eq, beq_eq_false_iff_ne, bne_iff_ne, bne_eq_false_iff_eq, ne_eq, Bool.not_eq_eq_eq_not, Bool.not_true, Bool.not_false] at h22
          refine cc_seq ?_
          refine cc_region ?_
          refine rr_assign rfl rfl ?_
          refine rr_nil ?_
          refine cc_ret ?_
          exact ⟨_, rfl, entW_pu (congrArg Value.bool (by simp only [itemMay]; grind)) entW_fr⟩
        · try simp only [decide_eq_true_eq, decide_eq_false_iff_not, beq_iff_eq, beq_eq_false_iff_ne, bne_iff_ne, bne_eq_false_iff_eq, ne_eq, Bool.not_eq_eq_eq_not, Bool.not_true, Bool.not_false] at h22
          refine cc_skip ?_
          refine cc_seq ?_
          refine cc_region ?_
          refine r_fa rfl rfl ?_
          refine r_ld rfl (ls0 rfl) rfl rfl ?_
          refine r_not rfl rfl ?_
          refine rr_move rfl rfl ?_
          refine rr_guard rfl rfl rfl (fun hg3_3 => ?_) (fun hg3_3 => ?_)
          · refine r_fa rfl rfl ?_
            refine rr_guardY rfl rfl rfl ?_
            refine r_ld rfl (ls0 rfl) rfl rfl ?_
            refine rr_guardY rfl rfl rfl ?_
            first | refine r_strx rfl rfl rfl rfl ?_ | refine r_str rfl rfl rfl rfl ?_
            refine rr_guardY rfl rfl rfl ?_
            refine rr_move rfl rfl ?_
            refine rr_guard rfl rfl rfl (fun hg3_7 => ?_) (fun hg3_7 => ?_)
            · refine r_fa rfl rfl ?_
              refine rr_guardY rfl rfl rfl ?_
              refine r_ld rfl (ls0 rfl) rfl rfl ?_
              refine rr_guardY rfl rfl rfl ?_
              refine r_int rfl rfl rfl rfl ?_
              refine rr_guardY rfl rfl rfl ?_
              first | refine rr_pick rfl rfl ?_ | refine rr_pickb rfl rfl rfl rfl ?_
              first | refine rr_pick rfl rfl ?_ | refine rr_pickb rfl rfl rfl rfl ?_
              refine rr_assign rfl rfl ?_
              refine rr_nil ?_
              refine cc_ret ?_
              exact ⟨_, rfl, entW_pu (congrArg Value.bool (by simp only [itemMay]; grind)) entW_fr⟩
            · refine rr_guardN rfl rfl rfl rfl ?_
              refine rr_guardN rfl rfl rfl rfl ?_
              refine rr_guardY rfl rfl rfl ?_
              first | refine rr_pick rfl rfl ?_ | refine rr_pickb rfl rfl rfl rfl ?_
              first | refine rr_pick rfl rfl ?_ | refine rr_pickb rfl rfl rfl rfl ?_
              refine rr_assign rfl rfl ?_
              refine rr_nil ?_
              refine cc_ret ?_
              exact ⟨_, rfl, entW_pu (congrArg Value.bool (by simp only [itemMay]; grind)) entW_fr⟩
          · refine rr_guardN rfl rfl rfl rfl ?_
            refine rr_guardN rfl rfl rfl rfl ?_
            refine rr_guardN rfl rfl rfl rfl ?_
            refine rr_guardU rfl rfl rfl ?_
            refine rr_guardU rfl rfl rfl ?_
            refine rr_guardU rfl rfl rfl ?_
            refine rr_guardN rfl rfl rfl rfl ?_
            first | refine rr_pick rfl rfl ?_ | refine rr_pickb rfl rfl rfl rfl ?_
            refine rr_assign rfl rfl ?_
            refine rr_nil ?_
            refine cc_ret ?_
            exact ⟨_, rfl, entW_pu (congrArg Value.bool (by simp only [itemMay]; grind)) entW_fr⟩
  · refine rr_guardN rfl rfl rfl rfl ?_
    refine rr_guardN rfl rfl rfl rfl ?_
    refine rr_guardN rfl rfl rfl rfl ?_
    first | refine rr_pick rfl rfl ?_ | refine rr_pickb rfl rfl rfl rfl ?_
    refine rr_move rfl rfl ?_
    refine rr_guard rfl rfl rfl (fun hg1_10 => ?_) (fun hg1_10 => ?_)
    · refine r_fa rfl rfl ?_
      refine rr_guardY rfl rfl rfl ?_
      refine r_ld rfl (ls0 rfl) rfl rfl ?_
      refine rr_guardY rfl rfl rfl ?_
      refine r_int rfl rfl rfl rfl ?_
      first | refine rr_pick rfl rfl ?_ | refine rr_pickb rfl rfl rfl rfl ?_
      refine rr_move rfl rfl ?_
      refine rr_guard rfl rfl rfl (fun hg1_15 => ?_) (fun hg1_15 => ?_)
      · refine r_fa rfl rfl ?_
        refine rr_guardY rfl rfl rfl ?_
        refine r_ld rfl (ls0 rfl) rfl rfl ?_
        refine rr_guardY rfl rfl rfl ?_
        refine r_int rfl rfl rfl rfl ?_
        first | refine rr_pick rfl rfl ?_ | refine rr_pickb rfl rfl rfl rfl ?_
        refine rr_nil ?_
        refine cc_cond rfl (fun h22 => ?_) (fun h22 => ?_)
        · try simp only [decide_eq_true_eq, decide_eq_false_iff_not, beq_iff_eq, beq_eq_false_iff_ne, bne_iff_ne, bne_eq_false_iff_eq, ne_eq, Bool.not_eq_eq_eq_not, Bool.not_true, Bool.not_false] at h22
          refine cc_seq ?_
          refine cc_region ?_
          refine rr_assign rfl rfl ?_
          refine rr_nil ?_
          refine cc_ret ?_
          exact ⟨_, rfl, entW_pu (congrArg Value.bool (by simp only [itemMay]; grind)) entW_fr⟩
        · try simp only [decide_eq_true_eq, decide_eq_false_iff_not, beq_iff_eq, beq_eq_false_iff_ne, bne_iff_ne, bne_eq_false_iff_eq, ne_eq, Bool.not_eq_eq_eq_not, Bool.not_true, Bool.not_false] at h22
          refine cc_skip ?_
          refine cc_seq ?_
          refine cc_region ?_
          refine r_fa rfl rfl ?_
          refine r_ld rfl (ls0 rfl) rfl rfl ?_
          refine r_not rfl rfl ?_
          refine rr_move rfl rfl ?_
          refine rr_guard rfl rfl rfl (fun hg3_3 => ?_) (fun hg3_3 => ?_)
          · refine r_fa rfl rfl ?_
            refine rr_guardY rfl rfl rfl ?_
            refine r_ld rfl (ls0 rfl) rfl rfl ?_
            refine rr_guardY rfl rfl rfl ?_
            first | refine r_strx rfl rfl rfl rfl ?_ | refine r_str rfl rfl rfl rfl ?_
            refine rr_guardY rfl rfl rfl ?_
            refine rr_move rfl rfl ?_
            refine rr_guard rfl rfl rfl (fun hg3_7 => ?_) (fun hg3_7 => ?_)
            · refine r_fa rfl rfl ?_
              refine rr_guardY rfl rfl rfl ?_
              refine r_ld rfl (ls0 rfl) rfl rfl ?_
              refine rr_guardY rfl rfl rfl ?_
              refine r_int rfl rfl rfl rfl ?_
              refine rr_guardY rfl rfl rfl ?_
              first | refine rr_pick rfl rfl ?_ | refine rr_pickb rfl rfl rfl rfl ?_
              first | refine rr_pick rfl rfl ?_ | refine rr_pickb rfl rfl rfl rfl ?_
              refine rr_assign rfl rfl ?_
              refine rr_nil ?_
              refine cc_ret ?_
              exact ⟨_, rfl, entW_pu (congrArg Value.bool (by simp only [itemMay]; grind)) entW_fr⟩
            · refine rr_guardN rfl rfl rfl rfl ?_
              refine rr_guardN rfl rfl rfl rfl ?_
              refine rr_guardY rfl rfl rfl ?_
              first | refine rr_pick rfl rfl ?_ | refine rr_pickb rfl rfl rfl rfl ?_
              first | refine rr_pick rfl rfl ?_ | refine rr_pickb rfl rfl rfl rfl ?_
              refine rr_assign rfl rfl ?_
              refine rr_nil ?_
              refine cc_ret ?_
              exact ⟨_, rfl, entW_pu (congrArg Value.bool (by simp only [itemMay]; grind)) entW_fr⟩
          · refine rr_guardN rfl rfl rfl rfl ?_
            refine rr_guardN rfl rfl rfl rfl ?_
            refine rr_guardN rfl rfl rfl rfl ?_
            refine rr_guardU rfl rfl rfl ?_
            refine rr_guardU rfl rfl rfl ?_
            refine rr_guardU rfl rfl rfl ?_
            refine rr_guardN rfl rfl rfl rfl ?_
            first | refine rr_pick rfl rfl ?_ | refine rr_pickb rfl rfl rfl rfl ?_
            refine rr_assign rfl rfl ?_
            refine rr_nil ?_
            refine cc_ret ?_
            exact ⟨_, rfl, entW_pu (congrArg Value.bool (by simp only [itemMay]; grind)) entW_fr⟩
      · refine rr_guardN rfl rfl rfl rfl ?_
        refine rr_guardN rfl rfl rfl rfl ?_
        first | refine rr_pick rfl rfl ?_ | refine rr_pickb rfl rfl rfl rfl ?_
        refine rr_nil ?_
        refine cc_cond rfl (fun h22 => ?_) (fun h22 => ?_)
        · try simp only [decide_eq_true_eq, decide_eq_false_iff_not, beq_iff_eq, beq_eq_false_iff_ne, bne_iff_ne, bne_eq_false_iff_eq, ne_eq, Bool.not_eq_eq_eq_not, Bool.not_true, Bool.not_false] at h22
          refine cc_seq ?_
          refine cc_region ?_
          refine rr_assign rfl rfl ?_
          refine rr_nil ?_
          refine cc_ret ?_
          exact ⟨_, rfl, entW_pu (congrArg Value.bool (by simp only [itemMay]; grind)) entW_fr⟩
        · try simp only [decide_eq_true_eq, decide_eq_false_iff_not, beq_iff_eq, beq_eq_false_iff_ne, bne_iff_ne, bne_eq_false_iff_eq, ne_eq, Bool.not_eq_eq_eq_not, Bool.not_true, Bool.not_false] at h22
          refine cc_skip ?_
          refine cc_seq ?_
          refine cc_region ?_
          refine r_fa rfl rfl ?_
          refine r_ld rfl (ls0 rfl) rfl rfl ?_
          refine r_not rfl rfl ?_
          refine rr_move rfl rfl ?_
          refine rr_guard rfl rfl rfl (fun hg3_3 => ?_) (fun hg3_3 => ?_)
          · refine r_fa rfl rfl ?_
            refine rr_guardY rfl rfl rfl ?_
            refine r_ld rfl (ls0 rfl) rfl rfl ?_
            refine rr_guardY rfl rfl rfl ?_
            first | refine r_strx rfl rfl rfl rfl ?_ | refine r_str rfl rfl rfl rfl ?_
            refine rr_guardY rfl rfl rfl ?_
            refine rr_move rfl rfl ?_
            refine rr_guard rfl rfl rfl (fun hg3_7 => ?_) (fun hg3_7 => ?_)
            · refine r_fa rfl rfl ?_
              refine rr_guardY rfl rfl rfl ?_
              refine r_ld rfl (ls0 rfl) rfl rfl ?_
              refine rr_guardY rfl rfl rfl ?_
              refine r_int rfl rfl rfl rfl ?_
              refine rr_guardY rfl rfl rfl ?_
              first | refine rr_pick rfl rfl ?_ | refine rr_pickb rfl rfl rfl rfl ?_
              first | refine rr_pick rfl rfl ?_ | refine rr_pickb rfl rfl rfl rfl ?_
              refine rr_assign rfl rfl ?_
              refine rr_nil ?_
              refine cc_ret ?_
              exact ⟨_, rfl, entW_pu (congrArg Value.bool (by simp only [itemMay]; grind)) entW_fr⟩
            · refine rr_guardN rfl rfl rfl rfl ?_
              refine rr_guardN rfl rfl rfl rfl ?_
              refine rr_guardY rfl rfl rfl ?_
              first | refine rr_pick rfl rfl ?_ | refine rr_pickb rfl rfl rfl rfl ?_
              first | refine rr_pick rfl rfl ?_ | refine rr_pickb rfl rfl rfl rfl ?_
              refine rr_assign rfl rfl ?_
              refine rr_nil ?_
              refine cc_ret ?_
              exact ⟨_, rfl, entW_pu (congrArg Value.bool (by simp only [itemMay]; grind)) entW_fr⟩
          · refine rr_guardN rfl rfl rfl rfl ?_
            refine rr_guardN rfl rfl rfl rfl ?_
            refine rr_guardN rfl rfl rfl rfl ?_
            refine rr_guardU rfl rfl rfl ?_
            refine rr_guardU rfl rfl rfl ?_
            refine rr_guardU rfl rfl rfl ?_
            refine rr_guardN rfl rfl rfl rfl ?_
            first | refine rr_pick rfl rfl ?_ | refine rr_pickb rfl rfl rfl rfl ?_
            refine rr_assign rfl rfl ?_
            refine rr_nil ?_
            refine cc_ret ?_
            exact ⟨_, rfl, entW_pu (congrArg Value.bool (by simp only [itemMay]; grind)) entW_fr⟩
    · refine rr_guardN rfl rfl rfl rfl ?_
      refine rr_guardN rfl rfl rfl rfl ?_
      first | refine rr_pick rfl rfl ?_ | refine rr_pickb rfl rfl rfl rfl ?_
      refine rr_move rfl rfl ?_
      refine rr_guard rfl rfl rfl (fun hg1_15 => ?_) (fun hg1_15 => ?_)
      · refine r_fa rfl rfl ?_
        refine rr_guardY rfl rfl rfl ?_
        refine r_ld rfl (ls0 rfl) rfl rfl ?_
        refine rr_guardY rfl rfl rfl ?_
        refine r_int rfl rfl rfl rfl ?_
        first | refine rr_pick rfl rfl ?_ | refine rr_pickb rfl rfl rfl rfl ?_
        refine rr_nil ?_
        refine cc_cond rfl (fun h22 => ?_) (fun h22 => ?_)
        · try simp only [decide_eq_true_eq, decide_eq_false_iff_not, beq_iff_eq, beq_eq_false_iff_ne, bne_iff_ne, bne_eq_false_iff_eq, ne_eq, Bool.not_eq_eq_eq_not, Bool.not_true, Bool.not_false] at h22
          refine cc_seq ?_
          refine cc_region ?_
          refine rr_assign rfl rfl ?_
          refine rr_nil ?_
          refine cc_ret ?_
          exact ⟨_, rfl, entW_pu (congrArg Value.bool (by simp only [itemMay]; grind)) entW_fr⟩
        · try simp only [decide_eq_true_eq, decide_eq_false_iff_not, beq_iff_eq, beq_eq_false_iff_ne, bne_iff_ne, bne_eq_false_iff_eq, ne_eq, Bool.not_eq_eq_eq_not, Bool.not_true, Bool.not_false] at h22
          refine cc_skip ?_
          refine cc_seq ?_
          refine cc_region ?_
          refine r_fa rfl rfl ?_
          refine r_ld rfl (ls0 rfl) rfl rfl ?_
          refine r_not rfl rfl ?_
          refine rr_move rfl rfl ?_
          refine rr_guard rfl rfl rfl (fun hg3_3 => ?_) (fun hg3_3 => ?_)
          · refine r_fa rfl rfl ?_
            refine rr_guardY rfl rfl rfl ?_
            refine r_ld rfl (ls0 rfl) rfl rfl ?_
            refine rr_guardY rfl rfl rfl ?_
            first | refine r_strx rfl rfl rfl rfl ?_ | refine r_str rfl rfl rfl rfl ?_
            refine rr_guardY rfl rfl rfl ?_
            refine rr_move rfl rfl ?_
            refine rr_guard rfl rfl rfl (fun hg3_7 => ?_) (fun hg3_7 => ?_)
            · refine r_fa rfl rfl ?_
              refine rr_guardY rfl rfl rfl ?_
              refine r_ld rfl (ls0 rfl) rfl rfl ?_
              refine rr_guardY rfl rfl rfl ?_
              refine r_int rfl rfl rfl rfl ?_
              refine rr_guardY rfl rfl rfl ?_
              first | refine rr_pick rfl rfl ?_ | refine rr_pickb rfl rfl rfl rfl ?_
              first | refine rr_pick rfl rfl ?_ | refine rr_pickb rfl rfl rfl rfl ?_
              refine rr_assign rfl rfl ?_
              refine rr_nil ?_
              refine cc_ret ?_
              exact ⟨_, rfl, entW_pu (congrArg Value.bool (by simp only [itemMay]; grind)) entW_fr⟩
            · refine rr_guardN rfl rfl rfl rfl ?_
              refine rr_guardN rfl rfl rfl rfl ?_
              refine rr_guardY rfl rfl rfl ?_
              first | refine rr_pick rfl rfl ?_ | refine rr_pickb rfl rfl rfl rfl ?_
              first | refine rr_pick rfl rfl ?_ | refine rr_pickb rfl rfl rfl rfl ?_
              refine rr_assign rfl rfl ?_
              refine rr_nil ?_
              refine cc_ret ?_
              exact ⟨_, rfl, entW_pu (congrArg Value.bool (by simp only [itemMay]; grind)) entW_fr⟩
          · refine rr_guardN rfl rfl rfl rfl ?_
            refine rr_guardN rfl rfl rfl rfl ?_
            refine rr_guardN rfl rfl rfl rfl ?_
            refine rr_guardU rfl rfl rfl ?_
            refine rr_guardU rfl rfl rfl ?_
            refine rr_guardU rfl rfl rfl ?_
            refine rr_guardN rfl rfl rfl rfl ?_
            first | refine rr_pick rfl rfl ?_ | refine rr_pickb rfl rfl rfl rfl ?_
            refine rr_assign rfl rfl ?_
            refine rr_nil ?_
            refine cc_ret ?_
            exact ⟨_, rfl, entW_pu (congrArg Value.bool (by simp only [itemMay]; grind)) entW_fr⟩
      · refine rr_guardN rfl rfl rfl rfl ?_
        refine rr_guardN rfl rfl rfl rfl ?_
        first | refine rr_pick rfl rfl ?_ | refine rr_pickb rfl rfl rfl rfl ?_
        refine rr_nil ?_
        refine cc_cond rfl (fun h22 => ?_) (fun h22 => ?_)
        · try simp only [decide_eq_true_eq, decide_eq_false_iff_not, beq_iff_eq, beq_eq_false_iff_ne, bne_iff_ne, bne_eq_false_iff_eq, ne_eq, Bool.not_eq_eq_eq_not, Bool.not_true, Bool.not_false] at h22
          refine cc_seq ?_
          refine cc_region ?_
          refine rr_assign rfl rfl ?_
          refine rr_nil ?_
          refine cc_ret ?_
          exact ⟨_, rfl, entW_pu (congrArg Value.bool (by simp only [itemMay]; grind)) entW_fr⟩
        · try simp only [decide_eq_true_eq, decide_eq_false_iff_not, beq_iff_eq, beq_eq_false_iff_ne, bne_iff_ne, bne_eq_false_iff_eq, ne_eq, Bool.not_eq_eq_eq_not, Bool.not_true, Bool.not_false] at h22
          refine cc_skip ?_
          refine cc_seq ?_
          refine cc_region ?_
          refine r_fa rfl rfl ?_
          refine r_ld rfl (ls0 rfl) rfl rfl ?_
          refine r_not rfl rfl ?_
          refine rr_move rfl rfl ?_
          refine rr_guard rfl rfl rfl (fun hg3_3 => ?_) (fun hg3_3 => ?_)
          · refine r_fa rfl rfl ?_
            refine rr_guardY rfl rfl rfl ?_
            refine r_ld rfl (ls0 rfl) rfl rfl ?_
            refine rr_guardY rfl rfl rfl ?_
            first | refine r_strx rfl rfl rfl rfl ?_ | refine r_str rfl rfl rfl rfl ?_
            refine rr_guardY rfl rfl rfl ?_
            refine rr_move rfl rfl ?_
            refine rr_guard rfl rfl rfl (fun hg3_7 => ?_) (fun hg3_7 => ?_)
            · refine r_fa rfl rfl ?_
              refine rr_guardY rfl rfl rfl ?_
              refine r_ld rfl (ls0 rfl) rfl rfl ?_
              refine rr_guardY rfl rfl rfl ?_
              refine r_int rfl rfl rfl rfl ?_
              refine rr_guardY rfl rfl rfl ?_
              first | refine rr_pick rfl rfl ?_ | refine rr_pickb rfl rfl rfl rfl ?_
              first | refine rr_pick rfl rfl ?_ | refine rr_pickb rfl rfl rfl rfl ?_
              refine rr_assign rfl rfl ?_
              refine rr_nil ?_
              refine cc_ret ?_
              exact ⟨_, rfl, entW_pu (congrArg Value.bool (by simp only [itemMay]; grind)) entW_fr⟩
            · refine rr_guardN rfl rfl rfl rfl ?_
              refine rr_guardN rfl rfl rfl rfl ?_
              refine rr_guardY rfl rfl rfl ?_
              first | refine rr_pick rfl rfl ?_ | refine rr_pickb rfl rfl rfl rfl ?_
              first | refine rr_pick rfl rfl ?_ | refine rr_pickb rfl rfl rfl rfl ?_
              refine rr_assign rfl rfl ?_
              refine rr_nil ?_
              refine cc_ret ?_
              exact ⟨_, rfl, entW_pu (congrArg Value.bool (by simp only [itemMay]; grind)) entW_fr⟩
          · refine rr_guardN rfl rfl rfl rfl ?_
            refine rr_guardN rfl rfl rfl rfl ?_
            refine rr_guardN rfl rfl rfl rfl ?_
            refine rr_guardU rfl rfl rfl ?_
            refine rr_guardU rfl rfl rfl ?_
            refine rr_guardU rfl rfl rfl ?_
            refine rr_guardN rfl rfl rfl rfl ?_
            first | refine rr_pick rfl rfl ?_ | refine rr_pickb rfl rfl rfl rfl ?_
            refine rr_assign rfl rfl ?_
            refine rr_nil ?_
            refine cc_ret ?_
            exact ⟨_, rfl, entW_pu (congrArg Value.bool (by simp only [itemMay]; grind)) entW_fr⟩
def itemLive (x : ItemS) (now : Int) : Bool := itemMay x && !x.gone && (x.end_ == 0 || decide (now < x.end_))
theorem ilive_tr (x : ItemS) (now : Int) : Tr Tryz.prog 141 #[itemA x, i64 now] 1 (fun v => pu (v = .bool (itemLive x now))) := by
  refine tr_body Tryz.func141 (by kernel_rfl) rfl Tryz.ntmps141 rfl (L := [(0, itemA x), (1, i64 now)]) (covers_cons rfl (covers_cons rfl covers_nil)) rfl ?_
  intro F w0 f
  rw [sl_one_mul]
  refine cc_seq ?_
  refine cc_region ?_
  refine r_boxa rfl rfl (sd0 rfl) (fun _ => sd0 rfl) (fun p0_0 => ?_)
  refine rr_assign rfl rfl ?_
  refine rr_nil ?_
  refine cc_seq ?_
  refine cc_region ?_
  refine r_lda rfl (ls0 rfl) rfl rfl ?_
  refine rr_call rfl rfl rfl rfl (imay_tr x) inferInstance rfl (sd0 rfl) (fun _ => sd0 rfl) rfl (fun v => ?_)
  first | refine RR.pu2 ?_ | refine RR.pu ?_
  rintro rfl
  refine rr_move rfl rfl ?_
  refine rr_guard rfl rfl rfl (fun hg1_2 => ?_) (fun hg1_2 => ?_)
  · refine r_fa rfl rfl ?_
    refine rr_guardY rfl rfl rfl ?_
    refine r_ld rfl (ls0 rfl) rfl rfl ?_
    refine rr_guardY rfl rfl rfl ?_
    refine r_not rfl rfl ?_
    first | refine rr_pick rfl rfl ?_ | refine rr_pickb rfl rfl rfl rfl ?_
    refine rr_move rfl rfl ?_
    refine rr_guard rfl rfl rfl (fun hg1_7 => ?_) (fun hg1_7 => ?_)
    · refine r_fa rfl rfl ?_
      refine rr_guardY rfl rfl rfl ?_
      refine r_ld rfl (ls0 rfl) rfl rfl ?_
      refine rr_guardY rfl rfl rfl ?_
      refine r_int rfl rfl rfl rfl ?_
      refine rr_guardY rfl rfl rfl ?_
      refine rr_move rfl rfl ?_
      refine rr_guard rfl rfl rfl (fun hg1_11 => ?_) (fun hg1_11 => ?_)
      · refine r_fa rfl rfl ?_
        refine rr_guardY rfl rfl rfl ?_
        refine r_ld rfl (ls0 rfl) rfl rfl ?_
        refine rr_guardY rfl rfl rfl ?_
        refine rr_move rfl rfl ?_
        refine rr_guardY rfl rfl rfl ?_
        refine r_int rfl rfl rfl rfl ?_
        refine rr_guardY rfl rfl rfl ?_
        first | refine rr_pick rfl rfl ?_ | refine rr_pickb rfl rfl rfl rfl ?_
        first | refine rr_pick rfl rfl ?_ | refine rr_pickb rfl rfl rfl rfl ?_
        refine rr_assign rfl rfl ?_
        refine rr_nil ?_
        refine cc_ret ?_
        exact ⟨_, rfl, entW_pu (congrArg Value.bool (by simp only [itemLive]; grind)) entW_fr⟩
      · refine rr_guardN rfl rfl rfl rfl ?_
        refine rr_guardN rfl rfl rfl rfl ?_
        refine rr_guardN rfl rfl rfl rfl ?_
        refine rr_guardY rfl rfl rfl ?_
        first | refine rr_pick rfl rfl ?_ | refine rr_pickb rfl rfl rfl rfl ?_
        first | refine rr_pick rfl rfl ?_ | refine rr_pickb rfl rfl rfl rfl ?_
        refine rr_assign rfl rfl ?_
        refine rr_nil ?_
        refine cc_ret ?_
        exact ⟨_, rfl, entW_pu (congrArg Value.bool (by simp only [itemLive]; grind)) entW_fr⟩
    · refine rr_guardN rfl rfl rfl rfl ?_
      refine rr_guardN rfl rfl rfl rfl ?_
      refine rr_guardN rfl rfl rfl rfl ?_
      refine rr_guardU rfl rfl rfl ?_
      refine rr_guardU rfl rfl rfl ?_
      refine rr_guardU rfl rfl rfl ?_
      refine rr_guardU rfl rfl rfl ?_
      refine rr_guardN rfl rfl rfl rfl ?_
      first | refine rr_pick rfl rfl ?_ | refine rr_pickb rfl rfl rfl rfl ?_
      refine rr_assign rfl rfl ?_
      refine rr_nil ?_
      refine cc_ret ?_
      exact ⟨_, rfl, entW_pu (congrArg Value.bool (by simp only [itemLive]; grind)) entW_fr⟩
  · refine rr_guardN rfl rfl rfl rfl ?_
    refine rr_guardN rfl rfl rfl rfl ?_
    first | refine rr_pick rfl rfl ?_ | refine rr_pickb rfl rfl rfl rfl ?_
    refine rr_move rfl rfl ?_
    refine rr_guard rfl rfl rfl (fun hg1_7 => ?_) (fun hg1_7 => ?_)
    · refine r_fa rfl rfl ?_
      refine rr_guardY rfl rfl rfl ?_
      refine r_ld rfl (ls0 rfl) rfl rfl ?_
      refine rr_guardY rfl rfl rfl ?_
      refine r_int rfl rfl rfl rfl ?_
      refine rr_guardY rfl rfl rfl ?_
      refine rr_move rfl rfl ?_
      refine rr_guard rfl rfl rfl (fun hg1_11 => ?_) (fun hg1_11 => ?_)
      · refine r_fa rfl rfl ?_
        refine rr_guardY rfl rfl rfl ?_
        refine r_ld rfl (ls0 rfl) rfl rfl ?_
        refine rr_guardY rfl rfl rfl ?_
        refine rr_move rfl rfl ?_
        refine rr_guardY rfl rfl rfl ?_
        refine r_int rfl rfl rfl rfl ?_
        refine rr_guardY rfl rfl rfl ?_
        first | refine rr_pick rfl rfl ?_ | refine rr_pickb rfl rfl rfl rfl ?_
        first | refine rr_pick rfl rfl ?_ | refine rr_pickb rfl rfl rfl rfl ?_
        refine rr_assign rfl rfl ?_
        refine rr_nil ?_
        refine cc_ret ?_
        exact ⟨_, rfl, entW_pu (congrArg Value.bool (by simp only [itemLive]; grind)) entW_fr⟩
      · refine rr_guardN rfl rfl rfl rfl ?_
        refine rr_guardN rfl rfl rfl rfl ?_
        refine rr_guardN rfl rfl rfl rfl ?_
        refine rr_guardY rfl rfl rfl ?_
        first | refine rr_pick rfl rfl ?_ | refine rr_pickb rfl rfl rfl rfl ?_
        first | refine rr_pick rfl rfl ?_ | refine rr_pickb rfl rfl rfl rfl ?_
        refine rr_assign rfl rfl ?_
        refine rr_nil ?_
        refine cc_ret ?_
        exact ⟨_, rfl, entW_pu (congrArg Value.bool (by simp only [itemLive]; grind)) entW_fr⟩
    · refine rr_guardN rfl rfl rfl rfl ?_
      refine rr_guardN rfl rfl rfl rfl ?_
      refine rr_guardN rfl rfl rfl rfl ?_
      refine rr_guardU rfl rfl rfl ?_
      refine rr_guardU rfl rfl rfl ?_
      refine rr_guardU rfl rfl rfl ?_
      refine rr_guardU rfl rfl rfl ?_
      refine rr_guardN rfl rfl rfl rfl ?_
      first | refine rr_pick rfl rfl ?_ | refine rr_pickb rfl rfl rfl rfl ?_
      refine rr_assign rfl rfl ?_
      refine rr_nil ?_
      refine cc_ret ?_
      exact ⟨_, rfl, entW_pu (congrArg Value.bool (by simp only [itemLive]; grind)) entW_fr⟩
def encItem (x : ItemS) : Txt := encTs [x.key, x.val] ++ encs [x.end_, frB x.gone]
def encItems (xs : List ItemS) : Txt := xs.flatMap encItem
theorem encItems_take {xs : List ItemS} {j : Nat} {x : ItemS} (h : xs[j]? = some x) : encItems (xs.take (j + 1)) = encItems (xs.take j) ++ encItem x := by
  rw [encItems, List.take_add_one, h]; simp [encItems]
theorem itemMay_spec {x : ItemS} (h : itemMay x = true) : x.key ≠ [] ∧ x.key.length ≤ 40 ∧ x.val.length ≤ 200 ∧ 0 ≤ x.end_ ∧ x.end_ ≤ 1099511627776 := by
  simp only [itemMay, keyOk, Bool.and_eq_true, Bool.not_eq_true', decide_eq_true_eq, decide_eq_false_iff_not, bne_iff_ne, ne_eq] at h
  exact ⟨h.1.1.1.1.1, by omega, by omega, by omega, by omega⟩
theorem encItem_len {x : ItemS} (h : itemMay x = true) : (encItem x).length ≤ 300 := by
  have h1 := itemMay_spec h
  have a := enc_len (x.key.length : Int)
  have b := enc_len (x.val.length : Int)
  have c := enc_len x.end_
  have d := enc_len (frB x.gone)
  simp [encItem, encTs, encT, encs]
  omega
theorem encItems_len {xs : List ItemS} (h : ∀ x ∈ xs, itemMay x = true) : (encItems xs).length ≤ 300 * xs.length := by
  induction xs with
  | nil => simp [encItems]
  | cons x xs ih =>
    have h1 := encItem_len (h x (by simp))
    have := ih (fun y hy => h y (by simp [hy]))
    simp [encItems] at this ⊢; omega
theorem iencode_tr (p c2 : Nat) (rest : List Value) (xs : List ItemS) (hx : ∀ x ∈ xs, itemMay x = true) (hl : xs.length ≤ 1000) :
    Tr Tryz.prog 53 #[.slice (some ⟨p, 0, none⟩) xs.length c2] (bl p 62 (xs.flatMap itemV ++ rest)) (fun v => slR v 5 1 (encItems xs).length (bv (encItems xs)) * bl p 62 (xs.flatMap itemV ++ rest)) := by
  refine tr_body Tryz.func53 (by kernel_rfl) rfl Tryz.ntmps53 rfl (L := [(0, .slice (some ⟨p, 0, none⟩) xs.length c2)]) (covers_cons rfl covers_nil) rfl ?_
  intro F w0 f
  refine CC.entW ?_ (entW_ent (ent_nilB 5))
  refine cc_seq ?_
  refine cc_region ?_
  refine rr_assign rfl rfl ?_
  refine rr_nil ?_
  refine cc_seq ?_
  refine cc_region ?_
  refine rr_assign rfl rfl ?_
  refine rr_nil ?_
  refine cc_seq ?_
  refine cc_seq ?_
  refine cc_region ?_
  refine rr_move rfl rfl ?_
  refine r_lens rfl rfl ?_
  refine rr_move rfl rfl ?_
  refine rr_nil ?_
  refine cc_block ?_
  refine cc_loopW (α := (Nat × Value)) (fun ⟨j, v⟩ => [(9, i64 j), (8, i64 xs.length), (7, .slice (some ⟨p, 0, none⟩) xs.length c2), (3, v)]) (fun ⟨j, v⟩ => pu (j ≤ xs.length) * (slR v 5 1 (encItems (xs.take j)).length (bv (encItems (xs.take j))) * bl p 62 (xs.flatMap itemV ++ rest) * F)) (fun ⟨j, v⟩ => xs.length - j) ((0, .slice none 0 0)) (by ((repeat' (first | exact covers_nil | (refine covers_cons ?_ ?_; focus (first | rfl | (simp [lk, lk?]; done))))) ; (first | done | fail))) (by exact entW_pu (by omega) (by simpa [encItems] using entW_fr)) ?_
  rintro ⟨j, v⟩ f
  refine CC.pu fun hj => ?_
  refine cc_seq ?_
  refine cc_region ?_
  refine r_int rfl rfl rfl rfl ?_
  refine rr_nil ?_
  refine cc_seq ?_
  refine cc_cond rfl (fun h10 => ?_) (fun h10 => ?_)
  · try simp only [decide_eq_true_eq, decide_eq_false_iff_not, beq_iff_eq, beq_eq_false_iff_ne, bne_iff_ne, bne_eq_false_iff_eq, ne_eq, Bool.not_eq_eq_eq_not, Bool.not_true, Bool.not_false] at h10
    obtain ⟨x, hxj⟩ := lt_get (l := xs) (j := j) (by omega)
    have hmay := hx x (get_mem hxj)
    have hms := itemMay_spec hmay
    have hlen := encItems_len (xs := xs.take j) (fun y hy => hx y (List.mem_of_mem_take hy))
    rw [List.length_take, Nat.min_eq_left (by omega)] at hlen
    refine cc_skip ?_
    refine cc_seq ?_
    refine cc_block ?_
    refine cc_seq ?_
    refine cc_region ?_
    refine r_ix rfl rfl rfl (by omega) ?_
    refine r_lda rfl (ls0 rfl) (vs := itemV x) (by rw [show 0 + (j : Int).toNat * 4 = j * 4 + 0 by omega]; exact cut_fm (w := 4) (fun _ _ => rfl) hxj rfl rest) rfl ?_
    refine r_alloc rfl (sd0 rfl) (fun _ => sd0 rfl) (fun p4_2 => ?_)
    refine r_sta (cs' := itemV x) rfl rfl rfl rfl rfl (Nat.le_of_ble_eq_true rfl) (sd0 rfl) (sd0 rfl) ?_
    refine rr_nil ?_
    refine cc_seq ?_
    refine cc_seq ?_
    refine cc_region ?_
    refine r_lda rfl (ls0 rfl) rfl rfl ?_
    refine rr_call rfl rfl rfl rfl (imay_tr x) inferInstance rfl (sd0 rfl) (fun _ => sd0 rfl) rfl (fun v => ?_)
    first | refine RR.pu2 ?_ | refine RR.pu ?_
    rintro rfl
    refine r_not rfl rfl ?_
    refine rr_nil ?_
    refine cc_condFp rfl (by rw [hmay]; rfl) ?_
    refine cc_skip ?_
    refine cc_seq ?_
    refine cc_region ?_
    refine rr_assign rfl rfl ?_
    refine rr_nil ?_
    refine cc_seq ?_
    refine cc_seq ?_
    refine cc_region ?_
    refine r_fa rfl rfl ?_
    refine r_ld rfl (ls0 rfl) rfl rfl ?_
    refine rr_nil ?_
    refine cc_cond rfl (fun h17 => ?_) (fun h17 => ?_)
    · try simp only [decide_eq_true_eq, decide_eq_false_iff_not, beq_iff_eq, beq_eq_false_iff_ne, bne_iff_ne, bne_eq_false_iff_eq, ne_eq, Bool.not_eq_eq_eq_not, Bool.not_true, Bool.not_false] at h17
      refine cc_region ?_
      refine rr_assign rfl rfl ?_
      refine rr_nil ?_
      refine cc_perm (bl p4_2 62 (itemV x)) [2, 4, 8] [5, 6, 10] (.alt (.go 1 (.go 2 (.go 3 (.go 4 (.go 5 (.alt (.go 0 (.go 6 (.go 7 (.go 8 (.go 9 (.go 10 (.go 11 (.go 12 .nil)))))))) (.go 7 (.go 8 (.go 9 (.go 10 (.go 0 (.go 6 (.go 11 (.go 12 .nil)))))))))))))) (.go 7 (.go 8 (.go 9 (.go 10 (.go 1 (.go 2 (.go 3 (.go 4 (.go 5 (.go 0 (.go 6 (.go 11 (.go 12 .nil)))))))))))))) mixed (by decide +kernel) ?_
      refine ro_alt ?_ ?_
      · refine ro_seg (is := [5, 4, 3, 2, 1]) (pl := [1, 3]) (fl := [4]) rfl (by kernel_rfl) ?_
        refine r_fa rfl rfl ?_
        refine r_ld rfl (ls1 rfl) rfl rfl ?_
        refine r_fa rfl rfl ?_
        refine r_ld rfl (ls1 rfl) rfl rfl ?_
        refine r_bsl (cs := ([x.key, x.val] : List Txt).map str) rfl rfl rfl rfl rfl rfl (by first | exact sd0 rfl | exact sd1 rfl) (fun _ => by first | exact sd0 rfl | exact sd1 rfl) (fun p5 => ?_)
        refine rr_nil ?_
        refine ro_alt ?_ ?_
        · refine ro_seg (is := [12, 11, 10, 9, 8, 7, 6, 0]) (pl := [3]) (fl := [1, 5]) rfl (by kernel_rfl) ?_
          refine rr_move rfl rfl ?_
          refine rr_call rfl rfl rfl rfl (nPutText_tr v (encItems (xs.take j)) p5 2 [x.key, x.val] (by simp; omega) (by omega) (by simp)) inferInstance rfl (sd1 rfl) (fun _ => sd1 rfl) rfl (fun v => ?_)
          refine r_fa rfl rfl ?_
          refine r_ld rfl (ls1 rfl) rfl rfl ?_
          refine rr_move rfl rfl ?_
          refine r_bsl (cs := ([x.end_, frB x.gone] : List Int).map i64) rfl rfl (by simp only [frB, h17]; rfl) rfl rfl rfl (by first | exact sd0 rfl | exact sd1 rfl) (fun _ => by first | exact sd0 rfl | exact sd1 rfl) (fun p10 => ?_)
          refine rr_call rfl rfl rfl rfl (nPut_tr v (encItems (xs.take j) ++ encTs [x.key, x.val]) p10 2 [x.end_, frB x.gone] (by simp [frB]; omega) (by have := encTs_len [x.key, x.val] (m := 200) (by simp; omega); simp at this ⊢; omega) (by simp)) inferInstance rfl (sd0 rfl) (fun _ => sd0 rfl) rfl (fun v => ?_)
          refine rr_assign rfl rfl ?_
          rw [show encItems (xs.take j) ++ encTs [x.key, x.val] ++ encs [x.end_, frB x.gone] = encItems (xs.take (j + 1)) by rw [encItems_take hxj, encItem]; simp]
          refine rr_nil ?_
          refine ro_nil ?_
          refine cc_region ?_
          refine r_add rfl rfl rfl (by omega) ?_
          refine rr_move rfl rfl ?_
          refine rr_nil ?_
          exact ⟨(j + 1, v), (by show xs.length - (j + 1) < xs.length - j; omega), by ((repeat' (first | exact covers_nil | (refine covers_cons ?_ ?_; focus (first | rfl | (simp [lk, lk?]; done))))) ; (first | done | fail)), entW_pu (by omega) entW_fr⟩
        · refine ro_seg (is := [12, 11, 6, 0, 10, 9, 8, 7]) (pl := [1]) (fl := [3, 5]) rfl (by kernel_rfl) ?_
          refine r_fa rfl rfl ?_
          refine r_ld rfl (ls1 rfl) rfl rfl ?_
          refine rr_move rfl rfl ?_
          refine r_bsl (cs := ([x.end_, frB x.gone] : List Int).map i64) rfl rfl (by simp only [frB, h17]; rfl) rfl rfl rfl (by first | exact sd0 rfl | exact sd1 rfl) (fun _ => by first | exact sd0 rfl | exact sd1 rfl) (fun p10 => ?_)
          refine rr_move rfl rfl ?_
          refine rr_call rfl rfl rfl rfl (nPutText_tr v (encItems (xs.take j)) p5 2 [x.key, x.val] (by simp; omega) (by omega) (by simp)) inferInstance rfl (sd1 rfl) (fun _ => sd1 rfl) rfl (fun v => ?_)
          refine rr_call rfl rfl rfl rfl (nPut_tr v (encItems (xs.take j) ++ encTs [x.key, x.val]) p10 2 [x.end_, frB x.gone] (by simp [frB]; omega) (by have := encTs_len [x.key, x.val] (m := 200) (by simp; omega); simp at this ⊢; omega) (by simp)) inferInstance rfl (sd0 rfl) (fun _ => sd0 rfl) rfl (fun v => ?_)
          refine rr_assign rfl rfl ?_
          rw [show encItems (xs.take j) ++ encTs [x.key, x.val] ++ encs [x.end_, frB x.gone] = encItems (xs.take (j + 1)) by rw [encItems_take hxj, encItem]; simp]
          refine rr_nil ?_
          refine ro_nil ?_
          refine cc_region ?_
          refine r_add rfl rfl rfl (by omega) ?_
          refine rr_move rfl rfl ?_
          refine rr_nil ?_
          exact ⟨(j + 1, v), (by show xs.length - (j + 1) < xs.length - j; omega), by ((repeat' (first | exact covers_nil | (refine covers_cons ?_ ?_; focus (first | rfl | (simp [lk, lk?]; done))))) ; (first | done | fail)), entW_pu (by omega) entW_fr⟩
      · refine ro_seg (is := [12, 11, 6, 0, 5, 4, 3, 2, 1, 10, 9, 8, 7]) (pl := [1, 5, 7]) (fl := [3, 8, 10]) rfl (by kernel_rfl) ?_
        refine r_fa rfl rfl ?_
        refine r_ld rfl (ls1 rfl) rfl rfl ?_
        refine rr_move rfl rfl ?_
        refine r_bsl (cs := ([x.end_, frB x.gone] : List Int).map i64) rfl rfl (by simp only [frB, h17]; rfl) rfl rfl rfl (by first | exact sd0 rfl | exact sd1 rfl) (fun _ => by first | exact sd0 rfl | exact sd1 rfl) (fun p10 => ?_)
        refine r_fa rfl rfl ?_
        refine r_ld rfl (ls1 rfl) rfl rfl ?_
        refine r_fa rfl rfl ?_
        refine r_ld rfl (ls1 rfl) rfl rfl ?_
        refine r_bsl (cs := ([x.key, x.val] : List Txt).map str) rfl rfl rfl rfl rfl rfl (by first | exact sd0 rfl | exact sd1 rfl) (fun _ => by first | exact sd0 rfl | exact sd1 rfl) (fun p5 => ?_)
        refine rr_move rfl rfl ?_
        refine rr_call rfl rfl rfl rfl (nPutText_tr v (encItems (xs.take j)) p5 2 [x.key, x.val] (by simp; omega) (by omega) (by simp)) inferInstance rfl (sd1 rfl) (fun _ => sd1 rfl) rfl (fun v => ?_)
        refine rr_call rfl rfl rfl rfl (nPut_tr v (encItems (xs.take j) ++ encTs [x.key, x.val]) p10 2 [x.end_, frB x.gone] (by simp [frB]; omega) (by have := encTs_len [x.key, x.val] (m := 200) (by simp; omega); simp at this ⊢; omega) (by simp)) inferInstance rfl (sd0 rfl) (fun _ => sd0 rfl) rfl (fun v => ?_)
        refine rr_assign rfl rfl ?_
        rw [show encItems (xs.take j) ++ encTs [x.key, x.val] ++ encs [x.end_, frB x.gone] = encItems (xs.take (j + 1)) by rw [encItems_take hxj, encItem]; simp]
        refine rr_nil ?_
        refine ro_nil ?_
        refine cc_region ?_
        refine r_add rfl rfl rfl (by omega) ?_
        refine rr_move rfl rfl ?_
        refine rr_nil ?_
        exact ⟨(j + 1, v), (by show xs.length - (j + 1) < xs.length - j; omega), by ((repeat' (first | exact covers_nil | (refine covers_cons ?_ ?_; focus (first | rfl | (simp [lk, lk?]; done))))) ; (first | done | fail)), entW_pu (by omega) entW_fr⟩
    · try simp only [decide_eq_true_eq, decide_eq_false_iff_not, beq_iff_eq, beq_eq_false_iff_ne, bne_iff_ne, bne_eq_false_iff_eq, ne_eq, Bool.not_eq_eq_eq_not, Bool.not_true, Bool.not_false] at h17
      refine cc_skip ?_
      refine cc_perm (bl p4_2 62 (itemV x)) [2, 4, 8] [5, 6, 10] (.alt (.go 1 (.go 2 (.go 3 (.go 4 (.go 5 (.alt (.go 0 (.go 6 (.go 7 (.go 8 (.go 9 (.go 10 (.go 11 (.go 12 .nil)))))))) (.go 7 (.go 8 (.go 9 (.go 10 (.go 0 (.go 6 (.go 11 (.go 12 .nil)))))))))))))) (.go 7 (.go 8 (.go 9 (.go 10 (.go 1 (.go 2 (.go 3 (.go 4 (.go 5 (.go 0 (.go 6 (.go 11 (.go 12 .nil)))))))))))))) mixed (by decide +kernel) ?_
      refine ro_alt ?_ ?_
      · refine ro_seg (is := [5, 4, 3, 2, 1]) (pl := [1, 3]) (fl := [4]) rfl (by kernel_rfl) ?_
        refine r_fa rfl rfl ?_
        refine r_ld rfl (ls1 rfl) rfl rfl ?_
        refine r_fa rfl rfl ?_
        refine r_ld rfl (ls1 rfl) rfl rfl ?_
        refine r_bsl (cs := ([x.key, x.val] : List Txt).map str) rfl rfl rfl rfl rfl rfl (by first | exact sd0 rfl | exact sd1 rfl) (fun _ => by first | exact sd0 rfl | exact sd1 rfl) (fun p5 => ?_)
        refine rr_nil ?_
        refine ro_alt ?_ ?_
        · refine ro_seg (is := [12, 11, 10, 9, 8, 7, 6, 0]) (pl := [3]) (fl := [1, 5]) rfl (by kernel_rfl) ?_
          refine rr_move rfl rfl ?_
          refine rr_call rfl rfl rfl rfl (nPutText_tr v (encItems (xs.take j)) p5 2 [x.key, x.val] (by simp; omega) (by omega) (by simp)) inferInstance rfl (sd1 rfl) (fun _ => sd1 rfl) rfl (fun v => ?_)
          refine r_fa rfl rfl ?_
          refine r_ld rfl (ls1 rfl) rfl rfl ?_
          refine rr_move rfl rfl ?_
          refine r_bsl (cs := ([x.end_, frB x.gone] : List Int).map i64) rfl rfl (by simp only [frB, h17]; rfl) rfl rfl rfl (by first | exact sd0 rfl | exact sd1 rfl) (fun _ => by first | exact sd0 rfl | exact sd1 rfl) (fun p10 => ?_)
          refine rr_call rfl rfl rfl rfl (nPut_tr v (encItems (xs.take j) ++ encTs [x.key, x.val]) p10 2 [x.end_, frB x.gone] (by simp [frB]; omega) (by have := encTs_len [x.key, x.val] (m := 200) (by simp; omega); simp at this ⊢; omega) (by simp)) inferInstance rfl (sd0 rfl) (fun _ => sd0 rfl) rfl (fun v => ?_)
          refine rr_assign rfl rfl ?_
          rw [show encItems (xs.take j) ++ encTs [x.key, x.val] ++ encs [x.end_, frB x.gone] = encItems (xs.take (j + 1)) by rw [encItems_take hxj, encItem]; simp]
          refine rr_nil ?_
          refine ro_nil ?_
          refine cc_region ?_
          refine r_add rfl rfl rfl (by omega) ?_
          refine rr_move rfl rfl ?_
          refine rr_nil ?_
          exact ⟨(j + 1, v), (by show xs.length - (j + 1) < xs.length - j; omega), by ((repeat' (first | exact covers_nil | (refine covers_cons ?_ ?_; focus (first | rfl | (simp [lk, lk?]; done))))) ; (first | done | fail)), entW_pu (by omega) entW_fr⟩
        · refine ro_seg (is := [12, 11, 6, 0, 10, 9, 8, 7]) (pl := [1]) (fl := [3, 5]) rfl (by kernel_rfl) ?_
          refine r_fa rfl rfl ?_
          refine r_ld rfl (ls1 rfl) rfl rfl ?_
          refine rr_move rfl rfl ?_
          refine r_bsl (cs := ([x.end_, frB x.gone] : List Int).map i64) rfl rfl (by simp only [frB, h17]; rfl) rfl rfl rfl (by first | exact sd0 rfl | exact sd1 rfl) (fun _ => by first | exact sd0 rfl | exact sd1 rfl) (fun p10 => ?_)
          refine rr_move rfl rfl ?_
          refine rr_call rfl rfl rfl rfl (nPutText_tr v (encItems (xs.take j)) p5 2 [x.key, x.val] (by simp; omega) (by omega) (by simp)) inferInstance rfl (sd1 rfl) (fun _ => sd1 rfl) rfl (fun v => ?_)
          refine rr_call rfl rfl rfl rfl (nPut_tr v (encItems (xs.take j) ++ encTs [x.key, x.val]) p10 2 [x.end_, frB x.gone] (by simp [frB]; omega) (by have := encTs_len [x.key, x.val] (m := 200) (by simp; omega); simp at this ⊢; omega) (by simp)) inferInstance rfl (sd0 rfl) (fun _ => sd0 rfl) rfl (fun v => ?_)
          refine rr_assign rfl rfl ?_
          rw [show encItems (xs.take j) ++ encTs [x.key, x.val] ++ encs [x.end_, frB x.gone] = encItems (xs.take (j + 1)) by rw [encItems_take hxj, encItem]; simp]
          refine rr_nil ?_
          refine ro_nil ?_
          refine cc_region ?_
          refine r_add rfl rfl rfl (by omega) ?_
          refine rr_move rfl rfl ?_
          refine rr_nil ?_
          exact ⟨(j + 1, v), (by show xs.length - (j + 1) < xs.length - j; omega), by ((repeat' (first | exact covers_nil | (refine covers_cons ?_ ?_; focus (first | rfl | (simp [lk, lk?]; done))))) ; (first | done | fail)), entW_pu (by omega) entW_fr⟩
      · refine ro_seg (is := [12, 11, 6, 0, 5, 4, 3, 2, 1, 10, 9, 8, 7]) (pl := [1, 5, 7]) (fl := [3, 8, 10]) rfl (by kernel_rfl) ?_
        refine r_fa rfl rfl ?_
        refine r_ld rfl (ls1 rfl) rfl rfl ?_
        refine rr_move rfl rfl ?_
        refine r_bsl (cs := ([x.end_, frB x.gone] : List Int).map i64) rfl rfl (by simp only [frB, h17]; rfl) rfl rfl rfl (by first | exact sd0 rfl | exact sd1 rfl) (fun _ => by first | exact sd0 rfl | exact sd1 rfl) (fun p10 => ?_)
        refine r_fa rfl rfl ?_
        refine r_ld rfl (ls1 rfl) rfl rfl ?_
        refine r_fa rfl rfl ?_
        refine r_ld rfl (ls1 rfl) rfl rfl ?_
        refine r_bsl (cs := ([x.key, x.val] : List Txt).map str) rfl rfl rfl rfl rfl rfl (by first | exact sd0 rfl | exact sd1 rfl) (fun _ => by first | exact sd0 rfl | exact sd1 rfl) (fun p5 => ?_)
        refine rr_move rfl rfl ?_
        refine rr_call rfl rfl rfl rfl (nPutText_tr v (encItems (xs.take j)) p5 2 [x.key, x.val] (by simp; omega) (by omega) (by simp)) inferInstance rfl (sd1 rfl) (fun _ => sd1 rfl) rfl (fun v => ?_)
        refine rr_call rfl rfl rfl rfl (nPut_tr v (encItems (xs.take j) ++ encTs [x.key, x.val]) p10 2 [x.end_, frB x.gone] (by simp [frB]; omega) (by have := encTs_len [x.key, x.val] (m := 200) (by simp; omega); simp at this ⊢; omega) (by simp)) inferInstance rfl (sd0 rfl) (fun _ => sd0 rfl) rfl (fun v => ?_)
        refine rr_assign rfl rfl ?_
        rw [show encItems (xs.take j) ++ encTs [x.key, x.val] ++ encs [x.end_, frB x.gone] = encItems (xs.take (j + 1)) by rw [encItems_take hxj, encItem]; simp]
        refine rr_nil ?_
        refine ro_nil ?_
        refine cc_region ?_
        refine r_add rfl rfl rfl (by omega) ?_
        refine rr_move rfl rfl ?_
        refine rr_nil ?_
        exact ⟨(j + 1, v), (by show xs.length - (j + 1) < xs.length - j; omega), by ((repeat' (first | exact covers_nil | (refine covers_cons ?_ ?_; focus (first | rfl | (simp [lk, lk?]; done))))) ; (first | done | fail)), entW_pu (by omega) entW_fr⟩
  · try simp only [decide_eq_true_eq, decide_eq_false_iff_not, beq_iff_eq, beq_eq_false_iff_ne, bne_iff_ne, bne_eq_false_iff_eq, ne_eq, Bool.not_eq_eq_eq_not, Bool.not_true, Bool.not_false] at h10
    obtain rfl : j = xs.length := by omega
    refine cc_exit ?_
    refine cc_seq ?_
    refine cc_region ?_
    refine rr_move rfl rfl ?_
    refine rr_assign rfl rfl ?_
    refine rr_nil ?_
    refine cc_ret ?_
    exact ⟨_, rfl, by rw [List.take_of_length_le (Nat.le_refl _)]; exact entW_fr⟩
end Go.Proofs.YtoiakcgdkegncaaGreat

