import Derived.Test.YtoiakcgdkegncaaGreatK9
set_option linter.unusedVariables false
set_option linter.unusedSimpArgs false
set_option linter.unusedSectionVars false
namespace Go.Proofs.YtoiakcgdkegncaaGreat
open Go.RowKit Ice
attribute [local irreducible] CC RR Tr
theorem or64 {a b : Nat} (ha : a < 2 ^ 64) (hb : b < 2 ^ 64) : IntKind.wrap .u64 ((BitVec.ofInt (IntKind.bits .u64) (a : Int) ||| BitVec.ofInt (IntKind.bits .u64) (b : Int)).toNat : Int) = ((a ||| b : Nat) : Int) := by
  have := ku64_or (UInt64.ofNat a) (UInt64.ofNat b)
  rw [UInt64.toNat_ofNat_of_lt' ha, UInt64.toNat_ofNat_of_lt' hb] at this
  rw [this, UInt64.toNat_or, UInt64.toNat_ofNat_of_lt' ha, UInt64.toNat_ofNat_of_lt' hb]
theorem and64 {a b : Nat} (ha : a < 2 ^ 64) (hb : b < 2 ^ 64) : IntKind.wrap .u64 ((BitVec.ofInt (IntKind.bits .u64) (a : Int) &&& BitVec.ofInt (IntKind.bits .u64) (b : Int)).toNat : Int) = ((a &&& b : Nat) : Int) := by
  have := ku64_and (UInt64.ofNat a) (UInt64.ofNat b)
  rw [UInt64.toNat_ofNat_of_lt' ha, UInt64.toNat_ofNat_of_lt' hb] at this
  rw [this, UInt64.toNat_and, UInt64.toNat_ofNat_of_lt' ha, UInt64.toNat_ofNat_of_lt' hb]
/-- a byte of a number -/
def encB (w : Nat) : UInt8 := if 127 < w then UInt8.ofNat w ||| 128 else UInt8.ofNat w
theorem or128 : ∀ x < 256, (x ||| 128) &&& 127 = x % 128 ∧ 127 < x ||| 128 := by decide +kernel
theorem encB_big {w : Nat} (h : 127 < w) : 127 < (encB w).toNat ∧ (encB w &&& 127).toNat = w % 128 := by
  have := or128 (w % 256) (by omega)
  simp only [encB, h, if_true, UInt8.toNat_and, UInt8.toNat_or, UInt8.toNat_ofNat]
  refine ⟨?_, ?_⟩
  · simpa using this.2
  · have := this.1
    simp at this ⊢; omega
theorem encB_small {w : Nat} (h : ¬ 127 < w) : (encB w).toNat = w ∧ (encB w &&& 127).toNat = w % 128 := by
  have h1 : (UInt8.ofNat w).toNat = w := by simp; omega
  have h2 : ∀ x < 128, x &&& 127 = x % 128 := by decide +kernel
  simp only [encB, h, if_false, UInt8.toNat_and, h1]
  exact ⟨trivial, h2 w (by omega)⟩
theorem putF_head (g w : Nat) (h : 127 < w → 0 < g) : putF g w = encB w :: (if 127 < w then putF (g - 1) (w >>> 7) else []) := by
  cases g with
  | zero =>
    have : ¬ 127 < w := fun x => absurd (h x) (by omega)
    simp [putF, encB, this]
  | succ g =>
    simp only [putF, encB]
    split <;> simp
theorem acc_step (u0 j : Nat) : (u0 % 2 ^ (7 * j)) ||| ((u0 / 2 ^ (7 * j)) % 128 * 2 ^ (7 * j)) = u0 % 2 ^ (7 * (j + 1)) := by
  have h1 : u0 % 2 ^ (7 * j) < 2 ^ (7 * j) := Nat.mod_lt _ (Nat.two_pow_pos _)
  have h2 := Nat.shiftLeft_add_eq_or_of_lt h1 ((u0 / 2 ^ (7 * j)) % 128)
  rw [Nat.shiftLeft_eq] at h2
  rw [Nat.or_comm, ← h2, show 7 * (j + 1) = 7 * j + 7 by omega, Nat.pow_add, Nat.mod_mul, show (2 : Nat) ^ 7 = 128 from rfl, Nat.mul_comm (2 ^ (7 * j))]
  omega
theorem nget_tr (b o m cap E : Nat) (cs : List Value) (n : Int) (rest : Txt) (h0 : 0 ≤ n) (h1 : n ≤ 2 ^ 62) (hm : m = (enc n ++ rest).length) (hz : m ≤ 2 ^ 30) (hc : ∀ j, j < m → nth cs (o + j) = nth (bv (enc n ++ rest)) j) :
    Tr Tryz.prog 152 #[vS b o m cap] (bl b E cs) (fun v => pu (v = .tuple #[i64 n, i64 ((enc n).length : Nat), i64 0]) * bl b E cs) := by
  refine tr_body Tryz.func152 (by kernel_rfl) rfl Tryz.ntmps152 rfl (L := [(0, vS b o m cap)]) (covers_cons rfl covers_nil) rfl ?_
  intro F w0 f
  generalize hu : 2 * n.toNat = u0
  have hu1 : u0 ≤ 2 ^ 63 := by omega
  have henc : enc n = putF 9 u0 := by rw [enc, hu]
  refine cc_seq ?_
  refine cc_region ?_
  refine rr_assign rfl rfl ?_
  refine rr_assign rfl rfl ?_
  refine rr_assign rfl rfl ?_
  refine rr_nil ?_
  refine cc_seq ?_
  refine cc_region ?_
  refine rr_assign rfl rfl ?_
  refine rr_nil ?_
  refine cc_seq ?_
  refine cc_seq ?_
  refine cc_region ?_
  refine rr_move rfl rfl ?_
  refine r_lens rfl rfl ?_
  refine rr_move rfl rfl ?_
  refine rr_nil ?_
  refine cc_block ?_
  refine cc_loopW (α := Nat) (fun j => [(11, i64 j), (10, i64 m), (9, vS b o m cap), (5, .int .u64 ((u0 % 2 ^ (7 * j) : Nat) : Int))]) (fun j => pu (j ≤ 9 ∧ (0 < j → u0 / 2 ^ (7 * j) ≠ 0) ∧ (enc n).length = j + (putF (9 - j) (u0 / 2 ^ (7 * j))).length ∧ (∀ i, j + i < m → nth cs (o + (j + i)) = nth (bv (putF (9 - j) (u0 / 2 ^ (7 * j)) ++ rest)) i)) * (bl b E cs * F)) (fun j => 9 - j) (0) (by ((repeat' (first | exact covers_nil | (refine covers_cons ?_ ?_; focus (first | rfl | (simp [lk, lk?]; done) | (refine congrArg (Value.int _) ?_; simp [Nat.mod_one]))))) ; (first | done | fail))) (by exact entW_pu ⟨by omega, by omega, by rw [henc]; simp, by simpa [henc] using hc⟩ entW_fr) ?_
  rintro j f
  refine CC.pu fun hh => ?_
  obtain ⟨hj, hw0, hlen, hcs⟩ := hh
  refine cc_seq ?_
  refine cc_region ?_
  refine r_int rfl rfl rfl rfl ?_
  refine rr_nil ?_
  refine cc_seq ?_
  refine cc_cond rfl (fun h12 => ?_) (fun h12 => ?_)
  · try simp only [decide_eq_true_eq, decide_eq_false_iff_not, beq_iff_eq, beq_eq_false_iff_ne, bne_iff_ne, bne_eq_false_iff_eq, ne_eq, Bool.not_eq_eq_eq_not, Bool.not_true, Bool.not_false] at h12
    generalize hw : u0 / 2 ^ (7 * j) = w at *
    have hpow : 2 ^ (7 * j) * 2 ^ (63 - 7 * j) = 2 ^ 63 := by rw [← Nat.pow_add]; congr 1; omega
    have hj9 : 127 < w → 0 < 9 - j := by
      intro hw1
      rcases Nat.lt_or_ge j 9 with h | h
      · omega
      · exfalso
        obtain rfl : j = 9 := by omega
        rw [← hw] at hw1
        have : u0 / 2 ^ (7 * 9) ≤ 2 ^ 63 / 2 ^ (7 * 9) := Nat.div_le_div_right hu1
        simp at this; omega
    have hhd := putF_head (9 - j) w hj9
    have hv : nth cs (o + (j : Int).toNat * 1) = some (.int .u8 (encB w).toNat) := by
      have := hcs 0 (by omega)
      rw [show o + (j : Int).toNat * 1 = o + (j + 0) by omega, this, hhd]; rfl
    have hacc := acc_step u0 j
    rw [hw] at hacc
    have hle : w % 128 * 2 ^ (7 * j) < 2 ^ 64 := by
      have h1 : w % 128 * 2 ^ (7 * j) ≤ u0 := by
        have : w * 2 ^ (7 * j) ≤ u0 := by rw [← hw]; exact Nat.div_mul_le_self _ _
        exact Nat.le_trans (Nat.mul_le_mul_right _ (Nat.mod_le _ _)) this
      omega
    have hle2 : u0 % 2 ^ (7 * j) < 2 ^ 64 := Nat.lt_of_le_of_lt (Nat.mod_le _ _) (by omega)
    refine cc_skip ?_
    refine cc_seq ?_
    refine cc_block ?_
    refine cc_seq ?_
    refine cc_region ?_
    refine rr_move rfl rfl ?_
    refine r_ix rfl rfl rfl (by omega) ?_
    refine r_ld rfl (ls0 rfl) hv rfl ?_
    refine rr_assign rfl rfl ?_
    refine rr_assign rfl rfl ?_
    refine rr_nil ?_
    refine cc_seq ?_
    refine cc_seq ?_
    refine cc_region ?_
    refine rr_move rfl rfl ?_
    refine r_int rfl rfl rfl rfl ?_
    refine rr_move rfl rfl ?_
    refine rr_guard rfl rfl rfl (fun hg5_2 => ?_) (fun hg5_2 => ?_)
    · refine rr_move rfl rfl ?_
      refine rr_guardY rfl rfl rfl ?_
      refine r_int rfl rfl rfl rfl ?_
      first | refine rr_pick rfl rfl ?_ | refine rr_pickb rfl rfl rfl rfl ?_
      refine rr_nil ?_
      refine cc_cond rfl (fun h21 => ?_) (fun h21 => ?_)
      · exfalso
        first
          | (simp at h21; done)
          | (have h9 : j = 9 := by (simp at hg5_2; omega)
             have h127 : ¬ 127 < w := fun x => absurd (hj9 x) (by omega)
             have := (encB_small h127).1
             simp only [decide_eq_true_eq] at h21
             have hd : u0 / 2 ^ (7 * 9) ≤ 2 ^ 63 / 2 ^ (7 * 9) := Nat.div_le_div_right hu1
             subst h9
             rw [hw] at hd
             simp at hd
             omega)
      · try simp only [decide_eq_true_eq, decide_eq_false_iff_not, beq_iff_eq, beq_eq_false_iff_ne, bne_iff_ne, bne_eq_false_iff_eq, ne_eq, Bool.not_eq_eq_eq_not, Bool.not_true, Bool.not_false] at h21
        refine cc_skip ?_
        refine cc_seq ?_
        refine cc_region ?_
        refine rr_move rfl rfl ?_
        refine rr_move rfl rfl ?_
        refine r_int rfl rfl rfl rfl ?_
        rw [show IntKind.wrap .u8 ((BitVec.ofInt (IntKind.bits .u8) ((encB w).toNat : Int) &&& BitVec.ofInt (IntKind.bits .u8) 127).toNat : Int) = ((encB w &&& 127).toNat : Int) from ku8_and _ 127]
        rw [show (encB w &&& 127).toNat = w % 128 by
          by_cases hq : 127 < w
          · exact (encB_big hq).2
          · exact (encB_small hq).2]
        refine r_conv rfl rfl ?_
        rw [show IntKind.wrap .u64 ((w % 128 : Nat) : Int) = ((w % 128 : Nat) : Int) by rw [w_u64]; omega]
        refine rr_move rfl rfl ?_
        refine r_mul rfl rfl rfl (by omega) ?_
        refine r_shl rfl rfl rfl (by omega) ?_
        rw [show IntKind.wrap .u64 (((w % 128 : Nat) : Int) * 2 ^ (min ((7 : Int) * (j : Int)).toNat (IntKind.bits .u64))) = ((w % 128 * 2 ^ (7 * j) : Nat) : Int) by
          rw [show min ((7 : Int) * (j : Int)).toNat (IntKind.bits .u64) = 7 * j by simp only [IntKind.bits]; omega, w_u64]
          rw [show ((w % 128 : Nat) : Int) * 2 ^ (7 * j) = ((w % 128 * 2 ^ (7 * j) : Nat) : Int) by push_cast; rfl]
          omega]
        refine r_int rfl rfl rfl rfl ?_
        rw [or64 hle2 hle, hacc]
        refine rr_assign rfl rfl ?_
        refine rr_nil ?_
        refine cc_seq ?_
        refine cc_seq ?_
        refine cc_region ?_
        refine rr_move rfl rfl ?_
        refine r_int rfl rfl rfl rfl ?_
        refine rr_nil ?_
        refine cc_cond rfl (fun h31 => ?_) (fun h31 => ?_)
        · try simp only [decide_eq_true_eq, decide_eq_false_iff_not, beq_iff_eq, beq_eq_false_iff_ne, bne_iff_ne, bne_eq_false_iff_eq, ne_eq, Bool.not_eq_eq_eq_not, Bool.not_true, Bool.not_false] at h31
          have hbig : 127 < w := by
            rcases Nat.lt_or_ge 127 w with h | h
            · exact h
            · have := (encB_small (w := w) (by omega)).1; omega
          refine cc_exit ?_
          refine cc_region ?_
          refine r_add rfl rfl rfl (by omega) ?_
          refine rr_move rfl rfl ?_
          refine rr_nil ?_
          refine ⟨j + 1, by omega, by ((repeat' (first | exact covers_nil | (refine covers_cons ?_ ?_; focus (first | rfl | (simp [lk, lk?]; done))))) ; (first | done | fail)), entW_pu ⟨by omega, fun _ => ?_, ?_, fun i hi => ?_⟩ entW_fr⟩
          · rw [show 7 * (j + 1) = 7 * j + 7 by omega, Nat.pow_add, ← Nat.div_div_eq_div_mul, hw]; omega
          · rw [show 7 * (j + 1) = 7 * j + 7 by omega, Nat.pow_add, ← Nat.div_div_eq_div_mul, hw, hlen, hhd, if_pos hbig, Nat.shiftRight_eq_div_pow, show 9 - (j + 1) = 9 - j - 1 by omega]
            simp; omega
          · have := hcs (i + 1) (by omega)
            rw [show o + (j + 1 + i) = o + (j + (i + 1)) by omega, this, hhd, if_pos hbig, show 7 * (j + 1) = 7 * j + 7 by omega, Nat.pow_add, ← Nat.div_div_eq_div_mul, hw, Nat.shiftRight_eq_div_pow, show 9 - (j + 1) = 9 - j - 1 by omega]
            rfl
        · try simp only [decide_eq_true_eq, decide_eq_false_iff_not, beq_iff_eq, beq_eq_false_iff_ne, bne_iff_ne, bne_eq_false_iff_eq, ne_eq, Bool.not_eq_eq_eq_not, Bool.not_true, Bool.not_false] at h31
          have hsm : ¬ 127 < w := fun h => by have := (encB_big h).1; omega
          have hew := (encB_small hsm).1
          have hu2 : u0 % 2 ^ (7 * (j + 1)) = u0 := by
            apply Nat.mod_eq_of_lt
            have := Nat.lt_mul_div_succ u0 (Nat.two_pow_pos (7 * j))
            rw [hw] at this
            rw [show 7 * (j + 1) = 7 * j + 7 by omega, Nat.pow_add]
            exact Nat.lt_of_lt_of_le this (Nat.mul_le_mul_left _ (by omega))
          rw [hu2]
          have hlen1 : (enc n).length = j + 1 := by rw [hlen, hhd]; simp [hsm]
          refine cc_skip ?_
          refine cc_seq ?_
          refine cc_seq ?_
          refine cc_region ?_
          refine rr_move rfl rfl ?_
          refine r_int rfl rfl rfl rfl ?_
          refine rr_move rfl rfl ?_
          refine rr_guard rfl rfl rfl (fun hg9_2 => ?_) (fun hg9_2 => ?_)
          · refine rr_move rfl rfl ?_
            refine rr_guardY rfl rfl rfl ?_
            refine r_int rfl rfl rfl rfl ?_
            first | refine rr_pick rfl rfl ?_ | refine rr_pickb rfl rfl rfl rfl ?_
            refine rr_nil ?_
            refine cc_cond rfl (fun h37 => ?_) (fun h37 => ?_)
            · exfalso
              first
                | (simp at h37; done)
                | (have hj0 : 0 < j := by (simp at hg9_2; omega)
                   have := hw0 hj0
                   simp only [beq_iff_eq] at h37
                   omega)
            · try simp only [decide_eq_true_eq, decide_eq_false_iff_not, beq_iff_eq, beq_eq_false_iff_ne, bne_iff_ne, bne_eq_false_iff_eq, ne_eq, Bool.not_eq_eq_eq_not, Bool.not_true, Bool.not_false] at h37
              refine cc_skip ?_
              refine cc_seq ?_
              refine cc_region ?_
              refine rr_move rfl rfl ?_
              refine r_shr rfl rfl rfl (by omega) ?_
              rw [show Int.fdiv ((u0 : Nat) : Int) (2 ^ (min (Int.toNat 1) (IntKind.bits .u64))) = n by
                rw [show min (Int.toNat 1) (IntKind.bits .u64) = 1 from rfl, Int.fdiv_eq_ediv_of_nonneg _ (by decide)]
                omega]
              refine r_conv rfl rfl ?_
              rw [wrap_i64 (by omega)]
              refine rr_assign rfl rfl ?_
              refine rr_nil ?_
              refine cc_seq ?_
              refine cc_seq ?_
              refine cc_region ?_
              refine rr_move rfl rfl ?_
              refine r_int rfl rfl rfl rfl ?_
              rw [show IntKind.wrap .u64 ((BitVec.ofInt (IntKind.bits .u64) ((u0 : Nat) : Int) &&& BitVec.ofInt (IntKind.bits .u64) 1).toNat : Int) = 0 by
                rw [show (1 : Int) = ((1 : Nat) : Int) from rfl, and64 (by omega) (by decide), Nat.and_one_is_mod]
                omega]
              refine r_int rfl rfl rfl rfl ?_
              refine rr_nil ?_
              refine cc_condFp rfl (by rfl) ?_
              refine cc_skip ?_
              refine cc_seq ?_
              refine cc_region ?_
              refine rr_move rfl rfl ?_
              refine rr_move rfl rfl ?_
              refine r_add rfl rfl rfl (by omega) ?_
              refine rr_assign rfl rfl ?_
              refine rr_assign rfl rfl ?_
              refine rr_assign rfl rfl ?_
              refine rr_nil ?_
              refine cc_ret ?_
              exact ⟨_, rfl, entW_pu2 (by rw [hlen1]; rfl) entW_fr⟩
          · refine rr_guardN rfl rfl rfl rfl ?_
            first | refine rr_pick rfl rfl ?_ | refine rr_pickb rfl rfl rfl rfl ?_
            refine rr_nil ?_
            refine cc_cond rfl (fun h37 => ?_) (fun h37 => ?_)
            · exfalso
              first
                | (simp at h37; done)
                | (have hj0 : 0 < j := by (simp at hg9_2; omega)
                   have := hw0 hj0
                   simp only [beq_iff_eq] at h37
                   omega)
            · try simp only [decide_eq_true_eq, decide_eq_false_iff_not, beq_iff_eq, beq_eq_false_iff_ne, bne_iff_ne, bne_eq_false_iff_eq, ne_eq, Bool.not_eq_eq_eq_not, Bool.not_true, Bool.not_false] at h37
              refine cc_skip ?_
              refine cc_seq ?_
              refine cc_region ?_
              refine rr_move rfl rfl ?_
              refine r_shr rfl rfl rfl (by omega) ?_
              rw [show Int.fdiv ((u0 : Nat) : Int) (2 ^ (min (Int.toNat 1) (IntKind.bits .u64))) = n by
                rw [show min (Int.toNat 1) (IntKind.bits .u64) = 1 from rfl, Int.fdiv_eq_ediv_of_nonneg _ (by decide)]
                omega]
              refine r_conv rfl rfl ?_
              rw [wrap_i64 (by omega)]
              refine rr_assign rfl rfl ?_
              refine rr_nil ?_
              refine cc_seq ?_
              refine cc_seq ?_
              refine cc_region ?_
              refine rr_move rfl rfl ?_
              refine r_int rfl rfl rfl rfl ?_
              rw [show IntKind.wrap .u64 ((BitVec.ofInt (IntKind.bits .u64) ((u0 : Nat) : Int) &&& BitVec.ofInt (IntKind.bits .u64) 1).toNat : Int) = 0 by
                rw [show (1 : Int) = ((1 : Nat) : Int) from rfl, and64 (by omega) (by decide), Nat.and_one_is_mod]
                omega]
              refine r_int rfl rfl rfl rfl ?_
              refine rr_nil ?_
              refine cc_condFp rfl (by rfl) ?_
              refine cc_skip ?_
              refine cc_seq ?_
              refine cc_region ?_
              refine rr_move rfl rfl ?_
              refine rr_move rfl rfl ?_
              refine r_add rfl rfl rfl (by omega) ?_
              refine rr_assign rfl rfl ?_
              refine rr_assign rfl rfl ?_
              refine rr_assign rfl rfl ?_
              refine rr_nil ?_
              refine cc_ret ?_
              exact ⟨_, rfl, entW_pu2 (by rw [hlen1]; rfl) entW_fr⟩
    · refine rr_guardN rfl rfl rfl rfl ?_
      first | refine rr_pick rfl rfl ?_ | refine rr_pickb rfl rfl rfl rfl ?_
      refine rr_nil ?_
      refine cc_cond rfl (fun h21 => ?_) (fun h21 => ?_)
      · exfalso
        first
          | (simp at h21; done)
          | (have h9 : j = 9 := by (simp at hg5_2; omega)
             have h127 : ¬ 127 < w := fun x => absurd (hj9 x) (by omega)
             have := (encB_small h127).1
             simp only [decide_eq_true_eq] at h21
             have hd : u0 / 2 ^ (7 * 9) ≤ 2 ^ 63 / 2 ^ (7 * 9) := Nat.div_le_div_right hu1
             subst h9
             rw [hw] at hd
             simp at hd
             omega)
      · try simp only [decide_eq_true_eq, decide_eq_false_iff_not, beq_iff_eq, beq_eq_false_iff_ne, bne_iff_ne, bne_eq_false_iff_eq, ne_eq, Bool.not_eq_eq_eq_not, Bool.not_true, Bool.not_false] at h21
        refine cc_skip ?_
        refine cc_seq ?_
        refine cc_region ?_
        refine rr_move rfl rfl ?_
        refine rr_move rfl rfl ?_
        refine r_int rfl rfl rfl rfl ?_
        rw [show IntKind.wrap .u8 ((BitVec.ofInt (IntKind.bits .u8) ((encB w).toNat : Int) &&& BitVec.ofInt (IntKind.bits .u8) 127).toNat : Int) = ((encB w &&& 127).toNat : Int) from ku8_and _ 127]
        rw [show (encB w &&& 127).toNat = w % 128 by
          by_cases hq : 127 < w
          · exact (encB_big hq).2
          · exact (encB_small hq).2]
        refine r_conv rfl rfl ?_
        rw [show IntKind.wrap .u64 ((w % 128 : Nat) : Int) = ((w % 128 : Nat) : Int) by rw [w_u64]; omega]
        refine rr_move rfl rfl ?_
        refine r_mul rfl rfl rfl (by omega) ?_
        refine r_shl rfl rfl rfl (by omega) ?_
        rw [show IntKind.wrap .u64 (((w % 128 : Nat) : Int) * 2 ^ (min ((7 : Int) * (j : Int)).toNat (IntKind.bits .u64))) = ((w % 128 * 2 ^ (7 * j) : Nat) : Int) by
          rw [show min ((7 : Int) * (j : Int)).toNat (IntKind.bits .u64) = 7 * j by simp only [IntKind.bits]; omega, w_u64]
          rw [show ((w % 128 : Nat) : Int) * 2 ^ (7 * j) = ((w % 128 * 2 ^ (7 * j) : Nat) : Int) by push_cast; rfl]
          omega]
        refine r_int rfl rfl rfl rfl ?_
        rw [or64 hle2 hle, hacc]
        refine rr_assign rfl rfl ?_
        refine rr_nil ?_
        refine cc_seq ?_
        refine cc_seq ?_
        refine cc_region ?_
        refine rr_move rfl rfl ?_
        refine r_int rfl rfl rfl rfl ?_
        refine rr_nil ?_
        refine cc_cond rfl (fun h31 => ?_) (fun h31 => ?_)
        · try simp only [decide_eq_true_eq, decide_eq_false_iff_not, beq_iff_eq, beq_eq_false_iff_ne, bne_iff_ne, bne_eq_false_iff_eq, ne_eq, Bool.not_eq_eq_eq_not, Bool.not_true, Bool.not_false] at h31
          have hbig : 127 < w := by
            rcases Nat.lt_or_ge 127 w with h | h
            · exact h
            · have := (encB_small (w := w) (by omega)).1; omega
          refine cc_exit ?_
          refine cc_region ?_
          refine r_add rfl rfl rfl (by omega) ?_
          refine rr_move rfl rfl ?_
          refine rr_nil ?_
          refine ⟨j + 1, by omega, by ((repeat' (first | exact covers_nil | (refine covers_cons ?_ ?_; focus (first | rfl | (simp [lk, lk?]; done))))) ; (first | done | fail)), entW_pu ⟨by omega, fun _ => ?_, ?_, fun i hi => ?_⟩ entW_fr⟩
          · rw [show 7 * (j + 1) = 7 * j + 7 by omega, Nat.pow_add, ← Nat.div_div_eq_div_mul, hw]; omega
          · rw [show 7 * (j + 1) = 7 * j + 7 by omega, Nat.pow_add, ← Nat.div_div_eq_div_mul, hw, hlen, hhd, if_pos hbig, Nat.shiftRight_eq_div_pow, show 9 - (j + 1) = 9 - j - 1 by omega]
            simp; omega
          · have := hcs (i + 1) (by omega)
            rw [show o + (j + 1 + i) = o + (j + (i + 1)) by omega, this, hhd, if_pos hbig, show 7 * (j + 1) = 7 * j + 7 by omega, Nat.pow_add, ← Nat.div_div_eq_div_mul, hw, Nat.shiftRight_eq_div_pow, show 9 - (j + 1) = 9 - j - 1 by omega]
            rfl
        · try simp only [decide_eq_true_eq, decide_eq_false_iff_not, beq_iff_eq, beq_eq_false_iff_ne, bne_iff_ne, bne_eq_false_iff_eq, ne_eq, Bool.not_eq_eq_eq_not, Bool.not_true, Bool.not_false] at h31
          have hsm : ¬ 127 < w := fun h => by have := (encB_big h).1; omega
          have hew := (encB_small hsm).1
          have hu2 : u0 % 2 ^ (7 * (j + 1)) = u0 := by
            apply Nat.mod_eq_of_lt
            have := Nat.lt_mul_div_succ u0 (Nat.two_pow_pos (7 * j))
            rw [hw] at this
            rw [show 7 * (j + 1) = 7 * j + 7 by omega, Nat.pow_add]
            exact Nat.lt_of_lt_of_le this (Nat.mul_le_mul_left _ (by omega))
          rw [hu2]
          have hlen1 : (enc n).length = j + 1 := by rw [hlen, hhd]; simp [hsm]
          refine cc_skip ?_
          refine cc_seq ?_
          refine cc_seq ?_
          refine cc_region ?_
          refine rr_move rfl rfl ?_
          refine r_int rfl rfl rfl rfl ?_
          refine rr_move rfl rfl ?_
          refine rr_guard rfl rfl rfl (fun hg9_2 => ?_) (fun hg9_2 => ?_)
          · refine rr_move rfl rfl ?_
            refine rr_guardY rfl rfl rfl ?_
            refine r_int rfl rfl rfl rfl ?_
            first | refine rr_pick rfl rfl ?_ | refine rr_pickb rfl rfl rfl rfl ?_
            refine rr_nil ?_
            refine cc_cond rfl (fun h37 => ?_) (fun h37 => ?_)
            · exfalso
              first
                | (simp at h37; done)
                | (have hj0 : 0 < j := by (simp at hg9_2; omega)
                   have := hw0 hj0
                   simp only [beq_iff_eq] at h37
                   omega)
            · try simp only [decide_eq_true_eq, decide_eq_false_iff_not, beq_iff_eq, beq_eq_false_iff_ne, bne_iff_ne, bne_eq_false_iff_eq, ne_eq, Bool.not_eq_eq_eq_not, Bool.not_true, Bool.not_false] at h37
              refine cc_skip ?_
              refine cc_seq ?_
              refine cc_region ?_
              refine rr_move rfl rfl ?_
              refine r_shr rfl rfl rfl (by omega) ?_
              rw [show Int.fdiv ((u0 : Nat) : Int) (2 ^ (min (Int.toNat 1) (IntKind.bits .u64))) = n by
                rw [show min (Int.toNat 1) (IntKind.bits .u64) = 1 from rfl, Int.fdiv_eq_ediv_of_nonneg _ (by decide)]
                omega]
              refine r_conv rfl rfl ?_
              rw [wrap_i64 (by omega)]
              refine rr_assign rfl rfl ?_
              refine rr_nil ?_
              refine cc_seq ?_
              refine cc_seq ?_
              refine cc_region ?_
              refine rr_move rfl rfl ?_
              refine r_int rfl rfl rfl rfl ?_
              rw [show IntKind.wrap .u64 ((BitVec.ofInt (IntKind.bits .u64) ((u0 : Nat) : Int) &&& BitVec.ofInt (IntKind.bits .u64) 1).toNat : Int) = 0 by
                rw [show (1 : Int) = ((1 : Nat) : Int) from rfl, and64 (by omega) (by decide), Nat.and_one_is_mod]
                omega]
              refine r_int rfl rfl rfl rfl ?_
              refine rr_nil ?_
              refine cc_condFp rfl (by rfl) ?_
              refine cc_skip ?_
              refine cc_seq ?_
              refine cc_region ?_
              refine rr_move rfl rfl ?_
              refine rr_move rfl rfl ?_
              refine r_add rfl rfl rfl (by omega) ?_
              refine rr_assign rfl rfl ?_
              refine rr_assign rfl rfl ?_
              refine rr_assign rfl rfl ?_
              refine rr_nil ?_
              refine cc_ret ?_
              exact ⟨_, rfl, entW_pu2 (by rw [hlen1]; rfl) entW_fr⟩
          · refine rr_guardN rfl rfl rfl rfl ?_
            first | refine rr_pick rfl rfl ?_ | refine rr_pickb rfl rfl rfl rfl ?_
            refine rr_nil ?_
            refine cc_cond rfl (fun h37 => ?_) (fun h37 => ?_)
            · exfalso
              first
                | (simp at h37; done)
                | (have hj0 : 0 < j := by (simp at hg9_2; omega)
                   have := hw0 hj0
                   simp only [beq_iff_eq] at h37
                   omega)
            · try simp only [decide_eq_true_eq, decide_eq_false_iff_not, beq_iff_eq, beq_eq_false_iff_ne, bne_iff_ne, bne_eq_false_iff_eq, ne_eq, Bool.not_eq_eq_eq_not, Bool.not_true, Bool.not_false] at h37
              refine cc_skip ?_
              refine cc_seq ?_
              refine cc_region ?_
              refine rr_move rfl rfl ?_
              refine r_shr rfl rfl rfl (by omega) ?_
              rw [show Int.fdiv ((u0 : Nat) : Int) (2 ^ (min (Int.toNat 1) (IntKind.bits .u64))) = n by
                rw [show min (Int.toNat 1) (IntKind.bits .u64) = 1 from rfl, Int.fdiv_eq_ediv_of_nonneg _ (by decide)]
                omega]
              refine r_conv rfl rfl ?_
              rw [wrap_i64 (by omega)]
              refine rr_assign rfl rfl ?_
              refine rr_nil ?_
              refine cc_seq ?_
              refine cc_seq ?_
              refine cc_region ?_
              refine rr_move rfl rfl ?_
              refine r_int rfl rfl rfl rfl ?_
              rw [show IntKind.wrap .u64 ((BitVec.ofInt (IntKind.bits .u64) ((u0 : Nat) : Int) &&& BitVec.ofInt (IntKind.bits .u64) 1).toNat : Int) = 0 by
                rw [show (1 : Int) = ((1 : Nat) : Int) from rfl, and64 (by omega) (by decide), Nat.and_one_is_mod]
                omega]
              refine r_int rfl rfl rfl rfl ?_
              refine rr_nil ?_
              refine cc_condFp rfl (by rfl) ?_
              refine cc_skip ?_
              refine cc_seq ?_
              refine cc_region ?_
              refine rr_move rfl rfl ?_
              refine rr_move rfl rfl ?_
              refine r_add rfl rfl rfl (by omega) ?_
              refine rr_assign rfl rfl ?_
              refine rr_assign rfl rfl ?_
              refine rr_assign rfl rfl ?_
              refine rr_nil ?_
              refine cc_ret ?_
              exact ⟨_, rfl, entW_pu2 (by rw [hlen1]; rfl) entW_fr⟩
  · exfalso
    simp only [decide_eq_false_iff_not] at h12
    rw [List.length_append, hlen] at hm
    have := (putF_len (9 - j) (u0 / 2 ^ (7 * j))).1
    omega
theorem ngetT_tr (b o m cap E : Nat) (cs : List Value) (t rest : Txt) (h1 : t.length ≤ 65536) (hm : m = (encT t ++ rest).length) (hz : m ≤ 2 ^ 30) (ho : o + m ≤ cs.length) (hcap : m ≤ cap) (hc : (cs.drop o).take m = bv (encT t ++ rest)) :
    Tr Tryz.prog 199 #[vS b o m cap] (bl b E cs) (fun v => pu (v = .tuple #[str t, i64 ((encT t).length : Nat), i64 0]) * bl b E cs) := by
  refine tr_body Tryz.func199 (by kernel_rfl) rfl Tryz.ntmps199 rfl (L := [(0, vS b o m cap)]) (covers_cons rfl covers_nil) rfl ?_
  intro F w0 f
  have hcs : ∀ j, j < m → nth cs (o + j) = nth (bv (enc t.length ++ (t ++ rest))) j := by
    intro j hj
    have := congrArg (fun z => z[j]?) hc
    simp only [List.getElem?_take_of_lt hj, List.getElem?_drop] at this
    rw [nth_eq, nth_eq, this, encT, List.append_assoc]
  have hm1 : m = (enc t.length ++ (t ++ rest)).length := by rw [hm, encT, List.append_assoc]
  have hel : (encT t).length = (enc t.length).length + t.length := by simp [encT]
  have hm2 : m = (enc t.length).length + t.length + rest.length := by rw [hm1]; simp; omega
  refine cc_seq ?_
  refine cc_region ?_
  refine rr_assign rfl rfl ?_
  refine rr_assign rfl rfl ?_
  refine rr_assign rfl rfl ?_
  refine rr_nil ?_
  refine cc_seq ?_
  refine cc_region ?_
  refine rr_move rfl rfl ?_
  refine rr_call rfl rfl rfl rfl (nget_tr b o m cap E cs t.length (t ++ rest) (by omega) (by omega) hm1 hz hcs) inferInstance rfl (sd0 rfl) (fun _ => sd0 rfl) rfl (fun v => ?_)
  first | refine RR.pu2 ?_ | refine RR.pu ?_
  rintro rfl
  refine rr_move rfl rfl ?_
  refine rr_extract rfl rfl rfl ?_
  refine rr_extract rfl rfl rfl ?_
  refine rr_extract rfl rfl rfl ?_
  refine rr_assign rfl rfl ?_
  refine rr_assign rfl rfl ?_
  refine rr_assign rfl rfl ?_
  refine rr_nil ?_
  refine cc_seq ?_
  refine cc_block ?_
  refine cc_seq ?_
  refine cc_region ?_
  refine rr_move rfl rfl ?_
  refine r_int rfl rfl rfl rfl ?_
  refine rr_assign rfl rfl ?_
  refine rr_nil ?_
  refine cc_condF rfl ?_
  refine cc_seq ?_
  refine cc_region ?_
  refine rr_move rfl rfl ?_
  refine r_int rfl rfl rfl rfl ?_
  rw [show decide ((t.length : Int) < 0) = false by simp]
  refine rr_move rfl rfl ?_
  refine rr_guardY rfl rfl rfl ?_
  refine rr_move rfl rfl ?_
  refine rr_guardY rfl rfl rfl ?_
  refine r_int rfl rfl rfl rfl ?_
  rw [show decide ((65536 : Int) < (t.length : Int)) = false by simp; omega]
  first | refine rr_pick rfl rfl ?_ | refine rr_pickb rfl rfl rfl rfl ?_
  refine rr_assign rfl rfl ?_
  refine rr_nil ?_
  refine cc_condF rfl ?_
  refine cc_seq ?_
  refine cc_region ?_
  refine rr_move rfl rfl ?_
  refine rr_move rfl rfl ?_
  refine r_lens rfl rfl ?_
  refine rr_move rfl rfl ?_
  refine r_sub rfl rfl rfl (by omega) ?_
  refine r_int rfl rfl rfl rfl ?_
  rw [show decide ((m : Int) - ((enc t.length).length : Int) < (t.length : Int)) = false by simp; omega]
  refine rr_assign rfl rfl ?_
  refine rr_nil ?_
  refine cc_condF rfl ?_
  refine cc_skip ?_
  refine cc_seq ?_
  refine cc_region ?_
  refine rr_move rfl rfl ?_
  refine rr_move rfl rfl ?_
  refine rr_move rfl rfl ?_
  refine rr_move rfl rfl ?_
  refine r_add rfl rfl rfl (by omega) ?_
  refine r_sls (lo := (enc t.length).length) (hi := (enc t.length).length + t.length) rfl ⟨_, rfl⟩ ⟨_, rfl⟩ rfl (by omega) (by omega) (by omega) ?_
  have hdt : (cs.drop (o + (enc t.length).length * 1)).take ((enc t.length).length + t.length - (enc t.length).length) = bv t := by
    have h2 := congrArg (fun z => (z.drop (enc t.length).length).take t.length) hc
    simp only [List.drop_take, List.drop_drop, List.take_take, encT, bv_append, List.append_assoc] at h2
    rw [show (enc t.length).length + t.length - (enc t.length).length = t.length by omega, Nat.mul_one]
    rw [Nat.min_eq_left (by omega)] at h2
    rw [h2, List.drop_left' (by simp), List.take_left' (by simp)]
  obtain ⟨o', he, h5, h6⟩ : ∃ o', (if cap = (enc t.length).length then (some ⟨b, o, none⟩ : Option Addr) else some ⟨b, o + (enc t.length).length * 1, none⟩) = some ⟨b, o', none⟩ ∧ (cs.drop o').take ((enc t.length).length + t.length - (enc t.length).length) = bv t ∧ o' + ((enc t.length).length + t.length - (enc t.length).length) ≤ cs.length := by
    split
    · rename_i hce
      have ht0 : t = [] := List.length_eq_zero_iff.1 (by omega)
      exact ⟨o, rfl, by rw [ht0]; simp [bv], by rw [ht0]; simp; omega⟩
    · exact ⟨_, rfl, hdt, by omega⟩
  rw [he]
  refine r_tostr (bs := t) rfl inferInstance h5 h6 rfl (sd0 rfl) ?_
  refine rr_move rfl rfl ?_
  refine rr_move rfl rfl ?_
  refine r_add rfl rfl rfl (by omega) ?_
  refine rr_assign rfl rfl ?_
  refine rr_assign rfl rfl ?_
  refine rr_assign rfl rfl ?_
  refine rr_nil ?_
  refine cc_ret ?_
  exact ⟨_, rfl, entW_pu2 (by rw [hel]; simp) entW_fr⟩
end Go.Proofs.YtoiakcgdkegncaaGreat

namespace Go.Proofs.YtoiakcgdkegncaaGreat
open Go.RowKit Ice
attribute [local irreducible] CC RR Tr enc
theorem encs_split {ns : List Int} {j : Nat} {n : Int} (h : ns[j]? = some n) : encs ns = encs (ns.take j) ++ (enc n ++ encs (ns.drop (j + 1))) := by
  have : ns = ns.take j ++ (n :: ns.drop (j + 1)) := by rw [← drop_cons_get h, List.take_append_drop]
  conv => lhs; rw [this]
  simp [encs]
theorem nAll_tr (b o m cap E p c2 : Nat) (cs : List Value) (ns : List Int) (ps : List (Nat × Nat)) (rest : Txt) (A : Nat → SL) (hps : ps.length = ns.length) (hns : ∀ n ∈ ns, 0 ≤ n ∧ n ≤ 2 ^ 62) (hm : m = (encs ns ++ rest).length) (hz : m ≤ 2 ^ 30) (hcap : m ≤ cap) (hl : ns.length ≤ 2 ^ 20)
    (hc : ∀ j, j < m → nth cs (o + j) = nth (bv (encs ns ++ rest)) j)
    (hA : ∀ (i : Nat) (q : Nat × Nat) (n : Int), ps[i]? = some q → ns[i]? = some n → ∃ c1 c2 T, Has (A i) q.1 (.cells (List.toArray c1) T (0, 0)) ∧ setL c1 q.2 (i64 n) = some c2 ∧ Upd (A i) q.1 (.cells c1.toArray T (0, 0)) (.cells c2.toArray T (0, 0)) (A (i + 1))) :
    Tr Tryz.prog 200 #[vS b o m cap, .slice (some ⟨p, 0, none⟩) ns.length c2] (bl b E cs * (bl p 303 (ps.map fun q => .pointer (some ⟨q.1, q.2, none⟩)) * A 0))
      (fun v => pu (v = .tuple #[i64 ((encs ns).length : Nat), i64 0]) * (bl b E cs * (bl p 303 (ps.map fun q => .pointer (some ⟨q.1, q.2, none⟩)) * A ns.length))) := by
  refine tr_body Tryz.func200 (by kernel_rfl) rfl Tryz.ntmps200 rfl (L := [(0, vS b o m cap), (1, .slice (some ⟨p, 0, none⟩) ns.length c2)]) (covers_cons rfl (covers_cons rfl covers_nil)) rfl ?_
  intro F w0 f
  refine cc_seq ?_
  refine cc_region ?_
  refine rr_assign rfl rfl ?_
  refine rr_assign rfl rfl ?_
  refine rr_nil ?_
  refine cc_seq ?_
  refine cc_region ?_
  refine rr_assign rfl rfl ?_
  refine rr_nil ?_
  refine cc_seq ?_
  refine cc_seq ?_
  refine cc_region ?_
  refine rr_move rfl rfl ?_
  refine r_lens rfl rfl ?_
  refine rr_move rfl rfl ?_
  refine rr_nil ?_
  refine cc_block ?_
  refine cc_loopW (α := Nat) (fun j => [(14, i64 j), (13, i64 ns.length), (12, .slice (some ⟨p, 0, none⟩) ns.length c2), (0, vS b o m cap), (6, i64 ((encs (ns.take j)).length : Nat))]) (fun j => pu (j ≤ ns.length) * (bl b E cs * (bl p 303 (ps.map fun q => .pointer (some ⟨q.1, q.2, none⟩)) * A j) * F)) (fun j => ns.length - j) (0) (by ((repeat' (first | exact covers_nil | (refine covers_cons ?_ ?_; focus (first | rfl | (simp [lk, lk?]; done))))) ; (first | done | fail))) (by exact entW_pu (by omega) entW_fr) ?_
  rintro j f
  refine CC.pu fun hj => ?_
  refine cc_seq ?_
  refine cc_region ?_
  refine r_int rfl rfl rfl rfl ?_
  refine rr_nil ?_
  refine cc_seq ?_
  refine cc_cond rfl (fun h15 => ?_) (fun h15 => ?_)
  · try simp only [decide_eq_true_eq, decide_eq_false_iff_not, beq_iff_eq, beq_eq_false_iff_ne, bne_iff_ne, bne_eq_false_iff_eq, ne_eq, Bool.not_eq_eq_eq_not, Bool.not_true, Bool.not_false] at h15
    obtain ⟨n, hn⟩ := lt_get (l := ns) (j := j) (by omega)
    obtain ⟨q, hq⟩ := lt_get (l := ps) (j := j) (by omega)
    have hnb := hns n (get_mem hn)
    have hsp := encs_split hn
    have hel := enc_len n
    have hlen : m = (encs (ns.take j)).length + ((enc n).length + ((encs (ns.drop (j + 1))).length + rest.length)) := by rw [hm, hsp]; simp [Nat.add_assoc]
    have htk : (encs (ns.take (j + 1))).length = (encs (ns.take j)).length + (enc n).length := by rw [encs_take hn]; simp
    obtain ⟨c1, c2', T, g1, g2, g3⟩ := hA j q n hq hn
    haveI : HasI (A j) q.1 (.cells c1.toArray T (0, 0)) := ⟨g1⟩
    haveI : UpdI (A j) q.1 (.cells c1.toArray T (0, 0)) (.cells c2'.toArray T (0, 0)) (A (j + 1)) := ⟨g3⟩
    refine cc_skip ?_
    refine cc_seq ?_
    refine cc_block ?_
    refine cc_seq ?_
    refine cc_region ?_
    refine r_ix rfl rfl rfl (by omega) ?_
    refine r_ld rfl (ls0 rfl) (v := .pointer (some ⟨q.1, q.2, none⟩)) (by rw [show 0 + (j : Int).toNat * 1 = j by omega]; exact nth_map hq) rfl ?_
    refine rr_assign rfl rfl ?_
    refine rr_nil ?_
    refine cc_seq ?_
    refine cc_region ?_
    refine rr_move rfl rfl ?_
    refine rr_move rfl rfl ?_
    refine r_sls (lo := (encs (ns.take j)).length) rfl ⟨_, rfl⟩ rfl rfl (by omega) (by omega) (by omega) ?_
    rw [if_neg (by omega)]
    refine rr_call rfl rfl rfl rfl (nget_tr b (o + (encs (ns.take j)).length * 1) (m - (encs (ns.take j)).length) (cap - (encs (ns.take j)).length) E cs n (encs (ns.drop (j + 1)) ++ rest) hnb.1 hnb.2 (by simp; omega) (by omega) (fun i hi => by
            have := hc ((encs (ns.take j)).length + i) (by omega)
            rw [show o + (encs (ns.take j)).length * 1 + i = o + ((encs (ns.take j)).length + i) by omega, this, hsp]
            simp only [List.append_assoc]
            exact nth_app rfl)) inferInstance rfl (sd0 rfl) (fun _ => sd0 rfl) rfl (fun v => ?_)
    first | refine RR.pu2 ?_ | refine RR.pu ?_
    rintro rfl
    refine rr_move rfl rfl ?_
    refine rr_extract rfl rfl rfl ?_
    refine rr_extract rfl rfl rfl ?_
    refine rr_extract rfl rfl rfl ?_
    refine rr_assign rfl rfl ?_
    refine rr_assign rfl rfl ?_
    refine rr_assign rfl rfl ?_
    refine rr_nil ?_
    refine cc_seq ?_
    refine cc_seq ?_
    refine cc_region ?_
    refine rr_move rfl rfl ?_
    refine r_int rfl rfl rfl rfl ?_
    refine rr_nil ?_
    refine cc_condF rfl ?_
    refine cc_skip ?_
    refine cc_seq ?_
    refine cc_seq ?_
    refine cc_region ?_
    refine rr_move rfl rfl ?_
    refine r_pnil rfl rfl rfl ?_
    refine rr_nil ?_
    refine cc_condT rfl ?_
    refine cc_region ?_
    refine rr_move rfl rfl ?_
    refine rr_move rfl rfl ?_
    refine rr_nilCheck rfl rfl ?_
    refine r_st rfl rfl rfl g2 (sd0 rfl) (sd0 rfl) ?_
    refine rr_nil ?_
    refine cc_region ?_
    refine rr_move rfl rfl ?_
    refine rr_move rfl rfl ?_
    refine r_add rfl rfl rfl (by omega) ?_
    refine rr_assign rfl rfl ?_
    refine rr_nil ?_
    refine cc_region ?_
    refine r_add rfl rfl rfl (by omega) ?_
    refine rr_move rfl rfl ?_
    refine rr_nil ?_
    exact ⟨j + 1, by omega, by ((repeat' (first | exact covers_nil | (refine covers_cons ?_ ?_; focus (first | rfl | (simp [lk, lk?]; done) | (refine congrArg (Value.int _) ?_; rw [htk]; simp))))) ; (first | done | fail)), entW_pu (by omega) entW_fr⟩
  · try simp only [decide_eq_true_eq, decide_eq_false_iff_not, beq_iff_eq, beq_eq_false_iff_ne, bne_iff_ne, bne_eq_false_iff_eq, ne_eq, Bool.not_eq_eq_eq_not, Bool.not_true, Bool.not_false] at h15
    obtain rfl : j = ns.length := by omega
    rw [List.take_length]
    refine cc_exit ?_
    refine cc_seq ?_
    refine cc_region ?_
    refine rr_move rfl rfl ?_
    refine rr_assign rfl rfl ?_
    refine rr_assign rfl rfl ?_
    refine rr_nil ?_
    refine cc_ret ?_
    exact ⟨_, rfl, entW_pu2 rfl entW_fr⟩
theorem bequal_tr (u : Value) (x : Txt) (b o m cap E : Nat) (cs : List Value) (y : Txt) (hx : 0 < x.length) (hm : o + m ≤ cs.length) (hc : (cs.drop o).take m = bv y) :
    Tr Tryz.prog 201 #[u, vS b o m cap] (slR u 5 1 x.length (bv x) * bl b E cs) (fun v => pu (v = .bool (x == y)) * (slR u 5 1 x.length (bv x) * bl b E cs)) := by
  refine tr_body Tryz.func201 (by kernel_rfl) rfl Tryz.ntmps201 rfl (L := [(0, u), (1, vS b o m cap)]) (covers_cons rfl (covers_cons rfl covers_nil)) rfl ?_
  intro F w0 f
  refine CC.slb u hx fun ub uc rest e1 e2 e3 => ?_
  subst e1
  refine cc_seq ?_
  refine cc_region ?_
  refine rr_assign rfl rfl ?_
  refine rr_nil ?_
  refine cc_seq ?_
  refine cc_region ?_
  refine rr_move rfl rfl ?_
  refine r_tostr (bs := x) rfl inferInstance (by rw [List.drop_zero, List.take_left' (by simp)]; rfl) (by simp) rfl (sd0 rfl) ?_
  refine rr_move rfl rfl ?_
  refine r_tostr (bs := y) rfl inferInstance hc hm rfl (sd0 rfl) ?_
  first | refine r_strx rfl rfl rfl rfl ?_ | refine r_str rfl rfl rfl rfl ?_
  refine rr_assign rfl rfl ?_
  refine rr_nil ?_
  refine cc_ret ?_
  refine ⟨_, rfl, entW_pu2 rfl ((entW_ent (ent_pick (X := bl ub 5 (bv x ++ rest)) (slR_blk (cap := uc) e2 e3))).trans entW_fr)⟩
end Go.Proofs.YtoiakcgdkegncaaGreat

namespace Go.Proofs.YtoiakcgdkegncaaGreat
open Go.RowKit Ice
attribute [local irreducible] CC RR Tr enc encItem
theorem encItem_eq (x : ItemS) : encItem x = encT x.key ++ (encT x.val ++ encs [x.end_, frB x.gone]) := by
  unfold encItem; simp [encTs]
theorem itemEta (x : ItemS) : itemV x = [str x.key, str x.val, i64 x.end_, .bool (frB x.gone == 1)] := by
  cases x with
  | mk a b c d => cases d <;> rfl
/-- one entry's bytes are read -/
theorem idecode_tr (b o m cap E : Nat) (cs : List Value) (x : ItemS) (hx : itemMay x = true) (hm : m = (encItem x).length) (ho : o + m ≤ cs.length) (hcap : m ≤ cap) (hc : (cs.drop o).take m = bv (encItem x)) :
    Tr Tryz.prog 176 #[vS b o m cap] (bl b E cs) (fun v => ex fun l => pu (v = .tuple #[l, i64 0]) * (slR l 62 4 1 (itemV x) * bl b E cs)) := by
  refine tr_body Tryz.func176 (by kernel_rfl) rfl Tryz.ntmps176 rfl (L := [(0, vS b o m cap)]) (covers_cons rfl covers_nil) rfl ?_
  intro F w0 f
  have hs := itemMay_spec hx
  have hlen := encItem_len hx
  have e0 := encItem_eq x
  have hk := enc_len (x.key.length : Int)
  have hv := enc_len (x.val.length : Int)
  have he := enc_len x.end_
  have hg := enc_len (frB x.gone)
  have lk : (encT x.key).length = (enc x.key.length).length + x.key.length := by simp [encT]
  have lv : (encT x.val).length = (enc x.val.length).length + x.val.length := by simp [encT]
  have ln : (encs [x.end_, frB x.gone]).length = (enc x.end_).length + (enc (frB x.gone)).length := by simp [encs]
  have hml : m = (encT x.key).length + ((encT x.val).length + (encs [x.end_, frB x.gone]).length) := by rw [hm, e0]; simp
  have hfr : 0 ≤ frB x.gone ∧ frB x.gone ≤ 1 := by unfold frB; split <;> omega
  refine CC.entW ?_ (entW_ent (ent_nil 62 4))
  refine cc_seq ?_
  refine cc_region ?_
  refine rr_assign rfl rfl ?_
  refine rr_assign rfl rfl ?_
  refine rr_nil ?_
  refine cc_seq ?_
  refine cc_region ?_
  refine rr_assign rfl rfl ?_
  refine rr_nil ?_
  refine cc_seq ?_
  refine cc_seq ?_
  refine cc_region ?_
  refine rr_assign rfl rfl ?_
  refine rr_nil ?_
  refine cc_block ?_
  refine cc_loopW (α := (Nat × Value)) (fun ⟨j, l⟩ => [(5, i64 ((if j = 0 then 0 else m : Nat) : Int)), (0, vS b o m cap), (4, l)]) (fun ⟨j, l⟩ => pu (j ≤ 1) * (slR l 62 4 j (([x].take j).flatMap itemV) * bl b E cs * F)) (fun ⟨j, l⟩ => 1 - j) ((0, .slice none 0 0)) (by ((repeat' (first | exact covers_nil | (refine covers_cons ?_ ?_; focus (first | rfl | (simp [lk, lk?]; done))))) ; (first | done | fail))) (by exact entW_pu (by omega) (by simp only [List.take_zero, List.flatMap_nil]; exact entW_fr)) ?_
  rintro ⟨j, l⟩ f
  refine CC.pu fun hj => ?_
  refine cc_seq ?_
  refine cc_seq ?_
  refine cc_region ?_
  refine rr_move rfl rfl ?_
  refine rr_move rfl rfl ?_
  refine r_lens rfl rfl ?_
  refine r_int rfl rfl rfl rfl ?_
  refine rr_nil ?_
  refine cc_cond rfl (fun h18 => ?_) (fun h18 => ?_)
  · try simp only [decide_eq_true_eq, decide_eq_false_iff_not, beq_iff_eq, beq_eq_false_iff_ne, bne_iff_ne, bne_eq_false_iff_eq, ne_eq, Bool.not_eq_eq_eq_not, Bool.not_true, Bool.not_false] at h18
    have hj0 : j = 0 := by
      rcases Nat.lt_or_ge j 1 with h | h
      · omega
      · obtain rfl : j = 1 := by omega
        simp at h18
    subst hj0
    refine CC.cl (X := slR l 62 4 0 (([x].take 0).flatMap itemV)) (Y := slR l 62 4 0 []) (Ent.refl _) ?_
    refine cc_skip ?_
    refine cc_block ?_
    refine cc_seq ?_
    refine cc_region ?_
    refine r_alloc rfl (sd0 rfl) (fun _ => sd0 rfl) (fun p4_0 => ?_)
    refine rr_nil ?_
    refine cc_seq ?_
    refine cc_region ?_
    refine rr_move rfl rfl ?_
    refine rr_move rfl rfl ?_
    refine r_sls (lo := 0) rfl ⟨_, rfl⟩ rfl rfl (by omega) (by omega) (by omega) ?_
    rw [if_neg (by omega)]
    refine rr_call rfl rfl rfl rfl (ngetT_tr b (o + 0 * 1) (m - 0) (cap - 0) E cs x.key (encT x.val ++ encs [x.end_, frB x.gone]) (by omega) (by rw [← e0]; omega) (by omega) (by omega) (by omega) (by rw [← e0]; simpa using hc)) inferInstance rfl (sd0 rfl) (fun _ => sd0 rfl) rfl (fun v => ?_)
    first | refine RR.pu2 ?_ | refine RR.pu ?_
    rintro rfl
    refine rr_move rfl rfl ?_
    refine rr_extract rfl rfl rfl ?_
    refine rr_extract rfl rfl rfl ?_
    refine rr_extract rfl rfl rfl ?_
    refine rr_assign rfl rfl ?_
    refine rr_assign rfl rfl ?_
    refine rr_assign rfl rfl ?_
    refine rr_nil ?_
    refine cc_seq ?_
    refine cc_seq ?_
    refine cc_region ?_
    refine rr_move rfl rfl ?_
    refine r_int rfl rfl rfl rfl ?_
    refine rr_nil ?_
    refine cc_condF rfl ?_
    refine cc_skip ?_
    refine cc_seq ?_
    refine cc_region ?_
    refine rr_move rfl rfl ?_
    refine rr_move rfl rfl ?_
    refine rr_move rfl rfl ?_
    refine r_add rfl rfl rfl (by omega) ?_
    rw [show ((if (0 : Nat) = 0 then 0 else m : Nat) : Int) + ((encT x.key).length : Int) = ((encT x.key).length : Nat) by simp]
    refine r_sls (lo := (encT x.key).length) rfl ⟨_, rfl⟩ rfl rfl (by omega) (by omega) (by omega) ?_
    rw [if_neg (by omega)]
    refine rr_call rfl rfl rfl rfl (ngetT_tr b (o + (encT x.key).length * 1) (m - (encT x.key).length) (cap - (encT x.key).length) E cs x.val (encs [x.end_, frB x.gone]) (by omega) (by simp; omega) (by omega) (by omega) (by omega) (by
            have h2 := congrArg (fun z => z.drop (encT x.key).length) hc
            simp only [List.drop_take, List.drop_drop, e0, bv_append] at h2
            rw [Nat.mul_one, h2, List.drop_left' (by simp), bv_append])) inferInstance rfl (sd0 rfl) (fun _ => sd0 rfl) rfl (fun v => ?_)
    first | refine RR.pu2 ?_ | refine RR.pu ?_
    rintro rfl
    refine rr_move rfl rfl ?_
    refine rr_extract rfl rfl rfl ?_
    refine rr_extract rfl rfl rfl ?_
    refine rr_extract rfl rfl rfl ?_
    refine rr_assign rfl rfl ?_
    refine rr_assign rfl rfl ?_
    refine rr_assign rfl rfl ?_
    refine rr_nil ?_
    refine cc_seq ?_
    refine cc_seq ?_
    refine cc_region ?_
    refine rr_move rfl rfl ?_
    refine r_int rfl rfl rfl rfl ?_
    refine rr_nil ?_
    refine cc_condF rfl ?_
    refine cc_skip ?_
    refine cc_seq ?_
    refine cc_region ?_
    refine r_alloc rfl (sd0 rfl) (fun _ => sd0 rfl) (fun p11_0 => ?_)
    refine rr_nil ?_
    refine cc_seq ?_
    refine cc_region ?_
    refine rr_move rfl rfl ?_
    refine rr_move rfl rfl ?_
    refine rr_move rfl rfl ?_
    refine r_add rfl rfl rfl (by omega) ?_
    refine rr_move rfl rfl ?_
    refine r_add rfl rfl rfl (by omega) ?_
    rw [show ((if (0 : Nat) = 0 then 0 else m : Nat) : Int) + ((encT x.key).length : Int) + ((encT x.val).length : Int) = ((encT x.key).length + (encT x.val).length : Nat) by simp]
    refine r_sls (lo := (encT x.key).length + (encT x.val).length) rfl ⟨_, rfl⟩ rfl rfl (by omega) (by omega) (by omega) ?_
    rw [if_neg (by omega)]
    refine r_fa rfl rfl ?_
    refine RR.clb p4_0 [str [], str [], i64 (if 1 ≤ 0 then x.end_ else 0), .bool false] (by simp; rfl) ?_
    refine RR.clb p11_0 [i64 (if 2 ≤ 0 then frB x.gone else 0)] (by simp) ?_
    refine r_bsl (cs := ([(p4_0, 2), (p11_0, 0)] : List (Nat × Nat)).map fun q => .pointer (some ⟨q.1, q.2, none⟩)) rfl rfl rfl rfl rfl rfl (sd0 rfl) (fun _ => sd0 rfl) (fun pp => ?_)
    refine rr_call rfl rfl rfl rfl (nAll_tr b (o + ((encT x.key).length + (encT x.val).length) * 1) (m - ((encT x.key).length + (encT x.val).length)) (cap - ((encT x.key).length + (encT x.val).length)) E pp 2 cs [x.end_, frB x.gone] [(p4_0, 2), (p11_0, 0)] [] (fun i => bl p4_0 62 [str [], str [], i64 (if 1 ≤ i then x.end_ else 0), .bool false] * bl p11_0 2 [i64 (if 2 ≤ i then frB x.gone else 0)]) rfl (by simp; omega) (by simp; omega) (by omega) (by omega) (by simp) (by
            intro i hi
            have h2 := congrArg (fun z => z[((encT x.key).length + (encT x.val).length) + i]?) hc
            simp only [List.getElem?_take_of_lt (by omega : ((encT x.key).length + (encT x.val).length) + i < m), List.getElem?_drop, e0] at h2
            rw [nth_eq, nth_eq, show o + ((encT x.key).length + (encT x.val).length) * 1 + i = o + (((encT x.key).length + (encT x.val).length) + i) by omega, h2, bv_append, List.getElem?_append_right (by simp; omega), bv_append, List.getElem?_append_right (by simp; omega)]
            simp only [List.append_nil, bv_length]
            congr 1; omega) (by
            intro i q n h1 h2
            rcases (by have := get_lt h1; simp at this; omega : i = 0 ∨ i = 1) with rfl | rfl
            · simp at h1 h2; subst h1 h2; exact ⟨_, _, _, .l .o, rfl, .l .o⟩
            · simp at h1 h2; subst h1 h2; exact ⟨_, _, _, .r .o, rfl, .r .o⟩)) inferInstance rfl (sd0 rfl) (fun _ => sd0 rfl) rfl (fun v => ?_)
    first | refine RR.pu2 ?_ | refine RR.pu ?_
    rintro rfl
    refine RR.clb p4_0 [str [], str [], i64 x.end_, .bool false] (by simp) ?_
    refine RR.clb p11_0 [i64 (frB x.gone)] (by simp) ?_
    refine rr_move rfl rfl ?_
    refine rr_extract rfl rfl rfl ?_
    refine rr_extract rfl rfl rfl ?_
    refine rr_assign rfl rfl ?_
    refine rr_assign rfl rfl ?_
    refine rr_nil ?_
    refine cc_seq ?_
    refine cc_seq ?_
    refine cc_region ?_
    refine rr_move rfl rfl ?_
    refine r_int rfl rfl rfl rfl ?_
    refine rr_nil ?_
    refine cc_condF rfl ?_
    refine cc_skip ?_
    refine cc_seq ?_
    refine cc_region ?_
    refine rr_move rfl rfl ?_
    refine rr_move rfl rfl ?_
    refine r_ld rfl (ls0 rfl) rfl rfl ?_
    refine r_int rfl rfl rfl rfl ?_
    refine r_fa rfl rfl ?_
    refine r_st rfl rfl rfl rfl (sd0 rfl) (sd0 rfl) ?_
    refine r_fa rfl rfl ?_
    refine r_st rfl rfl rfl rfl (sd0 rfl) (sd0 rfl) ?_
    refine r_fa rfl rfl ?_
    refine r_st rfl rfl rfl rfl (sd0 rfl) (sd0 rfl) ?_
    refine rr_nil ?_
    refine cc_seq ?_
    refine CC.clb p4_0 (itemV x) (itemEta x).symm ?_
    refine cc_region ?_
    refine rr_move rfl rfl ?_
    refine r_lda rfl (ls0 rfl) (vs := itemV x) rfl rfl ?_
    refine r_bsl (cs := itemV x) rfl rfl rfl rfl rfl rfl (sd0 rfl) (fun _ => sd0 rfl) (fun p => ?_)
    refine r_app (m := 0) (xs := []) (k' := 1) (ys := itemV x) rfl rfl (.inl (by rw [spv_underlying]; kernel_rfl)) inferInstance rfl (fun w sa => src_of sa (by simp [itemV]) rfl) (by simp [itemV]) (by simp [oneC, itemV]) (by omega) (by omega) (by omega) rfl (sd0 rfl) (fun _ => sd0 rfl) (fun v => ?_)
    refine rr_assign rfl rfl ?_
    refine rr_nil ?_
    refine cc_region ?_
    refine rr_move rfl rfl ?_
    refine rr_move rfl rfl ?_
    refine rr_move rfl rfl ?_
    refine r_add rfl rfl rfl (by omega) ?_
    refine rr_move rfl rfl ?_
    refine r_add rfl rfl rfl (by omega) ?_
    refine r_add rfl rfl rfl (by omega) ?_
    refine rr_assign rfl rfl ?_
    refine rr_nil ?_
    exact ⟨(1, v), (by show 1 - 1 < 1 - 0; omega), by ((repeat' (first | exact covers_nil | (refine covers_cons ?_ ?_; focus (first | rfl | (simp [lk, lk?]; done) | (refine congrArg (Value.int _) ?_; simp; omega))))) ; (first | done | fail)), entW_pu (by omega) (by simp only [List.take_succ_cons, List.take_zero, List.flatMap_cons, List.flatMap_nil, List.append_nil, List.nil_append, Nat.zero_add]; exact entW_fr)⟩
  · try simp only [decide_eq_true_eq, decide_eq_false_iff_not, beq_iff_eq, beq_eq_false_iff_ne, bne_iff_ne, bne_eq_false_iff_eq, ne_eq, Bool.not_eq_eq_eq_not, Bool.not_true, Bool.not_false] at h18
    have hj1 : j = 1 := by
      rcases Nat.lt_or_ge j 1 with h | h
      · obtain rfl : j = 0 := by omega
        simp at h18; omega
      · omega
    subst hj1
    refine CC.slb l (by omega) fun lb lc lrest e1 e2 e3 => ?_
    subst e1
    refine CC.clb lb ([x].flatMap itemV ++ lrest) (by simp) ?_
    refine cc_exit ?_
    refine cc_seq ?_
    refine cc_seq ?_
    refine cc_region ?_
    refine rr_move rfl rfl ?_
    refine rr_call rfl rfl rfl rfl (iencode_tr lb lc lrest [x] (by simpa using hx) (by simp)) inferInstance rfl (sd0 rfl) (fun _ => sd0 rfl) rfl (fun v => ?_)
    rw [show encItems [x] = encItem x by simp [encItems]]
    refine RR.slb v (by omega) fun eb ec erest g1 g2 g3 => ?_
    subst g1
    refine RR.cl (X := bl eb 5 (bv (encItem x) ++ erest)) (slR_blk (cap := ec) g2 g3) ?_
    refine rr_assign rfl rfl ?_
    refine rr_nil ?_
    refine cc_seq ?_
    refine cc_region ?_
    refine rr_move rfl rfl ?_
    refine r_snil rfl rfl rfl ?_
    refine rr_move rfl rfl ?_
    refine rr_guardY rfl rfl rfl ?_
    refine rr_move rfl rfl ?_
    refine rr_guardY rfl rfl rfl ?_
    refine rr_move rfl rfl ?_
    refine rr_guardY rfl rfl rfl ?_
    refine rr_call rfl rfl rfl rfl (bequal_tr (.slice (some ⟨eb, 0, none⟩) (encItem x).length ec) (encItem x) b o m cap E cs (encItem x) (by omega) ho hc) inferInstance rfl (sd0 rfl) (fun _ => sd0 rfl) rfl (fun v => ?_)
    first | refine RR.pu2 ?_ | refine RR.pu ?_
    rintro rfl
    rw [show (encItem x == encItem x) = true by simp]
    refine rr_guardY rfl rfl rfl ?_
    refine r_not rfl rfl ?_
    first | refine rr_pick rfl rfl ?_ | refine rr_pickb rfl rfl rfl rfl ?_
    refine rr_nil ?_
    refine cc_condF rfl ?_
    refine cc_skip ?_
    refine cc_seq ?_
    refine cc_region ?_
    refine rr_move rfl rfl ?_
    refine rr_assign rfl rfl ?_
    refine rr_assign rfl rfl ?_
    refine rr_nil ?_
    refine cc_ret ?_
    refine ⟨_, rfl, entW_ex2 (.slice (some ⟨lb, 0, none⟩) 1 lc) (entW_pu2 rfl ?_)⟩
    refine (entW_ent (ent_pick (X := bl lb 62 ([x].flatMap itemV ++ lrest)) (Y := slR (.slice (some ⟨lb, 0, none⟩) 1 lc) 62 4 1 (itemV x)) (fun h hh => slR_blk (cap := lc) (xs := itemV x) (rest := lrest) (by simp [itemV]) (by simpa using e3) h (by simpa using hh)))).trans entW_fr
/-- a record's entry -/
theorem fread_tr (b o m cap E : Nat) (cs : List Value) (x : ItemS) (hx : itemMay x = true) (hm : m = (1 :: encItem x : Txt).length) (ho : o + m ≤ cs.length) (hcap : m ≤ cap) (hc : (cs.drop o).take m = bv (1 :: encItem x)) :
    Tr Tryz.prog 154 #[vS b o m cap] (bl b E cs) (fun v => pu (v = .tuple #[itemA x, .bool true]) * bl b E cs) := by
  refine tr_bodyR Tryz.func154 (by kernel_rfl) rfl Tryz.ntmps154 rfl (L := [(0, vS b o m cap)]) (covers_cons rfl covers_nil) rfl ?_
  intro F w0 f
  have hlen := encItem_len hx
  have hm1 : m = (encItem x).length + 1 := by rw [hm]; rfl
  have h0 : cs[o]? = some (.int .u8 1) := by
    have := congrArg (fun z => z[0]?) hc
    simp only [List.getElem?_take_of_lt (by omega : 0 < m), List.getElem?_drop] at this
    simpa [bv] using this
  have hpos : 0 < (encItem x).length := by
    have := (enc_len (x.key.length : Int)).1
    rw [encItem_eq]; simp [encT]; omega
  refine cc_seq ?_
  refine cc_region ?_
  refine r_alloc rfl (sd0 rfl) (fun _ => sd0 rfl) (fun p0_0 => ?_)
  refine rr_assign rfl rfl ?_
  refine rr_nil ?_
  refine cc_seq ?_
  refine cc_seq ?_
  refine cc_region ?_
  refine rr_move rfl rfl ?_
  refine r_lens rfl rfl ?_
  refine r_int rfl rfl rfl rfl ?_
  rw [show decide ((m : Int) < 1) = false by simp; omega]
  refine rr_move rfl rfl ?_
  refine rr_guardY rfl rfl rfl ?_
  refine rr_move rfl rfl ?_
  refine rr_guardY rfl rfl rfl ?_
  refine r_ix rfl rfl rfl (by omega) ?_
  refine rr_guardY rfl rfl rfl ?_
  refine r_ld rfl (ls0 rfl) (v := .int .u8 1) (by rw [nth_eq, show o + Int.toNat 0 * 1 = o by simp]; exact h0) rfl ?_
  refine rr_guardY rfl rfl rfl ?_
  refine r_int rfl rfl rfl rfl ?_
  first | refine rr_pick rfl rfl ?_ | refine rr_pickb rfl rfl rfl rfl ?_
  refine rr_nil ?_
  refine cc_condF rfl ?_
  refine cc_skip ?_
  refine cc_seq ?_
  refine cc_region ?_
  refine rr_move rfl rfl ?_
  refine r_sls (lo := 1) rfl ⟨_, rfl⟩ rfl rfl (by omega) (by omega) (by omega) ?_
  rw [if_neg (by omega)]
  refine rr_call rfl rfl rfl rfl (idecode_tr b (o + 1 * 1) (m - 1) (cap - 1) E cs x hx (by omega) (by omega) (by omega) (by
          have h2 := congrArg (fun z => z.drop 1) hc
          simp only [List.drop_take, List.drop_drop] at h2
          rw [Nat.mul_one, h2]; rfl)) inferInstance rfl (sd0 rfl) (fun _ => sd0 rfl) rfl (fun v => ?_)
  refine RR.ex1 fun l => ?_
  refine RR.pu2 ?_
  rintro rfl
  refine RR.slb l (by omega) fun lb lc lrest g1 g2 g3 => ?_
  subst g1
  refine rr_move rfl rfl ?_
  refine rr_extract rfl rfl rfl ?_
  refine rr_extract rfl rfl rfl ?_
  refine rr_assign rfl rfl ?_
  refine rr_assign rfl rfl ?_
  refine rr_nil ?_
  refine cc_seq ?_
  refine cc_seq ?_
  refine cc_region ?_
  refine rr_move rfl rfl ?_
  refine r_int rfl rfl rfl rfl ?_
  refine rr_move rfl rfl ?_
  refine rr_guardY rfl rfl rfl ?_
  refine rr_move rfl rfl ?_
  refine rr_guardY rfl rfl rfl ?_
  refine r_lens rfl rfl ?_
  refine rr_guardY rfl rfl rfl ?_
  refine r_int rfl rfl rfl rfl ?_
  first | refine rr_pick rfl rfl ?_ | refine rr_pickb rfl rfl rfl rfl ?_
  refine rr_nil ?_
  refine cc_condF rfl ?_
  refine cc_skip ?_
  refine cc_seq ?_
  refine cc_region ?_
  refine rr_move rfl rfl ?_
  refine r_ix rfl rfl rfl (by omega) ?_
  refine r_lda rfl (ls0 rfl) (vs := itemV x) (by rw [show 0 + Int.toNat 0 * 4 = 0 by simp]; rfl) rfl ?_
  refine r_sta (cs' := itemV x) rfl rfl rfl rfl rfl (Nat.le_of_ble_eq_true rfl) (sd0 rfl) (sd0 rfl) ?_
  refine rr_assign rfl rfl ?_
  refine rr_nil ?_
  refine cc_ret ?_
  exact ⟨_, .agg inferInstance rfl inferInstance rfl (.tmp rfl .nil), entW_pu2 rfl entW_fr⟩
end Go.Proofs.YtoiakcgdkegncaaGreat

namespace Go.Proofs.YtoiakcgdkegncaaGreat
open Go.RowKit Ice
attribute [local irreducible] CC RR Tr stir mixOf findI' appL appD readL belowI dropI putI getI encItem
/-- the eldest position -/
def firstS (l : List Seg) (next : Nat) : Nat := match l with
  | [] => next
  | x :: r => match x.recs with
    | [] => firstS r next
    | rc :: _ => rc.1
theorem firstS_map : ∀ (gs : List (Nat × Seg)) (next : Nat), firstPos gs next = firstS (gs.map (·.2)) next
  | [], _ => rfl
  | x :: r, next => by
    simp only [firstPos, List.map_cons, firstS]
    split <;> rename_i h <;> simp only [h]
    exact firstS_map r next
def firstL (L : LogS) : Nat := firstS L.l L.next
theorem lfirstR_tr (l d n k : Nat) (L : LogS) (h : LogOK L n k) (hk : k ≤ 2 ^ 29) : Tr Tryz.prog 102 #[ptr l] (logR l d L) (fun v => pu (v = i64 (firstL L)) * logR l d L) := by
  have : logR l d L = logR l d L * 1 := (sl_mul_one _).symm
  rw [this]
  refine tr_ex (by kernel_rfl) fun lv => tr_ex (by kernel_rfl) fun gs => tr_pu (by kernel_rfl) fun hgs => ?_
  have hlen : gs.length ≤ k := by have := h.len; rw [← hgs] at this; simpa using this
  refine tr_ent (lfirst_tr l d L lv gs (by omega)) (fun F => entW_fr) fun v F w' s2 => ?_
  obtain ⟨hv, s2⟩ := sat_pu2.1 s2
  refine Sat.pu2 ?_ (by rw [hv, firstS_map, hgs]; rfl)
  refine entW_cls (logR l d L) (logB l d L lv * (slR lv 234 1 gs.length (gs.flatMap fun x => [ptr x.1]) * segsR gs)) (logR_mk l d L lv gs hgs) ?_ w' s2
  exact entW_fr
structure CacheS where
  log : LogS
  idx : IdxS
/-- a cache -/
def cacheR (c d : Nat) (C : CacheS) : SL := ex fun q : Nat × Nat => bl c 136 [ptr q.1, ptr q.2] * (logR q.1 d C.log * indexR q.2 C.idx)
theorem cacheR_mk (c d l x : Nat) (L : LogS) (I : IdxS) : Ent (bl c 136 [ptr l, ptr x] * (logR l d L * indexR x I)) (cacheR c d ⟨L, I⟩) := fun _ h => ⟨(l, x), h⟩
structure CacheOK (C : CacheS) (n k : Nat) : Prop where
  log : LogOK C.log n k
  srt : SrtOK C.log
  idx : IdxOK C.idx
theorem ens_next (L : LogS) (n : Nat) : (ensL L n).next = L.next := by unfold ensL; split <;> rfl
theorem SrtOK.ens {L : LogS} (h : SrtOK L) (n : Nat) : SrtOK (ensL L n) := by
  unfold ensL
  split
  · refine ⟨fun s hs => ?_, fun s hs => ?_, fun s hs => ?_⟩ <;> rcases List.mem_append.1 hs with hs | hs
    · exact h.up s (List.mem_filter.1 hs).1
    · simp at hs; subst hs; exact List.Pairwise.nil
    · exact h.lt s (List.mem_filter.1 hs).1
    · simp at hs; subst hs; intro r hr; simp [newSegL] at hr
    · exact h.ln s (List.mem_filter.1 hs).1
    · simp at hs; subst hs; intro r hr; simp [newSegL] at hr
  · exact h
theorem SrtOK.put {L : LogS} (h : SrtOK L) {body : Txt} (hb : body.length ≤ 300) : SrtOK (putL L body) := by
  unfold putL
  split
  · exact h
  · rename_i S hS
    have hSm := List.mem_of_getLast? hS
    have hd : ∀ x ∈ L.l.dropLast, x ∈ L.l := fun x hx => List.dropLast_subset _ hx
    refine ⟨fun s hs => ?_, fun s hs => ?_, fun s hs => ?_⟩ <;> rcases List.mem_append.1 hs with hs | hs
    · exact h.up s (hd s hs)
    · simp at hs; subst hs
      simp only [addSeg]
      rw [List.pairwise_append]
      exact ⟨h.up S hSm, by simp, fun a ha b hb => by simp at hb; subst hb; exact h.lt S hSm a ha⟩
    · intro r hr; have := h.lt s (hd s hs) r hr; simp only; omega
    · simp at hs; subst hs
      intro r hr
      rcases List.mem_append.1 hr with hr | hr
      · have := h.lt S hSm r hr; simp only; omega
      · simp at hr; subst hr; simp
    · exact h.ln s (hd s hs)
    · simp at hs; subst hs
      intro r hr
      rcases List.mem_append.1 hr with hr | hr
      · exact h.ln S hSm r hr
      · simp at hr; subst hr; exact hb
theorem SrtOK.app {L : LogS} (h : SrtOK L) {body : Txt} (hb : body.length ≤ 300) : SrtOK (appL L body) := by unfold appL; exact (h.ens _).put hb
/-- a record is added -/
def addC (C : CacheS) (b : Txt) : CacheS := ⟨appL C.log b, (belowI C.idx (firstL (appL C.log b))).2⟩
theorem CacheOK.add {C : CacheS} {n k : Nat} (h : CacheOK C n k) {b : Txt} (hb : b.length ≤ 300) : CacheOK (addC C b) n (k + 2) := ⟨h.log.app hb, h.srt.app hb, h.idx.below _⟩
theorem fadd_tr (c d n k : Nat) (u : Value) (C : CacheS) (D : DevS) (b : Txt) (h : CacheOK C n k) (hk : k ≤ 2 ^ 27) (hn : n = D.length) (hb1 : 1 ≤ b.length) (hb2 : b.length ≤ 300) :
    Tr Tryz.prog 52 #[ptr c, u] (cacheR c d C * devR d D * slR u 5 1 b.length (bv b)) (fun v => pu (v = .tuple #[i64 C.log.next, i64 0]) * (cacheR c d (addC C b) * devR d (appD C.log D b) * slR u 5 1 b.length (bv b))) := by
  refine tr_body Tryz.func52 (by kernel_rfl) rfl Tryz.ntmps52 rfl (L := [(0, ptr c), (1, u)]) (covers_cons rfl (covers_cons rfl covers_nil)) rfl ?_
  intro F w0 f
  refine CC.opn (cacheR c d C) rfl fun q => ?_
  have hA := h.log.app hb2
  have hnb := h.idx.nb
  have hi1 := h.idx.h1
  refine cc_seq ?_
  refine cc_region ?_
  refine rr_assign rfl rfl ?_
  refine rr_assign rfl rfl ?_
  refine rr_nil ?_
  refine cc_seq ?_
  refine cc_region ?_
  refine rr_move rfl rfl ?_
  refine rr_nilCheck rfl rfl ?_
  refine r_fa rfl rfl ?_
  refine r_ld rfl (ls0 rfl) rfl rfl ?_
  refine rr_move rfl rfl ?_
  refine rr_call rfl rfl rfl rfl (lappend_tr q.1 d n k u C.log D b h.log (by omega) hn hb1 hb2) inferInstance rfl (sd0 rfl) (fun _ => sd0 rfl) rfl (fun v => ?_)
  refine RR.pu2 ?_
  rw [ens_next]
  rintro rfl
  refine rr_move rfl rfl ?_
  refine rr_extract rfl rfl rfl ?_
  refine rr_extract rfl rfl rfl ?_
  refine rr_assign rfl rfl ?_
  refine rr_assign rfl rfl ?_
  refine rr_nil ?_
  refine cc_seq ?_
  refine cc_draw (bl c 136 [ptr q.1, ptr q.2]) [3] [8] mixed (by decide +kernel) ?_
  refine rr_move rfl rfl ?_
  refine rr_nilCheck rfl rfl ?_
  refine r_fa rfl rfl ?_
  refine r_ld rfl (ls1 rfl) rfl rfl ?_
  refine rr_move rfl rfl ?_
  refine rr_nilCheck rfl rfl ?_
  refine r_fa rfl rfl ?_
  refine r_ld rfl (ls0 rfl) rfl rfl ?_
  refine rr_call rfl rfl rfl rfl (lfirstR_tr q.1 d n (k + 2) (appL C.log b) hA (by omega)) inferInstance rfl (sd1 rfl) (fun _ => sd1 rfl) rfl (fun v => ?_)
  first | refine RR.pu2 ?_ | refine RR.pu ?_
  rintro rfl
  refine rr_call rfl rfl rfl rfl (ibelow_tr q.2 C.idx (firstL (appL C.log b)) (by omega) hnb.1 hnb.2) inferInstance rfl (sd0 rfl) (fun _ => sd0 rfl) rfl (fun v => ?_)
  first | refine RR.pu2 ?_ | refine RR.pu ?_
  rintro rfl
  refine rr_nil ?_
  refine cc_seq ?_
  refine cc_region ?_
  refine rr_move rfl rfl ?_
  refine rr_move rfl rfl ?_
  refine rr_assign rfl rfl ?_
  refine rr_assign rfl rfl ?_
  refine rr_nil ?_
  refine cc_ret ?_
  refine ⟨_, rfl, entW_pu2 rfl ?_⟩
  exact entW_cls (cacheR c d (addC C b)) (bl c 136 [ptr q.1, ptr q.2] * (logR q.1 d (appL C.log b) * indexR q.2 (belowI C.idx (firstL (appL C.log b))).2)) (cacheR_mk c d q.1 q.2 _ _) entW_fr
theorem encItem_len2 {x : ItemS} (h : itemMay x = true) : (encItem x).length ≤ 299 := by
  have h1 := itemMay_spec h
  have a := enc_len (x.key.length : Int)
  have b := enc_len (x.val.length : Int)
  have c := enc_len x.end_
  have d := enc_len (frB x.gone)
  unfold encItem
  simp [encTs, encT, encs]
  omega
def recOf (x : ItemS) : Txt := 1 :: encItem x
def putC (C : CacheS) (x : ItemS) : CacheS := ⟨(addC C (recOf x)).log, (putI (addC C (recOf x)).idx x.key C.log.next).2⟩
theorem fput_tr (c d n k : Nat) (C : CacheS) (D : DevS) (x : ItemS) (h : CacheOK C n k) (hk : k ≤ 2 ^ 27) (hn : n = D.length) (hx : itemMay x = true) (hg : x.gone = false)
    (hfr : (findI' (addC C (recOf x)).idx x.key).1 < 0 → ¬ (findI' (addC C (recOf x)).idx x.key).2 < 0) (hus : 2 * (addC C (recOf x)).idx.used < (addC C (recOf x)).idx.t.length) :
    Tr Tryz.prog 22 #[ptr c, itemA x] (cacheR c d C * devR d D) (fun v => pu (v = i64 0) * (cacheR c d (putC C x) * devR d (appD C.log D (recOf x)))) := by
  refine tr_body Tryz.func22 (by kernel_rfl) rfl Tryz.ntmps22 rfl (L := [(0, ptr c), (1, itemA x)]) (covers_cons rfl (covers_cons rfl covers_nil)) rfl ?_
  intro F w0 f
  have hs := itemMay_spec hx
  have hel := encItem_len2 hx
  have hrl : (recOf x).length = (encItem x).length + 1 := rfl
  have hC1 := h.add (b := recOf x) (by omega)
  have hnb := hC1.idx.nb
  have hi1 := hC1.idx.h1
  have hu0 : 0 ≤ (addC C (recOf x)).idx.used := by rw [hC1.idx.hu]; omega
  refine cc_seq ?_
  refine cc_region ?_
  refine r_boxa rfl rfl (sd0 rfl) (fun _ => sd0 rfl) (fun p0_0 => ?_)
  refine rr_assign rfl rfl ?_
  refine rr_nil ?_
  refine cc_seq ?_
  refine cc_block ?_
  refine cc_seq ?_
  refine cc_region ?_
  refine rr_move rfl rfl ?_
  refine r_pnil rfl rfl rfl ?_
  refine rr_assign rfl rfl ?_
  refine rr_nil ?_
  refine cc_condF rfl ?_
  refine cc_seq ?_
  refine cc_region ?_
  refine r_lda rfl (ls0 rfl) rfl rfl ?_
  refine rr_call rfl rfl rfl rfl (imay_tr x) inferInstance rfl (sd0 rfl) (fun _ => sd0 rfl) rfl (fun v => ?_)
  first | refine RR.pu2 ?_ | refine RR.pu ?_
  rintro rfl
  refine r_not rfl rfl ?_
  rw [hx]
  refine rr_move rfl rfl ?_
  refine rr_guardY rfl rfl rfl ?_
  refine r_fa rfl rfl ?_
  refine rr_guardY rfl rfl rfl ?_
  refine r_ld rfl (ls0 rfl) rfl rfl ?_
  rw [hg]
  first | refine rr_pick rfl rfl ?_ | refine rr_pickb rfl rfl rfl rfl ?_
  refine rr_assign rfl rfl ?_
  refine rr_nil ?_
  refine cc_condF rfl ?_
  refine cc_skip ?_
  refine cc_seq ?_
  refine cc_region ?_
  refine rr_move rfl rfl ?_
  refine r_bsl (cs := [.int .u8 1]) rfl rfl rfl rfl rfl rfl (by first | exact sd0 rfl | exact sd1 rfl) (fun _ => by first | exact sd0 rfl | exact sd1 rfl) (fun p5_1 => ?_)
  refine RR.cl (X := bl p5_1 5 [.int .u8 1]) (Y := slR (.slice (some ⟨p5_1, 0, none⟩) 1 1) 5 1 ([1] : Txt).length (bv [1])) (slR_new rfl) ?_
  refine r_lda rfl (ls0 rfl) rfl rfl ?_
  refine r_bsl (cs := [x].flatMap itemV ++ []) rfl rfl rfl rfl rfl rfl (by first | exact sd0 rfl | exact sd1 rfl) (fun _ => by first | exact sd0 rfl | exact sd1 rfl) (fun p5_3 => ?_)
  refine rr_call rfl rfl rfl rfl (iencode_tr p5_3 1 [] [x] (by simpa using hx) (by simp)) inferInstance rfl (sd0 rfl) (fun _ => sd0 rfl) rfl (fun v => ?_)
  rw [show encItems [x] = encItem x by simp [encItems]]
  refine r_appB ([1]) (encItem x) rfl rfl (.inl (by rw [spv_underlying]; kernel_rfl)) inferInstance rfl (fun w sa => src_slR sa) (by simp; omega) rfl rfl (sd0 rfl) (fun _ => sd0 rfl) (fun v => ?_)
  rw [show ([1] : Txt) ++ encItem x = recOf x from rfl]
  refine rr_call rfl rfl rfl rfl (fadd_tr c d n k v C D (recOf x) h hk hn (by omega) (by omega)) inferInstance rfl (sd0 rfl) (fun _ => sd0 rfl) rfl (fun v => ?_)
  first | refine RR.pu2 ?_ | refine RR.pu ?_
  rintro rfl
  refine rr_move rfl rfl ?_
  refine rr_extract rfl rfl rfl ?_
  refine rr_extract rfl rfl rfl ?_
  refine rr_assign rfl rfl ?_
  refine rr_assign rfl rfl ?_
  refine rr_nil ?_
  refine cc_seq ?_
  refine cc_seq ?_
  refine cc_region ?_
  refine rr_move rfl rfl ?_
  refine r_int rfl rfl rfl rfl ?_
  refine rr_nil ?_
  refine cc_condT rfl ?_
  refine CC.opn (cacheR c d (addC C (recOf x))) rfl fun q => ?_
  refine cc_draw (bl p0_0 62 (itemV x) * bl c 136 [ptr q.1, ptr q.2]) [] [] mixed (by decide +kernel) ?_
  refine rr_move rfl rfl ?_
  refine rr_nilCheck rfl rfl ?_
  refine r_fa rfl rfl ?_
  refine r_ld rfl (ls0 rfl) rfl rfl ?_
  refine r_fa rfl rfl ?_
  refine r_ld rfl (ls0 rfl) rfl rfl ?_
  refine rr_move rfl rfl ?_
  refine rr_call rfl rfl rfl rfl (iput_tr q.2 (addC C (recOf x)).idx x.key C.log.next (by omega) hC1.idx.h0 (by omega) hnb.1 hnb.2 hu0 hus hfr) inferInstance rfl (sd0 rfl) (fun _ => sd0 rfl) rfl (fun v => ?_)
  first | refine RR.pu2 ?_ | refine RR.pu ?_
  rintro rfl
  refine rr_nil ?_
  refine cc_seq ?_
  refine cc_region ?_
  refine rr_move rfl rfl ?_
  refine rr_assign rfl rfl ?_
  refine rr_nil ?_
  refine cc_ret ?_
  refine ⟨_, rfl, entW_pu2 rfl ?_⟩
  exact entW_cls (cacheR c d (putC C x)) (bl c 136 [ptr q.1, ptr q.2] * (logR q.1 d (addC C (recOf x)).log * indexR q.2 (putI (addC C (recOf x)).idx x.key C.log.next).2)) (cacheR_mk c d q.1 q.2 _ _) entW_fr
/-- what a key has -/
def EntIs (C : CacheS) (key : Txt) : Option ItemS → Prop
  | none => (getI C.idx key).2 = false
  | some x => (getI C.idx key).2 = true ∧ readL C.log (getI C.idx key).1 = some (recOf x) ∧ itemMay x = true
theorem readL_bound {L : LogS} {pos : Int} {b : Txt} (hs : SrtOK L) (h : readL L pos = some b) : 0 ≤ pos ∧ pos ≤ L.next := by
  unfold readL at h
  obtain ⟨s, hsm, h2⟩ := List.exists_of_findSome?_eq_some h
  unfold readS at h2
  cases hf : s.recs.find? (fun r => (r.1 : Int) == pos) with
  | none => rw [hf] at h2; simp at h2
  | some r =>
    have h3 := List.find?_some hf
    have h4 := hs.lt s hsm r (List.mem_of_find?_eq_some hf)
    simp at h3; omega
def item0 : ItemS := ⟨[], [], 0, false⟩
theorem fentry_tr (c d n k : Nat) (C : CacheS) (key : Txt) (o : Option ItemS) (h : CacheOK C n k) (hk : k ≤ 2 ^ 27) (hkl : key.length ≤ 2 ^ 30) (ho : EntIs C key o) :
    Tr Tryz.prog 140 #[ptr c, str key] (cacheR c d C) (fun v => pu (v = .tuple #[itemA (o.getD item0), .bool o.isSome]) * cacheR c d C) := by
  refine tr_bodyR Tryz.func140 (by kernel_rfl) rfl Tryz.ntmps140 rfl (L := [(0, ptr c), (1, str key)]) (covers_cons rfl (covers_cons rfl covers_nil)) rfl ?_
  intro F w0 f
  refine CC.opn (cacheR c d C) rfl fun q => ?_
  have hi1 := h.idx.h1
  refine cc_seq ?_
  refine cc_region ?_
  refine r_alloc rfl (sd0 rfl) (fun _ => sd0 rfl) (fun p0_0 => ?_)
  refine rr_assign rfl rfl ?_
  refine rr_nil ?_
  refine cc_seq ?_
  refine cc_region ?_
  refine rr_move rfl rfl ?_
  refine rr_nilCheck rfl rfl ?_
  refine r_fa rfl rfl ?_
  refine r_ld rfl (ls0 rfl) rfl rfl ?_
  refine rr_move rfl rfl ?_
  refine rr_call rfl rfl rfl rfl (iget_tr q.2 C.idx key hkl h.idx.h0 (by omega)) inferInstance rfl (sd0 rfl) (fun _ => sd0 rfl) rfl (fun v => ?_)
  first | refine RR.pu2 ?_ | refine RR.pu ?_
  rintro rfl
  refine rr_move rfl rfl ?_
  refine rr_extract rfl rfl rfl ?_
  refine rr_extract rfl rfl rfl ?_
  refine rr_assign rfl rfl ?_
  refine rr_assign rfl rfl ?_
  refine rr_nil ?_
  refine cc_seq ?_
  refine cc_seq ?_
  refine cc_region ?_
  refine rr_move rfl rfl ?_
  refine r_not rfl rfl ?_
  refine rr_nil ?_
  refine cc_cond rfl (fun h20 => ?_) (fun h20 => ?_)
  · try simp only [decide_eq_true_eq, decide_eq_false_iff_not, beq_iff_eq, beq_eq_false_iff_ne, bne_iff_ne, bne_eq_false_iff_eq, ne_eq, Bool.not_eq_eq_eq_not, Bool.not_true, Bool.not_false] at h20
    have ho0 : o = none := by
      cases o with
      | none => rfl
      | some x => rw [ho.1] at h20; simp at h20
    subst ho0
    refine cc_seq ?_
    refine cc_region ?_
    refine r_bld rfl rfl rfl ?_
    refine r_sta rfl rfl rfl rfl rfl (by first | exact Nat.le_of_ble_eq_true rfl | simp) (sd0 rfl) (sd0 rfl) ?_
    refine rr_assign rfl rfl ?_
    refine rr_nil ?_
    refine cc_ret ?_
    first
    | exact ⟨_, .agg inferInstance rfl inferInstance rfl (.tmp rfl .nil), entW_pu2 rfl (entW_cls (cacheR c d C) (bl c 136 [ptr q.1, ptr q.2] * (logR q.1 d C.log * indexR q.2 C.idx)) (cacheR_mk c d q.1 q.2 _ _) entW_fr)⟩
  · try simp only [decide_eq_true_eq, decide_eq_false_iff_not, beq_iff_eq, beq_eq_false_iff_ne, bne_iff_ne, bne_eq_false_iff_eq, ne_eq, Bool.not_eq_eq_eq_not, Bool.not_true, Bool.not_false] at h20
    obtain ⟨x, rfl⟩ : ∃ x, o = some x := by
      cases o with
      | none => have : (getI C.idx key).2 = false := ho
                rw [this] at h20; simp at h20
      | some x => exact ⟨x, rfl⟩
    obtain ⟨ho1, ho2, ho3⟩ := ho
    have hb := readL_bound h.srt ho2
    have hnx := h.log.nx
    have hel := encItem_len2 ho3
    have hrl : (recOf x).length = (encItem x).length + 1 := rfl
    refine cc_skip ?_
    refine cc_seq ?_
    refine cc_region ?_
    refine rr_move rfl rfl ?_
    refine rr_nilCheck rfl rfl ?_
    refine r_fa rfl rfl ?_
    refine r_ld rfl (ls0 rfl) rfl rfl ?_
    refine rr_move rfl rfl ?_
    refine rr_call rfl rfl rfl rfl (lrd_tr q.1 d n k (getI C.idx key).1 C.log h.log h.srt (by omega) (by omega) (by omega)) inferInstance rfl (sd0 rfl) (fun _ => sd0 rfl) rfl (fun v => ?_)
    refine RR.ex1 fun u => ?_
    rw [ho2]
    simp only [Option.isSome_some, if_true, Option.getD_some]
    refine RR.pu2 ?_
    rintro rfl
    refine RR.slb u (by omega) fun ub uc urest e1 e2 e3 => ?_
    subst e1
    refine rr_move rfl rfl ?_
    refine rr_extract rfl rfl rfl ?_
    refine rr_extract rfl rfl rfl ?_
    refine rr_assign rfl rfl ?_
    refine rr_assign rfl rfl ?_
    refine rr_nil ?_
    refine cc_seq ?_
    refine cc_seq ?_
    refine cc_region ?_
    refine rr_move rfl rfl ?_
    refine r_int rfl rfl rfl rfl ?_
    refine rr_nil ?_
    refine cc_condF rfl ?_
    refine cc_skip ?_
    refine cc_seq ?_
    refine cc_region ?_
    refine rr_move rfl rfl ?_
    refine rr_call rfl rfl rfl rfl (fread_tr ub 0 (recOf x).length uc 5 (bv (recOf x) ++ urest) x ho3 rfl (by simp) (by simp at e3; omega) (by rw [List.drop_zero, List.take_left' (by simp)]; rfl)) inferInstance rfl (sd0 rfl) (fun _ => sd0 rfl) rfl (fun v => ?_)
    first | refine RR.pu2 ?_ | refine RR.pu ?_
    rintro rfl
    refine rr_extract rfl rfl rfl ?_
    refine rr_extract rfl rfl rfl ?_
    refine r_sta (cs' := itemV x) rfl rfl rfl rfl rfl (Nat.le_of_ble_eq_true rfl) (sd0 rfl) (sd0 rfl) ?_
    refine rr_assign rfl rfl ?_
    refine rr_nil ?_
    refine cc_ret ?_
    first
    | exact ⟨_, .agg inferInstance rfl inferInstance rfl (.tmp rfl .nil), entW_pu2 rfl (entW_cls (cacheR c d C) (bl c 136 [ptr q.1, ptr q.2] * (logR q.1 d C.log * indexR q.2 C.idx)) (cacheR_mk c d q.1 q.2 _ _) entW_fr)⟩
def getC (o : Option ItemS) (now : Int) : Option ItemS := match o with
  | some x => if itemLive x now then some x else none
  | none => none
theorem fget_tr (c d n k : Nat) (C : CacheS) (key : Txt) (now : Int) (o : Option ItemS) (h : CacheOK C n k) (hk : k ≤ 2 ^ 27) (hkl : key.length ≤ 2 ^ 30) (ho : EntIs C key o) :
    Tr Tryz.prog 98 #[ptr c, str key, i64 now] (cacheR c d C) (fun v => pu (v = .tuple #[itemA ((getC o now).getD item0), .bool (getC o now).isSome]) * cacheR c d C) := by
  refine tr_bodyR Tryz.func98 (by kernel_rfl) rfl Tryz.ntmps98 rfl (L := [(0, ptr c), (1, str key), (2, i64 now)]) (covers_cons rfl (covers_cons rfl (covers_cons rfl covers_nil))) rfl ?_
  intro F w0 f
  refine cc_seq ?_
  refine cc_region ?_
  refine r_alloc rfl (sd0 rfl) (fun _ => sd0 rfl) (fun p0_0 => ?_)
  refine rr_assign rfl rfl ?_
  refine rr_nil ?_
  refine cc_seq ?_
  refine cc_seq ?_
  refine cc_region ?_
  refine rr_move rfl rfl ?_
  refine r_pnil rfl rfl rfl ?_
  refine rr_nil ?_
  refine cc_condF rfl ?_
  refine cc_skip ?_
  refine cc_seq ?_
  refine cc_region ?_
  refine rr_move rfl rfl ?_
  refine rr_move rfl rfl ?_
  refine rr_call rfl rfl rfl rfl (fentry_tr c d n k C key o h hk hkl ho) inferInstance rfl (sd0 rfl) (fun _ => sd0 rfl) rfl (fun v => ?_)
  first | refine RR.pu2 ?_ | refine RR.pu ?_
  rintro rfl
  refine rr_move rfl rfl ?_
  refine rr_extract rfl rfl rfl ?_
  refine rr_extract rfl rfl rfl ?_
  refine r_alloc rfl (sd0 rfl) (fun _ => sd0 rfl) (fun p3_6 => ?_)
  refine r_sta (cs' := itemV (o.getD item0)) rfl rfl rfl rfl rfl (Nat.le_of_ble_eq_true rfl) (sd0 rfl) (sd0 rfl) ?_
  refine rr_assign rfl rfl ?_
  refine rr_nil ?_
  refine cc_seq ?_
  refine cc_seq ?_
  refine cc_region ?_
  refine rr_move rfl rfl ?_
  refine r_not rfl rfl ?_
  refine rr_move rfl rfl ?_
  refine rr_guard rfl rfl rfl (fun hg4_2 => ?_) (fun hg4_2 => ?_)
  · refine r_lda rfl (by first | exact ls0 rfl | exact ls1 rfl) (vs := itemV (o.getD item0)) rfl rfl ?_
    refine rr_guardY rfl rfl rfl ?_
    refine rr_move rfl rfl ?_
    refine rr_guardY rfl rfl rfl ?_
    refine rr_call rfl rfl rfl rfl (ilive_tr (o.getD item0) now) inferInstance rfl (sd0 rfl) (fun _ => sd0 rfl) rfl (fun v => ?_)
    first | refine RR.pu2 ?_ | refine RR.pu ?_
    rintro rfl
    refine rr_guardY rfl rfl rfl ?_
    refine r_not rfl rfl ?_
    first | refine rr_pick rfl rfl ?_ | refine rr_pickb rfl rfl rfl rfl ?_
    refine rr_nil ?_
    refine cc_cond rfl (fun h26 => ?_) (fun h26 => ?_)
    · try simp only [decide_eq_true_eq, decide_eq_false_iff_not, beq_iff_eq, beq_eq_false_iff_ne, bne_iff_ne, bne_eq_false_iff_eq, ne_eq, Bool.not_eq_eq_eq_not, Bool.not_true, Bool.not_false] at h26
      refine cc_seq ?_
      refine cc_region ?_
      refine r_bld rfl rfl rfl ?_
      refine r_sta rfl rfl rfl rfl rfl (by first | exact Nat.le_of_ble_eq_true rfl | simp) (sd0 rfl) (sd0 rfl) ?_
      refine rr_assign rfl rfl ?_
      refine rr_nil ?_
      refine cc_ret ?_
      first
      | (have hG : getC o now = none := by
           cases o with
           | none => rfl
           | some x => (simp only [getC, Option.getD_some, Option.isSome_some] at *; grind)
         exact ⟨_, .agg inferInstance rfl inferInstance rfl (.tmp rfl .nil), entW_pu2 (by rw [hG]; rfl) entW_fr⟩)
      | (obtain ⟨x, rfl⟩ : ∃ x, o = some x := by
           cases o with
           | none => (simp at *; done)
           | some x => exact ⟨x, rfl⟩
         have hG : getC (some x) now = some x := by (simp only [getC, Option.getD_some, Option.isSome_some] at *; grind)
         exact ⟨_, .agg inferInstance rfl inferInstance rfl (.tmp rfl .nil), entW_pu2 (by rw [hG]; rfl) entW_fr⟩)
      | (exfalso; grind)
    · try simp only [decide_eq_true_eq, decide_eq_false_iff_not, beq_iff_eq, beq_eq_false_iff_ne, bne_iff_ne, bne_eq_false_iff_eq, ne_eq, Bool.not_eq_eq_eq_not, Bool.not_true, Bool.not_false] at h26
      refine cc_skip ?_
      refine cc_seq ?_
      refine cc_region ?_
      refine r_lda rfl (ls0 rfl) (vs := itemV (o.getD item0)) rfl rfl ?_
      refine r_sta (cs' := itemV (o.getD item0)) rfl rfl rfl rfl rfl (Nat.le_of_ble_eq_true rfl) (sd0 rfl) (sd0 rfl) ?_
      refine rr_assign rfl rfl ?_
      refine rr_nil ?_
      refine cc_ret ?_
      first
      | (have hG : getC o now = none := by
           cases o with
           | none => rfl
           | some x => (simp only [getC, Option.getD_some, Option.isSome_some] at *; grind)
         exact ⟨_, .agg inferInstance rfl inferInstance rfl (.tmp rfl .nil), entW_pu2 (by rw [hG]; rfl) entW_fr⟩)
      | (obtain ⟨x, rfl⟩ : ∃ x, o = some x := by
           cases o with
           | none => (simp at *; done)
           | some x => exact ⟨x, rfl⟩
         have hG : getC (some x) now = some x := by (simp only [getC, Option.getD_some, Option.isSome_some] at *; grind)
         exact ⟨_, .agg inferInstance rfl inferInstance rfl (.tmp rfl .nil), entW_pu2 (by rw [hG]; rfl) entW_fr⟩)
      | (exfalso; grind)
  · refine rr_guardN rfl rfl rfl rfl ?_
    refine rr_guardN rfl rfl rfl rfl ?_
    refine rr_guardN rfl rfl rfl rfl ?_
    first | refine rr_pick rfl rfl ?_ | refine rr_pickb rfl rfl rfl rfl ?_
    refine rr_nil ?_
    refine cc_cond rfl (fun h26 => ?_) (fun h26 => ?_)
    · try simp only [decide_eq_true_eq, decide_eq_false_iff_not, beq_iff_eq, beq_eq_false_iff_ne, bne_iff_ne, bne_eq_false_iff_eq, ne_eq, Bool.not_eq_eq_eq_not, Bool.not_true, Bool.not_false] at h26
      refine cc_seq ?_
      refine cc_region ?_
      refine r_bld rfl rfl rfl ?_
      refine r_sta rfl rfl rfl rfl rfl (by first | exact Nat.le_of_ble_eq_true rfl | simp) (sd0 rfl) (sd0 rfl) ?_
      refine rr_assign rfl rfl ?_
      refine rr_nil ?_
      refine cc_ret ?_
      first
      | (have hG : getC o now = none := by
           cases o with
           | none => rfl
           | some x => (simp only [getC, Option.getD_some, Option.isSome_some] at *; grind)
         exact ⟨_, .agg inferInstance rfl inferInstance rfl (.tmp rfl .nil), entW_pu2 (by rw [hG]; rfl) entW_fr⟩)
      | (obtain ⟨x, rfl⟩ : ∃ x, o = some x := by
           cases o with
           | none => (simp at *; done)
           | some x => exact ⟨x, rfl⟩
         have hG : getC (some x) now = some x := by (simp only [getC, Option.getD_some, Option.isSome_some] at *; grind)
         exact ⟨_, .agg inferInstance rfl inferInstance rfl (.tmp rfl .nil), entW_pu2 (by rw [hG]; rfl) entW_fr⟩)
      | (exfalso; grind)
    · try simp only [decide_eq_true_eq, decide_eq_false_iff_not, beq_iff_eq, beq_eq_false_iff_ne, bne_iff_ne, bne_eq_false_iff_eq, ne_eq, Bool.not_eq_eq_eq_not, Bool.not_true, Bool.not_false] at h26
      refine cc_skip ?_
      refine cc_seq ?_
      refine cc_region ?_
      refine r_lda rfl (ls0 rfl) (vs := itemV (o.getD item0)) rfl rfl ?_
      refine r_sta (cs' := itemV (o.getD item0)) rfl rfl rfl rfl rfl (Nat.le_of_ble_eq_true rfl) (sd0 rfl) (sd0 rfl) ?_
      refine rr_assign rfl rfl ?_
      refine rr_nil ?_
      refine cc_ret ?_
      first
      | (have hG : getC o now = none := by
           cases o with
           | none => rfl
           | some x => (simp only [getC, Option.getD_some, Option.isSome_some] at *; grind)
         exact ⟨_, .agg inferInstance rfl inferInstance rfl (.tmp rfl .nil), entW_pu2 (by rw [hG]; rfl) entW_fr⟩)
      | (obtain ⟨x, rfl⟩ : ∃ x, o = some x := by
           cases o with
           | none => (simp at *; done)
           | some x => exact ⟨x, rfl⟩
         have hG : getC (some x) now = some x := by (simp only [getC, Option.getD_some, Option.isSome_some] at *; grind)
         exact ⟨_, .agg inferInstance rfl inferInstance rfl (.tmp rfl .nil), entW_pu2 (by rw [hG]; rfl) entW_fr⟩)
      | (exfalso; grind)
theorem lflushR_tr (l d : Nat) (L : LogS) (D : DevS) : Tr Tryz.prog 55 #[ptr l] (logR l d L * devR d D) (fun v => pu (v = i64 0) * (logR l d L * devR d (flushD D))) := by
  refine tr_ex (by kernel_rfl) fun lv => tr_ex (by kernel_rfl) fun gs => tr_pu (by kernel_rfl) fun hgs => ?_
  refine tr_ent (tr_frame (slR lv 234 1 gs.length (gs.flatMap fun x => [ptr x.1]) * segsR gs) (lflush_tr l d L D lv)) (fun F => entW_fr) fun v F w' s2 => ?_
  rw [sl_assoc, sl_assoc] at s2
  obtain ⟨hv, s2⟩ := sat_pu.1 s2
  refine Sat.pu2 ?_ hv
  refine entW_cls (logR l d L) (logB l d L lv * (slR lv 234 1 gs.length (gs.flatMap fun x => [ptr x.1]) * segsR gs)) (logR_mk l d L lv gs hgs) ?_ w' s2
  exact entW_fr
theorem fflush_tr (c d : Nat) (C : CacheS) (D : DevS) : Tr Tryz.prog 23 #[ptr c] (cacheR c d C * devR d D) (fun v => pu (v = i64 0) * (cacheR c d C * devR d (flushD D))) := by
  refine tr_body Tryz.func23 (by kernel_rfl) rfl Tryz.ntmps23 rfl (L := [(0, ptr c)]) (covers_cons rfl covers_nil) rfl ?_
  intro F w0 f
  refine CC.opn (cacheR c d C) rfl fun q => ?_
  refine cc_seq ?_
  refine cc_region ?_
  refine rr_assign rfl rfl ?_
  refine rr_nil ?_
  refine cc_seq ?_
  refine cc_seq ?_
  refine cc_region ?_
  refine rr_move rfl rfl ?_
  refine r_pnil rfl rfl rfl ?_
  refine rr_nil ?_
  refine cc_condF rfl ?_
  refine cc_skip ?_
  refine cc_seq ?_
  refine cc_region ?_
  refine rr_move rfl rfl ?_
  refine rr_nilCheck rfl rfl ?_
  refine r_fa rfl rfl ?_
  refine r_ld rfl (ls0 rfl) rfl rfl ?_
  refine rr_call rfl rfl rfl rfl (lflushR_tr q.1 d C.log D) inferInstance rfl (sd0 rfl) (fun _ => sd0 rfl) rfl (fun v => ?_)
  first | refine RR.pu2 ?_ | refine RR.pu ?_
  rintro rfl
  refine rr_assign rfl rfl ?_
  refine rr_nil ?_
  refine cc_ret ?_
  exact ⟨_, rfl, entW_pu2 rfl (entW_cls (cacheR c d C) (bl c 136 [ptr q.1, ptr q.2] * (logR q.1 d C.log * indexR q.2 C.idx)) (cacheR_mk c d q.1 q.2 _ _) entW_fr)⟩
def wipeC (C : CacheS) : CacheS := ⟨(addC C [2]).log, idx0⟩
theorem fwipe_tr (c d n k : Nat) (C : CacheS) (D : DevS) (h : CacheOK C n k) (hk : k ≤ 2 ^ 27) (hn : n = D.length) :
    Tr Tryz.prog 116 #[ptr c] (cacheR c d C * devR d D) (fun v => pu (v = i64 0) * (cacheR c d (wipeC C) * devR d (flushD (appD C.log D [2])))) := by
  refine tr_body Tryz.func116 (by kernel_rfl) rfl Tryz.ntmps116 rfl (L := [(0, ptr c)]) (covers_cons rfl covers_nil) rfl ?_
  intro F w0 f
  refine cc_seq ?_
  refine cc_region ?_
  refine rr_assign rfl rfl ?_
  refine rr_nil ?_
  refine cc_seq ?_
  refine cc_seq ?_
  refine cc_region ?_
  refine rr_move rfl rfl ?_
  refine r_pnil rfl rfl rfl ?_
  refine rr_nil ?_
  refine cc_condF rfl ?_
  refine cc_skip ?_
  refine cc_seq ?_
  refine cc_seq ?_
  refine cc_region ?_
  refine rr_move rfl rfl ?_
  refine r_bsl (cs := [.int .u8 2]) rfl rfl rfl rfl rfl rfl (by first | exact sd0 rfl | exact sd1 rfl) (fun _ => by first | exact sd0 rfl | exact sd1 rfl) (fun p3_1 => ?_)
  refine RR.cl (X := bl p3_1 5 [.int .u8 2]) (Y := slR (.slice (some ⟨p3_1, 0, none⟩) 1 1) 5 1 ([2] : Txt).length (bv [2])) (slR_new rfl) ?_
  refine rr_call rfl rfl rfl rfl (fadd_tr c d n k (.slice (some ⟨p3_1, 0, none⟩) 1 1) C D [2] h hk hn (by simp) (by simp)) inferInstance rfl (sd0 rfl) (fun _ => sd0 rfl) rfl (fun v => ?_)
  first | refine RR.pu2 ?_ | refine RR.pu ?_
  rintro rfl
  refine rr_move rfl rfl ?_
  refine rr_extract rfl rfl rfl ?_
  refine rr_extract rfl rfl rfl ?_
  refine rr_assign rfl rfl ?_
  refine rr_assign rfl rfl ?_
  refine rr_nil ?_
  refine cc_seq ?_
  refine cc_region ?_
  refine rr_move rfl rfl ?_
  refine r_int rfl rfl rfl rfl ?_
  refine rr_nil ?_
  refine cc_condF rfl ?_
  refine cc_skip ?_
  refine cc_seq ?_
  refine CC.opn (cacheR c d (addC C [2])) rfl fun q => ?_
  refine cc_region ?_
  refine rr_move rfl rfl ?_
  refine rr_call rfl rfl rfl rfl (inew_tr) inferInstance rfl (sd0 rfl) (fun _ => sd0 rfl) rfl (fun v => ?_)
  refine RR.ex1 fun xx => ?_
  refine RR.pu2 ?_
  rintro rfl
  refine rr_nilCheck rfl rfl ?_
  refine r_fa rfl rfl ?_
  refine r_st rfl rfl rfl rfl (sd0 rfl) (sd0 rfl) ?_
  refine rr_nil ?_
  refine cc_seq ?_
  refine cc_region ?_
  refine rr_move rfl rfl ?_
  refine rr_nilCheck rfl rfl ?_
  refine r_fa rfl rfl ?_
  refine r_ld rfl (ls0 rfl) rfl rfl ?_
  refine rr_call rfl rfl rfl rfl (lflushR_tr q.1 d (addC C [2]).log (appD C.log D [2])) inferInstance rfl (sd0 rfl) (fun _ => sd0 rfl) rfl (fun v => ?_)
  first | refine RR.pu2 ?_ | refine RR.pu ?_
  rintro rfl
  refine rr_assign rfl rfl ?_
  refine rr_nil ?_
  refine cc_ret ?_
  exact ⟨_, rfl, entW_pu2 rfl (entW_cls (cacheR c d (wipeC C)) (bl c 136 [ptr q.1, ptr xx] * (logR q.1 d (addC C [2]).log * indexR xx idx0)) (cacheR_mk c d q.1 xx _ _) entW_fr)⟩
def tomb (key : Txt) : ItemS := ⟨key, [], 0, true⟩
theorem tomb_may {key : Txt} (h : keyOk key = true) : itemMay (tomb key) = true := by simp [itemMay, tomb, h]
/-- a key goes -/
def drop1 (S : CacheS × DevS) (key : Txt) : CacheS × DevS := (⟨(addC S.1 (recOf (tomb key))).log, (dropI (addC S.1 (recOf (tomb key))).idx key).2⟩, appD S.1.log S.2 (recOf (tomb key)))
def dropsC (S : CacheS × DevS) (ks : List Txt) : CacheS × DevS := ks.foldl drop1 S
theorem recOf_len {x : ItemS} (h : itemMay x = true) : 1 ≤ (recOf x).length ∧ (recOf x).length ≤ 300 := by
  have := encItem_len2 h
  have hrl : (recOf x).length = (encItem x).length + 1 := rfl
  omega
theorem CacheOK.drop1 {S : CacheS × DevS} {n k : Nat} (h : CacheOK S.1 n k) {key : Txt} (hk : keyOk key = true) : CacheOK (drop1 S key).1 n (k + 2) := by
  have := h.add (recOf_len (tomb_may hk)).2
  exact ⟨this.log, this.srt, this.idx.drop key⟩
theorem drops_ok {n : Nat} : ∀ (ks : List Txt) {S : CacheS × DevS} {k : Nat}, CacheOK S.1 n k → (∀ key ∈ ks, keyOk key = true) → CacheOK (dropsC S ks).1 n (k + 2 * ks.length)
  | [], S, k, h, _ => h
  | key :: ks, S, k, h, hk => by
    have := drops_ok ks (h.drop1 (hk key (by simp))) (fun x hx => hk x (by simp [hx]))
    rw [show k + 2 + 2 * ks.length = k + 2 * (key :: ks).length by simp; omega] at this
    exact this
theorem drop1_len (S : CacheS × DevS) (key : Txt) : (drop1 S key).2.length = S.2.length := by unfold drop1; exact appD_len _ _ _
theorem drops_len : ∀ (ks : List Txt) (S : CacheS × DevS), (dropsC S ks).2.length = S.2.length
  | [], _ => rfl
  | key :: ks, S => (drops_len ks _).trans (drop1_len S key)
theorem drops_take {S : CacheS × DevS} {ks : List Txt} {j : Nat} {key : Txt} (h : ks[j]? = some key) : dropsC S (ks.take (j + 1)) = drop1 (dropsC S (ks.take j)) key := foldl_take_succ drop1 S h
theorem fdrop_tr (c d n k p c2 : Nat) (rest : List Value) (C : CacheS) (D : DevS) (ks : List Txt) (h : CacheOK C n k) (hk : k + 2 * ks.length ≤ 2 ^ 27) (hn : n = D.length) (hks : ∀ key ∈ ks, keyOk key = true) :
    Tr Tryz.prog 97 #[ptr c, .slice (some ⟨p, 0, none⟩) ks.length c2] (cacheR c d C * devR d D * bl p 9 (ks.map str ++ rest)) (fun v => pu (v = i64 0) * (cacheR c d (dropsC (C, D) ks).1 * devR d (flushD (dropsC (C, D) ks).2) * bl p 9 (ks.map str ++ rest))) := by
  subst hn
  refine tr_body Tryz.func97 (by kernel_rfl) rfl Tryz.ntmps97 rfl (L := [(0, ptr c), (1, .slice (some ⟨p, 0, none⟩) ks.length c2)]) (covers_cons rfl (covers_cons rfl covers_nil)) rfl ?_
  intro F w0 f
  have hld : ∀ (j : Nat) (key : Txt), ks[j]? = some key → nth (ks.map str ++ rest) (0 + (j : Int).toNat * 1) = some (str key) := by
    intro j key hj
    rw [show 0 + (j : Int).toNat * 1 = j by omega, nth_eq, List.getElem?_append_left (by have := get_lt hj; simp; omega)]
    simp [hj]
  refine cc_seq ?_
  refine cc_region ?_
  refine rr_assign rfl rfl ?_
  refine rr_nil ?_
  refine cc_seq ?_
  refine cc_seq ?_
  refine cc_region ?_
  refine rr_move rfl rfl ?_
  refine r_pnil rfl rfl rfl ?_
  refine rr_nil ?_
  refine cc_condF rfl ?_
  refine cc_skip ?_
  refine cc_seq ?_
  refine cc_seq ?_
  refine cc_region ?_
  refine rr_move rfl rfl ?_
  refine r_lens rfl rfl ?_
  refine rr_move rfl rfl ?_
  refine rr_nil ?_
  refine cc_block ?_
  refine cc_loopW (α := Nat) (fun j => [(15, i64 j), (14, i64 ks.length), (13, .slice (some ⟨p, 0, none⟩) ks.length c2), (0, ptr c), (1, .slice (some ⟨p, 0, none⟩) ks.length c2)]) (fun j => pu (j ≤ ks.length) * (cacheR c d C * devR d D * bl p 9 (ks.map str ++ rest) * F)) (fun j => ks.length - j) (0) (by ((repeat' (first | exact covers_nil | (refine covers_cons ?_ ?_; focus (first | rfl | (simp [lk, lk?]; done))))) ; (first | done | fail))) (by exact entW_pu (by omega) entW_fr) ?_
  rintro j f
  refine CC.pu fun hj => ?_
  refine cc_seq ?_
  refine cc_region ?_
  refine r_int rfl rfl rfl rfl ?_
  refine rr_nil ?_
  refine cc_seq ?_
  refine cc_cond rfl (fun h16 => ?_) (fun h16 => ?_)
  · try simp only [decide_eq_true_eq, decide_eq_false_iff_not, beq_iff_eq, beq_eq_false_iff_ne, bne_iff_ne, bne_eq_false_iff_eq, ne_eq, Bool.not_eq_eq_eq_not, Bool.not_true, Bool.not_false] at h16
    obtain ⟨key, hkey⟩ := lt_get (l := ks) (j := j) (by omega)
    have hko := hks key (get_mem hkey)
    refine cc_skip ?_
    refine cc_seq ?_
    refine cc_block ?_
    refine cc_seq ?_
    refine cc_region ?_
    refine r_ix rfl rfl rfl (by omega) ?_
    refine r_ld rfl (ls0 rfl) (hld j key hkey) rfl ?_
    refine rr_assign rfl rfl ?_
    refine rr_nil ?_
    refine cc_seq ?_
    refine cc_region ?_
    refine rr_move rfl rfl ?_
    refine rr_call rfl rfl rfl rfl (key_tr key) inferInstance rfl (sd0 rfl) (fun _ => sd0 rfl) rfl (fun v => ?_)
    first | refine RR.pu2 ?_ | refine RR.pu ?_
    rintro rfl
    refine r_not rfl rfl ?_
    refine rr_nil ?_
    refine cc_condFp rfl (by rw [hko]; rfl) ?_
    refine cc_skip ?_
    refine cc_region ?_
    refine r_add rfl rfl rfl (by omega) ?_
    refine rr_move rfl rfl ?_
    refine rr_nil ?_
    exact ⟨j + 1, by omega, by ((repeat' (first | exact covers_nil | (refine covers_cons ?_ ?_; focus (first | rfl | (simp [lk, lk?]; done))))) ; (first | done | fail)), entW_pu (by omega) entW_fr⟩
  · try simp only [decide_eq_true_eq, decide_eq_false_iff_not, beq_iff_eq, beq_eq_false_iff_ne, bne_iff_ne, bne_eq_false_iff_eq, ne_eq, Bool.not_eq_eq_eq_not, Bool.not_true, Bool.not_false] at h16
    refine cc_exit ?_
    refine cc_seq ?_
    refine cc_seq ?_
    refine cc_region ?_
    refine rr_move rfl rfl ?_
    refine r_lens rfl rfl ?_
    refine rr_move rfl rfl ?_
    refine rr_nil ?_
    refine cc_block ?_
    refine cc_loopW (α := Nat) (fun j => [(25, i64 j), (24, i64 ks.length), (23, .slice (some ⟨p, 0, none⟩) ks.length c2), (0, ptr c)]) (fun j => pu (j ≤ ks.length) * (cacheR c d (dropsC (C, D) (ks.take j)).1 * devR d (dropsC (C, D) (ks.take j)).2 * bl p 9 (ks.map str ++ rest) * F)) (fun j => ks.length - j) (0) (by ((repeat' (first | exact covers_nil | (refine covers_cons ?_ ?_; focus (first | rfl | (simp [lk, lk?]; done))))) ; (first | done | fail))) (by exact entW_pu (by omega) (by simp only [List.take_zero, dropsC, List.foldl_nil]; exact entW_fr)) ?_
    rintro j f
    refine CC.pu fun hj => ?_
    refine cc_seq ?_
    refine cc_region ?_
    refine r_int rfl rfl rfl rfl ?_
    refine rr_nil ?_
    refine cc_seq ?_
    refine cc_cond rfl (fun h26 => ?_) (fun h26 => ?_)
    · try simp only [decide_eq_true_eq, decide_eq_false_iff_not, beq_iff_eq, beq_eq_false_iff_ne, bne_iff_ne, bne_eq_false_iff_eq, ne_eq, Bool.not_eq_eq_eq_not, Bool.not_true, Bool.not_false] at h26
      obtain ⟨key, hkey⟩ := lt_get (l := ks) (j := j) (by omega)
      have hko := hks key (get_mem hkey)
      have hOK : CacheOK (dropsC (C, D) (ks.take j)).1 D.length (k + 2 * j) := by
        have := drops_ok (ks.take j) (S := (C, D)) h (fun x hx => hks x (List.mem_of_mem_take hx))
        rwa [List.length_take, Nat.min_eq_left (by omega)] at this
      have hSl : (dropsC (C, D) (ks.take j)).2.length = D.length := drops_len _ _
      have htm := tomb_may hko
      have hrl := recOf_len htm
      have hkl : key.length ≤ 40 := (itemMay_spec htm).2.1
      have hel := encItem_len2 htm
      have hnx := drops_take (S := (C, D)) hkey
      generalize dropsC (C, D) (ks.take j) = S at *
      have hC1 := hOK.add (b := recOf (tomb key)) hrl.2
      have hnb := hC1.idx.nb
      have hi1 := hC1.idx.h1
      refine cc_skip ?_
      refine cc_seq ?_
      refine cc_block ?_
      refine cc_seq ?_
      refine cc_region ?_
      refine r_ix rfl rfl rfl (by omega) ?_
      refine r_ld rfl (ls0 rfl) (hld j key hkey) rfl ?_
      refine rr_assign rfl rfl ?_
      refine rr_nil ?_
      refine cc_seq ?_
      refine cc_seq ?_
      refine cc_region ?_
      refine rr_move rfl rfl ?_
      refine r_bsl (cs := [.int .u8 1]) rfl rfl rfl rfl rfl rfl (by first | exact sd0 rfl | exact sd1 rfl) (fun _ => by first | exact sd0 rfl | exact sd1 rfl) (fun p5_1 => ?_)
      refine RR.cl (X := bl p5_1 5 [.int .u8 1]) (Y := slR (.slice (some ⟨p5_1, 0, none⟩) 1 1) 5 1 ([1] : Txt).length (bv [1])) (slR_new rfl) ?_
      refine rr_move rfl rfl ?_
      refine r_bld rfl rfl rfl ?_
      refine r_bsl (cs := [tomb key].flatMap itemV ++ []) rfl rfl rfl rfl rfl rfl (by first | exact sd0 rfl | exact sd1 rfl) (fun _ => by first | exact sd0 rfl | exact sd1 rfl) (fun p5_3 => ?_)
      refine rr_call rfl rfl rfl rfl (iencode_tr p5_3 1 [] [tomb key] (by simpa using htm) (by simp)) inferInstance rfl (sd0 rfl) (fun _ => sd0 rfl) rfl (fun v => ?_)
      rw [show encItems [tomb key] = encItem (tomb key) by simp [encItems]]
      refine r_appB ([1]) (encItem (tomb key)) rfl rfl (.inl (by rw [spv_underlying]; kernel_rfl)) inferInstance rfl (fun w sa => src_slR sa) (by simp; omega) rfl rfl (sd0 rfl) (fun _ => sd0 rfl) (fun v => ?_)
      rw [show ([1] : Txt) ++ encItem (tomb key) = recOf (tomb key) from rfl]
      refine rr_call rfl rfl rfl rfl (fadd_tr c d D.length (k + 2 * j) v S.1 S.2 (recOf (tomb key)) hOK (by omega) hSl.symm hrl.1 hrl.2) inferInstance rfl (sd0 rfl) (fun _ => sd0 rfl) rfl (fun v => ?_)
      first | refine RR.pu2 ?_ | refine RR.pu ?_
      rintro rfl
      refine rr_move rfl rfl ?_
      refine rr_extract rfl rfl rfl ?_
      refine rr_extract rfl rfl rfl ?_
      refine rr_assign rfl rfl ?_
      refine rr_assign rfl rfl ?_
      refine rr_nil ?_
      refine cc_seq ?_
      refine cc_region ?_
      refine rr_move rfl rfl ?_
      refine r_int rfl rfl rfl rfl ?_
      refine rr_nil ?_
      refine cc_condF rfl ?_
      refine cc_skip ?_
      refine CC.opn (cacheR c d (addC S.1 (recOf (tomb key)))) rfl fun q => ?_
      refine cc_region ?_
      refine rr_move rfl rfl ?_
      refine rr_nilCheck rfl rfl ?_
      refine r_fa rfl rfl ?_
      refine r_ld rfl (ls0 rfl) rfl rfl ?_
      refine rr_move rfl rfl ?_
      refine rr_call rfl rfl rfl rfl (idrop_tr q.2 (addC S.1 (recOf (tomb key))).idx key (by omega) hC1.idx.h0 (by omega) hnb.1 hnb.2) inferInstance rfl (sd0 rfl) (fun _ => sd0 rfl) rfl (fun v => ?_)
      first | refine RR.pu2 ?_ | refine RR.pu ?_
      rintro rfl
      refine rr_nil ?_
      refine cc_region ?_
      refine r_add rfl rfl rfl (by omega) ?_
      refine rr_move rfl rfl ?_
      refine rr_nil ?_
      refine ⟨j + 1, by omega, by ((repeat' (first | exact covers_nil | (refine covers_cons ?_ ?_; focus (first | rfl | (simp [lk, lk?]; done))))) ; (first | done | fail)), entW_pu (by omega) ?_⟩
      rw [hnx, show (drop1 S key).2 = appD S.1.log S.2 (recOf (tomb key)) from rfl]
      exact entW_cls (cacheR c d (drop1 S key).1) (bl c 136 [ptr q.1, ptr q.2] * (logR q.1 d (addC S.1 (recOf (tomb key))).log * indexR q.2 (dropI (addC S.1 (recOf (tomb key))).idx key).2)) (cacheR_mk c d q.1 q.2 _ _) entW_fr
    · try simp only [decide_eq_true_eq, decide_eq_false_iff_not, beq_iff_eq, beq_eq_false_iff_ne, bne_iff_ne, bne_eq_false_iff_eq, ne_eq, Bool.not_eq_eq_eq_not, Bool.not_true, Bool.not_false] at h26
      obtain rfl : j = ks.length := by omega
      rw [List.take_length]
      refine CC.opn (cacheR c d (dropsC (C, D) ks).1) rfl fun q => ?_
      refine cc_exit ?_
      refine cc_seq ?_
      refine cc_region ?_
      refine rr_move rfl rfl ?_
      refine rr_nilCheck rfl rfl ?_
      refine r_fa rfl rfl ?_
      refine r_ld rfl (ls0 rfl) rfl rfl ?_
      refine rr_call rfl rfl rfl rfl (lflushR_tr q.1 d (dropsC (C, D) ks).1.log (dropsC (C, D) ks).2) inferInstance rfl (sd0 rfl) (fun _ => sd0 rfl) rfl (fun v => ?_)
      first | refine RR.pu2 ?_ | refine RR.pu ?_
      rintro rfl
      refine rr_assign rfl rfl ?_
      refine rr_nil ?_
      refine cc_ret ?_
      exact ⟨_, rfl, entW_pu2 rfl (entW_cls (cacheR c d (dropsC (C, D) ks).1) (bl c 136 [ptr q.1, ptr q.2] * (logR q.1 d (dropsC (C, D) ks).1.log * indexR q.2 (dropsC (C, D) ks).1.idx)) (cacheR_mk c d q.1 q.2 _ _) entW_fr)⟩
theorem fopen0_tr (d from_ segs : Nat) (D : DevS) (h1 : 3 ≤ segs) (h2 : segs ≤ 200) (h3 : from_ + segs * 8 ≤ D.length) (hz : zeroReg D from_ (segs * 8)) :
    Tr Tryz.prog 112 #[ptr d, i64 from_, i64 segs] (devR d D) (fun v => ex fun c => pu (v = .tuple #[ptr c, i64 0]) * (cacheR c d ⟨⟨from_, segs, [], 1, 1, true⟩, idx0⟩ * devR d D)) := by
  refine tr_body Tryz.func112 (by kernel_rfl) rfl Tryz.ntmps112 rfl (L := [(0, ptr d), (1, i64 from_), (2, i64 segs)]) (covers_cons rfl (covers_cons rfl (covers_cons rfl covers_nil))) rfl ?_
  intro F w0 f
  refine cc_seq ?_
  refine cc_region ?_
  refine rr_assign rfl rfl ?_
  refine rr_assign rfl rfl ?_
  refine rr_nil ?_
  refine cc_seq ?_
  refine cc_region ?_
  refine rr_move rfl rfl ?_
  refine rr_move rfl rfl ?_
  refine rr_move rfl rfl ?_
  refine rr_call rfl rfl rfl rfl (lopen0_tr d from_ segs D h1 h2 h3 hz) inferInstance rfl (sd0 rfl) (fun _ => sd0 rfl) rfl (fun v => ?_)
  refine RR.ex1 fun l => ?_
  refine RR.pu2 ?_
  rintro rfl
  refine rr_move rfl rfl ?_
  refine rr_extract rfl rfl rfl ?_
  refine rr_extract rfl rfl rfl ?_
  refine rr_assign rfl rfl ?_
  refine rr_assign rfl rfl ?_
  refine rr_nil ?_
  refine cc_seq ?_
  refine cc_seq ?_
  refine cc_region ?_
  refine rr_move rfl rfl ?_
  refine r_int rfl rfl rfl rfl ?_
  refine rr_nil ?_
  refine cc_condF rfl ?_
  refine cc_skip ?_
  refine cc_seq ?_
  refine cc_region ?_
  refine rr_move rfl rfl ?_
  refine rr_call rfl rfl rfl rfl (inew_tr) inferInstance rfl (sd0 rfl) (fun _ => sd0 rfl) rfl (fun v => ?_)
  refine RR.ex1 fun xx => ?_
  refine RR.pu2 ?_
  rintro rfl
  refine r_bld rfl rfl rfl ?_
  refine r_boxa rfl rfl (sd0 rfl) (fun _ => sd0 rfl) (fun p4_3 => ?_)
  refine rr_assign rfl rfl ?_
  refine rr_nil ?_
  refine cc_seq ?_
  refine cc_seq ?_
  refine cc_region ?_
  refine rr_move rfl rfl ?_
  refine rr_call rfl rfl rfl rfl (lall0_tr l d from_ segs 1 1 true) inferInstance rfl (sd0 rfl) (fun _ => sd0 rfl) rfl (fun v => ?_)
  first | refine RR.pu2 ?_ | refine RR.pu ?_
  rintro rfl
  refine r_lens rfl rfl ?_
  refine rr_move rfl rfl ?_
  refine rr_nil ?_
  refine cc_block ?_
  refine cc_loopW (α := Nat) (fun j => [(32, i64 0), (31, i64 0), (10, ptr p4_3)]) (fun j => bl p4_3 136 [ptr l, ptr xx] * (logR l d ⟨from_, segs, [], 1, 1, true⟩ * (indexR xx idx0 * (devR d D * F)))) (fun j => j) (0) (by ((repeat' (first | exact covers_nil | (refine covers_cons ?_ ?_; focus (first | rfl | (simp [lk, lk?]; done))))) ; (first | done | fail))) (by exact entW_fr) ?_
  rintro j f
  refine cc_seq ?_
  refine cc_region ?_
  refine r_int rfl rfl rfl rfl ?_
  refine rr_nil ?_
  refine cc_seq ?_
  refine cc_condF rfl ?_
  refine cc_exit ?_
  refine cc_seq ?_
  refine cc_region ?_
  refine rr_move rfl rfl ?_
  refine rr_assign rfl rfl ?_
  refine rr_assign rfl rfl ?_
  refine rr_nil ?_
  refine cc_ret ?_
  exact ⟨_, rfl, entW_ex2 p4_3 (entW_pu2 rfl (entW_cls (cacheR p4_3 d ⟨⟨from_, segs, [], 1, 1, true⟩, idx0⟩) (bl p4_3 136 [ptr l, ptr xx] * (logR l d ⟨from_, segs, [], 1, 1, true⟩ * indexR xx idx0)) (cacheR_mk p4_3 d l xx _ _) entW_fr))⟩
end Go.Proofs.YtoiakcgdkegncaaGreat

