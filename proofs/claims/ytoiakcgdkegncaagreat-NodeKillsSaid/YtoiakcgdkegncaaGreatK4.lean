import Derived.Test.YtoiakcgdkegncaaGreatK3
set_option linter.unusedVariables false
set_option linter.unusedSimpArgs false
set_option linter.unusedSectionVars false
namespace Go.Proofs.YtoiakcgdkegncaaGreat
open Go.RowKit Ice
attribute [local irreducible] CC RR Tr
theorem cloneS_tr (u : Value) (m : Nat) (bs : Txt) (hb : bs.length = m) (hz : m ≤ 2 ^ 30) :
    Tr Tryz.prog 146 #[u] (slR u 5 1 m (bv bs)) (fun v => slR v 5 1 m (bv bs) * slR u 5 1 m (bv bs)) := by
  refine tr_body Tryz.func146 (by kernel_rfl) rfl Tryz.ntmps146 rfl (L := [(0, u)]) (covers_cons rfl covers_nil) rfl ?_
  intro F w0 f
  refine CC.slo u (fun e1 e2 e3 => ?_) (fun b cap rest e1 e2 e3 => ?_)
  · subst e1 e2
    rw [e3]
    refine cc_seq ?_
    refine cc_region ?_
    refine rr_assign rfl rfl ?_
    refine rr_nil ?_
    refine cc_seq ?_
    refine cc_seq ?_
    refine cc_region ?_
    refine rr_move rfl rfl ?_
    refine r_snil rfl rfl rfl ?_
    refine rr_nil ?_
    refine cc_condT rfl ?_
    refine cc_seq ?_
    refine cc_region ?_
    refine rr_assign rfl rfl ?_
    refine rr_nil ?_
    refine cc_ret ?_
    exact ⟨_, rfl, entW_ent (by
      rw [sl_assoc]; exact (ent_nil _ _).trans (ent_nil _ _))⟩
  · subst e1
    refine cc_seq ?_
    refine cc_region ?_
    refine rr_assign rfl rfl ?_
    refine rr_nil ?_
    refine cc_seq ?_
    refine cc_seq ?_
    refine cc_region ?_
    refine rr_move rfl rfl ?_
    refine r_snil rfl rfl rfl ?_
    refine rr_nil ?_
    refine cc_condF rfl ?_
    refine cc_skip ?_
    refine cc_seq ?_
    refine cc_region ?_
    refine r_bsl0 rfl (sd0 rfl) (fun _ => sd0 rfl) (fun p3_0 => ?_)
    refine rr_move rfl rfl ?_
    refine r_app (m := 0) (xs := []) (k' := m) (ys := bv bs) rfl rfl (.inl (by rw [spv_underlying]; kernel_rfl)) inferInstance rfl (fun w sa => src_of sa (by simp at e3; simp; omega) (by simp [← hb])) (by simp [hb]) (bv_one _) (by omega) (by omega) (by omega) rfl (sd0 rfl) (fun _ => sd0 rfl) (fun v => ?_)
    refine rr_assign rfl rfl ?_
    refine rr_nil ?_
    refine cc_ret ?_
    refine ⟨_, rfl, EntW.trans (entW_ent (ent_pick (X := bl b 5 (bv bs ++ rest)) (slR_blk e2 e3))) ?_⟩
    simpa using entW_fr
/-- the i-th byte of a number, from the lowest -/
def byteAt (n : UInt64) (i : Nat) : UInt8 := UInt8.ofNat (n.toNat >>> (8 * i))
/-- a number as bytes, the highest first -/
def be : Nat → UInt64 → Txt
  | 0, _ => []
  | i + 1, n => byteAt n i :: be i n
@[simp] theorem be_len (i : Nat) (n : UInt64) : (be i n).length = i := by induction i with
  | zero => rfl
  | succ i ih => simp [be, ih]
def getB (bs : Txt) : UInt64 := bs.foldl (fun n c => (n <<< 8) ||| c.toUInt64) 0
theorem byte_int (n : UInt64) {i : Nat} (hi : i < 8) : IntKind.wrap .u8 (Int.fdiv (n.toNat : Int) (2 ^ (min ((8 : Int) * (i : Int)).toNat (IntKind.bits .u64)))) = (byteAt n i).toNat := by
  rw [show min ((8 : Int) * (i : Int)).toNat (IntKind.bits .u64) = 8 * i by simp only [IntKind.bits]; omega, ku64_shr, ku8_of]; rfl
theorem put_set {cs R : List Value} {k : Nat} {v : Value} (h : k < cs.length) : setL (cs.take (k + 1) ++ R) k v = some (cs.take k ++ (v :: R)) := by
  rw [setL_lt (by simp; omega)]
  congr 1
  rw [List.set_append_left _ _ (by simp; omega), List.take_add_one, List.getElem?_eq_getElem h, List.set_append_right _ _ (by simp; omega)]
  simp [Nat.min_eq_left (Nat.le_of_lt h)]
theorem shl8_int (x : UInt64) (c : UInt8) : IntKind.wrap .u64 ((BitVec.ofInt (IntKind.bits .u64) (IntKind.wrap .u64 ((x.toNat : Int) * 2 ^ (min (Int.toNat 8) (IntKind.bits .u64)))) |||
    BitVec.ofInt (IntKind.bits .u64) (IntKind.wrap .u64 (c.toNat : Int))).toNat : Int) = ((x <<< 8) ||| c.toUInt64).toNat := by
  have h1 : IntKind.wrap .u64 ((x.toNat : Int) * 2 ^ (min (Int.toNat 8) (IntKind.bits .u64))) = ((x <<< 8).toNat : Int) := by
    rw [show min (Int.toNat 8) (IntKind.bits .u64) = 8 from rfl, w_u64]
    simp [UInt64.toNat_shiftLeft, Nat.shiftLeft_eq]
  rw [h1, ku8_u64, ku64_or]
theorem start_tr (i : Nat) (hi : i ≤ 100) : Tr Tryz.prog 144 #[i64 i] 1 (fun v => pu (v = i64 ((i * 48 - 6 : Nat) : Int))) := by
  refine tr_body Tryz.func144 (by kernel_rfl) rfl Tryz.ntmps144 rfl (L := [(0, i64 i)]) (covers_cons rfl covers_nil) rfl ?_
  intro F w0 f
  rw [sl_one_mul]
  refine cc_seq ?_
  refine cc_region ?_
  refine rr_assign rfl rfl ?_
  refine rr_nil ?_
  refine cc_seq ?_
  refine cc_region ?_
  refine rr_move rfl rfl ?_
  refine r_mul rfl rfl rfl (by omega) ?_
  refine r_sub rfl rfl rfl (by omega) ?_
  refine r_max rfl rfl rfl ?_
  refine rr_assign rfl rfl ?_
  refine rr_nil ?_
  refine cc_ret ?_
  exact ⟨_, rfl, entW_pu (congrArg (Value.int _) (by split <;> omega)) entW_fr⟩
theorem sput_tr (b o m cap E : Nat) (cs : List Value) (n : UInt64) (hm : m ≤ 8) (ho : o + m ≤ cs.length) (ho2 : cs.length ≤ 2 ^ 30) :
    Tr Tryz.prog 170 #[vS b o m cap, u64V n] (bl b E cs) (fun v => pu (v = unit) * bl b E (cs.take o ++ (bv (be m n) ++ cs.drop (o + m)))) := by
  refine tr_body Tryz.func170 (by kernel_rfl) rfl Tryz.ntmps170 rfl (L := [(0, vS b o m cap), (1, u64V n)]) (covers_cons rfl (covers_cons rfl covers_nil)) rfl ?_
  intro F w0 f
  refine cc_seq ?_
  refine cc_region ?_
  refine rr_move rfl rfl ?_
  refine r_lens rfl rfl ?_
  refine rr_move rfl rfl ?_
  refine rr_nil ?_
  refine cc_block ?_
  refine cc_loopW (α := Nat) (fun i => [(7, i64 i), (6, i64 m), (0, vS b o m cap), (1, u64V n)]) (fun i => pu (i ≤ m) * (bl b E (cs.take (o + (m - i)) ++ (bv (be i n) ++ cs.drop (o + m))) * F)) (fun i => m - i) (0) (by repeat' (first | exact covers_nil | (refine covers_cons ?_ ?_; · first | rfl | (simp [lk, lk?]; done)))) (by exact entW_pu (by omega) (by simpa [be] using entW_fr)) ?_
  rintro i f
  refine CC.pu fun hi => ?_
  refine cc_seq ?_
  refine cc_region ?_
  refine r_int rfl rfl rfl rfl ?_
  refine rr_nil ?_
  refine cc_seq ?_
  refine cc_cond rfl (fun h8 => ?_) (fun h8 => ?_)
  · try simp only [decide_eq_true_eq, decide_eq_false_iff_not, beq_iff_eq, beq_eq_false_iff_ne, bne_iff_ne, bne_eq_false_iff_eq, ne_eq, Bool.not_eq_eq_eq_not, Bool.not_true, Bool.not_false] at h8
    rw [show o + (m - i) = o + (m - 1 - i) + 1 by omega]
    refine cc_skip ?_
    refine cc_seq ?_
    refine cc_block ?_
    refine cc_seq ?_
    refine cc_region ?_
    refine rr_move rfl rfl ?_
    refine rr_assign rfl rfl ?_
    refine rr_nil ?_
    refine cc_region ?_
    refine rr_move rfl rfl ?_
    refine rr_move rfl rfl ?_
    refine r_lens rfl rfl ?_
    refine r_sub rfl rfl rfl (by omega) ?_
    refine rr_move rfl rfl ?_
    refine r_sub rfl rfl rfl (by omega) ?_
    refine rr_move rfl rfl ?_
    refine rr_move rfl rfl ?_
    refine r_mul rfl rfl rfl (by omega) ?_
    refine r_shr rfl rfl rfl (by omega) ?_
    refine r_conv rfl rfl ?_
    rw [byte_int n (by omega)]
    refine r_ix rfl rfl rfl (by omega) ?_
    refine r_st rfl rfl rfl (by rw [show o + ((m : Int) - 1 - i).toNat * 1 = o + (m - 1 - i) by omega]; exact put_set (by omega)) (sd0 rfl) (sd0 rfl) ?_
    refine rr_nil ?_
    refine cc_region ?_
    refine r_add rfl rfl rfl (by omega) ?_
    refine rr_move rfl rfl ?_
    refine rr_nil ?_
    exact ⟨i + 1, by omega, by repeat' (first | exact covers_nil | (refine covers_cons ?_ ?_; · first | rfl | (simp [lk, lk?]; done))), entW_pu (by omega) (by rw [show o + (m - (i + 1)) = o + (m - 1 - i) by omega]; exact EntW.refl _)⟩
  · try simp only [decide_eq_true_eq, decide_eq_false_iff_not, beq_iff_eq, beq_eq_false_iff_ne, bne_iff_ne, bne_eq_false_iff_eq, ne_eq, Bool.not_eq_eq_eq_not, Bool.not_true, Bool.not_false] at h8
    obtain rfl : i = m := by omega
    refine cc_exit ?_
    exact ⟨_, rfl, entW_pu2 rfl (by simpa using entW_fr)⟩
theorem lput_tr (b o m cap E : Nat) (cs : List Value) (n : UInt64) (hm : m ≤ 8) (ho : o + m ≤ cs.length) (ho2 : cs.length ≤ 2 ^ 30) :
    Tr Tryz.prog 143 #[vS b o m cap, u64V n] (bl b E cs) (fun v => pu (v = unit) * bl b E (cs.take o ++ (bv (be m n) ++ cs.drop (o + m)))) := by
  refine tr_body Tryz.func143 (by kernel_rfl) rfl Tryz.ntmps143 rfl (L := [(0, vS b o m cap), (1, u64V n)]) (covers_cons rfl (covers_cons rfl covers_nil)) rfl ?_
  intro F w0 f
  refine cc_seq ?_
  refine cc_region ?_
  refine rr_move rfl rfl ?_
  refine r_lens rfl rfl ?_
  refine rr_move rfl rfl ?_
  refine rr_nil ?_
  refine cc_block ?_
  refine cc_loopW (α := Nat) (fun i => [(7, i64 i), (6, i64 m), (0, vS b o m cap), (1, u64V n)]) (fun i => pu (i ≤ m) * (bl b E (cs.take (o + (m - i)) ++ (bv (be i n) ++ cs.drop (o + m))) * F)) (fun i => m - i) (0) (by repeat' (first | exact covers_nil | (refine covers_cons ?_ ?_; · first | rfl | (simp [lk, lk?]; done)))) (by exact entW_pu (by omega) (by simpa [be] using entW_fr)) ?_
  rintro i f
  refine CC.pu fun hi => ?_
  refine cc_seq ?_
  refine cc_region ?_
  refine r_int rfl rfl rfl rfl ?_
  refine rr_nil ?_
  refine cc_seq ?_
  refine cc_cond rfl (fun h8 => ?_) (fun h8 => ?_)
  · try simp only [decide_eq_true_eq, decide_eq_false_iff_not, beq_iff_eq, beq_eq_false_iff_ne, bne_iff_ne, bne_eq_false_iff_eq, ne_eq, Bool.not_eq_eq_eq_not, Bool.not_true, Bool.not_false] at h8
    rw [show o + (m - i) = o + (m - 1 - i) + 1 by omega]
    refine cc_skip ?_
    refine cc_seq ?_
    refine cc_block ?_
    refine cc_seq ?_
    refine cc_region ?_
    refine rr_move rfl rfl ?_
    refine rr_assign rfl rfl ?_
    refine rr_nil ?_
    refine cc_region ?_
    refine rr_move rfl rfl ?_
    refine rr_move rfl rfl ?_
    refine r_lens rfl rfl ?_
    refine r_sub rfl rfl rfl (by omega) ?_
    refine rr_move rfl rfl ?_
    refine r_sub rfl rfl rfl (by omega) ?_
    refine rr_move rfl rfl ?_
    refine rr_move rfl rfl ?_
    refine r_mul rfl rfl rfl (by omega) ?_
    refine r_shr rfl rfl rfl (by omega) ?_
    refine r_conv rfl rfl ?_
    rw [byte_int n (by omega)]
    refine r_ix rfl rfl rfl (by omega) ?_
    refine r_st rfl rfl rfl (by rw [show o + ((m : Int) - 1 - i).toNat * 1 = o + (m - 1 - i) by omega]; exact put_set (by omega)) (sd0 rfl) (sd0 rfl) ?_
    refine rr_nil ?_
    refine cc_region ?_
    refine r_add rfl rfl rfl (by omega) ?_
    refine rr_move rfl rfl ?_
    refine rr_nil ?_
    exact ⟨i + 1, by omega, by repeat' (first | exact covers_nil | (refine covers_cons ?_ ?_; · first | rfl | (simp [lk, lk?]; done))), entW_pu (by omega) (by rw [show o + (m - (i + 1)) = o + (m - 1 - i) by omega]; exact EntW.refl _)⟩
  · try simp only [decide_eq_true_eq, decide_eq_false_iff_not, beq_iff_eq, beq_eq_false_iff_ne, bne_iff_ne, bne_eq_false_iff_eq, ne_eq, Bool.not_eq_eq_eq_not, Bool.not_true, Bool.not_false] at h8
    obtain rfl : i = m := by omega
    refine cc_exit ?_
    exact ⟨_, rfl, entW_pu2 rfl (by simpa using entW_fr)⟩
theorem lget_tr (b o m cap E : Nat) (cs : List Value) (bs : Txt) (hb : bs.length = m) (hz : m ≤ 2 ^ 30) (hc : ∀ j, j < m → nth cs (o + j) = nth (bv bs) j) :
    Tr Tryz.prog 195 #[vS b o m cap] (bl b E cs) (fun v => pu (v = u64V (getB bs)) * bl b E cs) := by
  refine tr_body Tryz.func195 (by kernel_rfl) rfl Tryz.ntmps195 rfl (L := [(0, vS b o m cap)]) (covers_cons rfl covers_nil) rfl ?_
  intro F w0 f
  refine cc_seq ?_
  refine cc_region ?_
  refine rr_assign rfl rfl ?_
  refine rr_nil ?_
  refine cc_seq ?_
  refine cc_region ?_
  refine rr_assign rfl rfl ?_
  refine rr_nil ?_
  refine cc_seq ?_
  refine cc_seq ?_
  refine cc_region ?_
  refine rr_move rfl rfl ?_
  refine r_lens rfl rfl ?_
  refine rr_move rfl rfl ?_
  refine rr_nil ?_
  refine cc_block ?_
  refine cc_loopW (α := Nat) (fun j => [(3, u64V (getB (bs.take j))), (8, i64 j), (7, i64 m), (6, vS b o m cap)]) (fun j => pu (j ≤ m) * (bl b E cs * F)) (fun j => m - j) (0) (by repeat' (first | exact covers_nil | (refine covers_cons ?_ ?_; · first | rfl | (simp [lk, lk?]; done)))) (by exact entW_pu (by omega) entW_fr) ?_
  rintro j f
  refine CC.pu fun hj => ?_
  refine cc_seq ?_
  refine cc_region ?_
  refine r_int rfl rfl rfl rfl ?_
  refine rr_nil ?_
  refine cc_seq ?_
  refine cc_cond rfl (fun h9 => ?_) (fun h9 => ?_)
  · try simp only [decide_eq_true_eq, decide_eq_false_iff_not, beq_iff_eq, beq_eq_false_iff_ne, bne_iff_ne, bne_eq_false_iff_eq, ne_eq, Bool.not_eq_eq_eq_not, Bool.not_true, Bool.not_false] at h9
    obtain ⟨c, hcj⟩ := lt_get (l := bs) (j := j) (by omega)
    have hv : nth cs (o + (j : Int).toNat * 1) = some (.int .u8 c.toNat) := by rw [show o + (j : Int).toNat * 1 = o + j by simp, hc j (by omega), bv_get hcj]
    refine cc_skip ?_
    refine cc_seq ?_
    refine cc_block ?_
    refine cc_seq ?_
    refine cc_region ?_
    refine r_ix rfl rfl rfl (by omega) ?_
    refine r_ld rfl (ls0 rfl) hv rfl ?_
    refine rr_assign rfl rfl ?_
    refine rr_nil ?_
    refine cc_region ?_
    refine rr_move rfl rfl ?_
    refine r_shl rfl rfl rfl (by omega) ?_
    refine rr_move rfl rfl ?_
    refine r_conv rfl rfl ?_
    refine r_int rfl rfl rfl rfl ?_
    rw [shl8_int]
    refine rr_assign rfl rfl ?_
    refine rr_nil ?_
    refine cc_region ?_
    refine r_add rfl rfl rfl (by omega) ?_
    refine rr_move rfl rfl ?_
    refine rr_nil ?_
    exact ⟨j + 1, by omega, by repeat' (first | exact covers_nil | (refine covers_cons ?_ ?_; · first | rfl | (simp [lk, lk?]; done) | (refine congrArg (Value.int _) ?_; rw [show getB (bs.take (j + 1)) = _ from foldl_take_succ _ _ hcj]; rfl))), entW_pu (by omega) entW_fr⟩
  · try simp only [decide_eq_true_eq, decide_eq_false_iff_not, beq_iff_eq, beq_eq_false_iff_ne, bne_iff_ne, bne_eq_false_iff_eq, ne_eq, Bool.not_eq_eq_eq_not, Bool.not_true, Bool.not_false] at h9
    obtain rfl : j = m := by omega
    refine cc_exit ?_
    refine cc_seq ?_
    refine cc_region ?_
    refine rr_move rfl rfl ?_
    refine rr_assign rfl rfl ?_
    refine rr_nil ?_
    refine cc_ret ?_
    exact ⟨_, rfl, entW_pu2 (by rw [List.take_of_length_le (by omega)]) entW_fr⟩
theorem setb {a b : Txt} {x c : UInt8} {i : Nat} (hi : a.length = i) : setL (bv (a ++ x :: b)) i (.int .u8 c.toNat) = some (bv (a ++ c :: b)) := by
  subst hi
  rw [setL_lt (by simp)]
  simp [bv, List.set_append_right]
theorem copyb {a m c b : Txt} {o : Nat} (ha : a.length = o) (hb : m.length = b.length) : setR (bv (a ++ (m ++ c))) o (bv b) = some (bv (a ++ (b ++ c))) := by
  have := set_mid (a := bv a) (b := bv m) (c := bv c) (b' := bv b) (o := o) (by simpa using ha) (by simpa using hb)
  simpa using this
theorem nth_app {a r : Txt} {o j : Nat} (ha : a.length = o) : nth (bv (a ++ r)) (o + j) = nth (bv r) j := by
  subst ha
  rw [nth_eq, nth_eq, bv_append, List.getElem?_append_right (by simp)]
  simp
theorem put_cells {a m c : Txt} {o k : Nat} (n : UInt64) (ha : a.length = o) (hm : m.length = k) :
    (bv (a ++ (m ++ c))).take o ++ (bv (be k n) ++ (bv (a ++ (m ++ c))).drop (o + k)) = bv (a ++ (be k n ++ c)) := by
  subst ha hm
  rw [bv_take, bv_drop, ← bv_append, ← bv_append, List.take_left' rfl, List.drop_length_add_append, List.drop_left' rfl]
end Go.Proofs.YtoiakcgdkegncaaGreat

namespace Go.Proofs.YtoiakcgdkegncaaGreat
open Go.RowKit Ice
attribute [local irreducible] CC RR Tr
def putF : Nat → Nat → Txt
  | 0, u => [UInt8.ofNat u]
  | f + 1, u => if 127 < u then (UInt8.ofNat u ||| 128) :: putF f (u >>> 7) else [UInt8.ofNat u]
/-- a number's bytes -/
def enc (n : Int) : Txt := putF 9 (2 * n.toNat)
theorem putF_len (f u : Nat) : 1 ≤ (putF f u).length ∧ (putF f u).length ≤ f + 1 := by
  induction f generalizing u with
  | zero => simp [putF]
  | succ f ih =>
    simp only [putF]
    split
    · have := ih (u >>> 7); simp; omega
    · simp
theorem enc_len (n : Int) : 1 ≤ (enc n).length ∧ (enc n).length ≤ 10 := putF_len 9 _
theorem shr7_int (u : Nat) : Int.fdiv (u : Int) (2 ^ (min (Int.toNat 7) (IntKind.bits .u64))) = ((u >>> 7 : Nat) : Int) := by
  rw [show min (Int.toNat 7) (IntKind.bits .u64) = 7 from rfl, Nat.shiftRight_eq_div_pow, Int.fdiv_eq_ediv_of_nonneg _ (by decide)]
  omega
theorem nput_tr (v0 : Value) (pre : Txt) (n : Int) (h0 : 0 ≤ n) (h1 : n ≤ 2 ^ 62) (hp : pre.length ≤ 2 ^ 30) :
    Tr Tryz.prog 147 #[v0, i64 n] (slR v0 5 1 pre.length (bv pre)) (fun v => slR v 5 1 (pre ++ enc n).length (bv (pre ++ enc n))) := by
  refine tr_body Tryz.func147 (by kernel_rfl) rfl Tryz.ntmps147 rfl (L := [(0, v0), (1, i64 n)]) (covers_cons rfl (covers_cons rfl covers_nil)) rfl ?_
  intro F w0 f
  refine cc_seq ?_
  refine cc_region ?_
  refine rr_assign rfl rfl ?_
  refine rr_nil ?_
  refine cc_seq ?_
  refine cc_region ?_
  refine rr_move rfl rfl ?_
  refine r_conv rfl rfl ?_
  refine r_shl rfl rfl rfl (by omega) ?_
  rw [show IntKind.wrap .u64 (IntKind.wrap .u64 n * 2 ^ (min (Int.toNat 1) (IntKind.bits .u64))) = ((2 * n.toNat : Nat) : Int) by
    rw [show min (Int.toNat 1) (IntKind.bits .u64) = 1 from rfl, w_u64, w_u64]; omega]
  refine rr_assign rfl rfl ?_
  refine rr_nil ?_
  refine cc_seq ?_
  refine cc_seq ?_
  refine cc_region ?_
  refine rr_move rfl rfl ?_
  refine r_int rfl rfl rfl rfl ?_
  rw [show decide (n < 0) = false by simp; omega]
  refine rr_nil ?_
  refine cc_condF rfl ?_
  refine cc_skip ?_
  refine cc_seq ?_
  refine cc_block ?_
  refine cc_loopW (α := (Nat × Nat × Txt × Value)) (fun ⟨u, g, acc, v⟩ => [(5, .int .u64 (u : Int)), (0, v)]) (fun ⟨u, g, acc, v⟩ => pu (pre ++ enc n = acc ++ putF g u ∧ u < 2 ^ (7 * g + 7) ∧ acc.length + g = pre.length + 9) * (slR v 5 1 acc.length (bv acc) * F)) (fun ⟨u, g, acc, v⟩ => u) ((2 * n.toNat, 9, pre, v0)) (by repeat' (first | exact covers_nil | (refine covers_cons ?_ ?_; · first | rfl | (simp [lk, lk?]; done)))) (by exact entW_pu ⟨rfl, by omega, rfl⟩ entW_fr) ?_
  rintro ⟨u, g, acc, v⟩ f
  refine CC.pu fun hh => ?_
  obtain ⟨hh1, hh2, hh3⟩ := hh
  refine cc_seq ?_
  refine cc_seq ?_
  refine cc_region ?_
  refine rr_move rfl rfl ?_
  refine r_int rfl rfl rfl rfl ?_
  refine rr_nil ?_
  refine cc_cond rfl (fun h14 => ?_) (fun h14 => ?_)
  · try simp only [decide_eq_true_eq, decide_eq_false_iff_not, beq_iff_eq, beq_eq_false_iff_ne, bne_iff_ne, bne_eq_false_iff_eq, ne_eq, Bool.not_eq_eq_eq_not, Bool.not_true, Bool.not_false] at h14
    obtain ⟨g, rfl⟩ : ∃ k, g = k + 1 := ⟨g - 1, by
      rcases Nat.eq_zero_or_pos g with e | e
      · subst e; simp at hh2; omega
      · omega⟩
    have hu : 127 < u := by omega
    rw [show putF (g + 1) u = (UInt8.ofNat u ||| 128) :: putF g (u >>> 7) by simp [putF, hu]] at hh1
    refine cc_skip ?_
    refine cc_block ?_
    refine cc_seq ?_
    refine cc_region ?_
    refine rr_move rfl rfl ?_
    refine rr_move rfl rfl ?_
    refine r_conv rfl rfl ?_
    rw [ku8_of]
    refine r_int rfl rfl rfl rfl ?_
    rw [show IntKind.wrap .u8 ((BitVec.ofInt (IntKind.bits .u8) ((UInt8.ofNat u).toNat : Int) ||| BitVec.ofInt (IntKind.bits .u8) 128).toNat : Int) = ((UInt8.ofNat u ||| 128).toNat : Int) from ku8_or _ 128]
    refine r_bsl (cs := [u8V (UInt8.ofNat u ||| 128)]) rfl rfl rfl rfl rfl rfl (sd0 rfl) (fun _ => sd0 rfl) (fun p => ?_)
    refine r_appB (acc) ([UInt8.ofNat u ||| 128]) rfl rfl (.inl (by rw [spv_underlying]; kernel_rfl)) inferInstance rfl (fun w sa => src_of sa (by simp) rfl) (by simp; omega) rfl rfl (sd0 rfl) (fun _ => sd0 rfl) (fun v => ?_)
    refine rr_assign rfl rfl ?_
    refine rr_nil ?_
    refine cc_region ?_
    refine rr_move rfl rfl ?_
    refine r_shr rfl rfl rfl (by omega) ?_
    rw [shr7_int]
    refine rr_assign rfl rfl ?_
    refine rr_nil ?_
    refine ⟨(u >>> 7, g, acc ++ [UInt8.ofNat u ||| 128], v), ?_, by repeat' (first | exact covers_nil | (refine covers_cons ?_ ?_; · first | rfl | (simp [lk, lk?]; done))), entW_pu ⟨by rw [hh1]; simp, ?_, by simp; omega⟩ entW_fr⟩
    · show u >>> 7 < u
      rw [Nat.shiftRight_eq_div_pow]; omega
    · rw [Nat.shiftRight_eq_div_pow, Nat.div_lt_iff_lt_mul (by decide), ← Nat.pow_add]; exact Nat.lt_of_lt_of_eq hh2 (by congr 1)
  · try simp only [decide_eq_true_eq, decide_eq_false_iff_not, beq_iff_eq, beq_eq_false_iff_ne, bne_iff_ne, bne_eq_false_iff_eq, ne_eq, Bool.not_eq_eq_eq_not, Bool.not_true, Bool.not_false] at h14
    have hg : putF g u = [UInt8.ofNat u] := by cases g with
      | zero => rfl
      | succ g => simp [putF]; omega
    refine cc_exit ?_
    refine cc_seq ?_
    refine cc_region ?_
    refine rr_move rfl rfl ?_
    refine rr_move rfl rfl ?_
    refine r_conv rfl rfl ?_
    rw [ku8_of]
    refine r_bsl (cs := [u8V (UInt8.ofNat u)]) rfl rfl rfl rfl rfl rfl (sd0 rfl) (fun _ => sd0 rfl) (fun p => ?_)
    refine r_appB (acc) ([UInt8.ofNat u]) rfl rfl (.inl (by rw [spv_underlying]; kernel_rfl)) inferInstance rfl (fun w sa => src_of sa (by simp) rfl) (by simp; omega) rfl rfl (sd0 rfl) (fun _ => sd0 rfl) (fun v => ?_)
    refine rr_assign rfl rfl ?_
    refine rr_nil ?_
    refine cc_ret ?_
    exact ⟨_, rfl, by rw [hh1, hg]; exact entW_fr⟩
theorem nth_map {α : Type} {g : α → Value} {l : List α} {i : Nat} {x : α} (h : l[i]? = some x) : nth (l.map g) i = some (g x) := by rw [nth_eq]; simp [h]
def encs (ns : List Int) : Txt := ns.flatMap enc
theorem encs_len (ns : List Int) : (encs ns).length ≤ 10 * ns.length := by
  induction ns with
  | nil => simp [encs]
  | cons n ns ih => have := enc_len n; simp [encs] at ih ⊢; omega
theorem encs_take {ns : List Int} {j : Nat} {n : Int} (h : ns[j]? = some n) : encs (ns.take (j + 1)) = encs (ns.take j) ++ enc n := by
  rw [encs, List.take_add_one, h]; simp [encs]
theorem nPut_tr (v0 : Value) (pre : Txt) (p c2 : Nat) (ns : List Int) (hns : ∀ n ∈ ns, 0 ≤ n ∧ n ≤ 2 ^ 62) (hp : pre.length ≤ 2 ^ 20) (hl : ns.length ≤ 2 ^ 20) :
    Tr Tryz.prog 103 #[v0, .slice (some ⟨p, 0, none⟩) ns.length c2] (slR v0 5 1 pre.length (bv pre) * bl p 2 (ns.map i64))
      (fun v => slR v 5 1 (pre ++ encs ns).length (bv (pre ++ encs ns)) * bl p 2 (ns.map i64)) := by
  refine tr_body Tryz.func103 (by kernel_rfl) rfl Tryz.ntmps103 rfl (L := [(0, v0), (1, .slice (some ⟨p, 0, none⟩) ns.length c2)]) (covers_cons rfl (covers_cons rfl covers_nil)) rfl ?_
  intro F w0 f
  refine cc_seq ?_
  refine cc_region ?_
  refine rr_assign rfl rfl ?_
  refine rr_nil ?_
  refine cc_seq ?_
  refine cc_seq ?_
  refine cc_region ?_
  refine rr_move rfl rfl ?_
  refine r_lens rfl rfl ?_
  refine rr_move rfl rfl ?_
  refine rr_nil ?_
  refine cc_block ?_
  refine cc_loopW (α := (Nat × Value)) (fun ⟨j, v⟩ => [(9, i64 j), (8, i64 ns.length), (7, .slice (some ⟨p, 0, none⟩) ns.length c2), (0, v)]) (fun ⟨j, v⟩ => pu (j ≤ ns.length) * (slR v 5 1 (pre ++ encs (ns.take j)).length (bv (pre ++ encs (ns.take j))) * bl p 2 (ns.map i64) * F)) (fun ⟨j, v⟩ => ns.length - j) ((0, v0)) (by repeat' (first | exact covers_nil | (refine covers_cons ?_ ?_; · first | rfl | (simp [lk, lk?]; done)))) (by exact entW_pu (by omega) (by simpa [encs] using entW_fr)) ?_
  rintro ⟨j, v⟩ f
  refine CC.pu fun hj => ?_
  refine cc_seq ?_
  refine cc_region ?_
  refine r_int rfl rfl rfl rfl ?_
  refine rr_nil ?_
  refine cc_seq ?_
  refine cc_cond rfl (fun h10 => ?_) (fun h10 => ?_)
  · try simp only [decide_eq_true_eq, decide_eq_false_iff_not, beq_iff_eq, beq_eq_false_iff_ne, bne_iff_ne, bne_eq_false_iff_eq, ne_eq, Bool.not_eq_eq_eq_not, Bool.not_true, Bool.not_false] at h10
    obtain ⟨n, hn⟩ := lt_get (l := ns) (j := j) (by omega)
    have hn2 := hns n (get_mem hn)
    have hl2 := encs_len (ns.take j)
    rw [List.length_take, Nat.min_eq_left (by omega)] at hl2
    refine cc_skip ?_
    refine cc_seq ?_
    refine cc_block ?_
    refine cc_seq ?_
    refine cc_region ?_
    refine r_ix rfl rfl rfl (by omega) ?_
    refine r_ld rfl (ls0 rfl) (v := i64 n) (by rw [show 0 + (j : Int).toNat * 1 = j by omega]; exact nth_map hn) rfl ?_
    refine rr_assign rfl rfl ?_
    refine rr_nil ?_
    refine cc_region ?_
    refine rr_move rfl rfl ?_
    refine rr_move rfl rfl ?_
    refine rr_call rfl rfl rfl rfl (nput_tr v (pre ++ encs (ns.take j)) n hn2.1 hn2.2 (by simp; omega)) inferInstance rfl (sd0 rfl) (fun _ => sd0 rfl) rfl (fun v => ?_)
    rw [List.append_assoc, ← encs_take hn]
    refine rr_assign rfl rfl ?_
    refine rr_nil ?_
    refine cc_region ?_
    refine r_add rfl rfl rfl (by omega) ?_
    refine rr_move rfl rfl ?_
    refine rr_nil ?_
    exact ⟨(j + 1, v), (by show ns.length - (j + 1) < ns.length - j; omega), by repeat' (first | exact covers_nil | (refine covers_cons ?_ ?_; · first | rfl | (simp [lk, lk?]; done))), entW_pu (by omega) entW_fr⟩
  · try simp only [decide_eq_true_eq, decide_eq_false_iff_not, beq_iff_eq, beq_eq_false_iff_ne, bne_iff_ne, bne_eq_false_iff_eq, ne_eq, Bool.not_eq_eq_eq_not, Bool.not_true, Bool.not_false] at h10
    obtain rfl : j = ns.length := by omega
    refine cc_exit ?_
    refine cc_seq ?_
    refine cc_region ?_
    refine rr_move rfl rfl ?_
    refine rr_assign rfl rfl ?_
    refine rr_nil ?_
    refine cc_ret ?_
    exact ⟨_, rfl, by rw [List.take_of_length_le (Nat.le_refl _)]; exact entW_fr⟩
def encT (t : Txt) : Txt := enc t.length ++ t
def encTs (ts : List Txt) : Txt := ts.flatMap encT
theorem encTs_len (ts : List Txt) {m : Nat} (hm : ∀ t ∈ ts, t.length ≤ m) : (encTs ts).length ≤ (10 + m) * ts.length := by
  induction ts with
  | nil => simp [encTs]
  | cons n ns ih =>
    have h1 := enc_len n.length
    have h2 := hm n (by simp)
    have := ih (fun t ht => hm t (by simp [ht]))
    simp [encTs, encT] at this ⊢
    rw [Nat.mul_add]
    omega
theorem encTs_take {ns : List Txt} {j : Nat} {n : Txt} (h : ns[j]? = some n) : encTs (ns.take (j + 1)) = encTs (ns.take j) ++ encT n := by
  rw [encTs, List.take_add_one, h]; simp [encTs]
theorem nPutText_tr (v0 : Value) (pre : Txt) (p c2 : Nat) (ns : List Txt) (hns : ∀ t ∈ ns, t.length ≤ 1000) (hp : pre.length ≤ 2 ^ 20) (hl : ns.length ≤ 2 ^ 10) :
    Tr Tryz.prog 104 #[v0, .slice (some ⟨p, 0, none⟩) ns.length c2] (slR v0 5 1 pre.length (bv pre) * bl p 9 (ns.map str))
      (fun v => slR v 5 1 (pre ++ encTs ns).length (bv (pre ++ encTs ns)) * bl p 9 (ns.map str)) := by
  refine tr_body Tryz.func104 (by kernel_rfl) rfl Tryz.ntmps104 rfl (L := [(0, v0), (1, .slice (some ⟨p, 0, none⟩) ns.length c2)]) (covers_cons rfl (covers_cons rfl covers_nil)) rfl ?_
  intro F w0 f
  refine cc_seq ?_
  refine cc_region ?_
  refine rr_assign rfl rfl ?_
  refine rr_nil ?_
  refine cc_seq ?_
  refine cc_seq ?_
  refine cc_region ?_
  refine rr_move rfl rfl ?_
  refine r_lens rfl rfl ?_
  refine rr_move rfl rfl ?_
  refine rr_nil ?_
  refine cc_block ?_
  refine cc_loopW (α := (Nat × Value)) (fun ⟨j, v⟩ => [(9, i64 j), (8, i64 ns.length), (7, .slice (some ⟨p, 0, none⟩) ns.length c2), (0, v)]) (fun ⟨j, v⟩ => pu (j ≤ ns.length) * (slR v 5 1 (pre ++ encTs (ns.take j)).length (bv (pre ++ encTs (ns.take j))) * bl p 9 (ns.map str) * F)) (fun ⟨j, v⟩ => ns.length - j) ((0, v0)) (by repeat' (first | exact covers_nil | (refine covers_cons ?_ ?_; · first | rfl | (simp [lk, lk?]; done)))) (by exact entW_pu (by omega) (by simpa [encTs] using entW_fr)) ?_
  rintro ⟨j, v⟩ f
  refine CC.pu fun hj => ?_
  refine cc_seq ?_
  refine cc_region ?_
  refine r_int rfl rfl rfl rfl ?_
  refine rr_nil ?_
  refine cc_seq ?_
  refine cc_cond rfl (fun h10 => ?_) (fun h10 => ?_)
  · try simp only [decide_eq_true_eq, decide_eq_false_iff_not, beq_iff_eq, beq_eq_false_iff_ne, bne_iff_ne, bne_eq_false_iff_eq, ne_eq, Bool.not_eq_eq_eq_not, Bool.not_true, Bool.not_false] at h10
    obtain ⟨n, hn⟩ := lt_get (l := ns) (j := j) (by omega)
    have hn2 := hns n (get_mem hn)
    have hl2 := encTs_len (ns.take j) (m := 1000) (fun t ht => hns t (List.mem_of_mem_take ht))
    rw [List.length_take, Nat.min_eq_left (by omega)] at hl2
    have hl3 := enc_len n.length
    refine cc_skip ?_
    refine cc_seq ?_
    refine cc_block ?_
    refine cc_seq ?_
    refine cc_region ?_
    refine r_ix rfl rfl rfl (by omega) ?_
    refine r_ld rfl (ls0 rfl) (v := str n) (by rw [show 0 + (j : Int).toNat * 1 = j by omega]; exact nth_map hn) rfl ?_
    refine rr_assign rfl rfl ?_
    refine rr_nil ?_
    refine cc_region ?_
    refine rr_move rfl rfl ?_
    refine rr_move rfl rfl ?_
    first | refine r_lenx rfl rfl ?_ | refine r_lent rfl rfl ?_
    refine rr_call rfl rfl rfl rfl (nput_tr v (pre ++ encTs (ns.take j)) n.length (by omega) (by omega) (by simp; omega)) inferInstance rfl (sd0 rfl) (fun _ => sd0 rfl) rfl (fun v => ?_)
    refine rr_move rfl rfl ?_
    refine r_appB (pre ++ encTs (ns.take j) ++ enc n.length) (n) rfl rfl (.inr und_str) inferInstance rfl (fun w sa => src_strL _) (by simp; omega) rfl rfl (sd0 rfl) (fun _ => sd0 rfl) (fun v => ?_)
    refine rr_assign rfl rfl ?_
    rw [show pre ++ encTs (ns.take j) ++ enc n.length ++ n = pre ++ encTs (ns.take (j + 1)) by rw [encTs_take hn, encT]; simp]
    refine rr_nil ?_
    refine cc_region ?_
    refine r_add rfl rfl rfl (by omega) ?_
    refine rr_move rfl rfl ?_
    refine rr_nil ?_
    exact ⟨(j + 1, v), (by show ns.length - (j + 1) < ns.length - j; omega), by repeat' (first | exact covers_nil | (refine covers_cons ?_ ?_; · first | rfl | (simp [lk, lk?]; done))), entW_pu (by omega) entW_fr⟩
  · try simp only [decide_eq_true_eq, decide_eq_false_iff_not, beq_iff_eq, beq_eq_false_iff_ne, bne_iff_ne, bne_eq_false_iff_eq, ne_eq, Bool.not_eq_eq_eq_not, Bool.not_true, Bool.not_false] at h10
    obtain rfl : j = ns.length := by omega
    refine cc_exit ?_
    refine cc_seq ?_
    refine cc_region ?_
    refine rr_move rfl rfl ?_
    refine rr_assign rfl rfl ?_
    refine rr_nil ?_
    refine cc_ret ?_
    exact ⟨_, rfl, by rw [List.take_of_length_le (Nat.le_refl _)]; exact entW_fr⟩
end Go.Proofs.YtoiakcgdkegncaaGreat

namespace Go.Proofs.YtoiakcgdkegncaaGreat
open Go.RowKit Ice
attribute [local irreducible] CC RR Tr
structure Sec where
  now : Txt
  lasts : Txt
  loose : Bool
structure Sec.ok (s : Sec) : Prop where
  now : s.now.length = 64
  lasts : s.lasts.length = 64
def secV (s : Sec) : List Value := bv s.now ++ (bv s.lasts ++ [.bool s.loose])
def zeros (n : Nat) : Txt := List.replicate n 0
def sec0 : Sec := ⟨zeros 64, zeros 64, false⟩
theorem sec0_ok : sec0.ok := ⟨by simp [sec0, zeros], by simp [sec0, zeros]⟩
abbrev DevS := List Sec
structure DevS.ok (D : DevS) : Prop where
  secs : ∀ s ∈ D, Sec.ok s
  lo : 1 ≤ D.length
  hi : D.length ≤ 2048
theorem secV_len {s : Sec} (h : s.ok) : (secV s).length = 129 := by simp [secV, h.now, h.lasts]
theorem DevS.ok.w {D : DevS} (h : DevS.ok D) : ∀ s ∈ D, (secV s).length = 129 := fun s hs => secV_len (h.secs s hs)
/-- a device -/
def devR (d : Nat) (D : DevS) : SL := ex fun b => ex fun c : Int => pu (DevS.ok D) * (bl d 92 [.slice (some ⟨b, 0, none⟩) D.length D.length, i64 c] * bl b 194 (D.flatMap secV))
abbrev ptr (b : Nat) : Value := .pointer (some ⟨b, 0, none⟩)
theorem devR_open {d : Nat} {D : DevS} {P : Program} {n : Nat} {w0 : World} {Q : Exit → Pos} {f : Nat → Value} {l : Env} {A : SL} {c : Code}
    (h : ∀ b (k : Int), DevS.ok D → CC P n w0 c Q f l (bl d 92 [.slice (some ⟨b, 0, none⟩) D.length D.length, i64 k] * bl b 194 (D.flatMap secV) * A)) : CC P n w0 c Q f l (devR d D * A) := by
  unfold devR
  refine CC.ex1 fun b => CC.ex1 fun k => ?_
  refine CC.eq (B := pu (DevS.ok D) * (bl d 92 [.slice (some ⟨b, 0, none⟩) D.length D.length, i64 k] * bl b 194 (D.flatMap secV) * A)) (CC.pu fun hd => h b k hd) (sl_assoc _ _ _)
theorem devR_intro {d b n : Nat} {D : DevS} {k : Int} {cs : List Value} (F : SL) (hd : DevS.ok D) (hn : n = D.length) (hc : cs = D.flatMap secV) :
    Ent (bl d 92 [.slice (some ⟨b, 0, none⟩) n n, i64 k] * bl b 194 cs * F) (devR d D * F) := by
  subst hn hc
  unfold devR
  rw [ex_mul_eq]
  refine ent_ex b ?_
  rw [ex_mul_eq]
  refine ent_ex k ?_
  rw [sl_assoc (pu _)]
  exact ent_pu hd (Ent.refl _)
theorem devR_close {D : DevS} {A F : SL} (d b n : Nat) (k : Int) [h : Fr A (bl d 92 [.slice (some ⟨b, 0, none⟩) n n, i64 k] * bl b 194 (D.flatMap secV)) F] (hd : DevS.ok D) (hn : n = D.length) : Ent A (devR d D * F) := by
  rw [h.eq]; exact devR_intro F hd hn rfl
/-- a device is well -/
theorem devR_fact {d : Nat} {D : DevS} {w : World} (s1 : Sat w (devR d D)) : DevS.ok D := by
  unfold devR at s1
  obtain ⟨b, s2⟩ := sat_ex.1 s1
  obtain ⟨c, s3⟩ := sat_ex.1 s2
  exact (sat_pu.1 s3).1
instance tz_sec : TZ Tryz.prog 194 (secV sec0) := ⟨by kernel_rfl⟩
theorem new_tr (n : Nat) (h1 : 1 ≤ n) (h2 : n ≤ 2048) : Tr Tryz.prog 11 #[i64 n] 1 (fun v => ex fun d => pu (v = ptr d) * devR d (List.replicate n sec0)) := by
  refine tr_body Tryz.func11 (by kernel_rfl) rfl Tryz.ntmps11 rfl (L := [(0, i64 n)]) (covers_cons rfl covers_nil) rfl ?_
  intro F w0 f
  rw [sl_one_mul]
  refine cc_seq ?_
  refine cc_region ?_
  refine rr_assign rfl rfl ?_
  refine rr_nil ?_
  refine cc_seq ?_
  refine cc_region ?_
  refine rr_move rfl rfl ?_
  refine r_max rfl rfl rfl ?_
  refine r_min rfl rfl rfl ?_
  rw [show (if (2048 : Int) < (if (n : Int) < 1 then 1 else (n : Int)) then 2048 else (if (n : Int) < 1 then 1 else (n : Int))) = n by split <;> split <;> omega]
  refine r_mks rfl rfl (by rw [secV_len sec0_ok]; rfl) (Nat.le_refl _) (by omega) (by omega) rfl (sd0 rfl) (fun _ => sd0 rfl) (fun b => ?_)
  refine r_bld rfl rfl rfl ?_
  refine r_boxa rfl rfl (sd0 rfl) (fun _ => sd0 rfl) (fun p1_5 => ?_)
  rw [repC_fm]
  refine rr_assign rfl rfl ?_
  refine rr_nil ?_
  refine cc_ret ?_
  exact ⟨_, rfl, entW_ex2 _ (entW_pu2 rfl (entW_ent (devR_close _ b n 0 ⟨fun s hs => by rw [List.eq_of_mem_replicate hs]; exact sec0_ok, by simpa using h1, by simpa using h2⟩ (by simp))))⟩
theorem len_tr (d : Nat) (D : DevS) : Tr Tryz.prog 57 #[ptr d] (devR d D) (fun v => pu (v = i64 D.length) * devR d D) := by
  refine tr_body Tryz.func57 (by kernel_rfl) rfl Tryz.ntmps57 rfl (L := [(0, ptr d)]) (covers_cons rfl covers_nil) rfl ?_
  intro F w0 f
  refine devR_open fun b k hd => ?_
  refine cc_seq ?_
  refine cc_region ?_
  refine rr_assign rfl rfl ?_
  refine rr_nil ?_
  refine cc_seq ?_
  refine cc_seq ?_
  refine cc_region ?_
  refine rr_move rfl rfl ?_
  refine r_pnil rfl rfl rfl ?_
  refine rr_nil ?_
  refine cc_condF rfl ?_
  refine cc_skip ?_
  refine cc_seq ?_
  refine cc_region ?_
  refine rr_move rfl rfl ?_
  refine rr_nilCheck rfl rfl ?_
  refine r_fa rfl rfl ?_
  refine r_ld rfl (ls0 rfl) rfl rfl ?_
  refine r_lens rfl rfl ?_
  refine rr_assign rfl rfl ?_
  refine rr_nil ?_
  refine cc_ret ?_
  exact ⟨_, rfl, entW_pu2 rfl (entW_ent (devR_intro _ hd rfl rfl))⟩
theorem off_tr (d i : Nat) (D : DevS) (hi : i < D.length) : Tr Tryz.prog 108 #[ptr d, i64 i] (devR d D) (fun v => pu (v = i64 0) * devR d D) := by
  refine tr_body Tryz.func108 (by kernel_rfl) rfl Tryz.ntmps108 rfl (L := [(0, ptr d), (1, i64 i)]) (covers_cons rfl (covers_cons rfl covers_nil)) rfl ?_
  intro F w0 f
  refine devR_open fun b k hd => ?_
  refine cc_seq ?_
  refine cc_region ?_
  refine rr_assign rfl rfl ?_
  refine rr_nil ?_
  refine cc_seq ?_
  refine cc_block ?_
  refine cc_seq ?_
  refine cc_region ?_
  refine rr_move rfl rfl ?_
  refine r_pnil rfl rfl rfl ?_
  refine rr_assign rfl rfl ?_
  refine rr_nil ?_
  refine cc_condF rfl ?_
  refine cc_seq ?_
  refine cc_region ?_
  refine rr_move rfl rfl ?_
  refine r_int rfl rfl rfl rfl ?_
  rw [show decide ((i : Int) < 0) = false by simp]
  refine rr_move rfl rfl ?_
  refine rr_guardY rfl rfl rfl ?_
  refine rr_move rfl rfl ?_
  refine rr_guardY rfl rfl rfl ?_
  refine rr_move rfl rfl ?_
  refine rr_guardY rfl rfl rfl ?_
  refine rr_nilCheck rfl rfl ?_
  refine rr_guardY rfl rfl rfl ?_
  refine r_fa rfl rfl ?_
  refine rr_guardY rfl rfl rfl ?_
  refine r_ld rfl (ls0 rfl) rfl rfl ?_
  refine rr_guardY rfl rfl rfl ?_
  refine r_lens rfl rfl ?_
  refine rr_guardY rfl rfl rfl ?_
  refine r_int rfl rfl rfl rfl ?_
  rw [show decide ((D.length : Int) ≤ (i : Int)) = false by simp; omega]
  first | refine rr_pick rfl rfl ?_ | refine rr_pickb rfl rfl rfl rfl ?_
  refine rr_assign rfl rfl ?_
  refine rr_nil ?_
  refine cc_condF rfl ?_
  refine cc_skip ?_
  refine cc_seq ?_
  refine cc_region ?_
  refine rr_assign rfl rfl ?_
  refine rr_nil ?_
  refine cc_ret ?_
  exact ⟨_, rfl, entW_pu2 rfl (entW_ent (devR_intro _ hd rfl rfl))⟩
theorem sec_now {s : Sec} (h : s.ok) : cutR (secV s) 0 64 [] = some (bv s.now) := by
  have := cut_mid (a := []) (b := bv s.now) (c := bv s.lasts ++ [.bool s.loose]) (o := 0) (k := 64) rfl (by simp [h.now])
  simpa [secV] using this
theorem sec_setnow {s : Sec} (h : s.ok) {x : Txt} (hx : x.length ≤ 64) : setR (secV s) 0 (bv x) = some (secV { s with now := x ++ s.now.drop x.length }) := by
  have hl := h.now
  rw [setR_eq (by simp [secV, h.now, h.lasts]; omega)]
  simp only [secV, bv_append, bv_length, List.take_zero, List.nil_append, Nat.zero_add]
  rw [List.drop_append_of_le_length (by simp; omega), bv_drop]
  simp
theorem sec_setlasts {s : Sec} (h : s.ok) {x : Txt} (hx : x.length = 64) : setR (secV s) 64 (bv x) = some (secV { s with lasts := x }) := by
  simp only [secV]
  exact set_mid (by simp [h.now]) (by simp [h.lasts, hx])
theorem sec_setloose {s : Sec} (h : s.ok) (x : Bool) : setL (secV s) 128 (.bool x) = some (secV { s with loose := x }) := by
  rw [setL_lt (by rw [secV_len h]; omega)]
  simp only [secV]
  rw [List.set_append_right _ _ (by simp [h.now]), List.set_append_right _ _ (by simp [h.now, h.lasts])]
  simp [h.now, h.lasts]
/-- a sector is written -/
def Sec.write (s : Sec) (x : Txt) : Sec := { s with now := x ++ s.now.drop x.length, loose := true }
def Sec.flush (s : Sec) : Sec := { s with lasts := s.now, loose := false }
theorem Sec.ok.write {s : Sec} (h : s.ok) {x : Txt} (hx : x.length ≤ 64) : (s.write x).ok := ⟨by simp [Sec.write, h.now]; omega, h.lasts⟩
theorem Sec.ok.flush {s : Sec} (h : s.ok) : (s.flush).ok := ⟨h.now, h.now⟩
theorem cut_take {cs vs : List Value} {o k : Nat} (h : cutR cs o k [] = some vs) (hl : o + k ≤ cs.length) : (cs.drop o).take k = vs := by
  rw [cutR_eq hl] at h; simpa using h
theorem read_tr (d i : Nat) (D : DevS) (s : Sec) (hi : D[i]? = some s) : Tr Tryz.prog 194 #[ptr d, i64 i] (devR d D) (fun v => ex fun u => pu (v = .tuple #[u, i64 0]) * (slR u 5 1 64 (bv s.now) * devR d D)) := by
  refine tr_body Tryz.func194 (by kernel_rfl) rfl Tryz.ntmps194 rfl (L := [(0, ptr d), (1, i64 i)]) (covers_cons rfl (covers_cons rfl covers_nil)) rfl ?_
  intro F w0 f
  refine cc_seq ?_
  refine cc_region ?_
  refine rr_assign rfl rfl ?_
  refine rr_assign rfl rfl ?_
  refine rr_nil ?_
  refine cc_seq ?_
  refine cc_seq ?_
  refine cc_region ?_
  refine rr_move rfl rfl ?_
  refine rr_move rfl rfl ?_
  refine rr_call rfl rfl rfl rfl (off_tr d i D (get_lt hi)) inferInstance rfl (sd0 rfl) (fun _ => sd0 rfl) rfl (fun v => ?_)
  first | refine RR.pu2 ?_ | refine RR.pu ?_
  rintro rfl
  refine rr_assign rfl rfl ?_
  refine rr_nil ?_
  refine cc_seq ?_
  refine cc_region ?_
  refine rr_move rfl rfl ?_
  refine r_int rfl rfl rfl rfl ?_
  refine rr_nil ?_
  refine cc_condF rfl ?_
  refine cc_skip ?_
  refine cc_seq ?_
  refine devR_open fun b k hd => ?_
  have hl := get_lt hi
  have hs := hd.secs s (get_mem hi)
  have hlen : 0 + (i : Int).toNat * 129 + 0 + 0 * 1 + 64 ≤ (D.flatMap secV).length := by rw [fm_len hd.w]; omega
  refine cc_region ?_
  refine rr_move rfl rfl ?_
  refine rr_nilCheck rfl rfl ?_
  refine r_fa rfl rfl ?_
  refine r_ld rfl (ls0 rfl) rfl rfl ?_
  refine rr_move rfl rfl ?_
  refine r_ix rfl rfl rfl (by omega) ?_
  refine r_fa rfl rfl ?_
  refine r_sla rfl (by first | rfl | exact ⟨_, rfl⟩) (by first | rfl | exact ⟨_, rfl⟩) rfl (by omega) (by omega) ?_
  refine rr_call rfl rfl rfl rfl (clone_tr b 194 (0 + (i : Int).toNat * 129 + 0 + 0 * 1) 64 64 _ s.now (cut_take (cut_at (j := 0) hd.w hi (by omega) (sec_now hs)) hlen) hlen hs.now (by omega)) inferInstance rfl (sd0 rfl) (fun _ => sd0 rfl) rfl (fun v => ?_)
  refine rr_assign rfl rfl ?_
  refine rr_assign rfl rfl ?_
  refine rr_nil ?_
  refine cc_ret ?_
  refine ⟨_, rfl, entW_ex2 v (entW_pu2 rfl ?_)⟩
  refine (entW_ent (devR_close d b D.length k hd rfl)).trans ?_
  exact entW_fr
theorem write_tr (d i : Nat) (D : DevS) (s : Sec) (hi : D[i]? = some s) (b o m cap E : Nat) (cs : List Value) (x : Txt) (hx : x.length = m) (hm : m ≤ 64) (ho : o + m ≤ cs.length) (hc : (cs.drop o).take m = bv x) :
    Tr Tryz.prog 58 #[ptr d, i64 i, vS b o m cap] (devR d D * bl b E cs) (fun v => pu (v = i64 0) * (devR d (D.set i (s.write x)) * bl b E cs)) := by
  refine tr_body Tryz.func58 (by kernel_rfl) rfl Tryz.ntmps58 rfl (L := [(0, ptr d), (1, i64 i), (2, vS b o m cap)]) (covers_cons rfl (covers_cons rfl (covers_cons rfl covers_nil))) rfl ?_
  intro F w0 f
  refine cc_seq ?_
  refine cc_region ?_
  refine rr_assign rfl rfl ?_
  refine rr_nil ?_
  refine cc_seq ?_
  refine cc_seq ?_
  refine cc_region ?_
  refine rr_move rfl rfl ?_
  refine rr_move rfl rfl ?_
  refine rr_call rfl rfl rfl rfl (off_tr d i D (get_lt hi)) inferInstance rfl (sd0 rfl) (fun _ => sd0 rfl) rfl (fun v => ?_)
  first | refine RR.pu2 ?_ | refine RR.pu ?_
  rintro rfl
  refine rr_assign rfl rfl ?_
  refine rr_nil ?_
  refine cc_seq ?_
  refine cc_region ?_
  refine rr_move rfl rfl ?_
  refine r_int rfl rfl rfl rfl ?_
  refine rr_nil ?_
  refine cc_condF rfl ?_
  refine cc_skip ?_
  refine cc_seq ?_
  refine cc_seq ?_
  refine cc_region ?_
  refine rr_move rfl rfl ?_
  refine r_lens rfl rfl ?_
  refine r_int rfl rfl rfl rfl ?_
  rw [show decide ((64 : Int) < (m : Int)) = false by simp; omega]
  refine rr_nil ?_
  refine cc_condF rfl ?_
  refine cc_skip ?_
  refine cc_seq ?_
  refine devR_open fun p k hd => ?_
  have hl := get_lt hi
  have hs := hd.secs s (get_mem hi)
  have hlen : i * 129 + 129 ≤ (D.flatMap secV).length := by rw [fm_len hd.w]; omega
  have hs2 : ({ s with now := x ++ s.now.drop x.length } : Sec).ok := ⟨by simp [hs.now]; omega, hs.lasts⟩
  have hd2 : DevS.ok (D.set i (s.write x)) := ⟨all_set hd.secs (hs.write (by omega)), by simpa using hd.lo, by simpa using hd.hi⟩
  have hi2 : (D.set i ({ s with now := x ++ s.now.drop x.length } : Sec))[i]? = some ({ s with now := x ++ s.now.drop x.length } : Sec) := by simp [hl]
  have hw2 : ∀ y ∈ D.set i ({ s with now := x ++ s.now.drop x.length } : Sec), (secV y).length = 129 := all_set hd.w (secV_len hs2)
  refine cc_region ?_
  refine rr_move rfl rfl ?_
  refine rr_nilCheck rfl rfl ?_
  refine r_fa rfl rfl ?_
  refine r_ld rfl (ls0 rfl) rfl rfl ?_
  refine rr_move rfl rfl ?_
  refine r_ix rfl rfl rfl (by omega) ?_
  refine r_fa rfl rfl ?_
  refine r_sla rfl (by first | rfl | exact ⟨_, rfl⟩) (by first | rfl | exact ⟨_, rfl⟩) rfl (by omega) (by omega) ?_
  refine rr_move rfl rfl ?_
  refine r_cpy (m := m) (kk' := m) (ys := bv x) rfl rfl inferInstance (fun _ _ => rfl) (Nat.min_eq_left hm) (fun w sa => by
    have := loadCells_run (P := Tryz.prog) (w := w) (b := b) (E := E) (cs := cs) (o := o) (m := m) (sa.blk (HasI.has (A := _))) ho
    rw [hc] at this; simpa [Builtin.firstCells] using this) (by rw [bv_length]; omega) (bv_one _) (set_at (j := 0) ({ s with now := x ++ s.now.drop x.length } : Sec) hd.w hi (by omega) (by simp; omega) (sec_setnow hs (by omega))) inferInstance rfl (sd0 rfl) (sd0 rfl) ?_
  refine rr_nil ?_
  refine cc_seq ?_
  refine cc_region ?_
  refine rr_move rfl rfl ?_
  refine rr_nilCheck rfl rfl ?_
  refine r_fa rfl rfl ?_
  refine r_ld rfl (ls0 rfl) rfl rfl ?_
  refine rr_move rfl rfl ?_
  refine r_ix rfl rfl rfl (by omega) ?_
  refine r_fa rfl rfl ?_
  refine r_st rfl rfl rfl (set1_at (j := 128) (s.write x) hw2 hi2 (by omega) (sec_setloose hs2 true)) (sd0 rfl) (sd0 rfl) ?_
  rw [List.set_set]
  refine rr_nil ?_
  refine cc_seq ?_
  refine cc_region ?_
  refine rr_move rfl rfl ?_
  refine rr_nilCheck rfl rfl ?_
  refine r_fa rfl rfl ?_
  refine r_ld rfl (ls0 rfl) rfl rfl ?_
  refine r_int rfl rfl rfl rfl ?_
  refine rr_nilCheck rfl rfl ?_
  refine r_fa rfl rfl ?_
  refine r_st rfl rfl rfl rfl (sd0 rfl) (sd0 rfl) ?_
  refine rr_nil ?_
  refine cc_seq ?_
  refine cc_region ?_
  refine rr_assign rfl rfl ?_
  refine rr_nil ?_
  refine cc_ret ?_
  refine ⟨_, rfl, entW_pu2 rfl ?_⟩
  refine (entW_ent (devR_close d p D.length (IntKind.i64.wrap (k + 1)) hd2 (by simp))).trans ?_
  exact entW_fr
def flushN (i : Nat) (D : DevS) : DevS := (D.take i).map Sec.flush ++ D.drop i
def flushD (D : DevS) : DevS := D.map Sec.flush
theorem flushN_len (i : Nat) (D : DevS) : (flushN i D).length = D.length := by simp [flushN]; omega
theorem flushN_get {D : DevS} {i : Nat} {s : Sec} (h : D[i]? = some s) : (flushN i D)[i]? = some s := by
  have := get_lt h
  rw [flushN, List.getElem?_append_right (by simp; omega)]
  simp [Nat.min_eq_left (Nat.le_of_lt this), h]
theorem flushN_set {D : DevS} {i : Nat} {s : Sec} (h : D[i]? = some s) : (flushN i D).set i s.flush = flushN (i + 1) D := by
  have hl := get_lt h
  rw [flushN, flushN, List.set_append_right _ _ (by simp; omega), List.take_add_one, h]
  have hd : D.drop i = s :: D.drop (i + 1) := by
    rw [List.drop_eq_getElem_cons hl]; rw [List.getElem?_eq_getElem hl] at h; simp at h; rw [h]
  rw [hd]
  simp [Nat.min_eq_left (Nat.le_of_lt hl)]
theorem flushN_ok {D : DevS} (h : ∀ s ∈ D, Sec.ok s) (i : Nat) : ∀ s ∈ flushN i D, Sec.ok s := by
  intro s hs
  simp only [flushN, List.mem_append, List.mem_map] at hs
  rcases hs with ⟨t, ht, rfl⟩ | hs
  · exact (h t (List.mem_of_mem_take ht)).flush
  · exact h s (List.mem_of_mem_drop hs)
theorem flush_tr (d : Nat) (D : DevS) : Tr Tryz.prog 107 #[ptr d] (devR d D) (fun v => pu (v = i64 0) * devR d (flushD D)) := by
  refine tr_body Tryz.func107 (by kernel_rfl) rfl Tryz.ntmps107 rfl (L := [(0, ptr d)]) (covers_cons rfl covers_nil) rfl ?_
  intro F w0 f
  refine devR_open fun p k hd => ?_
  have hhi := hd.hi
  refine cc_seq ?_
  refine cc_region ?_
  refine rr_assign rfl rfl ?_
  refine rr_nil ?_
  refine cc_seq ?_
  refine cc_seq ?_
  refine cc_region ?_
  refine rr_move rfl rfl ?_
  refine r_pnil rfl rfl rfl ?_
  refine rr_nil ?_
  refine cc_condF rfl ?_
  refine cc_skip ?_
  refine cc_seq ?_
  refine cc_seq ?_
  refine cc_region ?_
  refine rr_move rfl rfl ?_
  refine rr_nilCheck rfl rfl ?_
  refine r_fa rfl rfl ?_
  refine r_ld rfl (ls0 rfl) rfl rfl ?_
  refine r_lens rfl rfl ?_
  refine rr_move rfl rfl ?_
  refine rr_nil ?_
  refine cc_block ?_
  refine cc_loopW (α := Nat) (fun i => [(11, i64 i), (10, i64 D.length), (0, ptr d)]) (fun i => pu (i ≤ D.length) * (bl d 92 [.slice (some ⟨p, 0, none⟩) D.length D.length, i64 k] * bl p 194 ((flushN i D).flatMap secV) * F)) (fun i => D.length - i) (0) (by repeat' (first | exact covers_nil | (refine covers_cons ?_ ?_; · first | rfl | (simp [lk, lk?]; done)))) (by exact entW_pu (by omega) (by simpa [flushN] using entW_fr)) ?_
  rintro i f
  refine CC.pu fun hi => ?_
  refine cc_seq ?_
  refine cc_region ?_
  refine r_int rfl rfl rfl rfl ?_
  refine rr_nil ?_
  refine cc_seq ?_
  refine cc_cond rfl (fun h12 => ?_) (fun h12 => ?_)
  · try simp only [decide_eq_true_eq, decide_eq_false_iff_not, beq_iff_eq, beq_eq_false_iff_ne, bne_iff_ne, bne_eq_false_iff_eq, ne_eq, Bool.not_eq_eq_eq_not, Bool.not_true, Bool.not_false] at h12
    obtain ⟨s, hs⟩ := lt_get (l := D) (j := i) (by omega)
    have hso := hd.secs s (get_mem hs)
    have hw := (DevS.ok.mk (flushN_ok hd.secs i) (by rw [flushN_len]; exact hd.lo) (by rw [flushN_len]; exact hd.hi)).w
    have hs1 : ({ s with lasts := s.now } : Sec).ok := ⟨hso.now, hso.now⟩
    have hg1 : ((flushN i D).set i ({ s with lasts := s.now } : Sec))[i]? = some ({ s with lasts := s.now } : Sec) := by rw [List.getElem?_set_self (by rw [flushN_len]; omega)]
    have hw1 : ∀ y ∈ (flushN i D).set i ({ s with lasts := s.now } : Sec), (secV y).length = 129 := all_set hw (secV_len hs1)
    refine cc_skip ?_
    refine cc_seq ?_
    refine cc_block ?_
    refine cc_seq ?_
    refine cc_region ?_
    refine rr_move rfl rfl ?_
    refine rr_assign rfl rfl ?_
    refine rr_nil ?_
    refine cc_draw (1) [] [] mixed (by decide +kernel) ?_
    refine rr_move rfl rfl ?_
    refine rr_nilCheck rfl rfl ?_
    refine r_fa rfl rfl ?_
    refine r_ld rfl (ls0 rfl) rfl rfl ?_
    refine rr_move rfl rfl ?_
    refine rr_move rfl rfl ?_
    refine rr_nilCheck rfl rfl ?_
    refine r_fa rfl rfl ?_
    refine r_ld rfl (ls0 rfl) rfl rfl ?_
    refine rr_move rfl rfl ?_
    refine rr_move rfl rfl ?_
    refine rr_nilCheck rfl rfl ?_
    refine r_fa rfl rfl ?_
    refine r_ld rfl (ls0 rfl) rfl rfl ?_
    refine rr_move rfl rfl ?_
    refine r_ix rfl rfl rfl (by omega) ?_
    refine r_fa rfl rfl ?_
    refine r_lda rfl (ls0 rfl) (cut_at (j := 0) hw (flushN_get hs) (by omega) (sec_now hso)) rfl ?_
    refine r_ix rfl rfl rfl (by omega) ?_
    refine r_fa rfl rfl ?_
    refine r_sta rfl rfl (by simp [hso.now]) (bv_one _) (set_at (j := 64) ({ s with lasts := s.now } : Sec) hw (flushN_get hs) (by omega) (by simp [hso.now]) (sec_setlasts hso hso.now)) (by rw [fm_len hw, flushN_len, bv_length, hso.now]; omega) (sd0 rfl) (sd0 rfl) ?_
    refine r_ix rfl rfl rfl (by omega) ?_
    refine r_fa rfl rfl ?_
    refine r_st rfl rfl rfl (set1_at (j := 128) s.flush hw1 hg1 (by omega) (sec_setloose hs1 false)) (sd0 rfl) (sd0 rfl) ?_
    rw [List.set_set, flushN_set hs]
    refine rr_nil ?_
    refine cc_region ?_
    refine r_add rfl rfl rfl (by omega) ?_
    refine rr_move rfl rfl ?_
    refine rr_nil ?_
    exact ⟨i + 1, by omega, by repeat' (first | exact covers_nil | (refine covers_cons ?_ ?_; · first | rfl | (simp [lk, lk?]; done))), entW_pu (by omega) entW_fr⟩
  · try simp only [decide_eq_true_eq, decide_eq_false_iff_not, beq_iff_eq, beq_eq_false_iff_ne, bne_iff_ne, bne_eq_false_iff_eq, ne_eq, Bool.not_eq_eq_eq_not, Bool.not_true, Bool.not_false] at h12
    obtain rfl : i = D.length := by omega
    refine cc_exit ?_
    refine cc_seq ?_
    refine cc_region ?_
    refine rr_move rfl rfl ?_
    refine rr_nilCheck rfl rfl ?_
    refine r_fa rfl rfl ?_
    refine r_ld rfl (ls0 rfl) rfl rfl ?_
    refine r_int rfl rfl rfl rfl ?_
    refine rr_nilCheck rfl rfl ?_
    refine r_fa rfl rfl ?_
    refine r_st rfl rfl rfl rfl (sd0 rfl) (sd0 rfl) ?_
    refine rr_nil ?_
    refine cc_seq ?_
    refine cc_region ?_
    refine rr_assign rfl rfl ?_
    refine rr_nil ?_
    refine cc_ret ?_
    exact ⟨_, rfl, entW_pu2 rfl (entW_ent (devR_intro _ ⟨fun s hs => by
      obtain ⟨t, ht, rfl⟩ := List.mem_map.1 hs; exact (hd.secs t ht).flush, by simpa [flushD] using hd.lo, by simpa [flushD] using hd.hi⟩ (by simp [flushD]) (by simp [flushN, flushD])))⟩
end Go.Proofs.YtoiakcgdkegncaaGreat

namespace Go.Proofs.YtoiakcgdkegncaaGreat
open Go.RowKit Ice
attribute [local irreducible] CC RR Tr crcL be
theorem repC_zero (n : Nat) : repC [.int .u8 0] n = bv (zeros n) := by rw [repC_one, zeros, bv_rep]; rfl
structure SupS where
  at_ : Nat
  turn : Nat
  text : Txt
  slot : Nat
/-- a super -/
def superR (s d : Nat) (S : SupS) : SL := ex fun v => bl s 245 [ptr d, i64 S.at_, i64 S.turn, v, i64 S.slot] * slR v 5 1 S.text.length (bv S.text)
theorem superR_mk (s d : Nat) (S : SupS) (v : Value) : Ent (bl s 245 [ptr d, i64 S.at_, i64 S.turn, v, i64 S.slot] * slR v 5 1 S.text.length (bv S.text)) (superR s d S) :=
  ent_exi (g := fun v => bl s 245 [ptr d, i64 S.at_, i64 S.turn, v, i64 S.slot] * slR v 5 1 S.text.length (bv S.text)) v rfl
def supRest (n : Nat) (b : Txt) : Txt := be 8 (UInt64.ofNat n) ++ (UInt8.ofNat b.length :: (b ++ zeros (51 - b.length)))
/-- a super's sector -/
def supSec (n : Nat) (b : Txt) : Txt := be 4 (crcL (supRest n b)).toUInt64 ++ supRest n b
theorem supRest_len (n : Nat) (b : Txt) (h : b.length ≤ 40) : (supRest n b).length = 60 := by simp [supRest, zeros]; omega
theorem supSec_len (n : Nat) (b : Txt) (h : b.length ≤ 40) : (supSec n b).length = 64 := by simp [supSec, supRest_len n b h]
theorem swrite_tr (s d slot n : Nat) (u : Value) (S : SupS) (D : DevS) (b : Txt) (sec : Sec) (hb : b.length ≤ 40) (hslot : slot ≤ 1) (hn : n < 2 ^ 62) (hat : S.at_ ≤ 5000) (hs : D[S.at_ + slot]? = some sec) :
    Tr Tryz.prog 149 #[ptr s, i64 slot, i64 n, u] (superR s d S * devR d D * slR u 5 1 b.length (bv b))
      (fun v => pu (v = i64 0) * (superR s d ⟨S.at_, n, b, slot⟩ * devR d (flushD (D.set (S.at_ + slot) (sec.write (supSec n b)))) * slR u 5 1 b.length (bv b))) := by
  refine tr_body Tryz.func149 (by kernel_rfl) rfl Tryz.ntmps149 rfl (L := [(0, ptr s), (1, i64 slot), (2, i64 n), (3, u)]) (covers_cons rfl (covers_cons rfl (covers_cons rfl (covers_cons rfl covers_nil)))) rfl ?_
  intro F w0 f
  refine CC.slv u fun base cap hu _ => ?_
  subst hu
  refine CC.opn (superR s d S) rfl fun tv => ?_
  refine cc_seq ?_
  refine cc_region ?_
  refine rr_assign rfl rfl ?_
  refine rr_nil ?_
  refine cc_seq ?_
  refine cc_region ?_
  refine r_mks (m := 64) (c := 64) rfl rfl rfl (by omega) (by omega) (by omega) rfl (sd0 rfl) (fun _ => sd0 rfl) (fun x => ?_)
  rw [repC_zero]
  refine rr_assign rfl rfl ?_
  refine rr_nil ?_
  refine cc_seq ?_
  refine cc_region ?_
  refine rr_move rfl rfl ?_
  refine r_sls (lo := 4) (hi := 12) rfl (by first | rfl | exact ⟨_, rfl⟩) (by first | rfl | exact ⟨_, rfl⟩) rfl (by omega) (by omega) (by omega) ?_
  refine rr_move rfl rfl ?_
  refine r_conv rfl rfl ?_
  rw [ku64_of]
  refine rr_call rfl rfl rfl rfl (sput_tr x 4 8 60 5 (bv (zeros 64)) (UInt64.ofNat n) (by omega) (by simp [zeros]) (by simp [zeros])) inferInstance rfl (sd0 rfl) (fun _ => sd0 rfl) rfl (fun v => ?_)
  first | refine RR.pu2 ?_ | refine RR.pu ?_
  rintro rfl
  refine rr_nil ?_
  refine CC.clb x (bv ((zeros 4 ++ be 8 (UInt64.ofNat n)) ++ (0 :: zeros 51))) (by rw [bv_take, bv_drop, ← bv_append, ← bv_append, List.append_assoc]; rfl) ?_
  refine cc_seq ?_
  refine cc_region ?_
  refine rr_move rfl rfl ?_
  refine rr_move rfl rfl ?_
  refine r_lens rfl rfl ?_
  refine r_conv rfl rfl ?_
  rw [ku8_of]
  refine r_ix rfl rfl rfl (by omega) ?_
  refine r_st (cs' := bv ((zeros 4 ++ be 8 (UInt64.ofNat n)) ++ (UInt8.ofNat b.length :: zeros 51))) rfl rfl rfl (setb (by simp [zeros])) (sd0 rfl) (sd0 rfl) ?_
  refine rr_nil ?_
  refine cc_seq ?_
  refine CC.clb x (bv ((zeros 4 ++ (be 8 (UInt64.ofNat n) ++ [UInt8.ofNat b.length])) ++ (zeros b.length ++ zeros (51 - b.length)))) (by
    have : zeros 51 = zeros b.length ++ zeros (51 - b.length) := by simp only [zeros]; rw [List.replicate_append_replicate, show b.length + (51 - b.length) = 51 by omega]
    rw [this]; simp) ?_
  refine cc_region ?_
  refine rr_move rfl rfl ?_
  refine r_sls (lo := 13) rfl (by first | rfl | exact ⟨_, rfl⟩) (by first | rfl | exact ⟨_, rfl⟩) rfl (by omega) (by omega) (by omega) ?_
  refine rr_move rfl rfl ?_
  refine r_cpy (kk' := b.length) (ys := bv b) (cs' := bv ((zeros 4 ++ (be 8 (UInt64.ofNat n) ++ [UInt8.ofNat b.length])) ++ (b ++ zeros (51 - b.length)))) rfl rfl inferInstance (fun _ _ => rfl) (by simp; omega) (fun w sa => fst_slR sa) (by simp [zeros]; omega) (bv_one _) (copyb (by simp [zeros]) (by simp [zeros])) inferInstance rfl (sd0 rfl) (sd0 rfl) ?_
  refine rr_nil ?_
  refine CC.clb x (bv (zeros 4 ++ supRest n b)) (by simp [supRest]) ?_
  refine cc_seq ?_
  refine cc_draw (1) [] [] mixed (by decide +kernel) ?_
  refine rr_move rfl rfl ?_
  refine r_sls (hi := 4) rfl (by first | rfl | exact ⟨_, rfl⟩) (by first | rfl | exact ⟨_, rfl⟩) rfl (by omega) (by omega) (by omega) ?_
  refine rr_move rfl rfl ?_
  refine r_sls (lo := 4) rfl (by first | rfl | exact ⟨_, rfl⟩) (by first | rfl | exact ⟨_, rfl⟩) rfl (by omega) (by omega) (by omega) ?_
  refine r_bsl (cs := [vS x 4 60 60]) rfl rfl rfl rfl rfl rfl (sd0 rfl) (fun _ => sd0 rfl) (fun p => ?_)
  refine rr_call rfl rfl rfl rfl (sum_tr x p 4 60 60 1 5 (bv (zeros 4 ++ supRest n b)) (supRest n b) (supRest_len n b hb) (by omega) (fun j hj => nth_app (by simp [zeros]))) inferInstance rfl (sd0 rfl) (fun _ => sd0 rfl) rfl (fun v => ?_)
  first | refine RR.pu2 ?_ | refine RR.pu ?_
  rintro rfl
  refine r_conv rfl rfl ?_
  rw [ku32_u64]
  refine rr_call rfl rfl rfl rfl (sput_tr x 0 4 64 5 (bv (zeros 4 ++ supRest n b)) _ (by omega) (by simp [zeros]) (by simp [zeros, supRest_len n b hb])) inferInstance rfl (sd0 rfl) (fun _ => sd0 rfl) rfl (fun v => ?_)
  first | refine RR.pu2 ?_ | refine RR.pu ?_
  rintro rfl
  refine rr_nil ?_
  refine CC.clb x (bv (supSec n b)) (by rw [bv_take, bv_drop, ← bv_append, ← bv_append]; rfl) ?_
  refine cc_seq ?_
  refine cc_seq ?_
  refine cc_draw (1) [] [] mixed (by decide +kernel) ?_
  refine rr_move rfl rfl ?_
  refine rr_nilCheck rfl rfl ?_
  refine r_fa rfl rfl ?_
  refine r_ld rfl (ls0 rfl) rfl rfl ?_
  refine rr_move rfl rfl ?_
  refine rr_nilCheck rfl rfl ?_
  refine r_fa rfl rfl ?_
  refine r_ld rfl (ls0 rfl) rfl rfl ?_
  refine rr_move rfl rfl ?_
  refine r_add rfl rfl rfl (by omega) ?_
  refine rr_move rfl rfl ?_
  refine rr_call rfl rfl rfl rfl (write_tr d (S.at_ + slot) D sec hs x 0 64 64 5 (bv (supSec n b)) (supSec n b) (supSec_len n b hb) (by omega) (by simp [supSec_len n b hb]) (by rw [List.drop_zero, List.take_of_length_le]; simp [supSec_len n b hb])) inferInstance rfl (sd0 rfl) (fun _ => sd0 rfl) rfl (fun v => ?_)
  first | refine RR.pu2 ?_ | refine RR.pu ?_
  rintro rfl
  refine rr_assign rfl rfl ?_
  refine rr_nil ?_
  refine cc_seq ?_
  refine cc_region ?_
  refine rr_move rfl rfl ?_
  refine r_int rfl rfl rfl rfl ?_
  refine rr_nil ?_
  refine cc_condF rfl ?_
  refine cc_skip ?_
  refine cc_seq ?_
  refine cc_seq ?_
  refine cc_region ?_
  refine rr_move rfl rfl ?_
  refine rr_nilCheck rfl rfl ?_
  refine r_fa rfl rfl ?_
  refine r_ld rfl (ls0 rfl) rfl rfl ?_
  refine rr_call rfl rfl rfl rfl (flush_tr d (D.set (S.at_ + slot) (sec.write (supSec n b)))) inferInstance rfl (sd0 rfl) (fun _ => sd0 rfl) rfl (fun v => ?_)
  first | refine RR.pu2 ?_ | refine RR.pu ?_
  rintro rfl
  refine rr_assign rfl rfl ?_
  refine rr_nil ?_
  refine cc_seq ?_
  refine cc_region ?_
  refine rr_move rfl rfl ?_
  refine r_int rfl rfl rfl rfl ?_
  refine rr_nil ?_
  refine cc_condF rfl ?_
  refine cc_skip ?_
  refine cc_seq ?_
  refine cc_region ?_
  refine rr_move rfl rfl ?_
  refine rr_move rfl rfl ?_
  refine rr_move rfl rfl ?_
  refine rr_move rfl rfl ?_
  refine rr_move rfl rfl ?_
  refine rr_move rfl rfl ?_
  refine rr_call rfl rfl rfl rfl (cloneS_tr _ b.length b rfl (by omega)) inferInstance rfl (sd0 rfl) (fun _ => sd0 rfl) rfl (fun v => ?_)
  refine RR.slv v fun b2 c2 e2 _ => ?_
  subst e2
  refine rr_nilCheck rfl rfl ?_
  refine r_fa rfl rfl ?_
  refine r_st rfl rfl rfl rfl (sd0 rfl) (sd0 rfl) ?_
  refine rr_nilCheck rfl rfl ?_
  refine r_fa rfl rfl ?_
  refine r_st rfl rfl rfl rfl (sd0 rfl) (sd0 rfl) ?_
  refine rr_nilCheck rfl rfl ?_
  refine r_fa rfl rfl ?_
  refine r_st rfl rfl rfl rfl (sd0 rfl) (sd0 rfl) ?_
  refine rr_nil ?_
  refine cc_seq ?_
  refine cc_region ?_
  refine rr_assign rfl rfl ?_
  refine rr_nil ?_
  refine cc_ret ?_
  refine ⟨_, rfl, entW_pu2 rfl ?_⟩
  refine entW_cls (superR s d ⟨S.at_, n, b, slot⟩) _ (ent_exi (.slice b2 b.length c2) rfl) ?_
  exact entW_fr
/-- a sector of a device is written -/
def devW (D : DevS) (i : Nat) (x : Txt) : DevS := D.set i ((D[i]?.getD sec0).write x)
@[simp] theorem devW_len (D : DevS) (i : Nat) (x : Txt) : (devW D i x).length = D.length := by simp [devW]
@[simp] theorem flushD_len (D : DevS) : (flushD D).length = D.length := by simp [flushD]
theorem devW_eq {D : DevS} {i : Nat} {s : Sec} {x : Txt} (h : D[i]? = some s) : D.set i (s.write x) = devW D i x := by simp [devW, h]
theorem writeW_tr (d i : Nat) (D : DevS) (hi : i < D.length) (b o m cap E : Nat) (cs : List Value) (x : Txt) (hx : x.length = m) (hm : m ≤ 64) (ho : o + m ≤ cs.length) (hc : (cs.drop o).take m = bv x) :
    Tr Tryz.prog 58 #[ptr d, i64 i, vS b o m cap] (devR d D * bl b E cs) (fun v => pu (v = i64 0) * (devR d (devW D i x) * bl b E cs)) := by
  obtain ⟨s, hs⟩ := lt_get hi
  have := write_tr d i D s hs b o m cap E cs x hx hm ho hc
  rwa [devW_eq hs] at this
/-- a super's next state, on its device -/
def supW (D : DevS) (at_ slot turn : Nat) (b : Txt) : DevS := flushD (devW D (at_ + slot) (supSec turn b))
@[simp] theorem supW_len (D : DevS) (a s t : Nat) (b : Txt) : (supW D a s t b).length = D.length := by simp [supW]
theorem swriteW_tr (s d slot n : Nat) (u : Value) (S : SupS) (D : DevS) (b : Txt) (hb : b.length ≤ 40) (hslot : slot ≤ 1) (hn : n < 2 ^ 62) (hat : S.at_ ≤ 5000) (hs : S.at_ + slot < D.length) :
    Tr Tryz.prog 149 #[ptr s, i64 slot, i64 n, u] (superR s d S * devR d D * slR u 5 1 b.length (bv b))
      (fun v => pu (v = i64 0) * (superR s d ⟨S.at_, n, b, slot⟩ * devR d (supW D S.at_ slot n b) * slR u 5 1 b.length (bv b))) := by
  obtain ⟨sec, h⟩ := lt_get hs
  have := swrite_tr s d slot n u S D b sec hb hslot hn hat h
  rwa [devW_eq h] at this
theorem there_tr (d i : Nat) (D : DevS) (hi : i + 1 < D.length) (h2 : i ≤ 5000) : Tr Tryz.prog 148 #[ptr d, i64 i] (devR d D) (fun v => pu (v = .bool true) * devR d D) := by
  refine tr_body Tryz.func148 (by kernel_rfl) rfl Tryz.ntmps148 rfl (L := [(0, ptr d), (1, i64 i)]) (covers_cons rfl (covers_cons rfl covers_nil)) rfl ?_
  intro F w0 f
  refine CC.fact (devR d D) (fun w => devR_fact) fun hd => ?_
  have hh := hd.hi
  refine cc_seq ?_
  refine cc_region ?_
  refine rr_assign rfl rfl ?_
  refine rr_nil ?_
  refine cc_seq ?_
  refine cc_region ?_
  refine rr_move rfl rfl ?_
  refine r_int rfl rfl rfl rfl ?_
  rw [show decide ((0 : Int) ≤ (i : Int)) = true by simp]
  refine rr_move rfl rfl ?_
  refine rr_guardY rfl rfl rfl ?_
  refine rr_move rfl rfl ?_
  refine rr_guardY rfl rfl rfl ?_
  refine rr_move rfl rfl ?_
  refine rr_guardY rfl rfl rfl ?_
  refine rr_call rfl rfl rfl rfl (len_tr d D) inferInstance rfl (sd0 rfl) (fun _ => sd0 rfl) rfl (fun v => ?_)
  first | refine RR.pu2 ?_ | refine RR.pu ?_
  rintro rfl
  refine rr_guardY rfl rfl rfl ?_
  refine r_sub rfl rfl rfl (by omega) ?_
  refine rr_guardY rfl rfl rfl ?_
  refine r_int rfl rfl rfl rfl ?_
  rw [show decide ((i : Int) < (D.length : Int) - 1) = true by simp; omega]
  first | refine rr_pick rfl rfl ?_ | refine rr_pickb rfl rfl rfl rfl ?_
  refine rr_assign rfl rfl ?_
  refine rr_nil ?_
  refine cc_ret ?_
  exact ⟨_, rfl, entW_pu2 rfl entW_fr⟩
def supZ (D : DevS) (a : Nat) : Nat → DevS
  | 0 => D
  | k + 1 => devW (supZ D a k) (a + k) (zeros 64)
@[simp] theorem supZ_len (D : DevS) (a k : Nat) : (supZ D a k).length = D.length := by induction k with
  | zero => rfl
  | succ k ih => simp [supZ, ih]
/-- a super is made -/
def supMake (D : DevS) (a : Nat) (b : Txt) : DevS := supW (flushD (supZ D a 2)) a 0 1 b
theorem smake_tr (d at_ : Nat) (u : Value) (D : DevS) (b : Txt) (hb : b.length ≤ 40) (hat : at_ ≤ 5000) (hs : at_ + 1 < D.length) :
    Tr Tryz.prog 109 #[ptr d, i64 at_, u] (devR d D * slR u 5 1 b.length (bv b))
      (fun v => ex fun s => pu (v = .tuple #[ptr s, i64 0]) * (superR s d ⟨at_, 1, b, 0⟩ * devR d (supMake D at_ b) * slR u 5 1 b.length (bv b))) := by
  refine tr_body Tryz.func109 (by kernel_rfl) rfl Tryz.ntmps109 rfl (L := [(0, ptr d), (1, i64 at_), (2, u)]) (covers_cons rfl (covers_cons rfl (covers_cons rfl covers_nil))) rfl ?_
  intro F w0 f
  refine CC.slv u fun base cap hu _ => ?_
  subst hu
  refine cc_seq ?_
  refine cc_region ?_
  refine rr_assign rfl rfl ?_
  refine rr_assign rfl rfl ?_
  refine rr_nil ?_
  refine cc_seq ?_
  refine cc_block ?_
  refine cc_seq ?_
  refine cc_region ?_
  refine rr_move rfl rfl ?_
  refine r_pnil rfl rfl rfl ?_
  refine rr_assign rfl rfl ?_
  refine rr_nil ?_
  refine cc_condF rfl ?_
  refine cc_seq ?_
  refine cc_region ?_
  refine rr_move rfl rfl ?_
  refine rr_move rfl rfl ?_
  refine rr_call rfl rfl rfl rfl (there_tr d at_ D hs hat) inferInstance rfl (sd0 rfl) (fun _ => sd0 rfl) rfl (fun v => ?_)
  first | refine RR.pu2 ?_ | refine RR.pu ?_
  rintro rfl
  refine r_not rfl rfl ?_
  refine rr_assign rfl rfl ?_
  refine rr_nil ?_
  refine cc_condF rfl ?_
  refine cc_seq ?_
  refine cc_region ?_
  refine rr_move rfl rfl ?_
  refine r_lens rfl rfl ?_
  refine r_int rfl rfl rfl rfl ?_
  rw [show decide ((40 : Int) < (b.length : Int)) = false by simp; omega]
  refine rr_assign rfl rfl ?_
  refine rr_nil ?_
  refine cc_condF rfl ?_
  refine cc_skip ?_
  refine cc_seq ?_
  refine cc_seq ?_
  refine cc_region ?_
  refine rr_move rfl rfl ?_
  refine rr_nil ?_
  refine cc_block ?_
  refine cc_loopW (α := Nat) (fun k => [(24, i64 k), (0, ptr d), (1, i64 at_), (2, .slice base b.length cap), (6, .pointer none), (7, i64 0)]) (fun k => pu (k ≤ 2) * (devR d (supZ D at_ k) * slR (.slice base b.length cap) 5 1 b.length (bv b) * F)) (fun k => 2 - k) (0) (by repeat' (first | exact covers_nil | (refine covers_cons ?_ ?_; · first | rfl | (simp [lk, lk?]; done)))) (by exact entW_pu (by omega) (by simp only [supZ]; exact entW_fr)) ?_
  rintro k f
  refine CC.pu fun hk => ?_
  refine cc_seq ?_
  refine cc_region ?_
  refine r_int rfl rfl rfl rfl ?_
  refine rr_nil ?_
  refine cc_seq ?_
  refine cc_cond rfl (fun h25 => ?_) (fun h25 => ?_)
  · try simp only [decide_eq_true_eq, decide_eq_false_iff_not, beq_iff_eq, beq_eq_false_iff_ne, bne_iff_ne, bne_eq_false_iff_eq, ne_eq, Bool.not_eq_eq_eq_not, Bool.not_true, Bool.not_false] at h25
    refine cc_skip ?_
    refine cc_seq ?_
    refine cc_block ?_
    refine cc_seq ?_
    refine cc_region ?_
    refine rr_move rfl rfl ?_
    refine rr_assign rfl rfl ?_
    refine rr_nil ?_
    refine cc_seq ?_
    refine cc_region ?_
    refine rr_move rfl rfl ?_
    refine rr_move rfl rfl ?_
    refine rr_move rfl rfl ?_
    refine r_add rfl rfl rfl (by omega) ?_
    refine r_mks (m := 64) (c := 64) rfl rfl rfl (by omega) (by omega) (by omega) rfl (sd0 rfl) (fun _ => sd0 rfl) (fun x => ?_)
    rw [repC_zero]
    refine rr_call rfl rfl rfl rfl (writeW_tr d (at_ + k) (supZ D at_ k) (by simp; omega) x 0 64 64 5 (bv (zeros 64)) (zeros 64) (by simp [zeros]) (by omega) (by simp [zeros]) (by rw [List.drop_zero, List.take_of_length_le]; simp [zeros])) inferInstance rfl (sd0 rfl) (fun _ => sd0 rfl) rfl (fun v => ?_)
    first | refine RR.pu2 ?_ | refine RR.pu ?_
    rintro rfl
    refine rr_assign rfl rfl ?_
    refine rr_nil ?_
    refine cc_seq ?_
    refine cc_region ?_
    refine rr_move rfl rfl ?_
    refine r_int rfl rfl rfl rfl ?_
    refine rr_nil ?_
    refine cc_condF rfl ?_
    refine cc_skip ?_
    refine cc_region ?_
    refine r_add rfl rfl rfl (by omega) ?_
    refine rr_move rfl rfl ?_
    refine rr_nil ?_
    exact ⟨k + 1, by omega, by repeat' (first | exact covers_nil | (refine covers_cons ?_ ?_; · first | rfl | (simp [lk, lk?]; done))), entW_pu (by omega) (by simp only [supZ]; exact entW_fr)⟩
  · try simp only [decide_eq_true_eq, decide_eq_false_iff_not, beq_iff_eq, beq_eq_false_iff_ne, bne_iff_ne, bne_eq_false_iff_eq, ne_eq, Bool.not_eq_eq_eq_not, Bool.not_true, Bool.not_false] at h25
    obtain rfl : k = 2 := by omega
    refine cc_exit ?_
    refine cc_seq ?_
    refine cc_seq ?_
    refine cc_region ?_
    refine rr_move rfl rfl ?_
    refine rr_call rfl rfl rfl rfl (flush_tr d (supZ D at_ 2)) inferInstance rfl (sd0 rfl) (fun _ => sd0 rfl) rfl (fun v => ?_)
    first | refine RR.pu2 ?_ | refine RR.pu ?_
    rintro rfl
    refine rr_assign rfl rfl ?_
    refine rr_nil ?_
    refine cc_seq ?_
    refine cc_region ?_
    refine rr_move rfl rfl ?_
    refine r_int rfl rfl rfl rfl ?_
    refine rr_nil ?_
    refine cc_condF rfl ?_
    refine cc_skip ?_
    refine cc_seq ?_
    refine cc_region ?_
    refine rr_move rfl rfl ?_
    refine rr_move rfl rfl ?_
    refine r_bld rfl rfl rfl ?_
    refine r_boxa rfl rfl (sd0 rfl) (fun _ => sd0 rfl) (fun p17_3 => ?_)
    refine rr_assign rfl rfl ?_
    refine rr_nil ?_
    refine cc_seq ?_
    refine CC.entW ?_ (entW_ent (ent_nilB 5))
    refine CC.cls (superR p17_3 d ⟨at_, 0, [], 0⟩) (bl p17_3 245 [ptr d, i64 at_, .int .i64 0, .slice none 0 0, .int .i64 0] * slR (.slice none 0 0) 5 1 ([] : Txt).length (bv [])) (superR_mk p17_3 d ⟨at_, 0, [], 0⟩ (.slice none 0 0)) ?_
    refine cc_region ?_
    refine rr_move rfl rfl ?_
    refine rr_move rfl rfl ?_
    refine rr_move rfl rfl ?_
    refine rr_call rfl rfl rfl rfl (swriteW_tr p17_3 d 0 1 _ ⟨at_, 0, [], 0⟩ (flushD (supZ D at_ 2)) b hb (by omega) (by omega) hat (by simp; omega)) inferInstance rfl (sd0 rfl) (fun _ => sd0 rfl) rfl (fun v => ?_)
    first | refine RR.pu2 ?_ | refine RR.pu ?_
    rintro rfl
    refine rr_assign rfl rfl ?_
    refine rr_assign rfl rfl ?_
    refine rr_nil ?_
    refine cc_ret ?_
    exact ⟨_, rfl, entW_ex2 p17_3 (entW_pu2 rfl (by simp only [supMake]; exact entW_fr))⟩
theorem ssave_tr (s d : Nat) (u : Value) (S : SupS) (D : DevS) (b : Txt) (hb : b.length ≤ 40) (hslot : S.slot ≤ 1) (hn : S.turn < 2 ^ 61) (hat : S.at_ ≤ 5000) (hs : S.at_ + 1 < D.length) :
    Tr Tryz.prog 120 #[ptr s, u] (superR s d S * devR d D * slR u 5 1 b.length (bv b))
      (fun v => pu (v = i64 0) * (superR s d ⟨S.at_, S.turn + 1, b, 1 - S.slot⟩ * devR d (supW D S.at_ (1 - S.slot) (S.turn + 1) b) * slR u 5 1 b.length (bv b))) := by
  refine tr_body Tryz.func120 (by kernel_rfl) rfl Tryz.ntmps120 rfl (L := [(0, ptr s), (1, u)]) (covers_cons rfl (covers_cons rfl covers_nil)) rfl ?_
  intro F w0 f
  refine CC.slv u fun base cap hu _ => ?_
  subst hu
  refine cc_seq ?_
  refine cc_region ?_
  refine rr_assign rfl rfl ?_
  refine rr_nil ?_
  refine cc_seq ?_
  refine cc_block ?_
  refine cc_seq ?_
  refine cc_region ?_
  refine rr_move rfl rfl ?_
  refine r_pnil rfl rfl rfl ?_
  refine rr_assign rfl rfl ?_
  refine rr_nil ?_
  refine cc_condF rfl ?_
  refine cc_seq ?_
  refine cc_region ?_
  refine rr_move rfl rfl ?_
  refine r_lens rfl rfl ?_
  refine r_int rfl rfl rfl rfl ?_
  rw [show decide ((40 : Int) < (b.length : Int)) = false by simp; omega]
  refine rr_assign rfl rfl ?_
  refine rr_nil ?_
  refine cc_condF rfl ?_
  refine cc_skip ?_
  refine cc_seq ?_
  refine CC.opn (superR s d S) rfl fun tv => ?_
  refine cc_draw (1) [] [] mixed (by decide +kernel) ?_
  refine rr_move rfl rfl ?_
  refine rr_move rfl rfl ?_
  refine rr_nilCheck rfl rfl ?_
  refine r_fa rfl rfl ?_
  refine r_ld rfl (ls0 rfl) rfl rfl ?_
  refine r_sub rfl rfl rfl (by omega) ?_
  rw [show (1 : Int) - (S.slot : Int) = ((1 - S.slot : Nat) : Int) by omega]
  refine rr_move rfl rfl ?_
  refine rr_nilCheck rfl rfl ?_
  refine r_fa rfl rfl ?_
  refine r_ld rfl (ls0 rfl) rfl rfl ?_
  refine r_add rfl rfl rfl (by omega) ?_
  refine rr_move rfl rfl ?_
  refine RR.cls (superR s d S) _ (superR_mk s d S tv) ?_
  refine rr_call rfl rfl rfl rfl (swriteW_tr s d (1 - S.slot) (S.turn + 1) _ S D b hb (by omega) (by omega) hat (by omega)) inferInstance rfl (sd0 rfl) (fun _ => sd0 rfl) rfl (fun v => ?_)
  first | refine RR.pu2 ?_ | refine RR.pu ?_
  rintro rfl
  refine rr_assign rfl rfl ?_
  refine rr_nil ?_
  refine cc_ret ?_
  exact ⟨_, rfl, entW_pu2 rfl entW_fr⟩
theorem ssaveE_tr (s d at_ turn slot : Nat) (txt : Txt) (u : Value) (D : DevS) (b : Txt) (hb : b.length ≤ 40) (hslot : slot ≤ 1) (hn : turn < 2 ^ 61) (hat : at_ ≤ 5000) (hs : at_ + 1 < D.length) :
    Tr Tryz.prog 120 #[ptr s, u] (superR s d ⟨at_, turn, txt, slot⟩ * devR d D * slR u 5 1 b.length (bv b))
      (fun v => pu (v = i64 0) * (superR s d ⟨at_, turn + 1, b, 1 - slot⟩ * devR d (supW D at_ (1 - slot) (turn + 1) b) * slR u 5 1 b.length (bv b))) :=
  ssave_tr s d u ⟨at_, turn, txt, slot⟩ D b hb hslot hn hat hs
end Go.Proofs.YtoiakcgdkegncaaGreat

namespace Go.Proofs.YtoiakcgdkegncaaGreat
open Go.RowKit Ice
attribute [local irreducible] CC RR Tr crcL be supSec supW supMake enc
structure MetaS where
  boot : Int
  epoch : Int
  ready : Int
  frozen : Bool
def metaV (m : MetaS) : List Value := [i64 m.boot, i64 m.epoch, i64 m.ready, .bool m.frozen]
abbrev metaA (m : MetaS) : Value := .agg (metaV m).toArray
structure MetaS.ok (m : MetaS) : Prop where
  b0 : 0 ≤ m.boot
  b1 : m.boot ≤ 1099511627776
  e0 : 0 ≤ m.epoch
  e1 : m.epoch ≤ 1099511627776
  r0 : 0 ≤ m.ready
  r1 : m.ready ≤ 1099511627776
  re : m.ready = 0 ∨ m.epoch < m.ready
  fr : m.frozen = true → 0 < m.ready
def frI (b : Bool) : Int := if b then 1 else 0
def metaText (m : MetaS) : Txt := encs [m.boot, m.epoch, m.ready, frI m.frozen]
theorem metaText_len (m : MetaS) : (metaText m).length ≤ 40 := encs_len _
theorem mtext_tr (m : MetaS) (hm : m.ok) : Tr Tryz.prog 110 #[metaA m] 1 (fun v => slR v 5 1 (metaText m).length (bv (metaText m))) := by
  obtain ⟨b0, b1, e0, e1, r0, r1, re, fr⟩ := hm
  refine tr_body Tryz.func110 (by kernel_rfl) rfl Tryz.ntmps110 rfl (L := [(0, metaA m)]) (covers_cons rfl covers_nil) rfl ?_
  intro F w0 f
  rw [sl_one_mul]
  refine cc_seq ?_
  refine cc_region ?_
  refine r_boxa rfl rfl (sd0 rfl) (fun _ => sd0 rfl) (fun p0_0 => ?_)
  refine rr_assign rfl rfl ?_
  refine rr_nil ?_
  refine cc_seq ?_
  refine cc_region ?_
  refine rr_assign rfl rfl ?_
  refine rr_nil ?_
  refine cc_seq ?_
  refine cc_seq ?_
  refine cc_region ?_
  refine r_fa rfl rfl ?_
  refine r_ld rfl (ls0 rfl) rfl rfl ?_
  refine rr_nil ?_
  refine cc_cond rfl (fun h5 => ?_) (fun h5 => ?_)
  · try simp only [decide_eq_true_eq, decide_eq_false_iff_not, beq_iff_eq, beq_eq_false_iff_ne, bne_iff_ne, bne_eq_false_iff_eq, ne_eq, Bool.not_eq_eq_eq_not, Bool.not_true, Bool.not_false] at h5
    refine cc_region ?_
    refine rr_assign rfl rfl ?_
    refine rr_nil ?_
    refine cc_seq ?_
    refine cc_region ?_
    refine r_fa rfl rfl ?_
    refine r_ld rfl (ls0 rfl) rfl rfl ?_
    refine r_fa rfl rfl ?_
    refine r_ld rfl (ls0 rfl) rfl rfl ?_
    refine r_fa rfl rfl ?_
    refine r_ld rfl (ls0 rfl) rfl rfl ?_
    refine rr_move rfl rfl ?_
    refine r_bsl (cs := ([m.boot, m.epoch, m.ready, frI m.frozen] : List Int).map i64) rfl rfl (by simp only [frI, h5]; rfl) rfl rfl rfl (sd0 rfl) (fun _ => sd0 rfl) (fun p => ?_)
    refine RR.entW ?_ (entW_ent (ent_nilB 5))
    refine rr_call rfl rfl rfl rfl (nPut_tr (.slice none 0 0) [] p 4 [m.boot, m.epoch, m.ready, frI m.frozen] (by simp [frI]; omega) (by simp) (by simp)) inferInstance rfl (sd0 rfl) (fun _ => sd0 rfl) rfl (fun v => ?_)
    refine rr_assign rfl rfl ?_
    refine rr_nil ?_
    refine cc_ret ?_
    exact ⟨_, rfl, by simp only [metaText, List.nil_append]; exact entW_fr⟩
  · try simp only [decide_eq_true_eq, decide_eq_false_iff_not, beq_iff_eq, beq_eq_false_iff_ne, bne_iff_ne, bne_eq_false_iff_eq, ne_eq, Bool.not_eq_eq_eq_not, Bool.not_true, Bool.not_false] at h5
    refine cc_skip ?_
    refine cc_seq ?_
    refine cc_region ?_
    refine r_fa rfl rfl ?_
    refine r_ld rfl (ls0 rfl) rfl rfl ?_
    refine r_fa rfl rfl ?_
    refine r_ld rfl (ls0 rfl) rfl rfl ?_
    refine r_fa rfl rfl ?_
    refine r_ld rfl (ls0 rfl) rfl rfl ?_
    refine rr_move rfl rfl ?_
    refine r_bsl (cs := ([m.boot, m.epoch, m.ready, frI m.frozen] : List Int).map i64) rfl rfl (by simp only [frI, h5]; rfl) rfl rfl rfl (sd0 rfl) (fun _ => sd0 rfl) (fun p => ?_)
    refine RR.entW ?_ (entW_ent (ent_nilB 5))
    refine rr_call rfl rfl rfl rfl (nPut_tr (.slice none 0 0) [] p 4 [m.boot, m.epoch, m.ready, frI m.frozen] (by simp [frI]; omega) (by simp) (by simp)) inferInstance rfl (sd0 rfl) (fun _ => sd0 rfl) rfl (fun v => ?_)
    refine rr_assign rfl rfl ?_
    refine rr_nil ?_
    refine cc_ret ?_
    exact ⟨_, rfl, by simp only [metaText, List.nil_append]; exact entW_fr⟩
set_option maxRecDepth 8000 in
theorem mmay_tr (m : MetaS) (hm : m.ok) : Tr Tryz.prog 119 #[metaA m] 1 (fun v => pu (v = .bool true)) := by
  obtain ⟨b0, b1, e0, e1, r0, r1, re, fr⟩ := hm
  have r2 : m.ready ≤ 0 → m.ready = 0 := by omega
  refine tr_body Tryz.func119 (by kernel_rfl) rfl Tryz.ntmps119 rfl (L := [(0, metaA m)]) (covers_cons rfl covers_nil) rfl ?_
  intro F w0 f
  rw [sl_one_mul]
  refine cc_seq ?_
  refine cc_region ?_
  refine r_boxa rfl rfl (sd0 rfl) (fun _ => sd0 rfl) (fun p0_0 => ?_)
  refine rr_assign rfl rfl ?_
  refine rr_nil ?_
  refine cc_seq ?_
  refine cc_seq ?_
  refine cc_region ?_
  refine r_fa rfl rfl ?_
  refine r_ld rfl (ls0 rfl) rfl rfl ?_
  refine r_fa rfl rfl ?_
  refine r_ld rfl (ls0 rfl) rfl rfl ?_
  refine r_fa rfl rfl ?_
  refine r_ld rfl (ls0 rfl) rfl rfl ?_
  refine r_bsl (cs := ([m.boot, m.epoch, m.ready] : List Int).map i64) rfl rfl rfl rfl rfl rfl (sd0 rfl) (fun _ => sd0 rfl) (fun p => ?_)
  refine r_lens rfl rfl ?_
  refine rr_move rfl rfl ?_
  refine rr_nil ?_
  refine cc_block ?_
  refine cc_loopW (α := Nat) (fun k => [(13, i64 k), (12, i64 3), (11, .slice (some ⟨p, 0, none⟩) 3 3), (1, ptr p0_0)]) (fun k => pu (k ≤ 3) * (bl p 2 (([m.boot, m.epoch, m.ready] : List Int).map i64) * (bl p0_0 95 (metaV m) * F))) (fun k => 3 - k) (0) (by repeat' (first | exact covers_nil | (refine covers_cons ?_ ?_; · first | rfl | (simp [lk, lk?]; done)))) (by exact entW_pu (by omega) entW_fr) ?_
  rintro k f
  refine CC.pu fun hk => ?_
  refine cc_seq ?_
  refine cc_region ?_
  refine r_int rfl rfl rfl rfl ?_
  refine rr_nil ?_
  refine cc_seq ?_
  refine cc_cond rfl (fun h14 => ?_) (fun h14 => ?_)
  · try simp only [decide_eq_true_eq, decide_eq_false_iff_not, beq_iff_eq, beq_eq_false_iff_ne, bne_iff_ne, bne_eq_false_iff_eq, ne_eq, Bool.not_eq_eq_eq_not, Bool.not_true, Bool.not_false] at h14
    obtain ⟨x, hx, x0, x1⟩ : ∃ x, ([m.boot, m.epoch, m.ready] : List Int)[k]? = some x ∧ 0 ≤ x ∧ x ≤ 1099511627776 := by
      rcases (by omega : k = 0 ∨ k = 1 ∨ k = 2) with rfl | rfl | rfl
      · exact ⟨_, rfl, b0, b1⟩
      · exact ⟨_, rfl, e0, e1⟩
      · exact ⟨_, rfl, r0, r1⟩
    refine cc_skip ?_
    refine cc_seq ?_
    refine cc_block ?_
    refine cc_seq ?_
    refine cc_region ?_
    refine r_ix rfl rfl rfl (by omega) ?_
    refine r_ld rfl (ls0 rfl) (v := i64 x) (by rw [show 0 + (k : Int).toNat * 1 = k by omega]; exact nth_map hx) rfl ?_
    refine rr_assign rfl rfl ?_
    refine rr_nil ?_
    refine cc_seq ?_
    refine cc_region ?_
    refine rr_move rfl rfl ?_
    refine r_int rfl rfl rfl rfl ?_
    rw [show decide (x < 0) = false by simp; omega]
    refine rr_move rfl rfl ?_
    refine rr_guardY rfl rfl rfl ?_
    refine rr_move rfl rfl ?_
    refine rr_guardY rfl rfl rfl ?_
    refine r_int rfl rfl rfl rfl ?_
    rw [show decide ((1099511627776 : Int) < x) = false by simp; omega]
    first | refine rr_pick rfl rfl ?_ | refine rr_pickb rfl rfl rfl rfl ?_
    refine rr_nil ?_
    refine cc_condF rfl ?_
    refine cc_skip ?_
    refine cc_region ?_
    refine r_add rfl rfl rfl (by omega) ?_
    refine rr_move rfl rfl ?_
    refine rr_nil ?_
    exact ⟨k + 1, by omega, by repeat' (first | exact covers_nil | (refine covers_cons ?_ ?_; · first | rfl | (simp [lk, lk?]; done))), entW_pu (by omega) entW_fr⟩
  · try simp only [decide_eq_true_eq, decide_eq_false_iff_not, beq_iff_eq, beq_eq_false_iff_ne, bne_iff_ne, bne_eq_false_iff_eq, ne_eq, Bool.not_eq_eq_eq_not, Bool.not_true, Bool.not_false] at h14
    obtain rfl : k = 3 := by omega
    refine cc_exit ?_
    refine cc_seq ?_
    refine cc_region ?_
    refine r_fa rfl rfl ?_
    refine r_ld rfl (ls0 rfl) rfl rfl ?_
    refine r_int rfl rfl rfl rfl ?_
    refine rr_move rfl rfl ?_
    refine rr_guard rfl rfl rfl (fun hg7_3 => ?_) (fun hg7_3 => ?_)
    · refine r_fa rfl rfl ?_
      refine rr_guardY rfl rfl rfl ?_
      refine r_ld rfl (ls0 rfl) rfl rfl ?_
      refine rr_guardY rfl rfl rfl ?_
      refine r_fa rfl rfl ?_
      refine rr_guardY rfl rfl rfl ?_
      refine r_ld rfl (ls0 rfl) rfl rfl ?_
      refine rr_guardY rfl rfl rfl ?_
      refine r_int rfl rfl rfl rfl ?_
      first | refine rr_pick rfl rfl ?_ | refine rr_pickb rfl rfl rfl rfl ?_
      refine rr_move rfl rfl ?_
      refine rr_guard rfl rfl rfl (fun hg7_10 => ?_) (fun hg7_10 => ?_)
      · refine r_fa rfl rfl ?_
        refine rr_guardY rfl rfl rfl ?_
        refine r_ld rfl (ls0 rfl) rfl rfl ?_
        refine rr_guardY rfl rfl rfl ?_
        refine r_not rfl rfl ?_
        refine rr_guardY rfl rfl rfl ?_
        refine rr_move rfl rfl ?_
        refine rr_guard rfl rfl rfl (fun hg7_14 => ?_) (fun hg7_14 => ?_)
        · refine r_fa rfl rfl ?_
          refine rr_guardY rfl rfl rfl ?_
          refine r_ld rfl (ls0 rfl) rfl rfl ?_
          refine rr_guardY rfl rfl rfl ?_
          refine r_int rfl rfl rfl rfl ?_
          refine rr_guardY rfl rfl rfl ?_
          first | refine rr_pick rfl rfl ?_ | refine rr_pickb rfl rfl rfl rfl ?_
          first | refine rr_pick rfl rfl ?_ | refine rr_pickb rfl rfl rfl rfl ?_
          refine rr_assign rfl rfl ?_
          refine rr_nil ?_
          refine cc_ret ?_
          exact ⟨_, rfl, entW_pu (by first | rfl | (cases hg7_10; done) | (exfalso; simp at hg7_3 hg7_10; omega) | (clear b0 b1 e0 e1 r0 r1 hk h14; cases hf : m.frozen <;> simp_all <;> omega)) entW_fr⟩
        · refine rr_guardN rfl rfl rfl rfl ?_
          refine rr_guardN rfl rfl rfl rfl ?_
          refine rr_guardY rfl rfl rfl ?_
          first | refine rr_pick rfl rfl ?_ | refine rr_pickb rfl rfl rfl rfl ?_
          first | refine rr_pick rfl rfl ?_ | refine rr_pickb rfl rfl rfl rfl ?_
          refine rr_assign rfl rfl ?_
          refine rr_nil ?_
          refine cc_ret ?_
          exact ⟨_, rfl, entW_pu (by first | rfl | (cases hg7_10; done) | (exfalso; simp at hg7_3 hg7_10; omega) | (clear b0 b1 e0 e1 r0 r1 hk h14; cases hf : m.frozen <;> simp_all <;> omega)) entW_fr⟩
      · refine rr_guardN rfl rfl rfl rfl ?_
        refine rr_guardN rfl rfl rfl rfl ?_
        refine rr_guardN rfl rfl rfl rfl ?_
        refine rr_guardU rfl rfl rfl ?_
        refine rr_guardU rfl rfl rfl ?_
        refine rr_guardU rfl rfl rfl ?_
        refine rr_guardN rfl rfl rfl rfl ?_
        first | refine rr_pick rfl rfl ?_ | refine rr_pickb rfl rfl rfl rfl ?_
        refine rr_assign rfl rfl ?_
        refine rr_nil ?_
        refine cc_ret ?_
        exact ⟨_, rfl, entW_pu (by first | rfl | (cases hg7_10; done) | (exfalso; simp at hg7_3 hg7_10; omega) | (clear b0 b1 e0 e1 r0 r1 hk h14; cases hf : m.frozen <;> simp_all <;> omega)) entW_fr⟩
    · refine rr_guardN rfl rfl rfl rfl ?_
      refine rr_guardN rfl rfl rfl rfl ?_
      refine rr_guardN rfl rfl rfl rfl ?_
      refine rr_guardN rfl rfl rfl rfl ?_
      first | refine rr_pick rfl rfl ?_ | refine rr_pickb rfl rfl rfl rfl ?_
      refine rr_move rfl rfl ?_
      refine rr_guard rfl rfl rfl (fun hg7_10 => ?_) (fun hg7_10 => ?_)
      · refine r_fa rfl rfl ?_
        refine rr_guardY rfl rfl rfl ?_
        refine r_ld rfl (ls0 rfl) rfl rfl ?_
        refine rr_guardY rfl rfl rfl ?_
        refine r_not rfl rfl ?_
        refine rr_guardY rfl rfl rfl ?_
        refine rr_move rfl rfl ?_
        refine rr_guard rfl rfl rfl (fun hg7_14 => ?_) (fun hg7_14 => ?_)
        · refine r_fa rfl rfl ?_
          refine rr_guardY rfl rfl rfl ?_
          refine r_ld rfl (ls0 rfl) rfl rfl ?_
          refine rr_guardY rfl rfl rfl ?_
          refine r_int rfl rfl rfl rfl ?_
          refine rr_guardY rfl rfl rfl ?_
          first | refine rr_pick rfl rfl ?_ | refine rr_pickb rfl rfl rfl rfl ?_
          first | refine rr_pick rfl rfl ?_ | refine rr_pickb rfl rfl rfl rfl ?_
          refine rr_assign rfl rfl ?_
          refine rr_nil ?_
          refine cc_ret ?_
          exact ⟨_, rfl, entW_pu (by first | rfl | (cases hg7_10; done) | (exfalso; simp at hg7_3 hg7_10; omega) | (clear b0 b1 e0 e1 r0 r1 hk h14; cases hf : m.frozen <;> simp_all <;> omega)) entW_fr⟩
        · refine rr_guardN rfl rfl rfl rfl ?_
          refine rr_guardN rfl rfl rfl rfl ?_
          refine rr_guardY rfl rfl rfl ?_
          first | refine rr_pick rfl rfl ?_ | refine rr_pickb rfl rfl rfl rfl ?_
          first | refine rr_pick rfl rfl ?_ | refine rr_pickb rfl rfl rfl rfl ?_
          refine rr_assign rfl rfl ?_
          refine rr_nil ?_
          refine cc_ret ?_
          exact ⟨_, rfl, entW_pu (by first | rfl | (cases hg7_10; done) | (exfalso; simp at hg7_3 hg7_10; omega) | (clear b0 b1 e0 e1 r0 r1 hk h14; cases hf : m.frozen <;> simp_all <;> omega)) entW_fr⟩
      · refine rr_guardN rfl rfl rfl rfl ?_
        refine rr_guardN rfl rfl rfl rfl ?_
        refine rr_guardN rfl rfl rfl rfl ?_
        refine rr_guardU rfl rfl rfl ?_
        refine rr_guardU rfl rfl rfl ?_
        refine rr_guardU rfl rfl rfl ?_
        refine rr_guardN rfl rfl rfl rfl ?_
        first | refine rr_pick rfl rfl ?_ | refine rr_pickb rfl rfl rfl rfl ?_
        refine rr_assign rfl rfl ?_
        refine rr_nil ?_
        refine cc_ret ?_
        exact ⟨_, rfl, entW_pu (by first | rfl | (cases hg7_10; done) | (exfalso; simp at hg7_3 hg7_10; omega) | (clear b0 b1 e0 e1 r0 r1 hk h14; cases hf : m.frozen <;> simp_all <;> omega)) entW_fr⟩
theorem mmeta_tr (k s d : Nat) (m : MetaS) : Tr Tryz.prog 29 #[ptr k] (bl k 148 (ptr s :: metaV m)) (fun v => pu (v = metaA m) * bl k 148 (ptr s :: metaV m)) := by
  refine tr_bodyR Tryz.func29 (by kernel_rfl) rfl Tryz.ntmps29 rfl (L := [(0, ptr k)]) (covers_cons rfl covers_nil) rfl ?_
  intro F w0 f
  refine cc_seq ?_
  refine cc_region ?_
  refine r_alloc rfl (sd0 rfl) (fun _ => sd0 rfl) (fun p0_0 => ?_)
  refine rr_nil ?_
  refine cc_seq ?_
  refine cc_seq ?_
  refine cc_region ?_
  refine rr_move rfl rfl ?_
  refine r_pnil rfl rfl rfl ?_
  refine rr_nil ?_
  refine cc_condF rfl ?_
  refine cc_skip ?_
  refine cc_seq ?_
  refine cc_region ?_
  refine rr_move rfl rfl ?_
  refine rr_nilCheck rfl rfl ?_
  refine r_fa rfl rfl ?_
  refine r_lda rfl (ls0 rfl) rfl rfl ?_
  refine r_sta rfl rfl rfl rfl rfl (by first | exact Nat.le_of_ble_eq_true rfl | simp) (sd0 rfl) (sd0 rfl) ?_
  refine rr_nil ?_
  refine cc_ret ?_
  exact ⟨_, .agg inferInstance rfl inferInstance rfl .nil, entW_pu2 rfl entW_fr⟩
/-- a keeper -/
def keeperR (k d : Nat) (m : MetaS) (turn slot : Nat) : SL := ex fun s => bl k 148 (ptr s :: metaV m) * superR s d ⟨0, turn, metaText m, slot⟩
theorem keeperR_mk (k d : Nat) (m : MetaS) (turn slot s : Nat) : Ent (bl k 148 (ptr s :: metaV m) * superR s d ⟨0, turn, metaText m, slot⟩) (keeperR k d m turn slot) :=
  ent_exi (g := fun s => bl k 148 (ptr s :: metaV m) * superR s d ⟨0, turn, metaText m, slot⟩) s rfl
def meta0 : MetaS := ⟨0, 0, 0, false⟩
theorem meta0_ok : meta0.ok := ⟨by decide, by decide, by decide, by decide, by decide, by decide, .inl rfl, fun h => by cases h⟩
theorem mmake_tr (d : Nat) (D : DevS) (hs : 1 < D.length) : Tr Tryz.prog 59 #[ptr d, i64 0] (devR d D)
    (fun v => ex fun k => pu (v = .tuple #[ptr k, i64 0]) * (keeperR k d meta0 1 0 * devR d (supMake D 0 (metaText meta0)))) := by
  refine tr_body Tryz.func59 (by kernel_rfl) rfl Tryz.ntmps59 rfl (L := [(0, ptr d), (1, i64 0)]) (covers_cons rfl (covers_cons rfl covers_nil)) rfl ?_
  intro F w0 f
  refine cc_seq ?_
  refine cc_region ?_
  refine rr_assign rfl rfl ?_
  refine rr_assign rfl rfl ?_
  refine rr_nil ?_
  refine cc_seq ?_
  refine cc_region ?_
  refine rr_move rfl rfl ?_
  refine rr_move rfl rfl ?_
  refine r_bld rfl rfl rfl ?_
  refine rr_call rfl rfl rfl rfl (mtext_tr meta0 meta0_ok) inferInstance rfl (sd0 rfl) (fun _ => sd0 rfl) rfl (fun v => ?_)
  refine rr_call rfl rfl rfl rfl (smake_tr d 0 v D (metaText meta0) (metaText_len _) (by omega) (by omega)) inferInstance rfl (sd0 rfl) (fun _ => sd0 rfl) rfl (fun v => ?_)
  refine RR.ex1 fun s => ?_
  refine RR.pu2 ?_
  rintro rfl
  refine rr_move rfl rfl ?_
  refine rr_extract rfl rfl rfl ?_
  refine rr_extract rfl rfl rfl ?_
  refine rr_assign rfl rfl ?_
  refine rr_assign rfl rfl ?_
  refine rr_nil ?_
  refine cc_seq ?_
  refine cc_seq ?_
  refine cc_region ?_
  refine rr_move rfl rfl ?_
  refine r_int rfl rfl rfl rfl ?_
  refine rr_nil ?_
  refine cc_condF rfl ?_
  refine cc_skip ?_
  refine cc_seq ?_
  refine cc_region ?_
  refine rr_move rfl rfl ?_
  refine r_bld rfl rfl rfl ?_
  refine r_boxa rfl rfl (sd0 rfl) (fun _ => sd0 rfl) (fun p4_2 => ?_)
  refine RR.clb p4_2 (ptr s :: metaV meta0) rfl ?_
  refine rr_assign rfl rfl ?_
  refine rr_assign rfl rfl ?_
  refine rr_nil ?_
  refine cc_ret ?_
  refine ⟨_, rfl, entW_ex2 p4_2 (entW_pu2 rfl ?_)⟩
  refine entW_cls (keeperR p4_2 d meta0 1 0) _ (keeperR_mk p4_2 d meta0 1 0 s) ?_
  exact entW_fr
theorem msave_tr (k d : Nat) (m m' : MetaS) (turn slot : Nat) (D : DevS) (hm : m'.ok) (hb : m.boot ≤ m'.boot) (he : m.epoch ≤ m'.epoch) (ht : turn < 2 ^ 60) (hslot : slot ≤ 1) (hs : 1 < D.length) :
    Tr Tryz.prog 70 #[ptr k, metaA m'] (keeperR k d m turn slot * devR d D)
      (fun v => pu (v = i64 0) * (keeperR k d m' (turn + 1) (1 - slot) * devR d (supW D 0 (1 - slot) (turn + 1) (metaText m')))) := by
  refine tr_body Tryz.func70 (by kernel_rfl) rfl Tryz.ntmps70 rfl (L := [(0, ptr k), (1, metaA m')]) (covers_cons rfl (covers_cons rfl covers_nil)) rfl ?_
  intro F w0 f
  refine CC.opn (keeperR k d m turn slot) rfl fun s => ?_
  refine cc_seq ?_
  refine cc_region ?_
  refine r_boxa rfl rfl (sd0 rfl) (fun _ => sd0 rfl) (fun p0_0 => ?_)
  refine rr_assign rfl rfl ?_
  refine rr_nil ?_
  refine cc_seq ?_
  refine cc_block ?_
  refine cc_seq ?_
  refine cc_region ?_
  refine rr_move rfl rfl ?_
  refine r_pnil rfl rfl rfl ?_
  refine rr_assign rfl rfl ?_
  refine rr_nil ?_
  refine cc_condF rfl ?_
  refine cc_seq ?_
  refine cc_draw (1) [] [] mixed (by decide +kernel) ?_
  refine r_lda rfl (ls0 rfl) rfl rfl ?_
  refine rr_call rfl rfl rfl rfl (mmay_tr m' hm) inferInstance rfl (sd0 rfl) (fun _ => sd0 rfl) rfl (fun v => ?_)
  first | refine RR.pu2 ?_ | refine RR.pu ?_
  rintro rfl
  refine r_not rfl rfl ?_
  refine rr_move rfl rfl ?_
  refine rr_guardY rfl rfl rfl ?_
  refine r_fa rfl rfl ?_
  refine rr_guardY rfl rfl rfl ?_
  refine r_ld rfl (ls0 rfl) rfl rfl ?_
  refine rr_guardY rfl rfl rfl ?_
  refine rr_move rfl rfl ?_
  refine rr_guardY rfl rfl rfl ?_
  refine rr_nilCheck rfl rfl ?_
  refine rr_guardY rfl rfl rfl ?_
  refine r_fa rfl rfl ?_
  refine rr_guardY rfl rfl rfl ?_
  refine r_fa rfl rfl ?_
  refine rr_guardY rfl rfl rfl ?_
  refine r_ld rfl (ls0 rfl) rfl rfl ?_
  refine rr_guardY rfl rfl rfl ?_
  refine r_int rfl rfl rfl rfl ?_
  rw [show decide (m'.boot < m.boot) = false by simp; omega]
  first | refine rr_pick rfl rfl ?_ | refine rr_pickb rfl rfl rfl rfl ?_
  refine rr_move rfl rfl ?_
  refine rr_guardY rfl rfl rfl ?_
  refine r_fa rfl rfl ?_
  refine rr_guardY rfl rfl rfl ?_
  refine r_ld rfl (ls0 rfl) rfl rfl ?_
  refine rr_guardY rfl rfl rfl ?_
  refine rr_move rfl rfl ?_
  refine rr_guardY rfl rfl rfl ?_
  refine rr_nilCheck rfl rfl ?_
  refine rr_guardY rfl rfl rfl ?_
  refine r_fa rfl rfl ?_
  refine rr_guardY rfl rfl rfl ?_
  refine r_fa rfl rfl ?_
  refine rr_guardY rfl rfl rfl ?_
  refine r_ld rfl (ls0 rfl) rfl rfl ?_
  refine rr_guardY rfl rfl rfl ?_
  refine r_int rfl rfl rfl rfl ?_
  rw [show decide (m'.epoch < m.epoch) = false by simp; omega]
  first | refine rr_pick rfl rfl ?_ | refine rr_pickb rfl rfl rfl rfl ?_
  refine rr_assign rfl rfl ?_
  refine rr_nil ?_
  refine cc_condF rfl ?_
  refine cc_skip ?_
  refine cc_seq ?_
  refine cc_draw (bl k 148 (ptr s :: metaV m) * bl p0_0 95 (metaV m')) [3] [5] mixed (by decide +kernel) ?_
  refine rr_move rfl rfl ?_
  refine rr_nilCheck rfl rfl ?_
  refine r_fa rfl rfl ?_
  refine r_ld rfl (ls1 rfl) rfl rfl ?_
  refine r_lda rfl (ls0 rfl) rfl rfl ?_
  refine rr_call rfl rfl rfl rfl (mtext_tr m' hm) inferInstance rfl (sd1 rfl) (fun _ => sd1 rfl) rfl (fun v => ?_)
  refine rr_call rfl rfl rfl rfl (ssaveE_tr s d 0 turn slot (metaText m) v D (metaText m') (metaText_len _) hslot (by omega) (by omega) (by omega)) inferInstance rfl (sd0 rfl) (fun _ => sd0 rfl) rfl (fun v => ?_)
  first | refine RR.pu2 ?_ | refine RR.pu ?_
  rintro rfl
  refine rr_assign rfl rfl ?_
  refine rr_nil ?_
  refine cc_seq ?_
  refine cc_seq ?_
  refine cc_region ?_
  refine rr_move rfl rfl ?_
  refine r_int rfl rfl rfl rfl ?_
  refine rr_nil ?_
  refine cc_condT rfl ?_
  refine cc_region ?_
  refine rr_move rfl rfl ?_
  refine r_lda rfl (ls0 rfl) rfl rfl ?_
  refine rr_nilCheck rfl rfl ?_
  refine r_fa rfl rfl ?_
  refine r_sta rfl rfl rfl rfl rfl (by first | exact Nat.le_of_ble_eq_true rfl | simp) (sd0 rfl) (sd0 rfl) ?_
  refine RR.clb k (ptr s :: metaV m') rfl ?_
  refine rr_nil ?_
  refine cc_seq ?_
  refine cc_region ?_
  refine rr_move rfl rfl ?_
  refine rr_assign rfl rfl ?_
  refine rr_nil ?_
  refine cc_ret ?_
  refine ⟨_, rfl, entW_pu2 rfl ?_⟩
  refine entW_cls (keeperR k d m' (turn + 1) (1 - slot)) _ (keeperR_mk k d m' (turn + 1) (1 - slot) s) ?_
  exact entW_fr
end Go.Proofs.YtoiakcgdkegncaaGreat

