import Derived.Test.YtoiakcgdkegncaaGreatK8
set_option linter.unusedVariables false
set_option linter.unusedSimpArgs false
set_option linter.unusedSectionVars false
namespace Go.Proofs.YtoiakcgdkegncaaGreat
open Go.RowKit Ice
attribute [local irreducible] CC RR Tr stir mixOf
structure PlaceS where
  key : Txt
  pos : Int
  has : Bool
  gone : Bool
def placeV (p : PlaceS) : List Value := [str p.key, i64 p.pos, .bool p.has, .bool p.gone]
def place0 : PlaceS := ⟨[], 0, false, false⟩
def placeGone : PlaceS := ⟨[], 0, false, true⟩
structure IdxS where
  t : List PlaceS
  n : Int
  used : Int
abbrev indexB (x b : Nat) (I : IdxS) : SL := bl x 183 [.slice (some ⟨b, 0, none⟩) I.t.length I.t.length, i64 I.n, i64 I.used] * bl b 187 (I.t.flatMap placeV)
/-- an index -/
def indexR (x : Nat) (I : IdxS) : SL := ex fun b => indexB x b I
theorem indexR_mk (x b : Nat) (I : IdxS) : Ent (indexB x b I) (indexR x I) := fun _ h => ⟨b, h⟩
def idx0 : IdxS := ⟨List.replicate 16 place0, 0, 0⟩
def frF (p : PlaceS) (a : Nat) (free : Int) : Int := if !p.has && decide (free < 0) then a else free
def findF (t : List PlaceS) (key : Txt) : Nat → Nat → Int → Int × Int
  | 0, _, free => (-1, free)
  | f + 1, a, free =>
    let p := t.getD a place0
    if p.has && p.key == key then (a, a)
    else if !p.has && !p.gone then (-1, frF p a free) else findF t key f ((a + 1) % t.length) (frF p a free)
/-- a key's place, and a place that it may have -/
def findI' (I : IdxS) (key : Txt) : Int × Int := findF I.t key I.t.length ((mixOf key).toNat % I.t.length) (-1)
theorem tup2 {a b c d : Int} (h1 : a = c) (h2 : b = d) : Value.tuple #[i64 a, i64 b] = Value.tuple #[i64 c, i64 d] := by rw [h1, h2]
theorem inew_tr : Tr Tryz.prog 153 #[] 1 (fun v => ex fun x => pu (v = ptr x) * indexR x idx0) := by
  refine tr_body Tryz.func153 (by kernel_rfl) rfl Tryz.ntmps153 rfl (L := []) covers_nil rfl ?_
  intro F w0 f
  rw [sl_one_mul]
  refine cc_seq ?_
  refine cc_region ?_
  refine rr_assign rfl rfl ?_
  refine rr_nil ?_
  refine cc_seq ?_
  refine cc_region ?_
  refine r_mks (m := 16) (c := 16) rfl rfl rfl (by omega) (by omega) (by omega) rfl (sd0 rfl) (fun _ => sd0 rfl) (fun b => ?_)
  refine r_bld rfl rfl rfl ?_
  refine r_boxa rfl rfl (sd0 rfl) (fun _ => sd0 rfl) (fun p1_2 => ?_)
  refine rr_assign rfl rfl ?_
  refine rr_nil ?_
  refine cc_ret ?_
  refine ⟨_, rfl, entW_ex2 p1_2 (entW_pu2 rfl ?_)⟩
  refine entW_cls (indexR p1_2 idx0) (bl p1_2 183 [.slice (some ⟨b, 0, none⟩) 16 16, i64 0, i64 0] * bl b 187 (repC [.string ByteArray.empty, i64 0, .bool false, .bool false] 16)) (indexR_mk p1_2 b idx0) ?_
  exact entW_fr
theorem ifind_tr (x : Nat) (I : IdxS) (key : Txt) (hk : key.length ≤ 2 ^ 30) (h0 : 0 < I.t.length) (h1 : I.t.length ≤ 2 ^ 40) :
    Tr Tryz.prog 106 #[ptr x, str key] (indexR x I) (fun v => pu (v = .tuple #[i64 (findI' I key).1, i64 (findI' I key).2]) * indexR x I) := by
  refine tr_body Tryz.func106 (by kernel_rfl) rfl Tryz.ntmps106 rfl (L := [(0, ptr x), (1, str key)]) (covers_cons rfl (covers_cons rfl covers_nil)) rfl ?_
  intro F w0 f
  refine CC.opn (indexR x I) rfl fun b => ?_
  have hm : (mixOf key).toNat < 2 ^ 64 := (mixOf key).toNat_lt
  have hml : (mixOf key).toNat % I.t.length < I.t.length := Nat.mod_lt _ h0
  generalize hR : findI' I key = R
  unfold findI' at hR
  refine cc_seq ?_
  refine cc_region ?_
  refine rr_assign rfl rfl ?_
  refine rr_assign rfl rfl ?_
  refine rr_nil ?_
  refine cc_seq ?_
  refine cc_region ?_
  refine rr_assign rfl rfl ?_
  refine rr_nil ?_
  refine cc_seq ?_
  refine cc_draw (bl x 183 [.slice (some ⟨b, 0, none⟩) I.t.length I.t.length, i64 I.n, i64 I.used]) [6] [1, 2] mixed (by decide +kernel) ?_
  refine rr_move rfl rfl ?_
  refine r_bsl (cs := [str key]) rfl rfl rfl rfl rfl rfl (by first | exact sd0 rfl | exact sd1 rfl) (fun _ => by first | exact sd0 rfl | exact sd1 rfl) (fun p => ?_)
  refine rr_call rfl rfl rfl rfl (mixOf_tr p 1 key hk) inferInstance rfl (sd1 rfl) (fun _ => sd1 rfl) rfl (fun v => ?_)
  first | refine RR.pu2 ?_ | refine RR.pu ?_
  rintro rfl
  refine rr_move rfl rfl ?_
  refine rr_nilCheck rfl rfl ?_
  refine r_fa rfl rfl ?_
  refine r_ld rfl (ls1 rfl) rfl rfl ?_
  refine r_lens rfl rfl ?_
  refine r_conv rfl rfl ?_
  refine r_rem rfl rfl rfl (by rw [w_u64]; omega) ?_
  refine r_conv rfl rfl ?_
  rw [show IntKind.wrap .i64 (((mixOf key).toNat : Int).tmod (IntKind.wrap .u64 (I.t.length : Int))) = (((mixOf key).toNat % I.t.length : Nat) : Int) by
    rw [show IntKind.wrap .u64 (I.t.length : Int) = (I.t.length : Int) by rw [w_u64]; omega, Int.tmod_eq_emod_of_nonneg (by omega)]
    rw [← Int.natCast_emod, wrap_i64 (by omega)]]
  refine rr_assign rfl rfl ?_
  refine rr_nil ?_
  refine cc_seq ?_
  refine cc_seq ?_
  refine cc_region ?_
  refine rr_move rfl rfl ?_
  refine rr_nilCheck rfl rfl ?_
  refine r_fa rfl rfl ?_
  refine r_ld rfl (ls0 rfl) rfl rfl ?_
  refine r_lens rfl rfl ?_
  refine rr_move rfl rfl ?_
  refine rr_nil ?_
  refine cc_block ?_
  refine cc_loopW (α := (Nat × Nat × Int)) (fun ⟨j, a, fr⟩ => [(25, i64 j), (24, i64 I.t.length), (0, ptr x), (1, str key), (7, i64 a), (6, i64 fr)]) (fun ⟨j, a, fr⟩ => pu (j ≤ I.t.length ∧ a < I.t.length ∧ findF I.t key (I.t.length - j) a fr = R) * (bl x 183 [.slice (some ⟨b, 0, none⟩) I.t.length I.t.length, i64 I.n, i64 I.used] * bl b 187 (I.t.flatMap placeV) * F)) (fun ⟨j, a, fr⟩ => I.t.length - j) ((0, (mixOf key).toNat % I.t.length, -1)) (by ((repeat' (first | exact covers_nil | (refine covers_cons ?_ ?_; focus (first | rfl | (simp [lk, lk?]; done))))) ; (first | done | fail))) (by exact entW_pu ⟨by omega, hml, hR⟩ entW_fr) ?_
  rintro ⟨j, a, fr⟩ f
  refine CC.pu fun hh => ?_
  obtain ⟨hj, ha, hf⟩ := hh
  refine cc_seq ?_
  refine cc_region ?_
  refine r_int rfl rfl rfl rfl ?_
  refine rr_nil ?_
  refine cc_seq ?_
  refine cc_cond rfl (fun h26 => ?_) (fun h26 => ?_)
  · try simp only [decide_eq_true_eq, decide_eq_false_iff_not, beq_iff_eq, beq_eq_false_iff_ne, bne_iff_ne, bne_eq_false_iff_eq, ne_eq, Bool.not_eq_eq_eq_not, Bool.not_true, Bool.not_false] at h26
    obtain ⟨p, hp⟩ := lt_get (l := I.t) (j := a) ha
    have hpd : I.t.getD a place0 = p := by rw [List.getD_eq_getElem?_getD, hp]; rfl
    rw [show I.t.length - j = (I.t.length - (j + 1)) + 1 by omega] at hf
    simp only [findF, hpd] at hf
    refine cc_skip ?_
    refine cc_seq ?_
    refine cc_block ?_
    refine cc_seq ?_
    refine cc_region ?_
    refine rr_move rfl rfl ?_
    refine rr_nilCheck rfl rfl ?_
    refine r_fa rfl rfl ?_
    refine r_ld rfl (ls0 rfl) rfl rfl ?_
    refine rr_move rfl rfl ?_
    refine r_ix rfl rfl rfl (by omega) ?_
    refine r_lda rfl (ls0 rfl) (vs := placeV p) (cut_at (w := 4) (j := 0) (fun _ _ => rfl) hp (by omega) rfl) rfl ?_
    refine r_alloc rfl (sd0 rfl) (fun _ => sd0 rfl) (fun p5_7 => ?_)
    refine r_sta (cs' := placeV p) rfl rfl rfl rfl rfl (Nat.le_of_ble_eq_true rfl) (sd0 rfl) (sd0 rfl) ?_
    refine rr_nil ?_
    refine cc_seq ?_
    refine cc_block ?_
    refine cc_seq ?_
    refine cc_region ?_
    refine r_fa rfl rfl ?_
    refine r_ld rfl (ls0 rfl) rfl rfl ?_
    refine rr_move rfl rfl ?_
    refine rr_guard rfl rfl rfl (fun hg6_2 => ?_) (fun hg6_2 => ?_)
    · refine r_fa rfl rfl ?_
      refine rr_guardY rfl rfl rfl ?_
      refine r_ld rfl (ls0 rfl) rfl rfl ?_
      refine rr_guardY rfl rfl rfl ?_
      refine rr_move rfl rfl ?_
      refine rr_guardY rfl rfl rfl ?_
      first | refine r_strx rfl rfl rfl rfl ?_ | refine r_str rfl rfl rfl rfl ?_
      first | refine rr_pick rfl rfl ?_ | refine rr_pickb rfl rfl rfl rfl ?_
      refine rr_assign rfl rfl ?_
      refine rr_nil ?_
      refine cc_cond rfl (fun h34 => ?_) (fun h34 => ?_)
      · try simp only [decide_eq_true_eq, decide_eq_false_iff_not, beq_iff_eq, beq_eq_false_iff_ne, bne_iff_ne, bne_eq_false_iff_eq, ne_eq, Bool.not_eq_eq_eq_not, Bool.not_true, Bool.not_false] at h34
        refine cc_seq ?_
        refine cc_region ?_
        refine rr_move rfl rfl ?_
        refine rr_move rfl rfl ?_
        refine rr_assign rfl rfl ?_
        refine rr_assign rfl rfl ?_
        refine rr_nil ?_
        refine cc_ret ?_
        refine ⟨_, rfl, entW_pu2 (tup2 (by grind [frF]) (by grind [frF])) ?_⟩
        exact entW_cls (indexR x I) (indexB x b I) (indexR_mk x b I) entW_fr
      · try simp only [decide_eq_true_eq, decide_eq_false_iff_not, beq_iff_eq, beq_eq_false_iff_ne, bne_iff_ne, bne_eq_false_iff_eq, ne_eq, Bool.not_eq_eq_eq_not, Bool.not_true, Bool.not_false] at h34
        refine cc_seq ?_
        refine cc_region ?_
        refine r_fa rfl rfl ?_
        refine r_ld rfl (ls0 rfl) rfl rfl ?_
        refine r_not rfl rfl ?_
        refine rr_move rfl rfl ?_
        refine rr_guard rfl rfl rfl (fun hg8_3 => ?_) (fun hg8_3 => ?_)
        · refine rr_move rfl rfl ?_
          refine rr_guardY rfl rfl rfl ?_
          refine r_int rfl rfl rfl rfl ?_
          first | refine rr_pick rfl rfl ?_ | refine rr_pickb rfl rfl rfl rfl ?_
          refine rr_assign rfl rfl ?_
          refine rr_nil ?_
          refine cc_cond rfl (fun h45 => ?_) (fun h45 => ?_)
          · try simp only [decide_eq_true_eq, decide_eq_false_iff_not, beq_iff_eq, beq_eq_false_iff_ne, bne_iff_ne, bne_eq_false_iff_eq, ne_eq, Bool.not_eq_eq_eq_not, Bool.not_true, Bool.not_false] at h45
            refine cc_region ?_
            refine rr_move rfl rfl ?_
            refine rr_assign rfl rfl ?_
            refine rr_nil ?_
            refine cc_seq ?_
            refine cc_seq ?_
            refine cc_region ?_
            refine r_fa rfl rfl ?_
            refine r_ld rfl (ls0 rfl) rfl rfl ?_
            refine r_not rfl rfl ?_
            refine rr_move rfl rfl ?_
            refine rr_guard rfl rfl rfl (fun hg10_3 => ?_) (fun hg10_3 => ?_)
            · refine r_fa rfl rfl ?_
              refine rr_guardY rfl rfl rfl ?_
              refine r_ld rfl (ls0 rfl) rfl rfl ?_
              refine rr_guardY rfl rfl rfl ?_
              refine r_not rfl rfl ?_
              first | refine rr_pick rfl rfl ?_ | refine rr_pickb rfl rfl rfl rfl ?_
              refine rr_nil ?_
              refine cc_cond rfl (fun h61 => ?_) (fun h61 => ?_)
              · try simp only [decide_eq_true_eq, decide_eq_false_iff_not, beq_iff_eq, beq_eq_false_iff_ne, bne_iff_ne, bne_eq_false_iff_eq, ne_eq, Bool.not_eq_eq_eq_not, Bool.not_true, Bool.not_false] at h61
                refine cc_exit ?_
                refine cc_seq ?_
                refine cc_region ?_
                refine rr_move rfl rfl ?_
                refine rr_assign rfl rfl ?_
                refine rr_assign rfl rfl ?_
                refine rr_nil ?_
                refine cc_ret ?_
                refine ⟨_, rfl, entW_pu2 (tup2 (by grind [frF]) (by grind [frF])) ?_⟩
                exact entW_cls (indexR x I) (indexB x b I) (indexR_mk x b I) entW_fr
              · try simp only [decide_eq_true_eq, decide_eq_false_iff_not, beq_iff_eq, beq_eq_false_iff_ne, bne_iff_ne, bne_eq_false_iff_eq, ne_eq, Bool.not_eq_eq_eq_not, Bool.not_true, Bool.not_false] at h61
                refine cc_skip ?_
                refine cc_region ?_
                refine rr_move rfl rfl ?_
                refine r_add rfl rfl rfl (by omega) ?_
                refine rr_move rfl rfl ?_
                refine rr_nilCheck rfl rfl ?_
                refine r_fa rfl rfl ?_
                refine r_ld rfl (ls0 rfl) rfl rfl ?_
                refine r_lens rfl rfl ?_
                refine r_rem rfl rfl rfl (by omega) ?_
                rw [show ((a : Int) + 1).tmod (I.t.length : Int) = (((a + 1) % I.t.length : Nat) : Int) by
                  rw [show (a : Int) + 1 = ((a + 1 : Nat) : Int) by omega, Int.tmod_eq_emod_of_nonneg (by omega)]; rfl]
                refine rr_assign rfl rfl ?_
                refine rr_nil ?_
                refine cc_region ?_
                refine r_add rfl rfl rfl (by omega) ?_
                refine rr_move rfl rfl ?_
                refine rr_nil ?_
                have hml2 : (a + 1) % I.t.length < I.t.length := Nat.mod_lt _ h0
                first
                  | exact ⟨(j + 1, (a + 1) % I.t.length, fr), (by show I.t.length - (j + 1) < I.t.length - j; omega), by ((repeat' (first | exact covers_nil | (refine covers_cons ?_ ?_; focus (first | rfl | (simp [lk, lk?]; done))))) ; (first | done | fail)), entW_pu ⟨by omega, hml2, by grind [frF]⟩ entW_fr⟩
                  | exact ⟨(j + 1, (a + 1) % I.t.length, (a : Int)), (by show I.t.length - (j + 1) < I.t.length - j; omega), by ((repeat' (first | exact covers_nil | (refine covers_cons ?_ ?_; focus (first | rfl | (simp [lk, lk?]; done))))) ; (first | done | fail)), entW_pu ⟨by omega, hml2, by grind [frF]⟩ entW_fr⟩
                  | (exfalso; grind)
            · refine rr_guardN rfl rfl rfl rfl ?_
              refine rr_guardN rfl rfl rfl rfl ?_
              first | refine rr_pick rfl rfl ?_ | refine rr_pickb rfl rfl rfl rfl ?_
              refine rr_nil ?_
              refine cc_cond rfl (fun h61 => ?_) (fun h61 => ?_)
              · try simp only [decide_eq_true_eq, decide_eq_false_iff_not, beq_iff_eq, beq_eq_false_iff_ne, bne_iff_ne, bne_eq_false_iff_eq, ne_eq, Bool.not_eq_eq_eq_not, Bool.not_true, Bool.not_false] at h61
                refine cc_exit ?_
                refine cc_seq ?_
                refine cc_region ?_
                refine rr_move rfl rfl ?_
                refine rr_assign rfl rfl ?_
                refine rr_assign rfl rfl ?_
                refine rr_nil ?_
                refine cc_ret ?_
                refine ⟨_, rfl, entW_pu2 (tup2 (by grind [frF]) (by grind [frF])) ?_⟩
                exact entW_cls (indexR x I) (indexB x b I) (indexR_mk x b I) entW_fr
              · try simp only [decide_eq_true_eq, decide_eq_false_iff_not, beq_iff_eq, beq_eq_false_iff_ne, bne_iff_ne, bne_eq_false_iff_eq, ne_eq, Bool.not_eq_eq_eq_not, Bool.not_true, Bool.not_false] at h61
                refine cc_skip ?_
                refine cc_region ?_
                refine rr_move rfl rfl ?_
                refine r_add rfl rfl rfl (by omega) ?_
                refine rr_move rfl rfl ?_
                refine rr_nilCheck rfl rfl ?_
                refine r_fa rfl rfl ?_
                refine r_ld rfl (ls0 rfl) rfl rfl ?_
                refine r_lens rfl rfl ?_
                refine r_rem rfl rfl rfl (by omega) ?_
                rw [show ((a : Int) + 1).tmod (I.t.length : Int) = (((a + 1) % I.t.length : Nat) : Int) by
                  rw [show (a : Int) + 1 = ((a + 1 : Nat) : Int) by omega, Int.tmod_eq_emod_of_nonneg (by omega)]; rfl]
                refine rr_assign rfl rfl ?_
                refine rr_nil ?_
                refine cc_region ?_
                refine r_add rfl rfl rfl (by omega) ?_
                refine rr_move rfl rfl ?_
                refine rr_nil ?_
                have hml2 : (a + 1) % I.t.length < I.t.length := Nat.mod_lt _ h0
                first
                  | exact ⟨(j + 1, (a + 1) % I.t.length, fr), (by show I.t.length - (j + 1) < I.t.length - j; omega), by ((repeat' (first | exact covers_nil | (refine covers_cons ?_ ?_; focus (first | rfl | (simp [lk, lk?]; done))))) ; (first | done | fail)), entW_pu ⟨by omega, hml2, by grind [frF]⟩ entW_fr⟩
                  | exact ⟨(j + 1, (a + 1) % I.t.length, (a : Int)), (by show I.t.length - (j + 1) < I.t.length - j; omega), by ((repeat' (first | exact covers_nil | (refine covers_cons ?_ ?_; focus (first | rfl | (simp [lk, lk?]; done))))) ; (first | done | fail)), entW_pu ⟨by omega, hml2, by grind [frF]⟩ entW_fr⟩
                  | (exfalso; grind)
          · try simp only [decide_eq_true_eq, decide_eq_false_iff_not, beq_iff_eq, beq_eq_false_iff_ne, bne_iff_ne, bne_eq_false_iff_eq, ne_eq, Bool.not_eq_eq_eq_not, Bool.not_true, Bool.not_false] at h45
            refine cc_skip ?_
            refine cc_seq ?_
            refine cc_seq ?_
            refine cc_region ?_
            refine r_fa rfl rfl ?_
            refine r_ld rfl (ls0 rfl) rfl rfl ?_
            refine r_not rfl rfl ?_
            refine rr_move rfl rfl ?_
            refine rr_guard rfl rfl rfl (fun hg10_3 => ?_) (fun hg10_3 => ?_)
            · refine r_fa rfl rfl ?_
              refine rr_guardY rfl rfl rfl ?_
              refine r_ld rfl (ls0 rfl) rfl rfl ?_
              refine rr_guardY rfl rfl rfl ?_
              refine r_not rfl rfl ?_
              first | refine rr_pick rfl rfl ?_ | refine rr_pickb rfl rfl rfl rfl ?_
              refine rr_nil ?_
              refine cc_cond rfl (fun h61 => ?_) (fun h61 => ?_)
              · try simp only [decide_eq_true_eq, decide_eq_false_iff_not, beq_iff_eq, beq_eq_false_iff_ne, bne_iff_ne, bne_eq_false_iff_eq, ne_eq, Bool.not_eq_eq_eq_not, Bool.not_true, Bool.not_false] at h61
                refine cc_exit ?_
                refine cc_seq ?_
                refine cc_region ?_
                refine rr_move rfl rfl ?_
                refine rr_assign rfl rfl ?_
                refine rr_assign rfl rfl ?_
                refine rr_nil ?_
                refine cc_ret ?_
                refine ⟨_, rfl, entW_pu2 (tup2 (by grind [frF]) (by grind [frF])) ?_⟩
                exact entW_cls (indexR x I) (indexB x b I) (indexR_mk x b I) entW_fr
              · try simp only [decide_eq_true_eq, decide_eq_false_iff_not, beq_iff_eq, beq_eq_false_iff_ne, bne_iff_ne, bne_eq_false_iff_eq, ne_eq, Bool.not_eq_eq_eq_not, Bool.not_true, Bool.not_false] at h61
                refine cc_skip ?_
                refine cc_region ?_
                refine rr_move rfl rfl ?_
                refine r_add rfl rfl rfl (by omega) ?_
                refine rr_move rfl rfl ?_
                refine rr_nilCheck rfl rfl ?_
                refine r_fa rfl rfl ?_
                refine r_ld rfl (ls0 rfl) rfl rfl ?_
                refine r_lens rfl rfl ?_
                refine r_rem rfl rfl rfl (by omega) ?_
                rw [show ((a : Int) + 1).tmod (I.t.length : Int) = (((a + 1) % I.t.length : Nat) : Int) by
                  rw [show (a : Int) + 1 = ((a + 1 : Nat) : Int) by omega, Int.tmod_eq_emod_of_nonneg (by omega)]; rfl]
                refine rr_assign rfl rfl ?_
                refine rr_nil ?_
                refine cc_region ?_
                refine r_add rfl rfl rfl (by omega) ?_
                refine rr_move rfl rfl ?_
                refine rr_nil ?_
                have hml2 : (a + 1) % I.t.length < I.t.length := Nat.mod_lt _ h0
                first
                  | exact ⟨(j + 1, (a + 1) % I.t.length, fr), (by show I.t.length - (j + 1) < I.t.length - j; omega), by ((repeat' (first | exact covers_nil | (refine covers_cons ?_ ?_; focus (first | rfl | (simp [lk, lk?]; done))))) ; (first | done | fail)), entW_pu ⟨by omega, hml2, by grind [frF]⟩ entW_fr⟩
                  | exact ⟨(j + 1, (a + 1) % I.t.length, (a : Int)), (by show I.t.length - (j + 1) < I.t.length - j; omega), by ((repeat' (first | exact covers_nil | (refine covers_cons ?_ ?_; focus (first | rfl | (simp [lk, lk?]; done))))) ; (first | done | fail)), entW_pu ⟨by omega, hml2, by grind [frF]⟩ entW_fr⟩
                  | (exfalso; grind)
            · refine rr_guardN rfl rfl rfl rfl ?_
              refine rr_guardN rfl rfl rfl rfl ?_
              first | refine rr_pick rfl rfl ?_ | refine rr_pickb rfl rfl rfl rfl ?_
              refine rr_nil ?_
              refine cc_cond rfl (fun h61 => ?_) (fun h61 => ?_)
              · try simp only [decide_eq_true_eq, decide_eq_false_iff_not, beq_iff_eq, beq_eq_false_iff_ne, bne_iff_ne, bne_eq_false_iff_eq, ne_eq, Bool.not_eq_eq_eq_not, Bool.not_true, Bool.not_false] at h61
                refine cc_exit ?_
                refine cc_seq ?_
                refine cc_region ?_
                refine rr_move rfl rfl ?_
                refine rr_assign rfl rfl ?_
                refine rr_assign rfl rfl ?_
                refine rr_nil ?_
                refine cc_ret ?_
                refine ⟨_, rfl, entW_pu2 (tup2 (by grind [frF]) (by grind [frF])) ?_⟩
                exact entW_cls (indexR x I) (indexB x b I) (indexR_mk x b I) entW_fr
              · try simp only [decide_eq_true_eq, decide_eq_false_iff_not, beq_iff_eq, beq_eq_false_iff_ne, bne_iff_ne, bne_eq_false_iff_eq, ne_eq, Bool.not_eq_eq_eq_not, Bool.not_true, Bool.not_false] at h61
                refine cc_skip ?_
                refine cc_region ?_
                refine rr_move rfl rfl ?_
                refine r_add rfl rfl rfl (by omega) ?_
                refine rr_move rfl rfl ?_
                refine rr_nilCheck rfl rfl ?_
                refine r_fa rfl rfl ?_
                refine r_ld rfl (ls0 rfl) rfl rfl ?_
                refine r_lens rfl rfl ?_
                refine r_rem rfl rfl rfl (by omega) ?_
                rw [show ((a : Int) + 1).tmod (I.t.length : Int) = (((a + 1) % I.t.length : Nat) : Int) by
                  rw [show (a : Int) + 1 = ((a + 1 : Nat) : Int) by omega, Int.tmod_eq_emod_of_nonneg (by omega)]; rfl]
                refine rr_assign rfl rfl ?_
                refine rr_nil ?_
                refine cc_region ?_
                refine r_add rfl rfl rfl (by omega) ?_
                refine rr_move rfl rfl ?_
                refine rr_nil ?_
                have hml2 : (a + 1) % I.t.length < I.t.length := Nat.mod_lt _ h0
                first
                  | exact ⟨(j + 1, (a + 1) % I.t.length, fr), (by show I.t.length - (j + 1) < I.t.length - j; omega), by ((repeat' (first | exact covers_nil | (refine covers_cons ?_ ?_; focus (first | rfl | (simp [lk, lk?]; done))))) ; (first | done | fail)), entW_pu ⟨by omega, hml2, by grind [frF]⟩ entW_fr⟩
                  | exact ⟨(j + 1, (a + 1) % I.t.length, (a : Int)), (by show I.t.length - (j + 1) < I.t.length - j; omega), by ((repeat' (first | exact covers_nil | (refine covers_cons ?_ ?_; focus (first | rfl | (simp [lk, lk?]; done))))) ; (first | done | fail)), entW_pu ⟨by omega, hml2, by grind [frF]⟩ entW_fr⟩
                  | (exfalso; grind)
        · refine rr_guardN rfl rfl rfl rfl ?_
          first | refine rr_pick rfl rfl ?_ | refine rr_pickb rfl rfl rfl rfl ?_
          refine rr_assign rfl rfl ?_
          refine rr_nil ?_
          refine cc_cond rfl (fun h45 => ?_) (fun h45 => ?_)
          · try simp only [decide_eq_true_eq, decide_eq_false_iff_not, beq_iff_eq, beq_eq_false_iff_ne, bne_iff_ne, bne_eq_false_iff_eq, ne_eq, Bool.not_eq_eq_eq_not, Bool.not_true, Bool.not_false] at h45
            refine cc_region ?_
            refine rr_move rfl rfl ?_
            refine rr_assign rfl rfl ?_
            refine rr_nil ?_
            refine cc_seq ?_
            refine cc_seq ?_
            refine cc_region ?_
            refine r_fa rfl rfl ?_
            refine r_ld rfl (ls0 rfl) rfl rfl ?_
            refine r_not rfl rfl ?_
            refine rr_move rfl rfl ?_
            refine rr_guard rfl rfl rfl (fun hg10_3 => ?_) (fun hg10_3 => ?_)
            · refine r_fa rfl rfl ?_
              refine rr_guardY rfl rfl rfl ?_
              refine r_ld rfl (ls0 rfl) rfl rfl ?_
              refine rr_guardY rfl rfl rfl ?_
              refine r_not rfl rfl ?_
              first | refine rr_pick rfl rfl ?_ | refine rr_pickb rfl rfl rfl rfl ?_
              refine rr_nil ?_
              refine cc_cond rfl (fun h61 => ?_) (fun h61 => ?_)
              · try simp only [decide_eq_true_eq, decide_eq_false_iff_not, beq_iff_eq, beq_eq_false_iff_ne, bne_iff_ne, bne_eq_false_iff_eq, ne_eq, Bool.not_eq_eq_eq_not, Bool.not_true, Bool.not_false] at h61
                refine cc_exit ?_
                refine cc_seq ?_
                refine cc_region ?_
                refine rr_move rfl rfl ?_
                refine rr_assign rfl rfl ?_
                refine rr_assign rfl rfl ?_
                refine rr_nil ?_
                refine cc_ret ?_
                refine ⟨_, rfl, entW_pu2 (tup2 (by grind [frF]) (by grind [frF])) ?_⟩
                exact entW_cls (indexR x I) (indexB x b I) (indexR_mk x b I) entW_fr
              · try simp only [decide_eq_true_eq, decide_eq_false_iff_not, beq_iff_eq, beq_eq_false_iff_ne, bne_iff_ne, bne_eq_false_iff_eq, ne_eq, Bool.not_eq_eq_eq_not, Bool.not_true, Bool.not_false] at h61
                refine cc_skip ?_
                refine cc_region ?_
                refine rr_move rfl rfl ?_
                refine r_add rfl rfl rfl (by omega) ?_
                refine rr_move rfl rfl ?_
                refine rr_nilCheck rfl rfl ?_
                refine r_fa rfl rfl ?_
                refine r_ld rfl (ls0 rfl) rfl rfl ?_
                refine r_lens rfl rfl ?_
                refine r_rem rfl rfl rfl (by omega) ?_
                rw [show ((a : Int) + 1).tmod (I.t.length : Int) = (((a + 1) % I.t.length : Nat) : Int) by
                  rw [show (a : Int) + 1 = ((a + 1 : Nat) : Int) by omega, Int.tmod_eq_emod_of_nonneg (by omega)]; rfl]
                refine rr_assign rfl rfl ?_
                refine rr_nil ?_
                refine cc_region ?_
                refine r_add rfl rfl rfl (by omega) ?_
                refine rr_move rfl rfl ?_
                refine rr_nil ?_
                have hml2 : (a + 1) % I.t.length < I.t.length := Nat.mod_lt _ h0
                first
                  | exact ⟨(j + 1, (a + 1) % I.t.length, fr), (by show I.t.length - (j + 1) < I.t.length - j; omega), by ((repeat' (first | exact covers_nil | (refine covers_cons ?_ ?_; focus (first | rfl | (simp [lk, lk?]; done))))) ; (first | done | fail)), entW_pu ⟨by omega, hml2, by grind [frF]⟩ entW_fr⟩
                  | exact ⟨(j + 1, (a + 1) % I.t.length, (a : Int)), (by show I.t.length - (j + 1) < I.t.length - j; omega), by ((repeat' (first | exact covers_nil | (refine covers_cons ?_ ?_; focus (first | rfl | (simp [lk, lk?]; done))))) ; (first | done | fail)), entW_pu ⟨by omega, hml2, by grind [frF]⟩ entW_fr⟩
                  | (exfalso; grind)
            · refine rr_guardN rfl rfl rfl rfl ?_
              refine rr_guardN rfl rfl rfl rfl ?_
              first | refine rr_pick rfl rfl ?_ | refine rr_pickb rfl rfl rfl rfl ?_
              refine rr_nil ?_
              refine cc_cond rfl (fun h61 => ?_) (fun h61 => ?_)
              · try simp only [decide_eq_true_eq, decide_eq_false_iff_not, beq_iff_eq, beq_eq_false_iff_ne, bne_iff_ne, bne_eq_false_iff_eq, ne_eq, Bool.not_eq_eq_eq_not, Bool.not_true, Bool.not_false] at h61
                refine cc_exit ?_
                refine cc_seq ?_
                refine cc_region ?_
                refine rr_move rfl rfl ?_
                refine rr_assign rfl rfl ?_
                refine rr_assign rfl rfl ?_
                refine rr_nil ?_
                refine cc_ret ?_
                refine ⟨_, rfl, entW_pu2 (tup2 (by grind [frF]) (by grind [frF])) ?_⟩
                exact entW_cls (indexR x I) (indexB x b I) (indexR_mk x b I) entW_fr
              · try simp only [decide_eq_true_eq, decide_eq_false_iff_not, beq_iff_eq, beq_eq_false_iff_ne, bne_iff_ne, bne_eq_false_iff_eq, ne_eq, Bool.not_eq_eq_eq_not, Bool.not_true, Bool.not_false] at h61
                refine cc_skip ?_
                refine cc_region ?_
                refine rr_move rfl rfl ?_
                refine r_add rfl rfl rfl (by omega) ?_
                refine rr_move rfl rfl ?_
                refine rr_nilCheck rfl rfl ?_
                refine r_fa rfl rfl ?_
                refine r_ld rfl (ls0 rfl) rfl rfl ?_
                refine r_lens rfl rfl ?_
                refine r_rem rfl rfl rfl (by omega) ?_
                rw [show ((a : Int) + 1).tmod (I.t.length : Int) = (((a + 1) % I.t.length : Nat) : Int) by
                  rw [show (a : Int) + 1 = ((a + 1 : Nat) : Int) by omega, Int.tmod_eq_emod_of_nonneg (by omega)]; rfl]
                refine rr_assign rfl rfl ?_
                refine rr_nil ?_
                refine cc_region ?_
                refine r_add rfl rfl rfl (by omega) ?_
                refine rr_move rfl rfl ?_
                refine rr_nil ?_
                have hml2 : (a + 1) % I.t.length < I.t.length := Nat.mod_lt _ h0
                first
                  | exact ⟨(j + 1, (a + 1) % I.t.length, fr), (by show I.t.length - (j + 1) < I.t.length - j; omega), by ((repeat' (first | exact covers_nil | (refine covers_cons ?_ ?_; focus (first | rfl | (simp [lk, lk?]; done))))) ; (first | done | fail)), entW_pu ⟨by omega, hml2, by grind [frF]⟩ entW_fr⟩
                  | exact ⟨(j + 1, (a + 1) % I.t.length, (a : Int)), (by show I.t.length - (j + 1) < I.t.length - j; omega), by ((repeat' (first | exact covers_nil | (refine covers_cons ?_ ?_; focus (first | rfl | (simp [lk, lk?]; done))))) ; (first | done | fail)), entW_pu ⟨by omega, hml2, by grind [frF]⟩ entW_fr⟩
                  | (exfalso; grind)
          · try simp only [decide_eq_true_eq, decide_eq_false_iff_not, beq_iff_eq, beq_eq_false_iff_ne, bne_iff_ne, bne_eq_false_iff_eq, ne_eq, Bool.not_eq_eq_eq_not, Bool.not_true, Bool.not_false] at h45
            refine cc_skip ?_
            refine cc_seq ?_
            refine cc_seq ?_
            refine cc_region ?_
            refine r_fa rfl rfl ?_
            refine r_ld rfl (ls0 rfl) rfl rfl ?_
            refine r_not rfl rfl ?_
            refine rr_move rfl rfl ?_
            refine rr_guard rfl rfl rfl (fun hg10_3 => ?_) (fun hg10_3 => ?_)
            · refine r_fa rfl rfl ?_
              refine rr_guardY rfl rfl rfl ?_
              refine r_ld rfl (ls0 rfl) rfl rfl ?_
              refine rr_guardY rfl rfl rfl ?_
              refine r_not rfl rfl ?_
              first | refine rr_pick rfl rfl ?_ | refine rr_pickb rfl rfl rfl rfl ?_
              refine rr_nil ?_
              refine cc_cond rfl (fun h61 => ?_) (fun h61 => ?_)
              · try simp only [decide_eq_true_eq, decide_eq_false_iff_not, beq_iff_eq, beq_eq_false_iff_ne, bne_iff_ne, bne_eq_false_iff_eq, ne_eq, Bool.not_eq_eq_eq_not, Bool.not_true, Bool.not_false] at h61
                refine cc_exit ?_
                refine cc_seq ?_
                refine cc_region ?_
                refine rr_move rfl rfl ?_
                refine rr_assign rfl rfl ?_
                refine rr_assign rfl rfl ?_
                refine rr_nil ?_
                refine cc_ret ?_
                refine ⟨_, rfl, entW_pu2 (tup2 (by grind [frF]) (by grind [frF])) ?_⟩
                exact entW_cls (indexR x I) (indexB x b I) (indexR_mk x b I) entW_fr
              · try simp only [decide_eq_true_eq, decide_eq_false_iff_not, beq_iff_eq, beq_eq_false_iff_ne, bne_iff_ne, bne_eq_false_iff_eq, ne_eq, Bool.not_eq_eq_eq_not, Bool.not_true, Bool.not_false] at h61
                refine cc_skip ?_
                refine cc_region ?_
                refine rr_move rfl rfl ?_
                refine r_add rfl rfl rfl (by omega) ?_
                refine rr_move rfl rfl ?_
                refine rr_nilCheck rfl rfl ?_
                refine r_fa rfl rfl ?_
                refine r_ld rfl (ls0 rfl) rfl rfl ?_
                refine r_lens rfl rfl ?_
                refine r_rem rfl rfl rfl (by omega) ?_
                rw [show ((a : Int) + 1).tmod (I.t.length : Int) = (((a + 1) % I.t.length : Nat) : Int) by
                  rw [show (a : Int) + 1 = ((a + 1 : Nat) : Int) by omega, Int.tmod_eq_emod_of_nonneg (by omega)]; rfl]
                refine rr_assign rfl rfl ?_
                refine rr_nil ?_
                refine cc_region ?_
                refine r_add rfl rfl rfl (by omega) ?_
                refine rr_move rfl rfl ?_
                refine rr_nil ?_
                have hml2 : (a + 1) % I.t.length < I.t.length := Nat.mod_lt _ h0
                first
                  | exact ⟨(j + 1, (a + 1) % I.t.length, fr), (by show I.t.length - (j + 1) < I.t.length - j; omega), by ((repeat' (first | exact covers_nil | (refine covers_cons ?_ ?_; focus (first | rfl | (simp [lk, lk?]; done))))) ; (first | done | fail)), entW_pu ⟨by omega, hml2, by grind [frF]⟩ entW_fr⟩
                  | exact ⟨(j + 1, (a + 1) % I.t.length, (a : Int)), (by show I.t.length - (j + 1) < I.t.length - j; omega), by ((repeat' (first | exact covers_nil | (refine covers_cons ?_ ?_; focus (first | rfl | (simp [lk, lk?]; done))))) ; (first | done | fail)), entW_pu ⟨by omega, hml2, by grind [frF]⟩ entW_fr⟩
                  | (exfalso; grind)
            · refine rr_guardN rfl rfl rfl rfl ?_
              refine rr_guardN rfl rfl rfl rfl ?_
              first | refine rr_pick rfl rfl ?_ | refine rr_pickb rfl rfl rfl rfl ?_
              refine rr_nil ?_
              refine cc_cond rfl (fun h61 => ?_) (fun h61 => ?_)
              · try simp only [decide_eq_true_eq, decide_eq_false_iff_not, beq_iff_eq, beq_eq_false_iff_ne, bne_iff_ne, bne_eq_false_iff_eq, ne_eq, Bool.not_eq_eq_eq_not, Bool.not_true, Bool.not_false] at h61
                refine cc_exit ?_
                refine cc_seq ?_
                refine cc_region ?_
                refine rr_move rfl rfl ?_
                refine rr_assign rfl rfl ?_
                refine rr_assign rfl rfl ?_
                refine rr_nil ?_
                refine cc_ret ?_
                refine ⟨_, rfl, entW_pu2 (tup2 (by grind [frF]) (by grind [frF])) ?_⟩
                exact entW_cls (indexR x I) (indexB x b I) (indexR_mk x b I) entW_fr
              · try simp only [decide_eq_true_eq, decide_eq_false_iff_not, beq_iff_eq, beq_eq_false_iff_ne, bne_iff_ne, bne_eq_false_iff_eq, ne_eq, Bool.not_eq_eq_eq_not, Bool.not_true, Bool.not_false] at h61
                refine cc_skip ?_
                refine cc_region ?_
                refine rr_move rfl rfl ?_
                refine r_add rfl rfl rfl (by omega) ?_
                refine rr_move rfl rfl ?_
                refine rr_nilCheck rfl rfl ?_
                refine r_fa rfl rfl ?_
                refine r_ld rfl (ls0 rfl) rfl rfl ?_
                refine r_lens rfl rfl ?_
                refine r_rem rfl rfl rfl (by omega) ?_
                rw [show ((a : Int) + 1).tmod (I.t.length : Int) = (((a + 1) % I.t.length : Nat) : Int) by
                  rw [show (a : Int) + 1 = ((a + 1 : Nat) : Int) by omega, Int.tmod_eq_emod_of_nonneg (by omega)]; rfl]
                refine rr_assign rfl rfl ?_
                refine rr_nil ?_
                refine cc_region ?_
                refine r_add rfl rfl rfl (by omega) ?_
                refine rr_move rfl rfl ?_
                refine rr_nil ?_
                have hml2 : (a + 1) % I.t.length < I.t.length := Nat.mod_lt _ h0
                first
                  | exact ⟨(j + 1, (a + 1) % I.t.length, fr), (by show I.t.length - (j + 1) < I.t.length - j; omega), by ((repeat' (first | exact covers_nil | (refine covers_cons ?_ ?_; focus (first | rfl | (simp [lk, lk?]; done))))) ; (first | done | fail)), entW_pu ⟨by omega, hml2, by grind [frF]⟩ entW_fr⟩
                  | exact ⟨(j + 1, (a + 1) % I.t.length, (a : Int)), (by show I.t.length - (j + 1) < I.t.length - j; omega), by ((repeat' (first | exact covers_nil | (refine covers_cons ?_ ?_; focus (first | rfl | (simp [lk, lk?]; done))))) ; (first | done | fail)), entW_pu ⟨by omega, hml2, by grind [frF]⟩ entW_fr⟩
                  | (exfalso; grind)
    · refine rr_guardN rfl rfl rfl rfl ?_
      refine rr_guardN rfl rfl rfl rfl ?_
      refine rr_guardN rfl rfl rfl rfl ?_
      first | refine rr_pick rfl rfl ?_ | refine rr_pickb rfl rfl rfl rfl ?_
      refine rr_assign rfl rfl ?_
      refine rr_nil ?_
      refine cc_cond rfl (fun h34 => ?_) (fun h34 => ?_)
      · try simp only [decide_eq_true_eq, decide_eq_false_iff_not, beq_iff_eq, beq_eq_false_iff_ne, bne_iff_ne, bne_eq_false_iff_eq, ne_eq, Bool.not_eq_eq_eq_not, Bool.not_true, Bool.not_false] at h34
        refine cc_seq ?_
        refine cc_region ?_
        refine rr_move rfl rfl ?_
        refine rr_move rfl rfl ?_
        refine rr_assign rfl rfl ?_
        refine rr_assign rfl rfl ?_
        refine rr_nil ?_
        refine cc_ret ?_
        refine ⟨_, rfl, entW_pu2 (tup2 (by grind [frF]) (by grind [frF])) ?_⟩
        exact entW_cls (indexR x I) (indexB x b I) (indexR_mk x b I) entW_fr
      · try simp only [decide_eq_true_eq, decide_eq_false_iff_not, beq_iff_eq, beq_eq_false_iff_ne, bne_iff_ne, bne_eq_false_iff_eq, ne_eq, Bool.not_eq_eq_eq_not, Bool.not_true, Bool.not_false] at h34
        refine cc_seq ?_
        refine cc_region ?_
        refine r_fa rfl rfl ?_
        refine r_ld rfl (ls0 rfl) rfl rfl ?_
        refine r_not rfl rfl ?_
        refine rr_move rfl rfl ?_
        refine rr_guard rfl rfl rfl (fun hg8_3 => ?_) (fun hg8_3 => ?_)
        · refine rr_move rfl rfl ?_
          refine rr_guardY rfl rfl rfl ?_
          refine r_int rfl rfl rfl rfl ?_
          first | refine rr_pick rfl rfl ?_ | refine rr_pickb rfl rfl rfl rfl ?_
          refine rr_assign rfl rfl ?_
          refine rr_nil ?_
          refine cc_cond rfl (fun h45 => ?_) (fun h45 => ?_)
          · try simp only [decide_eq_true_eq, decide_eq_false_iff_not, beq_iff_eq, beq_eq_false_iff_ne, bne_iff_ne, bne_eq_false_iff_eq, ne_eq, Bool.not_eq_eq_eq_not, Bool.not_true, Bool.not_false] at h45
            refine cc_region ?_
            refine rr_move rfl rfl ?_
            refine rr_assign rfl rfl ?_
            refine rr_nil ?_
            refine cc_seq ?_
            refine cc_seq ?_
            refine cc_region ?_
            refine r_fa rfl rfl ?_
            refine r_ld rfl (ls0 rfl) rfl rfl ?_
            refine r_not rfl rfl ?_
            refine rr_move rfl rfl ?_
            refine rr_guard rfl rfl rfl (fun hg10_3 => ?_) (fun hg10_3 => ?_)
            · refine r_fa rfl rfl ?_
              refine rr_guardY rfl rfl rfl ?_
              refine r_ld rfl (ls0 rfl) rfl rfl ?_
              refine rr_guardY rfl rfl rfl ?_
              refine r_not rfl rfl ?_
              first | refine rr_pick rfl rfl ?_ | refine rr_pickb rfl rfl rfl rfl ?_
              refine rr_nil ?_
              refine cc_cond rfl (fun h61 => ?_) (fun h61 => ?_)
              · try simp only [decide_eq_true_eq, decide_eq_false_iff_not, beq_iff_eq, beq_eq_false_iff_ne, bne_iff_ne, bne_eq_false_iff_eq, ne_eq, Bool.not_eq_eq_eq_not, Bool.not_true, Bool.not_false] at h61
                refine cc_exit ?_
                refine cc_seq ?_
                refine cc_region ?_
                refine rr_move rfl rfl ?_
                refine rr_assign rfl rfl ?_
                refine rr_assign rfl rfl ?_
                refine rr_nil ?_
                refine cc_ret ?_
                refine ⟨_, rfl, entW_pu2 (tup2 (by grind [frF]) (by grind [frF])) ?_⟩
                exact entW_cls (indexR x I) (indexB x b I) (indexR_mk x b I) entW_fr
              · try simp only [decide_eq_true_eq, decide_eq_false_iff_not, beq_iff_eq, beq_eq_false_iff_ne, bne_iff_ne, bne_eq_false_iff_eq, ne_eq, Bool.not_eq_eq_eq_not, Bool.not_true, Bool.not_false] at h61
                refine cc_skip ?_
                refine cc_region ?_
                refine rr_move rfl rfl ?_
                refine r_add rfl rfl rfl (by omega) ?_
                refine rr_move rfl rfl ?_
                refine rr_nilCheck rfl rfl ?_
                refine r_fa rfl rfl ?_
                refine r_ld rfl (ls0 rfl) rfl rfl ?_
                refine r_lens rfl rfl ?_
                refine r_rem rfl rfl rfl (by omega) ?_
                rw [show ((a : Int) + 1).tmod (I.t.length : Int) = (((a + 1) % I.t.length : Nat) : Int) by
                  rw [show (a : Int) + 1 = ((a + 1 : Nat) : Int) by omega, Int.tmod_eq_emod_of_nonneg (by omega)]; rfl]
                refine rr_assign rfl rfl ?_
                refine rr_nil ?_
                refine cc_region ?_
                refine r_add rfl rfl rfl (by omega) ?_
                refine rr_move rfl rfl ?_
                refine rr_nil ?_
                have hml2 : (a + 1) % I.t.length < I.t.length := Nat.mod_lt _ h0
                first
                  | exact ⟨(j + 1, (a + 1) % I.t.length, fr), (by show I.t.length - (j + 1) < I.t.length - j; omega), by ((repeat' (first | exact covers_nil | (refine covers_cons ?_ ?_; focus (first | rfl | (simp [lk, lk?]; done))))) ; (first | done | fail)), entW_pu ⟨by omega, hml2, by grind [frF]⟩ entW_fr⟩
                  | exact ⟨(j + 1, (a + 1) % I.t.length, (a : Int)), (by show I.t.length - (j + 1) < I.t.length - j; omega), by ((repeat' (first | exact covers_nil | (refine covers_cons ?_ ?_; focus (first | rfl | (simp [lk, lk?]; done))))) ; (first | done | fail)), entW_pu ⟨by omega, hml2, by grind [frF]⟩ entW_fr⟩
                  | (exfalso; grind)
            · refine rr_guardN rfl rfl rfl rfl ?_
              refine rr_guardN rfl rfl rfl rfl ?_
              first | refine rr_pick rfl rfl ?_ | refine rr_pickb rfl rfl rfl rfl ?_
              refine rr_nil ?_
              refine cc_cond rfl (fun h61 => ?_) (fun h61 => ?_)
              · try simp only [decide_eq_true_eq, decide_eq_false_iff_not, beq_iff_eq, beq_eq_false_iff_ne, bne_iff_ne, bne_eq_false_iff_eq, ne_eq, Bool.not_eq_eq_eq_not, Bool.not_true, Bool.not_false] at h61
                refine cc_exit ?_
                refine cc_seq ?_
                refine cc_region ?_
                refine rr_move rfl rfl ?_
                refine rr_assign rfl rfl ?_
                refine rr_assign rfl rfl ?_
                refine rr_nil ?_
                refine cc_ret ?_
                refine ⟨_, rfl, entW_pu2 (tup2 (by grind [frF]) (by grind [frF])) ?_⟩
                exact entW_cls (indexR x I) (indexB x b I) (indexR_mk x b I) entW_fr
              · try simp only [decide_eq_true_eq, decide_eq_false_iff_not, beq_iff_eq, beq_eq_false_iff_ne, bne_iff_ne, bne_eq_false_iff_eq, ne_eq, Bool.not_eq_eq_eq_not, Bool.not_true, Bool.not_false] at h61
                refine cc_skip ?_
                refine cc_region ?_
                refine rr_move rfl rfl ?_
                refine r_add rfl rfl rfl (by omega) ?_
                refine rr_move rfl rfl ?_
                refine rr_nilCheck rfl rfl ?_
                refine r_fa rfl rfl ?_
                refine r_ld rfl (ls0 rfl) rfl rfl ?_
                refine r_lens rfl rfl ?_
                refine r_rem rfl rfl rfl (by omega) ?_
                rw [show ((a : Int) + 1).tmod (I.t.length : Int) = (((a + 1) % I.t.length : Nat) : Int) by
                  rw [show (a : Int) + 1 = ((a + 1 : Nat) : Int) by omega, Int.tmod_eq_emod_of_nonneg (by omega)]; rfl]
                refine rr_assign rfl rfl ?_
                refine rr_nil ?_
                refine cc_region ?_
                refine r_add rfl rfl rfl (by omega) ?_
                refine rr_move rfl rfl ?_
                refine rr_nil ?_
                have hml2 : (a + 1) % I.t.length < I.t.length := Nat.mod_lt _ h0
                first
                  | exact ⟨(j + 1, (a + 1) % I.t.length, fr), (by show I.t.length - (j + 1) < I.t.length - j; omega), by ((repeat' (first | exact covers_nil | (refine covers_cons ?_ ?_; focus (first | rfl | (simp [lk, lk?]; done))))) ; (first | done | fail)), entW_pu ⟨by omega, hml2, by grind [frF]⟩ entW_fr⟩
                  | exact ⟨(j + 1, (a + 1) % I.t.length, (a : Int)), (by show I.t.length - (j + 1) < I.t.length - j; omega), by ((repeat' (first | exact covers_nil | (refine covers_cons ?_ ?_; focus (first | rfl | (simp [lk, lk?]; done))))) ; (first | done | fail)), entW_pu ⟨by omega, hml2, by grind [frF]⟩ entW_fr⟩
                  | (exfalso; grind)
          · try simp only [decide_eq_true_eq, decide_eq_false_iff_not, beq_iff_eq, beq_eq_false_iff_ne, bne_iff_ne, bne_eq_false_iff_eq, ne_eq, Bool.not_eq_eq_eq_not, Bool.not_true, Bool.not_false] at h45
            refine cc_skip ?_
            refine cc_seq ?_
            refine cc_seq ?_
            refine cc_region ?_
            refine r_fa rfl rfl ?_
            refine r_ld rfl (ls0 rfl) rfl rfl ?_
            refine r_not rfl rfl ?_
            refine rr_move rfl rfl ?_
            refine rr_guard rfl rfl rfl (fun hg10_3 => ?_) (fun hg10_3 => ?_)
            · refine r_fa rfl rfl ?_
              refine rr_guardY rfl rfl rfl ?_
              refine r_ld rfl (ls0 rfl) rfl rfl ?_
              refine rr_guardY rfl rfl rfl ?_
              refine r_not rfl rfl ?_
              first | refine rr_pick rfl rfl ?_ | refine rr_pickb rfl rfl rfl rfl ?_
              refine rr_nil ?_
              refine cc_cond rfl (fun h61 => ?_) (fun h61 => ?_)
              · try simp only [decide_eq_true_eq, decide_eq_false_iff_not, beq_iff_eq, beq_eq_false_iff_ne, bne_iff_ne, bne_eq_false_iff_eq, ne_eq, Bool.not_eq_eq_eq_not, Bool.not_true, Bool.not_false] at h61
                refine cc_exit ?_
                refine cc_seq ?_
                refine cc_region ?_
                refine rr_move rfl rfl ?_
                refine rr_assign rfl rfl ?_
                refine rr_assign rfl rfl ?_
                refine rr_nil ?_
                refine cc_ret ?_
                refine ⟨_, rfl, entW_pu2 (tup2 (by grind [frF]) (by grind [frF])) ?_⟩
                exact entW_cls (indexR x I) (indexB x b I) (indexR_mk x b I) entW_fr
              · try simp only [decide_eq_true_eq, decide_eq_false_iff_not, beq_iff_eq, beq_eq_false_iff_ne, bne_iff_ne, bne_eq_false_iff_eq, ne_eq, Bool.not_eq_eq_eq_not, Bool.not_true, Bool.not_false] at h61
                refine cc_skip ?_
                refine cc_region ?_
                refine rr_move rfl rfl ?_
                refine r_add rfl rfl rfl (by omega) ?_
                refine rr_move rfl rfl ?_
                refine rr_nilCheck rfl rfl ?_
                refine r_fa rfl rfl ?_
                refine r_ld rfl (ls0 rfl) rfl rfl ?_
                refine r_lens rfl rfl ?_
                refine r_rem rfl rfl rfl (by omega) ?_
                rw [show ((a : Int) + 1).tmod (I.t.length : Int) = (((a + 1) % I.t.length : Nat) : Int) by
                  rw [show (a : Int) + 1 = ((a + 1 : Nat) : Int) by omega, Int.tmod_eq_emod_of_nonneg (by omega)]; rfl]
                refine rr_assign rfl rfl ?_
                refine rr_nil ?_
                refine cc_region ?_
                refine r_add rfl rfl rfl (by omega) ?_
                refine rr_move rfl rfl ?_
                refine rr_nil ?_
                have hml2 : (a + 1) % I.t.length < I.t.length := Nat.mod_lt _ h0
                first
                  | exact ⟨(j + 1, (a + 1) % I.t.length, fr), (by show I.t.length - (j + 1) < I.t.length - j; omega), by ((repeat' (first | exact covers_nil | (refine covers_cons ?_ ?_; focus (first | rfl | (simp [lk, lk?]; done))))) ; (first | done | fail)), entW_pu ⟨by omega, hml2, by grind [frF]⟩ entW_fr⟩
                  | exact ⟨(j + 1, (a + 1) % I.t.length, (a : Int)), (by show I.t.length - (j + 1) < I.t.length - j; omega), by ((repeat' (first | exact covers_nil | (refine covers_cons ?_ ?_; focus (first | rfl | (simp [lk, lk?]; done))))) ; (first | done | fail)), entW_pu ⟨by omega, hml2, by grind [frF]⟩ entW_fr⟩
                  | (exfalso; grind)
            · refine rr_guardN rfl rfl rfl rfl ?_
              refine rr_guardN rfl rfl rfl rfl ?_
              first | refine rr_pick rfl rfl ?_ | refine rr_pickb rfl rfl rfl rfl ?_
              refine rr_nil ?_
              refine cc_cond rfl (fun h61 => ?_) (fun h61 => ?_)
              · try simp only [decide_eq_true_eq, decide_eq_false_iff_not, beq_iff_eq, beq_eq_false_iff_ne, bne_iff_ne, bne_eq_false_iff_eq, ne_eq, Bool.not_eq_eq_eq_not, Bool.not_true, Bool.not_false] at h61
                refine cc_exit ?_
                refine cc_seq ?_
                refine cc_region ?_
                refine rr_move rfl rfl ?_
                refine rr_assign rfl rfl ?_
                refine rr_assign rfl rfl ?_
                refine rr_nil ?_
                refine cc_ret ?_
                refine ⟨_, rfl, entW_pu2 (tup2 (by grind [frF]) (by grind [frF])) ?_⟩
                exact entW_cls (indexR x I) (indexB x b I) (indexR_mk x b I) entW_fr
              · try simp only [decide_eq_true_eq, decide_eq_false_iff_not, beq_iff_eq, beq_eq_false_iff_ne, bne_iff_ne, bne_eq_false_iff_eq, ne_eq, Bool.not_eq_eq_eq_not, Bool.not_true, Bool.not_false] at h61
                refine cc_skip ?_
                refine cc_region ?_
                refine rr_move rfl rfl ?_
                refine r_add rfl rfl rfl (by omega) ?_
                refine rr_move rfl rfl ?_
                refine rr_nilCheck rfl rfl ?_
                refine r_fa rfl rfl ?_
                refine r_ld rfl (ls0 rfl) rfl rfl ?_
                refine r_lens rfl rfl ?_
                refine r_rem rfl rfl rfl (by omega) ?_
                rw [show ((a : Int) + 1).tmod (I.t.length : Int) = (((a + 1) % I.t.length : Nat) : Int) by
                  rw [show (a : Int) + 1 = ((a + 1 : Nat) : Int) by omega, Int.tmod_eq_emod_of_nonneg (by omega)]; rfl]
                refine rr_assign rfl rfl ?_
                refine rr_nil ?_
                refine cc_region ?_
                refine r_add rfl rfl rfl (by omega) ?_
                refine rr_move rfl rfl ?_
                refine rr_nil ?_
                have hml2 : (a + 1) % I.t.length < I.t.length := Nat.mod_lt _ h0
                first
                  | exact ⟨(j + 1, (a + 1) % I.t.length, fr), (by show I.t.length - (j + 1) < I.t.length - j; omega), by ((repeat' (first | exact covers_nil | (refine covers_cons ?_ ?_; focus (first | rfl | (simp [lk, lk?]; done))))) ; (first | done | fail)), entW_pu ⟨by omega, hml2, by grind [frF]⟩ entW_fr⟩
                  | exact ⟨(j + 1, (a + 1) % I.t.length, (a : Int)), (by show I.t.length - (j + 1) < I.t.length - j; omega), by ((repeat' (first | exact covers_nil | (refine covers_cons ?_ ?_; focus (first | rfl | (simp [lk, lk?]; done))))) ; (first | done | fail)), entW_pu ⟨by omega, hml2, by grind [frF]⟩ entW_fr⟩
                  | (exfalso; grind)
        · refine rr_guardN rfl rfl rfl rfl ?_
          first | refine rr_pick rfl rfl ?_ | refine rr_pickb rfl rfl rfl rfl ?_
          refine rr_assign rfl rfl ?_
          refine rr_nil ?_
          refine cc_cond rfl (fun h45 => ?_) (fun h45 => ?_)
          · try simp only [decide_eq_true_eq, decide_eq_false_iff_not, beq_iff_eq, beq_eq_false_iff_ne, bne_iff_ne, bne_eq_false_iff_eq, ne_eq, Bool.not_eq_eq_eq_not, Bool.not_true, Bool.not_false] at h45
            refine cc_region ?_
            refine rr_move rfl rfl ?_
            refine rr_assign rfl rfl ?_
            refine rr_nil ?_
            refine cc_seq ?_
            refine cc_seq ?_
            refine cc_region ?_
            refine r_fa rfl rfl ?_
            refine r_ld rfl (ls0 rfl) rfl rfl ?_
            refine r_not rfl rfl ?_
            refine rr_move rfl rfl ?_
            refine rr_guard rfl rfl rfl (fun hg10_3 => ?_) (fun hg10_3 => ?_)
            · refine r_fa rfl rfl ?_
              refine rr_guardY rfl rfl rfl ?_
              refine r_ld rfl (ls0 rfl) rfl rfl ?_
              refine rr_guardY rfl rfl rfl ?_
              refine r_not rfl rfl ?_
              first | refine rr_pick rfl rfl ?_ | refine rr_pickb rfl rfl rfl rfl ?_
              refine rr_nil ?_
              refine cc_cond rfl (fun h61 => ?_) (fun h61 => ?_)
              · try simp only [decide_eq_true_eq, decide_eq_false_iff_not, beq_iff_eq, beq_eq_false_iff_ne, bne_iff_ne, bne_eq_false_iff_eq, ne_eq, Bool.not_eq_eq_eq_not, Bool.not_true, Bool.not_false] at h61
                refine cc_exit ?_
                refine cc_seq ?_
                refine cc_region ?_
                refine rr_move rfl rfl ?_
                refine rr_assign rfl rfl ?_
                refine rr_assign rfl rfl ?_
                refine rr_nil ?_
                refine cc_ret ?_
                refine ⟨_, rfl, entW_pu2 (tup2 (by grind [frF]) (by grind [frF])) ?_⟩
                exact entW_cls (indexR x I) (indexB x b I) (indexR_mk x b I) entW_fr
              · try simp only [decide_eq_true_eq, decide_eq_false_iff_not, beq_iff_eq, beq_eq_false_iff_ne, bne_iff_ne, bne_eq_false_iff_eq, ne_eq, Bool.not_eq_eq_eq_not, Bool.not_true, Bool.not_false] at h61
                refine cc_skip ?_
                refine cc_region ?_
                refine rr_move rfl rfl ?_
                refine r_add rfl rfl rfl (by omega) ?_
                refine rr_move rfl rfl ?_
                refine rr_nilCheck rfl rfl ?_
                refine r_fa rfl rfl ?_
                refine r_ld rfl (ls0 rfl) rfl rfl ?_
                refine r_lens rfl rfl ?_
                refine r_rem rfl rfl rfl (by omega) ?_
                rw [show ((a : Int) + 1).tmod (I.t.length : Int) = (((a + 1) % I.t.length : Nat) : Int) by
                  rw [show (a : Int) + 1 = ((a + 1 : Nat) : Int) by omega, Int.tmod_eq_emod_of_nonneg (by omega)]; rfl]
                refine rr_assign rfl rfl ?_
                refine rr_nil ?_
                refine cc_region ?_
                refine r_add rfl rfl rfl (by omega) ?_
                refine rr_move rfl rfl ?_
                refine rr_nil ?_
                have hml2 : (a + 1) % I.t.length < I.t.length := Nat.mod_lt _ h0
                first
                  | exact ⟨(j + 1, (a + 1) % I.t.length, fr), (by show I.t.length - (j + 1) < I.t.length - j; omega), by ((repeat' (first | exact covers_nil | (refine covers_cons ?_ ?_; focus (first | rfl | (simp [lk, lk?]; done))))) ; (first | done | fail)), entW_pu ⟨by omega, hml2, by grind [frF]⟩ entW_fr⟩
                  | exact ⟨(j + 1, (a + 1) % I.t.length, (a : Int)), (by show I.t.length - (j + 1) < I.t.length - j; omega), by ((repeat' (first | exact covers_nil | (refine covers_cons ?_ ?_; focus (first | rfl | (simp [lk, lk?]; done))))) ; (first | done | fail)), entW_pu ⟨by omega, hml2, by grind [frF]⟩ entW_fr⟩
                  | (exfalso; grind)
            · refine rr_guardN rfl rfl rfl rfl ?_
              refine rr_guardN rfl rfl rfl rfl ?_
              first | refine rr_pick rfl rfl ?_ | refine rr_pickb rfl rfl rfl rfl ?_
              refine rr_nil ?_
              refine cc_cond rfl (fun h61 => ?_) (fun h61 => ?_)
              · try simp only [decide_eq_true_eq, decide_eq_false_iff_not, beq_iff_eq, beq_eq_false_iff_ne, bne_iff_ne, bne_eq_false_iff_eq, ne_eq, Bool.not_eq_eq_eq_not, Bool.not_true, Bool.not_false] at h61
                refine cc_exit ?_
                refine cc_seq ?_
                refine cc_region ?_
                refine rr_move rfl rfl ?_
                refine rr_assign rfl rfl ?_
                refine rr_assign rfl rfl ?_
                refine rr_nil ?_
                refine cc_ret ?_
                refine ⟨_, rfl, entW_pu2 (tup2 (by grind [frF]) (by grind [frF])) ?_⟩
                exact entW_cls (indexR x I) (indexB x b I) (indexR_mk x b I) entW_fr
              · try simp only [decide_eq_true_eq, decide_eq_false_iff_not, beq_iff_eq, beq_eq_false_iff_ne, bne_iff_ne, bne_eq_false_iff_eq, ne_eq, Bool.not_eq_eq_eq_not, Bool.not_true, Bool.not_false] at h61
                refine cc_skip ?_
                refine cc_region ?_
                refine rr_move rfl rfl ?_
                refine r_add rfl rfl rfl (by omega) ?_
                refine rr_move rfl rfl ?_
                refine rr_nilCheck rfl rfl ?_
                refine r_fa rfl rfl ?_
                refine r_ld rfl (ls0 rfl) rfl rfl ?_
                refine r_lens rfl rfl ?_
                refine r_rem rfl rfl rfl (by omega) ?_
                rw [show ((a : Int) + 1).tmod (I.t.length : Int) = (((a + 1) % I.t.length : Nat) : Int) by
                  rw [show (a : Int) + 1 = ((a + 1 : Nat) : Int) by omega, Int.tmod_eq_emod_of_nonneg (by omega)]; rfl]
                refine rr_assign rfl rfl ?_
                refine rr_nil ?_
                refine cc_region ?_
                refine r_add rfl rfl rfl (by omega) ?_
                refine rr_move rfl rfl ?_
                refine rr_nil ?_
                have hml2 : (a + 1) % I.t.length < I.t.length := Nat.mod_lt _ h0
                first
                  | exact ⟨(j + 1, (a + 1) % I.t.length, fr), (by show I.t.length - (j + 1) < I.t.length - j; omega), by ((repeat' (first | exact covers_nil | (refine covers_cons ?_ ?_; focus (first | rfl | (simp [lk, lk?]; done))))) ; (first | done | fail)), entW_pu ⟨by omega, hml2, by grind [frF]⟩ entW_fr⟩
                  | exact ⟨(j + 1, (a + 1) % I.t.length, (a : Int)), (by show I.t.length - (j + 1) < I.t.length - j; omega), by ((repeat' (first | exact covers_nil | (refine covers_cons ?_ ?_; focus (first | rfl | (simp [lk, lk?]; done))))) ; (first | done | fail)), entW_pu ⟨by omega, hml2, by grind [frF]⟩ entW_fr⟩
                  | (exfalso; grind)
          · try simp only [decide_eq_true_eq, decide_eq_false_iff_not, beq_iff_eq, beq_eq_false_iff_ne, bne_iff_ne, bne_eq_false_iff_eq, ne_eq, Bool.not_eq_eq_eq_not, Bool.not_true, Bool.not_false] at h45
            refine cc_skip ?_
            refine cc_seq ?_
            refine cc_seq ?_
            refine cc_region ?_
            refine r_fa rfl rfl ?_
            refine r_ld rfl (ls0 rfl) rfl rfl ?_
            refine r_not rfl rfl ?_
            refine rr_move rfl rfl ?_
            refine rr_guard rfl rfl rfl (fun hg10_3 => ?_) (fun hg10_3 => ?_)
            · refine r_fa rfl rfl ?_
              refine rr_guardY rfl rfl rfl ?_
              refine r_ld rfl (ls0 rfl) rfl rfl ?_
              refine rr_guardY rfl rfl rfl ?_
              refine r_not rfl rfl ?_
              first | refine rr_pick rfl rfl ?_ | refine rr_pickb rfl rfl rfl rfl ?_
              refine rr_nil ?_
              refine cc_cond rfl (fun h61 => ?_) (fun h61 => ?_)
              · try simp only [decide_eq_true_eq, decide_eq_false_iff_not, beq_iff_eq, beq_eq_false_iff_ne, bne_iff_ne, bne_eq_false_iff_eq, ne_eq, Bool.not_eq_eq_eq_not, Bool.not_true, Bool.not_false] at h61
                refine cc_exit ?_
                refine cc_seq ?_
                refine cc_region ?_
                refine rr_move rfl rfl ?_
                refine rr_assign rfl rfl ?_
                refine rr_assign rfl rfl ?_
                refine rr_nil ?_
                refine cc_ret ?_
                refine ⟨_, rfl, entW_pu2 (tup2 (by grind [frF]) (by grind [frF])) ?_⟩
                exact entW_cls (indexR x I) (indexB x b I) (indexR_mk x b I) entW_fr
              · try simp only [decide_eq_true_eq, decide_eq_false_iff_not, beq_iff_eq, beq_eq_false_iff_ne, bne_iff_ne, bne_eq_false_iff_eq, ne_eq, Bool.not_eq_eq_eq_not, Bool.not_true, Bool.not_false] at h61
                refine cc_skip ?_
                refine cc_region ?_
                refine rr_move rfl rfl ?_
                refine r_add rfl rfl rfl (by omega) ?_
                refine rr_move rfl rfl ?_
                refine rr_nilCheck rfl rfl ?_
                refine r_fa rfl rfl ?_
                refine r_ld rfl (ls0 rfl) rfl rfl ?_
                refine r_lens rfl rfl ?_
                refine r_rem rfl rfl rfl (by omega) ?_
                rw [show ((a : Int) + 1).tmod (I.t.length : Int) = (((a + 1) % I.t.length : Nat) : Int) by
                  rw [show (a : Int) + 1 = ((a + 1 : Nat) : Int) by omega, Int.tmod_eq_emod_of_nonneg (by omega)]; rfl]
                refine rr_assign rfl rfl ?_
                refine rr_nil ?_
                refine cc_region ?_
                refine r_add rfl rfl rfl (by omega) ?_
                refine rr_move rfl rfl ?_
                refine rr_nil ?_
                have hml2 : (a + 1) % I.t.length < I.t.length := Nat.mod_lt _ h0
                first
                  | exact ⟨(j + 1, (a + 1) % I.t.length, fr), (by show I.t.length - (j + 1) < I.t.length - j; omega), by ((repeat' (first | exact covers_nil | (refine covers_cons ?_ ?_; focus (first | rfl | (simp [lk, lk?]; done))))) ; (first | done | fail)), entW_pu ⟨by omega, hml2, by grind [frF]⟩ entW_fr⟩
                  | exact ⟨(j + 1, (a + 1) % I.t.length, (a : Int)), (by show I.t.length - (j + 1) < I.t.length - j; omega), by ((repeat' (first | exact covers_nil | (refine covers_cons ?_ ?_; focus (first | rfl | (simp [lk, lk?]; done))))) ; (first | done | fail)), entW_pu ⟨by omega, hml2, by grind [frF]⟩ entW_fr⟩
                  | (exfalso; grind)
            · refine rr_guardN rfl rfl rfl rfl ?_
              refine rr_guardN rfl rfl rfl rfl ?_
              first | refine rr_pick rfl rfl ?_ | refine rr_pickb rfl rfl rfl rfl ?_
              refine rr_nil ?_
              refine cc_cond rfl (fun h61 => ?_) (fun h61 => ?_)
              · try simp only [decide_eq_true_eq, decide_eq_false_iff_not, beq_iff_eq, beq_eq_false_iff_ne, bne_iff_ne, bne_eq_false_iff_eq, ne_eq, Bool.not_eq_eq_eq_not, Bool.not_true, Bool.not_false] at h61
                refine cc_exit ?_
                refine cc_seq ?_
                refine cc_region ?_
                refine rr_move rfl rfl ?_
                refine rr_assign rfl rfl ?_
                refine rr_assign rfl rfl ?_
                refine rr_nil ?_
                refine cc_ret ?_
                refine ⟨_, rfl, entW_pu2 (tup2 (by grind [frF]) (by grind [frF])) ?_⟩
                exact entW_cls (indexR x I) (indexB x b I) (indexR_mk x b I) entW_fr
              · try simp only [decide_eq_true_eq, decide_eq_false_iff_not, beq_iff_eq, beq_eq_false_iff_ne, bne_iff_ne, bne_eq_false_iff_eq, ne_eq, Bool.not_eq_eq_eq_not, Bool.not_true, Bool.not_false] at h61
                refine cc_skip ?_
                refine cc_region ?_
                refine rr_move rfl rfl ?_
                refine r_add rfl rfl rfl (by omega) ?_
                refine rr_move rfl rfl ?_
                refine rr_nilCheck rfl rfl ?_
                refine r_fa rfl rfl ?_
                refine r_ld rfl (ls0 rfl) rfl rfl ?_
                refine r_lens rfl rfl ?_
                refine r_rem rfl rfl rfl (by omega) ?_
                rw [show ((a : Int) + 1).tmod (I.t.length : Int) = (((a + 1) % I.t.length : Nat) : Int) by
                  rw [show (a : Int) + 1 = ((a + 1 : Nat) : Int) by omega, Int.tmod_eq_emod_of_nonneg (by omega)]; rfl]
                refine rr_assign rfl rfl ?_
                refine rr_nil ?_
                refine cc_region ?_
                refine r_add rfl rfl rfl (by omega) ?_
                refine rr_move rfl rfl ?_
                refine rr_nil ?_
                have hml2 : (a + 1) % I.t.length < I.t.length := Nat.mod_lt _ h0
                first
                  | exact ⟨(j + 1, (a + 1) % I.t.length, fr), (by show I.t.length - (j + 1) < I.t.length - j; omega), by ((repeat' (first | exact covers_nil | (refine covers_cons ?_ ?_; focus (first | rfl | (simp [lk, lk?]; done))))) ; (first | done | fail)), entW_pu ⟨by omega, hml2, by grind [frF]⟩ entW_fr⟩
                  | exact ⟨(j + 1, (a + 1) % I.t.length, (a : Int)), (by show I.t.length - (j + 1) < I.t.length - j; omega), by ((repeat' (first | exact covers_nil | (refine covers_cons ?_ ?_; focus (first | rfl | (simp [lk, lk?]; done))))) ; (first | done | fail)), entW_pu ⟨by omega, hml2, by grind [frF]⟩ entW_fr⟩
                  | (exfalso; grind)
  · try simp only [decide_eq_true_eq, decide_eq_false_iff_not, beq_iff_eq, beq_eq_false_iff_ne, bne_iff_ne, bne_eq_false_iff_eq, ne_eq, Bool.not_eq_eq_eq_not, Bool.not_true, Bool.not_false] at h26
    obtain rfl : j = I.t.length := by omega
    simp only [Nat.sub_self, findF] at hf
    subst hf
    refine cc_exit ?_
    refine cc_seq ?_
    refine cc_region ?_
    refine rr_move rfl rfl ?_
    refine rr_assign rfl rfl ?_
    refine rr_assign rfl rfl ?_
    refine rr_nil ?_
    refine cc_ret ?_
    refine ⟨_, rfl, entW_pu2 (tup2 (by grind [frF]) (by grind [frF])) ?_⟩
    exact entW_cls (indexR x I) (indexB x b I) (indexR_mk x b I) entW_fr
end Go.Proofs.YtoiakcgdkegncaaGreat

namespace Go.Proofs.YtoiakcgdkegncaaGreat
open Go.RowKit Ice
attribute [local irreducible] CC RR Tr stir mixOf findI'
theorem findF_lt {t : List PlaceS} {key : Txt} (h0 : 0 < t.length) : ∀ (f a : Nat) (fr : Int), a < t.length → (fr < 0 ∨ ∃ i : Nat, fr = i ∧ i < t.length) →
    (((findF t key f a fr).1 < 0 ∨ ∃ i : Nat, (findF t key f a fr).1 = i ∧ i < t.length) ∧ ((findF t key f a fr).2 < 0 ∨ ∃ i : Nat, (findF t key f a fr).2 = i ∧ i < t.length))
  | 0, a, fr, ha, hf => ⟨.inl (by simp [findF]), hf⟩
  | f + 1, a, fr, ha, hf => by
    have hfr : frF (t.getD a place0) a fr < 0 ∨ ∃ i : Nat, frF (t.getD a place0) a fr = i ∧ i < t.length := by
      unfold frF; split
      · exact .inr ⟨a, rfl, ha⟩
      · exact hf
    simp only [findF]
    split
    · exact ⟨.inr ⟨a, rfl, ha⟩, .inr ⟨a, rfl, ha⟩⟩
    · split
      · exact ⟨.inl (by simp), hfr⟩
      · exact findF_lt h0 f _ _ (Nat.mod_lt _ h0) hfr
theorem findI_lt {I : IdxS} {key : Txt} (h0 : 0 < I.t.length) : (((findI' I key).1 < 0 ∨ ∃ i : Nat, (findI' I key).1 = i ∧ i < I.t.length) ∧ ((findI' I key).2 < 0 ∨ ∃ i : Nat, (findI' I key).2 = i ∧ i < I.t.length)) := by
  unfold findI'
  exact findF_lt h0 _ _ _ (Nat.mod_lt _ h0) (.inl (by simp))
def getI (I : IdxS) (key : Txt) : Int × Bool := if (findI' I key).1 < 0 then (0, false) else ((I.t.getD (findI' I key).1.toNat place0).pos, true)
def dropI (I : IdxS) (key : Txt) : Bool × IdxS := if (findI' I key).1 < 0 then (false, I) else (true, { I with t := I.t.set (findI' I key).1.toNat placeGone, n := I.n - 1 })
def putI (I : IdxS) (key : Txt) (pos : Int) : Int × IdxS :=
  if (findI' I key).1 < 0 then (0, ⟨I.t.set (findI' I key).2.toNat ⟨key, pos, true, false⟩, I.n + 1, if (I.t.getD (findI' I key).2.toNat place0).gone then I.used else I.used + 1⟩)
  else ((I.t.getD (findI' I key).1.toNat place0).pos, { I with t := I.t.set (findI' I key).1.toNat { I.t.getD (findI' I key).1.toNat place0 with pos := pos } })
def isBelow (pos : Int) (p : PlaceS) : Bool := p.has && decide (p.pos < pos)
def belowI (I : IdxS) (pos : Int) : Int × IdxS := ((I.t.countP (isBelow pos) : Nat), { I with t := I.t.map (fun p => if isBelow pos p then placeGone else p), n := I.n - (I.t.countP (isBelow pos) : Nat) })
theorem indexR_mk2 (x b m : Nat) (t : List PlaceS) (n used : Int) (h : m = t.length) : Ent (bl x 183 [.slice (some ⟨b, 0, none⟩) m m, i64 n, i64 used] * bl b 187 (t.flatMap placeV)) (indexR x ⟨t, n, used⟩) := by
  subst h; exact indexR_mk x b ⟨t, n, used⟩
theorem iget_tr (x : Nat) (I : IdxS) (key : Txt) (hk : key.length ≤ 2 ^ 30) (h0 : 0 < I.t.length) (h1 : I.t.length ≤ 2 ^ 40) :
    Tr Tryz.prog 165 #[ptr x, str key] (indexR x I) (fun v => pu (v = .tuple #[i64 (getI I key).1, .bool (getI I key).2]) * indexR x I) := by
  refine tr_body Tryz.func165 (by kernel_rfl) rfl Tryz.ntmps165 rfl (L := [(0, ptr x), (1, str key)]) (covers_cons rfl (covers_cons rfl covers_nil)) rfl ?_
  intro F w0 f
  have hlt := (findI_lt (I := I) (key := key) h0).1
  refine cc_seq ?_
  refine cc_region ?_
  refine rr_assign rfl rfl ?_
  refine rr_assign rfl rfl ?_
  refine rr_nil ?_
  refine cc_seq ?_
  refine cc_seq ?_
  refine cc_region ?_
  refine rr_move rfl rfl ?_
  refine r_pnil rfl rfl rfl ?_
  refine rr_nil ?_
  refine cc_condF rfl ?_
  refine cc_skip ?_
  refine cc_seq ?_
  refine cc_region ?_
  refine rr_move rfl rfl ?_
  refine rr_move rfl rfl ?_
  refine rr_call rfl rfl rfl rfl (ifind_tr x I key hk h0 h1) inferInstance rfl (sd0 rfl) (fun _ => sd0 rfl) rfl (fun v => ?_)
  first | refine RR.pu2 ?_ | refine RR.pu ?_
  rintro rfl
  refine rr_move rfl rfl ?_
  refine rr_extract rfl rfl rfl ?_
  refine rr_extract rfl rfl rfl ?_
  refine rr_assign rfl rfl ?_
  refine rr_assign rfl rfl ?_
  refine rr_nil ?_
  refine cc_seq ?_
  refine cc_seq ?_
  refine cc_region ?_
  refine rr_move rfl rfl ?_
  refine r_int rfl rfl rfl rfl ?_
  refine rr_nil ?_
  refine cc_cond rfl (fun h17 => ?_) (fun h17 => ?_)
  · try simp only [decide_eq_true_eq, decide_eq_false_iff_not, beq_iff_eq, beq_eq_false_iff_ne, bne_iff_ne, bne_eq_false_iff_eq, ne_eq, Bool.not_eq_eq_eq_not, Bool.not_true, Bool.not_false] at h17
    have hg : getI I key = (0, false) := by simp [getI, h17]
    refine cc_seq ?_
    refine cc_region ?_
    refine rr_assign rfl rfl ?_
    refine rr_assign rfl rfl ?_
    refine rr_nil ?_
    refine cc_ret ?_
    first
    | exact ⟨_, rfl, entW_pu2 (by rw [hg]) entW_fr⟩
    | exact ⟨_, rfl, entW_pu2 (by rw [hg]) (entW_cls (indexR x I) (indexB x b I) (indexR_mk x b I) entW_fr)⟩
  · try simp only [decide_eq_true_eq, decide_eq_false_iff_not, beq_iff_eq, beq_eq_false_iff_ne, bne_iff_ne, bne_eq_false_iff_eq, ne_eq, Bool.not_eq_eq_eq_not, Bool.not_true, Bool.not_false] at h17
    have hg : getI I key = ((I.t.getD (findI' I key).1.toNat place0).pos, true) := by simp [getI, h17]
    obtain ⟨i, hi, hil⟩ := hlt.resolve_left h17
    obtain ⟨p, hp⟩ := lt_get (l := I.t) (j := i) hil
    have hpd : I.t.getD (findI' I key).1.toNat place0 = p := by rw [hi, List.getD_eq_getElem?_getD]; simp [hp]
    rw [hpd] at hg
    refine CC.opn (indexR x I) rfl fun b => ?_
    refine cc_skip ?_
    refine cc_seq ?_
    refine cc_region ?_
    refine rr_move rfl rfl ?_
    refine rr_nilCheck rfl rfl ?_
    refine r_fa rfl rfl ?_
    refine r_ld rfl (ls0 rfl) rfl rfl ?_
    refine rr_move rfl rfl ?_
    refine r_ix rfl rfl rfl (by omega) ?_
    refine r_fa rfl rfl ?_
    refine r_ld rfl (ls0 rfl) (v := i64 p.pos) (nth_at (g := placeV) (w := 4) (j := 1) (fun _ _ => rfl) hp (by omega) rfl) rfl ?_
    refine rr_assign rfl rfl ?_
    refine rr_assign rfl rfl ?_
    refine rr_nil ?_
    refine cc_ret ?_
    first
    | exact ⟨_, rfl, entW_pu2 (by rw [hg]) entW_fr⟩
    | exact ⟨_, rfl, entW_pu2 (by rw [hg]) (entW_cls (indexR x I) (indexB x b I) (indexR_mk x b I) entW_fr)⟩
theorem idrop_tr (x : Nat) (I : IdxS) (key : Txt) (hk : key.length ≤ 2 ^ 30) (h0 : 0 < I.t.length) (h1 : I.t.length ≤ 2 ^ 40) (h2 : 0 ≤ I.n) (h3 : I.n ≤ 2 ^ 40) :
    Tr Tryz.prog 139 #[ptr x, str key] (indexR x I) (fun v => pu (v = .bool (dropI I key).1) * indexR x (dropI I key).2) := by
  refine tr_body Tryz.func139 (by kernel_rfl) rfl Tryz.ntmps139 rfl (L := [(0, ptr x), (1, str key)]) (covers_cons rfl (covers_cons rfl covers_nil)) rfl ?_
  intro F w0 f
  have hlt := (findI_lt (I := I) (key := key) h0).1
  refine cc_seq ?_
  refine cc_region ?_
  refine rr_assign rfl rfl ?_
  refine rr_nil ?_
  refine cc_seq ?_
  refine cc_seq ?_
  refine cc_region ?_
  refine rr_move rfl rfl ?_
  refine r_pnil rfl rfl rfl ?_
  refine rr_nil ?_
  refine cc_condF rfl ?_
  refine cc_skip ?_
  refine cc_seq ?_
  refine cc_region ?_
  refine rr_move rfl rfl ?_
  refine rr_move rfl rfl ?_
  refine rr_call rfl rfl rfl rfl (ifind_tr x I key hk h0 h1) inferInstance rfl (sd0 rfl) (fun _ => sd0 rfl) rfl (fun v => ?_)
  first | refine RR.pu2 ?_ | refine RR.pu ?_
  rintro rfl
  refine rr_move rfl rfl ?_
  refine rr_extract rfl rfl rfl ?_
  refine rr_extract rfl rfl rfl ?_
  refine rr_assign rfl rfl ?_
  refine rr_assign rfl rfl ?_
  refine rr_nil ?_
  refine cc_seq ?_
  refine cc_seq ?_
  refine cc_region ?_
  refine rr_move rfl rfl ?_
  refine r_int rfl rfl rfl rfl ?_
  refine rr_nil ?_
  refine cc_cond rfl (fun h16 => ?_) (fun h16 => ?_)
  · try simp only [decide_eq_true_eq, decide_eq_false_iff_not, beq_iff_eq, beq_eq_false_iff_ne, bne_iff_ne, bne_eq_false_iff_eq, ne_eq, Bool.not_eq_eq_eq_not, Bool.not_true, Bool.not_false] at h16
    have hg : dropI I key = (false, I) := by simp [dropI, h16]
    refine cc_seq ?_
    refine cc_region ?_
    refine rr_assign rfl rfl ?_
    refine rr_nil ?_
    refine cc_ret ?_
    first
    | exact ⟨_, rfl, entW_pu2 (by rw [hg]) (by rw [hg]; exact entW_fr)⟩
    | exact ⟨_, rfl, entW_pu2 (by rw [hg]) (by rw [hg]; exact entW_cls (indexR x { I with t := I.t.set i placeGone, n := I.n - 1 }) (bl x 183 [.slice (some ⟨b, 0, none⟩) I.t.length I.t.length, i64 (I.n - 1), i64 I.used] * bl b 187 ((I.t.set i placeGone).flatMap placeV)) (indexR_mk2 x b _ _ _ _ (by simp)) entW_fr)⟩
  · try simp only [decide_eq_true_eq, decide_eq_false_iff_not, beq_iff_eq, beq_eq_false_iff_ne, bne_iff_ne, bne_eq_false_iff_eq, ne_eq, Bool.not_eq_eq_eq_not, Bool.not_true, Bool.not_false] at h16
    have hg : dropI I key = (true, { I with t := I.t.set (findI' I key).1.toNat placeGone, n := I.n - 1 }) := by simp [dropI, h16]
    obtain ⟨i, hi, hil⟩ := hlt.resolve_left h16
    obtain ⟨p, hp⟩ := lt_get (l := I.t) (j := i) hil
    rw [hi] at hg
    simp only [Int.toNat_natCast] at hg
    refine CC.opn (indexR x I) rfl fun b => ?_
    refine cc_skip ?_
    refine cc_seq ?_
    refine cc_region ?_
    refine rr_move rfl rfl ?_
    refine rr_nilCheck rfl rfl ?_
    refine r_fa rfl rfl ?_
    refine r_ld rfl (ls0 rfl) rfl rfl ?_
    refine rr_move rfl rfl ?_
    refine r_bld rfl rfl rfl ?_
    refine r_ix rfl rfl rfl (by omega) ?_
    refine r_sta (cs' := (I.t.set i placeGone).flatMap placeV) rfl rfl rfl rfl (set_at (g := placeV) placeGone (w := 4) (j := 0) (fun _ _ => rfl) hp (by omega) (Nat.le_of_ble_eq_true rfl) rfl) (by rw [fm_len (w := 4) (fun _ _ => rfl)]; simp; omega) (sd0 rfl) (sd0 rfl) ?_
    refine rr_nil ?_
    refine cc_seq ?_
    refine cc_region ?_
    refine rr_move rfl rfl ?_
    refine rr_nilCheck rfl rfl ?_
    refine r_fa rfl rfl ?_
    refine r_ld rfl (ls0 rfl) rfl rfl ?_
    refine r_sub rfl rfl rfl (by omega) ?_
    refine rr_nilCheck rfl rfl ?_
    refine r_fa rfl rfl ?_
    refine r_st rfl rfl rfl rfl (sd0 rfl) (sd0 rfl) ?_
    refine rr_nil ?_
    refine cc_seq ?_
    refine cc_region ?_
    refine rr_assign rfl rfl ?_
    refine rr_nil ?_
    refine cc_ret ?_
    first
    | exact ⟨_, rfl, entW_pu2 (by rw [hg]) (by rw [hg]; exact entW_fr)⟩
    | exact ⟨_, rfl, entW_pu2 (by rw [hg]) (by rw [hg]; exact entW_cls (indexR x { I with t := I.t.set i placeGone, n := I.n - 1 }) (bl x 183 [.slice (some ⟨b, 0, none⟩) I.t.length I.t.length, i64 (I.n - 1), i64 I.used] * bl b 187 ((I.t.set i placeGone).flatMap placeV)) (indexR_mk2 x b _ _ _ _ (by simp)) entW_fr)⟩
theorem iput_tr (x : Nat) (I : IdxS) (key : Txt) (pos : Int) (hk : key.length ≤ 2 ^ 30) (h0 : 0 < I.t.length) (h1 : I.t.length ≤ 2 ^ 40) (h2 : 0 ≤ I.n) (h3 : I.n ≤ 2 ^ 40) (h4 : 0 ≤ I.used) (h5 : 2 * I.used < I.t.length) (hfr : (findI' I key).1 < 0 → ¬ (findI' I key).2 < 0) :
    Tr Tryz.prog 54 #[ptr x, str key, i64 pos] (indexR x I) (fun v => pu (v = i64 (putI I key pos).1) * indexR x (putI I key pos).2) := by
  refine tr_body Tryz.func54 (by kernel_rfl) rfl Tryz.ntmps54 rfl (L := [(0, ptr x), (1, str key), (2, i64 pos)]) (covers_cons rfl (covers_cons rfl (covers_cons rfl covers_nil))) rfl ?_
  intro F w0 f
  have hlt := findI_lt (I := I) (key := key) h0
  refine CC.opn (indexR x I) rfl fun b => ?_
  refine cc_seq ?_
  refine cc_region ?_
  refine rr_assign rfl rfl ?_
  refine rr_nil ?_
  refine cc_seq ?_
  refine cc_seq ?_
  refine cc_region ?_
  refine rr_move rfl rfl ?_
  refine r_pnil rfl rfl rfl ?_
  refine rr_nil ?_
  refine cc_condF rfl ?_
  refine cc_skip ?_
  refine cc_seq ?_
  refine cc_seq ?_
  refine cc_draw (1) [] [] mixed (by decide +kernel) ?_
  refine rr_move rfl rfl ?_
  refine rr_nilCheck rfl rfl ?_
  refine r_fa rfl rfl ?_
  refine r_ld rfl (ls0 rfl) rfl rfl ?_
  refine r_mul rfl rfl rfl (by omega) ?_
  refine rr_move rfl rfl ?_
  refine rr_nilCheck rfl rfl ?_
  refine r_fa rfl rfl ?_
  refine r_ld rfl (ls0 rfl) rfl rfl ?_
  refine r_lens rfl rfl ?_
  refine r_int rfl rfl rfl rfl ?_
  refine rr_nil ?_
  refine cc_condFp rfl (by simp; omega) ?_
  refine cc_skip ?_
  refine cc_seq ?_
  refine CC.cls (indexR x I) (indexB x b I) (indexR_mk x b I) ?_
  refine cc_region ?_
  refine rr_move rfl rfl ?_
  refine rr_move rfl rfl ?_
  refine rr_call rfl rfl rfl rfl (ifind_tr x I key hk h0 h1) inferInstance rfl (sd0 rfl) (fun _ => sd0 rfl) rfl (fun v => ?_)
  first | refine RR.pu2 ?_ | refine RR.pu ?_
  rintro rfl
  refine rr_move rfl rfl ?_
  refine rr_extract rfl rfl rfl ?_
  refine rr_extract rfl rfl rfl ?_
  refine rr_assign rfl rfl ?_
  refine rr_assign rfl rfl ?_
  refine rr_nil ?_
  refine CC.opn (indexR x I) rfl fun b => ?_
  refine cc_seq ?_
  refine cc_seq ?_
  refine cc_region ?_
  refine rr_move rfl rfl ?_
  refine r_int rfl rfl rfl rfl ?_
  refine rr_nil ?_
  refine cc_cond rfl (fun h32 => ?_) (fun h32 => ?_)
  · try simp only [decide_eq_true_eq, decide_eq_false_iff_not, beq_iff_eq, beq_eq_false_iff_ne, bne_iff_ne, bne_eq_false_iff_eq, ne_eq, Bool.not_eq_eq_eq_not, Bool.not_true, Bool.not_false] at h32
    have hg : putI I key pos = ((I.t.getD (findI' I key).1.toNat place0).pos, { I with t := I.t.set (findI' I key).1.toNat { I.t.getD (findI' I key).1.toNat place0 with pos := pos } }) := by simp [putI, Int.not_lt.2 h32]
    obtain ⟨i, hi, hil⟩ := hlt.1.resolve_left (Int.not_lt.2 h32)
    obtain ⟨p, hp⟩ := lt_get (l := I.t) (j := i) hil
    have hpd : I.t.getD (findI' I key).1.toNat place0 = p := by rw [hi, List.getD_eq_getElem?_getD]; simp [hp]
    rw [hpd, hi] at hg
    simp only [Int.toNat_natCast] at hg
    refine cc_seq ?_
    refine cc_region ?_
    refine rr_move rfl rfl ?_
    refine rr_nilCheck rfl rfl ?_
    refine r_fa rfl rfl ?_
    refine r_ld rfl (ls0 rfl) rfl rfl ?_
    refine rr_move rfl rfl ?_
    refine r_ix rfl rfl rfl (by omega) ?_
    refine r_fa rfl rfl ?_
    refine r_ld rfl (ls0 rfl) (v := i64 p.pos) (nth_at (g := placeV) (w := 4) (j := 1) (fun _ _ => rfl) hp (by omega) rfl) rfl ?_
    refine rr_assign rfl rfl ?_
    refine rr_nil ?_
    refine cc_seq ?_
    refine cc_region ?_
    refine rr_move rfl rfl ?_
    refine rr_nilCheck rfl rfl ?_
    refine r_fa rfl rfl ?_
    refine r_ld rfl (ls0 rfl) rfl rfl ?_
    refine rr_move rfl rfl ?_
    refine rr_move rfl rfl ?_
    refine r_ix rfl rfl rfl (by omega) ?_
    refine r_fa rfl rfl ?_
    refine r_st (cs' := (I.t.set i { p with pos := pos }).flatMap placeV) rfl rfl rfl (set1_at (g := placeV) { p with pos := pos } (w := 4) (j := 1) (fun _ _ => rfl) hp (by omega) rfl) (sd0 rfl) (sd0 rfl) ?_
    refine rr_nil ?_
    refine cc_seq ?_
    refine cc_region ?_
    refine rr_move rfl rfl ?_
    refine rr_assign rfl rfl ?_
    refine rr_nil ?_
    refine cc_ret ?_
    first
    | exact ⟨_, rfl, entW_pu2 (by rw [hg]) (by rw [hg]; exact entW_cls (indexR x { I with t := I.t.set i { p with pos := pos } }) (bl x 183 [.slice (some ⟨b, 0, none⟩) I.t.length I.t.length, i64 I.n, i64 I.used] * bl b 187 ((I.t.set i { p with pos := pos }).flatMap placeV)) (indexR_mk2 x b _ _ _ _ (by simp)) entW_fr)⟩
    | exact ⟨_, rfl, entW_pu2 (by rw [hg]) (by rw [hg]; exact entW_cls (indexR x ⟨I.t.set i ⟨key, pos, true, false⟩, I.n + 1, if p.gone then I.used else I.used + 1⟩) (bl x 183 [.slice (some ⟨b, 0, none⟩) I.t.length I.t.length, i64 (I.n + 1), i64 (if p.gone then I.used else I.used + 1)] * bl b 187 ((I.t.set i ⟨key, pos, true, false⟩).flatMap placeV)) (indexR_mk2 x b _ _ _ _ (by simp)) entW_fr)⟩
  · try simp only [decide_eq_true_eq, decide_eq_false_iff_not, beq_iff_eq, beq_eq_false_iff_ne, bne_iff_ne, bne_eq_false_iff_eq, ne_eq, Bool.not_eq_eq_eq_not, Bool.not_true, Bool.not_false] at h32
    have h32' : (findI' I key).1 < 0 := by omega
    have hg : putI I key pos = (0, ⟨I.t.set (findI' I key).2.toNat ⟨key, pos, true, false⟩, I.n + 1, if (I.t.getD (findI' I key).2.toNat place0).gone then I.used else I.used + 1⟩) := by simp [putI, h32']
    obtain ⟨i, hi, hil⟩ := hlt.2.resolve_left (hfr h32')
    obtain ⟨p, hp⟩ := lt_get (l := I.t) (j := i) hil
    have hpd : I.t.getD (findI' I key).2.toNat place0 = p := by rw [hi, List.getD_eq_getElem?_getD]; simp [hp]
    rw [hpd, hi] at hg
    simp only [Int.toNat_natCast] at hg
    refine cc_skip ?_
    refine cc_seq ?_
    refine cc_seq ?_
    refine cc_region ?_
    refine rr_move rfl rfl ?_
    refine rr_nilCheck rfl rfl ?_
    refine r_fa rfl rfl ?_
    refine r_ld rfl (ls0 rfl) rfl rfl ?_
    refine rr_move rfl rfl ?_
    refine r_ix rfl rfl rfl (by omega) ?_
    refine r_fa rfl rfl ?_
    refine r_ld rfl (ls0 rfl) (v := .bool p.gone) (nth_at (g := placeV) (w := 4) (j := 3) (fun _ _ => rfl) hp (by omega) rfl) rfl ?_
    refine r_not rfl rfl ?_
    refine rr_nil ?_
    refine cc_join (α := Unit) (fun _u => [(0, ptr x), (1, str key), (2, i64 pos), (8, i64 (findI' I key).2)]) (fun _u => bl x 183 [.slice (some ⟨b, 0, none⟩) I.t.length I.t.length, i64 I.n, i64 (if p.gone then I.used else I.used + 1)] * bl b 187 (I.t.flatMap placeV) * F) ?_ ?_
    · refine cc_cond rfl (fun h58 => ?_) (fun h58 => ?_)
      · try simp only [decide_eq_true_eq, decide_eq_false_iff_not, beq_iff_eq, beq_eq_false_iff_ne, bne_iff_ne, bne_eq_false_iff_eq, ne_eq, Bool.not_eq_eq_eq_not, Bool.not_true, Bool.not_false] at h58
        refine cc_region ?_
        refine rr_move rfl rfl ?_
        refine rr_nilCheck rfl rfl ?_
        refine r_fa rfl rfl ?_
        refine r_ld rfl (ls0 rfl) rfl rfl ?_
        refine r_add rfl rfl rfl (by omega) ?_
        refine rr_nilCheck rfl rfl ?_
        refine r_fa rfl rfl ?_
        refine r_st rfl rfl rfl rfl (sd0 rfl) (sd0 rfl) ?_
        refine rr_nil ?_
        exact ⟨(), by ((repeat' (first | exact covers_nil | (refine covers_cons ?_ ?_; focus (first | rfl | (simp [lk, lk?]; done))))) ; (first | done | fail)), by simp [h58]; exact entW_fr⟩
      · try simp only [decide_eq_true_eq, decide_eq_false_iff_not, beq_iff_eq, beq_eq_false_iff_ne, bne_iff_ne, bne_eq_false_iff_eq, ne_eq, Bool.not_eq_eq_eq_not, Bool.not_true, Bool.not_false] at h58
        refine cc_skip ?_
        exact ⟨(), by ((repeat' (first | exact covers_nil | (refine covers_cons ?_ ?_; focus (first | rfl | (simp [lk, lk?]; done))))) ; (first | done | fail)), by simp [h58]; exact entW_fr⟩
    · rintro _u f
      refine cc_seq ?_
      refine cc_region ?_
      refine rr_move rfl rfl ?_
      refine rr_nilCheck rfl rfl ?_
      refine r_fa rfl rfl ?_
      refine r_ld rfl (ls0 rfl) rfl rfl ?_
      refine rr_move rfl rfl ?_
      refine rr_move rfl rfl ?_
      refine rr_move rfl rfl ?_
      refine r_bld rfl rfl rfl ?_
      refine r_ix rfl rfl rfl (by omega) ?_
      refine r_sta (cs' := (I.t.set i ⟨key, pos, true, false⟩).flatMap placeV) rfl rfl rfl rfl (set_at (g := placeV) ⟨key, pos, true, false⟩ (w := 4) (j := 0) (fun _ _ => rfl) hp (by omega) (Nat.le_of_ble_eq_true rfl) rfl) (by rw [fm_len (w := 4) (fun _ _ => rfl)]; simp; omega) (sd0 rfl) (sd0 rfl) ?_
      refine rr_nil ?_
      refine cc_seq ?_
      refine cc_region ?_
      refine rr_move rfl rfl ?_
      refine rr_nilCheck rfl rfl ?_
      refine r_fa rfl rfl ?_
      refine r_ld rfl (ls0 rfl) rfl rfl ?_
      refine r_add rfl rfl rfl (by omega) ?_
      refine rr_nilCheck rfl rfl ?_
      refine r_fa rfl rfl ?_
      refine r_st rfl rfl rfl rfl (sd0 rfl) (sd0 rfl) ?_
      refine rr_nil ?_
      refine cc_seq ?_
      refine cc_region ?_
      refine rr_assign rfl rfl ?_
      refine rr_nil ?_
      refine cc_ret ?_
      first
      | exact ⟨_, rfl, entW_pu2 (by rw [hg]) (by rw [hg]; exact entW_cls (indexR x { I with t := I.t.set i { p with pos := pos } }) (bl x 183 [.slice (some ⟨b, 0, none⟩) I.t.length I.t.length, i64 I.n, i64 I.used] * bl b 187 ((I.t.set i { p with pos := pos }).flatMap placeV)) (indexR_mk2 x b _ _ _ _ (by simp)) entW_fr)⟩
      | exact ⟨_, rfl, entW_pu2 (by rw [hg]) (by rw [hg]; exact entW_cls (indexR x ⟨I.t.set i ⟨key, pos, true, false⟩, I.n + 1, if p.gone then I.used else I.used + 1⟩) (bl x 183 [.slice (some ⟨b, 0, none⟩) I.t.length I.t.length, i64 (I.n + 1), i64 (if p.gone then I.used else I.used + 1)] * bl b 187 ((I.t.set i ⟨key, pos, true, false⟩).flatMap placeV)) (indexR_mk2 x b _ _ _ _ (by simp)) entW_fr)⟩
theorem set_self {α : Type} : ∀ {l : List α} {i : Nat} {x : α}, l[i]? = some x → l.set i x = l
  | _ :: _, 0, _, h => by simp at h; simp [h]
  | _ :: l, i + 1, x, h => by simp at h; simp [set_self h]
  | [], _, _, h => by simp at h
theorem ibelow_tr (x : Nat) (I : IdxS) (pos : Int) (h1 : I.t.length ≤ 2 ^ 40) (h2 : 0 ≤ I.n) (h3 : I.n ≤ 2 ^ 40) :
    Tr Tryz.prog 101 #[ptr x, i64 pos] (indexR x I) (fun v => pu (v = i64 (belowI I pos).1) * indexR x (belowI I pos).2) := by
  refine tr_body Tryz.func101 (by kernel_rfl) rfl Tryz.ntmps101 rfl (L := [(0, ptr x), (1, i64 pos)]) (covers_cons rfl (covers_cons rfl covers_nil)) rfl ?_
  intro F w0 f
  have hcl : ∀ j, (I.t.take j).countP (isBelow pos) ≤ I.t.length := fun j => Nat.le_trans List.countP_le_length (by simp; omega)
  refine CC.opn (indexR x I) rfl fun b => ?_
  refine cc_seq ?_
  refine cc_region ?_
  refine rr_assign rfl rfl ?_
  refine rr_nil ?_
  refine cc_seq ?_
  refine cc_seq ?_
  refine cc_region ?_
  refine rr_move rfl rfl ?_
  refine r_pnil rfl rfl rfl ?_
  refine rr_nil ?_
  refine cc_condF rfl ?_
  refine cc_skip ?_
  refine cc_seq ?_
  refine cc_region ?_
  refine rr_assign rfl rfl ?_
  refine rr_nil ?_
  refine cc_seq ?_
  refine cc_seq ?_
  refine cc_region ?_
  refine rr_move rfl rfl ?_
  refine rr_nilCheck rfl rfl ?_
  refine r_fa rfl rfl ?_
  refine r_ld rfl (ls0 rfl) rfl rfl ?_
  refine r_lens rfl rfl ?_
  refine rr_move rfl rfl ?_
  refine rr_nil ?_
  refine cc_block ?_
  refine cc_loopW (α := Nat) (fun j => [(15, i64 j), (14, i64 I.t.length), (13, .slice (some ⟨b, 0, none⟩) I.t.length I.t.length), (0, ptr x), (1, i64 pos), (5, i64 ((I.t.take j).countP (isBelow pos) : Nat))]) (fun j => pu (j ≤ I.t.length) * (bl x 183 [.slice (some ⟨b, 0, none⟩) I.t.length I.t.length, i64 I.n, i64 I.used] * bl b 187 (((I.t.take j).map (fun p => if isBelow pos p then placeGone else p) ++ I.t.drop j).flatMap placeV) * F)) (fun j => I.t.length - j) (0) (by ((repeat' (first | exact covers_nil | (refine covers_cons ?_ ?_; focus (first | rfl | (simp [lk, lk?]; done))))) ; (first | done | fail))) (by exact entW_pu (by omega) (by simpa using entW_fr)) ?_
  rintro j f
  refine CC.pu fun hj => ?_
  refine cc_seq ?_
  refine cc_region ?_
  refine r_int rfl rfl rfl rfl ?_
  refine rr_nil ?_
  refine cc_seq ?_
  refine cc_cond rfl (fun h16 => ?_) (fun h16 => ?_)
  · try simp only [decide_eq_true_eq, decide_eq_false_iff_not, beq_iff_eq, beq_eq_false_iff_ne, bne_iff_ne, bne_eq_false_iff_eq, ne_eq, Bool.not_eq_eq_eq_not, Bool.not_true, Bool.not_false] at h16
    obtain ⟨p, hp⟩ := lt_get (l := I.t) (j := j) (by omega)
    have hp2 : ((I.t.take j).map (fun p => if isBelow pos p then placeGone else p) ++ I.t.drop j)[j]? = some p := by
      rw [List.getElem?_append_right (by simp; omega)]
      simp only [List.length_map, List.length_take, Nat.min_eq_left (by omega : j ≤ I.t.length), Nat.sub_self, List.getElem?_drop, Nat.add_zero, hp]
    have hnx : (I.t.take (j + 1)).map (fun p => if isBelow pos p then placeGone else p) ++ I.t.drop (j + 1) = ((I.t.take j).map (fun p => if isBelow pos p then placeGone else p) ++ I.t.drop j).set j (if isBelow pos p then placeGone else p) := by
      rw [List.set_append_right _ _ (by simp; omega), drop_cons_get hp, List.take_add_one, hp]
      simp [Nat.min_eq_left (by omega : j ≤ I.t.length)]
    have hcn : (I.t.take (j + 1)).countP (isBelow pos) = (I.t.take j).countP (isBelow pos) + if isBelow pos p then 1 else 0 := by
      rw [List.take_add_one, hp, List.countP_append]; simp [List.countP_cons]
    have hcj := hcl j
    refine cc_skip ?_
    refine cc_seq ?_
    refine cc_block ?_
    refine cc_seq ?_
    refine cc_region ?_
    refine rr_move rfl rfl ?_
    refine r_ix rfl rfl rfl (by omega) ?_
    refine r_lda rfl (ls0 rfl) (vs := placeV p) (cut_at (g := placeV) (w := 4) (j := 0) (fun _ _ => rfl) hp2 (by omega) rfl) rfl ?_
    refine r_alloc rfl (sd0 rfl) (fun _ => sd0 rfl) (fun p6_3 => ?_)
    refine rr_assign rfl rfl ?_
    refine r_sta (cs' := placeV p) rfl rfl rfl rfl rfl (Nat.le_of_ble_eq_true rfl) (sd0 rfl) (sd0 rfl) ?_
    refine rr_nil ?_
    refine cc_seq ?_
    refine cc_region ?_
    refine r_fa rfl rfl ?_
    refine r_ld rfl (ls0 rfl) rfl rfl ?_
    refine rr_move rfl rfl ?_
    refine rr_guard rfl rfl rfl (fun hg7_2 => ?_) (fun hg7_2 => ?_)
    · refine r_fa rfl rfl ?_
      refine rr_guardY rfl rfl rfl ?_
      refine r_ld rfl (ls0 rfl) rfl rfl ?_
      refine rr_guardY rfl rfl rfl ?_
      refine rr_move rfl rfl ?_
      refine rr_guardY rfl rfl rfl ?_
      refine r_int rfl rfl rfl rfl ?_
      first | refine rr_pick rfl rfl ?_ | refine rr_pickb rfl rfl rfl rfl ?_
      refine rr_nil ?_
      refine cc_cond rfl (fun h27 => ?_) (fun h27 => ?_)
      · try simp only [decide_eq_true_eq, decide_eq_false_iff_not, beq_iff_eq, beq_eq_false_iff_ne, bne_iff_ne, bne_eq_false_iff_eq, ne_eq, Bool.not_eq_eq_eq_not, Bool.not_true, Bool.not_false] at h27
        refine cc_seq ?_
        refine cc_region ?_
        refine rr_move rfl rfl ?_
        refine rr_nilCheck rfl rfl ?_
        refine r_fa rfl rfl ?_
        refine r_ld rfl (ls0 rfl) rfl rfl ?_
        refine rr_move rfl rfl ?_
        refine r_bld rfl rfl rfl ?_
        refine r_ix rfl rfl rfl (by omega) ?_
        refine r_sta (cs' := (((I.t.take j).map (fun p => if isBelow pos p then placeGone else p) ++ I.t.drop j).set j placeGone).flatMap placeV) rfl rfl rfl rfl (set_at (g := placeV) placeGone (w := 4) (j := 0) (fun _ _ => rfl) hp2 (by omega) (Nat.le_of_ble_eq_true rfl) rfl) (by rw [fm_len (w := 4) (fun _ _ => rfl)]; simp; omega) (sd0 rfl) (sd0 rfl) ?_
        refine rr_nil ?_
        refine cc_region ?_
        refine rr_move rfl rfl ?_
        refine r_add rfl rfl rfl (by omega) ?_
        refine rr_assign rfl rfl ?_
        refine rr_nil ?_
        refine cc_region ?_
        refine r_add rfl rfl rfl (by omega) ?_
        refine rr_move rfl rfl ?_
        refine rr_nil ?_
        first
        | (have hb : isBelow pos p = true := by (simp only [isBelow]; grind)
           simp only [hb, if_true] at hnx hcn
           exact ⟨j + 1, by omega, by ((repeat' (first | exact covers_nil | (refine covers_cons ?_ ?_; focus (first | rfl | (simp [lk, lk?]; done) | (refine congrArg (Value.int _) ?_; rw [hcn]; simp))))) ; (first | done | fail)), entW_pu (by omega) (by rw [hnx]; exact entW_fr)⟩)
        | (have hb : isBelow pos p = false := by (simp only [isBelow]; grind)
           simp only [hb, Bool.false_eq_true, if_false, Nat.add_zero] at hnx hcn
           exact ⟨j + 1, by omega, by ((repeat' (first | exact covers_nil | (refine covers_cons ?_ ?_; focus (first | rfl | (simp [lk, lk?]; done) | (refine congrArg (Value.int _) ?_; rw [hcn]))))) ; (first | done | fail)), entW_pu (by omega) (by rw [hnx, set_self hp2]; exact entW_fr)⟩)
        | (exfalso; grind)
      · try simp only [decide_eq_true_eq, decide_eq_false_iff_not, beq_iff_eq, beq_eq_false_iff_ne, bne_iff_ne, bne_eq_false_iff_eq, ne_eq, Bool.not_eq_eq_eq_not, Bool.not_true, Bool.not_false] at h27
        refine cc_skip ?_
        refine cc_region ?_
        refine r_add rfl rfl rfl (by omega) ?_
        refine rr_move rfl rfl ?_
        refine rr_nil ?_
        first
        | (have hb : isBelow pos p = true := by (simp only [isBelow]; grind)
           simp only [hb, if_true] at hnx hcn
           exact ⟨j + 1, by omega, by ((repeat' (first | exact covers_nil | (refine covers_cons ?_ ?_; focus (first | rfl | (simp [lk, lk?]; done) | (refine congrArg (Value.int _) ?_; rw [hcn]; simp))))) ; (first | done | fail)), entW_pu (by omega) (by rw [hnx]; exact entW_fr)⟩)
        | (have hb : isBelow pos p = false := by (simp only [isBelow]; grind)
           simp only [hb, Bool.false_eq_true, if_false, Nat.add_zero] at hnx hcn
           exact ⟨j + 1, by omega, by ((repeat' (first | exact covers_nil | (refine covers_cons ?_ ?_; focus (first | rfl | (simp [lk, lk?]; done) | (refine congrArg (Value.int _) ?_; rw [hcn]))))) ; (first | done | fail)), entW_pu (by omega) (by rw [hnx, set_self hp2]; exact entW_fr)⟩)
        | (exfalso; grind)
    · refine rr_guardN rfl rfl rfl rfl ?_
      refine rr_guardN rfl rfl rfl rfl ?_
      refine rr_guardN rfl rfl rfl rfl ?_
      first | refine rr_pick rfl rfl ?_ | refine rr_pickb rfl rfl rfl rfl ?_
      refine rr_nil ?_
      refine cc_cond rfl (fun h27 => ?_) (fun h27 => ?_)
      · try simp only [decide_eq_true_eq, decide_eq_false_iff_not, beq_iff_eq, beq_eq_false_iff_ne, bne_iff_ne, bne_eq_false_iff_eq, ne_eq, Bool.not_eq_eq_eq_not, Bool.not_true, Bool.not_false] at h27
        refine cc_seq ?_
        refine cc_region ?_
        refine rr_move rfl rfl ?_
        refine rr_nilCheck rfl rfl ?_
        refine r_fa rfl rfl ?_
        refine r_ld rfl (ls0 rfl) rfl rfl ?_
        refine rr_move rfl rfl ?_
        refine r_bld rfl rfl rfl ?_
        refine r_ix rfl rfl rfl (by omega) ?_
        refine r_sta (cs' := (((I.t.take j).map (fun p => if isBelow pos p then placeGone else p) ++ I.t.drop j).set j placeGone).flatMap placeV) rfl rfl rfl rfl (set_at (g := placeV) placeGone (w := 4) (j := 0) (fun _ _ => rfl) hp2 (by omega) (Nat.le_of_ble_eq_true rfl) rfl) (by rw [fm_len (w := 4) (fun _ _ => rfl)]; simp; omega) (sd0 rfl) (sd0 rfl) ?_
        refine rr_nil ?_
        refine cc_region ?_
        refine rr_move rfl rfl ?_
        refine r_add rfl rfl rfl (by omega) ?_
        refine rr_assign rfl rfl ?_
        refine rr_nil ?_
        refine cc_region ?_
        refine r_add rfl rfl rfl (by omega) ?_
        refine rr_move rfl rfl ?_
        refine rr_nil ?_
        first
        | (have hb : isBelow pos p = true := by (simp only [isBelow]; grind)
           simp only [hb, if_true] at hnx hcn
           exact ⟨j + 1, by omega, by ((repeat' (first | exact covers_nil | (refine covers_cons ?_ ?_; focus (first | rfl | (simp [lk, lk?]; done) | (refine congrArg (Value.int _) ?_; rw [hcn]; simp))))) ; (first | done | fail)), entW_pu (by omega) (by rw [hnx]; exact entW_fr)⟩)
        | (have hb : isBelow pos p = false := by (simp only [isBelow]; grind)
           simp only [hb, Bool.false_eq_true, if_false, Nat.add_zero] at hnx hcn
           exact ⟨j + 1, by omega, by ((repeat' (first | exact covers_nil | (refine covers_cons ?_ ?_; focus (first | rfl | (simp [lk, lk?]; done) | (refine congrArg (Value.int _) ?_; rw [hcn]))))) ; (first | done | fail)), entW_pu (by omega) (by rw [hnx, set_self hp2]; exact entW_fr)⟩)
        | (exfalso; grind)
      · try simp only [decide_eq_true_eq, decide_eq_false_iff_not, beq_iff_eq, beq_eq_false_iff_ne, bne_iff_ne, bne_eq_false_iff_eq, ne_eq, Bool.not_eq_eq_eq_not, Bool.not_true, Bool.not_false] at h27
        refine cc_skip ?_
        refine cc_region ?_
        refine r_add rfl rfl rfl (by omega) ?_
        refine rr_move rfl rfl ?_
        refine rr_nil ?_
        first
        | (have hb : isBelow pos p = true := by (simp only [isBelow]; grind)
           simp only [hb, if_true] at hnx hcn
           exact ⟨j + 1, by omega, by ((repeat' (first | exact covers_nil | (refine covers_cons ?_ ?_; focus (first | rfl | (simp [lk, lk?]; done) | (refine congrArg (Value.int _) ?_; rw [hcn]; simp))))) ; (first | done | fail)), entW_pu (by omega) (by rw [hnx]; exact entW_fr)⟩)
        | (have hb : isBelow pos p = false := by (simp only [isBelow]; grind)
           simp only [hb, Bool.false_eq_true, if_false, Nat.add_zero] at hnx hcn
           exact ⟨j + 1, by omega, by ((repeat' (first | exact covers_nil | (refine covers_cons ?_ ?_; focus (first | rfl | (simp [lk, lk?]; done) | (refine congrArg (Value.int _) ?_; rw [hcn]))))) ; (first | done | fail)), entW_pu (by omega) (by rw [hnx, set_self hp2]; exact entW_fr)⟩)
        | (exfalso; grind)
  · try simp only [decide_eq_true_eq, decide_eq_false_iff_not, beq_iff_eq, beq_eq_false_iff_ne, bne_iff_ne, bne_eq_false_iff_eq, ne_eq, Bool.not_eq_eq_eq_not, Bool.not_true, Bool.not_false] at h16
    obtain rfl : j = I.t.length := by omega
    have hcj := hcl I.t.length
    rw [List.take_length, List.drop_length, List.append_nil] at *
    refine cc_exit ?_
    refine cc_seq ?_
    refine cc_region ?_
    refine rr_move rfl rfl ?_
    refine rr_nilCheck rfl rfl ?_
    refine r_fa rfl rfl ?_
    refine r_ld rfl (ls0 rfl) rfl rfl ?_
    refine rr_move rfl rfl ?_
    refine r_sub rfl rfl rfl (by omega) ?_
    refine rr_nilCheck rfl rfl ?_
    refine r_fa rfl rfl ?_
    refine r_st rfl rfl rfl rfl (sd0 rfl) (sd0 rfl) ?_
    refine rr_nil ?_
    refine cc_seq ?_
    refine cc_region ?_
    refine rr_move rfl rfl ?_
    refine rr_assign rfl rfl ?_
    refine rr_nil ?_
    refine cc_ret ?_
    refine ⟨_, rfl, entW_pu2 rfl ?_⟩
    exact entW_cls (indexR x (belowI I pos).2) (bl x 183 [.slice (some ⟨b, 0, none⟩) I.t.length I.t.length, i64 (I.n - (I.t.countP (isBelow pos) : Nat)), i64 I.used] * bl b 187 ((I.t.map (fun p => if isBelow pos p then placeGone else p)).flatMap placeV)) (indexR_mk2 x b _ _ _ _ (by simp)) entW_fr
end Go.Proofs.YtoiakcgdkegncaaGreat

namespace Go.Proofs.YtoiakcgdkegncaaGreat
open Go.RowKit Ice
attribute [local irreducible] CC RR Tr stir mixOf findI'
theorem countP_set {α : Type} (q : α → Bool) : ∀ {l : List α} {i : Nat} {x : α} (y : α), l[i]? = some x → (l.set i y).countP q + (if q x then 1 else 0) = l.countP q + (if q y then 1 else 0)
  | a :: l, 0, x, y, h => by
    simp only [List.getElem?_cons_zero, Option.some.injEq] at h
    subst h
    simp only [List.set_cons_zero, List.countP_cons]; omega
  | a :: l, i + 1, x, y, h => by
    simp only [List.getElem?_cons_succ] at h
    have := countP_set q y h
    simp only [List.set_cons_succ, List.countP_cons]; omega
  | [], _, _, _, h => by simp at h
def usedP (p : PlaceS) : Bool := p.has || p.gone
/-- an index is well -/
structure IdxOK (I : IdxS) : Prop where
  h0 : 0 < I.t.length
  h1 : I.t.length ≤ 2 ^ 20
  hn : I.n = (I.t.countP (·.has) : Nat)
  hu : I.used = (I.t.countP usedP : Nat)
theorem idx0_ok : IdxOK idx0 := ⟨by decide, by decide, by decide, by decide⟩
theorem IdxOK.nb {I : IdxS} (h : IdxOK I) : 0 ≤ I.n ∧ I.n ≤ 2 ^ 40 := by
  have := List.countP_le_length (p := fun x : PlaceS => x.has) (l := I.t)
  have := h.h1
  rw [h.hn]; omega
theorem findF_key {t : List PlaceS} {key : Txt} : ∀ (f a : Nat) (fr : Int), 0 ≤ (findF t key f a fr).1 → (t.getD (findF t key f a fr).1.toNat place0).has = true ∧ (t.getD (findF t key f a fr).1.toNat place0).key = key
  | 0, a, fr, h => by simp [findF] at h
  | f + 1, a, fr, h => by
    simp only [findF] at h ⊢
    split
    · rename_i hp
      simp only [Bool.and_eq_true, beq_iff_eq] at hp
      simpa using hp
    · rename_i hp
      rw [if_neg hp] at h
      split
      · rename_i h2; rw [if_pos h2] at h; simp at h
      · rename_i h2; rw [if_neg h2] at h; exact findF_key f _ _ h
theorem findF_free {t : List PlaceS} {key : Txt} : ∀ (f a : Nat) (fr : Int), (0 ≤ fr → (t.getD fr.toNat place0).has = false) → (findF t key f a fr).1 < 0 → 0 ≤ (findF t key f a fr).2 → (t.getD (findF t key f a fr).2.toNat place0).has = false
  | 0, a, fr, hf, _, h => by simp only [findF] at h ⊢; exact hf h
  | f + 1, a, fr, hf, h1, h => by
    have hfr : 0 ≤ frF (t.getD a place0) a fr → (t.getD (frF (t.getD a place0) a fr).toNat place0).has = false := by
      intro hq
      unfold frF at hq ⊢
      split
      · rename_i h2; simp at h2; simpa using h2.1
      · rename_i h2; rw [if_neg h2] at hq; exact hf hq
    simp only [findF] at h h1 ⊢
    split
    · rename_i h2; rw [if_pos h2] at h1; simp at h1; omega
    · rename_i h2
      rw [if_neg h2] at h h1
      split
      · rename_i h3; rw [if_pos h3] at h; exact hfr h
      · rename_i h3; rw [if_neg h3] at h h1; exact findF_free f _ _ hfr h1 h
theorem IdxOK.drop {I : IdxS} (h : IdxOK I) (key : Txt) : IdxOK (dropI I key).2 := by
  unfold dropI
  split
  · exact h
  · rename_i hp
    obtain ⟨i, hi, hil⟩ := (findI_lt (I := I) (key := key) h.h0).1.resolve_left hp
    obtain ⟨p, hpp⟩ := lt_get (l := I.t) (j := i) hil
    have hk : p.has = true := by
      have e : (findF I.t key I.t.length ((mixOf key).toNat % I.t.length) (-1)).1 = i := by rw [← hi]; unfold findI'; rfl
      have := (findF_key (t := I.t) (key := key) I.t.length ((mixOf key).toNat % I.t.length) (-1) (by rw [e]; omega)).1
      rw [e, List.getD_eq_getElem?_getD] at this
      simpa [hpp] using this
    rw [hi]
    simp only [Int.toNat_natCast]
    have c1 := countP_set (fun x : PlaceS => x.has) placeGone hpp
    have c2 := countP_set usedP placeGone hpp
    have e1 : placeGone.has = false := rfl
    have e2 : usedP placeGone = true := rfl
    have e3 : usedP p = true := by simp [usedP, hk]
    simp only [hk, e1, e2, e3, if_true, Bool.false_eq_true, if_false, Nat.add_zero] at c1 c2
    refine ⟨by simpa using h.h0, by simpa using h.h1, ?_, ?_⟩
    · show I.n - 1 = _; rw [h.hn]; simp only; omega
    · show I.used = _; rw [h.hu]; simp only; omega
theorem IdxOK.below {I : IdxS} (h : IdxOK I) (pos : Int) : IdxOK (belowI I pos).2 := by
  refine ⟨by simpa [belowI] using h.h0, by simpa [belowI] using h.h1, ?_, ?_⟩
  · show I.n - _ = _
    rw [h.hn]
    have : ∀ l : List PlaceS, ((l.map fun p => if isBelow pos p then placeGone else p).countP fun x => x.has) + l.countP (isBelow pos) = l.countP fun x => x.has := by
      intro l
      induction l with
      | nil => rfl
      | cons p l ih =>
        simp only [List.map_cons, List.countP_cons]
        by_cases hb : isBelow pos p = true
        · have hh : p.has = true := by simp [isBelow] at hb; exact hb.1
          simp only [hb, if_true, hh, show placeGone.has = false from rfl, Bool.false_eq_true, if_false]; omega
        · simp only [hb, Bool.false_eq_true, if_false]; omega
    have := this I.t
    simp only [belowI]; omega
  · show I.used = _
    rw [h.hu]
    congr 1
    simp only [belowI, List.countP_map]
    refine List.countP_congr fun p _ => ?_
    simp only [Function.comp]
    by_cases hb : isBelow pos p = true
    · have hh : p.has = true := by simp [isBelow] at hb; exact hb.1
      simp [hb, usedP, hh, placeGone]
    · simp [hb]
theorem IdxOK.put {I : IdxS} (h : IdxOK I) (key : Txt) (pos : Int) (hfr : (findI' I key).1 < 0 → ¬ (findI' I key).2 < 0) : IdxOK (putI I key pos).2 := by
  unfold putI
  have hlt := findI_lt (I := I) (key := key) h.h0
  split
  · rename_i hp
    obtain ⟨i, hi, hil⟩ := hlt.2.resolve_left (hfr hp)
    obtain ⟨p, hpp⟩ := lt_get (l := I.t) (j := i) hil
    have hk : p.has = false := by
      have e1 : (findF I.t key I.t.length ((mixOf key).toNat % I.t.length) (-1)).2 = i := by rw [← hi]; unfold findI'; rfl
      have := findF_free (t := I.t) (key := key) I.t.length ((mixOf key).toNat % I.t.length) (-1) (by omega) (by unfold findI' at hp; exact hp) (by rw [e1]; omega)
      rw [e1, List.getD_eq_getElem?_getD] at this
      simpa [hpp] using this
    rw [hi]
    simp only [Int.toNat_natCast, List.getD_eq_getElem?_getD, hpp, Option.getD_some]
    have c1 := countP_set (fun x : PlaceS => x.has) ⟨key, pos, true, false⟩ hpp
    have c2 := countP_set usedP ⟨key, pos, true, false⟩ hpp
    have e2 : usedP ⟨key, pos, true, false⟩ = true := rfl
    have e3 : usedP p = p.gone := by simp [usedP, hk]
    simp only [hk, e2, e3, if_true, Bool.false_eq_true, if_false, Nat.add_zero] at c1 c2
    refine ⟨by simpa using h.h0, by simpa using h.h1, ?_, ?_⟩
    · show I.n + 1 = _; rw [h.hn]; simp only; omega
    · show (if p.gone = true then I.used else I.used + 1) = _; rw [h.hu]; simp only; split at c2 <;> rename_i hg <;> simp only [hg, if_true, if_false, Bool.false_eq_true] <;> omega
  · rename_i hp
    obtain ⟨i, hi, hil⟩ := hlt.1.resolve_left hp
    obtain ⟨p, hpp⟩ := lt_get (l := I.t) (j := i) hil
    rw [hi]
    simp only [Int.toNat_natCast, List.getD_eq_getElem?_getD, hpp, Option.getD_some]
    have c1 := countP_set (fun x : PlaceS => x.has) { p with pos := pos } hpp
    have c2 := countP_set usedP { p with pos := pos } hpp
    have e2 : usedP { p with pos := pos } = usedP p := rfl
    rw [e2] at c2
    refine ⟨by simpa using h.h0, by simpa using h.h1, ?_, ?_⟩
    · show I.n = _; rw [h.hn]; simp only at c1 ⊢; omega
    · show I.used = _; rw [h.hu]; simp only; omega
end Go.Proofs.YtoiakcgdkegncaaGreat

