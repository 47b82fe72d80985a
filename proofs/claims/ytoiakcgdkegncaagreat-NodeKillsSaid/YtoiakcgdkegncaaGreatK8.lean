import Derived.Test.YtoiakcgdkegncaaGreatK7
set_option linter.unusedVariables false
set_option linter.unusedSimpArgs false
set_option linter.unusedSectionVars false
namespace Go.Proofs.YtoiakcgdkegncaaGreat
open Go.RowKit Ice
attribute [local irreducible] CC RR Tr crcL be supSec supW supMake secBytes segW devW getB
/-- how a record's position stands to another -/
def posCmp (p q : Int) : Int := if p < q then -1 else if q < p then 1 else 0
theorem rd1_tr (p q : Int) (u : Value) (hp : 0 ≤ p) (hp2 : p ≤ 2 ^ 60) (hq : -(2 ^ 60) ≤ q) (hq2 : q ≤ 2 ^ 60) (hu : oneC u = true) : Tr Tryz.prog 192 #[.agg #[i64 p, u], i64 q] 1 (fun v => pu (v = i64 (posCmp p q))) := by
  refine tr_body Tryz.func192 (by kernel_rfl) rfl Tryz.ntmps192 rfl (L := [(0, .agg #[i64 p, u]), (1, i64 q)]) (covers_cons rfl (covers_cons rfl covers_nil)) rfl ?_
  intro F w0 f
  rw [sl_one_mul]
  refine cc_seq ?_
  refine cc_region ?_
  refine r_boxa (vs := [i64 p, u]) rfl rfl (sd0 rfl) (fun _ => sd0 rfl) (fun p0_0 => ?_)
  refine rr_assign rfl rfl ?_
  refine rr_nil ?_
  refine cc_seq ?_
  refine cc_region ?_
  refine r_fa rfl rfl ?_
  refine r_ld rfl (ls0 rfl) rfl rfl ?_
  refine rr_move rfl rfl ?_
  refine r_sub rfl rfl rfl (by omega) ?_
  refine r_max rfl rfl rfl ?_
  refine r_min rfl rfl rfl ?_
  refine rr_assign rfl rfl ?_
  refine rr_nil ?_
  refine cc_ret ?_
  exact ⟨_, rfl, entW_pu (congrArg (Value.int _) (by simp only [posCmp]; split <;> split <;> split <;> omega)) entW_fr⟩
/-- where a position is among records that rise -/
theorem bsearch_tr (b cap : Nat) (rest us : List Value) (rs : List (Nat × Txt)) (q : Int) (hus : us.length = rs.length) (hone : ∀ u ∈ us, oneC u = true) (hl : rs.length ≤ 2 ^ 40) (hs : rs.Pairwise fun a b => a.1 < b.1) (hb : ∀ r ∈ rs, r.1 ≤ 2 ^ 50) (hq : -(2 ^ 60) ≤ q) (hq2 : q ≤ 2 ^ 60) :
    Tr Tryz.prog 191 #[.slice (some ⟨b, 0, none⟩) rs.length cap, i64 q, .func (.func 192) #[] #[]] (bl b 241 (recV us rs ++ rest))
      (fun v => ex fun i : Nat => ex fun t : Bool => pu (v = .tuple #[i64 i, .bool t] ∧ (if t then ∃ r, rs[i]? = some r ∧ (r.1 : Int) = q else ∀ r ∈ rs, (r.1 : Int) ≠ q)) * bl b 241 (recV us rs ++ rest)) := by
  refine tr_body Tryz.func191 (by kernel_rfl) rfl Tryz.ntmps191 rfl (L := [(0, .slice (some ⟨b, 0, none⟩) rs.length cap), (1, i64 q), (2, .func (.func 192) #[] #[])]) (covers_cons rfl (covers_cons rfl (covers_cons rfl covers_nil))) rfl ?_
  intro F w0 f
  have hcell : ∀ (i : Nat) (r : Nat × Txt), rs[i]? = some r → ∃ u, us[i]? = some u ∧ oneC u = true ∧ cutR (recV us rs ++ rest) (i * 2) 2 [] = some [i64 r.1, u] := by
    intro i r hr
    obtain ⟨u, hu⟩ := lt_get (l := us) (j := i) (by have := get_lt hr; omega)
    refine ⟨u, hu, hone u (get_mem hu), ?_⟩
    have hz : (us.zip rs)[i]? = some (u, r) := by rw [List.getElem?_zip_eq_some]; exact ⟨hu, hr⟩
    have := cut_fm (g := fun x : Value × (Nat × Txt) => [i64 x.2.1, x.1]) (w := 2) (fun _ _ => rfl) hz (j := 0) (k := 2) (vs := [i64 r.1, u]) rfl rest
    simpa [recV] using this
  have hmono : ∀ (i j : Nat) (a c : Nat × Txt), rs[i]? = some a → rs[j]? = some c → i < j → a.1 < c.1 := by
    intro i j a c ha hc hij
    have h1 := List.pairwise_iff_getElem.1 hs i j (get_lt ha) (get_lt hc) hij
    rw [List.getElem?_eq_getElem (get_lt ha)] at ha
    rw [List.getElem?_eq_getElem (get_lt hc)] at hc
    simp only [Option.some.injEq] at ha hc
    rw [ha, hc] at h1; exact h1
  refine cc_seq ?_
  refine cc_region ?_
  refine rr_assign rfl rfl ?_
  refine rr_assign rfl rfl ?_
  refine rr_nil ?_
  refine cc_seq ?_
  refine cc_region ?_
  refine rr_move rfl rfl ?_
  refine r_lens rfl rfl ?_
  refine rr_assign rfl rfl ?_
  refine rr_nil ?_
  refine cc_seq ?_
  refine cc_region ?_
  refine rr_move rfl rfl ?_
  refine rr_assign rfl rfl ?_
  refine rr_assign rfl rfl ?_
  refine rr_nil ?_
  refine cc_seq ?_
  refine cc_block ?_
  refine cc_loopW (α := (Nat × Nat)) (fun ⟨i, j⟩ => [(9, i64 i), (10, i64 j), (8, i64 rs.length), (0, .slice (some ⟨b, 0, none⟩) rs.length cap), (1, i64 q), (2, .func (.func 192) #[] #[])]) (fun ⟨i, j⟩ => pu (i ≤ j ∧ j ≤ rs.length ∧ (∀ (k : Nat) (r : Nat × Txt), k < i → rs[k]? = some r → (r.1 : Int) < q) ∧ (∀ (k : Nat) (r : Nat × Txt), j ≤ k → rs[k]? = some r → q ≤ r.1)) * (bl b 241 (recV us rs ++ rest) * F)) (fun ⟨i, j⟩ => j - i) ((0, rs.length)) (by ((repeat' (first | exact covers_nil | (refine covers_cons ?_ ?_; focus (first | rfl | (simp [lk, lk?]; done))))) ; (first | done | fail))) (by exact entW_pu ⟨by omega, by omega, fun k r hk => by omega, fun k r hk hr => by have := get_lt hr; omega⟩ entW_fr) ?_
  rintro ⟨i, j⟩ f
  refine CC.pu fun hh => ?_
  obtain ⟨hij, hj, hlo, hhi⟩ := hh
  refine cc_seq ?_
  refine cc_seq ?_
  refine cc_region ?_
  refine rr_move rfl rfl ?_
  refine rr_move rfl rfl ?_
  refine r_int rfl rfl rfl rfl ?_
  refine rr_nil ?_
  refine cc_cond rfl (fun h17 => ?_) (fun h17 => ?_)
  · try simp only [decide_eq_true_eq, decide_eq_false_iff_not, beq_iff_eq, beq_eq_false_iff_ne, bne_iff_ne, bne_eq_false_iff_eq, ne_eq, Bool.not_eq_eq_eq_not, Bool.not_true, Bool.not_false] at h17
    obtain ⟨r, hr⟩ := lt_get (l := rs) (j := (i + j) / 2) (by omega)
    obtain ⟨u, hu, hu1, hcut⟩ := hcell _ r hr
    have hrb := hb r (get_mem hr)
    refine cc_skip ?_
    refine cc_block ?_
    refine cc_seq ?_
    refine cc_region ?_
    refine rr_move rfl rfl ?_
    refine rr_move rfl rfl ?_
    refine r_add rfl rfl rfl (by omega) ?_
    refine r_conv rfl rfl ?_
    rw [show IntKind.wrap .u64 ((i : Int) + (j : Int)) = ((i + j : Nat) : Int) by rw [w_u64]; omega]
    refine r_shr rfl rfl rfl (by omega) ?_
    rw [show Int.fdiv ((i + j : Nat) : Int) (2 ^ (min (Int.toNat 1) (IntKind.bits .u64))) = (((i + j) / 2 : Nat) : Int) by
      rw [show min (Int.toNat 1) (IntKind.bits .u64) = 1 from rfl, Int.fdiv_eq_ediv_of_nonneg _ (by decide)]; omega]
    refine r_conv rfl rfl ?_
    rw [wrap_i64 (by omega)]
    refine rr_assign rfl rfl ?_
    refine rr_nil ?_
    refine cc_seq ?_
    refine cc_region ?_
    refine rr_move rfl rfl ?_
    refine rr_move rfl rfl ?_
    refine rr_move rfl rfl ?_
    refine r_ix rfl rfl rfl (by omega) ?_
    refine r_lda rfl (ls0 rfl) (vs := [i64 r.1, u]) (by rw [show 0 + (((i + j) / 2 : Nat) : Int).toNat * 2 = (i + j) / 2 * 2 by omega]; exact hcut) rfl ?_
    refine rr_move rfl rfl ?_
    refine rr_call rfl rfl rfl rfl (rd1_tr r.1 q u (by omega) (by omega) hq hq2 hu1) inferInstance rfl (sd0 rfl) (fun _ => sd0 rfl) rfl (fun v => ?_)
    first | refine RR.pu2 ?_ | refine RR.pu ?_
    rintro rfl
    refine r_int rfl rfl rfl rfl ?_
    refine rr_nil ?_
    refine cc_cond rfl (fun h31 => ?_) (fun h31 => ?_)
    · try simp only [decide_eq_true_eq, decide_eq_false_iff_not, beq_iff_eq, beq_eq_false_iff_ne, bne_iff_ne, bne_eq_false_iff_eq, ne_eq, Bool.not_eq_eq_eq_not, Bool.not_true, Bool.not_false] at h31
      have hlt : (r.1 : Int) < q := by
        have : posCmp r.1 q < 0 := h31
        simp only [posCmp] at this; split at this
        · omega
        · split at this <;> omega
      refine cc_region ?_
      refine rr_move rfl rfl ?_
      refine r_add rfl rfl rfl (by omega) ?_
      refine rr_assign rfl rfl ?_
      refine rr_nil ?_
      first
      | exact ⟨((i + j) / 2 + 1, j), (by show j - ((i + j) / 2 + 1) < j - i; omega), by ((repeat' (first | exact covers_nil | (refine covers_cons ?_ ?_; focus (first | rfl | (simp [lk, lk?]; done))))) ; (first | done | fail)), entW_pu ⟨by omega, hj, fun k x hk hx => by
          rcases Nat.lt_or_ge k ((i + j) / 2) with h | h
          · have := hmono k _ x r hx hr h; omega
          · obtain rfl : k = (i + j) / 2 := by omega
            rw [hr] at hx; simp only [Option.some.injEq] at hx; subst hx; exact hlt, hhi⟩ entW_fr⟩
      | exact ⟨(i, (i + j) / 2), (by show (i + j) / 2 - i < j - i; omega), by ((repeat' (first | exact covers_nil | (refine covers_cons ?_ ?_; focus (first | rfl | (simp [lk, lk?]; done))))) ; (first | done | fail)), entW_pu ⟨by omega, by omega, hlo, fun k x hk hx => by
          rcases Nat.lt_or_ge ((i + j) / 2) k with h | h
          · have := hmono _ k r x hr hx h; omega
          · obtain rfl : k = (i + j) / 2 := by omega
            rw [hr] at hx; simp only [Option.some.injEq] at hx; subst hx; exact hge⟩ entW_fr⟩
    · try simp only [decide_eq_true_eq, decide_eq_false_iff_not, beq_iff_eq, beq_eq_false_iff_ne, bne_iff_ne, bne_eq_false_iff_eq, ne_eq, Bool.not_eq_eq_eq_not, Bool.not_true, Bool.not_false] at h31
      have hge : q ≤ (r.1 : Int) := by
        have : ¬ posCmp r.1 q < 0 := h31
        simp only [posCmp] at this; split at this <;> omega
      refine cc_region ?_
      refine rr_move rfl rfl ?_
      refine rr_assign rfl rfl ?_
      refine rr_nil ?_
      first
      | exact ⟨((i + j) / 2 + 1, j), (by show j - ((i + j) / 2 + 1) < j - i; omega), by ((repeat' (first | exact covers_nil | (refine covers_cons ?_ ?_; focus (first | rfl | (simp [lk, lk?]; done))))) ; (first | done | fail)), entW_pu ⟨by omega, hj, fun k x hk hx => by
          rcases Nat.lt_or_ge k ((i + j) / 2) with h | h
          · have := hmono k _ x r hx hr h; omega
          · obtain rfl : k = (i + j) / 2 := by omega
            rw [hr] at hx; simp only [Option.some.injEq] at hx; subst hx; exact hlt, hhi⟩ entW_fr⟩
      | exact ⟨(i, (i + j) / 2), (by show (i + j) / 2 - i < j - i; omega), by ((repeat' (first | exact covers_nil | (refine covers_cons ?_ ?_; focus (first | rfl | (simp [lk, lk?]; done))))) ; (first | done | fail)), entW_pu ⟨by omega, by omega, hlo, fun k x hk hx => by
          rcases Nat.lt_or_ge ((i + j) / 2) k with h | h
          · have := hmono _ k r x hr hx h; omega
          · obtain rfl : k = (i + j) / 2 := by omega
            rw [hr] at hx; simp only [Option.some.injEq] at hx; subst hx; exact hge⟩ entW_fr⟩
  · try simp only [decide_eq_true_eq, decide_eq_false_iff_not, beq_iff_eq, beq_eq_false_iff_ne, bne_iff_ne, bne_eq_false_iff_eq, ne_eq, Bool.not_eq_eq_eq_not, Bool.not_true, Bool.not_false] at h17
    obtain rfl : i = j := by omega
    refine cc_exit ?_
    refine cc_seq ?_
    refine cc_region ?_
    refine rr_move rfl rfl ?_
    refine rr_move rfl rfl ?_
    refine rr_move rfl rfl ?_
    refine r_int rfl rfl rfl rfl ?_
    refine rr_move rfl rfl ?_
    refine rr_guard rfl rfl rfl (fun hg8_4 => ?_) (fun hg8_4 => ?_)
    · refine rr_move rfl rfl ?_
      have hil : i < rs.length := by simp at hg8_4; omega
      obtain ⟨r, hr⟩ := lt_get hil
      obtain ⟨u, hu, hu1, hcut⟩ := hcell i r hr
      have hrb := hb r (get_mem hr)
      have hle := hhi i r (Nat.le_refl _) hr
      have hfin : if (posCmp r.1 q == 0) = true then ∃ r, rs[i]? = some r ∧ (r.1 : Int) = q else ∀ r ∈ rs, (r.1 : Int) ≠ q := by
        by_cases he : (r.1 : Int) = q
        · rw [if_pos (by simp [posCmp]; omega)]; exact ⟨r, hr, he⟩
        · rw [if_neg (by simp only [posCmp]; split <;> (try split) <;> simp <;> omega)]
          intro x hx
          obtain ⟨k, hk⟩ := List.getElem?_of_mem hx
          rcases Nat.lt_trichotomy k i with h | h | h
          · have := hlo k x h hk; omega
          · subst h; rw [hr] at hk; simp only [Option.some.injEq] at hk; subst hk; exact he
          · have := hmono i k r x hr hk h; omega
      refine rr_guardY rfl rfl rfl ?_
      refine rr_move rfl rfl ?_
      refine rr_guardY rfl rfl rfl ?_
      refine rr_move rfl rfl ?_
      refine rr_guardY rfl rfl rfl ?_
      refine r_ix rfl rfl rfl (by omega) ?_
      refine rr_guardY rfl rfl rfl ?_
      refine r_lda rfl (ls0 rfl) (vs := [i64 r.1, u]) (by rw [show 0 + (i : Int).toNat * 2 = i * 2 by omega]; exact hcut) rfl ?_
      refine rr_guardY rfl rfl rfl ?_
      refine rr_move rfl rfl ?_
      refine rr_guardY rfl rfl rfl ?_
      refine rr_call rfl rfl rfl rfl (rd1_tr r.1 q u (by omega) (by omega) hq hq2 hu1) inferInstance rfl (sd0 rfl) (fun _ => sd0 rfl) rfl (fun v => ?_)
      first | refine RR.pu2 ?_ | refine RR.pu ?_
      rintro rfl
      refine rr_guardY rfl rfl rfl ?_
      refine r_int rfl rfl rfl rfl ?_
      first | refine rr_pick rfl rfl ?_ | refine rr_pickb rfl rfl rfl rfl ?_
      refine rr_assign rfl rfl ?_
      refine rr_assign rfl rfl ?_
      refine rr_nil ?_
      refine cc_ret ?_
      first
      | exact ⟨_, rfl, entW_ex2 i (entW_ex2 (posCmp r.1 q == 0) (entW_pu2 ⟨rfl, hfin⟩ entW_fr))⟩
      | exact ⟨_, rfl, entW_ex2 i (entW_ex2 false (entW_pu2 ⟨rfl, by
          simp only [Bool.false_eq_true, if_false]
          intro x hx
          obtain ⟨k, hk⟩ := List.getElem?_of_mem hx
          have h2 := get_lt hk
          have h3 : ¬ i < rs.length := by simp at hg8_4; omega
          have := hlo k x (by omega) hk; omega⟩ entW_fr))⟩
    · refine rr_guardN rfl rfl rfl rfl ?_
      refine rr_guardN rfl rfl rfl rfl ?_
      refine rr_guardN rfl rfl rfl rfl ?_
      refine rr_guardN rfl rfl rfl rfl ?_
      refine rr_guardN rfl rfl rfl rfl ?_
      refine rr_guardN rfl rfl rfl rfl ?_
      refine rr_guardN rfl rfl rfl rfl ?_
      first | refine rr_pick rfl rfl ?_ | refine rr_pickb rfl rfl rfl rfl ?_
      refine rr_assign rfl rfl ?_
      refine rr_assign rfl rfl ?_
      refine rr_nil ?_
      refine cc_ret ?_
      first
      | exact ⟨_, rfl, entW_ex2 i (entW_ex2 (posCmp r.1 q == 0) (entW_pu2 ⟨rfl, hfin⟩ entW_fr))⟩
      | exact ⟨_, rfl, entW_ex2 i (entW_ex2 false (entW_pu2 ⟨rfl, by
          simp only [Bool.false_eq_true, if_false]
          intro x hx
          obtain ⟨k, hk⟩ := List.getElem?_of_mem hx
          have h2 := get_lt hk
          have h3 : ¬ i < rs.length := by simp at hg8_4; omega
          have := hlo k x (by omega) hk; omega⟩ entW_fr))⟩
theorem bsearch0_tr (q : Int) : Tr Tryz.prog 191 #[.slice none 0 0, i64 q, .func (.func 192) #[] #[]] 1 (fun v => pu (v = .tuple #[i64 0, .bool false])) := by
  refine tr_body Tryz.func191 (by kernel_rfl) rfl Tryz.ntmps191 rfl (L := [(0, .slice none 0 0), (1, i64 q), (2, .func (.func 192) #[] #[])]) (covers_cons rfl (covers_cons rfl (covers_cons rfl covers_nil))) rfl ?_
  intro F w0 f
  rw [sl_one_mul]
  refine cc_seq ?_
  refine cc_region ?_
  refine rr_assign rfl rfl ?_
  refine rr_assign rfl rfl ?_
  refine rr_nil ?_
  refine cc_seq ?_
  refine cc_region ?_
  refine rr_move rfl rfl ?_
  refine r_lens rfl rfl ?_
  refine rr_assign rfl rfl ?_
  refine rr_nil ?_
  refine cc_seq ?_
  refine cc_region ?_
  refine rr_move rfl rfl ?_
  refine rr_assign rfl rfl ?_
  refine rr_assign rfl rfl ?_
  refine rr_nil ?_
  refine cc_seq ?_
  refine cc_block ?_
  refine cc_loopW (α := Nat) (fun j => [(9, i64 0), (10, i64 0), (8, i64 0)]) (fun j => F) (fun j => j) (0) (by ((repeat' (first | exact covers_nil | (refine covers_cons ?_ ?_; focus (first | rfl | (simp [lk, lk?]; done))))) ; (first | done | fail))) (by exact entW_fr) ?_
  rintro j f
  refine cc_seq ?_
  refine cc_seq ?_
  refine cc_region ?_
  refine rr_move rfl rfl ?_
  refine rr_move rfl rfl ?_
  refine r_int rfl rfl rfl rfl ?_
  refine rr_nil ?_
  refine cc_condF rfl ?_
  refine cc_exit ?_
  refine cc_seq ?_
  refine cc_region ?_
  refine rr_move rfl rfl ?_
  refine rr_move rfl rfl ?_
  refine rr_move rfl rfl ?_
  refine r_int rfl rfl rfl rfl ?_
  refine rr_move rfl rfl ?_
  refine rr_guardN rfl rfl rfl rfl ?_
  refine rr_guardN rfl rfl rfl rfl ?_
  refine rr_guardN rfl rfl rfl rfl ?_
  refine rr_guardN rfl rfl rfl rfl ?_
  refine rr_guardN rfl rfl rfl rfl ?_
  refine rr_guardN rfl rfl rfl rfl ?_
  refine rr_guardN rfl rfl rfl rfl ?_
  refine rr_guardN rfl rfl rfl rfl ?_
  first | refine rr_pick rfl rfl ?_ | refine rr_pickb rfl rfl rfl rfl ?_
  refine rr_assign rfl rfl ?_
  refine rr_assign rfl rfl ?_
  refine rr_nil ?_
  refine cc_ret ?_
  exact ⟨_, rfl, entW_pu rfl entW_fr⟩
/-- records' bodies are slices -/
theorem bodies_one : ∀ {us : List Value} {rs : List (Nat × Txt)} {h : Nat → Option Obj}, bodies us rs h → ∀ u ∈ us, oneC u = true
  | [], [], _, _, u, hu => by simp at hu
  | x :: us, r :: rs, h, hb, u, hu => by
    obtain ⟨h1, h2, _, _, p, q⟩ := hb
    rcases List.mem_cons.1 hu with e | e
    · subst e
      rcases p with ⟨e1, _⟩ | ⟨_, _, _, e1, _⟩ <;> rw [e1] <;> rfl
    · exact bodies_one q u e
  | [], _ :: _, _, hb, _, _ => hb.1.elim
  | _ :: _, [], _, hb, _, _ => hb.1.elim
def readS (pos : Int) (s : Seg) : Option Txt := (s.recs.find? (fun r => (r.1 : Int) == pos)).map (·.2)
def readL (L : LogS) (pos : Int) : Option Txt := L.l.findSome? (readS pos)
/-- positions rise -/
structure SrtOK (L : LogS) : Prop where
  up : ∀ s ∈ L.l, s.recs.Pairwise fun a b => a.1 < b.1
  lt : ∀ s ∈ L.l, ∀ r ∈ s.recs, r.1 < L.next
  ln : ∀ s ∈ L.l, ∀ r ∈ s.recs, r.2.length ≤ 300
theorem readS_some {s : Seg} {pos : Int} {r : Nat × Txt} {i : Nat} (hs : s.recs.Pairwise fun a b => a.1 < b.1) (hr : s.recs[i]? = some r) (he : (r.1 : Int) = pos) : readS pos s = some r.2 := by
  unfold readS
  have : s.recs.find? (fun r => (r.1 : Int) == pos) = some r := by
    rw [List.find?_eq_some_iff_getElem]
    refine ⟨by simp [he], i, get_lt hr, (List.getElem?_eq_some_iff.1 hr).2, fun j hj => ?_⟩
    have h1 := List.pairwise_iff_getElem.1 hs j i (by have := get_lt hr; omega) (get_lt hr) hj
    rw [(List.getElem?_eq_some_iff.1 hr).2] at h1
    simp; omega
  rw [this]; rfl
theorem readS_none {s : Seg} {pos : Int} (h : ∀ r ∈ s.recs, (r.1 : Int) ≠ pos) : readS pos s = none := by
  unfold readS
  rw [List.find?_eq_none.2 (fun r hr => by simpa using h r hr)]; rfl
theorem findSome_skip {α β : Type} (g : α → Option β) : ∀ {l : List α} {j : Nat}, (∀ (i : Nat) (x : α), i < j → l[i]? = some x → g x = none) → l.findSome? g = (l.drop j).findSome? g
  | [], j, _ => by simp
  | x :: l, 0, _ => rfl
  | x :: l, j + 1, h => by
    have h0 := h 0 x (by omega) rfl
    simp only [List.findSome?_cons, h0, List.drop_succ_cons]
    exact findSome_skip g fun i y hi hy => h (i + 1) y (by omega) hy
theorem bodies_split : ∀ {us : List Value} {rs : List (Nat × Txt)} {i : Nat} {u : Value} {r : Nat × Txt}, us[i]? = some u → rs[i]? = some r → us.length = rs.length → ∃ R, bodies us rs = slR u 5 1 r.2.length (bv r.2) * R
  | x :: us, y :: rs, 0, u, r, h1, h2, _ => by
    simp only [List.getElem?_cons_zero, Option.some.injEq] at h1 h2
    subst h1 h2
    exact ⟨_, rfl⟩
  | x :: us, y :: rs, i + 1, u, r, h1, h2, hl => by
    simp only [List.getElem?_cons_succ] at h1 h2
    obtain ⟨R, hR⟩ := bodies_split h1 h2 (by simpa using hl)
    refine ⟨slR x 5 1 y.2.length (bv y.2) * R, ?_⟩
    simp only [bodies, hR]
    rw [← sl_assoc, sl_comm (slR x _ _ _ _), sl_assoc]
  | [], _, _, _, _, h1, _, _ => by simp at h1
  | _ :: _, [], _, _, _, _, h2, _ => by simp at h2
theorem bsearchS_tr (v : Value) (us : List Value) (rs : List (Nat × Txt)) (q : Int) (hus : us.length = rs.length) (hl : rs.length ≤ 2 ^ 40) (hs : rs.Pairwise fun a b => a.1 < b.1) (hb : ∀ r ∈ rs, r.1 ≤ 2 ^ 50) (hq : -(2 ^ 60) ≤ q) (hq2 : q ≤ 2 ^ 60) :
    Tr Tryz.prog 191 #[v, i64 q, .func (.func 192) #[] #[]] (slR v 241 2 rs.length (recV us rs) * bodies us rs)
      (fun w => ex fun i : Nat => ex fun t : Bool => pu (w = .tuple #[i64 i, .bool t] ∧ (if t then ∃ r, rs[i]? = some r ∧ (r.1 : Int) = q else ∀ r ∈ rs, (r.1 : Int) ≠ q)) * (slR v 241 2 rs.length (recV us rs) * bodies us rs)) := by
  refine tr_fact (φ := ∀ u ∈ us, oneC u = true) (by kernel_rfl) (fun h hh => by obtain ⟨_, _, _, _, _, p⟩ := hh; exact bodies_one p) fun hone => ?_
  refine tr_slo (by kernel_rfl) (fun e1 e2 e3 => ?_) (fun b cap rest e1 e2 e3 => ?_)
  · subst e1
    have hrs : rs = [] := List.length_eq_zero_iff.1 e2
    subst hrs
    have := tr_frame (bodies us []) (bsearch0_tr q)
    rw [sl_one_mul] at this
    refine tr_ent this (fun F => EntW.refl _) fun v F w s => ?_
    obtain ⟨hv, s⟩ := sat_pu.1 (s.eq (sl_assoc _ _ _))
    refine sat_ex_mul.2 ⟨(0 : Nat), sat_ex_mul.2 ⟨false, Sat.pu2 ?_ ⟨hv, by simp⟩⟩⟩
    rw [e3]
    exact ((entW_ent (ent_nil 241 2)).trans entW_fr) w s
  · subst e1
    refine tr_ent (tr_frame (bodies us rs) (bsearch_tr b cap rest us rs q hus hone hl hs hb hq hq2)) (fun F => EntW.refl _) fun v F w s => ?_
    rw [sl_assoc] at s
    obtain ⟨i, s⟩ := sat_ex_mul.1 s
    obtain ⟨t, s⟩ := sat_ex_mul.1 s
    obtain ⟨hv, s⟩ := sat_pu2.1 s
    refine sat_ex_mul.2 ⟨i, sat_ex_mul.2 ⟨t, Sat.pu2 ?_ hv⟩⟩
    exact ((entW_ent (ent_pick (X := bl b 241 (recV us rs ++ rest)) (slR_blk (cap := cap) e2 e3))).trans entW_fr) w s
theorem seg_close {gs : List (Nat × Seg)} {j : Nat} {x : Nat × Seg} (hx : gs[j]? = some x) {us : List Value} (hus : us.length = x.2.recs.length) (b2 r2 : Value) :
    Ent (segsR (gs.take j) * (segB x.1 x.2 b2 r2 * (slR b2 5 1 x.2.buf.length (bv x.2.buf) * (slR r2 241 2 x.2.recs.length (recV us x.2.recs) * bodies us x.2.recs)) * segsR (gs.drop (j + 1)))) (segsR gs) := by
  rw [segsR_split hx]
  refine fun h => star_mono (fun _ y => y) fun h => star_mono (fun h y => ?_) fun _ y => y
  exact segR_mk x.1 x.2 b2 r2 h (star_mono (fun _ y => y) (fun h => star_mono (fun _ y => y) fun h y => recsR_mk r2 us x.2.recs hus h y) y)
theorem lrd_tr (l d n k : Nat) (pos : Int) (L : LogS) (h : LogOK L n k) (hs : SrtOK L) (hk : k ≤ 2 ^ 30) (hp : -(2 ^ 60) ≤ pos) (hp2 : pos ≤ 2 ^ 60) : Tr Tryz.prog 166 #[ptr l, i64 pos] (logR l d L)
    (fun v => ex fun u => pu (v = .tuple #[u, i64 (if (readL L pos).isSome then 0 else 9)]) * (slR u 5 1 ((readL L pos).getD []).length (bv ((readL L pos).getD [])) * logR l d L)) := by
  refine tr_body Tryz.func166 (by kernel_rfl) rfl Tryz.ntmps166 rfl (L := [(0, ptr l), (1, i64 pos)]) (covers_cons rfl (covers_cons rfl covers_nil)) rfl ?_
  intro F w0 f
  have hlk := h.len
  have hnx := h.nx
  refine CC.opn (logR l d L) rfl fun lv => ?_
  refine CC.ex1 fun gs => ?_
  refine CC.pu3 fun hgs => ?_
  refine CC.slv lv fun bb bc hlv _ => ?_
  subst hlv
  have hgl : gs.length = L.l.length := by rw [← hgs]; simp
  have hmem : ∀ x ∈ gs, x.2 ∈ L.l := fun x hx => by rw [← hgs]; exact List.mem_map_of_mem hx
  have hRL : readL L pos = gs.findSome? (fun x => readS pos x.2) := by simp only [readL, ← hgs, List.findSome?_map]; rfl
  refine cc_seq ?_
  refine cc_region ?_
  refine rr_assign rfl rfl ?_
  refine rr_assign rfl rfl ?_
  refine rr_nil ?_
  refine cc_seq ?_
  refine cc_seq ?_
  refine cc_region ?_
  refine rr_move rfl rfl ?_
  refine r_pnil rfl rfl rfl ?_
  refine rr_nil ?_
  refine cc_condF rfl ?_
  refine cc_skip ?_
  refine cc_seq ?_
  refine cc_seq ?_
  refine cc_region ?_
  refine rr_move rfl rfl ?_
  refine rr_nilCheck rfl rfl ?_
  refine r_fa rfl rfl ?_
  refine r_ld rfl (ls0 rfl) rfl rfl ?_
  refine r_lens rfl rfl ?_
  refine rr_move rfl rfl ?_
  refine rr_nil ?_
  refine cc_block ?_
  refine cc_loopW (α := Nat) (fun j => [(17, i64 j), (16, i64 gs.length), (15, .slice bb gs.length bc), (0, ptr l), (1, i64 pos)]) (fun j => pu (j ≤ gs.length ∧ ∀ (i : Nat) (x : Nat × Seg), i < j → gs[i]? = some x → readS pos x.2 = none) * (logB l d L (.slice bb gs.length bc) * (slR (.slice bb gs.length bc) 234 1 gs.length (gs.flatMap fun x => [ptr x.1]) * segsR gs) * F)) (fun j => gs.length - j) (0) (by ((repeat' (first | exact covers_nil | (refine covers_cons ?_ ?_; focus (first | rfl | (simp [lk, lk?]; done))))) ; (first | done | fail))) (by exact entW_pu ⟨by omega, fun i x hi => by omega⟩ entW_fr) ?_
  rintro j f
  refine CC.pu fun hj => ?_
  refine cc_seq ?_
  refine cc_region ?_
  refine r_int rfl rfl rfl rfl ?_
  refine rr_nil ?_
  refine cc_seq ?_
  refine cc_cond rfl (fun h18 => ?_) (fun h18 => ?_)
  · try simp only [decide_eq_true_eq, decide_eq_false_iff_not, beq_iff_eq, beq_eq_false_iff_ne, bne_iff_ne, bne_eq_false_iff_eq, ne_eq, Bool.not_eq_eq_eq_not, Bool.not_true, Bool.not_false] at h18
    obtain ⟨x, hx⟩ := lt_get (l := gs) (j := j) (by omega)
    have hxm := hmem x (get_mem hx)
    have hup := hs.up _ hxm
    have hlt := hs.lt _ hxm
    have hrk := h.recs _ hxm
    refine CC.cl (X := segsR gs) (Ent.of_eq (segsR_split hx)) ?_
    refine CC.opn (segR x.1 x.2) rfl fun b2 => ?_
    refine CC.ex1 fun r2 => ?_
    refine CC.opn (recsR r2 x.2.recs) rfl fun us => ?_
    refine CC.pu3 fun hus => ?_
    refine CC.slv r2 fun rb rc hr2 _ => ?_
    subst hr2
    refine CC.slb (.slice bb gs.length bc) (by omega) fun lb lc lrest e1 e2 e3 => ?_
    simp only [Value.slice.injEq] at e1
    obtain ⟨hbb, _, hbc⟩ := e1
    subst hbc
    refine cc_skip ?_
    refine cc_seq ?_
    refine cc_block ?_
    refine cc_seq ?_
    refine cc_region ?_
    rw [hbb]; refine r_ix rfl rfl rfl ⟨by omega, by omega⟩ ?_
    refine r_ld rfl (ls0 rfl) (v := ptr x.1) (by
      have := nth_fm (g := fun x : Nat × Seg => [ptr x.1]) (w := 1) (fun _ _ => rfl) hx (j := 0) rfl lrest
      rw [show 0 + (j : Int).toNat * 1 = j * 1 + 0 by omega]; exact this) rfl ?_
    refine rr_assign rfl rfl ?_
    refine rr_nil ?_
    refine cc_seq ?_
    refine cc_region ?_
    refine rr_move rfl rfl ?_
    refine rr_nilCheck rfl rfl ?_
    refine r_fa rfl rfl ?_
    refine r_ld rfl (ls0 rfl) rfl rfl ?_
    refine rr_move rfl rfl ?_
    refine rr_call rfl rfl rfl rfl (bsearchS_tr (.slice rb x.2.recs.length rc) us x.2.recs pos hus (by omega) hup (fun r hr => by have := hlt r hr; omega) hp hp2) inferInstance rfl (sd0 rfl) (fun _ => sd0 rfl) rfl (fun v => ?_)
    refine RR.ex1 fun i => ?_
    refine RR.ex1 fun t => ?_
    refine RR.pu2 ?_
    rintro ⟨rfl, ht⟩
    refine rr_move rfl rfl ?_
    refine rr_extract rfl rfl rfl ?_
    refine rr_extract rfl rfl rfl ?_
    refine rr_assign rfl rfl ?_
    refine rr_assign rfl rfl ?_
    refine rr_nil ?_
    refine cc_seq ?_
    refine cc_region ?_
    refine rr_move rfl rfl ?_
    refine rr_nil ?_
    refine cc_cond rfl (fun h30 => ?_) (fun h30 => ?_)
    · try simp only [decide_eq_true_eq, decide_eq_false_iff_not, beq_iff_eq, beq_eq_false_iff_ne, bne_iff_ne, bne_eq_false_iff_eq, ne_eq, Bool.not_eq_eq_eq_not, Bool.not_true, Bool.not_false] at h30
      simp only [h30, if_true] at ht
      obtain ⟨r, hr, hrq⟩ := ht
      have hrd : readL L pos = some r.2 := by
        rw [hRL, findSome_skip _ hj.2, drop_cons_get hx]
        simp only [List.findSome?_cons, readS_some hup hr hrq]
      obtain ⟨u, hu⟩ := lt_get (l := us) (j := i) (by have := get_lt hr; omega)
      have hir := get_lt hr
      have hrl := hs.ln _ hxm r (get_mem hr)
      obtain ⟨R, hR⟩ := bodies_split hu hr hus
      refine CC.cl (X := bodies us x.2.recs) (Ent.of_eq hR) ?_
      refine CC.slb (.slice rb x.2.recs.length rc) (by omega) fun pb pc prest f1 f2 f3 => ?_
      simp only [Value.slice.injEq] at f1
      obtain ⟨hrb, _, hrc⟩ := f1
      subst hrc
      rw [hrb]
      refine cc_seq ?_
      refine cc_region ?_
      refine rr_move rfl rfl ?_
      refine rr_nilCheck rfl rfl ?_
      refine r_fa rfl rfl ?_
      refine r_ld rfl (ls0 rfl) rfl rfl ?_
      refine rr_move rfl rfl ?_
      refine r_ix rfl rfl rfl (by omega) ?_
      refine r_fa rfl rfl ?_
      refine r_ld rfl (ls0 rfl) (v := u) (by
        have hz : (us.zip x.2.recs)[i]? = some (u, r) := by rw [List.getElem?_zip_eq_some]; exact ⟨hu, hr⟩
        have := nth_fm (g := fun x : Value × (Nat × Txt) => [i64 x.2.1, x.1]) (w := 2) (fun _ _ => rfl) hz (j := 1) (v := u) rfl prest
        rw [show 0 + (i : Int).toNat * 2 + 1 = i * 2 + 1 by omega]; simpa [recV] using this) rfl ?_
      refine rr_call rfl rfl rfl rfl (cloneS_tr u r.2.length r.2 rfl (by omega)) inferInstance rfl (sd0 rfl) (fun _ => sd0 rfl) rfl (fun v => ?_)
      refine rr_assign rfl rfl ?_
      refine rr_assign rfl rfl ?_
      refine rr_nil ?_
      refine cc_ret ?_
      first
      | (refine ⟨_, rfl, entW_ex2 (.slice none 0 0) (entW_pu2 (by rw [hrd]; rfl) ?_)⟩
         rw [hrd]
         simp only [Option.getD_none]
         refine EntW.trans (entW_ent (ent_nilB 5)) ?_
         refine entW_cls (logR l d L) (logB l d L (.slice bb gs.length bc) * (slR (.slice bb gs.length bc) 234 1 gs.length (gs.flatMap fun x => [ptr x.1]) * segsR gs)) (logR_mk l d L _ gs hgs) ?_
         exact entW_fr)
      | (refine ⟨_, rfl, entW_ex2 v (entW_pu2 (by rw [hrd]; rfl) ?_)⟩
         rw [hrd]
         simp only [Option.getD_some]
         refine EntW.trans (entW_ent (ent_pick (X := bl lb 234 ((gs.flatMap fun x => [ptr x.1]) ++ lrest)) (slR_blk (cap := bc) e2 e3))) ?_
         refine EntW.trans (entW_ent (ent_pick (X := bl pb 241 (recV us x.2.recs ++ prest)) (slR_blk (cap := rc) f2 f3))) ?_
         rw [← hbb, ← hrb]
         refine entW_cls (bodies us x.2.recs) (slR u 5 1 r.2.length (bv r.2) * R) (Ent.of_eq hR.symm) ?_
         refine entW_cls (segsR gs) (segsR (gs.take j) * (segB x.1 x.2 b2 (.slice rb x.2.recs.length rc) * (slR b2 5 1 x.2.buf.length (bv x.2.buf) * (slR (.slice rb x.2.recs.length rc) 241 2 x.2.recs.length (recV us x.2.recs) * bodies us x.2.recs)) * segsR (gs.drop (j + 1)))) (seg_close hx hus b2 (.slice rb x.2.recs.length rc)) ?_
         refine entW_cls (logR l d L) (logB l d L (.slice bb gs.length bc) * (slR (.slice bb gs.length bc) 234 1 gs.length (gs.flatMap fun x => [ptr x.1]) * segsR gs)) (logR_mk l d L _ gs hgs) ?_
         exact entW_fr)
    · try simp only [decide_eq_true_eq, decide_eq_false_iff_not, beq_iff_eq, beq_eq_false_iff_ne, bne_iff_ne, bne_eq_false_iff_eq, ne_eq, Bool.not_eq_eq_eq_not, Bool.not_true, Bool.not_false] at h30
      simp only [h30, Bool.false_eq_true, if_false] at ht
      refine cc_skip ?_
      refine cc_region ?_
      refine r_add rfl rfl rfl (by omega) ?_
      refine rr_move rfl rfl ?_
      refine rr_nil ?_
      refine ⟨j + 1, by omega, by rw [← hbb]; ((repeat' (first | exact covers_nil | (refine covers_cons ?_ ?_; focus (first | rfl | (simp [lk, lk?]; done))))) ; (first | done | fail)), entW_pu ⟨by omega, fun i y hi hy => by
        by_cases e : i = j
        · subst e; rw [hx] at hy; simp only [Option.some.injEq] at hy; subst hy; exact readS_none ht
        · exact hj.2 i y (by omega) hy⟩ ?_⟩
      refine EntW.trans (entW_ent (ent_pick (X := bl lb 234 ((gs.flatMap fun x => [ptr x.1]) ++ lrest)) (slR_blk (cap := bc) e2 e3))) ?_
      rw [← hbb]
      refine entW_cls (segsR gs) (segsR (gs.take j) * (segB x.1 x.2 b2 (.slice rb x.2.recs.length rc) * (slR b2 5 1 x.2.buf.length (bv x.2.buf) * (slR (.slice rb x.2.recs.length rc) 241 2 x.2.recs.length (recV us x.2.recs) * bodies us x.2.recs)) * segsR (gs.drop (j + 1)))) (seg_close hx hus b2 (.slice rb x.2.recs.length rc)) ?_
      exact entW_fr
  · try simp only [decide_eq_true_eq, decide_eq_false_iff_not, beq_iff_eq, beq_eq_false_iff_ne, bne_iff_ne, bne_eq_false_iff_eq, ne_eq, Bool.not_eq_eq_eq_not, Bool.not_true, Bool.not_false] at h18
    have hrd : readL L pos = none := by rw [hRL, findSome_skip _ hj.2, List.drop_of_length_le (by omega)]; rfl
    refine cc_exit ?_
    refine cc_seq ?_
    refine cc_region ?_
    refine rr_assign rfl rfl ?_
    refine rr_assign rfl rfl ?_
    refine rr_nil ?_
    refine cc_ret ?_
    first
    | (refine ⟨_, rfl, entW_ex2 (.slice none 0 0) (entW_pu2 (by rw [hrd]; rfl) ?_)⟩
       rw [hrd]
       simp only [Option.getD_none]
       refine EntW.trans (entW_ent (ent_nilB 5)) ?_
       refine entW_cls (logR l d L) (logB l d L (.slice bb gs.length bc) * (slR (.slice bb gs.length bc) 234 1 gs.length (gs.flatMap fun x => [ptr x.1]) * segsR gs)) (logR_mk l d L _ gs hgs) ?_
       exact entW_fr)
    | (refine ⟨_, rfl, entW_ex2 v (entW_pu2 (by rw [hrd]; rfl) ?_)⟩
       rw [hrd]
       simp only [Option.getD_some]
       refine EntW.trans (entW_ent (ent_pick (X := bl lb 234 ((gs.flatMap fun x => [ptr x.1]) ++ lrest)) (slR_blk (cap := bc) e2 e3))) ?_
       refine EntW.trans (entW_ent (ent_pick (X := bl pb 241 (recV us x.2.recs ++ prest)) (slR_blk (cap := rc) f2 f3))) ?_
       rw [← hbb, ← hrb]
       refine entW_cls (bodies us x.2.recs) (slR u 5 1 r.2.length (bv r.2) * R) (Ent.of_eq hR.symm) ?_
       refine entW_cls (segsR gs) (segsR (gs.take j) * (segB x.1 x.2 b2 (.slice rb x.2.recs.length rc) * (slR b2 5 1 x.2.buf.length (bv x.2.buf) * (slR (.slice rb x.2.recs.length rc) 241 2 x.2.recs.length (recV us x.2.recs) * bodies us x.2.recs)) * segsR (gs.drop (j + 1)))) (seg_close hx hus b2 (.slice rb x.2.recs.length rc)) ?_
       refine entW_cls (logR l d L) (logB l d L (.slice bb gs.length bc) * (slR (.slice bb gs.length bc) 234 1 gs.length (gs.flatMap fun x => [ptr x.1]) * segsR gs)) (logR_mk l d L _ gs hgs) ?_
       exact entW_fr)
end Go.Proofs.YtoiakcgdkegncaaGreat

namespace Go.Proofs.YtoiakcgdkegncaaGreat
open Go.RowKit Ice
attribute [local irreducible] CC RR Tr crcL be supSec supW supMake secBytes segW devW getB
theorem z64 (rest : List Value) {o m j : Nat} (h : o + m ≤ 64) (hj : j < m) : nth (bv (zeros 64) ++ rest) (o + j) = nth (bv (zeros m)) j := by
  rw [nth_eq, nth_eq, List.getElem?_append_left (by simp [zeros]; omega)]
  simp only [bv, zeros, List.map_replicate, List.getElem?_replicate]
  rw [if_pos (by omega), if_pos hj]
theorem getz4 : (((getB (zeros 4)).toNat : Nat) : Int) = 0 := by decide +kernel
theorem getz6 : (((getB (zeros 6)).toNat : Nat) : Int) = 0 := by decide +kernel
theorem crcz : ((((crcL (zeros 60)).toUInt64.toNat : Nat) : Int) != 0) = true := by decide +kernel
/-- the first sector of an empty segment is none -/
theorem ltake0_tr (g x cap : Nat) (rest : List Value) (hcap : (bv (zeros 64) ++ rest).length = cap) : Tr Tryz.prog 196 #[ptr g, i64 0, .slice (some ⟨x, 0, none⟩) 64 cap] (bl g 233 [i64 0, i64 0, i64 0, .slice none 0 0, .slice none 0 0] * bl x 5 (bv (zeros 64) ++ rest))
    (fun v => pu (v = .bool false) * (bl g 233 [i64 0, i64 0, i64 0, .slice none 0 0, .slice none 0 0] * bl x 5 (bv (zeros 64) ++ rest))) := by
  have hc2 : 64 ≤ cap := by rw [← hcap]; simp [zeros]
  refine tr_body Tryz.func196 (by kernel_rfl) rfl Tryz.ntmps196 rfl (L := [(0, ptr g), (1, i64 0), (2, .slice (some ⟨x, 0, none⟩) 64 cap)]) (covers_cons rfl (covers_cons rfl (covers_cons rfl covers_nil))) rfl ?_
  intro F w0 f
  refine cc_seq ?_
  refine cc_region ?_
  refine rr_assign rfl rfl ?_
  refine rr_nil ?_
  refine cc_seq ?_
  refine cc_region ?_
  refine rr_move rfl rfl ?_
  refine r_sls (lo := 16) rfl ⟨_, rfl⟩ rfl rfl (by omega) (by omega) (by omega) ?_
  rw [if_neg (by omega)]
  refine rr_assign rfl rfl ?_
  refine rr_nil ?_
  refine cc_seq ?_
  refine cc_seq ?_
  refine cc_region ?_
  refine rr_move rfl rfl ?_
  refine r_int rfl rfl rfl rfl ?_
  refine rr_nil ?_
  refine cc_condT rfl ?_
  refine cc_seq ?_
  refine cc_draw (1) [] [] mixed (by decide +kernel) ?_
  refine rr_move rfl rfl ?_
  refine rr_move rfl rfl ?_
  refine rr_move rfl rfl ?_
  refine r_sls (lo := 4) (hi := 10) rfl (by first | rfl | exact ⟨_, rfl⟩) (by first | rfl | exact ⟨_, rfl⟩) rfl (by omega) (by omega) (by omega) ?_
  rw [if_neg (by omega)]
  refine rr_call rfl rfl rfl rfl (lget_tr x 4 6 (cap - 4) 5 (bv (zeros 64) ++ rest) (zeros 6) rfl (by omega) (fun j hj => z64 rest (by omega) hj)) inferInstance rfl (sd0 rfl) (fun _ => sd0 rfl) rfl (fun v => ?_)
  first | refine RR.pu2 ?_ | refine RR.pu ?_
  rintro rfl
  refine r_conv rfl rfl ?_
  rw [getz6, show IntKind.wrap .i64 0 = 0 from rfl]
  refine rr_move rfl rfl ?_
  refine r_sls (hi := 6) rfl (by first | rfl | exact ⟨_, rfl⟩) (by first | rfl | exact ⟨_, rfl⟩) rfl (by omega) (by omega) (by omega) ?_
  rw [if_neg (by omega)]
  refine rr_call rfl rfl rfl rfl (lget_tr x 16 6 (cap - 16) 5 (bv (zeros 64) ++ rest) (zeros 6) rfl (by omega) (fun j hj => z64 rest (by omega) hj)) inferInstance rfl (sd0 rfl) (fun _ => sd0 rfl) rfl (fun v => ?_)
  first | refine RR.pu2 ?_ | refine RR.pu ?_
  rintro rfl
  refine r_conv rfl rfl ?_
  rw [getz6, show IntKind.wrap .i64 0 = 0 from rfl]
  refine rr_nilCheck rfl rfl ?_
  refine r_fa rfl rfl ?_
  refine r_st rfl rfl rfl rfl (sd0 rfl) (sd0 rfl) ?_
  refine rr_nilCheck rfl rfl ?_
  refine r_fa rfl rfl ?_
  refine r_st rfl rfl rfl rfl (sd0 rfl) (sd0 rfl) ?_
  refine rr_nil ?_
  refine cc_region ?_
  refine rr_move rfl rfl ?_
  refine r_sls (lo := 6) rfl (by first | rfl | exact ⟨_, rfl⟩) (by first | rfl | exact ⟨_, rfl⟩) rfl (by omega) (by omega) (by omega) ?_
  rw [if_neg (by omega)]
  refine rr_assign rfl rfl ?_
  refine rr_nil ?_
  refine cc_seq ?_
  refine cc_region ?_
  refine rr_move rfl rfl ?_
  refine r_sls (lo := 10) (hi := 14) rfl (by first | rfl | exact ⟨_, rfl⟩) (by first | rfl | exact ⟨_, rfl⟩) rfl (by omega) (by omega) (by omega) ?_
  rw [if_neg (by omega)]
  refine rr_call rfl rfl rfl rfl (lget_tr x 10 4 (cap - 10) 5 (bv (zeros 64) ++ rest) (zeros 4) rfl (by omega) (fun j hj => z64 rest (by omega) hj)) inferInstance rfl (sd0 rfl) (fun _ => sd0 rfl) rfl (fun v => ?_)
  first | refine RR.pu2 ?_ | refine RR.pu ?_
  rintro rfl
  refine r_conv rfl rfl ?_
  refine rr_assign rfl rfl ?_
  refine rr_nil ?_
  refine cc_seq ?_
  refine cc_seq ?_
  refine cc_draw (1) [17, 49] [12, 52] mixed (by decide +kernel) ?_
  refine rr_move rfl rfl ?_
  refine r_sls (lo := 4) rfl (by first | rfl | exact ⟨_, rfl⟩) (by first | rfl | exact ⟨_, rfl⟩) rfl (by omega) (by omega) (by omega) ?_
  rw [if_neg (by omega)]
  refine r_bsl (cs := [vS x 4 60 (cap - 4)]) rfl rfl rfl rfl rfl rfl (by first | exact sd0 rfl | exact sd1 rfl) (fun _ => by first | exact sd0 rfl | exact sd1 rfl) (fun p => ?_)
  refine rr_call rfl rfl rfl rfl (sum_tr x p 4 60 (cap - 4) 1 5 (bv (zeros 64) ++ rest) (zeros 60) rfl (by omega) (fun j hj => z64 rest (by omega) hj)) inferInstance rfl (sd0 rfl) (fun _ => sd0 rfl) rfl (fun v => ?_)
  first | refine RR.pu2 ?_ | refine RR.pu ?_
  rintro rfl
  refine r_conv rfl rfl ?_
  rw [ku32_u64]
  refine rr_move rfl rfl ?_
  refine r_sls (hi := 4) rfl (by first | rfl | exact ⟨_, rfl⟩) (by first | rfl | exact ⟨_, rfl⟩) rfl (by omega) (by omega) (by omega) ?_
  rw [if_neg (by omega)]
  refine rr_call rfl rfl rfl rfl (lget_tr x 0 4 cap 5 (bv (zeros 64) ++ rest) (zeros 4) rfl (by omega) (fun j hj => z64 rest (by omega) hj)) inferInstance rfl (sd0 rfl) (fun _ => sd0 rfl) rfl (fun v => ?_)
  first | refine RR.pu2 ?_ | refine RR.pu ?_
  rintro rfl
  refine r_int rfl rfl rfl rfl ?_
  rw [getz4, crcz]
  refine rr_move rfl rfl ?_
  refine rr_guardN rfl rfl rfl rfl ?_
  refine rr_guardN rfl rfl rfl rfl ?_
  refine rr_guardN rfl rfl rfl rfl ?_
  refine rr_guardN rfl rfl rfl rfl ?_
  refine rr_guardN rfl rfl rfl rfl ?_
  refine rr_guardN rfl rfl rfl rfl ?_
  refine rr_guardN rfl rfl rfl rfl ?_
  refine rr_guardN rfl rfl rfl rfl ?_
  refine rr_guardN rfl rfl rfl rfl ?_
  first | refine rr_pick rfl rfl ?_ | refine rr_pickb rfl rfl rfl rfl ?_
  refine rr_move rfl rfl ?_
  refine rr_guardN rfl rfl rfl rfl ?_
  refine rr_guardN rfl rfl rfl rfl ?_
  refine rr_guardN rfl rfl rfl rfl ?_
  refine rr_guardN rfl rfl rfl rfl ?_
  refine rr_guardN rfl rfl rfl rfl ?_
  refine rr_guardN rfl rfl rfl rfl ?_
  first | refine rr_pick rfl rfl ?_ | refine rr_pickb rfl rfl rfl rfl ?_
  refine rr_move rfl rfl ?_
  refine rr_guardN rfl rfl rfl rfl ?_
  refine rr_guardN rfl rfl rfl rfl ?_
  refine rr_guardN rfl rfl rfl rfl ?_
  refine rr_guardN rfl rfl rfl rfl ?_
  refine rr_guardN rfl rfl rfl rfl ?_
  refine rr_guardN rfl rfl rfl rfl ?_
  first | refine rr_pick rfl rfl ?_ | refine rr_pickb rfl rfl rfl rfl ?_
  refine rr_move rfl rfl ?_
  refine rr_guardN rfl rfl rfl rfl ?_
  refine rr_guardN rfl rfl rfl rfl ?_
  refine rr_guardN rfl rfl rfl rfl ?_
  refine rr_guardN rfl rfl rfl rfl ?_
  refine rr_guardN rfl rfl rfl rfl ?_
  refine rr_guardN rfl rfl rfl rfl ?_
  refine rr_guardN rfl rfl rfl rfl ?_
  first | refine rr_pick rfl rfl ?_ | refine rr_pickb rfl rfl rfl rfl ?_
  refine rr_move rfl rfl ?_
  refine rr_guardN rfl rfl rfl rfl ?_
  refine rr_guardN rfl rfl rfl rfl ?_
  refine rr_guardN rfl rfl rfl rfl ?_
  refine rr_guardN rfl rfl rfl rfl ?_
  refine rr_guardN rfl rfl rfl rfl ?_
  refine rr_guardN rfl rfl rfl rfl ?_
  refine rr_guardN rfl rfl rfl rfl ?_
  refine rr_guardN rfl rfl rfl rfl ?_
  first | refine rr_pick rfl rfl ?_ | refine rr_pickb rfl rfl rfl rfl ?_
  refine rr_nil ?_
  refine cc_condT rfl ?_
  refine cc_seq ?_
  refine cc_region ?_
  refine rr_assign rfl rfl ?_
  refine rr_nil ?_
  refine cc_ret ?_
  exact ⟨_, rfl, entW_pu2 rfl entW_fr⟩
/-- nothing was written there -/
def zeroReg (D : DevS) (a n : Nat) : Prop := ∀ i, i < n → ∃ s, D[a + i]? = some s ∧ s.now = zeros 64
theorem lread0_tr (l d k : Nat) (L : LogS) (lv : Value) (D : DevS) (hr : 1 ≤ L.run) (hr2 : L.run ≤ 2 ^ 40) (hf : L.from_ ≤ 2 ^ 20) (hk : k ≤ 2 ^ 20) (hz : ∀ i, i < 8 → ∃ s, D[L.from_ + k * 8 + i]? = some s ∧ s.now = zeros 64) :
    Tr Tryz.prog 172 #[ptr l, i64 k] (logB l d L lv * devR d D) (fun v => pu (v = .pointer none) * (logB l d L lv * devR d D)) := by
  refine tr_body Tryz.func172 (by kernel_rfl) rfl Tryz.ntmps172 rfl (L := [(0, ptr l), (1, i64 k)]) (covers_cons rfl (covers_cons rfl covers_nil)) rfl ?_
  intro F w0 f
  refine cc_seq ?_
  refine cc_region ?_
  refine rr_assign rfl rfl ?_
  refine rr_nil ?_
  refine cc_seq ?_
  refine cc_region ?_
  refine r_bld rfl rfl rfl ?_
  refine r_boxa rfl rfl (sd0 rfl) (fun _ => sd0 rfl) (fun p1_1 => ?_)
  refine rr_assign rfl rfl ?_
  refine rr_nil ?_
  refine cc_seq ?_
  refine cc_region ?_
  refine rr_assign rfl rfl ?_
  refine rr_nil ?_
  refine cc_seq ?_
  refine cc_seq ?_
  refine cc_region ?_
  refine rr_move rfl rfl ?_
  refine rr_nil ?_
  refine cc_block ?_
  refine cc_loopW (α := Nat) (fun j => [(12, i64 j), (6, .bool (j == 0)), (5, ptr p1_1), (0, ptr l), (1, i64 k), (4, .pointer none)]) (fun j => pu (j ≤ 8) * (logB l d L lv * (bl p1_1 233 [i64 0, i64 0, i64 0, .slice none 0 0, .slice none 0 0] * (devR d D * F)))) (fun j => 8 - j) (0) (by ((repeat' (first | exact covers_nil | (refine covers_cons ?_ ?_; focus (first | rfl | (simp [lk, lk?]; done))))) ; (first | done | fail))) (by exact entW_pu (by omega) entW_fr) ?_
  rintro j f
  refine CC.pu fun hj => ?_
  refine cc_seq ?_
  refine cc_region ?_
  refine r_int rfl rfl rfl rfl ?_
  refine rr_nil ?_
  refine cc_seq ?_
  refine cc_cond rfl (fun h13 => ?_) (fun h13 => ?_)
  · try simp only [decide_eq_true_eq, decide_eq_false_iff_not, beq_iff_eq, beq_eq_false_iff_ne, bne_iff_ne, bne_eq_false_iff_eq, ne_eq, Bool.not_eq_eq_eq_not, Bool.not_true, Bool.not_false] at h13
    obtain ⟨s, hs, hnow⟩ := hz j (by omega)
    refine cc_skip ?_
    refine cc_seq ?_
    refine cc_block ?_
    refine cc_seq ?_
    refine cc_region ?_
    refine rr_move rfl rfl ?_
    refine rr_assign rfl rfl ?_
    refine rr_nil ?_
    refine cc_seq ?_
    refine cc_draw (1) [] [] mixed (by decide +kernel) ?_
    refine rr_move rfl rfl ?_
    refine rr_nilCheck rfl rfl ?_
    refine r_fa rfl rfl ?_
    refine r_ld rfl (ls0 rfl) rfl rfl ?_
    refine rr_move rfl rfl ?_
    refine rr_nilCheck rfl rfl ?_
    refine r_fa rfl rfl ?_
    refine r_ld rfl (ls0 rfl) rfl rfl ?_
    refine rr_move rfl rfl ?_
    refine r_mul rfl rfl rfl (by omega) ?_
    refine r_add rfl rfl rfl (by omega) ?_
    refine rr_move rfl rfl ?_
    refine r_add rfl rfl rfl (by omega) ?_
    refine rr_call rfl rfl rfl rfl (read_tr d (L.from_ + k * 8 + j) D s hs) inferInstance rfl (sd0 rfl) (fun _ => sd0 rfl) rfl (fun v => ?_)
    refine RR.ex1 fun u => ?_
    refine RR.pu2 ?_
    rintro rfl
    refine rr_move rfl rfl ?_
    refine rr_extract rfl rfl rfl ?_
    refine rr_extract rfl rfl rfl ?_
    refine rr_assign rfl rfl ?_
    refine rr_assign rfl rfl ?_
    refine rr_nil ?_
    rw [hnow]
    refine CC.slb u (by omega) fun ub uc urest e1 e2 e3 => ?_
    subst e1
    have huc : 64 ≤ uc := by have := congrArg (fun z => z) e3; simp [zeros] at this; omega
    refine cc_seq ?_
    refine cc_seq ?_
    refine cc_region ?_
    refine rr_move rfl rfl ?_
    refine r_int rfl rfl rfl rfl ?_
    refine rr_nil ?_
    refine cc_condF rfl ?_
    refine cc_skip ?_
    refine cc_seq ?_
    refine cc_draw (logB l d L lv) [4] [7] mixed (by decide +kernel) ?_
    refine rr_move rfl rfl ?_
    refine rr_move rfl rfl ?_
    refine rr_nilCheck rfl rfl ?_
    refine r_fa rfl rfl ?_
    refine r_ld rfl (ls1 rfl) rfl rfl ?_
    refine rr_move rfl rfl ?_
    refine r_sls (lo := 10) (hi := 14) rfl (by first | rfl | exact ⟨_, rfl⟩) (by first | rfl | exact ⟨_, rfl⟩) rfl (by omega) (by omega) (by omega) ?_
    rw [if_neg (by omega)]
    refine rr_call rfl rfl rfl rfl (lget_tr ub 10 4 (uc - 10) 5 (bv (zeros 64) ++ urest) (zeros 4) rfl (by omega) (fun j hj => z64 urest (by omega) hj)) inferInstance rfl (sd1 rfl) (fun _ => sd1 rfl) rfl (fun v => ?_)
    first | refine RR.pu2 ?_ | refine RR.pu ?_
    rintro rfl
    refine r_conv rfl rfl ?_
    rw [getz4, show IntKind.wrap .i64 0 = 0 from rfl]
    refine r_add rfl rfl rfl (by omega) ?_
    refine r_max rfl rfl rfl ?_
    rw [show (if (L.run : Int) < 0 + 1 then (0 : Int) + 1 else (L.run : Int)) = (L.run : Int) by split <;> omega]
    refine rr_nilCheck rfl rfl ?_
    refine r_fa rfl rfl ?_
    refine r_st rfl rfl rfl rfl (sd0 rfl) (sd0 rfl) ?_
    refine rr_nil ?_
    refine CC.clb l [ptr d, i64 L.from_, i64 L.segs, lv, i64 L.next, i64 L.run, .bool L.fresh] (by rfl) ?_
    refine cc_seq ?_
    refine cc_region ?_
    refine rr_move rfl rfl ?_
    refine rr_move rfl rfl ?_
    skip
    refine rr_guard rfl rfl rfl (fun hg10_1 => ?_) (fun hg10_1 => ?_)
    · refine rr_move rfl rfl ?_
      refine rr_guardY rfl rfl rfl ?_
      refine rr_move rfl rfl ?_
      refine rr_guardY rfl rfl rfl ?_
      refine rr_move rfl rfl ?_
      have hj0 : j = 0 := by simpa using hg10_1
      subst hj0
      refine rr_guardY rfl rfl rfl ?_
      refine rr_call rfl rfl rfl rfl (ltake0_tr p1_1 ub uc urest (by simpa using e3)) inferInstance rfl (sd0 rfl) (fun _ => sd0 rfl) rfl (fun v => ?_)
      first | refine RR.pu2 ?_ | refine RR.pu ?_
      rintro rfl
      first | refine rr_pick rfl rfl ?_ | refine rr_pickb rfl rfl rfl rfl ?_
      refine rr_assign rfl rfl ?_
      refine rr_nil ?_
      refine cc_seq ?_
      refine cc_region ?_
      refine rr_move rfl rfl ?_
      refine r_not rfl rfl ?_
      refine rr_move rfl rfl ?_
      refine rr_guard rfl rfl rfl (fun hg11_2 => ?_) (fun hg11_2 => ?_)
      · refine rr_move rfl rfl ?_
        refine rr_guardY rfl rfl rfl ?_
        refine r_int rfl rfl rfl rfl ?_
        first | refine rr_pick rfl rfl ?_ | refine rr_pickb rfl rfl rfl rfl ?_
        refine rr_nil ?_
        refine cc_cond rfl (fun h59 => ?_) (fun h59 => ?_)
        · try simp only [decide_eq_true_eq, decide_eq_false_iff_not, beq_iff_eq, beq_eq_false_iff_ne, bne_iff_ne, bne_eq_false_iff_eq, ne_eq, Bool.not_eq_eq_eq_not, Bool.not_true, Bool.not_false] at h59
          refine cc_region ?_
          refine rr_move rfl rfl ?_
          refine rr_nilCheck rfl rfl ?_
          refine r_fa rfl rfl ?_
          refine r_st rfl rfl rfl rfl (sd0 rfl) (sd0 rfl) ?_
          refine rr_nil ?_
          refine cc_region ?_
          refine r_add rfl rfl rfl (by omega) ?_
          refine rr_move rfl rfl ?_
          refine rr_nil ?_
          exact ⟨_, (by first | (show 8 - (0 + 1) < 8 - 0; omega) | (show 8 - (j + 1) < 8 - j; omega)), by ((repeat' (first | exact covers_nil | (refine covers_cons ?_ ?_; focus (first | rfl | (simp [lk, lk?]; done))))) ; (first | done | fail)), entW_pu (by omega) entW_fr⟩
        · try simp only [decide_eq_true_eq, decide_eq_false_iff_not, beq_iff_eq, beq_eq_false_iff_ne, bne_iff_ne, bne_eq_false_iff_eq, ne_eq, Bool.not_eq_eq_eq_not, Bool.not_true, Bool.not_false] at h59
          refine cc_skip ?_
          refine cc_region ?_
          refine r_add rfl rfl rfl (by omega) ?_
          refine rr_move rfl rfl ?_
          refine rr_nil ?_
          exact ⟨_, (by first | (show 8 - (0 + 1) < 8 - 0; omega) | (show 8 - (j + 1) < 8 - j; omega)), by ((repeat' (first | exact covers_nil | (refine covers_cons ?_ ?_; focus (first | rfl | (simp [lk, lk?]; done))))) ; (first | done | fail)), entW_pu (by omega) entW_fr⟩
      · refine rr_guardN rfl rfl rfl rfl ?_
        first | refine rr_pick rfl rfl ?_ | refine rr_pickb rfl rfl rfl rfl ?_
        refine rr_nil ?_
        refine cc_cond rfl (fun h59 => ?_) (fun h59 => ?_)
        · try simp only [decide_eq_true_eq, decide_eq_false_iff_not, beq_iff_eq, beq_eq_false_iff_ne, bne_iff_ne, bne_eq_false_iff_eq, ne_eq, Bool.not_eq_eq_eq_not, Bool.not_true, Bool.not_false] at h59
          refine cc_region ?_
          refine rr_move rfl rfl ?_
          refine rr_nilCheck rfl rfl ?_
          refine r_fa rfl rfl ?_
          refine r_st rfl rfl rfl rfl (sd0 rfl) (sd0 rfl) ?_
          refine rr_nil ?_
          refine cc_region ?_
          refine r_add rfl rfl rfl (by omega) ?_
          refine rr_move rfl rfl ?_
          refine rr_nil ?_
          exact ⟨_, (by first | (show 8 - (0 + 1) < 8 - 0; omega) | (show 8 - (j + 1) < 8 - j; omega)), by ((repeat' (first | exact covers_nil | (refine covers_cons ?_ ?_; focus (first | rfl | (simp [lk, lk?]; done))))) ; (first | done | fail)), entW_pu (by omega) entW_fr⟩
        · try simp only [decide_eq_true_eq, decide_eq_false_iff_not, beq_iff_eq, beq_eq_false_iff_ne, bne_iff_ne, bne_eq_false_iff_eq, ne_eq, Bool.not_eq_eq_eq_not, Bool.not_true, Bool.not_false] at h59
          refine cc_skip ?_
          refine cc_region ?_
          refine r_add rfl rfl rfl (by omega) ?_
          refine rr_move rfl rfl ?_
          refine rr_nil ?_
          exact ⟨_, (by first | (show 8 - (0 + 1) < 8 - 0; omega) | (show 8 - (j + 1) < 8 - j; omega)), by ((repeat' (first | exact covers_nil | (refine covers_cons ?_ ?_; focus (first | rfl | (simp [lk, lk?]; done))))) ; (first | done | fail)), entW_pu (by omega) entW_fr⟩
    · refine rr_guardN rfl rfl rfl rfl ?_
      refine rr_guardN rfl rfl rfl rfl ?_
      refine rr_guardN rfl rfl rfl rfl ?_
      first | refine rr_pick rfl rfl ?_ | refine rr_pickb rfl rfl rfl rfl ?_
      refine rr_assign rfl rfl ?_
      refine rr_nil ?_
      refine cc_seq ?_
      refine cc_region ?_
      refine rr_move rfl rfl ?_
      refine r_not rfl rfl ?_
      refine rr_move rfl rfl ?_
      refine rr_guard rfl rfl rfl (fun hg11_2 => ?_) (fun hg11_2 => ?_)
      · refine rr_move rfl rfl ?_
        refine rr_guardY rfl rfl rfl ?_
        refine r_int rfl rfl rfl rfl ?_
        first | refine rr_pick rfl rfl ?_ | refine rr_pickb rfl rfl rfl rfl ?_
        refine rr_nil ?_
        refine cc_cond rfl (fun h59 => ?_) (fun h59 => ?_)
        · try simp only [decide_eq_true_eq, decide_eq_false_iff_not, beq_iff_eq, beq_eq_false_iff_ne, bne_iff_ne, bne_eq_false_iff_eq, ne_eq, Bool.not_eq_eq_eq_not, Bool.not_true, Bool.not_false] at h59
          refine cc_region ?_
          refine rr_move rfl rfl ?_
          refine rr_nilCheck rfl rfl ?_
          refine r_fa rfl rfl ?_
          refine r_st rfl rfl rfl rfl (sd0 rfl) (sd0 rfl) ?_
          refine rr_nil ?_
          refine cc_region ?_
          refine r_add rfl rfl rfl (by omega) ?_
          refine rr_move rfl rfl ?_
          refine rr_nil ?_
          exact ⟨_, (by first | (show 8 - (0 + 1) < 8 - 0; omega) | (show 8 - (j + 1) < 8 - j; omega)), by ((repeat' (first | exact covers_nil | (refine covers_cons ?_ ?_; focus (first | rfl | (simp [lk, lk?]; done))))) ; (first | done | fail)), entW_pu (by omega) entW_fr⟩
        · try simp only [decide_eq_true_eq, decide_eq_false_iff_not, beq_iff_eq, beq_eq_false_iff_ne, bne_iff_ne, bne_eq_false_iff_eq, ne_eq, Bool.not_eq_eq_eq_not, Bool.not_true, Bool.not_false] at h59
          refine cc_skip ?_
          refine cc_region ?_
          refine r_add rfl rfl rfl (by omega) ?_
          refine rr_move rfl rfl ?_
          refine rr_nil ?_
          exact ⟨_, (by first | (show 8 - (0 + 1) < 8 - 0; omega) | (show 8 - (j + 1) < 8 - j; omega)), by ((repeat' (first | exact covers_nil | (refine covers_cons ?_ ?_; focus (first | rfl | (simp [lk, lk?]; done))))) ; (first | done | fail)), entW_pu (by omega) entW_fr⟩
      · refine rr_guardN rfl rfl rfl rfl ?_
        first | refine rr_pick rfl rfl ?_ | refine rr_pickb rfl rfl rfl rfl ?_
        refine rr_nil ?_
        refine cc_cond rfl (fun h59 => ?_) (fun h59 => ?_)
        · try simp only [decide_eq_true_eq, decide_eq_false_iff_not, beq_iff_eq, beq_eq_false_iff_ne, bne_iff_ne, bne_eq_false_iff_eq, ne_eq, Bool.not_eq_eq_eq_not, Bool.not_true, Bool.not_false] at h59
          refine cc_region ?_
          refine rr_move rfl rfl ?_
          refine rr_nilCheck rfl rfl ?_
          refine r_fa rfl rfl ?_
          refine r_st rfl rfl rfl rfl (sd0 rfl) (sd0 rfl) ?_
          refine rr_nil ?_
          refine cc_region ?_
          refine r_add rfl rfl rfl (by omega) ?_
          refine rr_move rfl rfl ?_
          refine rr_nil ?_
          exact ⟨_, (by first | (show 8 - (0 + 1) < 8 - 0; omega) | (show 8 - (j + 1) < 8 - j; omega)), by ((repeat' (first | exact covers_nil | (refine covers_cons ?_ ?_; focus (first | rfl | (simp [lk, lk?]; done))))) ; (first | done | fail)), entW_pu (by omega) entW_fr⟩
        · try simp only [decide_eq_true_eq, decide_eq_false_iff_not, beq_iff_eq, beq_eq_false_iff_ne, bne_iff_ne, bne_eq_false_iff_eq, ne_eq, Bool.not_eq_eq_eq_not, Bool.not_true, Bool.not_false] at h59
          refine cc_skip ?_
          refine cc_region ?_
          refine r_add rfl rfl rfl (by omega) ?_
          refine rr_move rfl rfl ?_
          refine rr_nil ?_
          exact ⟨_, (by first | (show 8 - (0 + 1) < 8 - 0; omega) | (show 8 - (j + 1) < 8 - j; omega)), by ((repeat' (first | exact covers_nil | (refine covers_cons ?_ ?_; focus (first | rfl | (simp [lk, lk?]; done))))) ; (first | done | fail)), entW_pu (by omega) entW_fr⟩
  · try simp only [decide_eq_true_eq, decide_eq_false_iff_not, beq_iff_eq, beq_eq_false_iff_ne, bne_iff_ne, bne_eq_false_iff_eq, ne_eq, Bool.not_eq_eq_eq_not, Bool.not_true, Bool.not_false] at h13
    obtain rfl : j = 8 := by omega
    refine cc_exit ?_
    refine cc_seq ?_
    refine cc_seq ?_
    refine cc_draw (1) [] [] mixed (by decide +kernel) ?_
    refine rr_move rfl rfl ?_
    refine rr_nilCheck rfl rfl ?_
    refine r_fa rfl rfl ?_
    refine r_ld rfl (ls0 rfl) rfl rfl ?_
    refine r_int rfl rfl rfl rfl ?_
    refine rr_move rfl rfl ?_
    refine rr_guardN rfl rfl rfl rfl ?_
    refine rr_guardN rfl rfl rfl rfl ?_
    refine rr_guardN rfl rfl rfl rfl ?_
    refine rr_guardN rfl rfl rfl rfl ?_
    refine rr_guardN rfl rfl rfl rfl ?_
    refine rr_guardN rfl rfl rfl rfl ?_
    refine rr_guardN rfl rfl rfl rfl ?_
    refine rr_guardN rfl rfl rfl rfl ?_
    refine rr_guardN rfl rfl rfl rfl ?_
    refine rr_guardN rfl rfl rfl rfl ?_
    refine rr_guardN rfl rfl rfl rfl ?_
    refine rr_guardN rfl rfl rfl rfl ?_
    first | refine rr_pick rfl rfl ?_ | refine rr_pickb rfl rfl rfl rfl ?_
    refine rr_nil ?_
    refine cc_condT rfl ?_
    refine cc_seq ?_
    refine cc_region ?_
    refine rr_assign rfl rfl ?_
    refine rr_nil ?_
    refine cc_ret ?_
    exact ⟨_, rfl, entW_pu2 rfl entW_fr⟩
end Go.Proofs.YtoiakcgdkegncaaGreat

namespace Go.Proofs.YtoiakcgdkegncaaGreat
open Go.RowKit Ice
attribute [local irreducible] CC RR Tr crcL be supSec supW supMake secBytes segW devW getB
theorem bitsLen0_tr : Tr Tryz.prog 188 #[.int .u64 0] 1 (fun v => pu (v = i64 0)) := by
  refine tr_body Tryz.func188 (by kernel_rfl) rfl Tryz.ntmps188 rfl (L := [(0, .int .u64 0)]) (covers_cons rfl covers_nil) rfl ?_
  intro F w0 f
  rw [sl_one_mul]
  refine cc_seq ?_
  refine cc_region ?_
  refine rr_assign rfl rfl ?_
  refine rr_nil ?_
  refine cc_seq ?_
  refine cc_seq ?_
  refine cc_region ?_
  refine rr_move rfl rfl ?_
  refine r_int rfl rfl rfl rfl ?_
  refine rr_nil ?_
  refine cc_condF rfl ?_
  refine cc_skip ?_
  refine cc_seq ?_
  refine cc_seq ?_
  refine cc_region ?_
  refine rr_move rfl rfl ?_
  refine r_int rfl rfl rfl rfl ?_
  refine rr_nil ?_
  refine cc_condF rfl ?_
  refine cc_skip ?_
  refine cc_seq ?_
  refine cc_seq ?_
  refine cc_region ?_
  refine rr_move rfl rfl ?_
  refine r_int rfl rfl rfl rfl ?_
  refine rr_nil ?_
  refine cc_condF rfl ?_
  refine cc_skip ?_
  refine cc_seq ?_
  refine cc_region ?_
  refine rr_move rfl rfl ?_
  refine rr_move rfl rfl ?_
  refine r_conv rfl rfl ?_
  rw [show IntKind.wrap .u8 0 = 0 from rfl]
  refine r_ixt (c := 0) rfl rfl rfl (by decide) (by decide +kernel) ?_
  refine r_conv rfl rfl ?_
  rw [show IntKind.wrap .i64 (((0 : UInt8).toNat : Nat) : Int) = 0 from rfl]
  refine r_add rfl rfl rfl (by omega) ?_
  refine rr_assign rfl rfl ?_
  refine rr_nil ?_
  refine cc_ret ?_
  exact ⟨_, rfl, entW_pu rfl entW_fr⟩
theorem bitsLenI0_tr : Tr Tryz.prog 158 #[.int .u64 0] 1 (fun v => pu (v = i64 0)) := by
  refine tr_body Tryz.func158 (by kernel_rfl) rfl Tryz.ntmps158 rfl (L := [(0, .int .u64 0)]) (covers_cons rfl covers_nil) rfl ?_
  intro F w0 f
  rw [sl_one_mul]
  refine cc_seq ?_
  refine cc_region ?_
  refine rr_assign rfl rfl ?_
  refine rr_nil ?_
  refine cc_seq ?_
  refine cc_condF rfl ?_
  refine cc_skip ?_
  refine cc_seq ?_
  refine cc_region ?_
  refine rr_move rfl rfl ?_
  refine rr_call rfl rfl rfl rfl (bitsLen0_tr) inferInstance rfl (sd0 rfl) (fun _ => sd0 rfl) rfl (fun v => ?_)
  first | refine RR.pu2 ?_ | refine RR.pu ?_
  rintro rfl
  refine rr_assign rfl rfl ?_
  refine rr_nil ?_
  refine cc_ret ?_
  exact ⟨_, rfl, entW_pu rfl entW_fr⟩
theorem isort0_tr (fv : Value) : Tr Tryz.prog 217 #[.slice none 0 0, i64 0, i64 0, fv] 1 (fun v => pu (v = unit)) := by
  refine tr_body Tryz.func217 (by kernel_rfl) rfl Tryz.ntmps217 rfl (L := [(0, .slice none 0 0), (1, i64 0), (2, i64 0), (3, fv)]) (covers_cons rfl (covers_cons rfl (covers_cons rfl (covers_cons rfl covers_nil)))) rfl ?_
  intro F w0 f
  rw [sl_one_mul]
  refine cc_seq ?_
  refine cc_region ?_
  refine rr_move rfl rfl ?_
  refine r_add rfl rfl rfl (by omega) ?_
  refine rr_assign rfl rfl ?_
  refine rr_nil ?_
  refine cc_block ?_
  refine cc_loopW (α := Nat) (fun j => [(8, i64 1), (2, i64 0)]) (fun j => F) (fun j => j) (0) (by ((repeat' (first | exact covers_nil | (refine covers_cons ?_ ?_; focus (first | rfl | (simp [lk, lk?]; done))))) ; (first | done | fail))) (by exact entW_fr) ?_
  rintro j f
  refine cc_seq ?_
  refine cc_seq ?_
  refine cc_region ?_
  refine rr_move rfl rfl ?_
  refine rr_move rfl rfl ?_
  refine r_int rfl rfl rfl rfl ?_
  refine rr_nil ?_
  refine cc_condF rfl ?_
  refine cc_exit ?_
  exact ⟨_, rfl, entW_pu rfl entW_fr⟩
theorem psort0_tr (fv : Value) (k : Int) : Tr Tryz.prog 198 #[.slice none 0 0, i64 0, i64 0, i64 k, fv] 1 (fun v => pu (v = unit)) := by
  refine tr_body Tryz.func198 (by kernel_rfl) rfl Tryz.ntmps198 rfl (L := [(0, .slice none 0 0), (1, i64 0), (2, i64 0), (3, i64 k), (4, fv)]) (covers_cons rfl (covers_cons rfl (covers_cons rfl (covers_cons rfl (covers_cons rfl covers_nil))))) rfl ?_
  intro F w0 f
  rw [sl_one_mul]
  refine cc_seq ?_
  refine cc_region ?_
  refine rr_assign rfl rfl ?_
  refine rr_nil ?_
  refine cc_seq ?_
  refine cc_region ?_
  refine rr_assign rfl rfl ?_
  refine rr_nil ?_
  refine cc_block ?_
  refine cc_loopW (α := Nat) (fun j => [(0, .slice none 0 0), (1, i64 0), (2, i64 0), (4, fv)]) (fun j => F) (fun j => j) (0) (by ((repeat' (first | exact covers_nil | (refine covers_cons ?_ ?_; focus (first | rfl | (simp [lk, lk?]; done))))) ; (first | done | fail))) (by exact entW_fr) ?_
  rintro j f
  refine cc_block ?_
  refine cc_seq ?_
  refine cc_region ?_
  refine rr_move rfl rfl ?_
  refine rr_move rfl rfl ?_
  refine r_sub rfl rfl rfl (by omega) ?_
  refine rr_assign rfl rfl ?_
  refine rr_nil ?_
  refine cc_seq ?_
  refine cc_seq ?_
  refine cc_region ?_
  refine rr_move rfl rfl ?_
  refine r_int rfl rfl rfl rfl ?_
  refine rr_nil ?_
  refine cc_condT rfl ?_
  refine cc_seq ?_
  refine cc_region ?_
  refine rr_move rfl rfl ?_
  refine rr_move rfl rfl ?_
  refine rr_move rfl rfl ?_
  refine rr_move rfl rfl ?_
  refine rr_call rfl rfl rfl rfl (isort0_tr fv) inferInstance rfl (sd0 rfl) (fun _ => sd0 rfl) rfl (fun v => ?_)
  first | refine RR.pu2 ?_ | refine RR.pu ?_
  rintro rfl
  refine rr_nil ?_
  refine cc_ret ?_
  exact ⟨_, rfl, entW_pu rfl entW_fr⟩
theorem sort0_tr (fv : Value) : Tr Tryz.prog 173 #[.slice none 0 0, fv] 1 (fun v => pu (v = unit)) := by
  refine tr_body Tryz.func173 (by kernel_rfl) rfl Tryz.ntmps173 rfl (L := [(0, .slice none 0 0), (1, fv)]) (covers_cons rfl (covers_cons rfl covers_nil)) rfl ?_
  intro F w0 f
  rw [sl_one_mul]
  refine cc_seq ?_
  refine cc_region ?_
  refine rr_move rfl rfl ?_
  refine r_lens rfl rfl ?_
  refine rr_assign rfl rfl ?_
  refine rr_nil ?_
  refine cc_region ?_
  refine rr_move rfl rfl ?_
  refine rr_move rfl rfl ?_
  refine rr_move rfl rfl ?_
  refine r_conv rfl rfl ?_
  rw [show IntKind.wrap .u64 ((0 : Nat) : Int) = 0 from rfl]
  refine rr_call rfl rfl rfl rfl (bitsLenI0_tr) inferInstance rfl (sd0 rfl) (fun _ => sd0 rfl) rfl (fun v => ?_)
  first | refine RR.pu2 ?_ | refine RR.pu ?_
  rintro rfl
  refine rr_move rfl rfl ?_
  refine rr_call rfl rfl rfl rfl (psort0_tr fv 0) inferInstance rfl (sd0 rfl) (fun _ => sd0 rfl) rfl (fun v => ?_)
  first | refine RR.pu2 ?_ | refine RR.pu ?_
  rintro rfl
  refine rr_nil ?_
  exact ⟨_, rfl, entW_pu rfl entW_fr⟩
theorem lopen0_tr (d from_ segs : Nat) (D : DevS) (h1 : 3 ≤ segs) (h2 : segs ≤ 200) (h3 : from_ + segs * 8 ≤ D.length) (hz : zeroReg D from_ (segs * 8)) :
    Tr Tryz.prog 150 #[ptr d, i64 from_, i64 segs] (devR d D) (fun v => ex fun l => pu (v = .tuple #[ptr l, i64 0]) * (logR l d ⟨from_, segs, [], 1, 1, true⟩ * devR d D)) := by
  refine tr_body Tryz.func150 (by kernel_rfl) rfl Tryz.ntmps150 rfl (L := [(0, ptr d), (1, i64 from_), (2, i64 segs)]) (covers_cons rfl (covers_cons rfl (covers_cons rfl covers_nil))) rfl ?_
  intro F w0 f
  refine CC.fact (devR d D) (fun w => devR_fact) fun hd => ?_
  have hh := hd.hi
  refine cc_seq ?_
  refine cc_region ?_
  refine r_box rfl rfl rfl (sd0 rfl) (fun _ => sd0 rfl) (fun p0_0 => ?_)
  refine rr_assign rfl rfl ?_
  refine rr_assign rfl rfl ?_
  refine rr_nil ?_
  refine cc_seq ?_
  refine cc_block ?_
  refine cc_seq ?_
  refine cc_region ?_
  refine rr_move rfl rfl ?_
  refine r_pnil rfl rfl rfl ?_
  refine rr_assign rfl rfl ?_
  refine rr_nil ?_
  refine cc_condF rfl ?_
  refine cc_seq ?_
  refine cc_draw (bl p0_0 3 [i64 segs]) [14] [13] mixed (by decide +kernel) ?_
  refine r_ld rfl (ls0 rfl) rfl rfl ?_
  refine r_int rfl rfl rfl rfl ?_
  rw [show decide ((segs : Int) < 3) = false by simp; omega]
  refine rr_move rfl rfl ?_
  refine rr_guardY rfl rfl rfl ?_
  refine r_ld rfl (ls0 rfl) rfl rfl ?_
  refine rr_guardY rfl rfl rfl ?_
  refine r_int rfl rfl rfl rfl ?_
  rw [show decide ((200 : Int) < (segs : Int)) = false by simp; omega]
  first | refine rr_pick rfl rfl ?_ | refine rr_pickb rfl rfl rfl rfl ?_
  refine rr_move rfl rfl ?_
  refine rr_guardY rfl rfl rfl ?_
  refine rr_move rfl rfl ?_
  refine rr_guardY rfl rfl rfl ?_
  refine r_int rfl rfl rfl rfl ?_
  rw [show decide ((from_ : Int) < 0) = false by simp]
  first | refine rr_pick rfl rfl ?_ | refine rr_pickb rfl rfl rfl rfl ?_
  refine rr_move rfl rfl ?_
  refine rr_guardY rfl rfl rfl ?_
  refine rr_move rfl rfl ?_
  refine rr_guardY rfl rfl rfl ?_
  refine rr_move rfl rfl ?_
  refine rr_guardY rfl rfl rfl ?_
  refine rr_call rfl rfl rfl rfl (len_tr d D) inferInstance rfl (sd1 rfl) (fun _ => sd1 rfl) rfl (fun v => ?_)
  first | refine RR.pu2 ?_ | refine RR.pu ?_
  rintro rfl
  refine rr_guardY rfl rfl rfl ?_
  refine r_ld rfl (ls1 rfl) rfl rfl ?_
  refine rr_guardY rfl rfl rfl ?_
  refine r_mul rfl rfl rfl (by omega) ?_
  refine rr_guardY rfl rfl rfl ?_
  refine r_sub rfl rfl rfl (by omega) ?_
  refine rr_guardY rfl rfl rfl ?_
  refine r_int rfl rfl rfl rfl ?_
  rw [show decide ((D.length : Int) - (segs : Int) * 8 < (from_ : Int)) = false by simp; omega]
  first | refine rr_pick rfl rfl ?_ | refine rr_pickb rfl rfl rfl rfl ?_
  refine rr_assign rfl rfl ?_
  refine rr_nil ?_
  refine cc_condF rfl ?_
  refine cc_skip ?_
  refine cc_seq ?_
  refine cc_region ?_
  refine rr_move rfl rfl ?_
  refine rr_move rfl rfl ?_
  refine r_ld rfl (ls0 rfl) rfl rfl ?_
  refine r_bld rfl rfl rfl ?_
  refine r_boxa rfl rfl (sd0 rfl) (fun _ => sd0 rfl) (fun p5_4 => ?_)
  refine RR.clb p5_4 [ptr d, i64 from_, i64 segs, .slice none 0 0, i64 (1 : Nat), i64 (1 : Nat), .bool true] (by rfl) ?_
  refine rr_assign rfl rfl ?_
  refine rr_nil ?_
  refine cc_seq ?_
  refine cc_seq ?_
  refine cc_region ?_
  refine r_ld rfl (ls0 rfl) rfl rfl ?_
  refine rr_move rfl rfl ?_
  refine rr_nil ?_
  refine cc_block ?_
  refine cc_loopW (α := Nat) (fun j => [(43, i64 j), (42, i64 segs), (8, ptr p5_4)]) (fun j => pu (j ≤ segs) * (logB p5_4 d ⟨from_, segs, [], 1, 1, true⟩ (.slice none 0 0) * (devR d D * F))) (fun j => segs - j) (0) (by ((repeat' (first | exact covers_nil | (refine covers_cons ?_ ?_; focus (first | rfl | (simp [lk, lk?]; done))))) ; (first | done | fail))) (by exact entW_pu (by omega) entW_fr) ?_
  rintro j f
  refine CC.pu fun hj => ?_
  refine cc_seq ?_
  refine cc_region ?_
  refine r_int rfl rfl rfl rfl ?_
  refine rr_nil ?_
  refine cc_seq ?_
  refine cc_cond rfl (fun h44 => ?_) (fun h44 => ?_)
  · try simp only [decide_eq_true_eq, decide_eq_false_iff_not, beq_iff_eq, beq_eq_false_iff_ne, bne_iff_ne, bne_eq_false_iff_eq, ne_eq, Bool.not_eq_eq_eq_not, Bool.not_true, Bool.not_false] at h44
    refine cc_skip ?_
    refine cc_seq ?_
    refine cc_block ?_
    refine cc_seq ?_
    refine cc_region ?_
    refine rr_move rfl rfl ?_
    refine rr_assign rfl rfl ?_
    refine rr_nil ?_
    refine cc_seq ?_
    refine cc_region ?_
    refine rr_move rfl rfl ?_
    refine rr_move rfl rfl ?_
    refine rr_call rfl rfl rfl rfl (lread0_tr p5_4 d j ⟨from_, segs, [], 1, 1, true⟩ (.slice none 0 0) D (Nat.le_refl 1) (by show 1 ≤ _; omega) (by show from_ ≤ _; omega) (by omega) (fun i hi => by
            have := hz (j * 8 + i) (by omega)
            rw [show from_ + j * 8 + i = from_ + (j * 8 + i) by omega]; exact this)) inferInstance rfl (sd0 rfl) (fun _ => sd0 rfl) rfl (fun v => ?_)
    first | refine RR.pu2 ?_ | refine RR.pu ?_
    rintro rfl
    refine rr_assign rfl rfl ?_
    refine rr_nil ?_
    refine cc_seq ?_
    refine cc_region ?_
    refine rr_move rfl rfl ?_
    refine r_pnil rfl rfl rfl ?_
    refine rr_nil ?_
    refine cc_condF rfl ?_
    refine cc_skip ?_
    refine cc_region ?_
    refine r_add rfl rfl rfl (by omega) ?_
    refine rr_move rfl rfl ?_
    refine rr_nil ?_
    exact ⟨j + 1, by omega, by ((repeat' (first | exact covers_nil | (refine covers_cons ?_ ?_; focus (first | rfl | (simp [lk, lk?]; done))))) ; (first | done | fail)), entW_pu (by omega) entW_fr⟩
  · try simp only [decide_eq_true_eq, decide_eq_false_iff_not, beq_iff_eq, beq_eq_false_iff_ne, bne_iff_ne, bne_eq_false_iff_eq, ne_eq, Bool.not_eq_eq_eq_not, Bool.not_true, Bool.not_false] at h44
    refine cc_exit ?_
    refine cc_seq ?_
    refine cc_region ?_
    refine rr_move rfl rfl ?_
    refine rr_nilCheck rfl rfl ?_
    refine r_fa rfl rfl ?_
    refine r_ld rfl (ls0 rfl) rfl rfl ?_
    refine rr_call rfl rfl rfl rfl (sort0_tr (.func (.func 174) #[] #[])) inferInstance rfl (sd0 rfl) (fun _ => sd0 rfl) rfl (fun v => ?_)
    first | refine RR.pu2 ?_ | refine RR.pu ?_
    rintro rfl
    refine rr_nil ?_
    refine cc_seq ?_
    refine cc_seq ?_
    refine cc_region ?_
    refine rr_move rfl rfl ?_
    refine rr_nilCheck rfl rfl ?_
    refine r_fa rfl rfl ?_
    refine r_ld rfl (ls0 rfl) rfl rfl ?_
    refine r_lens rfl rfl ?_
    refine rr_assign rfl rfl ?_
    refine rr_nil ?_
    refine cc_seq ?_
    refine cc_region ?_
    refine rr_move rfl rfl ?_
    refine r_int rfl rfl rfl rfl ?_
    refine rr_nil ?_
    refine cc_condF rfl ?_
    refine cc_skip ?_
    refine cc_seq ?_
    refine cc_region ?_
    refine rr_move rfl rfl ?_
    refine rr_assign rfl rfl ?_
    refine rr_assign rfl rfl ?_
    refine rr_nil ?_
    refine cc_ret ?_
    refine ⟨_, rfl, entW_ex2 p5_4 (entW_pu2 rfl ?_)⟩
    refine EntW.trans (entW_ent (ent_nil 234 1)) ?_
    refine entW_cls (logR p5_4 d ⟨from_, segs, [], 1, 1, true⟩) (logB p5_4 d ⟨from_, segs, [], 1, 1, true⟩ (.slice none 0 0) * slR (.slice none 0 0) 234 1 0 []) (by
      have := logR_mk p5_4 d ⟨from_, segs, [], 1, 1, true⟩ (.slice none 0 0) [] rfl
      simpa [segsR, sl_mul_one] using this) ?_
    exact entW_fr
theorem lall0_tr (l d from_ segs next run : Nat) (fr : Bool) : Tr Tryz.prog 151 #[ptr l] (logR l d ⟨from_, segs, [], next, run, fr⟩) (fun v => pu (v = .slice none 0 0) * logR l d ⟨from_, segs, [], next, run, fr⟩) := by
  refine tr_body Tryz.func151 (by kernel_rfl) rfl Tryz.ntmps151 rfl (L := [(0, ptr l)]) (covers_cons rfl covers_nil) rfl ?_
  intro F w0 f
  refine CC.opn (logR l d ⟨from_, segs, [], next, run, fr⟩) rfl fun lv => ?_
  refine CC.ex1 fun gs => ?_
  refine CC.pu3 fun hgs => ?_
  have hg0 : gs = [] := by simpa using hgs
  subst hg0
  refine CC.slv lv fun bb bc hlv _ => ?_
  subst hlv
  refine cc_seq ?_
  refine cc_region ?_
  refine rr_assign rfl rfl ?_
  refine rr_nil ?_
  refine cc_seq ?_
  refine cc_seq ?_
  refine cc_region ?_
  refine rr_move rfl rfl ?_
  refine r_pnil rfl rfl rfl ?_
  refine rr_nil ?_
  refine cc_condF rfl ?_
  refine cc_skip ?_
  refine cc_seq ?_
  refine cc_region ?_
  refine rr_assign rfl rfl ?_
  refine rr_nil ?_
  refine cc_seq ?_
  refine cc_seq ?_
  refine cc_region ?_
  refine rr_move rfl rfl ?_
  refine rr_nilCheck rfl rfl ?_
  refine r_fa rfl rfl ?_
  refine r_ld rfl (ls0 rfl) rfl rfl ?_
  refine r_lens rfl rfl ?_
  refine rr_move rfl rfl ?_
  refine rr_nil ?_
  refine cc_block ?_
  refine cc_loopW (α := Nat) (fun j => [(15, i64 0), (14, i64 0), (3, .slice none 0 0)]) (fun j => logB l d ⟨from_, segs, [], next, run, fr⟩ (.slice bb ([] : List (Nat × Seg)).length bc) * (slR (.slice bb ([] : List (Nat × Seg)).length bc) 234 1 ([] : List (Nat × Seg)).length (([] : List (Nat × Seg)).flatMap fun x => [ptr x.1]) * segsR ([] : List (Nat × Seg))) * F) (fun j => j) (0) (by ((repeat' (first | exact covers_nil | (refine covers_cons ?_ ?_; focus (first | rfl | (simp [lk, lk?]; done))))) ; (first | done | fail))) (by exact entW_fr) ?_
  rintro j f
  refine cc_seq ?_
  refine cc_region ?_
  refine r_int rfl rfl rfl rfl ?_
  refine rr_nil ?_
  refine cc_seq ?_
  refine cc_condF rfl ?_
  refine cc_exit ?_
  refine cc_seq ?_
  refine cc_region ?_
  refine rr_move rfl rfl ?_
  refine rr_assign rfl rfl ?_
  refine rr_nil ?_
  refine cc_ret ?_
  refine ⟨_, rfl, entW_pu2 rfl ?_⟩
  exact entW_cls (logR l d ⟨from_, segs, [], next, run, fr⟩) (logB l d ⟨from_, segs, [], next, run, fr⟩ (.slice bb ([] : List (Nat × Seg)).length bc) * (slR (.slice bb ([] : List (Nat × Seg)).length bc) 234 1 ([] : List (Nat × Seg)).length (([] : List (Nat × Seg)).flatMap fun x => [ptr x.1]) * segsR ([] : List (Nat × Seg)))) (logR_mk l d ⟨from_, segs, [], next, run, fr⟩ _ [] rfl) entW_fr
end Go.Proofs.YtoiakcgdkegncaaGreat

