import Derived.Sort.Defs
import Derived.Test.YtoiakcgdkegncaaGreatK11
set_option linter.unusedVariables false
set_option linter.unusedSimpArgs false
set_option linter.unusedSectionVars false
namespace Go.Proofs.YtoiakcgdkegncaaGreat
open Go.RowKit Ice
attribute [local irreducible] CC RR Tr
section
variable {α : Type} [Inhabited α]
theorem ag {d : Array α} {i : Nat} (h : i < d.size) : d.toList[i]? = some d[i]! := by
  simp [h]
theorem swp_list {d : Array α} {i j : Nat} : (Go.Sort.swp d i j).toList = (d.toList.set i d[j]!).set j d[i]! := by simp [Go.Sort.swp]
theorem swp_size {d : Array α} {i j : Nat} : (Go.Sort.swp d i j).size = d.size := by simp [Go.Sort.swp]
theorem insInner_size {lt : α → α → Bool} {a : Nat} : ∀ {j : Nat} {d : Array α}, (Go.Sort.insInner lt a j d).size = d.size
  | 0, d => rfl
  | j + 1, d => by
    unfold Go.Sort.insInner
    split
    · rw [insInner_size, swp_size]
    · rfl
theorem insOuter_size {lt : α → α → Bool} {a b i : Nat} {d : Array α} : (Go.Sort.insOuter lt a b i d).size = d.size := by
  fun_induction Go.Sort.insOuter lt a b i d with
  | case1 i d h ih => rw [ih, insInner_size]
  | case2 => rfl
theorem insInner_yes {lt : α → α → Bool} {a j : Nat} {d : Array α} (h : a < j + 1) (hl : lt d[j + 1]! d[j]! = true) : Go.Sort.insInner lt a (j + 1) d = Go.Sort.insInner lt a j (Go.Sort.swp d (j + 1) j) := by
  rw [Go.Sort.insInner, if_pos (by simp [h, hl])]
theorem insInner_no {lt : α → α → Bool} {a j : Nat} {d : Array α} (hl : lt d[j + 1]! d[j]! = false) : Go.Sort.insInner lt a (j + 1) d = d := by
  rw [Go.Sort.insInner, if_neg (by simp [hl])]
theorem insInner_end {lt : α → α → Bool} {a j : Nat} {d : Array α} (h : ¬ a < j) : Go.Sort.insInner lt a j d = d := by
  cases j with
  | zero => rfl
  | succ j => rw [Go.Sort.insInner, if_neg (by simp; intro h'; omega)]
theorem insOuter_go {lt : α → α → Bool} {a b i : Nat} {d : Array α} (h : i < b) : Go.Sort.insOuter lt a b i d = Go.Sort.insOuter lt a b (i + 1) (Go.Sort.insInner lt a i d) := by
  rw [Go.Sort.insOuter, if_pos h]
theorem insOuter_end {lt : α → α → Bool} {a b i : Nat} {d : Array α} (h : ¬ i < b) : Go.Sort.insOuter lt a b i d = d := by
  rw [Go.Sort.insOuter, if_neg h]
end
theorem succ_of {a j : Nat} (h : (a : Int) < (j : Int)) : ∃ j', j = j' + 1 := ⟨j - 1, by omega⟩
theorem insPt_tr (b cap fn a e : Nat) (d : Array PtS) (caps rest : List Value) (cmp : PtS → PtS → Int) (X : SL) (hl : d.size ≤ 2 ^ 30) (hab : a ≤ e) (he : e ≤ d.size)
    (hp : ∀ x y, Tr Tryz.prog fn ((fun g : PtS => Value.agg (ptV g).toArray) x :: (fun g : PtS => Value.agg (ptV g).toArray) y :: caps).toArray X (fun v => pu (v = i64 (cmp x y)) * X)) :
    Tr Tryz.prog 208 #[.slice (some ⟨b, 0, none⟩) d.size cap, i64 a, i64 e, .func (.func fn) #[] caps.toArray] (bl b 224 (d.toList.flatMap ptV ++ rest) * X)
      (fun v => pu (v = unit) * (bl b 224 ((Go.Sort.insertionSort (fun x y => decide (cmp x y < 0)) d a e).toList.flatMap ptV ++ rest) * X)) := by
  have hw : ∀ (ys : List PtS), ∀ x ∈ ys, (ptV x).length = 2 := fun _ _ _ => rfl
  refine tr_body Tryz.func208 (by kernel_rfl) rfl Tryz.ntmps208 rfl (L := [(0, .slice (some ⟨b, 0, none⟩) d.size cap), (1, i64 a), (2, i64 e), (3, .func (.func fn) #[] caps.toArray)]) (covers_cons rfl (covers_cons rfl (covers_cons rfl (covers_cons rfl covers_nil)))) rfl ?_
  intro F w0 f
  generalize hlt : (fun x y => decide (cmp x y < 0)) = lt
  have hlt' : ∀ x y, decide (cmp x y < 0) = lt x y := fun x y => by rw [← hlt]
  refine cc_seq ?_
  refine cc_region ?_
  refine rr_move rfl rfl ?_
  refine r_add rfl rfl rfl (by omega) ?_
  refine rr_assign rfl rfl ?_
  refine rr_nil ?_
  refine cc_block ?_
  refine cc_loopW (α := (Nat × Array PtS)) (fun ⟨i, d1⟩ => [(8, i64 i), (0, .slice (some ⟨b, 0, none⟩) d.size cap), (1, i64 a), (2, i64 e), (3, .func (.func fn) #[] caps.toArray)]) (fun ⟨i, d1⟩ => pu (Go.Sort.insOuter lt a e i d1 = Go.Sort.insertionSort lt d a e ∧ d1.size = d.size ∧ a + 1 ≤ i) * (bl b 224 (d1.toList.flatMap ptV ++ rest) * X * F)) (fun ⟨i, d1⟩ => e - i) ((a + 1, d)) (by ((repeat' (first | exact covers_nil | (refine covers_cons ?_ ?_; focus (first | rfl | (simp [lk, lk?]; done))))) ; (first | done | fail))) (by exact entW_pu ⟨rfl, rfl, by omega⟩ entW_fr) ?_
  rintro ⟨i, d1⟩ f
  refine CC.pu fun hh => ?_
  obtain ⟨hh1, hh2, hh3⟩ := hh
  refine cc_seq ?_
  refine cc_seq ?_
  refine cc_region ?_
  refine rr_move rfl rfl ?_
  refine rr_move rfl rfl ?_
  refine r_int rfl rfl rfl rfl ?_
  refine rr_nil ?_
  refine cc_cond rfl (fun h14 => ?_) (fun h14 => ?_)
  · try simp only [decide_eq_true_eq, decide_eq_false_iff_not, beq_iff_eq, beq_eq_false_iff_ne, bne_iff_ne, bne_eq_false_iff_eq, ne_eq, Bool.not_eq_eq_eq_not, Bool.not_true, Bool.not_false] at h14
    rw [insOuter_go (by omega)] at hh1
    refine cc_skip ?_
    refine cc_seq ?_
    refine cc_block ?_
    refine cc_seq ?_
    refine cc_region ?_
    refine rr_move rfl rfl ?_
    refine rr_assign rfl rfl ?_
    refine rr_nil ?_
    refine cc_block ?_
    refine cc_loopW (α := (Nat × Array PtS)) (fun ⟨j, d2⟩ => [(9, i64 j), (8, i64 i), (0, .slice (some ⟨b, 0, none⟩) d.size cap), (1, i64 a), (2, i64 e), (3, .func (.func fn) #[] caps.toArray)]) (fun ⟨j, d2⟩ => pu (Go.Sort.insInner lt a j d2 = Go.Sort.insInner lt a i d1 ∧ d2.size = d.size ∧ j ≤ i) * (bl b 224 (d2.toList.flatMap ptV ++ rest) * X * F)) (fun ⟨j, d2⟩ => j) ((i, d1)) (by ((repeat' (first | exact covers_nil | (refine covers_cons ?_ ?_; focus (first | rfl | (simp [lk, lk?]; done))))) ; (first | done | fail))) (by exact entW_pu ⟨rfl, hh2, by omega⟩ entW_fr) ?_
    rintro ⟨j, d2⟩ f
    refine CC.pu fun gg => ?_
    obtain ⟨gg1, gg2, gg3⟩ := gg
    refine cc_seq ?_
    refine cc_seq ?_
    refine cc_draw (bl b 224 (d2.toList.flatMap ptV ++ rest)) [] [] mixed (by decide +kernel) ?_
    refine rr_move rfl rfl ?_
    refine rr_move rfl rfl ?_
    refine r_int rfl rfl rfl rfl ?_
    refine rr_move rfl rfl ?_
    refine rr_guard rfl rfl rfl (fun hg4_3 => ?_) (fun hg4_3 => ?_)
    · try simp only [decide_eq_true_eq, decide_eq_false_iff_not, beq_iff_eq, beq_eq_false_iff_ne, bne_iff_ne, bne_eq_false_iff_eq, ne_eq, Bool.not_eq_eq_eq_not, Bool.not_true, Bool.not_false] at hg4_3
      try (obtain ⟨j, rfl⟩ := succ_of hg4_3
           have hv1 : cutR (d2.toList.flatMap ptV ++ rest) (0 + ((j + 1 : Nat) : Int).toNat * 2) 2 [] = some (ptV d2[j + 1]!) := by
             rw [show 0 + ((j + 1 : Nat) : Int).toNat * 2 = (j + 1) * 2 + 0 by omega]; exact cut_fm (hw _) (ag (by omega)) rfl rest
           have hv0 : cutR (d2.toList.flatMap ptV ++ rest) (0 + (j : Int).toNat * 2) 2 [] = some (ptV d2[j]!) := by
             rw [show 0 + (j : Int).toNat * 2 = j * 2 + 0 by omega]; exact cut_fm (hw _) (ag (by omega)) rfl rest)
      refine rr_move rfl rfl ?_
      refine rr_guardY rfl rfl rfl ?_
      refine rr_move rfl rfl ?_
      refine rr_guardY rfl rfl rfl ?_
      refine rr_move rfl rfl ?_
      refine rr_guardY rfl rfl rfl ?_
      refine r_ix rfl rfl rfl (by omega) ?_
      refine rr_guardY rfl rfl rfl ?_
      first | refine r_lda rfl (ls0 rfl) hv1 rfl ?_ | refine r_lda rfl (ls1 rfl) hv1 rfl ?_
      refine rr_guardY rfl rfl rfl ?_
      refine rr_move rfl rfl ?_
      refine rr_guardY rfl rfl rfl ?_
      refine rr_move rfl rfl ?_
      refine rr_guardY rfl rfl rfl ?_
      refine r_sub rfl rfl rfl (by omega) ?_
      rw [show (((j + 1 : Nat) : Int) - 1) = ((j : Nat) : Int) by omega]
      refine rr_guardY rfl rfl rfl ?_
      refine r_ix rfl rfl rfl (by omega) ?_
      refine rr_guardY rfl rfl rfl ?_
      first | refine r_lda rfl (ls0 rfl) hv0 rfl ?_ | refine r_lda rfl (ls1 rfl) hv0 rfl ?_
      refine rr_guardY rfl rfl rfl ?_
      refine rr_call rfl rfl rfl rfl (hp d2[j + 1]! d2[j]!) inferInstance rfl (sd0 rfl) (fun _ => sd0 rfl) rfl (fun v => ?_)
      first | refine RR.pu2 ?_ | refine RR.pu ?_
      rintro rfl
      refine rr_guardY rfl rfl rfl ?_
      refine r_int rfl rfl rfl rfl ?_
      first | refine rr_pick rfl rfl ?_ | refine rr_pickb rfl rfl rfl rfl ?_
      refine rr_nil ?_
      refine cc_cond rfl (fun h34 => ?_) (fun h34 => ?_)
      · try simp only [decide_eq_true_eq, decide_eq_false_iff_not, beq_iff_eq, beq_eq_false_iff_ne, bne_iff_ne, bne_eq_false_iff_eq, ne_eq, Bool.not_eq_eq_eq_not, Bool.not_true, Bool.not_false] at h34
        try (exfalso; simp at h34; done)
        all_goals (
          have hset1 := set_fm (hw _) (ag (d := d2) (i := j + 1) (by omega)) (j := 0) (y := d2[j]!) (vs := ptV d2[j]!) rfl (Nat.le_of_ble_eq_true rfl) rest
          have hset2 := set_fm (hw _) (l := d2.toList.set (j + 1) d2[j]!) (i := j) (x := d2[j]!) (by rw [List.getElem?_set_ne (by omega)]; exact ag (by omega)) (j := 0) (y := d2[j + 1]!) (vs := ptV d2[j + 1]!) rfl (Nat.le_of_ble_eq_true rfl) rest
          rw [← swp_list] at hset2
          rw [show (j + 1) * 2 + 0 = 0 + ((j + 1 : Nat) : Int).toNat * 2 by omega] at hset1
          rw [show j * 2 + 0 = 0 + (j : Int).toNat * 2 by omega] at hset2
          have hsl1 : 0 + ((j + 1 : Nat) : Int).toNat * 2 + (ptV d2[j]!).length ≤ (d2.toList.flatMap ptV ++ rest).length := by
            have hc : (ptV d2[j]!).length = 2 := hw [d2[j]!] _ (by simp)
            have hz : d2.toList.length = d2.size := Array.length_toList
            rw [List.length_append, fm_len (hw _), hc, hz]; omega
          have hsl2 : 0 + (j : Int).toNat * 2 + (ptV d2[j + 1]!).length ≤ ((d2.toList.set (j + 1) d2[j]!).flatMap ptV ++ rest).length := by
            have hc : (ptV d2[j + 1]!).length = 2 := hw [d2[j + 1]!] _ (by simp)
            have hz : d2.toList.length = d2.size := Array.length_toList
            rw [List.length_append, fm_len (hw _), hc, List.length_set, hz]; omega
          have hst : lt d2[j + 1]! d2[j]! = true := by rw [← hlt']; simpa using h34
          rw [insInner_yes (by omega) hst] at gg1
          refine cc_skip ?_
          refine cc_seq ?_
          refine cc_block ?_
          refine cc_draw (bl b 224 (d2.toList.flatMap ptV ++ rest)) [] [] mixed (by decide +kernel) ?_
          refine rr_move rfl rfl ?_
          refine rr_move rfl rfl ?_
          refine rr_move rfl rfl ?_
          refine rr_move rfl rfl ?_
          refine r_sub rfl rfl rfl (by omega) ?_
          rw [show (((j + 1 : Nat) : Int) - 1) = ((j : Nat) : Int) by omega]
          refine rr_move rfl rfl ?_
          refine rr_move rfl rfl ?_
          refine r_sub rfl rfl rfl (by omega) ?_
          rw [show (((j + 1 : Nat) : Int) - 1) = ((j : Nat) : Int) by omega]
          refine r_ix rfl rfl rfl (by omega) ?_
          first | refine r_lda rfl (ls0 rfl) hv0 rfl ?_ | refine r_lda rfl (ls1 rfl) hv0 rfl ?_
          refine rr_move rfl rfl ?_
          refine rr_move rfl rfl ?_
          refine r_ix rfl rfl rfl (by omega) ?_
          first | refine r_lda rfl (ls0 rfl) hv1 rfl ?_ | refine r_lda rfl (ls1 rfl) hv1 rfl ?_
          refine r_ix rfl rfl rfl (by omega) ?_
          refine r_sta rfl rfl rfl rfl hset1 hsl1 (sd0 rfl) (sd0 rfl) ?_
          refine r_ix rfl rfl rfl (by omega) ?_
          refine r_sta rfl rfl rfl rfl hset2 hsl2 (sd0 rfl) (sd0 rfl) ?_
          refine rr_nil ?_
          refine cc_region ?_
          refine rr_move rfl rfl ?_
          refine r_sub rfl rfl rfl (by omega) ?_
          rw [show (((j + 1 : Nat) : Int) - 1) = ((j : Nat) : Int) by omega]
          refine rr_assign rfl rfl ?_
          refine rr_nil ?_
          exact ⟨(j, Go.Sort.swp d2 (j + 1) j), (by show j < j + 1; omega), by ((repeat' (first | exact covers_nil | (refine covers_cons ?_ ?_; focus (first | rfl | (simp [lk, lk?]; done))))) ; (first | done | fail)), entW_pu ⟨gg1, by rw [swp_size]; exact gg2, by omega⟩ entW_fr⟩)
      · try simp only [decide_eq_true_eq, decide_eq_false_iff_not, beq_iff_eq, beq_eq_false_iff_ne, bne_iff_ne, bne_eq_false_iff_eq, ne_eq, Bool.not_eq_eq_eq_not, Bool.not_true, Bool.not_false] at h34
        try (exfalso; simp at h34; done)
        all_goals (
          have hfin : d2 = Go.Sort.insInner lt a i d1 := by
            rw [← gg1]
            first
            | exact (insInner_no (by rw [← hlt']; simpa using h34)).symm
            | exact (insInner_end (by omega)).symm
          refine cc_exit ?_
          refine cc_region ?_
          refine rr_move rfl rfl ?_
          refine r_add rfl rfl rfl (by omega) ?_
          refine rr_assign rfl rfl ?_
          refine rr_nil ?_
          exact ⟨(i + 1, d2), (by show e - (i + 1) < e - i; omega), by ((repeat' (first | exact covers_nil | (refine covers_cons ?_ ?_; focus (first | rfl | (simp [lk, lk?]; done))))) ; (first | done | fail)), entW_pu ⟨by rw [hfin]; exact hh1, gg2, by omega⟩ entW_fr⟩)
    · try simp only [decide_eq_true_eq, decide_eq_false_iff_not, beq_iff_eq, beq_eq_false_iff_ne, bne_iff_ne, bne_eq_false_iff_eq, ne_eq, Bool.not_eq_eq_eq_not, Bool.not_true, Bool.not_false] at hg4_3
      try (obtain ⟨j, rfl⟩ := succ_of hg4_3
           have hv1 : cutR (d2.toList.flatMap ptV ++ rest) (0 + ((j + 1 : Nat) : Int).toNat * 2) 2 [] = some (ptV d2[j + 1]!) := by
             rw [show 0 + ((j + 1 : Nat) : Int).toNat * 2 = (j + 1) * 2 + 0 by omega]; exact cut_fm (hw _) (ag (by omega)) rfl rest
           have hv0 : cutR (d2.toList.flatMap ptV ++ rest) (0 + (j : Int).toNat * 2) 2 [] = some (ptV d2[j]!) := by
             rw [show 0 + (j : Int).toNat * 2 = j * 2 + 0 by omega]; exact cut_fm (hw _) (ag (by omega)) rfl rest)
      refine rr_guardN rfl rfl rfl rfl ?_
      refine rr_guardN rfl rfl rfl rfl ?_
      refine rr_guardN rfl rfl rfl rfl ?_
      refine rr_guardN rfl rfl rfl rfl ?_
      refine rr_guardN rfl rfl rfl rfl ?_
      refine rr_guardN rfl rfl rfl rfl ?_
      refine rr_guardN rfl rfl rfl rfl ?_
      refine rr_guardN rfl rfl rfl rfl ?_
      refine rr_guardN rfl rfl rfl rfl ?_
      refine rr_guardN rfl rfl rfl rfl ?_
      refine rr_guardN rfl rfl rfl rfl ?_
      first | refine rr_pick rfl rfl ?_ | refine rr_pickb rfl rfl rfl rfl ?_
      refine rr_nil ?_
      refine cc_cond rfl (fun h34 => ?_) (fun h34 => ?_)
      · try simp only [decide_eq_true_eq, decide_eq_false_iff_not, beq_iff_eq, beq_eq_false_iff_ne, bne_iff_ne, bne_eq_false_iff_eq, ne_eq, Bool.not_eq_eq_eq_not, Bool.not_true, Bool.not_false] at h34
        try (exfalso; simp at h34; done)
        all_goals (
          have hset1 := set_fm (hw _) (ag (d := d2) (i := j + 1) (by omega)) (j := 0) (y := d2[j]!) (vs := ptV d2[j]!) rfl (Nat.le_of_ble_eq_true rfl) rest
          have hset2 := set_fm (hw _) (l := d2.toList.set (j + 1) d2[j]!) (i := j) (x := d2[j]!) (by rw [List.getElem?_set_ne (by omega)]; exact ag (by omega)) (j := 0) (y := d2[j + 1]!) (vs := ptV d2[j + 1]!) rfl (Nat.le_of_ble_eq_true rfl) rest
          rw [← swp_list] at hset2
          rw [show (j + 1) * 2 + 0 = 0 + ((j + 1 : Nat) : Int).toNat * 2 by omega] at hset1
          rw [show j * 2 + 0 = 0 + (j : Int).toNat * 2 by omega] at hset2
          have hsl1 : 0 + ((j + 1 : Nat) : Int).toNat * 2 + (ptV d2[j]!).length ≤ (d2.toList.flatMap ptV ++ rest).length := by
            have hc : (ptV d2[j]!).length = 2 := hw [d2[j]!] _ (by simp)
            have hz : d2.toList.length = d2.size := Array.length_toList
            rw [List.length_append, fm_len (hw _), hc, hz]; omega
          have hsl2 : 0 + (j : Int).toNat * 2 + (ptV d2[j + 1]!).length ≤ ((d2.toList.set (j + 1) d2[j]!).flatMap ptV ++ rest).length := by
            have hc : (ptV d2[j + 1]!).length = 2 := hw [d2[j + 1]!] _ (by simp)
            have hz : d2.toList.length = d2.size := Array.length_toList
            rw [List.length_append, fm_len (hw _), hc, List.length_set, hz]; omega
          have hst : lt d2[j + 1]! d2[j]! = true := by rw [← hlt']; simpa using h34
          rw [insInner_yes (by omega) hst] at gg1
          refine cc_skip ?_
          refine cc_seq ?_
          refine cc_block ?_
          refine cc_draw (bl b 224 (d2.toList.flatMap ptV ++ rest)) [] [] mixed (by decide +kernel) ?_
          refine rr_move rfl rfl ?_
          refine rr_move rfl rfl ?_
          refine rr_move rfl rfl ?_
          refine rr_move rfl rfl ?_
          refine r_sub rfl rfl rfl (by omega) ?_
          rw [show (((j + 1 : Nat) : Int) - 1) = ((j : Nat) : Int) by omega]
          refine rr_move rfl rfl ?_
          refine rr_move rfl rfl ?_
          refine r_sub rfl rfl rfl (by omega) ?_
          rw [show (((j + 1 : Nat) : Int) - 1) = ((j : Nat) : Int) by omega]
          refine r_ix rfl rfl rfl (by omega) ?_
          first | refine r_lda rfl (ls0 rfl) hv0 rfl ?_ | refine r_lda rfl (ls1 rfl) hv0 rfl ?_
          refine rr_move rfl rfl ?_
          refine rr_move rfl rfl ?_
          refine r_ix rfl rfl rfl (by omega) ?_
          first | refine r_lda rfl (ls0 rfl) hv1 rfl ?_ | refine r_lda rfl (ls1 rfl) hv1 rfl ?_
          refine r_ix rfl rfl rfl (by omega) ?_
          refine r_sta rfl rfl rfl rfl hset1 hsl1 (sd0 rfl) (sd0 rfl) ?_
          refine r_ix rfl rfl rfl (by omega) ?_
          refine r_sta rfl rfl rfl rfl hset2 hsl2 (sd0 rfl) (sd0 rfl) ?_
          refine rr_nil ?_
          refine cc_region ?_
          refine rr_move rfl rfl ?_
          refine r_sub rfl rfl rfl (by omega) ?_
          rw [show (((j + 1 : Nat) : Int) - 1) = ((j : Nat) : Int) by omega]
          refine rr_assign rfl rfl ?_
          refine rr_nil ?_
          exact ⟨(j, Go.Sort.swp d2 (j + 1) j), (by show j < j + 1; omega), by ((repeat' (first | exact covers_nil | (refine covers_cons ?_ ?_; focus (first | rfl | (simp [lk, lk?]; done))))) ; (first | done | fail)), entW_pu ⟨gg1, by rw [swp_size]; exact gg2, by omega⟩ entW_fr⟩)
      · try simp only [decide_eq_true_eq, decide_eq_false_iff_not, beq_iff_eq, beq_eq_false_iff_ne, bne_iff_ne, bne_eq_false_iff_eq, ne_eq, Bool.not_eq_eq_eq_not, Bool.not_true, Bool.not_false] at h34
        try (exfalso; simp at h34; done)
        all_goals (
          have hfin : d2 = Go.Sort.insInner lt a i d1 := by
            rw [← gg1]
            first
            | exact (insInner_no (by rw [← hlt']; simpa using h34)).symm
            | exact (insInner_end (by omega)).symm
          refine cc_exit ?_
          refine cc_region ?_
          refine rr_move rfl rfl ?_
          refine r_add rfl rfl rfl (by omega) ?_
          refine rr_assign rfl rfl ?_
          refine rr_nil ?_
          exact ⟨(i + 1, d2), (by show e - (i + 1) < e - i; omega), by ((repeat' (first | exact covers_nil | (refine covers_cons ?_ ?_; focus (first | rfl | (simp [lk, lk?]; done))))) ; (first | done | fail)), entW_pu ⟨by rw [hfin]; exact hh1, gg2, by omega⟩ entW_fr⟩)
  · try simp only [decide_eq_true_eq, decide_eq_false_iff_not, beq_iff_eq, beq_eq_false_iff_ne, bne_iff_ne, bne_eq_false_iff_eq, ne_eq, Bool.not_eq_eq_eq_not, Bool.not_true, Bool.not_false] at h14
    rw [insOuter_end (by omega)] at hh1
    refine cc_exit ?_
    exact ⟨_, rfl, entW_pu2 rfl (by rw [← hh1]; exact entW_fr)⟩
def ltS (a b : Txt) : Bool := Op.bytesLess a b
theorem isNaNS_tr (a : Txt) : Tr Tryz.prog 245 #[str a] 1 (fun v => pu (v = .bool false)) := by
  refine tr_body Tryz.func245 (by kernel_rfl) rfl Tryz.ntmps245 rfl (L := [(0, str a)]) (covers_cons rfl covers_nil) rfl ?_
  intro F w0 f
  rw [sl_one_mul]
  refine cc_seq ?_
  refine cc_region ?_
  refine rr_assign rfl rfl ?_
  refine rr_nil ?_
  refine cc_seq ?_
  refine cc_region ?_
  refine rr_move rfl rfl ?_
  refine rr_move rfl rfl ?_
  first | refine r_strx rfl rfl rfl rfl ?_ | refine r_str rfl rfl rfl rfl ?_
  refine rr_assign rfl rfl ?_
  refine rr_nil ?_
  refine cc_ret ?_
  exact ⟨_, rfl, entW_pu (by simp) entW_fr⟩
theorem lessS_tr (a b : Txt) : Tr Tryz.prog 235 #[str a, str b] 1 (fun v => pu (v = .bool (ltS a b))) := by
  refine tr_body Tryz.func235 (by kernel_rfl) rfl Tryz.ntmps235 rfl (L := [(0, str a), (1, str b)]) (covers_cons rfl (covers_cons rfl covers_nil)) rfl ?_
  intro F w0 f
  rw [sl_one_mul]
  refine cc_seq ?_
  refine cc_region ?_
  refine rr_assign rfl rfl ?_
  refine rr_nil ?_
  refine cc_seq ?_
  refine cc_region ?_
  refine rr_move rfl rfl ?_
  refine rr_call rfl rfl rfl rfl (isNaNS_tr a) inferInstance rfl (sd0 rfl) (fun _ => sd0 rfl) rfl (fun v => ?_)
  first | refine RR.pu2 ?_ | refine RR.pu ?_
  rintro rfl
  refine rr_move rfl rfl ?_
  refine rr_guardN rfl rfl rfl rfl ?_
  refine rr_guardN rfl rfl rfl rfl ?_
  refine rr_guardN rfl rfl rfl rfl ?_
  first | refine rr_pick rfl rfl ?_ | refine rr_pickb rfl rfl rfl rfl ?_
  refine rr_move rfl rfl ?_
  refine rr_guardY rfl rfl rfl ?_
  refine rr_move rfl rfl ?_
  refine rr_guardY rfl rfl rfl ?_
  refine rr_move rfl rfl ?_
  refine rr_guardY rfl rfl rfl ?_
  first | refine r_strx rfl rfl rfl rfl ?_ | refine r_str rfl rfl rfl rfl ?_
  first | refine rr_pick rfl rfl ?_ | refine rr_pickb rfl rfl rfl rfl ?_
  refine rr_assign rfl rfl ?_
  refine rr_nil ?_
  refine cc_ret ?_
  exact ⟨_, rfl, entW_pu rfl entW_fr⟩
theorem insStr_tr (b cap a e : Nat) (d : Array Txt) (rest : List Value) (hl : d.size ≤ 2 ^ 30) (hab : a ≤ e) (he : e ≤ d.size) :
    Tr Tryz.prog 229 #[.slice (some ⟨b, 0, none⟩) d.size cap, i64 a, i64 e] (bl b 9 (d.toList.flatMap (fun g : Txt => [str g]) ++ rest))
      (fun v => pu (v = unit) * (bl b 9 ((Go.Sort.insertionSort ltS d a e).toList.flatMap (fun g : Txt => [str g]) ++ rest))) := by
  have hw : ∀ (ys : List Txt), ∀ x ∈ ys, ((fun g : Txt => [str g]) x).length = 1 := fun _ _ _ => rfl
  refine tr_body Tryz.func229 (by kernel_rfl) rfl Tryz.ntmps229 rfl (L := [(0, .slice (some ⟨b, 0, none⟩) d.size cap), (1, i64 a), (2, i64 e)]) (covers_cons rfl (covers_cons rfl (covers_cons rfl covers_nil))) rfl ?_
  intro F w0 f
  generalize hlt : ltS = lt
  have hlt' : ∀ x y, ltS x y = lt x y := fun x y => by rw [← hlt]
  refine cc_seq ?_
  refine cc_region ?_
  refine rr_move rfl rfl ?_
  refine r_add rfl rfl rfl (by omega) ?_
  refine rr_assign rfl rfl ?_
  refine rr_nil ?_
  refine cc_block ?_
  refine cc_loopW (α := (Nat × Array Txt)) (fun ⟨i, d1⟩ => [(6, i64 i), (0, .slice (some ⟨b, 0, none⟩) d.size cap), (1, i64 a), (2, i64 e)]) (fun ⟨i, d1⟩ => pu (Go.Sort.insOuter lt a e i d1 = Go.Sort.insertionSort lt d a e ∧ d1.size = d.size ∧ a + 1 ≤ i) * (bl b 9 (d1.toList.flatMap (fun g : Txt => [str g]) ++ rest) * F)) (fun ⟨i, d1⟩ => e - i) ((a + 1, d)) (by ((repeat' (first | exact covers_nil | (refine covers_cons ?_ ?_; focus (first | rfl | (simp [lk, lk?]; done))))) ; (first | done | fail))) (by exact entW_pu ⟨rfl, rfl, by omega⟩ entW_fr) ?_
  rintro ⟨i, d1⟩ f
  refine CC.pu fun hh => ?_
  obtain ⟨hh1, hh2, hh3⟩ := hh
  refine cc_seq ?_
  refine cc_seq ?_
  refine cc_region ?_
  refine rr_move rfl rfl ?_
  refine rr_move rfl rfl ?_
  refine r_int rfl rfl rfl rfl ?_
  refine rr_nil ?_
  refine cc_cond rfl (fun h12 => ?_) (fun h12 => ?_)
  · try simp only [decide_eq_true_eq, decide_eq_false_iff_not, beq_iff_eq, beq_eq_false_iff_ne, bne_iff_ne, bne_eq_false_iff_eq, ne_eq, Bool.not_eq_eq_eq_not, Bool.not_true, Bool.not_false] at h12
    rw [insOuter_go (by omega)] at hh1
    refine cc_skip ?_
    refine cc_seq ?_
    refine cc_block ?_
    refine cc_seq ?_
    refine cc_region ?_
    refine rr_move rfl rfl ?_
    refine rr_assign rfl rfl ?_
    refine rr_nil ?_
    refine cc_block ?_
    refine cc_loopW (α := (Nat × Array Txt)) (fun ⟨j, d2⟩ => [(7, i64 j), (6, i64 i), (0, .slice (some ⟨b, 0, none⟩) d.size cap), (1, i64 a), (2, i64 e)]) (fun ⟨j, d2⟩ => pu (Go.Sort.insInner lt a j d2 = Go.Sort.insInner lt a i d1 ∧ d2.size = d.size ∧ j ≤ i) * (bl b 9 (d2.toList.flatMap (fun g : Txt => [str g]) ++ rest) * F)) (fun ⟨j, d2⟩ => j) ((i, d1)) (by ((repeat' (first | exact covers_nil | (refine covers_cons ?_ ?_; focus (first | rfl | (simp [lk, lk?]; done))))) ; (first | done | fail))) (by exact entW_pu ⟨rfl, hh2, by omega⟩ entW_fr) ?_
    rintro ⟨j, d2⟩ f
    refine CC.pu fun gg => ?_
    obtain ⟨gg1, gg2, gg3⟩ := gg
    refine cc_seq ?_
    refine cc_seq ?_
    refine cc_draw (bl b 9 (d2.toList.flatMap (fun g : Txt => [str g]) ++ rest)) [] [] mixed (by decide +kernel) ?_
    refine rr_move rfl rfl ?_
    refine rr_move rfl rfl ?_
    refine r_int rfl rfl rfl rfl ?_
    refine rr_move rfl rfl ?_
    refine rr_guard rfl rfl rfl (fun hg4_3 => ?_) (fun hg4_3 => ?_)
    · try simp only [decide_eq_true_eq, decide_eq_false_iff_not, beq_iff_eq, beq_eq_false_iff_ne, bne_iff_ne, bne_eq_false_iff_eq, ne_eq, Bool.not_eq_eq_eq_not, Bool.not_true, Bool.not_false] at hg4_3
      try (obtain ⟨j, rfl⟩ := succ_of hg4_3
           have hv1 : cutR (d2.toList.flatMap (fun g : Txt => [str g]) ++ rest) (0 + ((j + 1 : Nat) : Int).toNat * 1) 1 [] = some ((fun g : Txt => [str g]) d2[j + 1]!) := by
             rw [show 0 + ((j + 1 : Nat) : Int).toNat * 1 = (j + 1) * 1 + 0 by omega]; exact cut_fm (hw _) (ag (by omega)) rfl rest
           have hv0 : cutR (d2.toList.flatMap (fun g : Txt => [str g]) ++ rest) (0 + (j : Int).toNat * 1) 1 [] = some ((fun g : Txt => [str g]) d2[j]!) := by
             rw [show 0 + (j : Int).toNat * 1 = j * 1 + 0 by omega]; exact cut_fm (hw _) (ag (by omega)) rfl rest)
      refine rr_move rfl rfl ?_
      refine rr_guardY rfl rfl rfl ?_
      refine rr_move rfl rfl ?_
      refine rr_guardY rfl rfl rfl ?_
      refine r_ix rfl rfl rfl (by omega) ?_
      refine rr_guardY rfl rfl rfl ?_
      first | refine r_ld rfl (ls0 rfl) (nth_cut1 hv1) rfl ?_ | refine r_ld rfl (ls1 rfl) (nth_cut1 hv1) rfl ?_
      refine rr_guardY rfl rfl rfl ?_
      refine rr_move rfl rfl ?_
      refine rr_guardY rfl rfl rfl ?_
      refine rr_move rfl rfl ?_
      refine rr_guardY rfl rfl rfl ?_
      refine r_sub rfl rfl rfl (by omega) ?_
      rw [show (((j + 1 : Nat) : Int) - 1) = ((j : Nat) : Int) by omega]
      refine rr_guardY rfl rfl rfl ?_
      refine r_ix rfl rfl rfl (by omega) ?_
      refine rr_guardY rfl rfl rfl ?_
      first | refine r_ld rfl (ls0 rfl) (nth_cut1 hv0) rfl ?_ | refine r_ld rfl (ls1 rfl) (nth_cut1 hv0) rfl ?_
      refine rr_guardY rfl rfl rfl ?_
      refine rr_call rfl rfl rfl rfl (lessS_tr d2[j + 1]! d2[j]!) inferInstance rfl (sd0 rfl) (fun _ => sd0 rfl) rfl (fun v => ?_)
      first | refine RR.pu2 ?_ | refine RR.pu ?_
      rintro rfl
      first | refine rr_pick rfl rfl ?_ | refine rr_pickb rfl rfl rfl rfl ?_
      refine rr_nil ?_
      refine cc_cond rfl (fun h30 => ?_) (fun h30 => ?_)
      · try simp only [decide_eq_true_eq, decide_eq_false_iff_not, beq_iff_eq, beq_eq_false_iff_ne, bne_iff_ne, bne_eq_false_iff_eq, ne_eq, Bool.not_eq_eq_eq_not, Bool.not_true, Bool.not_false] at h30
        try (exfalso; simp at h30; done)
        all_goals (
          have hset1 := set_fm (hw _) (ag (d := d2) (i := j + 1) (by omega)) (j := 0) (y := d2[j]!) (vs := (fun g : Txt => [str g]) d2[j]!) rfl (Nat.le_of_ble_eq_true rfl) rest
          have hset2 := set_fm (hw _) (l := d2.toList.set (j + 1) d2[j]!) (i := j) (x := d2[j]!) (by rw [List.getElem?_set_ne (by omega)]; exact ag (by omega)) (j := 0) (y := d2[j + 1]!) (vs := (fun g : Txt => [str g]) d2[j + 1]!) rfl (Nat.le_of_ble_eq_true rfl) rest
          rw [← swp_list] at hset2
          rw [show (j + 1) * 1 + 0 = 0 + ((j + 1 : Nat) : Int).toNat * 1 by omega] at hset1
          rw [show j * 1 + 0 = 0 + (j : Int).toNat * 1 by omega] at hset2
          have hsl1 : 0 + ((j + 1 : Nat) : Int).toNat * 1 + ((fun g : Txt => [str g]) d2[j]!).length ≤ (d2.toList.flatMap (fun g : Txt => [str g]) ++ rest).length := by
            have hc : ((fun g : Txt => [str g]) d2[j]!).length = 1 := hw [d2[j]!] _ (by simp)
            have hz : d2.toList.length = d2.size := Array.length_toList
            rw [List.length_append, fm_len (hw _), hc, hz]; omega
          have hsl2 : 0 + (j : Int).toNat * 1 + ((fun g : Txt => [str g]) d2[j + 1]!).length ≤ ((d2.toList.set (j + 1) d2[j]!).flatMap (fun g : Txt => [str g]) ++ rest).length := by
            have hc : ((fun g : Txt => [str g]) d2[j + 1]!).length = 1 := hw [d2[j + 1]!] _ (by simp)
            have hz : d2.toList.length = d2.size := Array.length_toList
            rw [List.length_append, fm_len (hw _), hc, List.length_set, hz]; omega
          have hst : lt d2[j + 1]! d2[j]! = true := by rw [← hlt']; simpa using h30
          rw [insInner_yes (by omega) hst] at gg1
          refine cc_skip ?_
          refine cc_seq ?_
          refine cc_block ?_
          refine cc_draw (bl b 9 (d2.toList.flatMap (fun g : Txt => [str g]) ++ rest)) [] [] mixed (by decide +kernel) ?_
          refine rr_move rfl rfl ?_
          refine rr_move rfl rfl ?_
          refine rr_move rfl rfl ?_
          refine rr_move rfl rfl ?_
          refine r_sub rfl rfl rfl (by omega) ?_
          rw [show (((j + 1 : Nat) : Int) - 1) = ((j : Nat) : Int) by omega]
          refine rr_move rfl rfl ?_
          refine rr_move rfl rfl ?_
          refine r_sub rfl rfl rfl (by omega) ?_
          rw [show (((j + 1 : Nat) : Int) - 1) = ((j : Nat) : Int) by omega]
          refine r_ix rfl rfl rfl (by omega) ?_
          first | refine r_ld rfl (ls0 rfl) (nth_cut1 hv0) rfl ?_ | refine r_ld rfl (ls1 rfl) (nth_cut1 hv0) rfl ?_
          refine rr_move rfl rfl ?_
          refine rr_move rfl rfl ?_
          refine r_ix rfl rfl rfl (by omega) ?_
          first | refine r_ld rfl (ls0 rfl) (nth_cut1 hv1) rfl ?_ | refine r_ld rfl (ls1 rfl) (nth_cut1 hv1) rfl ?_
          refine r_ix rfl rfl rfl (by omega) ?_
          refine r_st rfl rfl rfl (setL_of_setR hset1) (sd0 rfl) (sd0 rfl) ?_
          refine r_ix rfl rfl rfl (by omega) ?_
          refine r_st rfl rfl rfl (setL_of_setR hset2) (sd0 rfl) (sd0 rfl) ?_
          refine rr_nil ?_
          refine cc_region ?_
          refine rr_move rfl rfl ?_
          refine r_sub rfl rfl rfl (by omega) ?_
          rw [show (((j + 1 : Nat) : Int) - 1) = ((j : Nat) : Int) by omega]
          refine rr_assign rfl rfl ?_
          refine rr_nil ?_
          exact ⟨(j, Go.Sort.swp d2 (j + 1) j), (by show j < j + 1; omega), by ((repeat' (first | exact covers_nil | (refine covers_cons ?_ ?_; focus (first | rfl | (simp [lk, lk?]; done))))) ; (first | done | fail)), entW_pu ⟨gg1, by rw [swp_size]; exact gg2, by omega⟩ entW_fr⟩)
      · try simp only [decide_eq_true_eq, decide_eq_false_iff_not, beq_iff_eq, beq_eq_false_iff_ne, bne_iff_ne, bne_eq_false_iff_eq, ne_eq, Bool.not_eq_eq_eq_not, Bool.not_true, Bool.not_false] at h30
        try (exfalso; simp at h30; done)
        all_goals (
          have hfin : d2 = Go.Sort.insInner lt a i d1 := by
            rw [← gg1]
            first
            | exact (insInner_no (by rw [← hlt']; simpa using h30)).symm
            | exact (insInner_end (by omega)).symm
          refine cc_exit ?_
          refine cc_region ?_
          refine rr_move rfl rfl ?_
          refine r_add rfl rfl rfl (by omega) ?_
          refine rr_assign rfl rfl ?_
          refine rr_nil ?_
          exact ⟨(i + 1, d2), (by show e - (i + 1) < e - i; omega), by ((repeat' (first | exact covers_nil | (refine covers_cons ?_ ?_; focus (first | rfl | (simp [lk, lk?]; done))))) ; (first | done | fail)), entW_pu ⟨by rw [hfin]; exact hh1, gg2, by omega⟩ entW_fr⟩)
    · try simp only [decide_eq_true_eq, decide_eq_false_iff_not, beq_iff_eq, beq_eq_false_iff_ne, bne_iff_ne, bne_eq_false_iff_eq, ne_eq, Bool.not_eq_eq_eq_not, Bool.not_true, Bool.not_false] at hg4_3
      try (obtain ⟨j, rfl⟩ := succ_of hg4_3
           have hv1 : cutR (d2.toList.flatMap (fun g : Txt => [str g]) ++ rest) (0 + ((j + 1 : Nat) : Int).toNat * 1) 1 [] = some ((fun g : Txt => [str g]) d2[j + 1]!) := by
             rw [show 0 + ((j + 1 : Nat) : Int).toNat * 1 = (j + 1) * 1 + 0 by omega]; exact cut_fm (hw _) (ag (by omega)) rfl rest
           have hv0 : cutR (d2.toList.flatMap (fun g : Txt => [str g]) ++ rest) (0 + (j : Int).toNat * 1) 1 [] = some ((fun g : Txt => [str g]) d2[j]!) := by
             rw [show 0 + (j : Int).toNat * 1 = j * 1 + 0 by omega]; exact cut_fm (hw _) (ag (by omega)) rfl rest)
      refine rr_guardN rfl rfl rfl rfl ?_
      refine rr_guardN rfl rfl rfl rfl ?_
      refine rr_guardN rfl rfl rfl rfl ?_
      refine rr_guardN rfl rfl rfl rfl ?_
      refine rr_guardN rfl rfl rfl rfl ?_
      refine rr_guardN rfl rfl rfl rfl ?_
      refine rr_guardN rfl rfl rfl rfl ?_
      refine rr_guardN rfl rfl rfl rfl ?_
      refine rr_guardN rfl rfl rfl rfl ?_
      first | refine rr_pick rfl rfl ?_ | refine rr_pickb rfl rfl rfl rfl ?_
      refine rr_nil ?_
      refine cc_cond rfl (fun h30 => ?_) (fun h30 => ?_)
      · try simp only [decide_eq_true_eq, decide_eq_false_iff_not, beq_iff_eq, beq_eq_false_iff_ne, bne_iff_ne, bne_eq_false_iff_eq, ne_eq, Bool.not_eq_eq_eq_not, Bool.not_true, Bool.not_false] at h30
        try (exfalso; simp at h30; done)
        all_goals (
          have hset1 := set_fm (hw _) (ag (d := d2) (i := j + 1) (by omega)) (j := 0) (y := d2[j]!) (vs := (fun g : Txt => [str g]) d2[j]!) rfl (Nat.le_of_ble_eq_true rfl) rest
          have hset2 := set_fm (hw _) (l := d2.toList.set (j + 1) d2[j]!) (i := j) (x := d2[j]!) (by rw [List.getElem?_set_ne (by omega)]; exact ag (by omega)) (j := 0) (y := d2[j + 1]!) (vs := (fun g : Txt => [str g]) d2[j + 1]!) rfl (Nat.le_of_ble_eq_true rfl) rest
          rw [← swp_list] at hset2
          rw [show (j + 1) * 1 + 0 = 0 + ((j + 1 : Nat) : Int).toNat * 1 by omega] at hset1
          rw [show j * 1 + 0 = 0 + (j : Int).toNat * 1 by omega] at hset2
          have hsl1 : 0 + ((j + 1 : Nat) : Int).toNat * 1 + ((fun g : Txt => [str g]) d2[j]!).length ≤ (d2.toList.flatMap (fun g : Txt => [str g]) ++ rest).length := by
            have hc : ((fun g : Txt => [str g]) d2[j]!).length = 1 := hw [d2[j]!] _ (by simp)
            have hz : d2.toList.length = d2.size := Array.length_toList
            rw [List.length_append, fm_len (hw _), hc, hz]; omega
          have hsl2 : 0 + (j : Int).toNat * 1 + ((fun g : Txt => [str g]) d2[j + 1]!).length ≤ ((d2.toList.set (j + 1) d2[j]!).flatMap (fun g : Txt => [str g]) ++ rest).length := by
            have hc : ((fun g : Txt => [str g]) d2[j + 1]!).length = 1 := hw [d2[j + 1]!] _ (by simp)
            have hz : d2.toList.length = d2.size := Array.length_toList
            rw [List.length_append, fm_len (hw _), hc, List.length_set, hz]; omega
          have hst : lt d2[j + 1]! d2[j]! = true := by rw [← hlt']; simpa using h30
          rw [insInner_yes (by omega) hst] at gg1
          refine cc_skip ?_
          refine cc_seq ?_
          refine cc_block ?_
          refine cc_draw (bl b 9 (d2.toList.flatMap (fun g : Txt => [str g]) ++ rest)) [] [] mixed (by decide +kernel) ?_
          refine rr_move rfl rfl ?_
          refine rr_move rfl rfl ?_
          refine rr_move rfl rfl ?_
          refine rr_move rfl rfl ?_
          refine r_sub rfl rfl rfl (by omega) ?_
          rw [show (((j + 1 : Nat) : Int) - 1) = ((j : Nat) : Int) by omega]
          refine rr_move rfl rfl ?_
          refine rr_move rfl rfl ?_
          refine r_sub rfl rfl rfl (by omega) ?_
          rw [show (((j + 1 : Nat) : Int) - 1) = ((j : Nat) : Int) by omega]
          refine r_ix rfl rfl rfl (by omega) ?_
          first | refine r_ld rfl (ls0 rfl) (nth_cut1 hv0) rfl ?_ | refine r_ld rfl (ls1 rfl) (nth_cut1 hv0) rfl ?_
          refine rr_move rfl rfl ?_
          refine rr_move rfl rfl ?_
          refine r_ix rfl rfl rfl (by omega) ?_
          first | refine r_ld rfl (ls0 rfl) (nth_cut1 hv1) rfl ?_ | refine r_ld rfl (ls1 rfl) (nth_cut1 hv1) rfl ?_
          refine r_ix rfl rfl rfl (by omega) ?_
          refine r_st rfl rfl rfl (setL_of_setR hset1) (sd0 rfl) (sd0 rfl) ?_
          refine r_ix rfl rfl rfl (by omega) ?_
          refine r_st rfl rfl rfl (setL_of_setR hset2) (sd0 rfl) (sd0 rfl) ?_
          refine rr_nil ?_
          refine cc_region ?_
          refine rr_move rfl rfl ?_
          refine r_sub rfl rfl rfl (by omega) ?_
          rw [show (((j + 1 : Nat) : Int) - 1) = ((j : Nat) : Int) by omega]
          refine rr_assign rfl rfl ?_
          refine rr_nil ?_
          exact ⟨(j, Go.Sort.swp d2 (j + 1) j), (by show j < j + 1; omega), by ((repeat' (first | exact covers_nil | (refine covers_cons ?_ ?_; focus (first | rfl | (simp [lk, lk?]; done))))) ; (first | done | fail)), entW_pu ⟨gg1, by rw [swp_size]; exact gg2, by omega⟩ entW_fr⟩)
      · try simp only [decide_eq_true_eq, decide_eq_false_iff_not, beq_iff_eq, beq_eq_false_iff_ne, bne_iff_ne, bne_eq_false_iff_eq, ne_eq, Bool.not_eq_eq_eq_not, Bool.not_true, Bool.not_false] at h30
        try (exfalso; simp at h30; done)
        all_goals (
          have hfin : d2 = Go.Sort.insInner lt a i d1 := by
            rw [← gg1]
            first
            | exact (insInner_no (by rw [← hlt']; simpa using h30)).symm
            | exact (insInner_end (by omega)).symm
          refine cc_exit ?_
          refine cc_region ?_
          refine rr_move rfl rfl ?_
          refine r_add rfl rfl rfl (by omega) ?_
          refine rr_assign rfl rfl ?_
          refine rr_nil ?_
          exact ⟨(i + 1, d2), (by show e - (i + 1) < e - i; omega), by ((repeat' (first | exact covers_nil | (refine covers_cons ?_ ?_; focus (first | rfl | (simp [lk, lk?]; done))))) ; (first | done | fail)), entW_pu ⟨by rw [hfin]; exact hh1, gg2, by omega⟩ entW_fr⟩)
  · try simp only [decide_eq_true_eq, decide_eq_false_iff_not, beq_iff_eq, beq_eq_false_iff_ne, bne_iff_ne, bne_eq_false_iff_eq, ne_eq, Bool.not_eq_eq_eq_not, Bool.not_true, Bool.not_false] at h12
    rw [insOuter_end (by omega)] at hh1
    refine cc_exit ?_
    exact ⟨_, rfl, entW_pu2 rfl (by rw [← hh1]; exact entW_fr)⟩
theorem tab256 {l : List UInt8} {g : Nat → UInt8} {n : Nat} (hn : n < 256) (h : ∀ n, n < 256 → l[n]? = some (g n)) : (⟨l.toArray⟩ : ByteArray)[n]? = some (g n) := by
  obtain ⟨h1, h2⟩ := List.getElem?_eq_some_iff.1 (h n hn)
  rw [getElem?_pos (⟨l.toArray⟩ : ByteArray) n (by simpa [ByteArray.size] using h1), ← h2]; rfl
theorem wrap_u8n (n : Nat) (h : n < 256) : IntKind.u8.wrap (n : Int) = n := by
  revert h; revert n; decide +kernel
theorem wrap_u64n (n : Nat) (h : n < 256) : IntKind.u64.wrap (n : Int) = n := by
  revert h; revert n; decide +kernel
theorem len_back (n : Nat) (h : n < 256) : IntKind.i64.wrap (((UInt8.ofNat (Go.Sort.bitsLen n)).toNat : Nat) : Int) = (Go.Sort.bitsLen n : Nat) := by
  revert h; revert n; decide +kernel
theorem bitsLen_lt (n : Nat) (h : n < 256) : Go.Sort.bitsLen n < 10 := by
  revert h; revert n; decide +kernel
theorem bitsLen64_tr (n : Nat) (hn : n < 256) : Tr Tryz.prog 188 #[.int .u64 n] 1 (fun v => pu (v = i64 (Go.Sort.bitsLen n))) := by
  refine tr_body Tryz.func188 (by kernel_rfl) rfl Tryz.ntmps188 rfl (L := [(0, .int .u64 n)]) (covers_cons rfl covers_nil) rfl ?_
  intro F w0 f
  rw [sl_one_mul]
  have hb := bitsLen_lt n hn
  refine cc_seq ?_
  refine cc_region ?_
  refine rr_assign rfl rfl ?_
  refine rr_nil ?_
  refine cc_seq ?_
  refine cc_seq ?_
  refine cc_region ?_
  refine rr_move rfl rfl ?_
  refine r_int rfl rfl rfl rfl ?_
  refine rr_nil ?_
  refine cc_condFp rfl (by simp; omega) ?_
  refine cc_skip ?_
  refine cc_seq ?_
  refine cc_seq ?_
  refine cc_region ?_
  refine rr_move rfl rfl ?_
  refine r_int rfl rfl rfl rfl ?_
  refine rr_nil ?_
  refine cc_condFp rfl (by simp; omega) ?_
  refine cc_skip ?_
  refine cc_seq ?_
  refine cc_seq ?_
  refine cc_region ?_
  refine rr_move rfl rfl ?_
  refine r_int rfl rfl rfl rfl ?_
  refine rr_nil ?_
  refine cc_condFp rfl (by simp; omega) ?_
  refine cc_skip ?_
  refine cc_seq ?_
  refine cc_region ?_
  refine rr_move rfl rfl ?_
  refine rr_move rfl rfl ?_
  refine r_conv rfl rfl ?_
  rw [wrap_u8n n hn]
  refine r_ixt (c := UInt8.ofNat (Go.Sort.bitsLen n)) rfl rfl rfl (by omega) (by rw [Int.toNat_natCast]; exact tab256 (g := fun n => UInt8.ofNat (Go.Sort.bitsLen n)) hn (by decide +kernel)) ?_
  refine r_conv rfl rfl ?_
  rw [len_back n hn]
  refine r_add rfl rfl rfl (by omega) ?_
  refine rr_assign rfl rfl ?_
  refine rr_nil ?_
  refine cc_ret ?_
  exact ⟨_, rfl, entW_pu (by simp) entW_fr⟩
theorem bitsLenI_tr (n : Nat) (hn : n < 256) : Tr Tryz.prog 158 #[.int .u64 n] 1 (fun v => pu (v = i64 (Go.Sort.bitsLen n))) := by
  refine tr_body Tryz.func158 (by kernel_rfl) rfl Tryz.ntmps158 rfl (L := [(0, .int .u64 n)]) (covers_cons rfl covers_nil) rfl ?_
  intro F w0 f
  rw [sl_one_mul]
  refine cc_seq ?_
  refine cc_region ?_
  refine rr_assign rfl rfl ?_
  refine rr_nil ?_
  refine cc_seq ?_
  refine cc_condF rfl ?_
  refine cc_skip ?_
  refine cc_seq ?_
  refine cc_region ?_
  refine rr_move rfl rfl ?_
  refine rr_call rfl rfl rfl rfl (bitsLen64_tr n hn) inferInstance rfl (sd0 rfl) (fun _ => sd0 rfl) rfl (fun v => ?_)
  first | refine RR.pu2 ?_ | refine RR.pu ?_
  rintro rfl
  refine rr_assign rfl rfl ?_
  refine rr_nil ?_
  refine cc_ret ?_
  exact ⟨_, rfl, entW_pu rfl entW_fr⟩
theorem pdqPt_tr (b cap fn a e : Nat) (k : Int) (d : Array PtS) (caps rest : List Value) (cmp : PtS → PtS → Int) (X : SL) (hl : d.size ≤ 2 ^ 30) (hab : a ≤ e) (he : e ≤ d.size) (h12 : e - a ≤ 12)
    (hp : ∀ x y, Tr Tryz.prog fn ((fun g : PtS => Value.agg (ptV g).toArray) x :: (fun g : PtS => Value.agg (ptV g).toArray) y :: caps).toArray X (fun v => pu (v = i64 (cmp x y)) * X)) :
    Tr Tryz.prog 189 #[.slice (some ⟨b, 0, none⟩) d.size cap, i64 a, i64 e, i64 k, .func (.func fn) #[] caps.toArray] (bl b 224 (d.toList.flatMap ptV ++ rest) * X)
      (fun v => pu (v = unit) * (bl b 224 ((Go.Sort.pdq (fun x y => decide (cmp x y < 0)) d a e k.toNat true true).toList.flatMap ptV ++ rest) * X)) := by
  refine tr_body Tryz.func189 (by kernel_rfl) rfl Tryz.ntmps189 rfl (L := [(0, .slice (some ⟨b, 0, none⟩) d.size cap), (1, i64 a), (2, i64 e), (3, i64 k), (4, .func (.func fn) #[] caps.toArray)]) (covers_cons rfl (covers_cons rfl (covers_cons rfl (covers_cons rfl (covers_cons rfl covers_nil))))) rfl ?_
  intro F w0 f
  rw [Go.Sort.pdq, if_pos h12]
  refine cc_seq ?_
  refine cc_region ?_
  refine rr_assign rfl rfl ?_
  refine rr_nil ?_
  refine cc_seq ?_
  refine cc_region ?_
  refine rr_assign rfl rfl ?_
  refine rr_nil ?_
  refine cc_block ?_
  refine cc_loopW (α := Nat) (fun j => [(0, .slice (some ⟨b, 0, none⟩) d.size cap), (1, i64 a), (2, i64 e), (4, .func (.func fn) #[] caps.toArray)]) (fun j => bl b 224 (d.toList.flatMap ptV ++ rest) * X * F) (fun j => j) (0) (by ((repeat' (first | exact covers_nil | (refine covers_cons ?_ ?_; focus (first | rfl | (simp [lk, lk?]; done))))) ; (first | done | fail))) (by exact entW_fr) ?_
  rintro j f
  refine cc_block ?_
  refine cc_seq ?_
  refine cc_region ?_
  refine rr_move rfl rfl ?_
  refine rr_move rfl rfl ?_
  refine r_sub rfl rfl rfl (by omega) ?_
  refine rr_assign rfl rfl ?_
  refine rr_nil ?_
  refine cc_seq ?_
  refine cc_seq ?_
  refine cc_region ?_
  refine rr_move rfl rfl ?_
  refine r_int rfl rfl rfl rfl ?_
  refine rr_nil ?_
  refine cc_condTp rfl (by simp; omega) ?_
  refine cc_seq ?_
  refine cc_region ?_
  refine rr_move rfl rfl ?_
  refine rr_move rfl rfl ?_
  refine rr_move rfl rfl ?_
  refine rr_move rfl rfl ?_
  refine rr_call rfl rfl rfl rfl (insPt_tr b cap fn a e d caps rest cmp X hl hab he hp) inferInstance rfl (sd0 rfl) (fun _ => sd0 rfl) rfl (fun v => ?_)
  first | refine RR.pu2 ?_ | refine RR.pu ?_
  rintro rfl
  refine rr_nil ?_
  refine cc_ret ?_
  exact ⟨_, rfl, entW_pu2 rfl entW_fr⟩
theorem sortPt_tr (b cap fn : Nat) (d : Array PtS) (caps rest : List Value) (cmp : PtS → PtS → Int) (X : SL) (h12 : d.size ≤ 12)
    (hp : ∀ x y, Tr Tryz.prog fn ((fun g : PtS => Value.agg (ptV g).toArray) x :: (fun g : PtS => Value.agg (ptV g).toArray) y :: caps).toArray X (fun v => pu (v = i64 (cmp x y)) * X)) :
    Tr Tryz.prog 160 #[.slice (some ⟨b, 0, none⟩) d.size cap, .func (.func fn) #[] caps.toArray] (bl b 224 (d.toList.flatMap ptV ++ rest) * X)
      (fun v => pu (v = unit) * (bl b 224 ((Go.Sort.sort (fun x y => decide (cmp x y < 0)) d).toList.flatMap ptV ++ rest) * X)) := by
  refine tr_body Tryz.func160 (by kernel_rfl) rfl Tryz.ntmps160 rfl (L := [(0, .slice (some ⟨b, 0, none⟩) d.size cap), (1, .func (.func fn) #[] caps.toArray)]) (covers_cons rfl (covers_cons rfl covers_nil)) rfl ?_
  intro F w0 f
  refine cc_seq ?_
  refine cc_region ?_
  refine rr_move rfl rfl ?_
  refine r_lens rfl rfl ?_
  refine rr_assign rfl rfl ?_
  refine rr_nil ?_
  refine cc_region ?_
  refine rr_move rfl rfl ?_
  refine rr_move rfl rfl ?_
  refine rr_move rfl rfl ?_
  refine r_conv rfl rfl ?_
  rw [wrap_u64n d.size (by omega)]
  refine rr_call rfl rfl rfl rfl (bitsLenI_tr d.size (by omega)) inferInstance rfl (sd0 rfl) (fun _ => sd0 rfl) rfl (fun v => ?_)
  first | refine RR.pu2 ?_ | refine RR.pu ?_
  rintro rfl
  refine rr_move rfl rfl ?_
  refine rr_call rfl rfl rfl rfl (pdqPt_tr b cap fn 0 d.size (Go.Sort.bitsLen d.size) d caps rest cmp X (by omega) (Nat.zero_le _) (Nat.le_refl _) (by omega) hp) inferInstance rfl (sd0 rfl) (fun _ => sd0 rfl) rfl (fun v => ?_)
  first | refine RR.pu2 ?_ | refine RR.pu ?_
  rintro rfl
  refine rr_nil ?_
  exact ⟨_, rfl, entW_pu2 rfl (by simp only [Go.Sort.sort, Int.toNat_natCast]; exact entW_fr)⟩
theorem pdqStr_tr (b cap a e : Nat) (k : Int) (d : Array Txt) (rest : List Value) (hl : d.size ≤ 2 ^ 30) (hab : a ≤ e) (he : e ≤ d.size) (h12 : e - a ≤ 12) :
    Tr Tryz.prog 216 #[.slice (some ⟨b, 0, none⟩) d.size cap, i64 a, i64 e, i64 k] (bl b 9 (d.toList.flatMap (fun g : Txt => [str g]) ++ rest))
      (fun v => pu (v = unit) * bl b 9 ((Go.Sort.pdq ltS d a e k.toNat true true).toList.flatMap (fun g : Txt => [str g]) ++ rest)) := by
  refine tr_body Tryz.func216 (by kernel_rfl) rfl Tryz.ntmps216 rfl (L := [(0, .slice (some ⟨b, 0, none⟩) d.size cap), (1, i64 a), (2, i64 e), (3, i64 k)]) (covers_cons rfl (covers_cons rfl (covers_cons rfl (covers_cons rfl covers_nil)))) rfl ?_
  intro F w0 f
  rw [Go.Sort.pdq, if_pos h12]
  refine cc_seq ?_
  refine cc_region ?_
  refine rr_assign rfl rfl ?_
  refine rr_nil ?_
  refine cc_seq ?_
  refine cc_region ?_
  refine rr_assign rfl rfl ?_
  refine rr_nil ?_
  refine cc_block ?_
  refine cc_loopW (α := Nat) (fun j => [(0, .slice (some ⟨b, 0, none⟩) d.size cap), (1, i64 a), (2, i64 e)]) (fun j => bl b 9 (d.toList.flatMap (fun g : Txt => [str g]) ++ rest) * F) (fun j => j) (0) (by ((repeat' (first | exact covers_nil | (refine covers_cons ?_ ?_; focus (first | rfl | (simp [lk, lk?]; done))))) ; (first | done | fail))) (by exact entW_fr) ?_
  rintro j f
  refine cc_block ?_
  refine cc_seq ?_
  refine cc_region ?_
  refine rr_move rfl rfl ?_
  refine rr_move rfl rfl ?_
  refine r_sub rfl rfl rfl (by omega) ?_
  refine rr_assign rfl rfl ?_
  refine rr_nil ?_
  refine cc_seq ?_
  refine cc_seq ?_
  refine cc_region ?_
  refine rr_move rfl rfl ?_
  refine r_int rfl rfl rfl rfl ?_
  refine rr_nil ?_
  refine cc_condTp rfl (by simp; omega) ?_
  refine cc_seq ?_
  refine cc_region ?_
  refine rr_move rfl rfl ?_
  refine rr_move rfl rfl ?_
  refine rr_move rfl rfl ?_
  refine rr_call rfl rfl rfl rfl (insStr_tr b cap a e d rest hl hab he) inferInstance rfl (sd0 rfl) (fun _ => sd0 rfl) rfl (fun v => ?_)
  first | refine RR.pu2 ?_ | refine RR.pu ?_
  rintro rfl
  refine rr_nil ?_
  refine cc_ret ?_
  exact ⟨_, rfl, entW_pu2 rfl entW_fr⟩
theorem sortStr_tr (b cap : Nat) (d : Array Txt) (rest : List Value) (h12 : d.size ≤ 12) :
    Tr Tryz.prog 190 #[.slice (some ⟨b, 0, none⟩) d.size cap] (bl b 9 (d.toList.flatMap (fun g : Txt => [str g]) ++ rest))
      (fun v => pu (v = unit) * bl b 9 ((Go.Sort.sort ltS d).toList.flatMap (fun g : Txt => [str g]) ++ rest)) := by
  refine tr_body Tryz.func190 (by kernel_rfl) rfl Tryz.ntmps190 rfl (L := [(0, .slice (some ⟨b, 0, none⟩) d.size cap)]) (covers_cons rfl covers_nil) rfl ?_
  intro F w0 f
  refine cc_seq ?_
  refine cc_region ?_
  refine rr_move rfl rfl ?_
  refine r_lens rfl rfl ?_
  refine rr_assign rfl rfl ?_
  refine rr_nil ?_
  refine cc_region ?_
  refine rr_move rfl rfl ?_
  refine rr_move rfl rfl ?_
  refine rr_move rfl rfl ?_
  refine r_conv rfl rfl ?_
  rw [wrap_u64n d.size (by omega)]
  refine rr_call rfl rfl rfl rfl (bitsLenI_tr d.size (by omega)) inferInstance rfl (sd0 rfl) (fun _ => sd0 rfl) rfl (fun v => ?_)
  first | refine RR.pu2 ?_ | refine RR.pu ?_
  rintro rfl
  refine rr_call rfl rfl rfl rfl (pdqStr_tr b cap 0 d.size (Go.Sort.bitsLen d.size) d rest (by omega) (Nat.zero_le _) (Nat.le_refl _) (by omega)) inferInstance rfl (sd0 rfl) (fun _ => sd0 rfl) rfl (fun v => ?_)
  first | refine RR.pu2 ?_ | refine RR.pu ?_
  rintro rfl
  refine rr_nil ?_
  exact ⟨_, rfl, entW_pu2 rfl (by simp only [Go.Sort.sort, Int.toNat_natCast]; exact entW_fr)⟩
end Go.Proofs.YtoiakcgdkegncaaGreat

namespace Ice
open Go Go.RowKit
/-- a slice that is only read: its block lies somewhere in X -/
def View (X : SL) (v : Value) (E s m : Nat) (xs : List Value) : Prop :=
  (v = .slice none 0 0 ∧ m = 0 ∧ xs = []) ∨ ∃ (b o cap : Nat) (cs : List Value), v = .slice (some ⟨b, o, none⟩) m cap ∧ Has X b (.cells cs.toArray E (0, 0)) ∧ o + m * s ≤ cs.length ∧ m ≤ cap ∧ (cs.drop o).take (m * s) = xs
theorem inSl.view {U : Pool} {v : Value} {E s m : Nat} {xs : List Value} (h : inSl U v E s m xs) : View (poolR U) v E s m xs := by
  rcases h with h | ⟨b, o, cap, cs, h1, h2, h3, h4, h5, h6⟩
  · exact .inl h
  · exact .inr ⟨b, o, cap, cs, h1, pool_has h2, h3, h4, h6⟩
theorem View.blk {b E s m cap : Nat} {xs rest : List Value} (h : xs.length = m * s) (hc : m ≤ cap) : View (bl b E (xs ++ rest)) (.slice (some ⟨b, 0, none⟩) m cap) E s m xs :=
  .inr ⟨b, 0, cap, xs ++ rest, rfl, .o, by rw [List.length_append]; omega, hc, by rw [List.drop_zero, ← h, List.take_left' rfl]⟩
theorem View.blk0 {b E s m cap : Nat} {xs : List Value} (h : xs.length = m * s) (hc : m ≤ cap) : View (bl b E xs) (.slice (some ⟨b, 0, none⟩) m cap) E s m xs :=
  .inr ⟨b, 0, cap, xs, rfl, .o, by omega, hc, by rw [List.drop_zero, ← h, List.take_length]⟩
theorem View.nil {X : SL} {E s : Nat} : View X (.slice none 0 0) E s 0 [] := .inl ⟨rfl, rfl, rfl⟩
theorem View.l {X Y : SL} {v : Value} {E s m : Nat} {xs : List Value} (h : View X v E s m xs) : View (X * Y) v E s m xs := by
  rcases h with h | ⟨b, o, cap, cs, h1, h2, h3⟩
  · exact .inl h
  · exact .inr ⟨b, o, cap, cs, h1, h2.l, h3⟩
theorem View.r {X Y : SL} {v : Value} {E s m : Nat} {xs : List Value} (h : View Y v E s m xs) : View (X * Y) v E s m xs := by
  rcases h with h | ⟨b, o, cap, cs, h1, h2, h3⟩
  · exact .inl h
  · exact .inr ⟨b, o, cap, cs, h1, h2.r, h3⟩
theorem View.val {X : SL} {v : Value} {E s m : Nat} {xs : List Value} (h : View X v E s m xs) : ∃ base cap, v = .slice base m cap := by
  rcases h with ⟨h1, h2, _⟩ | ⟨b, o, cap, cs, h1, _⟩
  · subst h2; exact ⟨_, _, h1⟩
  · exact ⟨_, _, h1⟩
theorem nth_dt {cs : List Value} {o k q : Nat} {v : Value} (h : nth ((cs.drop o).take k) q = some v) : nth cs (o + q) = some v := by
  rw [nth_eq] at h ⊢
  rw [List.getElem?_take] at h
  split at h
  · rw [List.getElem?_drop] at h; exact h
  · cases h
theorem cut_dt {cs xs : List Value} {o k s : Nat} (h : (cs.drop o).take k = xs) {q : Nat} {vs : List Value} (hv : cutR xs q s [] = some vs) (hk : o + k ≤ cs.length) (hq : q + s ≤ k) : cutR cs (o + q) s [] = some vs := by
  have hx : xs.length = k := by rw [← h]; simp; omega
  rw [cutR_eq (by omega)] at hv
  rw [cutR_eq (by omega), ← hv, ← h]
  congr 1
  simp only [List.append_nil]
  rw [List.drop_take, List.drop_drop, List.take_take, Nat.min_eq_left (by omega)]
theorem View.get {α : Type} {g : α → List Value} {l : List α} {X : SL} {v : Value} {E s m : Nat} {xs : List Value} (h : View X v E s m xs) (hx : xs = l.flatMap g) (hw : ∀ x ∈ l, (g x).length = s) (hm : l.length = m) {i : Nat} {x : α} (hi : l[i]? = some x) :
    ∃ (b o cap : Nat) (cs : List Value), v = .slice (some ⟨b, o, none⟩) m cap ∧ HasI X b (.cells cs.toArray E (0, 0)) ∧ cutR cs (o + (i : Int).toNat * s) s [] = some (g x) ∧ ∀ j u, nth (g x) j = some u → nth cs (o + (i : Int).toNat * s + j) = some u := by
  subst hx
  have hlt : i < l.length := (List.getElem?_eq_some_iff.1 hi).1
  rcases h with ⟨_, h2, _⟩ | ⟨b, o, cap, cs, h1, h2, h3, h4, h5⟩
  · omega
  · refine ⟨b, o, cap, cs, h1, ⟨h2⟩, ?_, fun j u hu => ?_⟩
    · have hc := cut_fm hw hi (j := 0) (k := s) (vs := g x) (by
        rw [cutR_eq (by rw [(fm_split hw hi).2.2.2]; omega)]
        simp [← (fm_split hw hi).2.2.2]) []
      rw [List.append_nil] at hc
      have hb : (i + 1) * s ≤ m * s := Nat.mul_le_mul_right s (by omega)
      rw [Nat.add_mul, Nat.one_mul] at hb
      rw [Int.toNat_natCast]
      have := cut_dt h5 hc h3 (by omega)
      simpa [Nat.add_assoc] using this
    · have := nth_fm hw hi hu []
      rw [List.append_nil, ← h5] at this
      rw [Int.toNat_natCast, Nat.add_assoc]
      exact nth_dt this
theorem map_fm1 {α β : Type} (g : α → β) : ∀ (l : List α), l.map g = l.flatMap fun x => [g x]
  | [] => rfl
  | x :: l => by simp [map_fm1 g l]
theorem View.get1 {α : Type} {g : α → Value} {l : List α} {X : SL} {v : Value} {E m : Nat} {xs : List Value} (h : View X v E 1 m xs) (hx : xs = l.map g) (hm : l.length = m) {i : Nat} {x : α} (hi : l[i]? = some x) :
    ∃ (b o cap : Nat) (cs : List Value), v = .slice (some ⟨b, o, none⟩) m cap ∧ HasI X b (.cells cs.toArray E (0, 0)) ∧ nth cs (o + (i : Int).toNat * 1) = some (g x) := by
  obtain ⟨b, o, cap, cs, h1, h2, _, h3⟩ := h.get (g := fun x => [g x]) (l := l) (by rw [hx]; exact map_fm1 g l) (fun _ _ => rfl) hm hi
  exact ⟨b, o, cap, cs, h1, h2, h3 0 _ rfl⟩
theorem ent_exL {α : Type} {B : α → SL} {A C : SL} (h : ∀ x, Ent (B x * A) C) : Ent (ex B * A) C := fun _ s => let ⟨x, s⟩ := ex_mul.1 s; h x _ s
theorem ent_puL {p : Prop} {B C : SL} (h : p → Ent B C) : Ent (pu p * B) C := fun _ s => let ⟨hp, s⟩ := pu_mul.1 s; h hp _ s
theorem ent_starR {A B B' : SL} (h : Ent B B') : Ent (A * B) (A * B') := fun _ x => star_mono (fun _ y => y) h x
theorem ent_puR {A X : SL} {p : Prop} (hp : p) (h : Ent A X) : Ent A (pu p * X) := fun w s => pu_mul.2 ⟨hp, h w s⟩
/-- a block goes into the pool, too -/
theorem pool_then {X : SL} {φ : Pool → Prop} (h : Ent X (ex fun V => pu (φ V) * poolR V)) {b T : Nat} {cs : List Value} :
    Ent (bl b T cs * X) (ex fun V => pu (∃ W, φ W ∧ V = (b, T, cs) :: W) * poolR V) := by
  refine (ent_starR h).trans ?_
  rw [sl_comm]
  refine ent_exL fun W => ?_
  rw [sl_assoc]
  refine ent_puL fun hW => ?_
  rw [sl_comm, pool_cons]
  exact ent_ex _ (ent_puR ⟨W, hW, rfl⟩ (Ent.refl _))
theorem pool_sl2 {X : SL} {φ : Pool → Prop} (h : Ent X (ex fun V => pu (φ V) * poolR V)) (v : Value) (E s m : Nat) (xs : List Value) (hs0 : 0 < s) :
    Ent (slR v E s m xs * X) (ex fun V => pu (∃ W, φ W ∧ Sub W V ∧ inSl V v E s m xs) * poolR V) := by
  refine (ent_starR h).trans ?_
  rw [sl_comm]
  refine ent_exL fun W => ?_
  rw [sl_assoc]
  refine ent_puL fun hW => ?_
  rw [sl_comm]
  refine (pool_sl v E s m xs W hs0).trans ?_
  intro h0 x
  obtain ⟨V, x⟩ := x
  obtain ⟨h1, h2⟩ := pu_mul.1 x
  exact ⟨V, pu_mul.2 ⟨⟨W, hW, h1⟩, h2⟩⟩
end Ice

namespace Go.Proofs.YtoiakcgdkegncaaGreat
open Go.RowKit Ice
attribute [local irreducible] CC RR Tr stir mixOf
def lessP (x y : PtS) : Bool := decide ((x.1.toNat : Int) < (y.1.toNat : Int)) || ((x.1.toNat : Int) == (y.1.toNat : Int) && decide (x.2 < y.2))
def cmpP (x y : PtS) : Int := if lessP x y then -1 else if lessP y x then 1 else 0
def ltP (x y : PtS) : Bool := decide (cmpP x y < 0)
abbrev ptA (p : PtS) : Value := .agg (ptV p).toArray
theorem less_tr (x y : PtS) : Tr Tryz.prog 162 #[ptA x, ptA y] 1 (fun v => pu (v = .bool (lessP x y))) := by
  refine tr_body Tryz.func162 (by kernel_rfl) rfl Tryz.ntmps162 rfl (L := [(0, ptA x), (1, ptA y)]) (covers_cons rfl (covers_cons rfl covers_nil)) rfl ?_
  intro F w0 f
  rw [sl_one_mul]
  refine cc_seq ?_
  refine cc_region ?_
  refine r_boxa rfl rfl (sd0 rfl) (fun _ => sd0 rfl) (fun p0_0 => ?_)
  refine r_boxa rfl rfl (sd0 rfl) (fun _ => sd0 rfl) (fun p0_1 => ?_)
  refine rr_assign rfl rfl ?_
  refine rr_nil ?_
  refine cc_seq ?_
  refine cc_region ?_
  refine r_fa rfl rfl ?_
  refine r_ld rfl (ls0 rfl) rfl rfl ?_
  refine r_fa rfl rfl ?_
  refine r_ld rfl (ls0 rfl) rfl rfl ?_
  refine r_int rfl rfl rfl rfl ?_
  refine rr_move rfl rfl ?_
  refine rr_guard rfl rfl rfl (fun hg1_5 => ?_) (fun hg1_5 => ?_)
  · refine r_fa rfl rfl ?_
    refine rr_guardY rfl rfl rfl ?_
    refine r_ld rfl (ls0 rfl) rfl rfl ?_
    refine rr_guardY rfl rfl rfl ?_
    refine r_fa rfl rfl ?_
    refine rr_guardY rfl rfl rfl ?_
    refine r_ld rfl (ls0 rfl) rfl rfl ?_
    refine rr_guardY rfl rfl rfl ?_
    refine r_int rfl rfl rfl rfl ?_
    refine rr_guardY rfl rfl rfl ?_
    refine rr_move rfl rfl ?_
    refine rr_guard rfl rfl rfl (fun hg1_11 => ?_) (fun hg1_11 => ?_)
    · refine r_fa rfl rfl ?_
      refine rr_guardY rfl rfl rfl ?_
      refine r_ld rfl (ls0 rfl) rfl rfl ?_
      refine rr_guardY rfl rfl rfl ?_
      refine r_fa rfl rfl ?_
      refine rr_guardY rfl rfl rfl ?_
      refine r_ld rfl (ls0 rfl) rfl rfl ?_
      refine rr_guardY rfl rfl rfl ?_
      refine r_int rfl rfl rfl rfl ?_
      refine rr_guardY rfl rfl rfl ?_
      first | refine rr_pick rfl rfl ?_ | refine rr_pickb rfl rfl rfl rfl ?_
      first | refine rr_pick rfl rfl ?_ | refine rr_pickb rfl rfl rfl rfl ?_
      refine rr_assign rfl rfl ?_
      refine rr_nil ?_
      refine cc_ret ?_
      exact ⟨_, rfl, entW_pu (congrArg Value.bool (by simp only [lessP]; grind)) entW_fr⟩
    · refine rr_guardN rfl rfl rfl rfl ?_
      refine rr_guardN rfl rfl rfl rfl ?_
      refine rr_guardN rfl rfl rfl rfl ?_
      refine rr_guardN rfl rfl rfl rfl ?_
      refine rr_guardY rfl rfl rfl ?_
      first | refine rr_pick rfl rfl ?_ | refine rr_pickb rfl rfl rfl rfl ?_
      first | refine rr_pick rfl rfl ?_ | refine rr_pickb rfl rfl rfl rfl ?_
      refine rr_assign rfl rfl ?_
      refine rr_nil ?_
      refine cc_ret ?_
      exact ⟨_, rfl, entW_pu (congrArg Value.bool (by simp only [lessP]; grind)) entW_fr⟩
  · refine rr_guardN rfl rfl rfl rfl ?_
    refine rr_guardN rfl rfl rfl rfl ?_
    refine rr_guardN rfl rfl rfl rfl ?_
    refine rr_guardN rfl rfl rfl rfl ?_
    refine rr_guardN rfl rfl rfl rfl ?_
    refine rr_guardU rfl rfl rfl ?_
    refine rr_guardU rfl rfl rfl ?_
    refine rr_guardU rfl rfl rfl ?_
    refine rr_guardU rfl rfl rfl ?_
    refine rr_guardU rfl rfl rfl ?_
    refine rr_guardN rfl rfl rfl rfl ?_
    first | refine rr_pick rfl rfl ?_ | refine rr_pickb rfl rfl rfl rfl ?_
    refine rr_assign rfl rfl ?_
    refine rr_nil ?_
    refine cc_ret ?_
    exact ⟨_, rfl, entW_pu (congrArg Value.bool (by simp only [lessP]; grind)) entW_fr⟩
theorem of1_tr (x y : PtS) : Tr Tryz.prog 161 #[ptA x, ptA y] 1 (fun v => pu (v = i64 (cmpP x y)) * 1) := by
  refine tr_body Tryz.func161 (by kernel_rfl) rfl Tryz.ntmps161 rfl (L := [(0, ptA x), (1, ptA y)]) (covers_cons rfl (covers_cons rfl covers_nil)) rfl ?_
  intro F w0 f
  refine cc_seq ?_
  refine cc_region ?_
  refine r_boxa rfl rfl (sd0 rfl) (fun _ => sd0 rfl) (fun p0_0 => ?_)
  refine r_boxa rfl rfl (sd0 rfl) (fun _ => sd0 rfl) (fun p0_1 => ?_)
  refine rr_assign rfl rfl ?_
  refine rr_nil ?_
  refine cc_seq ?_
  refine cc_block ?_
  refine cc_seq ?_
  refine cc_region ?_
  refine r_lda rfl (ls0 rfl) rfl rfl ?_
  refine r_lda rfl (ls0 rfl) rfl rfl ?_
  refine rr_call rfl rfl rfl rfl (less_tr x y) inferInstance rfl (sd0 rfl) (fun _ => sd0 rfl) rfl (fun v => ?_)
  first | refine RR.pu2 ?_ | refine RR.pu ?_
  rintro rfl
  refine rr_assign rfl rfl ?_
  refine rr_nil ?_
  refine cc_cond rfl (fun h5 => ?_) (fun h5 => ?_)
  · try simp only [decide_eq_true_eq, decide_eq_false_iff_not, beq_iff_eq, beq_eq_false_iff_ne, bne_iff_ne, bne_eq_false_iff_eq, ne_eq, Bool.not_eq_eq_eq_not, Bool.not_true, Bool.not_false] at h5
    refine cc_seq ?_
    refine cc_region ?_
    refine rr_assign rfl rfl ?_
    refine rr_nil ?_
    refine cc_ret ?_
    exact ⟨_, rfl, entW_pu2 (congrArg (Value.int _) (by simp only [cmpP]; simp [*])) entW_fr⟩
  · try simp only [decide_eq_true_eq, decide_eq_false_iff_not, beq_iff_eq, beq_eq_false_iff_ne, bne_iff_ne, bne_eq_false_iff_eq, ne_eq, Bool.not_eq_eq_eq_not, Bool.not_true, Bool.not_false] at h5
    refine cc_seq ?_
    refine cc_region ?_
    refine r_lda rfl (ls0 rfl) rfl rfl ?_
    refine r_lda rfl (ls0 rfl) rfl rfl ?_
    refine rr_call rfl rfl rfl rfl (less_tr y x) inferInstance rfl (sd0 rfl) (fun _ => sd0 rfl) rfl (fun v => ?_)
    first | refine RR.pu2 ?_ | refine RR.pu ?_
    rintro rfl
    refine rr_assign rfl rfl ?_
    refine rr_nil ?_
    refine cc_cond rfl (fun h9 => ?_) (fun h9 => ?_)
    · try simp only [decide_eq_true_eq, decide_eq_false_iff_not, beq_iff_eq, beq_eq_false_iff_ne, bne_iff_ne, bne_eq_false_iff_eq, ne_eq, Bool.not_eq_eq_eq_not, Bool.not_true, Bool.not_false] at h9
      refine cc_seq ?_
      refine cc_region ?_
      refine rr_assign rfl rfl ?_
      refine rr_nil ?_
      refine cc_ret ?_
      exact ⟨_, rfl, entW_pu2 (congrArg (Value.int _) (by simp only [cmpP]; simp [*])) entW_fr⟩
    · try simp only [decide_eq_true_eq, decide_eq_false_iff_not, beq_iff_eq, beq_eq_false_iff_ne, bne_iff_ne, bne_eq_false_iff_eq, ne_eq, Bool.not_eq_eq_eq_not, Bool.not_true, Bool.not_false] at h9
      refine cc_skip ?_
      refine cc_seq ?_
      refine cc_region ?_
      refine rr_assign rfl rfl ?_
      refine rr_nil ?_
      refine cc_ret ?_
      exact ⟨_, rfl, entW_pu2 (congrArg (Value.int _) (by simp only [cmpP]; simp [*])) entW_fr⟩
/-- nodes that may be -/
def badN (p : Option Int) (n : Int) : Bool := decide (n < 1) || decide (5 < n) || (match p with | some m => decide (n ≤ m) | none => false)
def mayFrom (p : Option Int) (ns : List Int) : Bool := match ns with
  | [] => true
  | n :: r => !badN p n && mayFrom (some n) r
def mayP (ns : List Int) : Bool := mayFrom none ns && decide (0 < ns.length)
def prevAt (ns : List Int) (j : Nat) : Option Int := if j = 0 then none else ns[j - 1]?
theorem mayFrom_step {ns : List Int} {j : Nat} {n : Int} (h : ns[j]? = some n) : mayFrom (prevAt ns j) (ns.drop j) =
    (!badN (prevAt ns j) n && mayFrom (prevAt ns (j + 1)) (ns.drop (j + 1))) := by
  rw [drop_cons_get h]
  simp only [mayFrom, prevAt, Nat.add_one_ne_zero, if_false, Nat.add_sub_cancel, h]
theorem ptsMay_tr (v : Value) (ns : List Int) (X : SL) (hv : View X v 3 1 ns.length (ns.map i64)) (hl : ns.length ≤ 2 ^ 20) :
    Tr Tryz.prog 32 #[v] X (fun r => pu (r = .bool (mayP ns)) * X) := by
  obtain ⟨base, cap, rfl⟩ := hv.val
  refine tr_body Tryz.func32 (by kernel_rfl) rfl Tryz.ntmps32 rfl (L := [(0, .slice base ns.length cap)]) (covers_cons rfl covers_nil) rfl ?_
  intro F w0 f
  refine cc_seq ?_
  refine cc_region ?_
  refine rr_assign rfl rfl ?_
  refine rr_nil ?_
  refine cc_seq ?_
  refine cc_seq ?_
  refine cc_region ?_
  refine rr_move rfl rfl ?_
  refine r_lens rfl rfl ?_
  refine rr_move rfl rfl ?_
  refine rr_nil ?_
  refine cc_block ?_
  refine cc_loopW (α := Nat) (fun j => [(7, i64 j), (6, i64 ns.length), (5, .slice base ns.length cap), (0, .slice base ns.length cap)]) (fun j => pu (j ≤ ns.length ∧ mayFrom none ns = mayFrom (prevAt ns j) (ns.drop j)) * (X * F)) (fun j => ns.length - j) (0) (by ((repeat' (first | exact covers_nil | (refine covers_cons ?_ ?_; focus (first | rfl | (simp [lk, lk?]; done))))) ; (first | done | fail))) (by exact entW_pu ⟨by omega, rfl⟩ entW_fr) ?_
  rintro j f
  refine CC.pu fun hj => ?_
  refine cc_seq ?_
  refine cc_region ?_
  refine r_int rfl rfl rfl rfl ?_
  refine rr_nil ?_
  refine cc_seq ?_
  refine cc_cond rfl (fun h8 => ?_) (fun h8 => ?_)
  · try simp only [decide_eq_true_eq, decide_eq_false_iff_not, beq_iff_eq, beq_eq_false_iff_ne, bne_iff_ne, bne_eq_false_iff_eq, ne_eq, Bool.not_eq_eq_eq_not, Bool.not_true, Bool.not_false] at h8
    obtain ⟨n, hn⟩ := lt_get (l := ns) (j := j) (by omega)
    obtain ⟨b, o, cap', cs, e1, e2, e3⟩ := hv.get1 rfl rfl hn
    simp only [Value.slice.injEq] at e1
    obtain ⟨rfl, _, rfl⟩ := e1
    have hst := mayFrom_step hn
    obtain ⟨bb, hB⟩ : ∃ bb, badN (prevAt ns j) n = bb := ⟨_, rfl⟩
    rw [hB] at hst
    refine cc_skip ?_
    refine cc_seq ?_
    refine cc_block ?_
    refine cc_seq ?_
    refine cc_region ?_
    refine rr_move rfl rfl ?_
    refine r_ix rfl rfl rfl (by omega) ?_
    refine r_ld rfl (ls0 rfl) e3 rfl ?_
    refine rr_assign rfl rfl ?_
    refine rr_assign rfl rfl ?_
    refine rr_nil ?_
    refine cc_seq ?_
    refine cc_region ?_
    refine rr_move rfl rfl ?_
    refine r_int rfl rfl rfl rfl ?_
    refine rr_move rfl rfl ?_
    refine rr_guard rfl rfl rfl (fun hg4_2 => ?_) (fun hg4_2 => ?_)
    · refine rr_move rfl rfl ?_
      refine rr_guardY rfl rfl rfl ?_
      refine r_int rfl rfl rfl rfl ?_
      first | refine rr_pick rfl rfl ?_ | refine rr_pickb rfl rfl rfl rfl ?_
      refine rr_move rfl rfl ?_
      refine rr_guard rfl rfl rfl (fun hg4_6 => ?_) (fun hg4_6 => ?_)
      · refine rr_move rfl rfl ?_
        refine rr_guardY rfl rfl rfl ?_
        refine r_int rfl rfl rfl rfl ?_
        refine rr_guardY rfl rfl rfl ?_
        refine rr_move rfl rfl ?_
        refine rr_guard rfl rfl rfl (fun hg4_9 => ?_) (fun hg4_9 => ?_)
        · try (obtain ⟨j, rfl⟩ := succ_of (a := 0) (by simpa using hg4_9))
          try (obtain ⟨m, hm⟩ := lt_get (l := ns) (j := j) (by omega))
          try (obtain ⟨b2, o2, cap2, cs2, g1, g2, g3⟩ := hv.get1 rfl rfl hm)
          try (simp only [Value.slice.injEq, Option.some.injEq, Addr.mk.injEq] at g1)
          try (obtain ⟨⟨rfl, rfl, _⟩, _, _⟩ := g1)
          refine rr_move rfl rfl ?_
          refine rr_guardY rfl rfl rfl ?_
          refine rr_move rfl rfl ?_
          refine rr_guardY rfl rfl rfl ?_
          refine r_sub rfl rfl rfl (by omega) ?_
          rw [show (((j + 1 : Nat) : Int) - 1) = ((j : Nat) : Int) by omega]
          refine rr_guardY rfl rfl rfl ?_
          refine r_ix rfl rfl rfl (by omega) ?_
          refine rr_guardY rfl rfl rfl ?_
          refine r_ld rfl (ls0 rfl) g3 rfl ?_
          refine rr_guardY rfl rfl rfl ?_
          refine rr_move rfl rfl ?_
          refine rr_guardY rfl rfl rfl ?_
          refine r_int rfl rfl rfl rfl ?_
          refine rr_guardY rfl rfl rfl ?_
          first | refine rr_pick rfl rfl ?_ | refine rr_pickb rfl rfl rfl rfl ?_
          first | refine rr_pick rfl rfl ?_ | refine rr_pickb rfl rfl rfl rfl ?_
          refine rr_nil ?_
          refine cc_cond rfl (fun h30 => ?_) (fun h30 => ?_)
          · try simp only [decide_eq_true_eq, decide_eq_false_iff_not, beq_iff_eq, beq_eq_false_iff_ne, bne_iff_ne, bne_eq_false_iff_eq, ne_eq, Bool.not_eq_eq_eq_not, Bool.not_true, Bool.not_false] at h30
            try (exfalso; simp at h30; done)
            all_goals (
              have hb : bb = true := by
                rw [← hB]
                first
                | (simp [badN, prevAt, hm]; grind)
                | grind [badN, prevAt]
              have hfin : mayP ns = false := by
                rw [mayP, hj.2, hst, hb]; rfl
              refine cc_seq ?_
              refine cc_region ?_
              refine rr_assign rfl rfl ?_
              refine rr_nil ?_
              refine cc_ret ?_
              exact ⟨_, rfl, entW_pu2 (by rw [hfin]) entW_fr⟩)
          · try simp only [decide_eq_true_eq, decide_eq_false_iff_not, beq_iff_eq, beq_eq_false_iff_ne, bne_iff_ne, bne_eq_false_iff_eq, ne_eq, Bool.not_eq_eq_eq_not, Bool.not_true, Bool.not_false] at h30
            try (exfalso; simp at h30; done)
            all_goals (
              have hb : bb = false := by
                rw [← hB]
                first
                | (simp [badN, prevAt, hm]; grind)
                | grind [badN, prevAt]
              rw [hb, Bool.not_false, Bool.true_and] at hst
              have hgo := hj.2.trans hst
              refine cc_skip ?_
              refine cc_region ?_
              refine r_add rfl rfl rfl (by omega) ?_
              refine rr_move rfl rfl ?_
              refine rr_nil ?_
              first | exact ⟨j + 1 + 1, by omega, by ((repeat' (first | exact covers_nil | (refine covers_cons ?_ ?_; focus (first | rfl | (simp [lk, lk?]; done))))) ; (first | done | fail)), entW_pu ⟨by omega, hgo⟩ entW_fr⟩ | exact ⟨j + 1, by omega, by ((repeat' (first | exact covers_nil | (refine covers_cons ?_ ?_; focus (first | rfl | (simp [lk, lk?]; done))))) ; (first | done | fail)), entW_pu ⟨by omega, hgo⟩ entW_fr⟩)
        · try (obtain ⟨j, rfl⟩ := succ_of (a := 0) (by simpa using hg4_9))
          try (obtain ⟨m, hm⟩ := lt_get (l := ns) (j := j) (by omega))
          try (obtain ⟨b2, o2, cap2, cs2, g1, g2, g3⟩ := hv.get1 rfl rfl hm)
          try (simp only [Value.slice.injEq, Option.some.injEq, Addr.mk.injEq] at g1)
          try (obtain ⟨⟨rfl, rfl, _⟩, _, _⟩ := g1)
          refine rr_guardN rfl rfl rfl rfl ?_
          refine rr_guardN rfl rfl rfl rfl ?_
          refine rr_guardN rfl rfl rfl rfl ?_
          refine rr_guardN rfl rfl rfl rfl ?_
          refine rr_guardN rfl rfl rfl rfl ?_
          refine rr_guardN rfl rfl rfl rfl ?_
          refine rr_guardY rfl rfl rfl ?_
          first | refine rr_pick rfl rfl ?_ | refine rr_pickb rfl rfl rfl rfl ?_
          first | refine rr_pick rfl rfl ?_ | refine rr_pickb rfl rfl rfl rfl ?_
          refine rr_nil ?_
          refine cc_cond rfl (fun h30 => ?_) (fun h30 => ?_)
          · try simp only [decide_eq_true_eq, decide_eq_false_iff_not, beq_iff_eq, beq_eq_false_iff_ne, bne_iff_ne, bne_eq_false_iff_eq, ne_eq, Bool.not_eq_eq_eq_not, Bool.not_true, Bool.not_false] at h30
            try (exfalso; simp at h30; done)
            all_goals (
              have hb : bb = true := by
                rw [← hB]
                first
                | (simp [badN, prevAt, hm]; grind)
                | grind [badN, prevAt]
              have hfin : mayP ns = false := by
                rw [mayP, hj.2, hst, hb]; rfl
              refine cc_seq ?_
              refine cc_region ?_
              refine rr_assign rfl rfl ?_
              refine rr_nil ?_
              refine cc_ret ?_
              exact ⟨_, rfl, entW_pu2 (by rw [hfin]) entW_fr⟩)
          · try simp only [decide_eq_true_eq, decide_eq_false_iff_not, beq_iff_eq, beq_eq_false_iff_ne, bne_iff_ne, bne_eq_false_iff_eq, ne_eq, Bool.not_eq_eq_eq_not, Bool.not_true, Bool.not_false] at h30
            try (exfalso; simp at h30; done)
            all_goals (
              have hb : bb = false := by
                rw [← hB]
                first
                | (simp [badN, prevAt, hm]; grind)
                | grind [badN, prevAt]
              rw [hb, Bool.not_false, Bool.true_and] at hst
              have hgo := hj.2.trans hst
              refine cc_skip ?_
              refine cc_region ?_
              refine r_add rfl rfl rfl (by omega) ?_
              refine rr_move rfl rfl ?_
              refine rr_nil ?_
              first | exact ⟨j + 1 + 1, by omega, by ((repeat' (first | exact covers_nil | (refine covers_cons ?_ ?_; focus (first | rfl | (simp [lk, lk?]; done))))) ; (first | done | fail)), entW_pu ⟨by omega, hgo⟩ entW_fr⟩ | exact ⟨j + 1, by omega, by ((repeat' (first | exact covers_nil | (refine covers_cons ?_ ?_; focus (first | rfl | (simp [lk, lk?]; done))))) ; (first | done | fail)), entW_pu ⟨by omega, hgo⟩ entW_fr⟩)
      · refine rr_guardN rfl rfl rfl rfl ?_
        refine rr_guardN rfl rfl rfl rfl ?_
        refine rr_guardU rfl rfl rfl ?_
        refine rr_guardU rfl rfl rfl ?_
        refine rr_guardU rfl rfl rfl ?_
        refine rr_guardU rfl rfl rfl ?_
        refine rr_guardU rfl rfl rfl ?_
        refine rr_guardU rfl rfl rfl ?_
        refine rr_guardU rfl rfl rfl ?_
        refine rr_guardN rfl rfl rfl rfl ?_
        first | refine rr_pick rfl rfl ?_ | refine rr_pickb rfl rfl rfl rfl ?_
        refine rr_nil ?_
        refine cc_cond rfl (fun h30 => ?_) (fun h30 => ?_)
        · try simp only [decide_eq_true_eq, decide_eq_false_iff_not, beq_iff_eq, beq_eq_false_iff_ne, bne_iff_ne, bne_eq_false_iff_eq, ne_eq, Bool.not_eq_eq_eq_not, Bool.not_true, Bool.not_false] at h30
          try (exfalso; simp at h30; done)
          all_goals (
            have hb : bb = true := by
              rw [← hB]
              first
              | (simp [badN, prevAt, hm]; grind)
              | grind [badN, prevAt]
            have hfin : mayP ns = false := by
              rw [mayP, hj.2, hst, hb]; rfl
            refine cc_seq ?_
            refine cc_region ?_
            refine rr_assign rfl rfl ?_
            refine rr_nil ?_
            refine cc_ret ?_
            exact ⟨_, rfl, entW_pu2 (by rw [hfin]) entW_fr⟩)
        · try simp only [decide_eq_true_eq, decide_eq_false_iff_not, beq_iff_eq, beq_eq_false_iff_ne, bne_iff_ne, bne_eq_false_iff_eq, ne_eq, Bool.not_eq_eq_eq_not, Bool.not_true, Bool.not_false] at h30
          try (exfalso; simp at h30; done)
          all_goals (
            have hb : bb = false := by
              rw [← hB]
              first
              | (simp [badN, prevAt, hm]; grind)
              | grind [badN, prevAt]
            rw [hb, Bool.not_false, Bool.true_and] at hst
            have hgo := hj.2.trans hst
            refine cc_skip ?_
            refine cc_region ?_
            refine r_add rfl rfl rfl (by omega) ?_
            refine rr_move rfl rfl ?_
            refine rr_nil ?_
            first | exact ⟨j + 1 + 1, by omega, by ((repeat' (first | exact covers_nil | (refine covers_cons ?_ ?_; focus (first | rfl | (simp [lk, lk?]; done))))) ; (first | done | fail)), entW_pu ⟨by omega, hgo⟩ entW_fr⟩ | exact ⟨j + 1, by omega, by ((repeat' (first | exact covers_nil | (refine covers_cons ?_ ?_; focus (first | rfl | (simp [lk, lk?]; done))))) ; (first | done | fail)), entW_pu ⟨by omega, hgo⟩ entW_fr⟩)
    · refine rr_guardN rfl rfl rfl rfl ?_
      first | refine rr_pick rfl rfl ?_ | refine rr_pickb rfl rfl rfl rfl ?_
      refine rr_move rfl rfl ?_
      refine rr_guard rfl rfl rfl (fun hg4_6 => ?_) (fun hg4_6 => ?_)
      · refine rr_move rfl rfl ?_
        refine rr_guardY rfl rfl rfl ?_
        refine r_int rfl rfl rfl rfl ?_
        refine rr_guardY rfl rfl rfl ?_
        refine rr_move rfl rfl ?_
        refine rr_guard rfl rfl rfl (fun hg4_9 => ?_) (fun hg4_9 => ?_)
        · try (obtain ⟨j, rfl⟩ := succ_of (a := 0) (by simpa using hg4_9))
          try (obtain ⟨m, hm⟩ := lt_get (l := ns) (j := j) (by omega))
          try (obtain ⟨b2, o2, cap2, cs2, g1, g2, g3⟩ := hv.get1 rfl rfl hm)
          try (simp only [Value.slice.injEq, Option.some.injEq, Addr.mk.injEq] at g1)
          try (obtain ⟨⟨rfl, rfl, _⟩, _, _⟩ := g1)
          refine rr_move rfl rfl ?_
          refine rr_guardY rfl rfl rfl ?_
          refine rr_move rfl rfl ?_
          refine rr_guardY rfl rfl rfl ?_
          refine r_sub rfl rfl rfl (by omega) ?_
          rw [show (((j + 1 : Nat) : Int) - 1) = ((j : Nat) : Int) by omega]
          refine rr_guardY rfl rfl rfl ?_
          refine r_ix rfl rfl rfl (by omega) ?_
          refine rr_guardY rfl rfl rfl ?_
          refine r_ld rfl (ls0 rfl) g3 rfl ?_
          refine rr_guardY rfl rfl rfl ?_
          refine rr_move rfl rfl ?_
          refine rr_guardY rfl rfl rfl ?_
          refine r_int rfl rfl rfl rfl ?_
          refine rr_guardY rfl rfl rfl ?_
          first | refine rr_pick rfl rfl ?_ | refine rr_pickb rfl rfl rfl rfl ?_
          first | refine rr_pick rfl rfl ?_ | refine rr_pickb rfl rfl rfl rfl ?_
          refine rr_nil ?_
          refine cc_cond rfl (fun h30 => ?_) (fun h30 => ?_)
          · try simp only [decide_eq_true_eq, decide_eq_false_iff_not, beq_iff_eq, beq_eq_false_iff_ne, bne_iff_ne, bne_eq_false_iff_eq, ne_eq, Bool.not_eq_eq_eq_not, Bool.not_true, Bool.not_false] at h30
            try (exfalso; simp at h30; done)
            all_goals (
              have hb : bb = true := by
                rw [← hB]
                first
                | (simp [badN, prevAt, hm]; grind)
                | grind [badN, prevAt]
              have hfin : mayP ns = false := by
                rw [mayP, hj.2, hst, hb]; rfl
              refine cc_seq ?_
              refine cc_region ?_
              refine rr_assign rfl rfl ?_
              refine rr_nil ?_
              refine cc_ret ?_
              exact ⟨_, rfl, entW_pu2 (by rw [hfin]) entW_fr⟩)
          · try simp only [decide_eq_true_eq, decide_eq_false_iff_not, beq_iff_eq, beq_eq_false_iff_ne, bne_iff_ne, bne_eq_false_iff_eq, ne_eq, Bool.not_eq_eq_eq_not, Bool.not_true, Bool.not_false] at h30
            try (exfalso; simp at h30; done)
            all_goals (
              have hb : bb = false := by
                rw [← hB]
                first
                | (simp [badN, prevAt, hm]; grind)
                | grind [badN, prevAt]
              rw [hb, Bool.not_false, Bool.true_and] at hst
              have hgo := hj.2.trans hst
              refine cc_skip ?_
              refine cc_region ?_
              refine r_add rfl rfl rfl (by omega) ?_
              refine rr_move rfl rfl ?_
              refine rr_nil ?_
              first | exact ⟨j + 1 + 1, by omega, by ((repeat' (first | exact covers_nil | (refine covers_cons ?_ ?_; focus (first | rfl | (simp [lk, lk?]; done))))) ; (first | done | fail)), entW_pu ⟨by omega, hgo⟩ entW_fr⟩ | exact ⟨j + 1, by omega, by ((repeat' (first | exact covers_nil | (refine covers_cons ?_ ?_; focus (first | rfl | (simp [lk, lk?]; done))))) ; (first | done | fail)), entW_pu ⟨by omega, hgo⟩ entW_fr⟩)
        · try (obtain ⟨j, rfl⟩ := succ_of (a := 0) (by simpa using hg4_9))
          try (obtain ⟨m, hm⟩ := lt_get (l := ns) (j := j) (by omega))
          try (obtain ⟨b2, o2, cap2, cs2, g1, g2, g3⟩ := hv.get1 rfl rfl hm)
          try (simp only [Value.slice.injEq, Option.some.injEq, Addr.mk.injEq] at g1)
          try (obtain ⟨⟨rfl, rfl, _⟩, _, _⟩ := g1)
          refine rr_guardN rfl rfl rfl rfl ?_
          refine rr_guardN rfl rfl rfl rfl ?_
          refine rr_guardN rfl rfl rfl rfl ?_
          refine rr_guardN rfl rfl rfl rfl ?_
          refine rr_guardN rfl rfl rfl rfl ?_
          refine rr_guardN rfl rfl rfl rfl ?_
          refine rr_guardY rfl rfl rfl ?_
          first | refine rr_pick rfl rfl ?_ | refine rr_pickb rfl rfl rfl rfl ?_
          first | refine rr_pick rfl rfl ?_ | refine rr_pickb rfl rfl rfl rfl ?_
          refine rr_nil ?_
          refine cc_cond rfl (fun h30 => ?_) (fun h30 => ?_)
          · try simp only [decide_eq_true_eq, decide_eq_false_iff_not, beq_iff_eq, beq_eq_false_iff_ne, bne_iff_ne, bne_eq_false_iff_eq, ne_eq, Bool.not_eq_eq_eq_not, Bool.not_true, Bool.not_false] at h30
            try (exfalso; simp at h30; done)
            all_goals (
              have hb : bb = true := by
                rw [← hB]
                first
                | (simp [badN, prevAt, hm]; grind)
                | grind [badN, prevAt]
              have hfin : mayP ns = false := by
                rw [mayP, hj.2, hst, hb]; rfl
              refine cc_seq ?_
              refine cc_region ?_
              refine rr_assign rfl rfl ?_
              refine rr_nil ?_
              refine cc_ret ?_
              exact ⟨_, rfl, entW_pu2 (by rw [hfin]) entW_fr⟩)
          · try simp only [decide_eq_true_eq, decide_eq_false_iff_not, beq_iff_eq, beq_eq_false_iff_ne, bne_iff_ne, bne_eq_false_iff_eq, ne_eq, Bool.not_eq_eq_eq_not, Bool.not_true, Bool.not_false] at h30
            try (exfalso; simp at h30; done)
            all_goals (
              have hb : bb = false := by
                rw [← hB]
                first
                | (simp [badN, prevAt, hm]; grind)
                | grind [badN, prevAt]
              rw [hb, Bool.not_false, Bool.true_and] at hst
              have hgo := hj.2.trans hst
              refine cc_skip ?_
              refine cc_region ?_
              refine r_add rfl rfl rfl (by omega) ?_
              refine rr_move rfl rfl ?_
              refine rr_nil ?_
              first | exact ⟨j + 1 + 1, by omega, by ((repeat' (first | exact covers_nil | (refine covers_cons ?_ ?_; focus (first | rfl | (simp [lk, lk?]; done))))) ; (first | done | fail)), entW_pu ⟨by omega, hgo⟩ entW_fr⟩ | exact ⟨j + 1, by omega, by ((repeat' (first | exact covers_nil | (refine covers_cons ?_ ?_; focus (first | rfl | (simp [lk, lk?]; done))))) ; (first | done | fail)), entW_pu ⟨by omega, hgo⟩ entW_fr⟩)
      · refine rr_guardN rfl rfl rfl rfl ?_
        refine rr_guardN rfl rfl rfl rfl ?_
        refine rr_guardU rfl rfl rfl ?_
        refine rr_guardU rfl rfl rfl ?_
        refine rr_guardU rfl rfl rfl ?_
        refine rr_guardU rfl rfl rfl ?_
        refine rr_guardU rfl rfl rfl ?_
        refine rr_guardU rfl rfl rfl ?_
        refine rr_guardU rfl rfl rfl ?_
        refine rr_guardN rfl rfl rfl rfl ?_
        first | refine rr_pick rfl rfl ?_ | refine rr_pickb rfl rfl rfl rfl ?_
        refine rr_nil ?_
        refine cc_cond rfl (fun h30 => ?_) (fun h30 => ?_)
        · try simp only [decide_eq_true_eq, decide_eq_false_iff_not, beq_iff_eq, beq_eq_false_iff_ne, bne_iff_ne, bne_eq_false_iff_eq, ne_eq, Bool.not_eq_eq_eq_not, Bool.not_true, Bool.not_false] at h30
          try (exfalso; simp at h30; done)
          all_goals (
            have hb : bb = true := by
              rw [← hB]
              first
              | (simp [badN, prevAt, hm]; grind)
              | grind [badN, prevAt]
            have hfin : mayP ns = false := by
              rw [mayP, hj.2, hst, hb]; rfl
            refine cc_seq ?_
            refine cc_region ?_
            refine rr_assign rfl rfl ?_
            refine rr_nil ?_
            refine cc_ret ?_
            exact ⟨_, rfl, entW_pu2 (by rw [hfin]) entW_fr⟩)
        · try simp only [decide_eq_true_eq, decide_eq_false_iff_not, beq_iff_eq, beq_eq_false_iff_ne, bne_iff_ne, bne_eq_false_iff_eq, ne_eq, Bool.not_eq_eq_eq_not, Bool.not_true, Bool.not_false] at h30
          try (exfalso; simp at h30; done)
          all_goals (
            have hb : bb = false := by
              rw [← hB]
              first
              | (simp [badN, prevAt, hm]; grind)
              | grind [badN, prevAt]
            rw [hb, Bool.not_false, Bool.true_and] at hst
            have hgo := hj.2.trans hst
            refine cc_skip ?_
            refine cc_region ?_
            refine r_add rfl rfl rfl (by omega) ?_
            refine rr_move rfl rfl ?_
            refine rr_nil ?_
            first | exact ⟨j + 1 + 1, by omega, by ((repeat' (first | exact covers_nil | (refine covers_cons ?_ ?_; focus (first | rfl | (simp [lk, lk?]; done))))) ; (first | done | fail)), entW_pu ⟨by omega, hgo⟩ entW_fr⟩ | exact ⟨j + 1, by omega, by ((repeat' (first | exact covers_nil | (refine covers_cons ?_ ?_; focus (first | rfl | (simp [lk, lk?]; done))))) ; (first | done | fail)), entW_pu ⟨by omega, hgo⟩ entW_fr⟩)
  · try simp only [decide_eq_true_eq, decide_eq_false_iff_not, beq_iff_eq, beq_eq_false_iff_ne, bne_iff_ne, bne_eq_false_iff_eq, ne_eq, Bool.not_eq_eq_eq_not, Bool.not_true, Bool.not_false] at h8
    have hfin : mayP ns = decide ((0 : Int) < (ns.length : Int)) := by
      rw [mayP, hj.2, List.drop_of_length_le (by omega)]; simp [mayFrom]
    refine cc_exit ?_
    refine cc_seq ?_
    refine cc_region ?_
    refine rr_move rfl rfl ?_
    refine r_lens rfl rfl ?_
    refine r_int rfl rfl rfl rfl ?_
    refine rr_assign rfl rfl ?_
    refine rr_nil ?_
    refine cc_ret ?_
    exact ⟨_, rfl, entW_pu2 (by rw [hfin]) entW_fr⟩
end Go.Proofs.YtoiakcgdkegncaaGreat

namespace Go.Proofs.YtoiakcgdkegncaaGreat
open Go.RowKit Ice
attribute [local irreducible] CC RR Tr stir mixOf mixPoint
def ptOf (n : Int) (i : Nat) : PtS := (mixPoint n.toNat i, n)
def rawPts (ns : List Int) : List PtS := ns.flatMap fun n => (List.range 8).map (ptOf n)
def ptsOf (ns : List Int) : List PtS := if mayP ns then (Go.Sort.sort ltP (rawPts ns).toArray).toList else []
theorem rawPts_succ {ns : List Int} {j : Nat} {n : Int} (h : ns[j]? = some n) : rawPts (ns.take (j + 1)) = rawPts (ns.take j) ++ (List.range 8).map (ptOf n) := by
  rw [rawPts, List.take_add_one, h, List.flatMap_append]; simp [rawPts]
theorem rawPts_len (ns : List Int) : (rawPts ns).length = 8 * ns.length := by
  induction ns with
  | nil => rfl
  | cons n ns ih => rw [rawPts, List.flatMap_cons, List.length_append, ← rawPts, ih]; simp; omega
theorem mayFrom_mem : ∀ {ns : List Int} {p : Option Int}, mayFrom p ns = true → ∀ n ∈ ns, 1 ≤ n ∧ n ≤ 5
  | [], _, _, n, h => by cases h
  | m :: ns, p, hm, n, h => by
    simp only [mayFrom, Bool.and_eq_true, Bool.not_eq_true'] at hm
    rcases List.mem_cons.1 h with rfl | h
    · have := hm.1
      simp only [badN, Bool.or_eq_false_iff, decide_eq_false_iff_not] at this
      omega
    · exact mayFrom_mem hm.2 n h
theorem mayP_mem {ns : List Int} (h : mayP ns = true) : 0 < ns.length ∧ ∀ n ∈ ns, 1 ≤ n ∧ n ≤ 5 := by
  simp only [mayP, Bool.and_eq_true, decide_eq_true_eq] at h
  exact ⟨h.2, mayFrom_mem h.1⟩
theorem sort_size {α : Type} [Inhabited α] {lt : α → α → Bool} {d : Array α} (h : d.size ≤ 12) : (Go.Sort.sort lt d).size = d.size := by
  rw [Go.Sort.sort, Go.Sort.pdq, if_pos (by omega), Go.Sort.insertionSort, insOuter_size]
theorem ptsOf_len {ns : List Int} (h : mayP ns = true) (h1 : ns.length ≤ 1) : (ptsOf ns).length = 8 * ns.length := by
  rw [ptsOf, if_pos h, Array.length_toList, sort_size]
  · rw [List.size_toArray, rawPts_len]
  · rw [List.size_toArray, rawPts_len]; omega
theorem pointI_tr (n : Int) (i : Nat) (h0 : 0 ≤ n) (h1 : n ≤ 2 ^ 20) (h2 : i ≤ 2 ^ 20) : Tr Tryz.prog 159 #[i64 n, i64 i] 1 (fun v => pu (v = u64V (mixPoint n.toNat i))) := by
  have := point_tr n.toNat i (by omega) h2
  rwa [show ((n.toNat : Nat) : Int) = n by omega] at this
theorem ptsOf_tr (v : Value) (ns : List Int) (X : SL) (hv : View X v 3 1 ns.length (ns.map i64)) (hm : mayP ns = true) (h1 : ns.length ≤ 1) :
    Tr Tryz.prog 126 #[v] X (fun r => slR r 224 2 (ptsOf ns).length ((ptsOf ns).flatMap ptV) * X) := by
  obtain ⟨base, cap, rfl⟩ := hv.val
  obtain ⟨hpos, hmem⟩ := mayP_mem hm
  have hwp : ∀ (ys : List PtS), ∀ x ∈ ys, (ptV x).length = 2 := fun _ _ _ => rfl
  refine tr_body Tryz.func126 (by kernel_rfl) rfl Tryz.ntmps126 rfl (L := [(0, .slice base ns.length cap)]) (covers_cons rfl covers_nil) rfl ?_
  intro F w0 f
  refine CC.entW ?_ (entW_ent (ent_nil 224 2))
  refine cc_seq ?_
  refine cc_region ?_
  refine rr_assign rfl rfl ?_
  refine rr_nil ?_
  refine cc_seq ?_
  refine cc_seq ?_
  refine cc_region ?_
  refine rr_move rfl rfl ?_
  refine rr_call rfl rfl rfl rfl (ptsMay_tr (.slice base ns.length cap) ns X hv (by omega)) inferInstance rfl (sd0 rfl) (fun _ => sd0 rfl) rfl (fun v => ?_)
  first | refine RR.pu2 ?_ | refine RR.pu ?_
  rintro rfl
  refine r_not rfl rfl ?_
  rw [hm]
  refine rr_nil ?_
  refine cc_condF rfl ?_
  refine cc_skip ?_
  refine cc_seq ?_
  refine cc_region ?_
  refine rr_assign rfl rfl ?_
  refine rr_nil ?_
  refine cc_seq ?_
  refine cc_seq ?_
  refine cc_region ?_
  refine rr_move rfl rfl ?_
  refine r_lens rfl rfl ?_
  refine rr_move rfl rfl ?_
  refine rr_nil ?_
  refine cc_block ?_
  refine cc_loopW (α := (Nat × Value)) (fun ⟨j, l⟩ => [(12, i64 j), (11, i64 ns.length), (10, .slice base ns.length cap), (3, l)]) (fun ⟨j, l⟩ => pu (j ≤ ns.length) * (slR l 224 2 (rawPts (ns.take j)).length ((rawPts (ns.take j)).flatMap ptV) * X * F)) (fun ⟨j, l⟩ => ns.length - j) ((0, .slice none 0 0)) (by ((repeat' (first | exact covers_nil | (refine covers_cons ?_ ?_; focus (first | rfl | (simp [lk, lk?]; done))))) ; (first | done | fail))) (by exact entW_pu (by omega) (by rw [show rawPts (ns.take 0) = [] from rfl, List.flatMap_nil, List.length_nil]; exact entW_fr)) ?_
  rintro ⟨j, l⟩ f
  refine CC.pu fun hj => ?_
  refine cc_seq ?_
  refine cc_region ?_
  refine r_int rfl rfl rfl rfl ?_
  refine rr_nil ?_
  refine cc_seq ?_
  refine cc_cond rfl (fun h13 => ?_) (fun h13 => ?_)
  · try simp only [decide_eq_true_eq, decide_eq_false_iff_not, beq_iff_eq, beq_eq_false_iff_ne, bne_iff_ne, bne_eq_false_iff_eq, ne_eq, Bool.not_eq_eq_eq_not, Bool.not_true, Bool.not_false] at h13
    obtain ⟨n, hn⟩ := lt_get (l := ns) (j := j) (by omega)
    obtain ⟨b, o, cap', cs, e1, e2, e3⟩ := hv.get1 rfl rfl hn
    simp only [Value.slice.injEq] at e1
    obtain ⟨rfl, _, rfl⟩ := e1
    have hr := hmem n (get_mem hn)
    have hlen := rawPts_len (ns.take j)
    rw [List.length_take, Nat.min_eq_left (by omega)] at hlen
    refine cc_skip ?_
    refine cc_seq ?_
    refine cc_block ?_
    refine cc_seq ?_
    refine cc_region ?_
    refine r_ix rfl rfl rfl (by omega) ?_
    refine r_ld rfl (ls0 rfl) e3 rfl ?_
    refine rr_assign rfl rfl ?_
    refine rr_nil ?_
    refine cc_seq ?_
    refine cc_region ?_
    refine rr_move rfl rfl ?_
    refine rr_nil ?_
    refine cc_block ?_
    refine cc_loopW (α := (Nat × Value)) (fun ⟨i, l2⟩ => [(16, i64 i), (5, i64 n), (12, i64 j), (11, i64 ns.length), (10, .slice (some ⟨b, o, none⟩) ns.length cap), (3, l2)]) (fun ⟨i, l2⟩ => pu (i ≤ 8) * (slR l2 224 2 (rawPts (ns.take j) ++ (List.range i).map (ptOf n)).length ((rawPts (ns.take j) ++ (List.range i).map (ptOf n)).flatMap ptV) * X * F)) (fun ⟨i, l2⟩ => 8 - i) ((0, l)) (by ((repeat' (first | exact covers_nil | (refine covers_cons ?_ ?_; focus (first | rfl | (simp [lk, lk?]; done))))) ; (first | done | fail))) (by exact entW_pu (by omega) (by simp only [List.range_zero, List.map_nil, List.append_nil]; exact entW_fr)) ?_
    rintro ⟨i, l2⟩ f
    refine CC.pu fun hi => ?_
    refine cc_seq ?_
    refine cc_region ?_
    refine r_int rfl rfl rfl rfl ?_
    refine rr_nil ?_
    refine cc_seq ?_
    refine cc_cond rfl (fun h17 => ?_) (fun h17 => ?_)
    · try simp only [decide_eq_true_eq, decide_eq_false_iff_not, beq_iff_eq, beq_eq_false_iff_ne, bne_iff_ne, bne_eq_false_iff_eq, ne_eq, Bool.not_eq_eq_eq_not, Bool.not_true, Bool.not_false] at h17
      have hsucc : rawPts (ns.take j) ++ (List.range (i + 1)).map (ptOf n) = (rawPts (ns.take j) ++ (List.range i).map (ptOf n)) ++ [ptOf n i] := by
        rw [List.range_succ, List.map_append, ← List.append_assoc]; rfl
      have hgl : (rawPts (ns.take j) ++ (List.range i).map (ptOf n)).length ≤ 2 ^ 24 := by
        rw [List.length_append, List.length_map, List.length_range]; omega
      generalize rawPts (ns.take j) ++ (List.range i).map (ptOf n) = G at hsucc hgl ⊢
      refine cc_skip ?_
      refine cc_seq ?_
      refine cc_block ?_
      refine cc_seq ?_
      refine cc_region ?_
      refine rr_move rfl rfl ?_
      refine rr_assign rfl rfl ?_
      refine rr_nil ?_
      refine cc_region ?_
      refine rr_move rfl rfl ?_
      refine rr_move rfl rfl ?_
      refine rr_move rfl rfl ?_
      refine rr_call rfl rfl rfl rfl (pointI_tr n i (by omega) (by omega) (by omega)) inferInstance rfl (sd0 rfl) (fun _ => sd0 rfl) rfl (fun v => ?_)
      first | refine RR.pu2 ?_ | refine RR.pu ?_
      rintro rfl
      refine rr_move rfl rfl ?_
      refine r_bld rfl rfl rfl ?_
      refine r_bsl rfl rfl rfl rfl rfl rfl (sd0 rfl) (fun _ => sd0 rfl) (fun p10_6 => ?_)
      refine r_app (m := G.length) (xs := G.flatMap ptV) (k' := 1) (ys := ptV (ptOf n i)) rfl rfl (.inl (by rw [spv_underlying]; kernel_rfl)) inferInstance rfl (fun w sa => src_of sa (Nat.le_of_ble_eq_true rfl) rfl) (by simp [ptV]) (by simp [oneC, ptV]) (by omega) (by omega) (by omega) rfl (by first | exact sd0 rfl | exact sd1 rfl) (fun _ => by first | exact sd0 rfl | exact sd1 rfl) (fun v => ?_)
      refine rr_assign rfl rfl ?_
      refine rr_nil ?_
      refine cc_region ?_
      refine r_add rfl rfl rfl (by omega) ?_
      refine rr_move rfl rfl ?_
      refine rr_nil ?_
      exact ⟨(i + 1, v), (by show 8 - (i + 1) < 8 - i; omega), by ((repeat' (first | exact covers_nil | (refine covers_cons ?_ ?_; focus (first | rfl | (simp [lk, lk?]; done))))) ; (first | done | fail)), entW_pu (by omega) (by
        rw [hsucc, List.flatMap_append, List.length_append, List.flatMap_singleton]
        exact entW_fr)⟩
    · try simp only [decide_eq_true_eq, decide_eq_false_iff_not, beq_iff_eq, beq_eq_false_iff_ne, bne_iff_ne, bne_eq_false_iff_eq, ne_eq, Bool.not_eq_eq_eq_not, Bool.not_true, Bool.not_false] at h17
      obtain rfl : i = 8 := by omega
      refine cc_exit ?_
      refine cc_region ?_
      refine r_add rfl rfl rfl (by omega) ?_
      refine rr_move rfl rfl ?_
      refine rr_nil ?_
      exact ⟨(j + 1, l2), (by show ns.length - (j + 1) < ns.length - j; omega), by ((repeat' (first | exact covers_nil | (refine covers_cons ?_ ?_; focus (first | rfl | (simp [lk, lk?]; done))))) ; (first | done | fail)), entW_pu (by omega) (by rw [rawPts_succ hn]; exact entW_fr)⟩
  · try simp only [decide_eq_true_eq, decide_eq_false_iff_not, beq_iff_eq, beq_eq_false_iff_ne, bne_iff_ne, bne_eq_false_iff_eq, ne_eq, Bool.not_eq_eq_eq_not, Bool.not_true, Bool.not_false] at h13
    obtain rfl : j = ns.length := by omega
    rw [List.take_length]
    refine CC.slb l (by rw [rawPts_len]; omega) fun lb lc lrest e1 e2 e3 => ?_
    subst e1
    refine cc_exit ?_
    refine cc_seq ?_
    refine cc_region ?_
    refine rr_move rfl rfl ?_
    refine rr_call rfl rfl rfl rfl (sortPt_tr lb lc 161 (rawPts ns).toArray [] lrest cmpP 1 (by rw [List.size_toArray, rawPts_len]; omega) of1_tr) inferInstance rfl (sd0 rfl) (fun _ => sd0 rfl) rfl (fun v => ?_)
    first | refine RR.pu2 ?_ | refine RR.pu ?_
    rintro rfl
    refine rr_nil ?_
    refine cc_seq ?_
    refine cc_region ?_
    refine rr_move rfl rfl ?_
    refine rr_assign rfl rfl ?_
    refine rr_nil ?_
    refine cc_ret ?_
    refine ⟨_, rfl, ?_⟩
    have hsz : (ptsOf ns).length = (rawPts ns).length := by rw [ptsOf_len hm h1, rawPts_len]
    have hs : ptsOf ns = (Go.Sort.sort (fun x y => decide (cmpP x y < 0)) (rawPts ns).toArray).toList := by rw [ptsOf, if_pos hm]; rfl
    rw [← hs]
    exact (entW_ent (ent_pick (X := bl lb 224 ((ptsOf ns).flatMap ptV ++ lrest)) (slR_blk (by rw [fm_len (hwp _)]) (by rw [List.length_append, fm_len (hwp _), hsz]; rw [List.length_append, fm_len (hwp _)] at e3; exact e3)))).trans (by rw [hsz]; exact entW_fr)
end Go.Proofs.YtoiakcgdkegncaaGreat

namespace Go.Proofs.YtoiakcgdkegncaaGreat
open Go.RowKit Ice
attribute [local irreducible] CC RR Tr stir mixOf mixPoint
theorem oneC_i64 (ns : List Int) : (ns.map i64).all oneC = true := by simp [List.all_map, oneC]
theorem cloneI_tr (v : Value) (ns : List Int) (X : SL) (hv : View X v 3 1 ns.length (ns.map i64)) (hl : ns.length ≤ 2 ^ 20) :
    Tr Tryz.prog 125 #[v] X (fun r => slR r 3 1 ns.length (ns.map i64) * X) := by
  rcases hv with ⟨rfl, h2, h3⟩ | ⟨b, o, cap, cs, rfl, hh, h3, h4, h5⟩
  · refine tr_body Tryz.func125 (by kernel_rfl) rfl Tryz.ntmps125 rfl (L := [(0, .slice none 0 0)]) (covers_cons rfl covers_nil) rfl ?_
    intro F w0 f
    rw [h2, h3]
    refine cc_seq ?_
    refine cc_region ?_
    refine rr_assign rfl rfl ?_
    refine rr_nil ?_
    refine cc_seq ?_
    refine cc_seq ?_
    refine cc_region ?_
    refine rr_move rfl rfl ?_
    refine r_snil rfl rfl rfl ?_
    refine rr_nil ?_
    refine cc_condT rfl ?_
    refine cc_seq ?_
    refine cc_region ?_
    refine rr_assign rfl rfl ?_
    refine rr_nil ?_
    refine cc_ret ?_
    exact ⟨_, rfl, (entW_ent (ent_nil 3 1)).trans entW_fr⟩
  · haveI : HasI X b (.cells cs.toArray 3 (0, 0)) := ⟨hh⟩
    refine tr_body Tryz.func125 (by kernel_rfl) rfl Tryz.ntmps125 rfl (L := [(0, .slice (some ⟨b, o, none⟩) ns.length cap)]) (covers_cons rfl covers_nil) rfl ?_
    intro F w0 f
    refine cc_seq ?_
    refine cc_region ?_
    refine rr_assign rfl rfl ?_
    refine rr_nil ?_
    refine cc_seq ?_
    refine cc_seq ?_
    refine cc_region ?_
    refine rr_move rfl rfl ?_
    refine r_snil rfl rfl rfl ?_
    refine rr_nil ?_
    refine cc_condF rfl ?_
    refine cc_skip ?_
    refine cc_seq ?_
    refine cc_region ?_
    refine r_bsl0 rfl (sd0 rfl) (fun _ => sd0 rfl) (fun p3_0 => ?_)
    refine rr_move rfl rfl ?_
    refine r_app (m := 0) (xs := []) (k' := ns.length) (ys := ns.map i64) rfl rfl (.inl (by rw [spv_underlying]; kernel_rfl)) inferInstance rfl (fun w sa => src_of sa h3 h5) (by simp) (oneC_i64 ns) (by omega) (by omega) (by omega) rfl (by first | exact sd0 rfl | exact sd1 rfl) (fun _ => by first | exact sd0 rfl | exact sd1 rfl) (fun v => ?_)
    refine rr_assign rfl rfl ?_
    refine rr_nil ?_
    refine cc_ret ?_
    exact ⟨_, rfl, by rw [Nat.zero_add, List.nil_append]; exact entW_fr⟩
/-- a ring in the pool -/
def ringIn (U : Pool) (r : Nat) (ep : Int) (ns : List Int) : Prop := ∃ nV lV, (r, 120, [i64 ep, nV, lV]) ∈ U ∧ inSl U nV 3 1 ns.length (ns.map i64) ∧ inSl U lV 224 2 (ptsOf ns).length ((ptsOf ns).flatMap ptV)
theorem ringIn.mono {U V : Pool} {r : Nat} {ep : Int} {ns : List Int} (h : ringIn U r ep ns) (k : Sub U V) : ringIn V r ep ns := by
  obtain ⟨nV, lV, h1, h2, h3⟩ := h
  exact ⟨nV, lV, k _ h1, h2.mono k, h3.mono k⟩
theorem ring_pool (U : Pool) (r : Nat) (ep : Int) (nV lV : Value) (ns : List Int) :
    Ent (bl r 120 [i64 ep, nV, lV] * (slR nV 3 1 ns.length (ns.map i64) * (slR lV 224 2 (ptsOf ns).length ((ptsOf ns).flatMap ptV) * poolR U)))
      (ex fun q : Nat × Pool => pu (ptr r = ptr q.1 ∧ Sub U q.2 ∧ ringIn q.2 q.1 ep ns) * poolR q.2) := by
  have h1 := pool_sl lV 224 2 (ptsOf ns).length ((ptsOf ns).flatMap ptV) U (by omega)
  have h2 := pool_sl2 h1 nV 3 1 ns.length (ns.map i64) (by omega)
  have h3 := pool_then h2 (b := r) (T := 120) (cs := [i64 ep, nV, lV])
  refine h3.trans ?_
  rintro h ⟨V, x⟩
  obtain ⟨⟨W, ⟨W2, ⟨a1, a2⟩, a3, a4⟩, rfl⟩, a5⟩ := pu_mul.1 x
  have hs := Sub.cons W (r, 120, [i64 ep, nV, lV])
  exact ⟨(r, _), pu_mul.2 ⟨⟨rfl, (a1.trans a3).trans hs, nV, lV, List.mem_cons_self, a4.mono hs, a2.mono (a3.trans hs)⟩, a5⟩⟩
theorem rnew_tr (U : Pool) (v : Value) (ep : Int) (ns : List Int) (hv : inSl U v 3 1 ns.length (ns.map i64)) (hm : mayP ns = true) (h1 : ns.length ≤ 1) (he : 1 ≤ ep) (he2 : ep ≤ 2 ^ 40) :
    Tr Tryz.prog 73 #[i64 ep, v] (poolR U) (fun r => ex fun q : Nat × Pool => pu (r = ptr q.1 ∧ Sub U q.2 ∧ ringIn q.2 q.1 ep ns) * poolR q.2) := by
  have hw := hv.view
  obtain ⟨base, cap, rfl⟩ := hw.val
  refine tr_body Tryz.func73 (by kernel_rfl) rfl Tryz.ntmps73 rfl (L := [(0, i64 ep), (1, .slice base ns.length cap)]) (covers_cons rfl (covers_cons rfl covers_nil)) rfl ?_
  intro F w0 f
  refine cc_seq ?_
  refine cc_region ?_
  refine rr_assign rfl rfl ?_
  refine rr_nil ?_
  refine cc_seq ?_
  refine cc_seq ?_
  refine cc_region ?_
  refine rr_move rfl rfl ?_
  refine r_int rfl rfl rfl rfl ?_
  rw [show decide (ep < 1) = false by simp; omega]
  refine rr_move rfl rfl ?_
  refine rr_guardY rfl rfl rfl ?_
  refine rr_move rfl rfl ?_
  refine rr_guardY rfl rfl rfl ?_
  refine r_int rfl rfl rfl rfl ?_
  rw [show decide (1099511627776 < ep) = false by simp; omega]
  first | refine rr_pick rfl rfl ?_ | refine rr_pickb rfl rfl rfl rfl ?_
  refine rr_move rfl rfl ?_
  refine rr_guardY rfl rfl rfl ?_
  refine rr_move rfl rfl ?_
  refine rr_guardY rfl rfl rfl ?_
  refine rr_call rfl rfl rfl rfl (ptsMay_tr (.slice base ns.length cap) ns (poolR U) hw (by omega)) inferInstance rfl (sd0 rfl) (fun _ => sd0 rfl) rfl (fun v => ?_)
  first | refine RR.pu2 ?_ | refine RR.pu ?_
  rintro rfl
  refine rr_guardY rfl rfl rfl ?_
  refine r_not rfl rfl ?_
  rw [hm]
  first | refine rr_pick rfl rfl ?_ | refine rr_pickb rfl rfl rfl rfl ?_
  refine rr_nil ?_
  refine cc_condF rfl ?_
  refine cc_skip ?_
  refine cc_seq ?_
  refine cc_region ?_
  refine rr_move rfl rfl ?_
  refine rr_move rfl rfl ?_
  refine rr_call rfl rfl rfl rfl (cloneI_tr (.slice base ns.length cap) ns (poolR U) hw (by omega)) inferInstance rfl (sd0 rfl) (fun _ => sd0 rfl) rfl (fun v => ?_)
  refine RR.slv v fun nb nc hn _ => ?_
  subst hn
  refine rr_move rfl rfl ?_
  refine rr_call rfl rfl rfl rfl (ptsOf_tr (.slice base ns.length cap) ns (poolR U) hw hm h1) inferInstance rfl (sd0 rfl) (fun _ => sd0 rfl) rfl (fun v => ?_)
  refine RR.slv v fun lb lc hl _ => ?_
  subst hl
  refine r_bld rfl rfl rfl ?_
  refine r_boxa rfl rfl (sd0 rfl) (fun _ => sd0 rfl) (fun p3_6 => ?_)
  refine rr_assign rfl rfl ?_
  refine rr_nil ?_
  refine cc_ret ?_
  refine ⟨_, rfl, ?_⟩
  refine EntW.trans (B := (bl p3_6 120 [i64 ep, .slice nb ns.length nc, .slice lb (ptsOf ns).length lc] * (slR (.slice nb ns.length nc) 3 1 ns.length (ns.map i64) * (slR (.slice lb (ptsOf ns).length lc) 224 2 (ptsOf ns).length ((ptsOf ns).flatMap ptV) * poolR U))) * F) entW_fr ?_
  exact fun w s => s.mono (ent_star (ring_pool U p3_6 ep _ _ ns))
end Go.Proofs.YtoiakcgdkegncaaGreat

