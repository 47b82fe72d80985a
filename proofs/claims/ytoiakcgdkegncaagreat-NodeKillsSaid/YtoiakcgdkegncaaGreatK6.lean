import Derived.Test.YtoiakcgdkegncaaGreatK5
set_option linter.unusedVariables false
set_option linter.unusedSimpArgs false
set_option linter.unusedSectionVars false
namespace Go.Proofs.YtoiakcgdkegncaaGreat
open Go.RowKit Ice
attribute [local irreducible] CC RR Tr
structure MarkS where
  seq : Int
  key : Txt
  pos : Int
def markV (m : MarkS) : List Value := [i64 m.seq, str m.key, i64 m.pos]
def idxI (o : Option Nat) : Int := match o with
  | some i => i
  | none => -1
theorem findIdx_none_of {α : Type} {p : α → Bool} {xs : List α} (h : ∀ (i : Nat) (x : α), xs[i]? = some x → p x = false) : xs.findIdx? p = none := by
  rw [List.findIdx?_eq_none_iff]
  intro x hx
  obtain ⟨i, hi⟩ := List.getElem?_of_mem hx
  exact h i x hi
theorem findIdx_some_of {α : Type} {p : α → Bool} {xs : List α} {j : Nat} {x : α} (hx : xs[j]? = some x) (hp : p x = true) (h : ∀ (i : Nat) (x : α), i < j → xs[i]? = some x → p x = false) : xs.findIdx? p = some j := by
  rw [List.findIdx?_eq_some_iff_getElem]
  have hj := get_lt hx
  rw [List.getElem?_eq_getElem hj] at hx
  simp only [Option.some.injEq] at hx
  refine ⟨hj, by rw [hx]; exact hp, fun i hi => ?_⟩
  rw [h i _ hi (List.getElem?_eq_getElem (by omega))]; simp
theorem nth_cut1 {cs : List Value} {o : Nat} {v : Value} (h : cutR cs o 1 [] = some [v]) : nth cs o = some v := by
  simp only [cutR, Nat.add_zero] at h
  split at h
  · rename_i u hu; simp only [Option.some.injEq, List.cons.injEq, and_true] at h; rw [hu, h]
  · simp at h
theorem idxSeg_tr (b cap fn : Nat) (xs : List (Nat × Seg)) (caps : List Value) (p : (Nat × Seg) → Bool) (X : SL) (hl : xs.length ≤ 2 ^ 30)
    (hp : ∀ x ∈ xs, Tr Tryz.prog fn ((fun g : Nat × Seg => ptr g.1) x :: caps).toArray X (fun v => pu (v = .bool (p x)) * X)) (cs : List Value) (hcs : ∀ (i : Nat) (x : (Nat × Seg)), xs[i]? = some x → cutR cs (i * 1) 1 [] = some ((fun g : Nat × Seg => [ptr g.1]) x)) :
    Tr Tryz.prog 193 #[.slice (some ⟨b, 0, none⟩) xs.length cap, .func (.func fn) #[] caps.toArray] (bl b 234 cs * X) (fun v => pu (v = i64 (idxI (xs.findIdx? p))) * (bl b 234 cs * X)) := by
  refine tr_body Tryz.func193 (by kernel_rfl) rfl Tryz.ntmps193 rfl (L := [(0, .slice (some ⟨b, 0, none⟩) xs.length cap), (1, .func (.func fn) #[] caps.toArray)]) (covers_cons rfl (covers_cons rfl covers_nil)) rfl ?_
  intro F w0 f
  refine cc_seq ?_
  refine cc_region ?_
  refine rr_assign rfl rfl ?_
  refine rr_nil ?_
  refine cc_seq ?_
  refine cc_seq ?_
  refine cc_region ?_
  refine rr_move rfl rfl ?_
  refine r_lens rfl rfl ?_
  refine rr_move rfl rfl ?_
  refine rr_nil ?_
  refine cc_block ?_
  refine cc_loopW (α := Nat) (fun j => [(8, i64 j), (7, i64 xs.length), (0, .slice (some ⟨b, 0, none⟩) xs.length cap), (1, .func (.func fn) #[] caps.toArray)]) (fun j => pu (j ≤ xs.length ∧ ∀ (i : Nat) (x : (Nat × Seg)), i < j → xs[i]? = some x → p x = false) * (bl b 234 cs * X * F)) (fun j => xs.length - j) (0) (by ((repeat' (first | exact covers_nil | (refine covers_cons ?_ ?_; focus (first | rfl | (simp [lk, lk?]; done))))) ; (first | done | fail))) (by exact entW_pu ⟨by omega, fun i x hi => by omega⟩ entW_fr) ?_
  rintro j f
  refine CC.pu fun hj => ?_
  refine cc_seq ?_
  refine cc_region ?_
  refine r_int rfl rfl rfl rfl ?_
  refine rr_nil ?_
  refine cc_seq ?_
  refine cc_cond rfl (fun h9 => ?_) (fun h9 => ?_)
  · try simp only [decide_eq_true_eq, decide_eq_false_iff_not, beq_iff_eq, beq_eq_false_iff_ne, bne_iff_ne, bne_eq_false_iff_eq, ne_eq, Bool.not_eq_eq_eq_not, Bool.not_true, Bool.not_false] at h9
    obtain ⟨x, hxj⟩ := lt_get (l := xs) (j := j) (by omega)
    have hv : cutR cs (0 + (j : Int).toNat * 1) 1 [] = some ((fun g : Nat × Seg => [ptr g.1]) x) := by rw [show 0 + (j : Int).toNat * 1 = j * 1 by omega]; exact hcs j x hxj
    refine cc_skip ?_
    refine cc_seq ?_
    refine cc_block ?_
    refine cc_seq ?_
    refine cc_region ?_
    refine rr_move rfl rfl ?_
    refine rr_assign rfl rfl ?_
    refine rr_nil ?_
    refine cc_seq ?_
    refine cc_region ?_
    refine rr_move rfl rfl ?_
    refine rr_move rfl rfl ?_
    refine rr_move rfl rfl ?_
    refine r_ix rfl rfl rfl (by omega) ?_
    refine r_ld rfl (ls0 rfl) (nth_cut1 hv) rfl ?_
    refine rr_call rfl rfl rfl rfl (hp x (get_mem hxj)) inferInstance rfl (sd0 rfl) (fun _ => sd0 rfl) rfl (fun v => ?_)
    first | refine RR.pu2 ?_ | refine RR.pu ?_
    rintro rfl
    refine rr_nil ?_
    refine cc_cond rfl (fun h16 => ?_) (fun h16 => ?_)
    · try simp only [decide_eq_true_eq, decide_eq_false_iff_not, beq_iff_eq, beq_eq_false_iff_ne, bne_iff_ne, bne_eq_false_iff_eq, ne_eq, Bool.not_eq_eq_eq_not, Bool.not_true, Bool.not_false] at h16
      have hno : xs.findIdx? p = some j := findIdx_some_of hxj h16 hj.2
      refine cc_seq ?_
      refine cc_region ?_
      refine rr_move rfl rfl ?_
      refine rr_assign rfl rfl ?_
      refine rr_nil ?_
      refine cc_ret ?_
      exact ⟨_, rfl, entW_pu2 (by rw [hno]; rfl) entW_fr⟩
    · try simp only [decide_eq_true_eq, decide_eq_false_iff_not, beq_iff_eq, beq_eq_false_iff_ne, bne_iff_ne, bne_eq_false_iff_eq, ne_eq, Bool.not_eq_eq_eq_not, Bool.not_true, Bool.not_false] at h16
      refine cc_skip ?_
      refine cc_region ?_
      refine r_add rfl rfl rfl (by omega) ?_
      refine rr_move rfl rfl ?_
      refine rr_nil ?_
      exact ⟨j + 1, by omega, by ((repeat' (first | exact covers_nil | (refine covers_cons ?_ ?_; focus (first | rfl | (simp [lk, lk?]; done))))) ; (first | done | fail)), entW_pu ⟨by omega, fun i y hi hy => by
        by_cases e : i = j
        · subst e; rw [hxj] at hy; simp only [Option.some.injEq] at hy; subst hy; exact h16
        · exact hj.2 i y (by omega) hy⟩ entW_fr⟩
  · try simp only [decide_eq_true_eq, decide_eq_false_iff_not, beq_iff_eq, beq_eq_false_iff_ne, bne_iff_ne, bne_eq_false_iff_eq, ne_eq, Bool.not_eq_eq_eq_not, Bool.not_true, Bool.not_false] at h9
    have hno : xs.findIdx? p = none := findIdx_none_of fun i x hi => hj.2 i x (by have := get_lt hi; omega) hi
    refine cc_exit ?_
    refine cc_seq ?_
    refine cc_region ?_
    refine rr_assign rfl rfl ?_
    refine rr_nil ?_
    refine cc_ret ?_
    exact ⟨_, rfl, entW_pu2 (by rw [hno]; rfl) entW_fr⟩
theorem idxMark_tr (b cap fn : Nat) (xs : List MarkS) (caps : List Value) (p : MarkS → Bool) (X : SL) (hl : xs.length ≤ 2 ^ 30)
    (hp : ∀ x ∈ xs, Tr Tryz.prog fn ((fun m : MarkS => Value.agg (markV m).toArray) x :: caps).toArray X (fun v => pu (v = .bool (p x)) * X)) (cs : List Value) (hcs : ∀ (i : Nat) (x : MarkS), xs[i]? = some x → cutR cs (i * 3) 3 [] = some (markV x)) :
    Tr Tryz.prog 164 #[.slice (some ⟨b, 0, none⟩) xs.length cap, .func (.func fn) #[] caps.toArray] (bl b 208 cs * X) (fun v => pu (v = i64 (idxI (xs.findIdx? p))) * (bl b 208 cs * X)) := by
  refine tr_body Tryz.func164 (by kernel_rfl) rfl Tryz.ntmps164 rfl (L := [(0, .slice (some ⟨b, 0, none⟩) xs.length cap), (1, .func (.func fn) #[] caps.toArray)]) (covers_cons rfl (covers_cons rfl covers_nil)) rfl ?_
  intro F w0 f
  refine cc_seq ?_
  refine cc_region ?_
  refine rr_assign rfl rfl ?_
  refine rr_nil ?_
  refine cc_seq ?_
  refine cc_seq ?_
  refine cc_region ?_
  refine rr_move rfl rfl ?_
  refine r_lens rfl rfl ?_
  refine rr_move rfl rfl ?_
  refine rr_nil ?_
  refine cc_block ?_
  refine cc_loopW (α := Nat) (fun j => [(8, i64 j), (7, i64 xs.length), (0, .slice (some ⟨b, 0, none⟩) xs.length cap), (1, .func (.func fn) #[] caps.toArray)]) (fun j => pu (j ≤ xs.length ∧ ∀ (i : Nat) (x : MarkS), i < j → xs[i]? = some x → p x = false) * (bl b 208 cs * X * F)) (fun j => xs.length - j) (0) (by ((repeat' (first | exact covers_nil | (refine covers_cons ?_ ?_; focus (first | rfl | (simp [lk, lk?]; done))))) ; (first | done | fail))) (by exact entW_pu ⟨by omega, fun i x hi => by omega⟩ entW_fr) ?_
  rintro j f
  refine CC.pu fun hj => ?_
  refine cc_seq ?_
  refine cc_region ?_
  refine r_int rfl rfl rfl rfl ?_
  refine rr_nil ?_
  refine cc_seq ?_
  refine cc_cond rfl (fun h9 => ?_) (fun h9 => ?_)
  · try simp only [decide_eq_true_eq, decide_eq_false_iff_not, beq_iff_eq, beq_eq_false_iff_ne, bne_iff_ne, bne_eq_false_iff_eq, ne_eq, Bool.not_eq_eq_eq_not, Bool.not_true, Bool.not_false] at h9
    obtain ⟨x, hxj⟩ := lt_get (l := xs) (j := j) (by omega)
    have hv : cutR cs (0 + (j : Int).toNat * 3) 3 [] = some (markV x) := by rw [show 0 + (j : Int).toNat * 3 = j * 3 by omega]; exact hcs j x hxj
    refine cc_skip ?_
    refine cc_seq ?_
    refine cc_block ?_
    refine cc_seq ?_
    refine cc_region ?_
    refine rr_move rfl rfl ?_
    refine rr_assign rfl rfl ?_
    refine rr_nil ?_
    refine cc_seq ?_
    refine cc_region ?_
    refine rr_move rfl rfl ?_
    refine rr_move rfl rfl ?_
    refine rr_move rfl rfl ?_
    refine r_ix rfl rfl rfl (by omega) ?_
    refine r_lda rfl (ls0 rfl) hv rfl ?_
    refine rr_call rfl rfl rfl rfl (hp x (get_mem hxj)) inferInstance rfl (sd0 rfl) (fun _ => sd0 rfl) rfl (fun v => ?_)
    first | refine RR.pu2 ?_ | refine RR.pu ?_
    rintro rfl
    refine rr_nil ?_
    refine cc_cond rfl (fun h16 => ?_) (fun h16 => ?_)
    · try simp only [decide_eq_true_eq, decide_eq_false_iff_not, beq_iff_eq, beq_eq_false_iff_ne, bne_iff_ne, bne_eq_false_iff_eq, ne_eq, Bool.not_eq_eq_eq_not, Bool.not_true, Bool.not_false] at h16
      have hno : xs.findIdx? p = some j := findIdx_some_of hxj h16 hj.2
      refine cc_seq ?_
      refine cc_region ?_
      refine rr_move rfl rfl ?_
      refine rr_assign rfl rfl ?_
      refine rr_nil ?_
      refine cc_ret ?_
      exact ⟨_, rfl, entW_pu2 (by rw [hno]; rfl) entW_fr⟩
    · try simp only [decide_eq_true_eq, decide_eq_false_iff_not, beq_iff_eq, beq_eq_false_iff_ne, bne_iff_ne, bne_eq_false_iff_eq, ne_eq, Bool.not_eq_eq_eq_not, Bool.not_true, Bool.not_false] at h16
      refine cc_skip ?_
      refine cc_region ?_
      refine r_add rfl rfl rfl (by omega) ?_
      refine rr_move rfl rfl ?_
      refine rr_nil ?_
      exact ⟨j + 1, by omega, by ((repeat' (first | exact covers_nil | (refine covers_cons ?_ ?_; focus (first | rfl | (simp [lk, lk?]; done))))) ; (first | done | fail)), entW_pu ⟨by omega, fun i y hi hy => by
        by_cases e : i = j
        · subst e; rw [hxj] at hy; simp only [Option.some.injEq] at hy; subst hy; exact h16
        · exact hj.2 i y (by omega) hy⟩ entW_fr⟩
  · try simp only [decide_eq_true_eq, decide_eq_false_iff_not, beq_iff_eq, beq_eq_false_iff_ne, bne_iff_ne, bne_eq_false_iff_eq, ne_eq, Bool.not_eq_eq_eq_not, Bool.not_true, Bool.not_false] at h9
    have hno : xs.findIdx? p = none := findIdx_none_of fun i x hi => hj.2 i x (by have := get_lt hi; omega) hi
    refine cc_exit ?_
    refine cc_seq ?_
    refine cc_region ?_
    refine rr_assign rfl rfl ?_
    refine rr_nil ?_
    refine cc_ret ?_
    exact ⟨_, rfl, entW_pu2 (by rw [hno]; rfl) entW_fr⟩
theorem filter_take_succ {α : Type} (q : α → Bool) {xs : List α} {j : Nat} {x : α} (h : xs[j]? = some x) : (xs.take (j + 1)).filter q = (xs.take j).filter q ++ (if q x then [x] else []) := by
  rw [List.take_add_one, h, List.filter_append]
  cases hq : q x <;> simp [hq]
theorem drop_cons_get {α : Type} {xs : List α} {j : Nat} {x : α} (h : xs[j]? = some x) : xs.drop j = x :: xs.drop (j + 1) := by
  have hl := get_lt h
  rw [List.getElem?_eq_getElem hl] at h
  rw [List.drop_eq_getElem_cons hl]; simp at h; rw [h]
theorem filter_first {α : Type} {p : α → Bool} {xs : List α} {i : Nat} (h : xs.findIdx? p = some i) : (xs.take (i + 1)).filter (fun x => !p x) = xs.take i ∧ i < xs.length ∧ ∃ x, xs[i]? = some x ∧ p x = true := by
  rw [List.findIdx?_eq_some_iff_getElem] at h
  obtain ⟨hi, hp, hlt⟩ := h
  have hx : xs[i]? = some xs[i] := List.getElem?_eq_getElem hi
  refine ⟨?_, hi, _, hx, hp⟩
  rw [filter_take_succ _ hx, hp]
  simp only [Bool.not_true, Bool.false_eq_true, if_false, List.append_nil]
  rw [List.filter_eq_self]
  intro y hy
  obtain ⟨k, hk, rfl⟩ := List.mem_take_iff_getElem.1 hy
  have := hlt k (by omega)
  simpa using this
theorem filter_none {α : Type} {p : α → Bool} {xs : List α} (h : xs.findIdx? p = none) : xs.filter (fun x => !p x) = xs := by
  rw [List.findIdx?_eq_none_iff] at h
  rw [List.filter_eq_self]
  intro x hx; simp [h x hx]
theorem clr_cells {a b r z : List Value} {o q : Nat} (ha : a.length = o) (hb : b.length = q) : ((a ++ b) ++ r).take o ++ z ++ ((a ++ b) ++ r).drop (o + q) = a ++ (z ++ r) := by
  subst ha hb
  rw [List.append_assoc a b r, List.take_left' rfl, List.drop_length_add_append, List.drop_left' rfl, List.append_assoc]
theorem delSeg_tr (b cap fn : Nat) (xs : List (Nat × Seg)) (caps rest : List Value) (p : (Nat × Seg) → Bool) (X : SL) (hl : xs.length ≤ 2 ^ 30) (hcap : (xs.flatMap (fun g : Nat × Seg => [ptr g.1]) ++ rest).length = cap * 1)
    (hp : ∀ x ∈ xs, Tr Tryz.prog fn ((fun g : Nat × Seg => ptr g.1) x :: caps).toArray X (fun v => pu (v = .bool (p x)) * X)) :
    Tr Tryz.prog 167 #[.slice (some ⟨b, 0, none⟩) xs.length cap, .func (.func fn) #[] caps.toArray] (bl b 234 (xs.flatMap (fun g : Nat × Seg => [ptr g.1]) ++ rest) * X)
      (fun v => slR v 234 1 (xs.filter (fun x => !p x)).length ((xs.filter (fun x => !p x)).flatMap (fun g : Nat × Seg => [ptr g.1])) * X) := by
  have hw : ∀ (ys : List (Nat × Seg)), ∀ x ∈ ys, ((fun g : Nat × Seg => [ptr g.1]) x).length = 1 := fun _ _ _ => rfl
  have hcl : xs.length ≤ cap := by
    rw [List.length_append, fm_len (hw xs)] at hcap; omega
  refine tr_body Tryz.func167 (by kernel_rfl) rfl Tryz.ntmps167 rfl (L := [(0, .slice (some ⟨b, 0, none⟩) xs.length cap), (1, .func (.func fn) #[] caps.toArray)]) (covers_cons rfl (covers_cons rfl covers_nil)) rfl ?_
  intro F w0 f
  cases hfi : xs.findIdx? p with
  | none =>
    refine cc_seq ?_
    refine cc_region ?_
    refine rr_assign rfl rfl ?_
    refine rr_nil ?_
    refine cc_seq ?_
    refine cc_region ?_
    refine rr_move rfl rfl ?_
    refine rr_move rfl rfl ?_
    refine rr_call rfl rfl rfl rfl (idxSeg_tr b cap fn xs caps p X hl hp (xs.flatMap (fun g : Nat × Seg => [ptr g.1]) ++ rest) (fun i x hi => by have := cut_fm (hw xs) hi (j := 0) (k := 1) (vs := (fun g : Nat × Seg => [ptr g.1]) x) rfl rest; simpa using this)) inferInstance rfl (sd0 rfl) (fun _ => sd0 rfl) rfl (fun v => ?_)
    first | refine RR.pu2 ?_ | refine RR.pu ?_
    rintro rfl
    rw [hfi]
    refine rr_assign rfl rfl ?_
    refine rr_nil ?_
    refine cc_seq ?_
    refine cc_seq ?_
    refine cc_region ?_
    refine rr_move rfl rfl ?_
    refine r_int rfl rfl rfl rfl ?_
    refine rr_nil ?_
    refine cc_condT rfl ?_
    refine cc_seq ?_
    refine cc_region ?_
    refine rr_move rfl rfl ?_
    refine rr_assign rfl rfl ?_
    refine rr_nil ?_
    refine cc_ret ?_
    exact ⟨_, rfl, by rw [filter_none hfi]; exact (entW_ent (ent_pick (X := bl b 234 (xs.flatMap (fun g : Nat × Seg => [ptr g.1]) ++ rest)) (slR_blk (fm_len (hw xs)) hcap))).trans entW_fr⟩
  | some i =>
    obtain ⟨hf1, hf2, y, hf3, hf4⟩ := filter_first hfi
    refine cc_seq ?_
    refine cc_region ?_
    refine rr_assign rfl rfl ?_
    refine rr_nil ?_
    refine cc_seq ?_
    refine cc_region ?_
    refine rr_move rfl rfl ?_
    refine rr_move rfl rfl ?_
    refine rr_call rfl rfl rfl rfl (idxSeg_tr b cap fn xs caps p X hl hp (xs.flatMap (fun g : Nat × Seg => [ptr g.1]) ++ rest) (fun i x hi => by have := cut_fm (hw xs) hi (j := 0) (k := 1) (vs := (fun g : Nat × Seg => [ptr g.1]) x) rfl rest; simpa using this)) inferInstance rfl (sd0 rfl) (fun _ => sd0 rfl) rfl (fun v => ?_)
    first | refine RR.pu2 ?_ | refine RR.pu ?_
    rintro rfl
    rw [hfi, show idxI (some i) = (i : Int) from rfl]
    refine rr_assign rfl rfl ?_
    refine rr_nil ?_
    refine cc_seq ?_
    refine cc_seq ?_
    refine cc_region ?_
    refine rr_move rfl rfl ?_
    refine r_int rfl rfl rfl rfl ?_
    refine rr_nil ?_
    refine cc_condFp rfl (by simp) ?_
    refine cc_skip ?_
    refine cc_seq ?_
    refine cc_seq ?_
    refine cc_region ?_
    refine rr_move rfl rfl ?_
    refine r_add rfl rfl rfl (by omega) ?_
    refine rr_assign rfl rfl ?_
    refine rr_nil ?_
    refine cc_block ?_
    refine cc_loopW (α := (Nat × List (Nat × Seg))) (fun ⟨j, st⟩ => [(5, i64 ((xs.take j).filter (fun x => !p x)).length), (6, i64 j), (0, .slice (some ⟨b, 0, none⟩) xs.length cap), (1, .func (.func fn) #[] caps.toArray)]) (fun ⟨j, st⟩ => pu (j ≤ xs.length ∧ ((xs.take j).filter (fun x => !p x)).length + st.length = j ∧ 0 < st.length) * (bl b 234 (((xs.take j).filter (fun x => !p x) ++ (st ++ xs.drop j)).flatMap (fun g : Nat × Seg => [ptr g.1]) ++ rest) * X * F)) (fun ⟨j, st⟩ => xs.length - j) ((i + 1, [y])) (by ((repeat' (first | exact covers_nil | (refine covers_cons ?_ ?_; focus (first | rfl | (simp [lk, lk?]; done) | (refine congrArg (Value.int _) ?_; rw [hf1, List.length_take]; omega))))) ; (first | done | fail))) (by exact entW_pu ⟨by omega, by rw [hf1]; simp; omega, by simp⟩ (by
      rw [hf1, List.singleton_append, ← drop_cons_get hf3, List.take_append_drop]; exact entW_fr)) ?_
    rintro ⟨j, st⟩ f
    refine CC.pu fun hh => ?_
    obtain ⟨hh1, hh2, hh3⟩ := hh
    refine cc_seq ?_
    refine cc_seq ?_
    refine cc_region ?_
    refine rr_move rfl rfl ?_
    refine rr_move rfl rfl ?_
    refine r_lens rfl rfl ?_
    refine r_int rfl rfl rfl rfl ?_
    refine rr_nil ?_
    refine cc_cond rfl (fun h19 => ?_) (fun h19 => ?_)
    · try simp only [decide_eq_true_eq, decide_eq_false_iff_not, beq_iff_eq, beq_eq_false_iff_ne, bne_iff_ne, bne_eq_false_iff_eq, ne_eq, Bool.not_eq_eq_eq_not, Bool.not_true, Bool.not_false] at h19
      obtain ⟨x, hxj⟩ := lt_get (l := xs) (j := j) (by omega)
      have hgx : ((xs.take j).filter (fun x => !p x) ++ (st ++ xs.drop j))[j]? = some x := by
        rw [List.getElem?_append_right (by omega), List.getElem?_append_right (by omega), List.getElem?_drop, ← hxj]; congr 1; omega
      have hv : cutR (((xs.take j).filter (fun x => !p x) ++ (st ++ xs.drop j)).flatMap (fun g : Nat × Seg => [ptr g.1]) ++ rest) (0 + (j : Int).toNat * 1) 1 [] = some ((fun g : Nat × Seg => [ptr g.1]) x) := by
        rw [show 0 + (j : Int).toNat * 1 = j * 1 + 0 by omega]; exact cut_fm (hw _) hgx rfl rest
      refine cc_skip ?_
      refine cc_seq ?_
      refine cc_block ?_
      refine cc_seq ?_
      refine cc_region ?_
      refine rr_move rfl rfl ?_
      refine rr_move rfl rfl ?_
      refine r_ix rfl rfl rfl (by omega) ?_
      refine r_ld rfl (ls0 rfl) (nth_cut1 hv) rfl ?_
      refine rr_assign rfl rfl ?_
      refine rr_nil ?_
      refine cc_seq ?_
      refine cc_region ?_
      refine rr_move rfl rfl ?_
      refine rr_move rfl rfl ?_
      refine rr_call rfl rfl rfl rfl (hp x (get_mem hxj)) inferInstance rfl (sd0 rfl) (fun _ => sd0 rfl) rfl (fun v => ?_)
      first | refine RR.pu2 ?_ | refine RR.pu ?_
      rintro rfl
      refine r_not rfl rfl ?_
      refine rr_nil ?_
      refine cc_cond rfl (fun h29 => ?_) (fun h29 => ?_)
      · try simp only [decide_eq_true_eq, decide_eq_false_iff_not, beq_iff_eq, beq_eq_false_iff_ne, bne_iff_ne, bne_eq_false_iff_eq, ne_eq, Bool.not_eq_eq_eq_not, Bool.not_true, Bool.not_false] at h29
        obtain ⟨s0, st', rfl⟩ := List.exists_cons_of_length_pos hh3
        simp only [List.length_cons] at hh2
        have hgk : ((xs.take j).filter (fun x => !p x) ++ (s0 :: st' ++ xs.drop j))[((xs.take j).filter (fun x => !p x)).length]? = some s0 := by
          rw [List.getElem?_append_right (Nat.le_refl _)]; simp
        have hset := set_fm (hw _) hgk (j := 0) (y := x) (vs := (fun g : Nat × Seg => [ptr g.1]) x) rfl (Nat.le_of_ble_eq_true rfl) rest
        rw [show ((xs.take j).filter (fun x => !p x)).length * 1 + 0 = 0 + ((((xs.take j).filter (fun x => !p x)).length : Nat) : Int).toNat * 1 by omega] at hset
        have hslen : 0 + ((((xs.take j).filter (fun x => !p x)).length : Nat) : Int).toNat * 1 + ((fun g : Nat × Seg => [ptr g.1]) x).length ≤ (((xs.take j).filter (fun x => !p x) ++ (s0 :: st' ++ xs.drop j)).flatMap (fun g : Nat × Seg => [ptr g.1]) ++ rest).length := by
          rw [List.length_append, fm_len (hw _)]; simp only [List.length_append, List.length_cons, hw xs x (get_mem hxj)]; omega
        refine cc_seq ?_
        refine cc_region ?_
        refine rr_move rfl rfl ?_
        refine rr_move rfl rfl ?_
        refine rr_move rfl rfl ?_
        refine r_ix rfl rfl rfl (by omega) ?_
        refine r_st rfl rfl rfl (setL_of_setR hset) (sd0 rfl) (sd0 rfl) ?_
        refine rr_nil ?_
        refine CC.clb b ((((xs.take j).filter (fun x => !p x) ++ [x]) ++ ((st' ++ [x]) ++ xs.drop (j + 1))).flatMap (fun g : Nat × Seg => [ptr g.1]) ++ rest) (by
          rw [List.set_append_right _ _ (Nat.le_refl _), Nat.sub_self, drop_cons_get hxj]; simp) ?_
        refine cc_region ?_
        refine rr_move rfl rfl ?_
        refine r_add rfl rfl rfl (by omega) ?_
        refine rr_assign rfl rfl ?_
        refine rr_nil ?_
        refine cc_region ?_
        refine rr_move rfl rfl ?_
        refine r_add rfl rfl rfl (by omega) ?_
        refine rr_assign rfl rfl ?_
        refine rr_nil ?_
        first | exact ⟨(j + 1, st' ++ [x]), (by show xs.length - (j + 1) < xs.length - j; omega), by ((repeat' (first | exact covers_nil | (refine covers_cons ?_ ?_; focus (first | rfl | (simp [lk, lk?]; done) | (refine congrArg (Value.int _) ?_; rw [filter_take_succ _ hxj, if_pos (by simp [h29])]; simp))))) ; (first | done | fail)), entW_pu ⟨by omega, by rw [filter_take_succ _ hxj, if_pos (by simp [h29])]; simp; omega, by simp⟩ (by rw [filter_take_succ _ hxj, if_pos (by simp [h29])]; exact entW_fr)⟩ | exact ⟨(j + 1, st ++ [x]), (by show xs.length - (j + 1) < xs.length - j; omega), by ((repeat' (first | exact covers_nil | (refine covers_cons ?_ ?_; focus (first | rfl | (simp [lk, lk?]; done) | (refine congrArg (Value.int _) ?_; rw [filter_take_succ _ hxj, if_neg (by simp [h29])]; simp))))) ; (first | done | fail)), entW_pu ⟨by omega, by rw [filter_take_succ _ hxj, if_neg (by simp [h29])]; simp; omega, by simp⟩ (by rw [filter_take_succ _ hxj, if_neg (by simp [h29]), List.append_nil, List.append_assoc, List.singleton_append, ← drop_cons_get hxj]; exact entW_fr)⟩
      · try simp only [decide_eq_true_eq, decide_eq_false_iff_not, beq_iff_eq, beq_eq_false_iff_ne, bne_iff_ne, bne_eq_false_iff_eq, ne_eq, Bool.not_eq_eq_eq_not, Bool.not_true, Bool.not_false] at h29
        have h29 : p x = true := by simpa using h29
        refine cc_skip ?_
        refine cc_region ?_
        refine rr_move rfl rfl ?_
        refine r_add rfl rfl rfl (by omega) ?_
        refine rr_assign rfl rfl ?_
        refine rr_nil ?_
        first | exact ⟨(j + 1, st' ++ [x]), (by show xs.length - (j + 1) < xs.length - j; omega), by ((repeat' (first | exact covers_nil | (refine covers_cons ?_ ?_; focus (first | rfl | (simp [lk, lk?]; done) | (refine congrArg (Value.int _) ?_; rw [filter_take_succ _ hxj, if_pos (by simp [h29])]; simp))))) ; (first | done | fail)), entW_pu ⟨by omega, by rw [filter_take_succ _ hxj, if_pos (by simp [h29])]; simp; omega, by simp⟩ (by rw [filter_take_succ _ hxj, if_pos (by simp [h29])]; exact entW_fr)⟩ | exact ⟨(j + 1, st ++ [x]), (by show xs.length - (j + 1) < xs.length - j; omega), by ((repeat' (first | exact covers_nil | (refine covers_cons ?_ ?_; focus (first | rfl | (simp [lk, lk?]; done) | (refine congrArg (Value.int _) ?_; rw [filter_take_succ _ hxj, if_neg (by simp [h29])]; simp))))) ; (first | done | fail)), entW_pu ⟨by omega, by rw [filter_take_succ _ hxj, if_neg (by simp [h29])]; simp; omega, by simp⟩ (by rw [filter_take_succ _ hxj, if_neg (by simp [h29]), List.append_nil, List.append_assoc, List.singleton_append, ← drop_cons_get hxj]; exact entW_fr)⟩
    · try simp only [decide_eq_true_eq, decide_eq_false_iff_not, beq_iff_eq, beq_eq_false_iff_ne, bne_iff_ne, bne_eq_false_iff_eq, ne_eq, Bool.not_eq_eq_eq_not, Bool.not_true, Bool.not_false] at h19
      obtain rfl : j = xs.length := by omega
      obtain ⟨m, hm⟩ : ∃ m, st.length = m + 1 := ⟨st.length - 1, by omega⟩
      have hlk : ((xs.take xs.length).filter (fun x => !p x)).length + (m + 1) = xs.length := by omega
      simp only [List.take_length, List.drop_length, List.append_nil] at hlk ⊢
      generalize hK : xs.filter (fun x => !p x) = K at hlk ⊢
      have hkl := fm_len (hw K)
      have hsl := fm_len (hw st)
      have hxl := fm_len (hw xs)
      rw [List.length_append] at hcap
      refine cc_exit ?_
      refine cc_seq ?_
      refine cc_region ?_
      refine rr_move rfl rfl ?_
      refine rr_move rfl rfl ?_
      refine r_sls (lo := K.length) (hi := xs.length) rfl ⟨_, rfl⟩ rfl rfl (by omega) (by omega) (by omega) ?_
      rw [if_neg (by omega), show xs.length - K.length = m + 1 by omega]
      refine r_clr (m := m) (s := 1) rfl rfl rfl rfl (by rw [List.length_append, fm_len (hw _), List.length_append]; omega) rfl (fun zz hzz => ?_)
      refine RR.clb b (K.flatMap (fun g : Nat × Seg => [ptr g.1]) ++ (zz ++ rest)) (by rw [List.flatMap_append]; exact clr_cells (by rw [hkl]; omega) (by rw [hsl, hm])) ?_
      refine rr_nil ?_
      refine cc_seq ?_
      refine cc_region ?_
      refine rr_move rfl rfl ?_
      refine rr_move rfl rfl ?_
      refine r_sls (lo := 0) (hi := K.length) rfl rfl ⟨_, rfl⟩ rfl (by omega) (by omega) (by omega) ?_
      rw [show (if cap = 0 then (some ⟨b, 0, none⟩ : Option Addr) else some ⟨b, 0 + 0 * 1, none⟩) = some ⟨b, 0, none⟩ by split <;> simp, Nat.sub_zero, Nat.sub_zero]
      refine rr_assign rfl rfl ?_
      refine rr_nil ?_
      refine cc_ret ?_
      exact ⟨_, rfl, by exact (entW_ent (ent_pick (X := bl b 234 (K.flatMap (fun g : Nat × Seg => [ptr g.1]) ++ (zz ++ rest))) (slR_blk (cap := cap) hkl (by rw [List.length_append, List.length_append, hkl, hzz]; omega)))).trans entW_fr⟩
theorem delMark_tr (b cap fn : Nat) (xs : List MarkS) (caps rest : List Value) (p : MarkS → Bool) (X : SL) (hl : xs.length ≤ 2 ^ 30) (hcap : (xs.flatMap markV ++ rest).length = cap * 3)
    (hp : ∀ x ∈ xs, Tr Tryz.prog fn ((fun m : MarkS => Value.agg (markV m).toArray) x :: caps).toArray X (fun v => pu (v = .bool (p x)) * X)) :
    Tr Tryz.prog 137 #[.slice (some ⟨b, 0, none⟩) xs.length cap, .func (.func fn) #[] caps.toArray] (bl b 208 (xs.flatMap markV ++ rest) * X)
      (fun v => slR v 208 3 (xs.filter (fun x => !p x)).length ((xs.filter (fun x => !p x)).flatMap markV) * X) := by
  have hw : ∀ (ys : List MarkS), ∀ x ∈ ys, (markV x).length = 3 := fun _ _ _ => rfl
  have hcl : xs.length ≤ cap := by
    rw [List.length_append, fm_len (hw xs)] at hcap; omega
  refine tr_body Tryz.func137 (by kernel_rfl) rfl Tryz.ntmps137 rfl (L := [(0, .slice (some ⟨b, 0, none⟩) xs.length cap), (1, .func (.func fn) #[] caps.toArray)]) (covers_cons rfl (covers_cons rfl covers_nil)) rfl ?_
  intro F w0 f
  cases hfi : xs.findIdx? p with
  | none =>
    refine cc_seq ?_
    refine cc_region ?_
    refine rr_assign rfl rfl ?_
    refine rr_nil ?_
    refine cc_seq ?_
    refine cc_region ?_
    refine rr_move rfl rfl ?_
    refine rr_move rfl rfl ?_
    refine rr_call rfl rfl rfl rfl (idxMark_tr b cap fn xs caps p X hl hp (xs.flatMap markV ++ rest) (fun i x hi => by have := cut_fm (hw xs) hi (j := 0) (k := 3) (vs := markV x) rfl rest; simpa using this)) inferInstance rfl (sd0 rfl) (fun _ => sd0 rfl) rfl (fun v => ?_)
    first | refine RR.pu2 ?_ | refine RR.pu ?_
    rintro rfl
    rw [hfi]
    refine rr_assign rfl rfl ?_
    refine rr_nil ?_
    refine cc_seq ?_
    refine cc_seq ?_
    refine cc_region ?_
    refine rr_move rfl rfl ?_
    refine r_int rfl rfl rfl rfl ?_
    refine rr_nil ?_
    refine cc_condT rfl ?_
    refine cc_seq ?_
    refine cc_region ?_
    refine rr_move rfl rfl ?_
    refine rr_assign rfl rfl ?_
    refine rr_nil ?_
    refine cc_ret ?_
    exact ⟨_, rfl, by rw [filter_none hfi]; exact (entW_ent (ent_pick (X := bl b 208 (xs.flatMap markV ++ rest)) (slR_blk (fm_len (hw xs)) hcap))).trans entW_fr⟩
  | some i =>
    obtain ⟨hf1, hf2, y, hf3, hf4⟩ := filter_first hfi
    refine cc_seq ?_
    refine cc_region ?_
    refine rr_assign rfl rfl ?_
    refine rr_nil ?_
    refine cc_seq ?_
    refine cc_region ?_
    refine rr_move rfl rfl ?_
    refine rr_move rfl rfl ?_
    refine rr_call rfl rfl rfl rfl (idxMark_tr b cap fn xs caps p X hl hp (xs.flatMap markV ++ rest) (fun i x hi => by have := cut_fm (hw xs) hi (j := 0) (k := 3) (vs := markV x) rfl rest; simpa using this)) inferInstance rfl (sd0 rfl) (fun _ => sd0 rfl) rfl (fun v => ?_)
    first | refine RR.pu2 ?_ | refine RR.pu ?_
    rintro rfl
    rw [hfi, show idxI (some i) = (i : Int) from rfl]
    refine rr_assign rfl rfl ?_
    refine rr_nil ?_
    refine cc_seq ?_
    refine cc_seq ?_
    refine cc_region ?_
    refine rr_move rfl rfl ?_
    refine r_int rfl rfl rfl rfl ?_
    refine rr_nil ?_
    refine cc_condFp rfl (by simp) ?_
    refine cc_skip ?_
    refine cc_seq ?_
    refine cc_seq ?_
    refine cc_region ?_
    refine rr_move rfl rfl ?_
    refine r_add rfl rfl rfl (by omega) ?_
    refine rr_assign rfl rfl ?_
    refine rr_nil ?_
    refine cc_block ?_
    refine cc_loopW (α := (Nat × List MarkS)) (fun ⟨j, st⟩ => [(5, i64 ((xs.take j).filter (fun x => !p x)).length), (6, i64 j), (0, .slice (some ⟨b, 0, none⟩) xs.length cap), (1, .func (.func fn) #[] caps.toArray)]) (fun ⟨j, st⟩ => pu (j ≤ xs.length ∧ ((xs.take j).filter (fun x => !p x)).length + st.length = j ∧ 0 < st.length) * (bl b 208 (((xs.take j).filter (fun x => !p x) ++ (st ++ xs.drop j)).flatMap markV ++ rest) * X * F)) (fun ⟨j, st⟩ => xs.length - j) ((i + 1, [y])) (by ((repeat' (first | exact covers_nil | (refine covers_cons ?_ ?_; focus (first | rfl | (simp [lk, lk?]; done) | (refine congrArg (Value.int _) ?_; rw [hf1, List.length_take]; omega))))) ; (first | done | fail))) (by exact entW_pu ⟨by omega, by rw [hf1]; simp; omega, by simp⟩ (by
      rw [hf1, List.singleton_append, ← drop_cons_get hf3, List.take_append_drop]; exact entW_fr)) ?_
    rintro ⟨j, st⟩ f
    refine CC.pu fun hh => ?_
    obtain ⟨hh1, hh2, hh3⟩ := hh
    refine cc_seq ?_
    refine cc_seq ?_
    refine cc_region ?_
    refine rr_move rfl rfl ?_
    refine rr_move rfl rfl ?_
    refine r_lens rfl rfl ?_
    refine r_int rfl rfl rfl rfl ?_
    refine rr_nil ?_
    refine cc_cond rfl (fun h19 => ?_) (fun h19 => ?_)
    · try simp only [decide_eq_true_eq, decide_eq_false_iff_not, beq_iff_eq, beq_eq_false_iff_ne, bne_iff_ne, bne_eq_false_iff_eq, ne_eq, Bool.not_eq_eq_eq_not, Bool.not_true, Bool.not_false] at h19
      obtain ⟨x, hxj⟩ := lt_get (l := xs) (j := j) (by omega)
      have hgx : ((xs.take j).filter (fun x => !p x) ++ (st ++ xs.drop j))[j]? = some x := by
        rw [List.getElem?_append_right (by omega), List.getElem?_append_right (by omega), List.getElem?_drop, ← hxj]; congr 1; omega
      have hv : cutR (((xs.take j).filter (fun x => !p x) ++ (st ++ xs.drop j)).flatMap markV ++ rest) (0 + (j : Int).toNat * 3) 3 [] = some (markV x) := by
        rw [show 0 + (j : Int).toNat * 3 = j * 3 + 0 by omega]; exact cut_fm (hw _) hgx rfl rest
      refine cc_skip ?_
      refine cc_seq ?_
      refine cc_block ?_
      refine cc_seq ?_
      refine cc_region ?_
      refine rr_move rfl rfl ?_
      refine rr_move rfl rfl ?_
      refine r_ix rfl rfl rfl (by omega) ?_
      refine r_lda rfl (ls0 rfl) hv rfl ?_
      refine r_alloc rfl (sd0 rfl) (fun _ => sd0 rfl) (fun p7_4 => ?_)
      refine r_sta rfl rfl rfl rfl rfl (by first | exact Nat.le_of_ble_eq_true rfl | simp) (sd0 rfl) (sd0 rfl) ?_
      refine rr_nil ?_
      refine cc_seq ?_
      refine cc_region ?_
      refine rr_move rfl rfl ?_
      refine r_lda rfl (ls0 rfl) rfl rfl ?_
      refine rr_call rfl rfl rfl rfl (hp x (get_mem hxj)) inferInstance rfl (sd0 rfl) (fun _ => sd0 rfl) rfl (fun v => ?_)
      first | refine RR.pu2 ?_ | refine RR.pu ?_
      rintro rfl
      refine r_not rfl rfl ?_
      refine rr_nil ?_
      refine cc_cond rfl (fun h29 => ?_) (fun h29 => ?_)
      · try simp only [decide_eq_true_eq, decide_eq_false_iff_not, beq_iff_eq, beq_eq_false_iff_ne, bne_iff_ne, bne_eq_false_iff_eq, ne_eq, Bool.not_eq_eq_eq_not, Bool.not_true, Bool.not_false] at h29
        obtain ⟨s0, st', rfl⟩ := List.exists_cons_of_length_pos hh3
        simp only [List.length_cons] at hh2
        have hgk : ((xs.take j).filter (fun x => !p x) ++ (s0 :: st' ++ xs.drop j))[((xs.take j).filter (fun x => !p x)).length]? = some s0 := by
          rw [List.getElem?_append_right (Nat.le_refl _)]; simp
        have hset := set_fm (hw _) hgk (j := 0) (y := x) (vs := markV x) rfl (Nat.le_of_ble_eq_true rfl) rest
        rw [show ((xs.take j).filter (fun x => !p x)).length * 3 + 0 = 0 + ((((xs.take j).filter (fun x => !p x)).length : Nat) : Int).toNat * 3 by omega] at hset
        have hslen : 0 + ((((xs.take j).filter (fun x => !p x)).length : Nat) : Int).toNat * 3 + (markV x).length ≤ (((xs.take j).filter (fun x => !p x) ++ (s0 :: st' ++ xs.drop j)).flatMap markV ++ rest).length := by
          rw [List.length_append, fm_len (hw _)]; simp only [List.length_append, List.length_cons, hw xs x (get_mem hxj)]; omega
        refine cc_seq ?_
        refine cc_region ?_
        refine rr_move rfl rfl ?_
        refine rr_move rfl rfl ?_
        refine r_lda rfl (ls0 rfl) rfl rfl ?_
        refine r_ix rfl rfl rfl (by omega) ?_
        refine r_sta rfl rfl rfl rfl hset hslen (sd0 rfl) (sd0 rfl) ?_
        refine rr_nil ?_
        refine CC.clb b ((((xs.take j).filter (fun x => !p x) ++ [x]) ++ ((st' ++ [x]) ++ xs.drop (j + 1))).flatMap markV ++ rest) (by
          rw [List.set_append_right _ _ (Nat.le_refl _), Nat.sub_self, drop_cons_get hxj]; simp) ?_
        refine cc_region ?_
        refine rr_move rfl rfl ?_
        refine r_add rfl rfl rfl (by omega) ?_
        refine rr_assign rfl rfl ?_
        refine rr_nil ?_
        refine cc_region ?_
        refine rr_move rfl rfl ?_
        refine r_add rfl rfl rfl (by omega) ?_
        refine rr_assign rfl rfl ?_
        refine rr_nil ?_
        first | exact ⟨(j + 1, st' ++ [x]), (by show xs.length - (j + 1) < xs.length - j; omega), by ((repeat' (first | exact covers_nil | (refine covers_cons ?_ ?_; focus (first | rfl | (simp [lk, lk?]; done) | (refine congrArg (Value.int _) ?_; rw [filter_take_succ _ hxj, if_pos (by simp [h29])]; simp))))) ; (first | done | fail)), entW_pu ⟨by omega, by rw [filter_take_succ _ hxj, if_pos (by simp [h29])]; simp; omega, by simp⟩ (by rw [filter_take_succ _ hxj, if_pos (by simp [h29])]; exact entW_fr)⟩ | exact ⟨(j + 1, st ++ [x]), (by show xs.length - (j + 1) < xs.length - j; omega), by ((repeat' (first | exact covers_nil | (refine covers_cons ?_ ?_; focus (first | rfl | (simp [lk, lk?]; done) | (refine congrArg (Value.int _) ?_; rw [filter_take_succ _ hxj, if_neg (by simp [h29])]; simp))))) ; (first | done | fail)), entW_pu ⟨by omega, by rw [filter_take_succ _ hxj, if_neg (by simp [h29])]; simp; omega, by simp⟩ (by rw [filter_take_succ _ hxj, if_neg (by simp [h29]), List.append_nil, List.append_assoc, List.singleton_append, ← drop_cons_get hxj]; exact entW_fr)⟩
      · try simp only [decide_eq_true_eq, decide_eq_false_iff_not, beq_iff_eq, beq_eq_false_iff_ne, bne_iff_ne, bne_eq_false_iff_eq, ne_eq, Bool.not_eq_eq_eq_not, Bool.not_true, Bool.not_false] at h29
        have h29 : p x = true := by simpa using h29
        refine cc_skip ?_
        refine cc_region ?_
        refine rr_move rfl rfl ?_
        refine r_add rfl rfl rfl (by omega) ?_
        refine rr_assign rfl rfl ?_
        refine rr_nil ?_
        first | exact ⟨(j + 1, st' ++ [x]), (by show xs.length - (j + 1) < xs.length - j; omega), by ((repeat' (first | exact covers_nil | (refine covers_cons ?_ ?_; focus (first | rfl | (simp [lk, lk?]; done) | (refine congrArg (Value.int _) ?_; rw [filter_take_succ _ hxj, if_pos (by simp [h29])]; simp))))) ; (first | done | fail)), entW_pu ⟨by omega, by rw [filter_take_succ _ hxj, if_pos (by simp [h29])]; simp; omega, by simp⟩ (by rw [filter_take_succ _ hxj, if_pos (by simp [h29])]; exact entW_fr)⟩ | exact ⟨(j + 1, st ++ [x]), (by show xs.length - (j + 1) < xs.length - j; omega), by ((repeat' (first | exact covers_nil | (refine covers_cons ?_ ?_; focus (first | rfl | (simp [lk, lk?]; done) | (refine congrArg (Value.int _) ?_; rw [filter_take_succ _ hxj, if_neg (by simp [h29])]; simp))))) ; (first | done | fail)), entW_pu ⟨by omega, by rw [filter_take_succ _ hxj, if_neg (by simp [h29])]; simp; omega, by simp⟩ (by rw [filter_take_succ _ hxj, if_neg (by simp [h29]), List.append_nil, List.append_assoc, List.singleton_append, ← drop_cons_get hxj]; exact entW_fr)⟩
    · try simp only [decide_eq_true_eq, decide_eq_false_iff_not, beq_iff_eq, beq_eq_false_iff_ne, bne_iff_ne, bne_eq_false_iff_eq, ne_eq, Bool.not_eq_eq_eq_not, Bool.not_true, Bool.not_false] at h19
      obtain rfl : j = xs.length := by omega
      obtain ⟨m, hm⟩ : ∃ m, st.length = m + 1 := ⟨st.length - 1, by omega⟩
      have hlk : ((xs.take xs.length).filter (fun x => !p x)).length + (m + 1) = xs.length := by omega
      simp only [List.take_length, List.drop_length, List.append_nil] at hlk ⊢
      generalize hK : xs.filter (fun x => !p x) = K at hlk ⊢
      have hkl := fm_len (hw K)
      have hsl := fm_len (hw st)
      have hxl := fm_len (hw xs)
      rw [List.length_append] at hcap
      refine cc_exit ?_
      refine cc_seq ?_
      refine cc_region ?_
      refine rr_move rfl rfl ?_
      refine rr_move rfl rfl ?_
      refine r_sls (lo := K.length) (hi := xs.length) rfl ⟨_, rfl⟩ rfl rfl (by omega) (by omega) (by omega) ?_
      rw [if_neg (by omega), show xs.length - K.length = m + 1 by omega]
      refine r_clr (m := m) (s := 3) rfl rfl rfl rfl (by rw [List.length_append, fm_len (hw _), List.length_append]; omega) rfl (fun zz hzz => ?_)
      refine RR.clb b (K.flatMap markV ++ (zz ++ rest)) (by rw [List.flatMap_append]; exact clr_cells (by rw [hkl]; omega) (by rw [hsl, hm])) ?_
      refine rr_nil ?_
      refine cc_seq ?_
      refine cc_region ?_
      refine rr_move rfl rfl ?_
      refine rr_move rfl rfl ?_
      refine r_sls (lo := 0) (hi := K.length) rfl rfl ⟨_, rfl⟩ rfl (by omega) (by omega) (by omega) ?_
      rw [show (if cap = 0 then (some ⟨b, 0, none⟩ : Option Addr) else some ⟨b, 0 + 0 * 3, none⟩) = some ⟨b, 0, none⟩ by split <;> simp, Nat.sub_zero, Nat.sub_zero]
      refine rr_assign rfl rfl ?_
      refine rr_nil ?_
      refine cc_ret ?_
      exact ⟨_, rfl, by exact (entW_ent (ent_pick (X := bl b 208 (K.flatMap markV ++ (zz ++ rest))) (slR_blk (cap := cap) hkl (by rw [List.length_append, List.length_append, hkl, hzz]; omega)))).trans entW_fr⟩
theorem idxSegNil_tr (fv : Value) (X : SL) : Tr Tryz.prog 193 #[.slice none 0 0, fv] X (fun v => pu (v = i64 (-1)) * X) := by
  refine tr_body Tryz.func193 (by kernel_rfl) rfl Tryz.ntmps193 rfl (L := [(0, .slice none 0 0), (1, fv)]) (covers_cons rfl (covers_cons rfl covers_nil)) rfl ?_
  intro F w0 f
  refine cc_seq ?_
  refine cc_region ?_
  refine rr_assign rfl rfl ?_
  refine rr_nil ?_
  refine cc_seq ?_
  refine cc_seq ?_
  refine cc_region ?_
  refine rr_move rfl rfl ?_
  refine r_lens rfl rfl ?_
  refine rr_move rfl rfl ?_
  refine rr_nil ?_
  refine cc_block ?_
  refine cc_loopW (α := Nat) (fun j => [(8, i64 0), (7, i64 0)]) (fun j => X * F) (fun j => j) (0) (by ((repeat' (first | exact covers_nil | (refine covers_cons ?_ ?_; focus (first | rfl | (simp [lk, lk?]; done))))) ; (first | done | fail))) (by exact entW_fr) ?_
  rintro j f
  refine cc_seq ?_
  refine cc_region ?_
  refine r_int rfl rfl rfl rfl ?_
  refine rr_nil ?_
  refine cc_seq ?_
  refine cc_condF rfl ?_
  refine cc_exit ?_
  refine cc_seq ?_
  refine cc_region ?_
  refine rr_assign rfl rfl ?_
  refine rr_nil ?_
  refine cc_ret ?_
  exact ⟨_, rfl, entW_pu2 rfl entW_fr⟩
theorem delSegNil_tr (fv : Value) (X : SL) : Tr Tryz.prog 167 #[.slice none 0 0, fv] X (fun v => pu (v = .slice none 0 0) * X) := by
  refine tr_body Tryz.func167 (by kernel_rfl) rfl Tryz.ntmps167 rfl (L := [(0, .slice none 0 0), (1, fv)]) (covers_cons rfl (covers_cons rfl covers_nil)) rfl ?_
  intro F w0 f
  refine cc_seq ?_
  refine cc_region ?_
  refine rr_assign rfl rfl ?_
  refine rr_nil ?_
  refine cc_seq ?_
  refine cc_region ?_
  refine rr_move rfl rfl ?_
  refine rr_move rfl rfl ?_
  refine rr_call rfl rfl rfl rfl (idxSegNil_tr fv X) inferInstance rfl (sd0 rfl) (fun _ => sd0 rfl) rfl (fun v => ?_)
  first | refine RR.pu2 ?_ | refine RR.pu ?_
  rintro rfl
  refine rr_assign rfl rfl ?_
  refine rr_nil ?_
  refine cc_seq ?_
  refine cc_seq ?_
  refine cc_region ?_
  refine rr_move rfl rfl ?_
  refine r_int rfl rfl rfl rfl ?_
  refine rr_nil ?_
  refine cc_condT rfl ?_
  refine cc_seq ?_
  refine cc_region ?_
  refine rr_move rfl rfl ?_
  refine rr_assign rfl rfl ?_
  refine rr_nil ?_
  refine cc_ret ?_
  exact ⟨_, rfl, entW_pu2 rfl entW_fr⟩
theorem delSegS_tr (lv : Value) (fn : Nat) (xs : List (Nat × Seg)) (caps : List Value) (p : (Nat × Seg) → Bool) (X : SL) (hl : xs.length ≤ 2 ^ 30)
    (hp : ∀ x ∈ xs, Tr Tryz.prog fn ((fun g : Nat × Seg => ptr g.1) x :: caps).toArray X (fun v => pu (v = .bool (p x)) * X)) :
    Tr Tryz.prog 167 #[lv, .func (.func fn) #[] caps.toArray] (slR lv 234 1 xs.length (xs.flatMap (fun g : Nat × Seg => [ptr g.1])) * X)
      (fun v => slR v 234 1 (xs.filter (fun x => !p x)).length ((xs.filter (fun x => !p x)).flatMap (fun g : Nat × Seg => [ptr g.1])) * X) := by
  refine tr_slo (by kernel_rfl) (fun e1 e2 e3 => ?_) (fun b cap rest e1 e2 e3 => ?_)
  · subst e1
    have e : xs = [] := List.length_eq_zero_iff.1 e2
    subst e
    refine tr_post (delSegNil_tr _ X) fun v h hx => ?_
    obtain ⟨rfl, hx2⟩ := pu_mul.1 hx
    exact ent_nil 234 1 h hx2
  · subst e1
    exact delSeg_tr b cap fn xs caps rest p X hl e3 hp
theorem idxMarkNil_tr (fv : Value) (X : SL) : Tr Tryz.prog 164 #[.slice none 0 0, fv] X (fun v => pu (v = i64 (-1)) * X) := by
  refine tr_body Tryz.func164 (by kernel_rfl) rfl Tryz.ntmps164 rfl (L := [(0, .slice none 0 0), (1, fv)]) (covers_cons rfl (covers_cons rfl covers_nil)) rfl ?_
  intro F w0 f
  refine cc_seq ?_
  refine cc_region ?_
  refine rr_assign rfl rfl ?_
  refine rr_nil ?_
  refine cc_seq ?_
  refine cc_seq ?_
  refine cc_region ?_
  refine rr_move rfl rfl ?_
  refine r_lens rfl rfl ?_
  refine rr_move rfl rfl ?_
  refine rr_nil ?_
  refine cc_block ?_
  refine cc_loopW (α := Nat) (fun j => [(8, i64 0), (7, i64 0)]) (fun j => X * F) (fun j => j) (0) (by ((repeat' (first | exact covers_nil | (refine covers_cons ?_ ?_; focus (first | rfl | (simp [lk, lk?]; done))))) ; (first | done | fail))) (by exact entW_fr) ?_
  rintro j f
  refine cc_seq ?_
  refine cc_region ?_
  refine r_int rfl rfl rfl rfl ?_
  refine rr_nil ?_
  refine cc_seq ?_
  refine cc_condF rfl ?_
  refine cc_exit ?_
  refine cc_seq ?_
  refine cc_region ?_
  refine rr_assign rfl rfl ?_
  refine rr_nil ?_
  refine cc_ret ?_
  exact ⟨_, rfl, entW_pu2 rfl entW_fr⟩
theorem delMarkNil_tr (fv : Value) (X : SL) : Tr Tryz.prog 137 #[.slice none 0 0, fv] X (fun v => pu (v = .slice none 0 0) * X) := by
  refine tr_body Tryz.func137 (by kernel_rfl) rfl Tryz.ntmps137 rfl (L := [(0, .slice none 0 0), (1, fv)]) (covers_cons rfl (covers_cons rfl covers_nil)) rfl ?_
  intro F w0 f
  refine cc_seq ?_
  refine cc_region ?_
  refine rr_assign rfl rfl ?_
  refine rr_nil ?_
  refine cc_seq ?_
  refine cc_region ?_
  refine rr_move rfl rfl ?_
  refine rr_move rfl rfl ?_
  refine rr_call rfl rfl rfl rfl (idxMarkNil_tr fv X) inferInstance rfl (sd0 rfl) (fun _ => sd0 rfl) rfl (fun v => ?_)
  first | refine RR.pu2 ?_ | refine RR.pu ?_
  rintro rfl
  refine rr_assign rfl rfl ?_
  refine rr_nil ?_
  refine cc_seq ?_
  refine cc_seq ?_
  refine cc_region ?_
  refine rr_move rfl rfl ?_
  refine r_int rfl rfl rfl rfl ?_
  refine rr_nil ?_
  refine cc_condT rfl ?_
  refine cc_seq ?_
  refine cc_region ?_
  refine rr_move rfl rfl ?_
  refine rr_assign rfl rfl ?_
  refine rr_nil ?_
  refine cc_ret ?_
  exact ⟨_, rfl, entW_pu2 rfl entW_fr⟩
theorem delMarkS_tr (lv : Value) (fn : Nat) (xs : List MarkS) (caps : List Value) (p : MarkS → Bool) (X : SL) (hl : xs.length ≤ 2 ^ 30)
    (hp : ∀ x ∈ xs, Tr Tryz.prog fn ((fun m : MarkS => Value.agg (markV m).toArray) x :: caps).toArray X (fun v => pu (v = .bool (p x)) * X)) :
    Tr Tryz.prog 137 #[lv, .func (.func fn) #[] caps.toArray] (slR lv 208 3 xs.length (xs.flatMap markV) * X)
      (fun v => slR v 208 3 (xs.filter (fun x => !p x)).length ((xs.filter (fun x => !p x)).flatMap markV) * X) := by
  refine tr_slo (by kernel_rfl) (fun e1 e2 e3 => ?_) (fun b cap rest e1 e2 e3 => ?_)
  · subst e1
    have e : xs = [] := List.length_eq_zero_iff.1 e2
    subst e
    refine tr_post (delMarkNil_tr _ X) fun v h hx => ?_
    obtain ⟨rfl, hx2⟩ := pu_mul.1 hx
    exact ent_nil 208 3 h hx2
  · subst e1
    exact delMark_tr b cap fn xs caps rest p X hl e3 hp
end Go.Proofs.YtoiakcgdkegncaaGreat

namespace Go.Proofs.YtoiakcgdkegncaaGreat
open Go.RowKit Ice
attribute [local irreducible] CC RR Tr crcL be supSec supW supMake secBytes segW devW
/-- the elder ones, that a new segment drops -/
def tooOld (G : Seg) (segs : Nat) (x : Nat × Seg) : Bool := decide ((x.2.gen : Int) ≤ (G.gen : Int) - segs)
theorem old_tr (l d g c3 c1 : Nat) (L : LogS) (lv bV rV : Value) (G : Seg) (gs : List (Nat × Seg)) (j : Nat) (x : Nat × Seg) (hx : gs[j]? = some x) (h1 : G.gen ≤ 2 ^ 40) (h2 : L.segs ≤ 200) :
    Tr Tryz.prog 168 #[ptr x.1, ptr c3, ptr c1] (bl c3 234 [ptr g] * (bl c1 133 [ptr l] * (logB l d L lv * (segB g G bV rV * segsR gs))))
      (fun v => pu (v = .bool (tooOld G L.segs x)) * (bl c3 234 [ptr g] * (bl c1 133 [ptr l] * (logB l d L lv * (segB g G bV rV * segsR gs))))) := by
  rw [segsR_split hx]
  refine tr_body Tryz.func168 (by kernel_rfl) rfl Tryz.ntmps168 rfl (L := [(0, ptr x.1), (1, ptr c3), (2, ptr c1)]) (covers_cons rfl (covers_cons rfl (covers_cons rfl covers_nil))) rfl ?_
  intro F w0 f
  refine CC.opn (segR x.1 x.2) rfl fun b2 => ?_
  refine CC.ex1 fun r2 => ?_
  refine cc_seq ?_
  refine cc_region ?_
  refine rr_assign rfl rfl ?_
  refine rr_nil ?_
  refine cc_seq ?_
  refine cc_draw (1) [] [] mixed (by decide +kernel) ?_
  refine rr_move rfl rfl ?_
  refine rr_nilCheck rfl rfl ?_
  refine r_fa rfl rfl ?_
  refine r_ld rfl (ls0 rfl) rfl rfl ?_
  refine r_ld rfl (ls0 rfl) rfl rfl ?_
  refine rr_nilCheck rfl rfl ?_
  refine r_fa rfl rfl ?_
  refine r_ld rfl (ls0 rfl) rfl rfl ?_
  refine r_ld rfl (ls0 rfl) rfl rfl ?_
  refine rr_nilCheck rfl rfl ?_
  refine r_fa rfl rfl ?_
  refine r_ld rfl (ls0 rfl) rfl rfl ?_
  refine r_sub rfl rfl rfl (by omega) ?_
  refine r_int rfl rfl rfl rfl ?_
  refine rr_assign rfl rfl ?_
  refine rr_nil ?_
  refine cc_ret ?_
  refine ⟨_, rfl, entW_pu2 rfl ?_⟩
  refine entW_cls (segR x.1 x.2) (segB x.1 x.2 b2 r2 * (slR b2 5 1 x.2.buf.length (bv x.2.buf) * recsR r2 x.2.recs)) (fun _ h => ⟨b2, r2, h⟩) ?_
  exact entW_fr
theorem segsR_filter (q : Nat × Seg → Bool) : ∀ (gs : List (Nat × Seg)) (F : SL), EntW (segsR gs * F) (segsR (gs.filter q) * F)
  | [], F => EntW.refl _
  | x :: gs, F => by
    intro w s
    simp only [segsR] at s
    rw [sl_assoc] at s
    cases h : q x with
    | false =>
      rw [List.filter_cons_of_neg (by simp [h])]
      exact segsR_filter q gs F w s.r
    | true =>
      rw [List.filter_cons_of_pos h]
      simp only [segsR]
      rw [sl_assoc, sl_comm (segR x.1 x.2), sl_assoc]
      refine segsR_filter q gs _ w ?_
      rw [sl_comm F, ← sl_assoc, sl_comm (segsR gs), sl_assoc]
      exact s
theorem entW_filter {A R : SL} {gs : List (Nat × Seg)} (q : Nat × Seg → Bool) [p : Pick A (segsR gs) R] : EntW A (segsR (gs.filter q) * R) := by rw [p.eq]; exact segsR_filter q gs R
theorem recs_nil {A : SL} : Ent A (recsR (.slice none 0 0) [] * A) := by
  intro h x
  unfold recsR
  refine ex_mul.2 ⟨[], ?_⟩
  rw [sl_assoc]
  refine pu_mul.2 ⟨rfl, ?_⟩
  rw [sl_assoc]
  refine ent_nil 241 2 h ?_
  simp only [bodies, sl_one_mul]
  exact x
/-- the segment that begins -/
def newGen (gs : List (Nat × Seg)) : Nat := (gs.getLast?.map fun x => x.2.gen + 1).getD 1
abbrev newSeg (gs : List (Nat × Seg)) (next : Nat) : Seg := ⟨newGen gs, next, 0, [], []⟩
theorem lbegin_tr (l d : Nat) (L : LogS) (lv : Value) (gs : List (Nat × Seg)) (D : DevS) (hg : ∀ x ∈ gs, 1 ≤ x.2.gen ∧ x.2.gen ≤ 2 ^ 39) (hn : gs.length ≤ 2 ^ 30) (h3 : 1 ≤ L.segs) (h4 : L.segs ≤ 200) (h5 : L.from_ + L.segs * 8 ≤ D.length) (h6 : L.run ≤ 2 ^ 40) :
    Tr Tryz.prog 142 #[ptr l] (logB l d L lv * (slR lv 234 1 gs.length (gs.flatMap fun x => [ptr x.1]) * (segsR gs * devR d D)))
      (fun v => ex fun lv' => ex fun g => pu (v = i64 0) * (logB l d L lv' * (slR lv' 234 1 (gs.filter (fun x => !tooOld (newSeg gs L.next) L.segs x) ++ [(g, newSeg gs L.next)]).length ((gs.filter (fun x => !tooOld (newSeg gs L.next) L.segs x) ++ [(g, newSeg gs L.next)]).flatMap fun x => [ptr x.1]) *
        (segsR (gs.filter (fun x => !tooOld (newSeg gs L.next) L.segs x) ++ [(g, newSeg gs L.next)]) * devR d (flushD (segW D L.from_ L.segs (newSeg gs L.next) 0 L.run)))))) := by
  refine tr_body Tryz.func142 (by kernel_rfl) rfl Tryz.ntmps142 rfl (L := [(0, ptr l)]) (covers_cons rfl covers_nil) rfl ?_
  intro F w0 f
  refine CC.slv lv fun bb bc hlv _ => ?_
  subst hlv
  have hG1 : 1 ≤ newGen gs ∧ newGen gs ≤ 2 ^ 40 := by
    simp only [newGen]
    cases hl : gs.getLast? with
    | none => simp
    | some x => have := hg x (List.mem_of_getLast? hl); simp; omega
  have hmem : ∀ x ∈ gs, ∃ j : Nat, gs[j]? = some x := fun x hx => List.getElem?_of_mem hx
  generalize hγ : newGen gs = γ at hG1
  refine cc_seq ?_
  refine cc_region ?_
  refine r_box rfl rfl rfl (sd0 rfl) (fun _ => sd0 rfl) (fun p0_0 => ?_)
  refine rr_assign rfl rfl ?_
  refine rr_nil ?_
  refine cc_seq ?_
  refine cc_region ?_
  refine r_ld rfl (ls0 rfl) rfl rfl ?_
  refine rr_nilCheck rfl rfl ?_
  refine r_fa rfl rfl ?_
  refine r_ld rfl (ls0 rfl) rfl rfl ?_
  refine r_bld rfl rfl rfl ?_
  refine r_boxa rfl rfl (sd0 rfl) (fun _ => sd0 rfl) (fun p1_5 => ?_)
  refine r_alloc rfl (sd0 rfl) (fun _ => sd0 rfl) (fun p1_6 => ?_)
  refine r_st rfl rfl rfl rfl (sd0 rfl) (sd0 rfl) ?_
  refine rr_nil ?_
  refine cc_seq ?_
  refine cc_seq ?_
  refine cc_region ?_
  refine r_ld rfl (ls0 rfl) rfl rfl ?_
  refine rr_nilCheck rfl rfl ?_
  refine r_fa rfl rfl ?_
  refine r_ld rfl (ls0 rfl) rfl rfl ?_
  refine r_lens rfl rfl ?_
  refine rr_assign rfl rfl ?_
  refine rr_nil ?_
  refine cc_seq ?_
  refine cc_region ?_
  refine rr_move rfl rfl ?_
  refine r_int rfl rfl rfl rfl ?_
  refine rr_nil ?_
  refine cc_cond rfl (fun h18 => ?_) (fun h18 => ?_)
  · try simp only [decide_eq_true_eq, decide_eq_false_iff_not, beq_iff_eq, beq_eq_false_iff_ne, bne_iff_ne, bne_eq_false_iff_eq, ne_eq, Bool.not_eq_eq_eq_not, Bool.not_true, Bool.not_false] at h18
    obtain ⟨x, hx⟩ := lt_get (l := gs) (j := gs.length - 1) (by omega)
    have hlast : gs.getLast? = some x := by rw [List.getLast?_eq_getElem?]; exact hx
    have hγ1 : γ = x.2.gen + 1 := by rw [← hγ, newGen, hlast]; rfl
    rw [segsR_split hx]
    refine CC.opn (segR x.1 x.2) rfl fun b2 => ?_
    refine CC.ex1 fun r2 => ?_
    have hxm := hg x (get_mem hx)
    refine CC.slb (.slice bb gs.length bc) (by omega) fun lb lc lrest e1 e2 e3 => ?_
    simp only [Value.slice.injEq] at e1
    obtain ⟨hbb, _, hbc⟩ := e1
    subst hbc
    rw [hbb]
    refine cc_draw (1) [] [] mixed (by decide +kernel) ?_
    refine r_ld rfl (ls0 rfl) rfl rfl ?_
    refine r_ld rfl (ls0 rfl) rfl rfl ?_
    refine rr_nilCheck rfl rfl ?_
    refine r_fa rfl rfl ?_
    refine r_ld rfl (ls0 rfl) rfl rfl ?_
    refine rr_move rfl rfl ?_
    refine r_sub rfl rfl rfl (by omega) ?_
    refine r_ix rfl rfl rfl (by omega) ?_
    refine r_ld rfl (ls0 rfl) (v := ptr x.1) (by
      have := nth_fm (g := fun x : Nat × Seg => [ptr x.1]) (w := 1) (fun _ _ => rfl) hx (j := 0) rfl lrest
      rw [show 0 + ((gs.length : Int) - 1).toNat * 1 = (gs.length - 1) * 1 + 0 by omega]; exact this) rfl ?_
    refine rr_nilCheck rfl rfl ?_
    refine r_fa rfl rfl ?_
    refine r_ld rfl (ls0 rfl) rfl rfl ?_
    refine r_add rfl rfl rfl (by omega) ?_
    refine rr_nilCheck rfl rfl ?_
    refine r_fa rfl rfl ?_
    refine r_st rfl rfl rfl rfl (sd0 rfl) (sd0 rfl) ?_
    refine rr_nil ?_
    refine CC.clb p1_5 [i64 γ, i64 L.next, i64 0, .slice none 0 0, .slice none 0 0] (by rw [hγ1]; rfl) ?_
    refine CC.cl (X := bl lb 234 ((gs.flatMap fun x => [ptr x.1]) ++ lrest)) (slR_blk (cap := bc) e2 e3) ?_
    rw [← hbb]
    refine CC.cls (segR x.1 x.2) (segB x.1 x.2 b2 r2 * (slR b2 5 1 x.2.buf.length (bv x.2.buf) * recsR r2 x.2.recs)) (fun _ h => ⟨b2, r2, h⟩) ?_
    refine CC.cls (segsR gs) (segsR (gs.take (gs.length - 1)) * (segR x.1 x.2 * segsR (gs.drop (gs.length - 1 + 1)))) (Ent.of_eq (segsR_split hx).symm) ?_
    refine cc_seq ?_
    refine cc_seq ?_
    refine CC.entW ?_ (entW_ent (ent_nilB 5))
    refine cc_region ?_
    refine r_ld rfl (ls0 rfl) rfl rfl ?_
    refine r_ld rfl (ls0 rfl) rfl rfl ?_
    refine rr_call rfl rfl rfl rfl (lwrite_tr l d p1_5 0 L (.slice bb gs.length bc) (.slice none 0 0) (.slice none 0 0) ⟨γ, L.next, 0, [], []⟩ D (by omega) (by simp) hG1.1 hG1.2 h3 h4 h5 h6) inferInstance rfl (sd0 rfl) (fun _ => sd0 rfl) rfl (fun v => ?_)
    first | refine RR.pu2 ?_ | refine RR.pu ?_
    rintro rfl
    refine rr_assign rfl rfl ?_
    refine rr_nil ?_
    refine cc_seq ?_
    refine cc_region ?_
    refine rr_move rfl rfl ?_
    refine r_int rfl rfl rfl rfl ?_
    refine rr_nil ?_
    refine cc_condF rfl ?_
    refine cc_skip ?_
    refine cc_seq ?_
    refine cc_draw (bl p0_0 133 [ptr l]) [0] [6] mixed (by decide +kernel) ?_
    refine r_ld rfl (ls1 rfl) rfl rfl ?_
    refine r_ld rfl (ls0 rfl) rfl rfl ?_
    refine rr_nilCheck rfl rfl ?_
    refine r_fa rfl rfl ?_
    refine r_ld rfl (ls0 rfl) rfl rfl ?_
    refine r_mkf rfl rfl ?_
    refine rr_call rfl rfl rfl rfl (delSegS_tr (.slice bb gs.length bc) 168 gs [ptr p1_6, ptr p0_0] (tooOld ⟨γ, L.next, 0, [], []⟩ L.segs) (bl p1_6 234 [ptr p1_5] * (bl p0_0 133 [ptr l] * (logB l d L (.slice bb gs.length bc) * (segB p1_5 ⟨γ, L.next, 0, [], []⟩ (.slice none 0 0) (.slice none 0 0) * segsR gs)))) (by omega) (fun x hx => by obtain ⟨j, hj⟩ := hmem x hx; exact old_tr l d p1_5 p1_6 p0_0 L _ _ _ _ gs j x hj hG1.2 h4)) inferInstance rfl (sd1 rfl) (fun _ => sd1 rfl) rfl (fun v => ?_)
    refine RR.slv v fun b3 c3 e3 _ => ?_
    subst e3
    refine rr_nilCheck rfl rfl ?_
    refine r_fa rfl rfl ?_
    refine r_st rfl rfl rfl rfl (sd0 rfl) (sd0 rfl) ?_
    refine rr_nil ?_
    refine cc_seq ?_
    refine cc_draw (bl p0_0 133 [ptr l] * (bl p1_6 234 [ptr p1_5] * logB l d L (.slice b3 (gs.filter fun x => !tooOld ⟨γ, L.next, 0, [], []⟩ L.segs x).length c3))) [0, 1, 4] [6, 7] mixed (by decide +kernel) ?_
    refine r_ld rfl (ls1 rfl) rfl rfl ?_
    refine r_ld rfl (ls1 rfl) rfl rfl ?_
    refine rr_nilCheck rfl rfl ?_
    refine r_fa rfl rfl ?_
    refine r_ld rfl (ls1 rfl) rfl rfl ?_
    refine r_ld rfl (ls0 rfl) rfl rfl ?_
    refine r_bsl (cs := [ptr p1_5]) rfl rfl rfl rfl rfl rfl (by first | exact sd0 rfl | exact sd1 rfl) (fun _ => by first | exact sd0 rfl | exact sd1 rfl) (fun p9 => ?_)
    refine r_app (m := (gs.filter fun x => !tooOld ⟨γ, L.next, 0, [], []⟩ L.segs x).length) (xs := (gs.filter fun x => !tooOld ⟨γ, L.next, 0, [], []⟩ L.segs x).flatMap fun x => [ptr x.1]) (k' := 1) (ys := [ptr p1_5]) rfl rfl (.inl (by rw [spv_underlying]; kernel_rfl)) inferInstance rfl (fun w sa => src_of sa (by simp) rfl) (by simp) (by simp [oneC]) (by have := List.length_filter_le (fun x => !tooOld ⟨γ, L.next, 0, [], []⟩ L.segs x) gs; omega) (by have := List.length_filter_le (fun x => !tooOld ⟨γ, L.next, 0, [], []⟩ L.segs x) gs; omega) (by omega) rfl (by first | exact sd0 rfl | exact sd1 rfl) (fun _ => by first | exact sd0 rfl | exact sd1 rfl) (fun v4 => ?_)
    refine RR.slv v4 fun b4 c4 e4 _ => ?_
    subst e4
    refine rr_nilCheck rfl rfl ?_
    refine r_fa rfl rfl ?_
    refine r_st rfl rfl rfl rfl (sd0 rfl) (sd0 rfl) ?_
    refine rr_nil ?_
    refine cc_seq ?_
    refine cc_region ?_
    refine r_ld rfl (ls0 rfl) rfl rfl ?_
    refine rr_nilCheck rfl rfl ?_
    refine r_fa rfl rfl ?_
    refine r_ld rfl (ls0 rfl) rfl rfl ?_
    refine rr_call rfl rfl rfl rfl (flush_tr d (segW D L.from_ L.segs ⟨γ, L.next, 0, [], []⟩ 0 L.run)) inferInstance rfl (sd0 rfl) (fun _ => sd0 rfl) rfl (fun v => ?_)
    first | refine RR.pu2 ?_ | refine RR.pu ?_
    rintro rfl
    refine rr_assign rfl rfl ?_
    refine rr_nil ?_
    refine cc_ret ?_
    refine ⟨_, rfl, entW_ex2 (.slice b4 ((gs.filter fun x => !tooOld ⟨γ, L.next, 0, [], []⟩ L.segs x).length + 1) c4) (entW_ex2 p1_5 (entW_pu2 rfl ?_))⟩
    simp only [newSeg, hγ, segsR_app, segsR, sl_mul_one, List.length_append, List.length_singleton, List.flatMap_append, List.flatMap_cons, List.flatMap_nil, List.append_nil]
    refine EntW.trans (entW_filter (gs := gs) fun x => !tooOld ⟨γ, L.next, 0, [], []⟩ L.segs x) ?_
    refine EntW.trans (entW_ent recs_nil) ?_
    refine entW_cls (segR p1_5 ⟨γ, L.next, 0, [], []⟩) (segB p1_5 ⟨γ, L.next, 0, [], []⟩ (.slice none 0 0) (.slice none 0 0) * (slR (.slice none 0 0) 5 1 (⟨γ, L.next, 0, [], []⟩ : Seg).buf.length (bv (⟨γ, L.next, 0, [], []⟩ : Seg).buf) * recsR (.slice none 0 0) [])) (fun _ h => ⟨_, _, h⟩) ?_
    exact entW_fr
  · try simp only [decide_eq_true_eq, decide_eq_false_iff_not, beq_iff_eq, beq_eq_false_iff_ne, bne_iff_ne, bne_eq_false_iff_eq, ne_eq, Bool.not_eq_eq_eq_not, Bool.not_true, Bool.not_false] at h18
    have hg0 : gs = [] := List.length_eq_zero_iff.1 (by omega)
    have hγ1 : γ = 1 := by rw [← hγ, hg0]; rfl
    refine CC.clb p1_5 [i64 γ, i64 L.next, i64 0, .slice none 0 0, .slice none 0 0] (by rw [hγ1]; rfl) ?_
    refine cc_skip ?_
    refine cc_seq ?_
    refine cc_seq ?_
    refine CC.entW ?_ (entW_ent (ent_nilB 5))
    refine cc_region ?_
    refine r_ld rfl (ls0 rfl) rfl rfl ?_
    refine r_ld rfl (ls0 rfl) rfl rfl ?_
    refine rr_call rfl rfl rfl rfl (lwrite_tr l d p1_5 0 L (.slice bb gs.length bc) (.slice none 0 0) (.slice none 0 0) ⟨γ, L.next, 0, [], []⟩ D (by omega) (by simp) hG1.1 hG1.2 h3 h4 h5 h6) inferInstance rfl (sd0 rfl) (fun _ => sd0 rfl) rfl (fun v => ?_)
    first | refine RR.pu2 ?_ | refine RR.pu ?_
    rintro rfl
    refine rr_assign rfl rfl ?_
    refine rr_nil ?_
    refine cc_seq ?_
    refine cc_region ?_
    refine rr_move rfl rfl ?_
    refine r_int rfl rfl rfl rfl ?_
    refine rr_nil ?_
    refine cc_condF rfl ?_
    refine cc_skip ?_
    refine cc_seq ?_
    refine cc_draw (bl p0_0 133 [ptr l]) [0] [6] mixed (by decide +kernel) ?_
    refine r_ld rfl (ls1 rfl) rfl rfl ?_
    refine r_ld rfl (ls0 rfl) rfl rfl ?_
    refine rr_nilCheck rfl rfl ?_
    refine r_fa rfl rfl ?_
    refine r_ld rfl (ls0 rfl) rfl rfl ?_
    refine r_mkf rfl rfl ?_
    refine rr_call rfl rfl rfl rfl (delSegS_tr (.slice bb gs.length bc) 168 gs [ptr p1_6, ptr p0_0] (tooOld ⟨γ, L.next, 0, [], []⟩ L.segs) (bl p1_6 234 [ptr p1_5] * (bl p0_0 133 [ptr l] * (logB l d L (.slice bb gs.length bc) * (segB p1_5 ⟨γ, L.next, 0, [], []⟩ (.slice none 0 0) (.slice none 0 0) * segsR gs)))) (by omega) (fun x hx => by obtain ⟨j, hj⟩ := hmem x hx; exact old_tr l d p1_5 p1_6 p0_0 L _ _ _ _ gs j x hj hG1.2 h4)) inferInstance rfl (sd1 rfl) (fun _ => sd1 rfl) rfl (fun v => ?_)
    refine RR.slv v fun b3 c3 e3 _ => ?_
    subst e3
    refine rr_nilCheck rfl rfl ?_
    refine r_fa rfl rfl ?_
    refine r_st rfl rfl rfl rfl (sd0 rfl) (sd0 rfl) ?_
    refine rr_nil ?_
    refine cc_seq ?_
    refine cc_draw (bl p0_0 133 [ptr l] * (bl p1_6 234 [ptr p1_5] * logB l d L (.slice b3 (gs.filter fun x => !tooOld ⟨γ, L.next, 0, [], []⟩ L.segs x).length c3))) [0, 1, 4] [6, 7] mixed (by decide +kernel) ?_
    refine r_ld rfl (ls1 rfl) rfl rfl ?_
    refine r_ld rfl (ls1 rfl) rfl rfl ?_
    refine rr_nilCheck rfl rfl ?_
    refine r_fa rfl rfl ?_
    refine r_ld rfl (ls1 rfl) rfl rfl ?_
    refine r_ld rfl (ls0 rfl) rfl rfl ?_
    refine r_bsl (cs := [ptr p1_5]) rfl rfl rfl rfl rfl rfl (by first | exact sd0 rfl | exact sd1 rfl) (fun _ => by first | exact sd0 rfl | exact sd1 rfl) (fun p9 => ?_)
    refine r_app (m := (gs.filter fun x => !tooOld ⟨γ, L.next, 0, [], []⟩ L.segs x).length) (xs := (gs.filter fun x => !tooOld ⟨γ, L.next, 0, [], []⟩ L.segs x).flatMap fun x => [ptr x.1]) (k' := 1) (ys := [ptr p1_5]) rfl rfl (.inl (by rw [spv_underlying]; kernel_rfl)) inferInstance rfl (fun w sa => src_of sa (by simp) rfl) (by simp) (by simp [oneC]) (by have := List.length_filter_le (fun x => !tooOld ⟨γ, L.next, 0, [], []⟩ L.segs x) gs; omega) (by have := List.length_filter_le (fun x => !tooOld ⟨γ, L.next, 0, [], []⟩ L.segs x) gs; omega) (by omega) rfl (by first | exact sd0 rfl | exact sd1 rfl) (fun _ => by first | exact sd0 rfl | exact sd1 rfl) (fun v4 => ?_)
    refine RR.slv v4 fun b4 c4 e4 _ => ?_
    subst e4
    refine rr_nilCheck rfl rfl ?_
    refine r_fa rfl rfl ?_
    refine r_st rfl rfl rfl rfl (sd0 rfl) (sd0 rfl) ?_
    refine rr_nil ?_
    refine cc_seq ?_
    refine cc_region ?_
    refine r_ld rfl (ls0 rfl) rfl rfl ?_
    refine rr_nilCheck rfl rfl ?_
    refine r_fa rfl rfl ?_
    refine r_ld rfl (ls0 rfl) rfl rfl ?_
    refine rr_call rfl rfl rfl rfl (flush_tr d (segW D L.from_ L.segs ⟨γ, L.next, 0, [], []⟩ 0 L.run)) inferInstance rfl (sd0 rfl) (fun _ => sd0 rfl) rfl (fun v => ?_)
    first | refine RR.pu2 ?_ | refine RR.pu ?_
    rintro rfl
    refine rr_assign rfl rfl ?_
    refine rr_nil ?_
    refine cc_ret ?_
    refine ⟨_, rfl, entW_ex2 (.slice b4 ((gs.filter fun x => !tooOld ⟨γ, L.next, 0, [], []⟩ L.segs x).length + 1) c4) (entW_ex2 p1_5 (entW_pu2 rfl ?_))⟩
    simp only [newSeg, hγ, segsR_app, segsR, sl_mul_one, List.length_append, List.length_singleton, List.flatMap_append, List.flatMap_cons, List.flatMap_nil, List.append_nil]
    refine EntW.trans (entW_filter (gs := gs) fun x => !tooOld ⟨γ, L.next, 0, [], []⟩ L.segs x) ?_
    refine EntW.trans (entW_ent recs_nil) ?_
    refine entW_cls (segR p1_5 ⟨γ, L.next, 0, [], []⟩) (segB p1_5 ⟨γ, L.next, 0, [], []⟩ (.slice none 0 0) (.slice none 0 0) * (slR (.slice none 0 0) 5 1 (⟨γ, L.next, 0, [], []⟩ : Seg).buf.length (bv (⟨γ, L.next, 0, [], []⟩ : Seg).buf) * recsR (.slice none 0 0) [])) (fun _ h => ⟨_, _, h⟩) ?_
    exact entW_fr
/-- the eldest position -/
def firstPos (gs : List (Nat × Seg)) (next : Nat) : Nat := match gs with
  | [] => next
  | x :: r => match x.2.recs with
    | [] => firstPos r next
    | rc :: _ => rc.1
theorem firstPos_skip : ∀ {gs : List (Nat × Seg)} {next j : Nat}, (∀ (i : Nat) (x : Nat × Seg), i < j → gs[i]? = some x → x.2.recs = []) → firstPos gs next = firstPos (gs.drop j) next
  | [], _, j, _ => by simp
  | x :: gs, next, 0, _ => rfl
  | x :: gs, next, j + 1, h => by
    have h0 := h 0 x (by omega) rfl
    simp only [firstPos, h0, List.drop_succ_cons]
    exact firstPos_skip fun i y hi hy => h (i + 1) y (by omega) hy
theorem recV_get0 {us : List Value} {rs : List (Nat × Txt)} {rc : Nat × Txt} {q : List (Nat × Txt)} {rest : List Value} (h : us.length = rs.length) (e : rs = rc :: q) : nth (recV us rs ++ rest) 0 = some (i64 rc.1) := by
  subst e
  cases us with
  | nil => simp at h
  | cons u us => rfl
theorem firstPos_at {gs : List (Nat × Seg)} {next j : Nat} {x : Nat × Seg} {rc : Nat × Txt} {q : List (Nat × Txt)} (h : ∀ (i : Nat) (x : Nat × Seg), i < j → gs[i]? = some x → x.2.recs = []) (hx : gs[j]? = some x) (e : x.2.recs = rc :: q) : firstPos gs next = rc.1 := by
  rw [firstPos_skip h, drop_cons_get hx]
  simp only [firstPos, e]
theorem lfirst_tr (l d : Nat) (L : LogS) (lv : Value) (gs : List (Nat × Seg)) (hn : gs.length ≤ 2 ^ 30) :
    Tr Tryz.prog 102 #[ptr l] (logB l d L lv * (slR lv 234 1 gs.length (gs.flatMap fun x => [ptr x.1]) * segsR gs))
      (fun v => pu (v = i64 (firstPos gs L.next)) * (logB l d L lv * (slR lv 234 1 gs.length (gs.flatMap fun x => [ptr x.1]) * segsR gs))) := by
  refine tr_body Tryz.func102 (by kernel_rfl) rfl Tryz.ntmps102 rfl (L := [(0, ptr l)]) (covers_cons rfl covers_nil) rfl ?_
  intro F w0 f
  refine CC.slv lv fun bb bc hlv _ => ?_
  subst hlv
  refine cc_seq ?_
  refine cc_region ?_
  refine rr_assign rfl rfl ?_
  refine rr_nil ?_
  refine cc_seq ?_
  refine cc_seq ?_
  refine cc_region ?_
  refine rr_move rfl rfl ?_
  refine r_pnil rfl rfl rfl ?_
  refine rr_nil ?_
  refine cc_condF rfl ?_
  refine cc_skip ?_
  refine cc_seq ?_
  refine cc_seq ?_
  refine cc_region ?_
  refine rr_move rfl rfl ?_
  refine rr_nilCheck rfl rfl ?_
  refine r_fa rfl rfl ?_
  refine r_ld rfl (ls0 rfl) rfl rfl ?_
  refine r_lens rfl rfl ?_
  refine rr_move rfl rfl ?_
  refine rr_nil ?_
  refine cc_block ?_
  refine cc_loopW (α := Nat) (fun j => [(12, i64 j), (11, i64 gs.length), (10, .slice bb gs.length bc), (0, ptr l)]) (fun j => pu (j ≤ gs.length ∧ ∀ (i : Nat) (x : Nat × Seg), i < j → gs[i]? = some x → x.2.recs = []) * (logB l d L (.slice bb gs.length bc) * (slR (.slice bb gs.length bc) 234 1 gs.length (gs.flatMap fun x => [ptr x.1]) * segsR gs) * F)) (fun j => gs.length - j) (0) (by ((repeat' (first | exact covers_nil | (refine covers_cons ?_ ?_; focus (first | rfl | (simp [lk, lk?]; done))))) ; (first | done | fail))) (by exact entW_pu ⟨by omega, fun i x hi => by omega⟩ entW_fr) ?_
  rintro j f
  refine CC.pu fun hj => ?_
  refine cc_seq ?_
  refine cc_region ?_
  refine r_int rfl rfl rfl rfl ?_
  refine rr_nil ?_
  refine cc_seq ?_
  refine cc_cond rfl (fun h13 => ?_) (fun h13 => ?_)
  · try simp only [decide_eq_true_eq, decide_eq_false_iff_not, beq_iff_eq, beq_eq_false_iff_ne, bne_iff_ne, bne_eq_false_iff_eq, ne_eq, Bool.not_eq_eq_eq_not, Bool.not_true, Bool.not_false] at h13
    obtain ⟨x, hx⟩ := lt_get (l := gs) (j := j) (by omega)
    rw [segsR_split hx]
    refine CC.opn (segR x.1 x.2) rfl fun b2 => ?_
    refine CC.ex1 fun r2 => ?_
    refine CC.opn (recsR r2 x.2.recs) rfl fun us => ?_
    refine CC.pu3 fun hus => ?_
    refine CC.slv r2 fun rb rc hr2 _ => ?_
    subst hr2
    refine CC.slb (.slice bb gs.length bc) (by omega) fun lb lc lrest e1 e2 e3 => ?_
    simp only [Value.slice.injEq] at e1
    obtain ⟨hbb, _, hbc⟩ := e1
    subst hbc
    rw [hbb]
    refine cc_skip ?_
    refine cc_seq ?_
    refine cc_block ?_
    refine cc_seq ?_
    refine cc_region ?_
    refine r_ix rfl rfl rfl (by omega) ?_
    refine r_ld rfl (ls0 rfl) (v := ptr x.1) (by
      have := nth_fm (g := fun x : Nat × Seg => [ptr x.1]) (w := 1) (fun _ _ => rfl) hx (j := 0) rfl lrest
      rw [show 0 + (j : Int).toNat * 1 = j * 1 + 0 by omega]; exact this) rfl ?_
    refine rr_assign rfl rfl ?_
    refine rr_nil ?_
    refine cc_seq ?_
    refine cc_region ?_
    refine rr_move rfl rfl ?_
    refine rr_nilCheck rfl rfl ?_
    refine r_fa rfl rfl ?_
    refine r_ld rfl (ls0 rfl) rfl rfl ?_
    refine r_lens rfl rfl ?_
    refine r_int rfl rfl rfl rfl ?_
    refine rr_nil ?_
    refine cc_cond rfl (fun h21 => ?_) (fun h21 => ?_)
    · try simp only [decide_eq_true_eq, decide_eq_false_iff_not, beq_iff_eq, beq_eq_false_iff_ne, bne_iff_ne, bne_eq_false_iff_eq, ne_eq, Bool.not_eq_eq_eq_not, Bool.not_true, Bool.not_false] at h21
      obtain ⟨r0, rs0, hrs⟩ := List.exists_cons_of_length_pos (l := x.2.recs) (by omega)
      have hfp := firstPos_at (next := L.next) hj.2 hx hrs
      refine CC.slb (.slice rb x.2.recs.length rc) (by omega) fun pb pc prest f1 f2 f3 => ?_
      simp only [Value.slice.injEq] at f1
      obtain ⟨hrb, _, hrc⟩ := f1
      subst hrc
      rw [hrb]
      refine cc_seq ?_
      refine cc_region ?_
      refine rr_move rfl rfl ?_
      refine rr_nilCheck rfl rfl ?_
      refine r_fa rfl rfl ?_
      refine r_ld rfl (ls0 rfl) rfl rfl ?_
      refine r_ix rfl rfl rfl ⟨by omega, by omega⟩ ?_
      refine r_fa rfl rfl ?_
      refine r_ld rfl (ls0 rfl) (v := i64 r0.1) (recV_get0 hus hrs) rfl ?_
      refine rr_assign rfl rfl ?_
      refine rr_nil ?_
      refine CC.cl (X := bl pb 241 (recV us x.2.recs ++ prest)) (slR_blk (cap := rc) f2 f3) ?_
      refine CC.entW (B := logB l d L (.slice (some ⟨lb, 0, none⟩) gs.length bc) * (slR (.slice (some ⟨lb, 0, none⟩) gs.length bc) 234 1 gs.length (gs.flatMap fun x => [ptr x.1]) * (segsR (gs.take j) * (segR x.1 x.2 * segsR (gs.drop (j + 1))))) * F) ?_ (by
        refine EntW.trans (entW_ent (ent_pick (X := bl lb 234 ((gs.flatMap fun x => [ptr x.1]) ++ lrest)) (slR_blk (cap := bc) e2 e3))) ?_
        refine entW_cls (recsR (.slice (some ⟨pb, 0, none⟩) x.2.recs.length rc) x.2.recs) (slR (.slice (some ⟨pb, 0, none⟩) x.2.recs.length rc) 241 2 x.2.recs.length (recV us x.2.recs) * bodies us x.2.recs) (fun _ h => ⟨us, pu_mul.2 ⟨hus, h⟩⟩) ?_
        refine entW_cls (segR x.1 x.2) (segB x.1 x.2 b2 (.slice (some ⟨pb, 0, none⟩) x.2.recs.length rc) * (slR b2 5 1 x.2.buf.length (bv x.2.buf) * recsR (.slice (some ⟨pb, 0, none⟩) x.2.recs.length rc) x.2.recs)) (fun _ h => ⟨b2, _, h⟩) ?_
        exact entW_fr)
      refine cc_ret ?_
      exact ⟨_, rfl, entW_pu2 (by rw [hfp]) entW_fr⟩
    · try simp only [decide_eq_true_eq, decide_eq_false_iff_not, beq_iff_eq, beq_eq_false_iff_ne, bne_iff_ne, bne_eq_false_iff_eq, ne_eq, Bool.not_eq_eq_eq_not, Bool.not_true, Bool.not_false] at h21
      refine cc_skip ?_
      refine cc_region ?_
      refine r_add rfl rfl rfl (by omega) ?_
      refine rr_move rfl rfl ?_
      refine rr_nil ?_
      refine ⟨j + 1, by omega, by ((repeat' (first | exact covers_nil | (refine covers_cons ?_ ?_; focus (first | rfl | (simp [lk, lk?]; done))))) ; (first | done | fail)), entW_pu ⟨by omega, fun i y hi hy => by
        by_cases e : i = j
        · subst e; rw [hx] at hy; simp only [Option.some.injEq] at hy; subst hy; exact List.length_eq_zero_iff.1 (by omega)
        · exact hj.2 i y (by omega) hy⟩ ?_⟩
      refine EntW.trans (entW_ent (ent_pick (X := bl lb 234 ((gs.flatMap fun x => [ptr x.1]) ++ lrest)) (slR_blk (cap := bc) e2 e3))) ?_
      refine entW_cls (recsR (.slice rb x.2.recs.length rc) x.2.recs) (slR (.slice rb x.2.recs.length rc) 241 2 x.2.recs.length (recV us x.2.recs) * bodies us x.2.recs) (fun _ h => ⟨us, pu_mul.2 ⟨hus, h⟩⟩) ?_
      refine entW_cls (segR x.1 x.2) (segB x.1 x.2 b2 (.slice rb x.2.recs.length rc) * (slR b2 5 1 x.2.buf.length (bv x.2.buf) * recsR (.slice rb x.2.recs.length rc) x.2.recs)) (fun _ h => ⟨b2, _, h⟩) ?_
      exact entW_fr
  · try simp only [decide_eq_true_eq, decide_eq_false_iff_not, beq_iff_eq, beq_eq_false_iff_ne, bne_iff_ne, bne_eq_false_iff_eq, ne_eq, Bool.not_eq_eq_eq_not, Bool.not_true, Bool.not_false] at h13
    have hfp : firstPos gs L.next = L.next := by rw [firstPos_skip hj.2, List.drop_of_length_le (by omega)]; rfl
    refine cc_exit ?_
    refine cc_seq ?_
    refine cc_region ?_
    refine rr_move rfl rfl ?_
    refine rr_nilCheck rfl rfl ?_
    refine r_fa rfl rfl ?_
    refine r_ld rfl (ls0 rfl) rfl rfl ?_
    refine rr_assign rfl rfl ?_
    refine rr_nil ?_
    refine cc_ret ?_
    exact ⟨_, rfl, entW_pu2 (by rw [hfp]) entW_fr⟩
end Go.Proofs.YtoiakcgdkegncaaGreat

