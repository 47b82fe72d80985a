import Derived.Test.YtoiakcgdkegncaaGreatK10
set_option linter.unusedVariables false
set_option linter.unusedSimpArgs false
set_option linter.unusedSectionVars false
namespace Go.Proofs.YtoiakcgdkegncaaGreat
open Go.RowKit Ice
attribute [local irreducible] CC RR Tr appL appD enc
structure JourS where
  log : LogS
  marks : List MarkS
/-- a journal -/
def journalR (j d : Nat) (J : JourS) : SL := ex fun q : Nat × Value => bl j 204 [ptr q.1, q.2] * (logR q.1 d J.log * slR q.2 208 3 J.marks.length (J.marks.flatMap markV))
theorem journalR_mk (j d l : Nat) (v : Value) (L : LogS) (ms : List MarkS) : Ent (bl j 204 [ptr l, v] * (logR l d L * slR v 208 3 ms.length (ms.flatMap markV))) (journalR j d ⟨L, ms⟩) := fun _ h => ⟨(l, v), h⟩
def seqM (ms : List MarkS) : Int := (ms.getLast?.map (·.seq)).getD 0
def seqJ (J : JourS) : Int := seqM J.marks
structure JourOK (J : JourS) (n k : Nat) : Prop where
  log : LogOK J.log n k
  srt : SrtOK J.log
  len : J.marks.length ≤ k
  seq : ∀ m ∈ J.marks, 0 ≤ m.seq ∧ m.seq ≤ k
theorem JourOK.last {J : JourS} {n k : Nat} (h : JourOK J n k) : 0 ≤ seqJ J ∧ seqJ J ≤ k := by
  unfold seqJ seqM
  cases hl : J.marks.getLast? with
  | none => simp
  | some m => simpa using h.seq m (List.mem_of_getLast? hl)
theorem jseqV_tr (j l : Nat) (v : Value) (ms : List MarkS) (hl : ms.length ≤ 2 ^ 40) : Tr Tryz.prog 114 #[ptr j] (bl j 204 [ptr l, v] * slR v 208 3 ms.length (ms.flatMap markV))
    (fun w => pu (w = i64 (seqM ms)) * (bl j 204 [ptr l, v] * slR v 208 3 ms.length (ms.flatMap markV))) := by
  refine tr_body Tryz.func114 (by kernel_rfl) rfl Tryz.ntmps114 rfl (L := [(0, ptr j)]) (covers_cons rfl covers_nil) rfl ?_
  intro F w0 f
  refine CC.slv v fun vb vc hv _ => ?_
  subst hv
  refine cc_seq ?_
  refine cc_region ?_
  refine rr_assign rfl rfl ?_
  refine rr_nil ?_
  refine cc_seq ?_
  refine cc_seq ?_
  refine cc_region ?_
  refine rr_move rfl rfl ?_
  refine r_pnil rfl rfl rfl ?_
  refine rr_move rfl rfl ?_
  refine rr_guardY rfl rfl rfl ?_
  refine rr_move rfl rfl ?_
  refine rr_guardY rfl rfl rfl ?_
  refine rr_nilCheck rfl rfl ?_
  refine rr_guardY rfl rfl rfl ?_
  refine r_fa rfl rfl ?_
  refine rr_guardY rfl rfl rfl ?_
  refine r_ld rfl (ls0 rfl) rfl rfl ?_
  refine rr_guardY rfl rfl rfl ?_
  refine r_lens rfl rfl ?_
  refine rr_guardY rfl rfl rfl ?_
  refine r_int rfl rfl rfl rfl ?_
  first | refine rr_pick rfl rfl ?_ | refine rr_pickb rfl rfl rfl rfl ?_
  refine rr_nil ?_
  refine cc_cond rfl (fun h12 => ?_) (fun h12 => ?_)
  · try simp only [decide_eq_true_eq, decide_eq_false_iff_not, beq_iff_eq, beq_eq_false_iff_ne, bne_iff_ne, bne_eq_false_iff_eq, ne_eq, Bool.not_eq_eq_eq_not, Bool.not_true, Bool.not_false] at h12
    have h0 : ms = [] := List.length_eq_zero_iff.1 (by simpa using h12)
    have hs : seqM ms = 0 := by rw [h0]; rfl
    refine cc_seq ?_
    refine cc_region ?_
    refine rr_assign rfl rfl ?_
    refine rr_nil ?_
    refine cc_ret ?_
    first
    | exact ⟨_, rfl, entW_pu2 (by rw [hs]) entW_fr⟩
    | exact ⟨_, rfl, entW_pu2 (by rw [hs]) ((entW_ent (ent_pick (X := bl lb 208 (ms.flatMap markV ++ lrest)) (slR_blk (cap := vc) e2 e3))).trans entW_fr)⟩
  · try simp only [decide_eq_true_eq, decide_eq_false_iff_not, beq_iff_eq, beq_eq_false_iff_ne, bne_iff_ne, bne_eq_false_iff_eq, ne_eq, Bool.not_eq_eq_eq_not, Bool.not_true, Bool.not_false] at h12
    have hpos : 0 < ms.length := by
      rcases ms with _ | ⟨a, r⟩
      · simp at h12
      · simp
    obtain ⟨m, hm⟩ := lt_get (l := ms) (j := ms.length - 1) (by omega)
    have hs : seqM ms = m.seq := by unfold seqM; rw [List.getLast?_eq_getElem?, hm]; rfl
    refine CC.slb (.slice vb ms.length vc) hpos fun lb lc lrest e1 e2 e3 => ?_
    simp only [Value.slice.injEq] at e1
    obtain ⟨hvb, _, hvc⟩ := e1
    subst hvc
    rw [hvb]
    refine cc_skip ?_
    refine cc_seq ?_
    refine cc_draw (1) [] [] mixed (by decide +kernel) ?_
    refine rr_move rfl rfl ?_
    refine rr_nilCheck rfl rfl ?_
    refine r_fa rfl rfl ?_
    refine r_ld rfl (ls0 rfl) rfl rfl ?_
    refine rr_move rfl rfl ?_
    refine rr_nilCheck rfl rfl ?_
    refine r_fa rfl rfl ?_
    refine r_ld rfl (ls0 rfl) rfl rfl ?_
    refine r_lens rfl rfl ?_
    refine r_sub rfl rfl rfl (by omega) ?_
    refine r_ix rfl rfl rfl (by omega) ?_
    refine r_fa rfl rfl ?_
    refine r_fa rfl rfl ?_
    refine r_ld rfl (ls0 rfl) (v := i64 m.seq) (by
      have := nth_fm (g := markV) (w := 3) (fun _ _ => rfl) hm (j := 0) rfl lrest
      rw [show 0 + ((ms.length : Int) - 1).toNat * 3 + 0 + 0 = (ms.length - 1) * 3 + 0 by omega]; exact this) rfl ?_
    refine rr_assign rfl rfl ?_
    refine rr_nil ?_
    refine cc_ret ?_
    first
    | exact ⟨_, rfl, entW_pu2 (by rw [hs]) entW_fr⟩
    | exact ⟨_, rfl, entW_pu2 (by rw [hs]) ((entW_ent (ent_pick (X := bl lb 208 (ms.flatMap markV ++ lrest)) (slR_blk (cap := vc) e2 e3))).trans entW_fr)⟩
/-- a mark that the log has no more -/
def oldM (L : LogS) (m : MarkS) : Bool := decide (m.pos < firstL L)
theorem jold_tr (p j d l n k : Nat) (mv : Value) (L : LogS) (m : MarkS) (h : LogOK L n k) (hk : k ≤ 2 ^ 29) : Tr Tryz.prog 138 #[.agg (markV m).toArray, ptr p] (bl p 81 [ptr j] * (bl j 204 [ptr l, mv] * logR l d L))
    (fun v => pu (v = .bool (oldM L m)) * (bl p 81 [ptr j] * (bl j 204 [ptr l, mv] * logR l d L))) := by
  refine tr_body Tryz.func138 (by kernel_rfl) rfl Tryz.ntmps138 rfl (L := [(0, .agg (markV m).toArray), (1, ptr p)]) (covers_cons rfl (covers_cons rfl covers_nil)) rfl ?_
  intro F w0 f
  refine cc_seq ?_
  refine cc_region ?_
  refine r_boxa (vs := markV m) rfl rfl (sd0 rfl) (fun _ => sd0 rfl) (fun p0_0 => ?_)
  refine rr_assign rfl rfl ?_
  refine rr_nil ?_
  refine cc_seq ?_
  refine cc_draw (bl p0_0 208 (markV m)) [1] [6] mixed (by decide +kernel) ?_
  refine r_fa rfl rfl ?_
  refine r_ld rfl (ls1 rfl) rfl rfl ?_
  refine r_ld rfl (ls0 rfl) rfl rfl ?_
  refine rr_nilCheck rfl rfl ?_
  refine r_fa rfl rfl ?_
  refine r_ld rfl (ls0 rfl) rfl rfl ?_
  refine rr_call rfl rfl rfl rfl (lfirstR_tr l d n k L h hk) inferInstance rfl (sd1 rfl) (fun _ => sd1 rfl) rfl (fun v => ?_)
  first | refine RR.pu2 ?_ | refine RR.pu ?_
  rintro rfl
  refine r_int rfl rfl rfl rfl ?_
  refine rr_assign rfl rfl ?_
  refine rr_nil ?_
  refine cc_ret ?_
  exact ⟨_, rfl, entW_pu2 rfl entW_fr⟩
def bodyJ (seq : Int) (key : Txt) : Txt := encs [seq] ++ key
def addJ1 (S : JourS × DevS) (key : Txt) : JourS × DevS := (⟨appL S.1.log (bodyJ (seqJ S.1 + 1) key), S.1.marks ++ [⟨seqJ S.1 + 1, key, S.1.log.next⟩]⟩, appD S.1.log S.2 (bodyJ (seqJ S.1 + 1) key))
def addsJ (S : JourS × DevS) (ks : List Txt) : JourS × DevS := ks.foldl addJ1 S
def trimJ (J : JourS) : JourS := ⟨J.log, J.marks.filter fun m => !oldM J.log m⟩
theorem bodyJ_len (seq : Int) {key : Txt} (h : keyOk key = true) : 1 ≤ (bodyJ seq key).length ∧ (bodyJ seq key).length ≤ 50 := by
  have h1 := enc_len seq
  have h2 := (itemMay_spec (tomb_may h)).2.1
  simp only [tomb] at h2
  simp [bodyJ, encs]; omega
theorem JourOK.add1 {S : JourS × DevS} {n k : Nat} (h : JourOK S.1 n k) {key : Txt} (hk : keyOk key = true) : JourOK (addJ1 S key).1 n (k + 2) := by
  have hb := bodyJ_len (seqJ S.1 + 1) hk
  have hl := h.last
  refine ⟨h.log.app (by omega), h.srt.app (by omega), ?_, ?_⟩
  · have := h.len; simp [addJ1]; omega
  · intro m hm
    rcases List.mem_append.1 hm with hm | hm
    · have := h.seq m hm; omega
    · simp at hm; subst hm; simp only; omega
theorem adds_ok {n : Nat} : ∀ (ks : List Txt) {S : JourS × DevS} {k : Nat}, JourOK S.1 n k → (∀ key ∈ ks, keyOk key = true) → JourOK (addsJ S ks).1 n (k + 2 * ks.length)
  | [], S, k, h, _ => h
  | key :: ks, S, k, h, hk => by
    have := adds_ok ks (h.add1 (hk key (by simp))) (fun x hx => hk x (by simp [hx]))
    rw [show k + 2 + 2 * ks.length = k + 2 * (key :: ks).length by simp; omega] at this
    exact this
theorem JourOK.trim {J : JourS} {n k : Nat} (h : JourOK J n k) : JourOK (trimJ J) n k :=
  ⟨h.log, h.srt, Nat.le_trans (List.length_filter_le _ _) h.len, fun m hm => h.seq m (List.mem_filter.1 hm).1⟩
theorem addJ1_len (S : JourS × DevS) (key : Txt) : (addJ1 S key).2.length = S.2.length := by unfold addJ1; exact appD_len _ _ _
theorem adds_len : ∀ (ks : List Txt) (S : JourS × DevS), (addsJ S ks).2.length = S.2.length
  | [], _ => rfl
  | key :: ks, S => (adds_len ks _).trans (addJ1_len S key)
theorem adds_take {S : JourS × DevS} {ks : List Txt} {j : Nat} {key : Txt} (h : ks[j]? = some key) : addsJ S (ks.take (j + 1)) = addJ1 (addsJ S (ks.take j)) key := foldl_take_succ addJ1 S h
theorem jadd_tr (j d n k p c2 : Nat) (rest : List Value) (J : JourS) (D : DevS) (ks : List Txt) (h : JourOK J n k) (hk : k + 2 * ks.length ≤ 2 ^ 26) (hn : n = D.length) (hks : ∀ key ∈ ks, keyOk key = true) (hne : 0 < ks.length) :
    Tr Tryz.prog 96 #[ptr j, .slice (some ⟨p, 0, none⟩) ks.length c2] (journalR j d J * devR d D * bl p 9 (ks.map str ++ rest))
      (fun v => pu (v = .tuple #[i64 (seqJ (trimJ (addsJ (J, D) ks).1)), i64 0]) * (journalR j d (trimJ (addsJ (J, D) ks).1) * devR d (flushD (addsJ (J, D) ks).2) * bl p 9 (ks.map str ++ rest))) := by
  subst hn
  refine tr_body Tryz.func96 (by kernel_rfl) rfl Tryz.ntmps96 rfl (L := [(0, ptr j), (1, .slice (some ⟨p, 0, none⟩) ks.length c2)]) (covers_cons rfl (covers_cons rfl covers_nil)) rfl ?_
  intro F w0 f
  have hld : ∀ (i : Nat) (key : Txt), ks[i]? = some key → nth (ks.map str ++ rest) (0 + (i : Int).toNat * 1) = some (str key) := by
    intro i key hi
    rw [show 0 + (i : Int).toNat * 1 = i by omega, nth_eq, List.getElem?_append_left (by have := get_lt hi; simp; omega)]
    simp [hi]
  refine cc_seq ?_
  refine cc_region ?_
  refine r_box rfl rfl rfl (sd0 rfl) (fun _ => sd0 rfl) (fun p0_0 => ?_)
  refine rr_assign rfl rfl ?_
  refine rr_assign rfl rfl ?_
  refine rr_nil ?_
  refine cc_seq ?_
  refine cc_seq ?_
  refine cc_region ?_
  refine r_ld rfl (ls0 rfl) rfl rfl ?_
  refine r_pnil rfl rfl rfl ?_
  refine rr_nil ?_
  refine cc_condF rfl ?_
  refine cc_skip ?_
  refine cc_seq ?_
  refine cc_seq ?_
  refine cc_region ?_
  refine rr_move rfl rfl ?_
  refine r_lens rfl rfl ?_
  refine rr_move rfl rfl ?_
  refine rr_nil ?_
  refine cc_block ?_
  refine cc_loopW (α := Nat) (fun i => [(18, i64 i), (17, i64 ks.length), (16, .slice (some ⟨p, 0, none⟩) ks.length c2), (2, ptr p0_0), (1, .slice (some ⟨p, 0, none⟩) ks.length c2)]) (fun i => pu (i ≤ ks.length) * (bl p0_0 81 [ptr j] * (journalR j d J * devR d D * bl p 9 (ks.map str ++ rest) * F))) (fun i => ks.length - i) (0) (by ((repeat' (first | exact covers_nil | (refine covers_cons ?_ ?_; focus (first | rfl | (simp [lk, lk?]; done))))) ; (first | done | fail))) (by exact entW_pu (by omega) entW_fr) ?_
  rintro i f
  refine CC.pu fun hi => ?_
  refine cc_seq ?_
  refine cc_region ?_
  refine r_int rfl rfl rfl rfl ?_
  refine rr_nil ?_
  refine cc_seq ?_
  refine cc_cond rfl (fun h19 => ?_) (fun h19 => ?_)
  · try simp only [decide_eq_true_eq, decide_eq_false_iff_not, beq_iff_eq, beq_eq_false_iff_ne, bne_iff_ne, bne_eq_false_iff_eq, ne_eq, Bool.not_eq_eq_eq_not, Bool.not_true, Bool.not_false] at h19
    obtain ⟨key, hkey⟩ := lt_get (l := ks) (j := i) (by omega)
    have hko := hks key (get_mem hkey)
    have hms := itemMay_spec (tomb_may hko)
    refine cc_skip ?_
    refine cc_seq ?_
    refine cc_block ?_
    refine cc_seq ?_
    refine cc_region ?_
    refine r_ix rfl rfl rfl (by omega) ?_
    refine r_ld rfl (ls0 rfl) (hld i key hkey) rfl ?_
    refine rr_assign rfl rfl ?_
    refine rr_nil ?_
    refine cc_seq ?_
    refine cc_region ?_
    refine rr_move rfl rfl ?_
    first | refine r_strx rfl rfl rfl rfl ?_ | refine r_str rfl rfl rfl rfl ?_
    rw [show (key == []) = false by simpa [tomb] using hms.1]
    refine rr_move rfl rfl ?_
    refine rr_guardY rfl rfl rfl ?_
    refine rr_move rfl rfl ?_
    refine rr_guardY rfl rfl rfl ?_
    first | refine r_lenx rfl rfl ?_ | refine r_lent rfl rfl ?_
    refine rr_guardY rfl rfl rfl ?_
    refine r_int rfl rfl rfl rfl ?_
    rw [show decide ((40 : Int) < (key.length : Int)) = false by have := hms.2.1; simp only [tomb] at this; simp; omega]
    first | refine rr_pick rfl rfl ?_ | refine rr_pickb rfl rfl rfl rfl ?_
    refine rr_nil ?_
    refine cc_condF rfl ?_
    refine cc_skip ?_
    refine cc_region ?_
    refine r_add rfl rfl rfl (by omega) ?_
    refine rr_move rfl rfl ?_
    refine rr_nil ?_
    exact ⟨i + 1, by omega, by ((repeat' (first | exact covers_nil | (refine covers_cons ?_ ?_; focus (first | rfl | (simp [lk, lk?]; done))))) ; (first | done | fail)), entW_pu (by omega) entW_fr⟩
  · try simp only [decide_eq_true_eq, decide_eq_false_iff_not, beq_iff_eq, beq_eq_false_iff_ne, bne_iff_ne, bne_eq_false_iff_eq, ne_eq, Bool.not_eq_eq_eq_not, Bool.not_true, Bool.not_false] at h19
    refine cc_exit ?_
    refine cc_seq ?_
    refine cc_seq ?_
    refine cc_region ?_
    refine rr_move rfl rfl ?_
    refine r_lens rfl rfl ?_
    refine rr_move rfl rfl ?_
    refine rr_nil ?_
    refine cc_block ?_
    refine cc_loopW (α := Nat) (fun i => [(32, i64 i), (31, i64 ks.length), (30, .slice (some ⟨p, 0, none⟩) ks.length c2), (2, ptr p0_0), (1, .slice (some ⟨p, 0, none⟩) ks.length c2)]) (fun i => pu (i ≤ ks.length) * (bl p0_0 81 [ptr j] * (journalR j d (addsJ (J, D) (ks.take i)).1 * devR d (addsJ (J, D) (ks.take i)).2 * bl p 9 (ks.map str ++ rest) * F))) (fun i => ks.length - i) (0) (by ((repeat' (first | exact covers_nil | (refine covers_cons ?_ ?_; focus (first | rfl | (simp [lk, lk?]; done))))) ; (first | done | fail))) (by exact entW_pu (by omega) (by simp only [List.take_zero, addsJ, List.foldl_nil]; exact entW_fr)) ?_
    rintro i f
    refine CC.pu fun hi => ?_
    refine cc_seq ?_
    refine cc_region ?_
    refine r_int rfl rfl rfl rfl ?_
    refine rr_nil ?_
    refine cc_seq ?_
    refine cc_cond rfl (fun h33 => ?_) (fun h33 => ?_)
    · try simp only [decide_eq_true_eq, decide_eq_false_iff_not, beq_iff_eq, beq_eq_false_iff_ne, bne_iff_ne, bne_eq_false_iff_eq, ne_eq, Bool.not_eq_eq_eq_not, Bool.not_true, Bool.not_false] at h33
      obtain ⟨key, hkey⟩ := lt_get (l := ks) (j := i) (by omega)
      have hko := hks key (get_mem hkey)
      have hOK : JourOK (addsJ (J, D) (ks.take i)).1 D.length (k + 2 * i) := by
        have := adds_ok (ks.take i) (S := (J, D)) h (fun x hx => hks x (List.mem_of_mem_take hx))
        rwa [List.length_take, Nat.min_eq_left (by omega)] at this
      have hSl : (addsJ (J, D) (ks.take i)).2.length = D.length := adds_len _ _
      have hnx := adds_take (S := (J, D)) hkey
      generalize addsJ (J, D) (ks.take i) = S at *
      have hbl := bodyJ_len (seqJ S.1 + 1) hko
      have hsq := hOK.last
      have hel := enc_len (seqJ S.1 + 1)
      have hle : (encs [seqJ S.1 + 1]).length = (enc (seqJ S.1 + 1)).length := by simp [encs]
      have hml := hOK.len
      have hkl : key.length ≤ 40 := (itemMay_spec (tomb_may hko)).2.1
      refine CC.opn (journalR j d S.1) rfl fun q => ?_
      refine cc_skip ?_
      refine cc_seq ?_
      refine cc_block ?_
      refine cc_seq ?_
      refine cc_region ?_
      refine r_ix rfl rfl rfl (by omega) ?_
      refine r_ld rfl (ls0 rfl) (hld i key hkey) rfl ?_
      refine rr_assign rfl rfl ?_
      refine rr_nil ?_
      refine cc_seq ?_
      refine cc_region ?_
      refine r_ld rfl (ls0 rfl) rfl rfl ?_
      refine rr_call rfl rfl rfl rfl (jseqV_tr j q.1 q.2 S.1.marks (by omega)) inferInstance rfl (sd0 rfl) (fun _ => sd0 rfl) rfl (fun v => ?_)
      refine RR.pu2 ?_
      rintro rfl
      rw [show seqM S.1.marks = seqJ S.1 from rfl]
      refine r_add rfl rfl rfl (by omega) ?_
      refine rr_assign rfl rfl ?_
      refine rr_nil ?_
      refine cc_seq ?_
      refine cc_draw (bl p0_0 81 [ptr j] * bl j 204 [ptr q.1, q.2]) [0, 3] [5, 6, 8] mixed (by decide +kernel) ?_
      refine r_ld rfl (ls1 rfl) rfl rfl ?_
      refine rr_nilCheck rfl rfl ?_
      refine r_fa rfl rfl ?_
      refine r_ld rfl (ls1 rfl) rfl rfl ?_
      refine rr_move rfl rfl ?_
      refine r_bsl (cs := ([seqJ S.1 + 1] : List Int).map i64) rfl rfl rfl rfl rfl rfl (by first | exact sd0 rfl | exact sd1 rfl) (fun _ => by first | exact sd0 rfl | exact sd1 rfl) (fun p5 => ?_)
      refine RR.entW ?_ (entW_ent (ent_nilB 5))
      refine rr_call rfl rfl rfl rfl (nPut_tr (.slice none 0 0) [] p5 1 [seqJ S.1 + 1] (by simp; omega) (by simp) (by simp)) inferInstance rfl (sd1 rfl) (fun _ => sd1 rfl) rfl (fun v => ?_)
      rw [List.nil_append]
      refine rr_move rfl rfl ?_
      refine r_appB (encs [seqJ S.1 + 1]) (key) rfl rfl (.inr und_str) inferInstance rfl (fun w sa => src_strL _) (by first | (simp; omega) | omega) rfl rfl (by first | exact sd0 rfl | exact sd1 rfl) (fun _ => by first | exact sd0 rfl | exact sd1 rfl) (fun v => ?_)
      rw [show encs [seqJ S.1 + 1] ++ key = bodyJ (seqJ S.1 + 1) key from rfl]
      refine rr_call rfl rfl rfl rfl (lappend_tr q.1 d D.length (k + 2 * i) v S.1.log S.2 (bodyJ (seqJ S.1 + 1) key) hOK.log (by omega) hSl.symm hbl.1 (by omega)) inferInstance rfl (sd0 rfl) (fun _ => sd0 rfl) rfl (fun v => ?_)
      refine RR.pu2 ?_
      rw [ens_next]
      rintro rfl
      refine rr_move rfl rfl ?_
      refine rr_extract rfl rfl rfl ?_
      refine rr_extract rfl rfl rfl ?_
      refine rr_assign rfl rfl ?_
      refine rr_assign rfl rfl ?_
      refine rr_nil ?_
      refine cc_seq ?_
      refine cc_seq ?_
      refine cc_region ?_
      refine rr_move rfl rfl ?_
      refine r_int rfl rfl rfl rfl ?_
      refine rr_nil ?_
      refine cc_condF rfl ?_
      refine cc_skip ?_
      refine CC.slv q.2 fun mb mc hq2 _ => ?_
      refine cc_draw (bl p0_0 81 [ptr j] * bl j 204 [ptr q.1, q.2]) [0, 1, 4] [10, 11] mixed (by decide +kernel) ?_
      refine r_ld rfl (ls1 rfl) rfl rfl ?_
      refine r_ld rfl (ls1 rfl) rfl rfl ?_
      refine rr_nilCheck rfl rfl ?_
      refine r_fa rfl rfl ?_
      refine r_ld rfl (ls1 rfl) rfl rfl ?_
      refine rr_move rfl rfl ?_
      refine rr_move rfl rfl ?_
      refine r_bld rfl rfl rfl ?_
      refine rr_move rfl rfl ?_
      refine r_bld rfl rfl rfl ?_
      refine r_bsl (cs := markV ⟨seqJ S.1 + 1, key, S.1.log.next⟩) rfl rfl rfl rfl rfl rfl (by first | exact sd0 rfl | exact sd1 rfl) (fun _ => by first | exact sd0 rfl | exact sd1 rfl) (fun p10 => ?_)
      refine r_app (m := S.1.marks.length) (xs := S.1.marks.flatMap markV) (k' := 1) (ys := markV ⟨seqJ S.1 + 1, key, S.1.log.next⟩) rfl rfl (.inl (by rw [spv_underlying]; kernel_rfl)) inferInstance rfl (fun w sa => src_of sa (by simp [markV]) rfl) (by simp [markV]) (by simp [oneC, markV]) (by omega) (by omega) (by omega) rfl (by first | exact sd0 rfl | exact sd1 rfl) (fun _ => by first | exact sd0 rfl | exact sd1 rfl) (fun v4 => ?_)
      refine RR.slv v4 fun b4 c4 e4 _ => ?_
      subst e4
      refine rr_nilCheck rfl rfl ?_
      refine r_fa rfl rfl ?_
      refine r_st rfl rfl rfl rfl (sd0 rfl) (sd0 rfl) ?_
      refine rr_nil ?_
      refine cc_region ?_
      refine r_add rfl rfl rfl (by omega) ?_
      refine rr_move rfl rfl ?_
      refine rr_nil ?_
      refine ⟨i + 1, by omega, by ((repeat' (first | exact covers_nil | (refine covers_cons ?_ ?_; focus (first | rfl | (simp [lk, lk?]; done))))) ; (first | done | fail)), entW_pu (by omega) ?_⟩
      rw [hnx, show (addJ1 S key).2 = appD S.1.log S.2 (bodyJ (seqJ S.1 + 1) key) from rfl]
      exact entW_cls (journalR j d (addJ1 S key).1) (bl j 204 [ptr q.1, .slice b4 (S.1.marks.length + 1) c4] * (logR q.1 d (appL S.1.log (bodyJ (seqJ S.1 + 1) key)) * slR (.slice b4 (S.1.marks.length + 1) c4) 208 3 (S.1.marks.length + 1) (S.1.marks.flatMap markV ++ markV ⟨seqJ S.1 + 1, key, S.1.log.next⟩))) (by
        have := journalR_mk j d q.1 (.slice b4 (S.1.marks.length + 1) c4) (appL S.1.log (bodyJ (seqJ S.1 + 1) key)) (S.1.marks ++ [⟨seqJ S.1 + 1, key, S.1.log.next⟩])
        simp only [List.length_append, List.length_singleton, List.flatMap_append, List.flatMap_cons, List.flatMap_nil, List.append_nil] at this
        exact this) entW_fr
    · try simp only [decide_eq_true_eq, decide_eq_false_iff_not, beq_iff_eq, beq_eq_false_iff_ne, bne_iff_ne, bne_eq_false_iff_eq, ne_eq, Bool.not_eq_eq_eq_not, Bool.not_true, Bool.not_false] at h33
      obtain rfl : i = ks.length := by omega
      have hOK := adds_ok ks (S := (J, D)) h hks
      rw [List.take_length]
      generalize addsJ (J, D) ks = S at *
      have hml := hOK.len
      refine CC.opn (journalR j d S.1) rfl fun q => ?_
      refine cc_exit ?_
      refine cc_seq ?_
      refine cc_draw (bl p0_0 81 [ptr j] * bl j 204 [ptr q.1, q.2]) [0] [6] mixed (by decide +kernel) ?_
      refine r_ld rfl (ls1 rfl) rfl rfl ?_
      refine r_ld rfl (ls0 rfl) rfl rfl ?_
      refine rr_nilCheck rfl rfl ?_
      refine r_fa rfl rfl ?_
      refine r_ld rfl (ls0 rfl) rfl rfl ?_
      refine r_mkf rfl rfl ?_
      refine rr_call rfl rfl rfl rfl (delMarkS_tr q.2 138 S.1.marks [ptr p0_0] (oldM S.1.log) (bl p0_0 81 [ptr j] * (bl j 204 [ptr q.1, q.2] * logR q.1 d S.1.log)) (by omega) (fun x hx => jold_tr p0_0 j d q.1 D.length (k + 2 * ks.length) q.2 S.1.log x hOK.log (by omega))) inferInstance rfl (sd1 rfl) (fun _ => sd1 rfl) rfl (fun v => ?_)
      refine RR.slv v fun b3 c3 e3 _ => ?_
      subst e3
      refine rr_nilCheck rfl rfl ?_
      refine r_fa rfl rfl ?_
      refine r_st rfl rfl rfl rfl (sd0 rfl) (sd0 rfl) ?_
      refine rr_nil ?_
      refine cc_seq ?_
      refine cc_seq ?_
      refine cc_region ?_
      refine rr_move rfl rfl ?_
      refine r_lens rfl rfl ?_
      refine r_int rfl rfl rfl rfl ?_
      refine rr_nil ?_
      refine cc_condTp rfl (by simp; omega) ?_
      refine cc_seq ?_
      refine cc_region ?_
      refine r_ld rfl (ls0 rfl) rfl rfl ?_
      refine rr_nilCheck rfl rfl ?_
      refine r_fa rfl rfl ?_
      refine r_ld rfl (ls0 rfl) rfl rfl ?_
      refine rr_call rfl rfl rfl rfl (lflushR_tr q.1 d S.1.log S.2) inferInstance rfl (sd0 rfl) (fun _ => sd0 rfl) rfl (fun v => ?_)
      first | refine RR.pu2 ?_ | refine RR.pu ?_
      rintro rfl
      refine rr_assign rfl rfl ?_
      refine rr_nil ?_
      refine cc_seq ?_
      refine cc_region ?_
      refine rr_move rfl rfl ?_
      refine r_int rfl rfl rfl rfl ?_
      refine rr_nil ?_
      refine cc_condF rfl ?_
      refine cc_skip ?_
      refine cc_seq ?_
      refine cc_region ?_
      refine r_ld rfl (ls0 rfl) rfl rfl ?_
      refine rr_call rfl rfl rfl rfl (jseqV_tr j q.1 (.slice b3 (S.1.marks.filter fun m => !oldM S.1.log m).length c3) (S.1.marks.filter fun m => !oldM S.1.log m) (by have := List.length_filter_le (fun m => !oldM S.1.log m) S.1.marks; omega)) inferInstance rfl (sd0 rfl) (fun _ => sd0 rfl) rfl (fun v => ?_)
      first | refine RR.pu2 ?_ | refine RR.pu ?_
      rintro rfl
      refine rr_assign rfl rfl ?_
      refine rr_assign rfl rfl ?_
      refine rr_nil ?_
      refine cc_ret ?_
      exact ⟨_, rfl, entW_pu2 rfl (entW_cls (journalR j d (trimJ S.1)) (bl j 204 [ptr q.1, .slice b3 (S.1.marks.filter fun m => !oldM S.1.log m).length c3] * (logR q.1 d S.1.log * slR (.slice b3 (S.1.marks.filter fun m => !oldM S.1.log m).length c3) 208 3 (S.1.marks.filter fun m => !oldM S.1.log m).length ((S.1.marks.filter fun m => !oldM S.1.log m).flatMap markV))) (journalR_mk j d q.1 _ _ _) entW_fr)⟩
theorem jopen0_tr (d : Nat) (D : DevS) (h3 : 162 ≤ D.length) (hz : zeroReg D 2 160) :
    Tr Tryz.prog 111 #[ptr d, i64 (2 : Nat), i64 (20 : Nat)] (devR d D) (fun v => ex fun j => pu (v = .tuple #[ptr j, i64 0]) * (journalR j d ⟨⟨2, 20, [], 1, 1, true⟩, []⟩ * devR d D)) := by
  refine tr_body Tryz.func111 (by kernel_rfl) rfl Tryz.ntmps111 rfl (L := [(0, ptr d), (1, i64 (2 : Nat)), (2, i64 (20 : Nat))]) (covers_cons rfl (covers_cons rfl (covers_cons rfl covers_nil))) rfl ?_
  intro F w0 f
  refine cc_seq ?_
  refine cc_region ?_
  refine rr_assign rfl rfl ?_
  refine rr_assign rfl rfl ?_
  refine rr_nil ?_
  refine cc_seq ?_
  refine cc_block ?_
  refine cc_seq ?_
  refine cc_region ?_
  refine rr_move rfl rfl ?_
  refine r_pnil rfl rfl rfl ?_
  refine rr_assign rfl rfl ?_
  refine rr_nil ?_
  refine cc_condF rfl ?_
  refine cc_seq ?_
  refine cc_region ?_
  refine rr_move rfl rfl ?_
  refine r_int rfl rfl rfl rfl ?_
  refine rr_assign rfl rfl ?_
  refine rr_nil ?_
  refine cc_condF rfl ?_
  refine cc_skip ?_
  refine cc_seq ?_
  refine cc_region ?_
  refine rr_move rfl rfl ?_
  refine rr_move rfl rfl ?_
  refine rr_move rfl rfl ?_
  refine rr_call rfl rfl rfl rfl (lopen0_tr d 2 20 D (by decide) (by decide) (by omega) hz) inferInstance rfl (sd0 rfl) (fun _ => sd0 rfl) rfl (fun v => ?_)
  refine RR.ex1 fun l => ?_
  refine RR.pu2 ?_
  rintro rfl
  refine rr_move rfl rfl ?_
  refine rr_extract rfl rfl rfl ?_
  refine rr_extract rfl rfl rfl ?_
  refine rr_assign rfl rfl ?_
  refine rr_assign rfl rfl ?_
  refine rr_nil ?_
  refine cc_seq ?_
  refine cc_seq ?_
  refine cc_region ?_
  refine rr_move rfl rfl ?_
  refine r_int rfl rfl rfl rfl ?_
  refine rr_nil ?_
  refine cc_condF rfl ?_
  refine cc_skip ?_
  refine cc_seq ?_
  refine cc_region ?_
  refine rr_move rfl rfl ?_
  refine r_bld rfl rfl rfl ?_
  refine r_boxa rfl rfl (sd0 rfl) (fun _ => sd0 rfl) (fun p8_2 => ?_)
  refine rr_assign rfl rfl ?_
  refine rr_nil ?_
  refine cc_seq ?_
  refine cc_seq ?_
  refine cc_region ?_
  refine rr_move rfl rfl ?_
  refine rr_call rfl rfl rfl rfl (lall0_tr l d 2 20 1 1 true) inferInstance rfl (sd0 rfl) (fun _ => sd0 rfl) rfl (fun v => ?_)
  first | refine RR.pu2 ?_ | refine RR.pu ?_
  rintro rfl
  refine r_lens rfl rfl ?_
  refine rr_move rfl rfl ?_
  refine rr_nil ?_
  refine cc_block ?_
  refine cc_loopW (α := Nat) (fun i => [(38, i64 0), (37, i64 0), (10, ptr p8_2)]) (fun i => bl p8_2 204 [ptr l, .slice none 0 0] * (logR l d ⟨2, 20, [], 1, 1, true⟩ * (devR d D * F))) (fun i => i) (0) (by ((repeat' (first | exact covers_nil | (refine covers_cons ?_ ?_; focus (first | rfl | (simp [lk, lk?]; done))))) ; (first | done | fail))) (by exact entW_fr) ?_
  rintro i f
  refine cc_seq ?_
  refine cc_region ?_
  refine r_int rfl rfl rfl rfl ?_
  refine rr_nil ?_
  refine cc_seq ?_
  refine cc_condF rfl ?_
  refine cc_exit ?_
  refine cc_seq ?_
  refine cc_region ?_
  refine rr_move rfl rfl ?_
  refine rr_assign rfl rfl ?_
  refine rr_assign rfl rfl ?_
  refine rr_nil ?_
  refine cc_ret ?_
  refine ⟨_, rfl, entW_ex2 p8_2 (entW_pu2 rfl ?_)⟩
  refine EntW.trans (entW_ent (ent_nil 208 3)) ?_
  exact entW_cls (journalR p8_2 d ⟨⟨2, 20, [], 1, 1, true⟩, []⟩) (bl p8_2 204 [ptr l, .slice none 0 0] * (logR l d ⟨2, 20, [], 1, 1, true⟩ * slR (.slice none 0 0) 208 3 0 [])) (journalR_mk p8_2 d l (.slice none 0 0) _ []) entW_fr
end Go.Proofs.YtoiakcgdkegncaaGreat

namespace Go.Proofs.YtoiakcgdkegncaaGreat
open Go.RowKit Ice
attribute [local irreducible] CC RR Tr appL appD enc supW supMake metaText
structure StoreS where
  cache : CacheS
  jour : JourS
  mt : MetaS
  turn : Nat
  slot : Nat
  boot : Int
  dev : DevS
def storeR (s d : Nat) (S : StoreS) : SL := ex fun q : Nat × Nat × Nat => bl s 84 [ptr q.1, ptr q.2.1, ptr q.2.2, i64 S.boot] * (cacheR q.1 d S.cache * (journalR q.2.1 d S.jour * (keeperR q.2.2 d S.mt S.turn S.slot * devR d S.dev)))
theorem storeR_mk (s d c j k : Nat) (S : StoreS) : Ent (bl s 84 [ptr c, ptr j, ptr k, i64 S.boot] * (cacheR c d S.cache * (journalR j d S.jour * (keeperR k d S.mt S.turn S.slot * devR d S.dev)))) (storeR s d S) := fun _ h => ⟨(c, j, k), h⟩
theorem mmetaR_tr (k d : Nat) (m : MetaS) (turn slot : Nat) : Tr Tryz.prog 29 #[ptr k] (keeperR k d m turn slot) (fun v => pu (v = metaA m) * keeperR k d m turn slot) := by
  have : keeperR k d m turn slot = keeperR k d m turn slot * 1 := (sl_mul_one _).symm
  rw [this]
  refine tr_ex (by kernel_rfl) fun s => ?_
  refine tr_ent (tr_frame (superR s d ⟨0, turn, metaText m, slot⟩) (mmeta_tr k s d m)) (fun F => entW_fr) fun v F w' s2 => ?_
  rw [sl_assoc, sl_assoc] at s2
  obtain ⟨hv, s2⟩ := sat_pu.1 s2
  refine Sat.pu2 ?_ hv
  refine entW_cls (keeperR k d m turn slot) (bl k 148 (ptr s :: metaV m) * superR s d ⟨0, turn, metaText m, slot⟩) (keeperR_mk k d m turn slot s) ?_ w' s2
  exact entW_fr
theorem soff_tr (d : Nat) (D : DevS) (h : 192 ≤ D.length) : Tr Tryz.prog 56 #[ptr d] (devR d D) (fun v => pu (v = i64 0) * devR d D) := by
  refine tr_body Tryz.func56 (by kernel_rfl) rfl Tryz.ntmps56 rfl (L := [(0, ptr d)]) (covers_cons rfl covers_nil) rfl ?_
  intro F w0 f
  refine cc_seq ?_
  refine cc_region ?_
  refine rr_assign rfl rfl ?_
  refine rr_nil ?_
  refine cc_seq ?_
  refine cc_block ?_
  refine cc_seq ?_
  refine cc_region ?_
  refine rr_move rfl rfl ?_
  refine r_pnil rfl rfl rfl ?_
  refine rr_assign rfl rfl ?_
  refine rr_nil ?_
  refine cc_condF rfl ?_
  refine cc_seq ?_
  refine cc_region ?_
  refine rr_move rfl rfl ?_
  refine rr_call rfl rfl rfl rfl (len_tr d D) inferInstance rfl (sd0 rfl) (fun _ => sd0 rfl) rfl (fun v => ?_)
  first | refine RR.pu2 ?_ | refine RR.pu ?_
  rintro rfl
  refine r_int rfl rfl rfl rfl ?_
  rw [show decide ((D.length : Int) < 192) = false by simp; omega]
  refine rr_assign rfl rfl ?_
  refine rr_nil ?_
  refine cc_condF rfl ?_
  refine cc_skip ?_
  refine cc_seq ?_
  refine cc_region ?_
  refine rr_assign rfl rfl ?_
  refine rr_nil ?_
  refine cc_ret ?_
  exact ⟨_, rfl, entW_pu2 rfl entW_fr⟩
/-- how many segments the cache of a device of n sectors has -/
def segsN (n : Nat) : Nat := min 200 ((n - 162) / 8)
/-- an empty store behind a meta -/
def partS (m : MetaS) (turn slot : Nat) (D : DevS) : StoreS :=
  ⟨⟨⟨162, segsN D.length, [], 1, 1, true⟩, idx0⟩, ⟨⟨2, 20, [], 1, 1, true⟩, []⟩, { m with boot := m.boot + 1 }, turn + 1, 1 - slot, m.boot + 1, supW D 0 (1 - slot) (turn + 1) (metaText { m with boot := m.boot + 1 })⟩
theorem parts0_tr (d k turn slot : Nat) (m : MetaS) (D : DevS) (hl : 192 ≤ D.length) (hm : MetaS.ok { m with boot := m.boot + 1 }) (hmb : 0 ≤ m.boot) (ht : turn < 2 ^ 60) (hs : slot ≤ 1)
    (hz1 : zeroReg (partS m turn slot D).dev 2 160) (hz2 : zeroReg (partS m turn slot D).dev 162 (segsN D.length * 8)) :
    Tr Tryz.prog 60 #[ptr d, ptr k] (keeperR k d m turn slot * devR d D) (fun v => ex fun s => pu (v = .tuple #[ptr s, i64 0]) * storeR s d (partS m turn slot D)) := by
  refine tr_body Tryz.func60 (by kernel_rfl) rfl Tryz.ntmps60 rfl (L := [(0, ptr d), (1, ptr k)]) (covers_cons rfl (covers_cons rfl covers_nil)) rfl ?_
  intro F w0 f
  have hb1 := hm.b1
  simp only at hb1
  have hsg : 3 ≤ segsN D.length ∧ segsN D.length ≤ 200 ∧ 162 + segsN D.length * 8 ≤ D.length := by unfold segsN; omega
  refine CC.fact (devR d D) (fun w => devR_fact) fun hd => ?_
  have hh := hd.hi
  generalize hD : (partS m turn slot D).dev = D2 at hz1 hz2
  have hD2 : supW D 0 (1 - slot) (turn + 1) (metaText { m with boot := m.boot + 1 }) = D2 := hD
  have hDl : D2.length = D.length := by rw [← hD2]; simp
  refine cc_seq ?_
  refine cc_region ?_
  refine rr_assign rfl rfl ?_
  refine rr_assign rfl rfl ?_
  refine rr_nil ?_
  refine cc_seq ?_
  refine cc_region ?_
  refine rr_move rfl rfl ?_
  refine rr_call rfl rfl rfl rfl (mmetaR_tr k d m turn slot) inferInstance rfl (sd0 rfl) (fun _ => sd0 rfl) rfl (fun v => ?_)
  first | refine RR.pu2 ?_ | refine RR.pu ?_
  rintro rfl
  refine r_alloc rfl (sd0 rfl) (fun _ => sd0 rfl) (fun p1_2 => ?_)
  refine r_sta (cs' := metaV m) rfl rfl rfl rfl rfl (Nat.le_of_ble_eq_true rfl) (sd0 rfl) (sd0 rfl) ?_
  refine rr_nil ?_
  refine cc_seq ?_
  refine cc_region ?_
  refine r_fa rfl rfl ?_
  refine r_ld rfl (ls0 rfl) rfl rfl ?_
  refine r_add rfl rfl rfl (by omega) ?_
  refine r_fa rfl rfl ?_
  refine r_st rfl rfl rfl rfl (sd0 rfl) (sd0 rfl) ?_
  refine rr_nil ?_
  refine CC.clb p1_2 (metaV { m with boot := m.boot + 1 }) (by rfl) ?_
  refine cc_seq ?_
  refine cc_seq ?_
  refine cc_region ?_
  refine rr_move rfl rfl ?_
  refine r_lda rfl (ls0 rfl) (vs := metaV { m with boot := m.boot + 1 }) rfl rfl ?_
  refine rr_call rfl rfl rfl rfl (msave_tr k d m { m with boot := m.boot + 1 } turn slot D hm (by show m.boot ≤ m.boot + 1; omega) (Int.le_refl _) ht hs (by omega)) inferInstance rfl (sd0 rfl) (fun _ => sd0 rfl) rfl (fun v => ?_)
  rw [hD2]
  refine RR.pu2 ?_
  rintro rfl
  refine rr_assign rfl rfl ?_
  refine rr_nil ?_
  refine cc_seq ?_
  refine cc_region ?_
  refine rr_move rfl rfl ?_
  refine r_int rfl rfl rfl rfl ?_
  refine rr_nil ?_
  refine cc_condF rfl ?_
  refine cc_skip ?_
  refine cc_seq ?_
  refine cc_region ?_
  refine rr_move rfl rfl ?_
  refine rr_call rfl rfl rfl rfl (jopen0_tr d D2 (by omega) hz1) inferInstance rfl (sd0 rfl) (fun _ => sd0 rfl) rfl (fun v => ?_)
  refine RR.ex1 fun j => ?_
  refine RR.pu2 ?_
  rintro rfl
  refine rr_move rfl rfl ?_
  refine rr_extract rfl rfl rfl ?_
  refine rr_extract rfl rfl rfl ?_
  refine rr_assign rfl rfl ?_
  refine rr_assign rfl rfl ?_
  refine rr_nil ?_
  refine cc_seq ?_
  refine cc_seq ?_
  refine cc_region ?_
  refine rr_move rfl rfl ?_
  refine r_int rfl rfl rfl rfl ?_
  refine rr_nil ?_
  refine cc_condF rfl ?_
  refine cc_skip ?_
  refine cc_seq ?_
  refine cc_region ?_
  refine rr_move rfl rfl ?_
  refine rr_move rfl rfl ?_
  refine rr_call rfl rfl rfl rfl (len_tr d D2) inferInstance rfl (sd0 rfl) (fun _ => sd0 rfl) rfl (fun v => ?_)
  first | refine RR.pu2 ?_ | refine RR.pu ?_
  rintro rfl
  refine r_sub rfl rfl rfl (by omega) ?_
  refine r_quo rfl rfl rfl (by omega) ?_
  rw [show IntKind.wrap .i64 (((D2.length : Int) - 162).tdiv 8) = (((D.length - 162) / 8 : Nat) : Int) by
    rw [hDl, show (D.length : Int) - 162 = ((D.length - 162 : Nat) : Int) by omega, Int.tdiv_eq_ediv_of_nonneg (by omega), wrap_i64 (by omega)]; rfl]
  refine r_min rfl rfl rfl ?_
  rw [show (if (((D.length - 162) / 8 : Nat) : Int) < 200 then (((D.length - 162) / 8 : Nat) : Int) else 200) = ((segsN D.length : Nat) : Int) by unfold segsN; split <;> omega]
  refine rr_call rfl rfl rfl rfl (fopen0_tr d 162 (segsN D.length) D2 hsg.1 hsg.2.1 (by omega) hz2) inferInstance rfl (sd0 rfl) (fun _ => sd0 rfl) rfl (fun v => ?_)
  refine RR.ex1 fun c => ?_
  refine RR.pu2 ?_
  rintro rfl
  refine rr_move rfl rfl ?_
  refine rr_extract rfl rfl rfl ?_
  refine rr_extract rfl rfl rfl ?_
  refine rr_assign rfl rfl ?_
  refine rr_assign rfl rfl ?_
  refine rr_nil ?_
  refine cc_seq ?_
  refine cc_seq ?_
  refine cc_region ?_
  refine rr_move rfl rfl ?_
  refine r_int rfl rfl rfl rfl ?_
  refine rr_nil ?_
  refine cc_condF rfl ?_
  refine cc_skip ?_
  refine cc_seq ?_
  refine cc_region ?_
  refine rr_move rfl rfl ?_
  refine rr_move rfl rfl ?_
  refine rr_move rfl rfl ?_
  refine r_fa rfl rfl ?_
  refine r_ld rfl (ls0 rfl) rfl rfl ?_
  refine r_bld rfl rfl rfl ?_
  refine r_boxa rfl rfl (sd0 rfl) (fun _ => sd0 rfl) (fun p12_6 => ?_)
  refine rr_assign rfl rfl ?_
  refine rr_assign rfl rfl ?_
  refine rr_nil ?_
  refine cc_ret ?_
  refine ⟨_, rfl, entW_ex2 p12_6 (entW_pu2 rfl ?_)⟩
  refine entW_cls (storeR p12_6 d (partS m turn slot D)) (bl p12_6 84 [ptr c, ptr j, ptr k, i64 (m.boot + 1)] * (cacheR c d ⟨⟨162, segsN D.length, [], 1, 1, true⟩, idx0⟩ * (journalR j d ⟨⟨2, 20, [], 1, 1, true⟩, []⟩ * (keeperR k d { m with boot := m.boot + 1 } (turn + 1) (1 - slot) * devR d D2)))) (by rw [← hD2]; exact storeR_mk p12_6 d c j k (partS m turn slot D)) ?_
  exact entW_fr
end Go.Proofs.YtoiakcgdkegncaaGreat

namespace Go.Proofs.YtoiakcgdkegncaaGreat
open Go.RowKit Ice
section
theorem zr_flush {D : DevS} {a n : Nat} (h : zeroReg D a n) : zeroReg (flushD D) a n := fun i hi => by
  obtain ⟨s, h1, h2⟩ := h i hi
  exact ⟨s.flush, by simp [flushD, h1], h2⟩
theorem zr_devW {D : DevS} {a n j : Nat} {x : Txt} (h : zeroReg D a n) (hj : j < a ∨ a + n ≤ j) : zeroReg (devW D j x) a n := fun i hi => by
  obtain ⟨s, h1, h2⟩ := h i hi
  refine ⟨s, ?_, h2⟩
  unfold devW
  rw [List.getElem?_set_ne (by omega)]; exact h1
theorem zr_supW {D : DevS} {a n t s : Nat} {b : Txt} (h : zeroReg D a n) (hs : s ≤ 1) (ha : 2 ≤ a) : zeroReg (supW D 0 s t b) a n := by
  unfold supW; exact zr_flush (zr_devW h (by omega))
theorem zr_supMake {D : DevS} {a n : Nat} {b : Txt} (h : zeroReg D a n) (ha : 2 ≤ a) : zeroReg (supMake D 0 b) a n := by
  unfold supMake
  refine zr_supW (zr_flush ?_) (by omega) ha
  simp only [supZ]
  exact zr_devW (zr_devW h (by omega)) (by omega)
def blank : DevS → Nat → DevS
  | D, 0 => D
  | D, k + 1 => devW (blank D k) k (zeros 64)
@[simp] theorem blank_len (D : DevS) (k : Nat) : (blank D k).length = D.length := by induction k with
  | zero => rfl
  | succ k ih => simp [blank, ih]
theorem blank_get (D : DevS) : ∀ (k i : Nat), k ≤ i → (blank D k)[i]? = D[i]?
  | 0, _, _ => rfl
  | k + 1, i, h => by
    unfold blank devW
    rw [List.getElem?_set_ne (by omega)]
    exact blank_get D k i (by omega)
theorem blank_zero (D : DevS) (hok : DevS.ok D) : ∀ (k : Nat), k ≤ D.length → zeroReg (blank D k) 0 k
  | 0, _ => fun i hi => by omega
  | k + 1, h => fun i hi => by
    unfold blank devW
    have hl : k < (blank D k).length := by simp; omega
    rcases Nat.lt_or_ge i k with h1 | h1
    · obtain ⟨s, h2, h3⟩ := blank_zero D hok k (by omega) i h1
      exact ⟨s, by rw [List.getElem?_set_ne (by omega)]; exact h2, h3⟩
    · obtain rfl : i = k := by omega
      refine ⟨_, by rw [Nat.zero_add, List.getElem?_set_self hl], ?_⟩
      obtain ⟨s, hs⟩ := lt_get (l := D) (j := i) (by omega)
      rw [blank_get D i i (Nat.le_refl _), hs]
      have := (hok.secs s (get_mem hs)).now
      simp [Sec.write, zeros, this]
theorem zr_sub {D : DevS} {a n c m : Nat} (h : zeroReg D a n) (h1 : a ≤ c) (h2 : c + m ≤ a + n) : zeroReg D c m := fun i hi => by
  have := h (c - a + i) (by omega)
  rwa [show a + (c - a + i) = c + i by omega] at this
/-- an empty store -/
def makeS (D : DevS) : StoreS := partS meta0 1 0 (supMake (blank D D.length) 0 (metaText meta0))
attribute [local irreducible] CC RR Tr appL appD enc supW supMake metaText
theorem make_zero {D : DevS} (hok : DevS.ok D) (h : 192 ≤ D.length) : zeroReg (makeS D).dev 2 160 ∧ zeroReg (makeS D).dev 162 (segsN D.length * 8) := by
  have hsg : 162 + segsN D.length * 8 ≤ D.length := by unfold segsN; omega
  have hb := blank_zero D hok D.length (Nat.le_refl _)
  have h2 : zeroReg (makeS D).dev 2 (D.length - 2) := by
    unfold makeS partS
    exact zr_supW (zr_supMake (zr_sub hb (by omega) (by omega)) (by omega)) (by omega) (by omega)
  exact ⟨zr_sub h2 (by omega) (by omega), zr_sub h2 (by omega) (by omega)⟩
theorem smakeS_tr (d : Nat) (D : DevS) (hl : 192 ≤ D.length) : Tr Tryz.prog 25 #[ptr d] (devR d D) (fun v => ex fun s => pu (v = .tuple #[ptr s, i64 0]) * storeR s d (makeS D)) := by
  refine tr_body Tryz.func25 (by kernel_rfl) rfl Tryz.ntmps25 rfl (L := [(0, ptr d)]) (covers_cons rfl covers_nil) rfl ?_
  intro F w0 f
  refine CC.fact (devR d D) (fun w => devR_fact) fun hd => ?_
  have hh := hd.hi
  have hz := make_zero hd hl
  refine cc_seq ?_
  refine cc_region ?_
  refine rr_assign rfl rfl ?_
  refine rr_assign rfl rfl ?_
  refine rr_nil ?_
  refine cc_seq ?_
  refine cc_seq ?_
  refine cc_region ?_
  refine rr_move rfl rfl ?_
  refine rr_call rfl rfl rfl rfl (soff_tr d D hl) inferInstance rfl (sd0 rfl) (fun _ => sd0 rfl) rfl (fun v => ?_)
  first | refine RR.pu2 ?_ | refine RR.pu ?_
  rintro rfl
  refine rr_assign rfl rfl ?_
  refine rr_nil ?_
  refine cc_seq ?_
  refine cc_region ?_
  refine rr_move rfl rfl ?_
  refine r_int rfl rfl rfl rfl ?_
  refine rr_nil ?_
  refine cc_condF rfl ?_
  refine cc_skip ?_
  refine cc_seq ?_
  refine cc_seq ?_
  refine cc_region ?_
  refine rr_move rfl rfl ?_
  refine rr_call rfl rfl rfl rfl (len_tr d D) inferInstance rfl (sd0 rfl) (fun _ => sd0 rfl) rfl (fun v => ?_)
  first | refine RR.pu2 ?_ | refine RR.pu ?_
  rintro rfl
  refine rr_move rfl rfl ?_
  refine rr_nil ?_
  refine cc_block ?_
  refine cc_loopW (α := Nat) (fun j => [(16, i64 j), (15, i64 D.length), (0, ptr d)]) (fun j => pu (j ≤ D.length) * (devR d (blank D j) * F)) (fun j => D.length - j) (0) (by ((repeat' (first | exact covers_nil | (refine covers_cons ?_ ?_; focus (first | rfl | (simp [lk, lk?]; done))))) ; (first | done | fail))) (by exact entW_pu (by omega) (by simp only [blank]; exact entW_fr)) ?_
  rintro j f
  refine CC.pu fun hj => ?_
  refine cc_seq ?_
  refine cc_region ?_
  refine r_int rfl rfl rfl rfl ?_
  refine rr_nil ?_
  refine cc_seq ?_
  refine cc_cond rfl (fun h17 => ?_) (fun h17 => ?_)
  · try simp only [decide_eq_true_eq, decide_eq_false_iff_not, beq_iff_eq, beq_eq_false_iff_ne, bne_iff_ne, bne_eq_false_iff_eq, ne_eq, Bool.not_eq_eq_eq_not, Bool.not_true, Bool.not_false] at h17
    refine cc_skip ?_
    refine cc_seq ?_
    refine cc_block ?_
    refine cc_seq ?_
    refine cc_region ?_
    refine rr_move rfl rfl ?_
    refine rr_assign rfl rfl ?_
    refine rr_nil ?_
    refine cc_seq ?_
    refine cc_region ?_
    refine rr_move rfl rfl ?_
    refine rr_move rfl rfl ?_
    refine r_mks (m := 64) (c := 64) rfl rfl rfl (by omega) (by omega) (by omega) rfl (sd0 rfl) (fun _ => sd0 rfl) (fun x => ?_)
    rw [repC_zero]
    refine rr_call rfl rfl rfl rfl (writeW_tr d j (blank D j) (by simp; omega) x 0 64 64 5 (bv (zeros 64)) (zeros 64) (by simp [zeros]) (by omega) (by simp [zeros]) (by rw [List.drop_zero, List.take_of_length_le]; simp [zeros])) inferInstance rfl (sd0 rfl) (fun _ => sd0 rfl) rfl (fun v => ?_)
    first | refine RR.pu2 ?_ | refine RR.pu ?_
    rintro rfl
    refine rr_assign rfl rfl ?_
    refine rr_nil ?_
    refine cc_seq ?_
    refine cc_region ?_
    refine rr_move rfl rfl ?_
    refine r_int rfl rfl rfl rfl ?_
    refine rr_nil ?_
    refine cc_condF rfl ?_
    refine cc_skip ?_
    refine cc_region ?_
    refine r_add rfl rfl rfl (by omega) ?_
    refine rr_move rfl rfl ?_
    refine rr_nil ?_
    exact ⟨j + 1, by omega, by ((repeat' (first | exact covers_nil | (refine covers_cons ?_ ?_; focus (first | rfl | (simp [lk, lk?]; done))))) ; (first | done | fail)), entW_pu (by omega) (by simp only [blank]; exact entW_fr)⟩
  · try simp only [decide_eq_true_eq, decide_eq_false_iff_not, beq_iff_eq, beq_eq_false_iff_ne, bne_iff_ne, bne_eq_false_iff_eq, ne_eq, Bool.not_eq_eq_eq_not, Bool.not_true, Bool.not_false] at h17
    obtain rfl : j = D.length := by omega
    refine cc_exit ?_
    refine cc_seq ?_
    refine cc_region ?_
    refine rr_move rfl rfl ?_
    refine rr_call rfl rfl rfl rfl (mmake_tr d (blank D D.length) (by simp; omega)) inferInstance rfl (sd0 rfl) (fun _ => sd0 rfl) rfl (fun v => ?_)
    refine RR.ex1 fun kk => ?_
    refine RR.pu2 ?_
    rintro rfl
    refine rr_move rfl rfl ?_
    refine rr_extract rfl rfl rfl ?_
    refine rr_extract rfl rfl rfl ?_
    refine rr_assign rfl rfl ?_
    refine rr_assign rfl rfl ?_
    refine rr_nil ?_
    refine cc_seq ?_
    refine cc_seq ?_
    refine cc_region ?_
    refine rr_move rfl rfl ?_
    refine r_int rfl rfl rfl rfl ?_
    refine rr_nil ?_
    refine cc_condF rfl ?_
    refine cc_skip ?_
    refine cc_seq ?_
    refine cc_region ?_
    refine rr_move rfl rfl ?_
    refine rr_move rfl rfl ?_
    refine rr_call rfl rfl rfl rfl (parts0_tr d kk 1 0 meta0 (supMake (blank D D.length) 0 (metaText meta0)) (by simp [supMake]; omega) ⟨by decide, by decide, by decide, by decide, by decide, by decide, .inl rfl, fun h => by cases h⟩ (by decide) (by omega) (by omega) hz.1 (by have := hz.2; rwa [show (supMake (blank D D.length) 0 (metaText meta0)).length = D.length by unfold supMake; simp])) inferInstance rfl (sd0 rfl) (fun _ => sd0 rfl) rfl (fun v => ?_)
    refine RR.ex1 fun s => ?_
    refine RR.pu2 ?_
    rintro rfl
    refine rr_extract rfl rfl rfl ?_
    refine rr_extract rfl rfl rfl ?_
    refine rr_assign rfl rfl ?_
    refine rr_assign rfl rfl ?_
    refine rr_nil ?_
    refine cc_ret ?_
    exact ⟨_, rfl, entW_ex2 s (entW_pu2 rfl (by unfold makeS; exact entW_fr))⟩
def killS (S : StoreS) (ks : List Txt) : StoreS :=
  { S with jour := trimJ (addsJ (S.jour, S.dev) ks).1, cache := (dropsC (S.cache, flushD (addsJ (S.jour, S.dev) ks).2) ks).1, dev := flushD (dropsC (S.cache, flushD (addsJ (S.jour, S.dev) ks).2) ks).2 }
structure StoreOK (S : StoreS) (n k : Nat) : Prop where
  len : S.dev.length = n
  cache : CacheOK S.cache n k
  jour : JourOK S.jour n k
  mt : S.mt.ok
  turn : S.turn ≤ k
  slot : S.slot ≤ 1
theorem StoreOK.kill {S : StoreS} {n k : Nat} (h : StoreOK S n k) {ks : List Txt} (hk : ∀ key ∈ ks, keyOk key = true) : StoreOK (killS S ks) n (k + 2 * ks.length) := by
  have h1 : (addsJ (S.jour, S.dev) ks).2.length = n := (adds_len _ _).trans h.len
  refine ⟨?_, drops_ok ks (S := (S.cache, flushD (addsJ (S.jour, S.dev) ks).2)) h.cache hk, (adds_ok ks (S := (S.jour, S.dev)) h.jour hk).trim, h.mt, by have := h.turn; simp only [killS]; omega, h.slot⟩
  simp only [killS, flushD_len]
  rw [drops_len]; simpa using h1
theorem skill_tr (s d n k p c2 : Nat) (rest : List Value) (S : StoreS) (ks : List Txt) (h : StoreOK S n k) (hk : k + 2 * ks.length ≤ 2 ^ 26) (hks : ∀ key ∈ ks, keyOk key = true) (hne : 0 < ks.length) :
    Tr Tryz.prog 49 #[ptr s, .slice (some ⟨p, 0, none⟩) ks.length c2] (storeR s d S * bl p 9 (ks.map str ++ rest))
      (fun v => pu (v = .tuple #[i64 (seqJ (killS S ks).jour), i64 0]) * (storeR s d (killS S ks) * bl p 9 (ks.map str ++ rest))) := by
  refine tr_body Tryz.func49 (by kernel_rfl) rfl Tryz.ntmps49 rfl (L := [(0, ptr s), (1, .slice (some ⟨p, 0, none⟩) ks.length c2)]) (covers_cons rfl (covers_cons rfl covers_nil)) rfl ?_
  intro F w0 f
  refine CC.opn (storeR s d S) rfl fun q => ?_
  refine cc_seq ?_
  refine cc_region ?_
  refine rr_assign rfl rfl ?_
  refine rr_assign rfl rfl ?_
  refine rr_nil ?_
  refine cc_seq ?_
  refine cc_seq ?_
  refine cc_region ?_
  refine rr_move rfl rfl ?_
  refine r_pnil rfl rfl rfl ?_
  refine rr_nil ?_
  refine cc_condF rfl ?_
  refine cc_skip ?_
  refine cc_seq ?_
  refine cc_seq ?_
  refine cc_region ?_
  refine rr_move rfl rfl ?_
  refine r_lens rfl rfl ?_
  refine rr_move rfl rfl ?_
  refine rr_nil ?_
  refine cc_block ?_
  refine cc_loopW (α := Nat) (fun i => [(15, i64 i), (14, i64 ks.length), (13, .slice (some ⟨p, 0, none⟩) ks.length c2), (0, ptr s), (1, .slice (some ⟨p, 0, none⟩) ks.length c2)]) (fun i => pu (i ≤ ks.length) * (bl s 84 [ptr q.1, ptr q.2.1, ptr q.2.2, i64 S.boot] * (cacheR q.1 d S.cache * (journalR q.2.1 d S.jour * (keeperR q.2.2 d S.mt S.turn S.slot * devR d S.dev))) * bl p 9 (ks.map str ++ rest) * F)) (fun i => ks.length - i) (0) (by ((repeat' (first | exact covers_nil | (refine covers_cons ?_ ?_; focus (first | rfl | (simp [lk, lk?]; done))))) ; (first | done | fail))) (by exact entW_pu (by omega) entW_fr) ?_
  rintro i f
  refine CC.pu fun hi => ?_
  refine cc_seq ?_
  refine cc_region ?_
  refine r_int rfl rfl rfl rfl ?_
  refine rr_nil ?_
  refine cc_seq ?_
  refine cc_cond rfl (fun h16 => ?_) (fun h16 => ?_)
  · try simp only [decide_eq_true_eq, decide_eq_false_iff_not, beq_iff_eq, beq_eq_false_iff_ne, bne_iff_ne, bne_eq_false_iff_eq, ne_eq, Bool.not_eq_eq_eq_not, Bool.not_true, Bool.not_false] at h16
    obtain ⟨key, hkey⟩ := lt_get (l := ks) (j := i) (by omega)
    have hko := hks key (get_mem hkey)
    refine cc_skip ?_
    refine cc_seq ?_
    refine cc_block ?_
    refine cc_seq ?_
    refine cc_region ?_
    refine r_ix rfl rfl rfl (by omega) ?_
    refine r_ld rfl (ls0 rfl) (v := str key) (by
      rw [show 0 + (i : Int).toNat * 1 = i by omega, nth_eq, List.getElem?_append_left (by have := get_lt hkey; simp; omega)]
      simp [hkey]) rfl ?_
    refine rr_assign rfl rfl ?_
    refine rr_nil ?_
    refine cc_seq ?_
    refine cc_region ?_
    refine rr_move rfl rfl ?_
    refine rr_call rfl rfl rfl rfl (key_tr key) inferInstance rfl (sd0 rfl) (fun _ => sd0 rfl) rfl (fun v => ?_)
    first | refine RR.pu2 ?_ | refine RR.pu ?_
    rintro rfl
    refine r_not rfl rfl ?_
    refine rr_nil ?_
    refine cc_condFp rfl (by rw [hko]; rfl) ?_
    refine cc_skip ?_
    refine cc_region ?_
    refine r_add rfl rfl rfl (by omega) ?_
    refine rr_move rfl rfl ?_
    refine rr_nil ?_
    exact ⟨i + 1, by omega, by ((repeat' (first | exact covers_nil | (refine covers_cons ?_ ?_; focus (first | rfl | (simp [lk, lk?]; done))))) ; (first | done | fail)), entW_pu (by omega) entW_fr⟩
  · try simp only [decide_eq_true_eq, decide_eq_false_iff_not, beq_iff_eq, beq_eq_false_iff_ne, bne_iff_ne, bne_eq_false_iff_eq, ne_eq, Bool.not_eq_eq_eq_not, Bool.not_true, Bool.not_false] at h16
    refine cc_exit ?_
    refine cc_seq ?_
    refine cc_region ?_
    refine rr_move rfl rfl ?_
    refine rr_nilCheck rfl rfl ?_
    refine r_fa rfl rfl ?_
    refine r_ld rfl (ls0 rfl) rfl rfl ?_
    refine rr_move rfl rfl ?_
    refine rr_call rfl rfl rfl rfl (jadd_tr q.2.1 d n k p c2 rest S.jour S.dev ks h.jour hk h.len.symm hks hne) inferInstance rfl (sd0 rfl) (fun _ => sd0 rfl) rfl (fun v => ?_)
    first | refine RR.pu2 ?_ | refine RR.pu ?_
    rintro rfl
    refine rr_move rfl rfl ?_
    refine rr_extract rfl rfl rfl ?_
    refine rr_extract rfl rfl rfl ?_
    refine rr_assign rfl rfl ?_
    refine rr_assign rfl rfl ?_
    refine rr_nil ?_
    refine cc_seq ?_
    refine cc_seq ?_
    refine cc_region ?_
    refine rr_move rfl rfl ?_
    refine r_int rfl rfl rfl rfl ?_
    refine rr_nil ?_
    refine cc_condF rfl ?_
    refine cc_skip ?_
    refine cc_seq ?_
    refine cc_seq ?_
    refine cc_region ?_
    refine rr_move rfl rfl ?_
    refine rr_nilCheck rfl rfl ?_
    refine r_fa rfl rfl ?_
    refine r_ld rfl (ls0 rfl) rfl rfl ?_
    refine rr_move rfl rfl ?_
    refine rr_call rfl rfl rfl rfl (fdrop_tr q.1 d n k p c2 rest S.cache (flushD (addsJ (S.jour, S.dev) ks).2) ks h.cache (by omega) (by rw [flushD_len, adds_len]; exact h.len.symm) hks) inferInstance rfl (sd0 rfl) (fun _ => sd0 rfl) rfl (fun v => ?_)
    first | refine RR.pu2 ?_ | refine RR.pu ?_
    rintro rfl
    refine rr_assign rfl rfl ?_
    refine rr_nil ?_
    refine cc_seq ?_
    refine cc_region ?_
    refine rr_move rfl rfl ?_
    refine r_int rfl rfl rfl rfl ?_
    refine rr_nil ?_
    refine cc_condF rfl ?_
    refine cc_skip ?_
    refine cc_seq ?_
    refine cc_region ?_
    refine rr_move rfl rfl ?_
    refine rr_assign rfl rfl ?_
    refine rr_assign rfl rfl ?_
    refine rr_nil ?_
    refine cc_ret ?_
    refine ⟨_, rfl, entW_pu2 rfl ?_⟩
    exact entW_cls (storeR s d (killS S ks)) (bl s 84 [ptr q.1, ptr q.2.1, ptr q.2.2, i64 S.boot] * (cacheR q.1 d (dropsC (S.cache, flushD (addsJ (S.jour, S.dev) ks).2) ks).1 * (journalR q.2.1 d (trimJ (addsJ (S.jour, S.dev) ks).1) * (keeperR q.2.2 d S.mt S.turn S.slot * devR d (flushD (dropsC (S.cache, flushD (addsJ (S.jour, S.dev) ks).2) ks).2))))) (storeR_mk s d q.1 q.2.1 q.2.2 (killS S ks)) entW_fr
end
end Go.Proofs.YtoiakcgdkegncaaGreat

namespace Go.Proofs.YtoiakcgdkegncaaGreat
open Go.RowKit Ice
attribute [local irreducible] CC RR Tr
instance keyI64 : KeyT Tryz.prog 2 Int i64 where
  h := ⟨.int .i64, by kernel_rfl, rfl, fun a b => by simp [Instr.sameNow]⟩
  same := fun a => by simp [Instr.sameBits]
instance keyInt : KeyT Tryz.prog 3 Int i64 where
  h := ⟨.int .i64, by kernel_rfl, rfl, fun a b => by simp [Instr.sameNow]⟩
  same := fun a => by simp [Instr.sameBits]
instance tmTok : TM Tryz.prog 125 2 124 := ⟨by kernel_rfl⟩
/-- tokens: number, key, good -/
abbrev Giv := Int × Txt × Bool
structure TokS where
  last : Int
  m : List Giv
def givsR : List (Nat × Giv) → SL
  | [] => 1
  | x :: r => bl x.1 129 [str x.2.2.1, .bool x.2.2.2] * givsR r
def givM (gs : List (Nat × Giv)) : List (Int × Value) := gs.map fun x => (x.2.1, .pointer (some ⟨x.1, 0, none⟩))
def tokR (t : Nat) (T : TokS) : SL := ex fun q : Nat × List (Nat × Giv) => pu (q.2.map (·.2) = T.m) * (bl t 127 [i64 T.last, .map (some q.1)] * (mapR i64 q.1 (givM q.2) * givsR q.2))
theorem tokR_mk (t b : Nat) (gs : List (Nat × Giv)) (T : TokS) (h : gs.map (·.2) = T.m) : Ent (bl t 127 [i64 T.last, .map (some b)] * (mapR i64 b (givM gs) * givsR gs)) (tokR t T) := fun _ x => ⟨(b, gs), pu_mul.2 ⟨h, x⟩⟩
structure TokOK (T : TokS) (k : Nat) : Prop where
  l0 : 0 ≤ T.last
  l1 : T.last ≤ k
  ids : ∀ x ∈ T.m, x.1 ≤ T.last
  nd : (T.m.map (·.1)).Nodup
theorem givsR_app : ∀ (a b : List (Nat × Giv)), givsR (a ++ b) = givsR a * givsR b
  | [], b => by simp [givsR, sl_one_mul]
  | x :: a, b => by simp only [List.cons_append, givsR]; rw [givsR_app a b, sl_assoc]
theorem givsR_split {gs : List (Nat × Giv)} {j : Nat} {x : Nat × Giv} (h : gs[j]? = some x) : givsR gs = givsR (gs.take j) * (bl x.1 129 [str x.2.2.1, .bool x.2.2.2] * givsR (gs.drop (j + 1))) := by
  have : gs = gs.take j ++ x :: gs.drop (j + 1) := by rw [← drop_cons_get h, List.take_append_drop]
  conv => lhs; rw [this, givsR_app]
  rfl
theorem findI_none {a : Int} : ∀ {l : List (Int × Value)} {i : Nat}, (∀ x ∈ l, x.1 ≠ a) → findI a l i = none
  | [], _, _ => rfl
  | x :: r, i, h => by
    have := h x (by simp)
    simp only [findI]
    rw [if_neg (by simpa using fun e => this e.symm)]
    exact findI_none fun y hy => h y (by simp [hy])
theorem findI_giv {a : Int} : ∀ {gs : List (Nat × Giv)} {i : Nat}, findI a (givM gs) i = (gs.findIdx? (fun x => x.2.1 == a)).bind fun j => (gs[j]?).map fun x => (i + j, .pointer (some ⟨x.1, 0, none⟩))
  | [], i => rfl
  | x :: r, i => by
    simp only [givM, List.map_cons, findI, List.findIdx?_cons]
    by_cases e : x.2.1 = a
    · subst e; simp
    · have e2 : (a == x.2.1) = false := by simpa using fun h => e h.symm
      have e3 : (x.2.1 == a) = false := by simpa using e
      rw [e2, e3]
      simp only [Bool.false_eq_true, if_false]
      rw [show List.map (fun x : Nat × Giv => (x.2.1, Value.pointer (some ⟨x.1, 0, none⟩))) r = givM r from rfl, findI_giv]
      cases r.findIdx? (fun x => x.2.1 == a) with
      | none => rfl
      | some j =>
        simp only [Option.map_some, Option.bind_some, List.getElem?_cons_succ]
        cases r[j]? with
        | none => rfl
        | some y => simp; omega
theorem tnew_tr : Tr Tryz.prog 62 #[] 1 (fun v => ex fun t => pu (v = .pointer (some ⟨t, 0, none⟩)) * tokR t ⟨0, []⟩) := by
  refine tr_body Tryz.func62 (by kernel_rfl) rfl Tryz.ntmps62 rfl (L := []) covers_nil rfl ?_
  intro F w0 f
  rw [sl_one_mul]
  refine cc_seq ?_
  refine cc_region ?_
  refine rr_assign rfl rfl ?_
  refine rr_nil ?_
  refine cc_seq ?_
  refine cc_region ?_
  refine r_mkm i64 rfl (sd0 rfl) (fun _ => sd0 rfl) (fun b => ?_)
  refine r_bld rfl rfl rfl ?_
  refine r_boxa rfl rfl (sd0 rfl) (fun _ => sd0 rfl) (fun p1_2 => ?_)
  refine rr_assign rfl rfl ?_
  refine rr_nil ?_
  refine cc_ret ?_
  refine ⟨_, rfl, entW_ex2 p1_2 (entW_pu2 rfl ?_)⟩
  exact entW_cls (tokR p1_2 ⟨0, []⟩) (bl p1_2 127 [i64 0, .map (some b)] * mapR i64 b []) (by
    have := tokR_mk p1_2 b [] ⟨0, []⟩ rfl
    simpa [givM, givsR, sl_mul_one] using this) entW_fr
def giveT (T : TokS) (key : Txt) : TokS := ⟨T.last + 1, T.m ++ [(T.last + 1, key, true)]⟩
theorem tgive_tr (t k : Nat) (T : TokS) (key : Txt) (h : TokOK T k) (hk : k < 2 ^ 40) : Tr Tryz.prog 99 #[.pointer (some ⟨t, 0, none⟩), str key] (tokR t T) (fun v => pu (v = i64 (T.last + 1)) * tokR t (giveT T key)) := by
  refine tr_body Tryz.func99 (by kernel_rfl) rfl Tryz.ntmps99 rfl (L := [(0, .pointer (some ⟨t, 0, none⟩)), (1, str key)]) (covers_cons rfl (covers_cons rfl covers_nil)) rfl ?_
  intro F w0 f
  have h0 := h.l0
  have h1 := h.l1
  refine CC.opn (tokR t T) rfl fun q => ?_
  refine CC.pu3 fun hq => ?_
  have hfn : setM (givM q.2) (T.last + 1) = fun v => givM q.2 ++ [(T.last + 1, v)] := by
    funext v
    unfold setM
    rw [findI_none]
    intro x hx
    simp only [givM, List.mem_map] at hx
    obtain ⟨y, hy, rfl⟩ := hx
    have := h.ids y.2 (by rw [← hq]; exact List.mem_map_of_mem hy)
    simp only; omega
  refine cc_seq ?_
  refine cc_region ?_
  refine rr_assign rfl rfl ?_
  refine rr_nil ?_
  refine cc_seq ?_
  refine cc_seq ?_
  refine cc_region ?_
  refine rr_move rfl rfl ?_
  refine r_pnil rfl rfl rfl ?_
  refine rr_move rfl rfl ?_
  refine rr_guardY rfl rfl rfl ?_
  refine rr_move rfl rfl ?_
  refine rr_guardY rfl rfl rfl ?_
  refine rr_nilCheck rfl rfl ?_
  refine rr_guardY rfl rfl rfl ?_
  refine r_fa rfl rfl ?_
  refine rr_guardY rfl rfl rfl ?_
  refine r_ld rfl (ls0 rfl) rfl rfl ?_
  refine rr_guardY rfl rfl rfl ?_
  refine r_int rfl rfl rfl rfl ?_
  rw [show decide ((1099511627776 : Int) ≤ T.last) = false by simp; omega]
  first | refine rr_pick rfl rfl ?_ | refine rr_pickb rfl rfl rfl rfl ?_
  refine rr_nil ?_
  refine cc_condF rfl ?_
  refine cc_skip ?_
  refine cc_seq ?_
  refine cc_region ?_
  refine rr_move rfl rfl ?_
  refine rr_nilCheck rfl rfl ?_
  refine r_fa rfl rfl ?_
  refine r_ld rfl (ls0 rfl) rfl rfl ?_
  refine r_add rfl rfl rfl (by omega) ?_
  refine rr_nilCheck rfl rfl ?_
  refine r_fa rfl rfl ?_
  refine r_st rfl rfl rfl rfl (sd0 rfl) (sd0 rfl) ?_
  refine rr_nil ?_
  refine cc_seq ?_
  refine cc_draw (bl t 127 [i64 (T.last + 1), .map (some q.1)]) [3, 7] [10] mixed (by decide +kernel) ?_
  refine rr_move rfl rfl ?_
  refine rr_nilCheck rfl rfl ?_
  refine r_fa rfl rfl ?_
  refine r_ld rfl (ls1 rfl) rfl rfl ?_
  refine rr_move rfl rfl ?_
  refine rr_nilCheck rfl rfl ?_
  refine r_fa rfl rfl ?_
  refine r_ld rfl (ls1 rfl) rfl rfl ?_
  refine rr_move rfl rfl ?_
  refine r_bld rfl rfl rfl ?_
  refine r_boxa rfl rfl (sd1 rfl) (fun _ => sd1 rfl) (fun p4_10 => ?_)
  refine r_mupd (α := Int) (a := T.last + 1) (ml := givM q.2) rfl rfl rfl inferInstance (by first | exact sd0 rfl | exact sd1 rfl) (by first | exact sd0 rfl | exact sd1 rfl) ?_
  rw [hfn]
  refine rr_nil ?_
  refine cc_seq ?_
  refine cc_region ?_
  refine rr_move rfl rfl ?_
  refine rr_nilCheck rfl rfl ?_
  refine r_fa rfl rfl ?_
  refine r_ld rfl (ls0 rfl) rfl rfl ?_
  refine rr_assign rfl rfl ?_
  refine rr_nil ?_
  refine cc_ret ?_
  refine ⟨_, rfl, entW_pu2 rfl ?_⟩
  refine entW_cls (tokR t (giveT T key)) (bl t 127 [i64 (T.last + 1), .map (some q.1)] * (mapR i64 q.1 (givM q.2 ++ [(T.last + 1, .pointer (some ⟨p4_10, 0, none⟩))]) * (givsR q.2 * bl p4_10 129 [str key, .bool true]))) (by
    have := tokR_mk t q.1 (q.2 ++ [(p4_10, (T.last + 1, key, true))]) (giveT T key) (by simp [hq, giveT])
    simpa [givM, givsR_app, givsR, sl_mul_one, giveT] using this) ?_
  exact entW_fr
def useT (T : TokS) (id : Int) : Option (Txt × Bool) × TokS := match T.m.findIdx? (fun x => x.1 == id) with
  | some i => (T.m[i]?.map (·.2), { T with m := T.m.eraseIdx i })
  | none => (none, T)
theorem tuse_tr (t : Nat) (T : TokS) (id : Int) : Tr Tryz.prog 21 #[.pointer (some ⟨t, 0, none⟩), i64 id] (tokR t T) (fun v => pu (v = .tuple #[str ((useT T id).1.getD ([], false)).1, .bool ((useT T id).1.getD ([], false)).2]) * tokR t (useT T id).2) := by
  refine tr_body Tryz.func21 (by kernel_rfl) rfl Tryz.ntmps21 rfl (L := [(0, .pointer (some ⟨t, 0, none⟩)), (1, i64 id)]) (covers_cons rfl (covers_cons rfl covers_nil)) rfl ?_
  intro F w0 f
  refine CC.opn (tokR t T) rfl fun q => ?_
  refine CC.pu3 fun hq => ?_
  refine CC.opn (mapR i64 q.1 (givM q.2)) rfl fun e => ?_
  refine CC.pu3 fun he => ?_
  have hz : spv Tryz.prog (zeroValue 124) = some (.pointer none) := by kernel_rfl
  have hfi : T.m.findIdx? (fun x => x.1 == id) = q.2.findIdx? (fun x => x.2.1 == id) := by rw [← hq, List.findIdx?_map]; rfl
  cases hf : q.2.findIdx? (fun x => x.2.1 == id) with
  | none =>
    have hg : findI id (givM q.2) 0 = none := by rw [findI_giv, hf]; rfl
    have hu : useT T id = (none, T) := by simp only [useT, hfi, hf]
    refine cc_seq ?_
    refine cc_region ?_
    refine rr_assign rfl rfl ?_
    refine rr_assign rfl rfl ?_
    refine rr_nil ?_
    refine cc_seq ?_
    refine cc_seq ?_
    refine cc_region ?_
    refine rr_move rfl rfl ?_
    refine r_pnil rfl rfl rfl ?_
    refine rr_move rfl rfl ?_
    refine rr_guardY rfl rfl rfl ?_
    refine rr_move rfl rfl ?_
    refine rr_guardY rfl rfl rfl ?_
    refine rr_nilCheck rfl rfl ?_
    refine rr_guardY rfl rfl rfl ?_
    refine r_fa rfl rfl ?_
    refine rr_guardY rfl rfl rfl ?_
    refine r_ld rfl (ls0 rfl) rfl rfl ?_
    refine rr_guardY rfl rfl rfl ?_
    refine rr_move rfl rfl ?_
    refine rr_guardY rfl rfl rfl ?_
    refine r_lookup (α := Int) (a := id) (z := .pointer none) rfl rfl hz he (ls0 rfl) rfl ?_
    rw [show getM (givM q.2) id = none by simp [getM, hg], show lookV false (.pointer none) none = .pointer none from rfl]
    refine rr_guardY rfl rfl rfl ?_
    refine r_pnil rfl rfl rfl ?_
    first | refine rr_pick rfl rfl ?_ | refine rr_pickb rfl rfl rfl rfl ?_
    refine rr_nil ?_
    refine cc_condT rfl ?_
    refine cc_seq ?_
    refine cc_region ?_
    refine rr_assign rfl rfl ?_
    refine rr_assign rfl rfl ?_
    refine rr_nil ?_
    refine cc_ret ?_
    refine ⟨_, rfl, entW_pu2 (by rw [hu]; rfl) ?_⟩
    rw [hu]
    refine entW_cls (mapR i64 q.1 (givM q.2)) (pt q.1 (.map e.1.toArray e.2)) (fun _ x => ⟨e, pu_mul.2 ⟨he, x⟩⟩) ?_
    exact entW_cls (tokR t T) (bl t 127 [i64 T.last, .map (some q.1)] * (mapR i64 q.1 (givM q.2) * givsR q.2)) (tokR_mk t q.1 q.2 T hq) entW_fr
  | some i =>
    have hil : i < q.2.length := (List.findIdx?_eq_some_iff_getElem.1 hf).1
    obtain ⟨x, hx⟩ := lt_get (l := q.2) (j := i) hil
    have hg : findI id (givM q.2) 0 = some (i, .pointer (some ⟨x.1, 0, none⟩)) := by rw [findI_giv, hf]; simp [hx]
    have hTi : T.m[i]? = some x.2 := by rw [← hq]; simp [hx]
    have hu : useT T id = (some x.2.2, { T with m := T.m.eraseIdx i }) := by simp only [useT, hfi, hf, hTi]; rfl
    have hdl : delM (givM q.2) id = givM (q.2.eraseIdx i) := by simp only [delM, hg]; simp only [givM, erase_map]
    have hsp := givsR_split hx
    have her : q.2.eraseIdx i = q.2.take i ++ q.2.drop (i + 1) := List.eraseIdx_eq_take_drop_succ _ _
    refine cc_seq ?_
    refine cc_region ?_
    refine rr_assign rfl rfl ?_
    refine rr_assign rfl rfl ?_
    refine rr_nil ?_
    refine cc_seq ?_
    refine cc_seq ?_
    refine cc_region ?_
    refine rr_move rfl rfl ?_
    refine r_pnil rfl rfl rfl ?_
    refine rr_move rfl rfl ?_
    refine rr_guardY rfl rfl rfl ?_
    refine rr_move rfl rfl ?_
    refine rr_guardY rfl rfl rfl ?_
    refine rr_nilCheck rfl rfl ?_
    refine rr_guardY rfl rfl rfl ?_
    refine r_fa rfl rfl ?_
    refine rr_guardY rfl rfl rfl ?_
    refine r_ld rfl (ls0 rfl) rfl rfl ?_
    refine rr_guardY rfl rfl rfl ?_
    refine rr_move rfl rfl ?_
    refine rr_guardY rfl rfl rfl ?_
    refine r_lookup (α := Int) (a := id) (z := .pointer none) rfl rfl hz he (ls0 rfl) rfl ?_
    rw [show getM (givM q.2) id = some (.pointer (some ⟨x.1, 0, none⟩)) by simp [getM, hg], show lookV false (.pointer none) (some (.pointer (some ⟨x.1, 0, none⟩))) = .pointer (some ⟨x.1, 0, none⟩) from rfl]
    refine rr_guardY rfl rfl rfl ?_
    refine r_pnil rfl rfl rfl ?_
    first | refine rr_pick rfl rfl ?_ | refine rr_pickb rfl rfl rfl rfl ?_
    refine rr_nil ?_
    refine cc_condF rfl ?_
    refine cc_skip ?_
    refine cc_seq ?_
    refine cc_region ?_
    refine rr_move rfl rfl ?_
    refine rr_nilCheck rfl rfl ?_
    refine r_fa rfl rfl ?_
    refine r_ld rfl (ls0 rfl) rfl rfl ?_
    refine rr_move rfl rfl ?_
    refine r_lookup (α := Int) (a := id) (z := .pointer none) rfl rfl hz he (ls0 rfl) rfl ?_
    rw [show getM (givM q.2) id = some (.pointer (some ⟨x.1, 0, none⟩)) by simp [getM, hg], show lookV false (.pointer none) (some (.pointer (some ⟨x.1, 0, none⟩))) = .pointer (some ⟨x.1, 0, none⟩) from rfl]
    refine rr_assign rfl rfl ?_
    refine rr_nil ?_
    refine cc_seq ?_
    refine CC.cls (mapR i64 q.1 (givM q.2)) (pt q.1 (.map e.1.toArray e.2)) (fun _ x => ⟨e, pu_mul.2 ⟨he, x⟩⟩) ?_
    refine cc_region ?_
    refine rr_move rfl rfl ?_
    refine rr_nilCheck rfl rfl ?_
    refine r_fa rfl rfl ?_
    refine r_ld rfl (ls0 rfl) rfl rfl ?_
    refine rr_move rfl rfl ?_
    refine r_mdel (α := Int) (a := id) (ml := givM q.2) rfl rfl inferInstance rfl (sd0 rfl) (sd0 rfl) ?_
    rw [hdl]
    refine rr_nil ?_
    refine cc_seq ?_
    refine CC.cl (X := givsR q.2) (Ent.of_eq hsp) ?_
    refine cc_draw (1) [] [] mixed (by decide +kernel) ?_
    refine rr_move rfl rfl ?_
    refine rr_nilCheck rfl rfl ?_
    refine r_fa rfl rfl ?_
    refine r_ld rfl (ls0 rfl) rfl rfl ?_
    refine rr_move rfl rfl ?_
    refine rr_nilCheck rfl rfl ?_
    refine r_fa rfl rfl ?_
    refine r_ld rfl (ls0 rfl) rfl rfl ?_
    refine rr_assign rfl rfl ?_
    refine rr_assign rfl rfl ?_
    refine rr_nil ?_
    refine cc_ret ?_
    refine ⟨_, rfl, entW_pu2 (by rw [hu]; rfl) ?_⟩
    rw [hu]
    refine entW_cls (givsR (q.2.eraseIdx i)) (givsR (q.2.take i) * givsR (q.2.drop (i + 1))) (Ent.of_eq (by rw [her, givsR_app])) ?_
    exact entW_cls (tokR t { T with m := T.m.eraseIdx i }) (bl t 127 [i64 T.last, .map (some q.1)] * (mapR i64 q.1 (givM (q.2.eraseIdx i)) * givsR (q.2.eraseIdx i))) (tokR_mk t q.1 _ { T with m := T.m.eraseIdx i } (by rw [erase_map, hq])) entW_fr
def killM (which : Txt → Bool) (x : Giv) : Giv := (x.1, x.2.1, x.2.2 && !which x.2.1)
def killT (T : TokS) (which : Txt → Bool) : TokS := { T with m := T.m.map (killM which) }
theorem TokOK.kill {T : TokS} {k : Nat} (h : TokOK T k) (which : Txt → Bool) : TokOK (killT T which) k := by
  refine ⟨h.l0, h.l1, ?_, ?_⟩
  · intro x hx
    obtain ⟨y, hy, rfl⟩ := List.mem_map.1 hx
    exact h.ids y hy
  · simp only [killT, List.map_map]
    exact h.nd
/-- those that were told are killed -/
def killV (which : Txt → Bool) (gs : List (Nat × Giv)) (vs : List Nat) : List (Nat × Giv) := gs.mapIdx fun i x => if vs.contains i then (x.1, killM which x.2) else x
theorem nodup_le : ∀ (n : Nat) {vs : List Nat}, vs.Nodup → (∀ i ∈ vs, i < n) → vs.length ≤ n
  | 0, vs, _, h => by
    cases vs with
    | nil => simp
    | cons a r => exact absurd (h a (by simp)) (by omega)
  | n + 1, vs, hn, h => by
    have := nodup_le n (hn.erase n) (fun i hi => by
      have h1 := (hn.mem_erase_iff).1 hi
      have := h i h1.2; omega)
    by_cases hm : n ∈ vs
    · rw [List.length_erase_of_mem hm] at this; omega
    · rw [List.erase_of_not_mem hm] at this; omega
theorem nodup_snoc {vs : List Nat} {i : Nat} (h : vs.Nodup) (hi : i ∉ vs) : (vs ++ [i]).Nodup := by
  rw [List.nodup_append]
  exact ⟨h, by simp, fun a ha b hb => by simp at hb; subst hb; intro e; subst e; exact hi ha⟩
theorem drop_set_get {α : Type} {l : List α} {i : Nat} {x y : α} (h : l[i]? = some x) : l.set i y = l.take i ++ (y :: l.drop (i + 1)) := by
  rw [List.set_eq_take_append_cons_drop, if_pos (get_lt h)]
theorem killV_get (which : Txt → Bool) (gs : List (Nat × Giv)) (vs : List Nat) (i : Nat) : (killV which gs vs)[i]? = (gs[i]?).map fun x => if vs.contains i then (x.1, killM which x.2) else x := by
  simp [killV, List.getElem?_mapIdx]
theorem killV_M (which : Txt → Bool) (gs : List (Nat × Giv)) (vs : List Nat) : givM (killV which gs vs) = givM gs := by
  refine List.ext_getElem? fun i => ?_
  simp only [givM, List.getElem?_map, killV_get]
  cases gs[i]? with
  | none => rfl
  | some x => simp only [Option.map_some]; split <;> rfl
theorem tkill_tr (t fn k : Nat) (caps : List Value) (T : TokS) (X : SL) (which : Txt → Bool) (h : TokOK T k) (hl : T.m.length ≤ 2 ^ 40)
    (hw : ∀ x ∈ T.m, Tr Tryz.prog fn (str x.2.1 :: caps).toArray X (fun v => pu (v = .bool (which x.2.1)) * X)) :
    Tr Tryz.prog 93 #[.pointer (some ⟨t, 0, none⟩), .func (.func fn) #[] caps.toArray] (tokR t T * X) (fun v => ex fun c : Int => pu (v = i64 c) * (tokR t (killT T which) * X)) := by
  refine tr_body Tryz.func93 (by kernel_rfl) rfl Tryz.ntmps93 rfl (L := [(0, .pointer (some ⟨t, 0, none⟩)), (1, .func (.func fn) #[] caps.toArray)]) (covers_cons rfl (covers_cons rfl covers_nil)) rfl ?_
  intro F w0 f
  refine CC.opn (tokR t T) rfl fun q => ?_
  refine CC.pu3 fun hq => ?_
  refine CC.opn (mapR i64 q.1 (givM q.2)) rfl fun e => ?_
  refine CC.pu3 fun he => ?_
  have hql : q.2.length = T.m.length := by rw [← hq]; simp
  have hel : e.1.length = q.2.length := by rw [he.len]; simp [givM]
  refine cc_seq ?_
  refine cc_region ?_
  refine rr_assign rfl rfl ?_
  refine rr_nil ?_
  refine cc_seq ?_
  refine cc_seq ?_
  refine cc_region ?_
  refine rr_move rfl rfl ?_
  refine r_pnil rfl rfl rfl ?_
  refine rr_nil ?_
  refine cc_condF rfl ?_
  refine cc_skip ?_
  refine cc_seq ?_
  refine cc_region ?_
  refine rr_assign rfl rfl ?_
  refine rr_nil ?_
  refine cc_seq ?_
  refine cc_seq ?_
  refine cc_region ?_
  refine rr_move rfl rfl ?_
  refine rr_nilCheck rfl rfl ?_
  refine r_fa rfl rfl ?_
  refine r_ld rfl (ls0 rfl) rfl rfl ?_
  refine r_range rfl rfl (sd0 rfl) (fun _ => sd0 rfl) (fun it => ?_)
  refine rr_nil ?_
  refine cc_block ?_
  refine cc_loopW (α := (List Nat × Int)) (fun ⟨vs, c⟩ => [(14, .pointer (some ⟨it, 0, none⟩)), (1, .func (.func fn) #[] caps.toArray), (5, i64 c)]) (fun ⟨vs, c⟩ => pu (vs.Nodup ∧ (∀ i ∈ vs, i < e.1.length) ∧ 0 ≤ c ∧ c ≤ vs.length) * (itR it q.1 e.1 e.2 vs * (bl t 127 [i64 T.last, .map (some q.1)] * (pt q.1 (.map e.1.toArray e.2) * (givsR (killV which q.2 vs) * (X * F)))))) (fun ⟨vs, c⟩ => e.1.length - vs.length) (([], 0)) (by ((repeat' (first | exact covers_nil | (refine covers_cons ?_ ?_; focus (first | rfl | (simp [lk, lk?]; done))))) ; (first | done | fail))) (by exact entW_pu ⟨by simp, by simp, by simp, by simp⟩ (by
    rw [show killV which q.2 [] = q.2 by refine List.ext_getElem? fun i => ?_; rw [killV_get]; cases q.2[i]? <;> simp]
    exact entW_fr)) ?_
  rintro ⟨vs, c⟩ f
  refine CC.pu fun hh => ?_
  obtain ⟨hnd, hvl, hc0, hc1⟩ := hh
  refine cc_seq ?_
  refine cc_region ?_
  refine r_nextD (m := q.1) (es := e.1) (clock := e.2) (vs := vs) rfl inferInstance he.2.1 he.2.2 hvl rfl (sd0 rfl) (fun _ => sd0 rfl) (fun ok tl vs' hok => ?_)
  refine rr_extract rfl rfl rfl ?_
  refine rr_nil ?_
  refine cc_seq ?_
  refine cc_cond rfl (fun h16 => ?_) (fun h16 => ?_)
  · try simp only [decide_eq_true_eq, decide_eq_false_iff_not, beq_iff_eq, beq_eq_false_iff_ne, bne_iff_ne, bne_eq_false_iff_eq, ne_eq, Bool.not_eq_eq_eq_not, Bool.not_true, Bool.not_false] at h16
    obtain ⟨i, en, hen, hni, rfl⟩ : ∃ i en, e.1[i]? = some en ∧ i ∉ vs ∧ vs' = vs ++ [i] := by
      rcases hok with ⟨h1, _⟩ | ⟨_, h2⟩
      · rw [h1] at h16; simp at h16
      · exact h2
    obtain ⟨y, hy, hek, hev⟩ := he.get hen
    obtain ⟨x, hx, rfl⟩ : ∃ x, q.2[i]? = some x ∧ (x.2.1, Value.pointer (some ⟨x.1, 0, none⟩)) = y := by
      simp only [givM, List.getElem?_map] at hy
      cases hqx : q.2[i]? with
      | none => rw [hqx] at hy; simp at hy
      | some x => rw [hqx] at hy; simp only [Option.map_some, Option.some.injEq] at hy; exact ⟨x, rfl, hy⟩
    have hxv : (killV which q.2 vs)[i]? = some x := by rw [killV_get, hx]; simp [hni]
    have hsp := givsR_split hxv
    have hxm : x.2 ∈ T.m := by rw [← hq]; exact List.mem_map_of_mem (get_mem hx)
    have hil := get_lt hen
    have hnd2 := nodup_snoc hnd hni
    have hvl2 : ∀ j ∈ vs ++ [i], j < e.1.length := fun j hj => by
      rcases List.mem_append.1 hj with hj | hj
      · exact hvl j hj
      · simp at hj; omega
    have hle2 := nodup_le e.1.length hnd2 hvl2
    have hle3 : (vs ++ [i]).length = vs.length + 1 := by simp
    have hnx : killV which q.2 (vs ++ [i]) = (killV which q.2 vs).take i ++ ((x.1, killM which x.2) :: (killV which q.2 vs).drop (i + 1)) := by
      rw [← drop_set_get hxv]
      refine List.ext_getElem? fun j => ?_
      rw [killV_get, List.getElem?_set]
      by_cases e : i = j
      · subst e
        rw [if_pos rfl, if_pos (get_lt hxv), hx]
        simp
      · rw [if_neg e, killV_get]
        cases q.2[j]? with
        | none => rfl
        | some z => simp [Ne.symm e, fun h : j = i => e h.symm]
    refine cc_skip ?_
    refine cc_block ?_
    refine cc_seq ?_
    refine cc_region ?_
    refine r_entry (m := q.1) (es := e.1) (clock := e.2) (vs := vs) rfl inferInstance he.2.1 hen rfl (sd0 rfl) ?_
    rw [hev]
    refine rr_extract rfl rfl rfl ?_
    refine rr_assign rfl rfl ?_
    refine rr_nil ?_
    refine CC.cl (X := givsR (killV which q.2 vs)) (Ent.of_eq hsp) ?_
    refine cc_seq ?_
    refine cc_region ?_
    refine rr_move rfl rfl ?_
    refine rr_nilCheck rfl rfl ?_
    refine r_fa rfl rfl ?_
    refine r_ld rfl (ls0 rfl) rfl rfl ?_
    refine rr_move rfl rfl ?_
    refine rr_guard rfl rfl rfl (fun hg7_4 => ?_) (fun hg7_4 => ?_)
    · refine rr_move rfl rfl ?_
      refine rr_guardY rfl rfl rfl ?_
      refine rr_move rfl rfl ?_
      refine rr_guardY rfl rfl rfl ?_
      refine rr_nilCheck rfl rfl ?_
      refine rr_guardY rfl rfl rfl ?_
      refine r_fa rfl rfl ?_
      refine rr_guardY rfl rfl rfl ?_
      refine r_ld rfl (ls0 rfl) rfl rfl ?_
      refine rr_guardY rfl rfl rfl ?_
      refine rr_call rfl rfl rfl rfl (hw x.2 hxm) inferInstance rfl (sd0 rfl) (fun _ => sd0 rfl) rfl (fun v => ?_)
      first | refine RR.pu2 ?_ | refine RR.pu ?_
      rintro rfl
      first | refine rr_pick rfl rfl ?_ | refine rr_pickb rfl rfl rfl rfl ?_
      refine rr_nil ?_
      refine cc_cond rfl (fun h30 => ?_) (fun h30 => ?_)
      · try simp only [decide_eq_true_eq, decide_eq_false_iff_not, beq_iff_eq, beq_eq_false_iff_ne, bne_iff_ne, bne_eq_false_iff_eq, ne_eq, Bool.not_eq_eq_eq_not, Bool.not_true, Bool.not_false] at h30
        refine cc_seq ?_
        refine cc_region ?_
        refine rr_move rfl rfl ?_
        refine rr_nilCheck rfl rfl ?_
        refine r_fa rfl rfl ?_
        refine r_st rfl rfl rfl rfl (sd0 rfl) (sd0 rfl) ?_
        refine rr_nil ?_
        refine cc_region ?_
        refine rr_move rfl rfl ?_
        refine r_add rfl rfl rfl (by omega) ?_
        refine rr_assign rfl rfl ?_
        refine rr_nil ?_
        have hk2 : givsR (killV which q.2 (vs ++ [i])) = givsR ((killV which q.2 vs).take i) * (bl x.1 129 [str x.2.2.1, .bool (x.2.2.2 && !which x.2.2.1)] * givsR ((killV which q.2 vs).drop (i + 1))) := by rw [hnx, givsR_app]; rfl
        first
          | exact ⟨(vs ++ [i], c + 1), (by show e.1.length - (vs ++ [i]).length < e.1.length - vs.length; omega), by ((repeat' (first | exact covers_nil | (refine covers_cons ?_ ?_; focus (first | rfl | (simp [lk, lk?]; done))))) ; (first | done | fail)), entW_pu ⟨hnd2, hvl2, by omega, by omega⟩ (by rw [hk2, show (x.2.2.2 && !which x.2.2.1) = false by grind]; exact entW_fr)⟩
          | exact ⟨(vs ++ [i], c), (by show e.1.length - (vs ++ [i]).length < e.1.length - vs.length; omega), by ((repeat' (first | exact covers_nil | (refine covers_cons ?_ ?_; focus (first | rfl | (simp [lk, lk?]; done))))) ; (first | done | fail)), entW_pu ⟨hnd2, hvl2, by omega, by omega⟩ (by rw [hk2, show (x.2.2.2 && !which x.2.2.1) = x.2.2.2 by grind]; exact entW_fr)⟩
          | (exfalso; grind)
      · try simp only [decide_eq_true_eq, decide_eq_false_iff_not, beq_iff_eq, beq_eq_false_iff_ne, bne_iff_ne, bne_eq_false_iff_eq, ne_eq, Bool.not_eq_eq_eq_not, Bool.not_true, Bool.not_false] at h30
        refine cc_skip ?_
        have hk2 : givsR (killV which q.2 (vs ++ [i])) = givsR ((killV which q.2 vs).take i) * (bl x.1 129 [str x.2.2.1, .bool (x.2.2.2 && !which x.2.2.1)] * givsR ((killV which q.2 vs).drop (i + 1))) := by rw [hnx, givsR_app]; rfl
        first
          | exact ⟨(vs ++ [i], c + 1), (by show e.1.length - (vs ++ [i]).length < e.1.length - vs.length; omega), by ((repeat' (first | exact covers_nil | (refine covers_cons ?_ ?_; focus (first | rfl | (simp [lk, lk?]; done))))) ; (first | done | fail)), entW_pu ⟨hnd2, hvl2, by omega, by omega⟩ (by rw [hk2, show (x.2.2.2 && !which x.2.2.1) = false by grind]; exact entW_fr)⟩
          | exact ⟨(vs ++ [i], c), (by show e.1.length - (vs ++ [i]).length < e.1.length - vs.length; omega), by ((repeat' (first | exact covers_nil | (refine covers_cons ?_ ?_; focus (first | rfl | (simp [lk, lk?]; done))))) ; (first | done | fail)), entW_pu ⟨hnd2, hvl2, by omega, by omega⟩ (by rw [hk2, show (x.2.2.2 && !which x.2.2.1) = x.2.2.2 by grind]; exact entW_fr)⟩
          | (exfalso; grind)
    · refine rr_guardN rfl rfl rfl rfl ?_
      refine rr_guardN rfl rfl rfl rfl ?_
      refine rr_guardN rfl rfl rfl rfl ?_
      refine rr_guardN rfl rfl rfl rfl ?_
      refine rr_guardN rfl rfl rfl rfl ?_
      first | refine rr_pick rfl rfl ?_ | refine rr_pickb rfl rfl rfl rfl ?_
      refine rr_nil ?_
      refine cc_cond rfl (fun h30 => ?_) (fun h30 => ?_)
      · try simp only [decide_eq_true_eq, decide_eq_false_iff_not, beq_iff_eq, beq_eq_false_iff_ne, bne_iff_ne, bne_eq_false_iff_eq, ne_eq, Bool.not_eq_eq_eq_not, Bool.not_true, Bool.not_false] at h30
        refine cc_seq ?_
        refine cc_region ?_
        refine rr_move rfl rfl ?_
        refine rr_nilCheck rfl rfl ?_
        refine r_fa rfl rfl ?_
        refine r_st rfl rfl rfl rfl (sd0 rfl) (sd0 rfl) ?_
        refine rr_nil ?_
        refine cc_region ?_
        refine rr_move rfl rfl ?_
        refine r_add rfl rfl rfl (by omega) ?_
        refine rr_assign rfl rfl ?_
        refine rr_nil ?_
        have hk2 : givsR (killV which q.2 (vs ++ [i])) = givsR ((killV which q.2 vs).take i) * (bl x.1 129 [str x.2.2.1, .bool (x.2.2.2 && !which x.2.2.1)] * givsR ((killV which q.2 vs).drop (i + 1))) := by rw [hnx, givsR_app]; rfl
        first
          | exact ⟨(vs ++ [i], c + 1), (by show e.1.length - (vs ++ [i]).length < e.1.length - vs.length; omega), by ((repeat' (first | exact covers_nil | (refine covers_cons ?_ ?_; focus (first | rfl | (simp [lk, lk?]; done))))) ; (first | done | fail)), entW_pu ⟨hnd2, hvl2, by omega, by omega⟩ (by rw [hk2, show (x.2.2.2 && !which x.2.2.1) = false by grind]; exact entW_fr)⟩
          | exact ⟨(vs ++ [i], c), (by show e.1.length - (vs ++ [i]).length < e.1.length - vs.length; omega), by ((repeat' (first | exact covers_nil | (refine covers_cons ?_ ?_; focus (first | rfl | (simp [lk, lk?]; done))))) ; (first | done | fail)), entW_pu ⟨hnd2, hvl2, by omega, by omega⟩ (by rw [hk2, show (x.2.2.2 && !which x.2.2.1) = x.2.2.2 by grind]; exact entW_fr)⟩
          | (exfalso; grind)
      · try simp only [decide_eq_true_eq, decide_eq_false_iff_not, beq_iff_eq, beq_eq_false_iff_ne, bne_iff_ne, bne_eq_false_iff_eq, ne_eq, Bool.not_eq_eq_eq_not, Bool.not_true, Bool.not_false] at h30
        refine cc_skip ?_
        have hk2 : givsR (killV which q.2 (vs ++ [i])) = givsR ((killV which q.2 vs).take i) * (bl x.1 129 [str x.2.2.1, .bool (x.2.2.2 && !which x.2.2.1)] * givsR ((killV which q.2 vs).drop (i + 1))) := by rw [hnx, givsR_app]; rfl
        first
          | exact ⟨(vs ++ [i], c + 1), (by show e.1.length - (vs ++ [i]).length < e.1.length - vs.length; omega), by ((repeat' (first | exact covers_nil | (refine covers_cons ?_ ?_; focus (first | rfl | (simp [lk, lk?]; done))))) ; (first | done | fail)), entW_pu ⟨hnd2, hvl2, by omega, by omega⟩ (by rw [hk2, show (x.2.2.2 && !which x.2.2.1) = false by grind]; exact entW_fr)⟩
          | exact ⟨(vs ++ [i], c), (by show e.1.length - (vs ++ [i]).length < e.1.length - vs.length; omega), by ((repeat' (first | exact covers_nil | (refine covers_cons ?_ ?_; focus (first | rfl | (simp [lk, lk?]; done))))) ; (first | done | fail)), entW_pu ⟨hnd2, hvl2, by omega, by omega⟩ (by rw [hk2, show (x.2.2.2 && !which x.2.2.1) = x.2.2.2 by grind]; exact entW_fr)⟩
          | (exfalso; grind)
  · try simp only [decide_eq_true_eq, decide_eq_false_iff_not, beq_iff_eq, beq_eq_false_iff_ne, bne_iff_ne, bne_eq_false_iff_eq, ne_eq, Bool.not_eq_eq_eq_not, Bool.not_true, Bool.not_false] at h16
    obtain ⟨rfl, hall⟩ : vs' = vs ∧ ∀ i, i < e.1.length → i ∈ vs := by
      rcases hok with ⟨_, h2, h3⟩ | ⟨h1, _⟩
      · exact ⟨h2, h3⟩
      · rw [h1] at h16; simp at h16
    have hfin : (killV which q.2 vs').map (·.2) = (killT T which).m := by
      refine List.ext_getElem? fun i => ?_
      rw [List.getElem?_map, killV_get]
      simp only [killT, ← hq, List.getElem?_map]
      cases hx : q.2[i]? with
      | none => rfl
      | some x =>
        have hi := hall i (by have := get_lt hx; omega)
        simp [hi]
    refine cc_exit ?_
    refine cc_seq ?_
    refine cc_region ?_
    refine rr_move rfl rfl ?_
    refine rr_assign rfl rfl ?_
    refine rr_nil ?_
    refine cc_ret ?_
    refine ⟨_, rfl, entW_ex2 c (entW_pu2 rfl ?_)⟩
    refine entW_cls (mapR i64 q.1 (givM (killV which q.2 vs'))) (pt q.1 (.map e.1.toArray e.2)) (fun _ x => ⟨e, pu_mul.2 ⟨by rw [killV_M]; exact he, x⟩⟩) ?_
    exact entW_cls (tokR t (killT T which)) (bl t 127 [i64 T.last, .map (some q.1)] * (mapR i64 q.1 (givM (killV which q.2 vs')) * givsR (killV which q.2 vs'))) (tokR_mk t q.1 _ (killT T which) hfin) entW_fr
theorem indexS_tr (b cap : Nat) (rest : List Value) (ks : List Txt) (key : Txt) (hl : ks.length ≤ 2 ^ 20) : Tr Tryz.prog 136 #[.slice (some ⟨b, 0, none⟩) ks.length cap, str key] (bl b 9 (ks.map str ++ rest))
    (fun v => pu (v = i64 (idxI (ks.findIdx? (fun x => key == x)))) * bl b 9 (ks.map str ++ rest)) := by
  refine tr_body Tryz.func136 (by kernel_rfl) rfl Tryz.ntmps136 rfl (L := [(0, .slice (some ⟨b, 0, none⟩) ks.length cap), (1, str key)]) (covers_cons rfl (covers_cons rfl covers_nil)) rfl ?_
  intro F w0 f
  refine cc_seq ?_
  refine cc_region ?_
  refine rr_assign rfl rfl ?_
  refine rr_nil ?_
  refine cc_seq ?_
  refine cc_seq ?_
  refine cc_region ?_
  refine rr_move rfl rfl ?_
  refine r_lens rfl rfl ?_
  refine rr_move rfl rfl ?_
  refine rr_nil ?_
  refine cc_block ?_
  refine cc_loopW (α := Nat) (fun j => [(8, i64 j), (7, i64 ks.length), (0, .slice (some ⟨b, 0, none⟩) ks.length cap), (1, str key)]) (fun j => pu (j ≤ ks.length ∧ ∀ (i : Nat) (x : Txt), i < j → ks[i]? = some x → (key == x) = false) * (bl b 9 (ks.map str ++ rest) * F)) (fun j => ks.length - j) (0) (by ((repeat' (first | exact covers_nil | (refine covers_cons ?_ ?_; focus (first | rfl | (simp [lk, lk?]; done))))) ; (first | done | fail))) (by exact entW_pu ⟨by omega, fun i x hi => by omega⟩ entW_fr) ?_
  rintro j f
  refine CC.pu fun hj => ?_
  refine cc_seq ?_
  refine cc_region ?_
  refine r_int rfl rfl rfl rfl ?_
  refine rr_nil ?_
  refine cc_seq ?_
  refine cc_cond rfl (fun h9 => ?_) (fun h9 => ?_)
  · try simp only [decide_eq_true_eq, decide_eq_false_iff_not, beq_iff_eq, beq_eq_false_iff_ne, bne_iff_ne, bne_eq_false_iff_eq, ne_eq, Bool.not_eq_eq_eq_not, Bool.not_true, Bool.not_false] at h9
    obtain ⟨x, hx⟩ := lt_get (l := ks) (j := j) (by omega)
    refine cc_skip ?_
    refine cc_seq ?_
    refine cc_block ?_
    refine cc_seq ?_
    refine cc_region ?_
    refine rr_move rfl rfl ?_
    refine rr_assign rfl rfl ?_
    refine rr_nil ?_
    refine cc_seq ?_
    refine cc_region ?_
    refine rr_move rfl rfl ?_
    refine rr_move rfl rfl ?_
    refine rr_move rfl rfl ?_
    refine r_ix rfl rfl rfl (by omega) ?_
    refine r_ld rfl (ls0 rfl) (v := str x) (by
      rw [show 0 + (j : Int).toNat * 1 = j by omega, nth_eq, List.getElem?_append_left (by simp; omega)]; simp [hx]) rfl ?_
    first | refine r_strx rfl rfl rfl rfl ?_ | refine r_str rfl rfl rfl rfl ?_
    refine rr_nil ?_
    refine cc_cond rfl (fun h16 => ?_) (fun h16 => ?_)
    · try simp only [decide_eq_true_eq, decide_eq_false_iff_not, beq_iff_eq, beq_eq_false_iff_ne, bne_iff_ne, bne_eq_false_iff_eq, ne_eq, Bool.not_eq_eq_eq_not, Bool.not_true, Bool.not_false] at h16
      have hno : ks.findIdx? (fun x => key == x) = some j := findIdx_some_of hx (by simpa using h16) hj.2
      refine cc_seq ?_
      refine cc_region ?_
      refine rr_move rfl rfl ?_
      refine rr_assign rfl rfl ?_
      refine rr_nil ?_
      refine cc_ret ?_
      exact ⟨_, rfl, entW_pu2 (by rw [hno]; rfl) entW_fr⟩
    · try simp only [decide_eq_true_eq, decide_eq_false_iff_not, beq_iff_eq, beq_eq_false_iff_ne, bne_iff_ne, bne_eq_false_iff_eq, ne_eq, Bool.not_eq_eq_eq_not, Bool.not_true, Bool.not_false] at h16
      refine cc_skip ?_
      refine cc_region ?_
      refine r_add rfl rfl rfl (by omega) ?_
      refine rr_move rfl rfl ?_
      refine rr_nil ?_
      exact ⟨j + 1, by omega, by ((repeat' (first | exact covers_nil | (refine covers_cons ?_ ?_; focus (first | rfl | (simp [lk, lk?]; done))))) ; (first | done | fail)), entW_pu ⟨by omega, fun i y hi hy => by
        by_cases e : i = j
        · subst e; rw [hx] at hy; simp only [Option.some.injEq] at hy; subst hy; simpa using h16
        · exact hj.2 i y (by omega) hy⟩ entW_fr⟩
  · try simp only [decide_eq_true_eq, decide_eq_false_iff_not, beq_iff_eq, beq_eq_false_iff_ne, bne_iff_ne, bne_eq_false_iff_eq, ne_eq, Bool.not_eq_eq_eq_not, Bool.not_true, Bool.not_false] at h9
    have hno : ks.findIdx? (fun x => key == x) = none := findIdx_none_of fun i x hi => hj.2 i x (by have := get_lt hi; omega) hi
    refine cc_exit ?_
    refine cc_seq ?_
    refine cc_region ?_
    refine rr_assign rfl rfl ?_
    refine rr_nil ?_
    refine cc_ret ?_
    exact ⟨_, rfl, entW_pu2 (by rw [hno]; rfl) entW_fr⟩
def hasS (ks : List Txt) (key : Txt) : Bool := (ks.findIdx? (fun x => key == x)).isSome
theorem hasS_idx (ks : List Txt) (n : Txt) : decide (0 ≤ idxI (ks.findIdx? (fun x => n == x))) = hasS ks n := by
  unfold hasS
  cases ks.findIdx? (fun x => n == x) with
  | none => rfl
  | some i => simp [idxI]
theorem containsS_tr (b cap : Nat) (rest : List Value) (ks : List Txt) (key : Txt) (hl : ks.length ≤ 2 ^ 20) : Tr Tryz.prog 95 #[.slice (some ⟨b, 0, none⟩) ks.length cap, str key] (bl b 9 (ks.map str ++ rest))
    (fun v => pu (v = .bool (hasS ks key)) * bl b 9 (ks.map str ++ rest)) := by
  refine tr_body Tryz.func95 (by kernel_rfl) rfl Tryz.ntmps95 rfl (L := [(0, .slice (some ⟨b, 0, none⟩) ks.length cap), (1, str key)]) (covers_cons rfl (covers_cons rfl covers_nil)) rfl ?_
  intro F w0 f
  refine cc_seq ?_
  refine cc_region ?_
  refine rr_assign rfl rfl ?_
  refine rr_nil ?_
  refine cc_seq ?_
  refine cc_region ?_
  refine rr_move rfl rfl ?_
  refine rr_move rfl rfl ?_
  refine rr_call rfl rfl rfl rfl (indexS_tr b cap rest ks key hl) inferInstance rfl (sd0 rfl) (fun _ => sd0 rfl) rfl (fun v => ?_)
  first | refine RR.pu2 ?_ | refine RR.pu ?_
  rintro rfl
  refine r_int rfl rfl rfl rfl ?_
  refine rr_assign rfl rfl ?_
  refine rr_nil ?_
  refine cc_ret ?_
  exact ⟨_, rfl, entW_pu2 (congrArg Value.bool (hasS_idx ks key)) entW_fr⟩
theorem tkill1_tr (p b cap : Nat) (rest : List Value) (ks : List Txt) (key : Txt) (hl : ks.length ≤ 2 ^ 20) : Tr Tryz.prog 94 #[str key, .pointer (some ⟨p, 0, none⟩)] (bl p 37 [.slice (some ⟨b, 0, none⟩) ks.length cap] * bl b 9 (ks.map str ++ rest))
    (fun v => pu (v = .bool (hasS ks key)) * (bl p 37 [.slice (some ⟨b, 0, none⟩) ks.length cap] * bl b 9 (ks.map str ++ rest))) := by
  refine tr_body Tryz.func94 (by kernel_rfl) rfl Tryz.ntmps94 rfl (L := [(0, str key), (1, .pointer (some ⟨p, 0, none⟩))]) (covers_cons rfl (covers_cons rfl covers_nil)) rfl ?_
  intro F w0 f
  refine cc_seq ?_
  refine cc_region ?_
  refine rr_assign rfl rfl ?_
  refine rr_nil ?_
  refine cc_seq ?_
  refine cc_region ?_
  refine r_ld rfl (ls0 rfl) rfl rfl ?_
  refine rr_move rfl rfl ?_
  refine rr_call rfl rfl rfl rfl (containsS_tr b cap rest ks key hl) inferInstance rfl (sd0 rfl) (fun _ => sd0 rfl) rfl (fun v => ?_)
  first | refine RR.pu2 ?_ | refine RR.pu ?_
  rintro rfl
  refine rr_assign rfl rfl ?_
  refine rr_nil ?_
  refine cc_ret ?_
  exact ⟨_, rfl, entW_pu2 rfl entW_fr⟩
theorem tKill_tr (t k b cap : Nat) (rest : List Value) (T : TokS) (ks : List Txt) (h : TokOK T k) (hl : T.m.length ≤ 2 ^ 40) (hks : ks.length ≤ 2 ^ 20) :
    Tr Tryz.prog 48 #[.pointer (some ⟨t, 0, none⟩), .slice (some ⟨b, 0, none⟩) ks.length cap] (tokR t T * bl b 9 (ks.map str ++ rest)) (fun v => ex fun c : Int => pu (v = i64 c) * (tokR t (killT T (hasS ks)) * bl b 9 (ks.map str ++ rest))) := by
  refine tr_body Tryz.func48 (by kernel_rfl) rfl Tryz.ntmps48 rfl (L := [(0, .pointer (some ⟨t, 0, none⟩)), (1, .slice (some ⟨b, 0, none⟩) ks.length cap)]) (covers_cons rfl (covers_cons rfl covers_nil)) rfl ?_
  intro F w0 f
  refine cc_seq ?_
  refine cc_region ?_
  refine r_box rfl rfl rfl (sd0 rfl) (fun _ => sd0 rfl) (fun p0_0 => ?_)
  refine rr_assign rfl rfl ?_
  refine rr_nil ?_
  refine cc_seq ?_
  refine cc_region ?_
  refine rr_move rfl rfl ?_
  refine r_mkf rfl rfl ?_
  refine rr_call rfl rfl rfl rfl (tkill_tr t 94 k [.pointer (some ⟨p0_0, 0, none⟩)] T (bl p0_0 37 [.slice (some ⟨b, 0, none⟩) ks.length cap] * bl b 9 (ks.map str ++ rest)) (hasS ks) h hl (fun x hx => tkill1_tr p0_0 b cap rest ks x.2.1 hks)) inferInstance rfl (sd0 rfl) (fun _ => sd0 rfl) rfl (fun v => ?_)
  refine RR.ex1 fun c => ?_
  refine RR.pu2 ?_
  rintro rfl
  refine rr_assign rfl rfl ?_
  refine rr_nil ?_
  refine cc_ret ?_
  exact ⟨_, rfl, entW_ex2 c (entW_pu2 rfl entW_fr)⟩
theorem tclear1_tr (key : Txt) : Tr Tryz.prog 130 #[str key] 1 (fun v => pu (v = .bool true) * 1) := by
  refine tr_body Tryz.func130 (by kernel_rfl) rfl Tryz.ntmps130 rfl (L := [(0, str key)]) (covers_cons rfl covers_nil) rfl ?_
  intro F w0 f
  refine cc_seq ?_
  refine cc_region ?_
  refine rr_assign rfl rfl ?_
  refine rr_nil ?_
  refine cc_seq ?_
  refine cc_region ?_
  refine rr_assign rfl rfl ?_
  refine rr_nil ?_
  refine cc_ret ?_
  exact ⟨_, rfl, entW_pu2 rfl entW_fr⟩
theorem tclear_tr (t k : Nat) (T : TokS) (h : TokOK T k) (hl : T.m.length ≤ 2 ^ 40) :
    Tr Tryz.prog 77 #[.pointer (some ⟨t, 0, none⟩)] (tokR t T) (fun v => ex fun c : Int => pu (v = i64 c) * tokR t (killT T (fun _ => true))) := by
  refine tr_body Tryz.func77 (by kernel_rfl) rfl Tryz.ntmps77 rfl (L := [(0, .pointer (some ⟨t, 0, none⟩))]) (covers_cons rfl covers_nil) rfl ?_
  intro F w0 f
  refine cc_seq ?_
  refine cc_region ?_
  refine rr_assign rfl rfl ?_
  refine rr_nil ?_
  refine cc_seq ?_
  refine cc_region ?_
  refine rr_move rfl rfl ?_
  refine rr_call rfl rfl rfl rfl (tkill_tr t 130 k [] T 1 (fun _ => true) h hl (fun x hx => tclear1_tr x.2.1)) inferInstance rfl (sd0 rfl) (fun _ => sd0 rfl) rfl (fun v => ?_)
  refine RR.ex1 fun c => ?_
  refine RR.pu2 ?_
  rintro rfl
  refine rr_assign rfl rfl ?_
  refine rr_nil ?_
  refine cc_ret ?_
  exact ⟨_, rfl, entW_ex2 c (entW_pu2 rfl entW_fr)⟩
end Go.Proofs.YtoiakcgdkegncaaGreat

