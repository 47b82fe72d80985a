import Derived.Test.YtoiakcgdkegncaaGreatK14
set_option linter.unusedVariables false
set_option linter.unusedSimpArgs false
set_option linter.unusedSectionVars false
namespace Go.Proofs.YtoiakcgdkegncaaGreat
open Go.RowKit Ice
attribute [local irreducible] CC RR Tr stir mixOf mixPoint ptsOf leaseGood appD putC addC flushD killS killT hasS dropsC
theorem nstill_tr (U : Pool) (n d c : Nat) (X : MovX) (N : NodeS) : Tr Tryz.prog 81 #[ptr n] (nodeR U n d c X N) (fun r => pu (r = unit) * nodeR U n d c movX0 N) := by
  refine tr_body Tryz.func81 (by kernel_rfl) rfl Tryz.ntmps81 rfl (L := [(0, ptr n)]) (covers_cons rfl covers_nil) rfl ?_
  intro F w0 f
  refine CC.node U n d c X N fun st le tk rg wv rv mv lv M h1 h2 h3 => ?_
  refine cc_region ?_
  refine rr_move rfl rfl ?_
  refine rr_move rfl rfl ?_
  refine rr_move rfl rfl ?_
  refine rr_move rfl rfl ?_
  refine rr_nilCheck rfl rfl ?_
  refine r_fa rfl rfl ?_
  refine r_st rfl rfl rfl rfl (sd0 rfl) (sd0 rfl) ?_
  refine rr_nilCheck rfl rfl ?_
  refine r_fa rfl rfl ?_
  refine r_st rfl rfl rfl rfl (sd0 rfl) (sd0 rfl) ?_
  refine rr_nilCheck rfl rfl ?_
  refine r_fa rfl rfl ?_
  refine r_st rfl rfl rfl rfl (sd0 rfl) (sd0 rfl) ?_
  refine rr_nilCheck rfl rfl ?_
  refine r_fa rfl rfl ?_
  refine r_st rfl rfl rfl rfl (sd0 rfl) (sd0 rfl) ?_
  refine rr_nil ?_
  refine ⟨_, rfl, entW_pu2 rfl ?_⟩
  exact entW_cls (nodeR U n d c movX0 N) (bl n 57 [ptr st, ptr le, i64 N.id, rg, ptr tk, .bool false, .slice none 0 0, .map none, .map none, wv, rv, i64 N.asked, mv, lv] *
    (storeR st d N.store * (leaseR le c N.lease * (tokR tk N.tok * (slR wv 100 7 N.waits.length (N.waits.flatMap waitV) * (slR rv 75 5 N.reads.length (N.reads.flatMap readV) *
  (slR mv 66 21 M.length (M.flatMap msgV2) * slR lv 41 6 N.reps.length (N.reps.flatMap repV)))))))) (nodeR_mk U n d c st le tk N.id rg movX0 wv rv N.asked mv lv N.store N.lease N.tok N.waits N.reads M N.reps h1 h2 h3) entW_fr
def dropS (S : StoreS) (ks : List Txt) : StoreS := { S with cache := (dropsC (S.cache, S.dev) ks).1, dev := flushD (dropsC (S.cache, S.dev) ks).2 }
def dropsN (N : NodeS) (p : Txt → Bool) : NodeS := if 0 < ((keysI N.store.cache.idx).filter p).length then { N with store := dropS N.store ((keysI N.store.cache.idx).filter p) } else N
theorem ndrops_tr (U : Pool) (n d c m k fn : Nat) (X : MovX) (N : NodeS) (caps : List Value) (p : Txt → Bool) (Y : SL) (h : StoreOK N.store m k) (hk : k ≤ 2 ^ 26) (h12 : (rawKeys N.store.cache.idx.t).length ≤ 12)
    (hks : ∀ key ∈ keysI N.store.cache.idx, keyOk key = true)
    (hp : ∀ key, key.length ≤ 40 → Tr Tryz.prog fn (str key :: caps).toArray (nodeR U n d c X N * Y) (fun v => pu (v = .bool (p key)) * (nodeR U n d c X N * Y))) :
    Tr Tryz.prog 74 #[ptr n, .func (.func fn) #[] caps.toArray] (nodeR U n d c X N * Y) (fun r => pu (r = unit) * (nodeR U n d c X (dropsN N p) * Y)) := by
  refine tr_body Tryz.func74 (by kernel_rfl) rfl Tryz.ntmps74 rfl (L := [(0, ptr n), (1, .func (.func fn) #[] caps.toArray)]) (covers_cons rfl (covers_cons rfl covers_nil)) rfl ?_
  intro F w0 f
  have hi1 := h.cache.idx.h1
  refine CC.entW ?_ (entW_ent (ent_nil 9 1))
  refine CC.node U n d c X N fun st le tk rg wv rv mv lv M h1 h2 h3 => ?_
  refine CC.opn (storeR st d N.store) rfl fun q => ?_
  have hkl : (keysI N.store.cache.idx).length ≤ 12 := by
    unfold keysI; rw [sortT_len h12]; exact h12
  refine cc_seq ?_
  refine cc_region ?_
  refine rr_assign rfl rfl ?_
  refine rr_nil ?_
  refine cc_seq ?_
  refine cc_seq ?_
  refine cc_region ?_
  refine rr_move rfl rfl ?_
  refine rr_nilCheck rfl rfl ?_
  refine r_fa rfl rfl ?_
  refine r_ld rfl (ls0 rfl) rfl rfl ?_
  refine rr_nilCheck rfl rfl ?_
  refine r_fa rfl rfl ?_
  refine r_ld rfl (ls0 rfl) rfl rfl ?_
  refine rr_call rfl rfl rfl rfl (fkeys_tr q.1 d N.store.cache (by omega) h12) inferInstance rfl (sd0 rfl) (fun _ => sd0 rfl) rfl (fun v => ?_)
  refine RR.slv v fun kb kc hkv _ => ?_
  subst hkv
  refine r_lens rfl rfl ?_
  refine rr_move rfl rfl ?_
  refine rr_nil ?_
  refine CC.cls (storeR st d N.store) (bl st 84 [ptr q.1, ptr q.2.1, ptr q.2.2, i64 N.store.boot] * (cacheR q.1 d N.store.cache * (journalR q.2.1 d N.store.jour * (keeperR q.2.2 d N.store.mt N.store.turn N.store.slot * devR d N.store.dev)))) (storeR_mk st d q.1 q.2.1 q.2.2 N.store) ?_
  refine CC.cls (nodeR U n d c X N) (nodeRaw n d c st le tk N.id rg X wv rv N.asked mv lv N.store N.lease N.tok N.waits N.reads M N.reps) (nodeR_mk U n d c st le tk N.id rg X wv rv N.asked mv lv N.store N.lease N.tok N.waits N.reads M N.reps h1 h2 h3) ?_
  obtain ⟨K, hK⟩ : ∃ K, K = keysI N.store.cache.idx := ⟨_, rfl⟩
  rw [← hK] at hkl hks
  rw [← hK]
  refine cc_block ?_
  refine cc_loopW (α := (Nat × Value)) (fun ⟨j, l⟩ => [(16, i64 j), (15, i64 K.length), (14, .slice kb K.length kc), (4, l), (0, ptr n), (1, .func (.func fn) #[] caps.toArray)]) (fun ⟨j, l⟩ => pu (j ≤ K.length) * (slR l 9 1 ((K.take j).filter p).length (((K.take j).filter p).map str) * (slR (.slice kb K.length kc) 9 1 K.length (K.map str) * (nodeR U n d c X N * (Y * F))))) (fun ⟨j, l⟩ => K.length - j) ((0, .slice none 0 0)) (by ((repeat' (first | exact covers_nil | (refine covers_cons ?_ ?_; focus (first | rfl | (simp [lk, lk?]; done))))) ; (first | done | fail))) (by exact entW_pu (by omega) (by rw [List.take_zero, List.filter_nil, List.map_nil, List.length_nil]; exact entW_fr)) ?_
  rintro ⟨j, l⟩ f
  refine CC.pu fun hj => ?_
  refine cc_seq ?_
  refine cc_region ?_
  refine r_int rfl rfl rfl rfl ?_
  refine rr_nil ?_
  refine cc_seq ?_
  refine cc_cond rfl (fun h17 => ?_) (fun h17 => ?_)
  · try simp only [decide_eq_true_eq, decide_eq_false_iff_not, beq_iff_eq, beq_eq_false_iff_ne, bne_iff_ne, bne_eq_false_iff_eq, ne_eq, Bool.not_eq_eq_eq_not, Bool.not_true, Bool.not_false] at h17
    obtain ⟨key, hx⟩ := lt_get (l := K) (j := j) (by omega)
    have hko := hks key (get_mem hx)
    have hsucc := filter_take_succ p hx
    have hfl : ((K.take j).filter p).length ≤ 12 := Nat.le_trans (List.length_filter_le _ _) (by rw [List.length_take]; omega)
    refine CC.slb (.slice kb K.length kc) (by omega) fun b cap rest e1 e2 e3 => ?_
    simp only [Value.slice.injEq] at e1
    obtain ⟨rfl, _, rfl⟩ := e1
    refine cc_skip ?_
    refine cc_seq ?_
    refine cc_block ?_
    refine cc_seq ?_
    refine cc_region ?_
    refine r_ix rfl rfl rfl (by omega) ?_
    refine r_ld rfl (ls0 rfl) (v := str key) (by
      rw [show 0 + (j : Int).toNat * 1 = j by omega, nth_eq, List.getElem?_append_left (by simp; omega)]; simp [hx]) rfl ?_
    refine rr_assign rfl rfl ?_
    refine rr_nil ?_
    refine cc_seq ?_
    refine cc_region ?_
    refine rr_move rfl rfl ?_
    refine rr_move rfl rfl ?_
    refine rr_call rfl rfl rfl rfl (hp key (by have := keyOk_len hko; omega)) inferInstance rfl (sd0 rfl) (fun _ => sd0 rfl) rfl (fun v => ?_)
    first | refine RR.pu2 ?_ | refine RR.pu ?_
    rintro rfl
    refine rr_nil ?_
    refine cc_cond rfl (fun h22 => ?_) (fun h22 => ?_)
    · try simp only [decide_eq_true_eq, decide_eq_false_iff_not, beq_iff_eq, beq_eq_false_iff_ne, bne_iff_ne, bne_eq_false_iff_eq, ne_eq, Bool.not_eq_eq_eq_not, Bool.not_true, Bool.not_false] at h22
      rw [h22, if_pos rfl] at hsucc
      refine cc_region ?_
      refine rr_move rfl rfl ?_
      refine rr_move rfl rfl ?_
      refine r_bsl rfl rfl rfl rfl rfl rfl (sd0 rfl) (fun _ => sd0 rfl) (fun p5_2 => ?_)
      refine r_app (m := ((K.take j).filter p).length) (xs := ((K.take j).filter p).map str) (k' := 1) (ys := [str key]) rfl rfl (.inl (by rw [spv_underlying]; kernel_rfl)) inferInstance rfl (fun w sa => src_of sa (Nat.le_of_ble_eq_true rfl) rfl) (by simp) (by simp [oneC]) (by omega) (by omega) (by omega) rfl (by first | exact sd0 rfl | exact sd1 rfl) (fun _ => by first | exact sd0 rfl | exact sd1 rfl) (fun v => ?_)
      refine rr_assign rfl rfl ?_
      refine rr_nil ?_
      refine cc_region ?_
      refine r_add rfl rfl rfl (by omega) ?_
      refine rr_move rfl rfl ?_
      refine rr_nil ?_
      first | exact ⟨(j + 1, v), (by show K.length - (j + 1) < K.length - j; omega), by ((repeat' (first | exact covers_nil | (refine covers_cons ?_ ?_; focus (first | rfl | (simp [lk, lk?]; done))))) ; (first | done | fail)), entW_pu (by omega) (by
        rw [hsucc, List.map_append, List.length_append, List.map_singleton]
        exact (entW_ent (ent_pick (X := bl b 9 (K.map str ++ rest)) (slR_blk e2 e3))).trans entW_fr)⟩ | exact ⟨(j + 1, l), (by show K.length - (j + 1) < K.length - j; omega), by ((repeat' (first | exact covers_nil | (refine covers_cons ?_ ?_; focus (first | rfl | (simp [lk, lk?]; done))))) ; (first | done | fail)), entW_pu (by omega) (by
        rw [hsucc]
        exact (entW_ent (ent_pick (X := bl b 9 (K.map str ++ rest)) (slR_blk e2 e3))).trans entW_fr)⟩
    · try simp only [decide_eq_true_eq, decide_eq_false_iff_not, beq_iff_eq, beq_eq_false_iff_ne, bne_iff_ne, bne_eq_false_iff_eq, ne_eq, Bool.not_eq_eq_eq_not, Bool.not_true, Bool.not_false] at h22
      rw [h22, if_neg Bool.false_ne_true, List.append_nil] at hsucc
      refine cc_skip ?_
      refine cc_region ?_
      refine r_add rfl rfl rfl (by omega) ?_
      refine rr_move rfl rfl ?_
      refine rr_nil ?_
      first | exact ⟨(j + 1, v), (by show K.length - (j + 1) < K.length - j; omega), by ((repeat' (first | exact covers_nil | (refine covers_cons ?_ ?_; focus (first | rfl | (simp [lk, lk?]; done))))) ; (first | done | fail)), entW_pu (by omega) (by
        rw [hsucc, List.map_append, List.length_append, List.map_singleton]
        exact (entW_ent (ent_pick (X := bl b 9 (K.map str ++ rest)) (slR_blk e2 e3))).trans entW_fr)⟩ | exact ⟨(j + 1, l), (by show K.length - (j + 1) < K.length - j; omega), by ((repeat' (first | exact covers_nil | (refine covers_cons ?_ ?_; focus (first | rfl | (simp [lk, lk?]; done))))) ; (first | done | fail)), entW_pu (by omega) (by
        rw [hsucc]
        exact (entW_ent (ent_pick (X := bl b 9 (K.map str ++ rest)) (slR_blk e2 e3))).trans entW_fr)⟩
  · try simp only [decide_eq_true_eq, decide_eq_false_iff_not, beq_iff_eq, beq_eq_false_iff_ne, bne_iff_ne, bne_eq_false_iff_eq, ne_eq, Bool.not_eq_eq_eq_not, Bool.not_true, Bool.not_false] at h17
    obtain rfl : j = K.length := by omega
    rw [List.take_length]
    refine CC.slv l fun lb0 lc0 hl0 _ => ?_
    subst hl0
    refine cc_exit ?_
    refine cc_seq ?_
    refine cc_region ?_
    refine rr_move rfl rfl ?_
    refine r_lens rfl rfl ?_
    refine r_int rfl rfl rfl rfl ?_
    refine rr_nil ?_
    refine cc_cond rfl (fun h30 => ?_) (fun h30 => ?_)
    · try simp only [decide_eq_true_eq, decide_eq_false_iff_not, beq_iff_eq, beq_eq_false_iff_ne, bne_iff_ne, bne_eq_false_iff_eq, ne_eq, Bool.not_eq_eq_eq_not, Bool.not_true, Bool.not_false] at h30
      have hdn : dropsN N p = { N with store := dropS N.store (K.filter p) } := by rw [dropsN, ← hK, if_pos (by omega)]
      refine CC.slb (.slice lb0 (K.filter p).length lc0) (by omega) fun lb lc lrest e1 e2 e3 => ?_
      simp only [Value.slice.injEq] at e1
      obtain ⟨rfl, _, rfl⟩ := e1
      have hflt : ∀ key ∈ K.filter p, keyOk key = true := fun key hkk => hks key (List.mem_filter.1 hkk).1
      have hfl : (K.filter p).length ≤ 12 := Nat.le_trans (List.length_filter_le _ _) hkl
      refine CC.node U n d c X N fun st le tk rg wv rv mv lv M h1 h2 h3 => ?_
      refine CC.opn (storeR st d N.store) rfl fun q => ?_
      refine cc_region ?_
      refine rr_move rfl rfl ?_
      refine rr_nilCheck rfl rfl ?_
      refine r_fa rfl rfl ?_
      refine r_ld rfl (ls0 rfl) rfl rfl ?_
      refine rr_nilCheck rfl rfl ?_
      refine r_fa rfl rfl ?_
      refine r_ld rfl (ls0 rfl) rfl rfl ?_
      refine rr_move rfl rfl ?_
      refine rr_call rfl rfl rfl rfl (fdrop_tr q.1 d m k lb lc0 lrest N.store.cache N.store.dev (K.filter p) h.cache (by omega) h.len.symm hflt) inferInstance rfl (sd0 rfl) (fun _ => sd0 rfl) rfl (fun v => ?_)
      first | refine RR.pu2 ?_ | refine RR.pu ?_
      rintro rfl
      refine rr_nil ?_
      refine ⟨_, rfl, entW_pu2 rfl ?_⟩
      rw [hdn]
      first
      | exact entW_fr
      | (refine entW_cls (storeR st d (dropS N.store (K.filter p))) (bl st 84 [ptr q.1, ptr q.2.1, ptr q.2.2, i64 N.store.boot] * (cacheR q.1 d (dropsC (N.store.cache, N.store.dev) (K.filter p)).1 * (journalR q.2.1 d N.store.jour * (keeperR q.2.2 d N.store.mt N.store.turn N.store.slot * devR d (flushD (dropsC (N.store.cache, N.store.dev) (K.filter p)).2))))) (storeR_mk st d q.1 q.2.1 q.2.2 (dropS N.store (K.filter p))) ?_
         refine entW_cls (nodeR U n d c X { N with store := dropS N.store (K.filter p) }) (nodeRaw n d c st le tk N.id rg X wv rv N.asked mv lv (dropS N.store (K.filter p)) N.lease N.tok N.waits N.reads M N.reps) (nodeR_mk U n d c st le tk N.id rg X wv rv N.asked mv lv (dropS N.store (K.filter p)) N.lease N.tok N.waits N.reads M N.reps h1 h2 h3) ?_
         exact entW_fr)
    · try simp only [decide_eq_true_eq, decide_eq_false_iff_not, beq_iff_eq, beq_eq_false_iff_ne, bne_iff_ne, bne_eq_false_iff_eq, ne_eq, Bool.not_eq_eq_eq_not, Bool.not_true, Bool.not_false] at h30
      have hdn : dropsN N p = N := by rw [dropsN, ← hK, if_neg (by omega)]
      refine cc_skip ?_
      refine ⟨_, rfl, entW_pu2 rfl ?_⟩
      rw [hdn]
      first
      | exact entW_fr
      | (refine entW_cls (storeR st d (dropS N.store (K.filter p))) (bl st 84 [ptr q.1, ptr q.2.1, ptr q.2.2, i64 N.store.boot] * (cacheR q.1 d (dropsC (N.store.cache, N.store.dev) (K.filter p)).1 * (journalR q.2.1 d N.store.jour * (keeperR q.2.2 d N.store.mt N.store.turn N.store.slot * devR d (flushD (dropsC (N.store.cache, N.store.dev) (K.filter p)).2))))) (storeR_mk st d q.1 q.2.1 q.2.2 (dropS N.store (K.filter p))) ?_
         refine entW_cls (nodeR U n d c X { N with store := dropS N.store (K.filter p) }) (nodeRaw n d c st le tk N.id rg X wv rv N.asked mv lv (dropS N.store (K.filter p)) N.lease N.tok N.waits N.reads M N.reps) (nodeR_mk U n d c st le tk N.id rg X wv rv N.asked mv lv (dropS N.store (K.filter p)) N.lease N.tok N.waits N.reads M N.reps h1 h2 h3) ?_
         exact entW_fr)
end Go.Proofs.YtoiakcgdkegncaaGreat

namespace Go.Proofs.YtoiakcgdkegncaaGreat
open Go.RowKit Ice
attribute [local irreducible] CC RR Tr stir mixOf mixPoint ptsOf leaseGood appD putC addC flushD killS killT hasS dropsC
def strP (N : NodeS) (key : Txt) : Bool := ownerR N.ring key != N.id
theorem nstrange1_tr (U : Pool) (n d c b : Nat) (X : MovX) (N : NodeS) (key : Txt) (hf : ringFit N.ring) (hk : key.length ≤ 2 ^ 30) :
    Tr Tryz.prog 131 #[str key, ptr b] (nodeR U n d c X N * (poolR U * bl b 25 [ptr n])) (fun v => pu (v = .bool (strP N key)) * (nodeR U n d c X N * (poolR U * bl b 25 [ptr n]))) := by
  refine tr_body Tryz.func131 (by kernel_rfl) rfl Tryz.ntmps131 rfl (L := [(0, str key), (1, ptr b)]) (covers_cons rfl (covers_cons rfl covers_nil)) rfl ?_
  intro F w0 f
  refine CC.node U n d c X N fun st le tk rg wv rv mv lv M h1 h2 h3 => ?_
  refine cc_seq ?_
  refine cc_region ?_
  refine rr_assign rfl rfl ?_
  refine rr_nil ?_
  refine cc_seq ?_
  refine cc_draw (bl n 57 [ptr st, ptr le, i64 N.id, rg, ptr tk, .bool X.knows, X.pv, X.ov, X.iv, wv, rv, i64 N.asked, mv, lv] * bl b 25 [ptr n]) [6, 9] [5] mixed (by decide +kernel) ?_
  refine r_ld rfl (ls0 rfl) rfl rfl ?_
  refine rr_nilCheck rfl rfl ?_
  refine r_fa rfl rfl ?_
  refine r_ld rfl (ls0 rfl) rfl rfl ?_
  refine rr_move rfl rfl ?_
  refine rr_call rfl rfl rfl rfl (rofO_tr U rg N.ring key h1 hf hk) inferInstance rfl (sd1 rfl) (fun _ => sd1 rfl) rfl (fun v => ?_)
  first | refine RR.pu2 ?_ | refine RR.pu ?_
  rintro rfl
  refine r_ld rfl (ls1 rfl) rfl rfl ?_
  refine rr_nilCheck rfl rfl ?_
  refine r_fa rfl rfl ?_
  refine r_ld rfl (ls1 rfl) rfl rfl ?_
  refine r_int rfl rfl rfl rfl ?_
  refine rr_assign rfl rfl ?_
  refine rr_nil ?_
  refine cc_ret ?_
  exact ⟨_, rfl, entW_pu2 rfl (entW_cls (nodeR U n d c X N) (nodeRaw n d c st le tk N.id rg X wv rv N.asked mv lv N.store N.lease N.tok N.waits N.reads M N.reps) (nodeR_mk U n d c st le tk N.id rg X wv rv N.asked mv lv N.store N.lease N.tok N.waits N.reads M N.reps h1 h2 h3) entW_fr)⟩
def strangeN (N : NodeS) : NodeS := match N.ring with
  | none => N
  | some _ => dropsN N (strP N)
theorem nstrange_tr (U : Pool) (n d c m k : Nat) (X : MovX) (N : NodeS) (h : StoreOK N.store m k) (hk : k ≤ 2 ^ 26) (hf : ringFit N.ring) (h12 : (rawKeys N.store.cache.idx.t).length ≤ 12) (hks : ∀ key ∈ keysI N.store.cache.idx, keyOk key = true) :
    Tr Tryz.prog 82 #[ptr n] (nodeR U n d c X N * poolR U) (fun r => pu (r = unit) * (nodeR U n d c X (strangeN N) * poolR U)) := by
  refine tr_body Tryz.func82 (by kernel_rfl) rfl Tryz.ntmps82 rfl (L := [(0, ptr n)]) (covers_cons rfl covers_nil) rfl ?_
  intro F w0 f
  refine CC.node U n d c X N fun st le tk rg wv rv mv lv M h1 h2 h3 => ?_
  cases hr : N.ring with
  | none =>
    obtain rfl : rg = .pointer none := by rw [hr] at h1; exact h1
    have hs : strangeN N = N := by rw [strangeN, hr]
    refine cc_seq ?_
    refine cc_region ?_
    refine r_box rfl rfl rfl (sd0 rfl) (fun _ => sd0 rfl) (fun p0_0 => ?_)
    refine rr_nil ?_
    refine cc_seq ?_
    refine cc_region ?_
    refine r_ld rfl (ls0 rfl) rfl rfl ?_
    refine rr_nilCheck rfl rfl ?_
    refine r_fa rfl rfl ?_
    refine r_ld rfl (ls0 rfl) rfl rfl ?_
    refine r_pnil rfl rfl rfl ?_
    refine rr_nil ?_
    refine cc_condF rfl ?_
    refine cc_skip ?_
    refine ⟨_, rfl, entW_pu2 rfl ?_⟩
    rw [hs]
    exact entW_cls (nodeR U n d c X N) (nodeRaw n d c st le tk N.id (.pointer none) X wv rv N.asked mv lv N.store N.lease N.tok N.waits N.reads M N.reps) (nodeR_mk U n d c st le tk N.id (.pointer none) X wv rv N.asked mv lv N.store N.lease N.tok N.waits N.reads M N.reps h1 h2 h3) entW_fr
  | some x =>
    obtain ⟨r, rfl, hri⟩ : ∃ r, rg = ptr r ∧ ringIn U r x.1 x.2 := by rw [hr] at h1; exact h1
    have hs : strangeN N = dropsN N (strP N) := by rw [strangeN, hr]
    refine cc_seq ?_
    refine cc_region ?_
    refine r_box rfl rfl rfl (sd0 rfl) (fun _ => sd0 rfl) (fun p0_0 => ?_)
    refine rr_nil ?_
    refine cc_seq ?_
    refine cc_region ?_
    refine r_ld rfl (ls0 rfl) rfl rfl ?_
    refine rr_nilCheck rfl rfl ?_
    refine r_fa rfl rfl ?_
    refine r_ld rfl (ls0 rfl) rfl rfl ?_
    refine r_pnil rfl rfl rfl ?_
    refine rr_nil ?_
    refine cc_condT rfl ?_
    refine CC.cls (nodeR U n d c X N) (nodeRaw n d c st le tk N.id (ptr r) X wv rv N.asked mv lv N.store N.lease N.tok N.waits N.reads M N.reps) (nodeR_mk U n d c st le tk N.id (ptr r) X wv rv N.asked mv lv N.store N.lease N.tok N.waits N.reads M N.reps h1 h2 h3) ?_
    refine cc_region ?_
    refine r_ld rfl (ls0 rfl) rfl rfl ?_
    refine r_mkf rfl rfl ?_
    refine rr_call rfl rfl rfl rfl (ndrops_tr U n d c m k 131 X N [ptr p0_0] (strP N) (poolR U * bl p0_0 25 [ptr n]) h hk h12 hks (fun key hkl => nstrange1_tr U n d c p0_0 X N key hf (by omega))) inferInstance rfl (sd0 rfl) (fun _ => sd0 rfl) rfl (fun v => ?_)
    first | refine RR.pu2 ?_ | refine RR.pu ?_
    rintro rfl
    refine rr_nil ?_
    refine ⟨_, rfl, entW_pu2 rfl ?_⟩
    rw [hs]
    exact entW_fr
end Go.Proofs.YtoiakcgdkegncaaGreat

namespace Go.Proofs.YtoiakcgdkegncaaGreat
open Go.RowKit Ice
attribute [local irreducible] CC RR Tr stir mixOf mixPoint ptsOf leaseGood appD putC addC flushD killS killT hasS dropsC supW metaText wipeC
def wipeS (S : StoreS) : StoreS := { S with cache := wipeC S.cache, dev := flushD (appD S.cache.log S.dev [2]) }
def saveS (S : StoreS) (m : MetaS) : StoreS := { S with mt := m, turn := S.turn + 1, slot := 1 - S.slot, dev := supW S.dev 0 (1 - S.slot) (S.turn + 1) (metaText m) }
theorem StoreOK.wipe {S : StoreS} {n k : Nat} (h : StoreOK S n k) : StoreOK (wipeS S) n (k + 2) := by
  have h1 := h.cache.add (b := [2]) (by simp)
  refine ⟨?_, ?_, ?_, h.mt, by have := h.turn; simp only [wipeS]; omega, h.slot⟩
  · simp only [wipeS, flushD_len, appD_len]; exact h.len
  · simp only [wipeS]; unfold wipeC; exact ⟨h1.log, h1.srt, idx0_ok⟩
  · simp only [wipeS]; exact h.jour.mono (by omega)
theorem StoreOK.save {S : StoreS} {n k : Nat} (h : StoreOK S n k) {m : MetaS} (hm : m.ok) : StoreOK (saveS S m) n (k + 1) := by
  refine ⟨?_, ?_, ?_, hm, by have := h.turn; simp only [saveS]; omega, by simp only [saveS]; omega⟩
  · simp only [saveS, supW_len]; exact h.len
  · simp only [saveS]; exact ⟨h.cache.log.mono (by omega), h.cache.srt, h.cache.idx⟩
  · simp only [saveS]; exact h.jour.mono (by omega)
def adWS (N : NodeS) (epoch : Int) : StoreS := if epoch = N.store.mt.ready then N.store else wipeS N.store
def adMt (N : NodeS) (epoch : Int) : MetaS := ⟨N.store.mt.boot, epoch, 0, false⟩
def adS (N : NodeS) (epoch : Int) : StoreS := saveS (adWS N epoch) (adMt N epoch)
def adN3 (N : NodeS) (epoch : Int) (ns : List Int) : NodeS := { N with store := adS N epoch, ring := some (epoch, ns) }
def adN4 (N : NodeS) (epoch : Int) (ns : List Int) : NodeS := strangeN (adN3 N epoch ns)
def adoptN (N : NodeS) (epoch : Int) (ns : List Int) : NodeS := { adN4 N epoch ns with lease := ⟨0, 0, 0⟩, tok := killT (adN4 N epoch ns).tok (fun _ => true), waits := [] }
theorem strangeN_same (N : NodeS) : (strangeN N).waits = N.waits ∧ (strangeN N).tok = N.tok ∧ (strangeN N).ring = N.ring ∧ (strangeN N).id = N.id ∧ (strangeN N).msgs = N.msgs ∧ (strangeN N).reps = N.reps := by
  unfold strangeN
  split
  · exact ⟨rfl, rfl, rfl, rfl, rfl, rfl⟩
  · unfold dropsN; split <;> exact ⟨rfl, rfl, rfl, rfl, rfl, rfl⟩
theorem adWS_same (N : NodeS) (epoch : Int) : (adWS N epoch).boot = N.store.boot ∧ (adWS N epoch).mt = N.store.mt ∧ (adWS N epoch).turn = N.store.turn ∧ (adWS N epoch).slot = N.store.slot ∧ (adWS N epoch).jour = N.store.jour := by
  unfold adWS; split <;> exact ⟨rfl, rfl, rfl, rfl, rfl⟩
theorem adWS_ok {N : NodeS} {m k : Nat} (h : StoreOK N.store m k) (epoch : Int) : StoreOK (adWS N epoch) m (k + 2) := by
  unfold adWS
  split
  · exact ⟨h.len, ⟨h.cache.log.mono (by omega), h.cache.srt, h.cache.idx⟩, h.jour.mono (by omega), h.mt, by have := h.turn; omega, h.slot⟩
  · exact h.wipe
theorem nadopt_tr (U : Pool) (n d c m k : Nat) (X : MovX) (N : NodeS) (v : Value) (epoch : Int) (ns : List Int) (hv : inSl U v 3 1 ns.length (ns.map i64)) (hm : mayP ns = true) (hl1 : ns.length ≤ 1)
    (h : StoreOK N.store m k) (ht : TokOK N.tok k) (htl : N.tok.m.length ≤ 2 ^ 40) (hk : k ≤ 2 ^ 25) (hm1 : 1 < m) (he1 : 1 ≤ epoch) (he2 : epoch ≤ 2 ^ 40) (hne : epoch ≠ N.store.mt.epoch) (hup : N.store.mt.epoch ≤ epoch) (hw : N.waits = [])
    (h12 : (rawKeys (adWS N epoch).cache.idx.t).length ≤ 12) (hks : ∀ key ∈ keysI (adWS N epoch).cache.idx, keyOk key = true) :
    Tr Tryz.prog 68 #[ptr n, i64 epoch, v] (nodeR U n d c X N * poolR U) (fun r => ex fun V : Pool => pu (r = unit ∧ Sub U V) * (nodeR V n d c movX0 (adoptN N epoch ns) * poolR V)) := by
  obtain ⟨⟨vb, vc, rfl⟩, _⟩ := hv.val
  have hW := adWS_ok h epoch
  have hWs := adWS_same N epoch
  have hmt' : (adMt N epoch).ok := ⟨h.mt.b0, h.mt.b1, by show 0 ≤ epoch; omega, by show epoch ≤ _; omega, Int.le_refl 0, by show (0 : Int) ≤ _; omega, .inl rfl, fun hh => by cases hh⟩
  have h3ok : StoreOK (adN3 N epoch ns).store m (k + 3) := hW.save hmt'
  have hfit : ringFit (some (epoch, ns)) := by
    have := ptsOf_len hm hl1
    have := (mayP_mem hm).1
    exact ⟨by show 0 < (ptsOf ns).length; omega, by show (ptsOf ns).length ≤ _; omega⟩
  obtain ⟨q1, q2, q3, q4, q5, q6⟩ := strangeN_same (adN3 N epoch ns)
  have htok4 : (adN4 N epoch ns).tok = N.tok := q2
  have hw4 : (adN4 N epoch ns).waits = [] := q1.trans hw
  refine tr_body Tryz.func68 (by kernel_rfl) rfl Tryz.ntmps68 rfl (L := [(0, ptr n), (1, i64 epoch), (2, .slice vb ns.length vc)]) (covers_cons rfl (covers_cons rfl (covers_cons rfl covers_nil))) rfl ?_
  intro F w0 f
  refine CC.node U n d c X N fun st le tk rg wv rv mv lv M h1 h2 h3 => ?_
  refine CC.opn (storeR st d N.store) rfl fun q => ?_
  refine cc_seq ?_
  refine cc_region ?_
  refine rr_move rfl rfl ?_
  refine rr_nilCheck rfl rfl ?_
  refine r_fa rfl rfl ?_
  refine r_ld rfl (ls0 rfl) rfl rfl ?_
  refine rr_nilCheck rfl rfl ?_
  refine r_fa rfl rfl ?_
  refine r_ld rfl (ls0 rfl) rfl rfl ?_
  refine rr_call rfl rfl rfl rfl (mmetaR_tr q.2.2 d N.store.mt N.store.turn N.store.slot) inferInstance rfl (sd0 rfl) (fun _ => sd0 rfl) rfl (fun v => ?_)
  first | refine RR.pu2 ?_ | refine RR.pu ?_
  rintro rfl
  refine r_alloc rfl (sd0 rfl) (fun _ => sd0 rfl) (fun p0_8 => ?_)
  refine r_sta (cs' := metaV N.store.mt) rfl rfl rfl rfl rfl (Nat.le_of_ble_eq_true rfl) (sd0 rfl) (sd0 rfl) ?_
  refine rr_nil ?_
  refine cc_seq ?_
  refine cc_seq ?_
  refine cc_region ?_
  refine rr_move rfl rfl ?_
  refine r_fa rfl rfl ?_
  refine r_ld rfl (ls0 rfl) rfl rfl ?_
  refine r_int rfl rfl rfl rfl ?_
  refine rr_nil ?_
  refine cc_condFp rfl (by simpa using hne) ?_
  refine cc_skip ?_
  refine cc_seq ?_
  refine cc_seq ?_
  refine cc_region ?_
  refine rr_move rfl rfl ?_
  refine r_fa rfl rfl ?_
  refine r_ld rfl (ls0 rfl) rfl rfl ?_
  refine r_int rfl rfl rfl rfl ?_
  refine rr_nil ?_
  refine cc_join (α := Unit) (fun _u => [(0, ptr n), (1, i64 epoch), (2, .slice vb ns.length vc), (6, ptr p0_8)]) (fun _u => bl p0_8 95 (metaV N.store.mt) * (bl n 57 [ptr st, ptr le, i64 N.id, rg, ptr tk, .bool X.knows, X.pv, X.ov, X.iv, wv, rv, i64 N.asked, mv, lv] *
  (bl st 84 [ptr q.1, ptr q.2.1, ptr q.2.2, i64 N.store.boot] * (cacheR q.1 d (adWS N epoch).cache * (journalR q.2.1 d N.store.jour * (keeperR q.2.2 d N.store.mt N.store.turn N.store.slot * (devR d (adWS N epoch).dev *
  (leaseR le c N.lease * (tokR tk N.tok * (slR wv 100 7 N.waits.length (N.waits.flatMap waitV) * (slR rv 75 5 N.reads.length (N.reads.flatMap readV) * (slR mv 66 21 M.length (M.flatMap msgV2) * (slR lv 41 6 N.reps.length (N.reps.flatMap repV) *
  (poolR U * F)))))))))))))) ?_ ?_
  · refine cc_cond rfl (fun h40 => ?_) (fun h40 => ?_)
    · try simp only [decide_eq_true_eq, decide_eq_false_iff_not, beq_iff_eq, beq_eq_false_iff_ne, bne_iff_ne, bne_eq_false_iff_eq, ne_eq, Bool.not_eq_eq_eq_not, Bool.not_true, Bool.not_false] at h40
      have hads : adWS N epoch = wipeS N.store := by rw [adWS, if_neg (by simpa using h40)]
      refine cc_region ?_
      refine rr_move rfl rfl ?_
      refine rr_nilCheck rfl rfl ?_
      refine r_fa rfl rfl ?_
      refine r_ld rfl (ls0 rfl) rfl rfl ?_
      refine rr_nilCheck rfl rfl ?_
      refine r_fa rfl rfl ?_
      refine r_ld rfl (ls0 rfl) rfl rfl ?_
      refine rr_call rfl rfl rfl rfl (fwipe_tr q.1 d m k N.store.cache N.store.dev h.cache (by omega) h.len.symm) inferInstance rfl (sd0 rfl) (fun _ => sd0 rfl) rfl (fun v => ?_)
      first | refine RR.pu2 ?_ | refine RR.pu ?_
      rintro rfl
      refine rr_nil ?_
      exact ⟨(), by ((repeat' (first | exact covers_nil | (refine covers_cons ?_ ?_; focus (first | rfl | (simp [lk, lk?]; done))))) ; (first | done | fail)), by rw [hads]; first | exact entW_fr | (simp only [wipeS]; exact entW_fr)⟩
    · try simp only [decide_eq_true_eq, decide_eq_false_iff_not, beq_iff_eq, beq_eq_false_iff_ne, bne_iff_ne, bne_eq_false_iff_eq, ne_eq, Bool.not_eq_eq_eq_not, Bool.not_true, Bool.not_false] at h40
      have hads : adWS N epoch = N.store := by rw [adWS, if_pos (by simpa using h40)]
      refine cc_skip ?_
      exact ⟨(), by ((repeat' (first | exact covers_nil | (refine covers_cons ?_ ?_; focus (first | rfl | (simp [lk, lk?]; done))))) ; (first | done | fail)), by rw [hads]; first | exact entW_fr | (simp only [wipeS]; exact entW_fr)⟩
  · rintro _u f
    refine cc_seq ?_
    refine cc_draw (bl p0_8 95 (metaV N.store.mt) * (bl n 57 [ptr st, ptr le, i64 N.id, rg, ptr tk, .bool X.knows, X.pv, X.ov, X.iv, wv, rv, i64 N.asked, mv, lv] * bl st 84 [ptr q.1, ptr q.2.1, ptr q.2.2, i64 N.store.boot])) [] [] mixed (by decide +kernel) ?_
    refine rr_move rfl rfl ?_
    refine rr_nilCheck rfl rfl ?_
    refine r_fa rfl rfl ?_
    refine r_ld rfl (ls0 rfl) rfl rfl ?_
    refine rr_nilCheck rfl rfl ?_
    refine r_fa rfl rfl ?_
    refine r_ld rfl (ls0 rfl) rfl rfl ?_
    refine r_fa rfl rfl ?_
    refine r_ld rfl (ls0 rfl) rfl rfl ?_
    refine rr_move rfl rfl ?_
    refine r_bld rfl rfl rfl ?_
    refine rr_call rfl rfl rfl rfl (msave_tr q.2.2 d N.store.mt (adMt N epoch) N.store.turn N.store.slot (adWS N epoch).dev hmt' (Int.le_refl _) hup (by have := h.turn; omega) h.slot (by rw [hW.len]; exact hm1)) inferInstance rfl (sd0 rfl) (fun _ => sd0 rfl) rfl (fun v => ?_)
    first | refine RR.pu2 ?_ | refine RR.pu ?_
    rintro rfl
    refine rr_nil ?_
    refine cc_seq ?_
    refine cc_region ?_
    refine rr_move rfl rfl ?_
    refine rr_move rfl rfl ?_
    refine rr_move rfl rfl ?_
    refine rr_call rfl rfl rfl rfl (rnew_tr U (.slice vb ns.length vc) epoch ns hv hm hl1 he1 he2) inferInstance rfl (sd0 rfl) (fun _ => sd0 rfl) rfl (fun v => ?_)
    refine RR.ex1 fun qq => ?_
    refine RR.pu2 fun hqq => ?_
    obtain ⟨rfl, hq1, hq2⟩ := hqq
    obtain ⟨rr, V⟩ := qq
    simp only at hq1 hq2 ⊢
    refine rr_nilCheck rfl rfl ?_
    refine r_fa rfl rfl ?_
    refine r_st rfl rfl rfl rfl (sd0 rfl) (sd0 rfl) ?_
    refine rr_nil ?_
    refine CC.cls (storeR st d (adN3 N epoch ns).store) (bl st 84 [ptr q.1, ptr q.2.1, ptr q.2.2, i64 N.store.boot] * (cacheR q.1 d (adWS N epoch).cache * (journalR q.2.1 d N.store.jour * (keeperR q.2.2 d (adMt N epoch) (N.store.turn + 1) (1 - N.store.slot) * devR d (supW (adWS N epoch).dev 0 (1 - N.store.slot) (N.store.turn + 1) (metaText (adMt N epoch))))))) (by
        have := storeR_mk st d q.1 q.2.1 q.2.2 (adN3 N epoch ns).store
        simp only [adN3, adS, saveS, hWs.1, hWs.2.1, hWs.2.2.1, hWs.2.2.2.1, hWs.2.2.2.2] at this ⊢
        exact this) ?_
    refine CC.cls (nodeR V n d c X (adN3 N epoch ns)) (nodeRaw n d c st le tk N.id (ptr rr) X wv rv N.asked mv lv (adN3 N epoch ns).store N.lease N.tok N.waits N.reads M N.reps) (nodeR_mk V n d c st le tk N.id (ptr rr) X wv rv N.asked mv lv (adN3 N epoch ns).store N.lease N.tok N.waits N.reads M N.reps ⟨rr, rfl, hq2⟩ h2 (h3.mono hq1)) ?_
    refine cc_seq ?_
    refine cc_region ?_
    refine rr_move rfl rfl ?_
    refine rr_call rfl rfl rfl rfl (nstrange_tr V n d c m (k + 3) X (adN3 N epoch ns) h3ok (by omega) hfit h12 hks) inferInstance rfl (sd0 rfl) (fun _ => sd0 rfl) rfl (fun v => ?_)
    first | refine RR.pu2 ?_ | refine RR.pu ?_
    rintro rfl
    refine rr_nil ?_
    rw [show strangeN (adN3 N epoch ns) = adN4 N epoch ns from rfl]
    refine cc_seq ?_
    refine CC.node V n d c X (adN4 N epoch ns) fun st le tk rg wv rv mv lv M h1 h2 h3 => ?_
    refine cc_region ?_
    refine rr_move rfl rfl ?_
    refine rr_nilCheck rfl rfl ?_
    refine r_fa rfl rfl ?_
    refine r_ld rfl (ls0 rfl) rfl rfl ?_
    refine rr_call rfl rfl rfl rfl (ldrop_tr le c (adN4 N epoch ns).lease) inferInstance rfl (sd0 rfl) (fun _ => sd0 rfl) rfl (fun v => ?_)
    first | refine RR.pu2 ?_ | refine RR.pu ?_
    rintro rfl
    refine rr_nil ?_
    refine cc_seq ?_
    refine cc_region ?_
    refine rr_move rfl rfl ?_
    refine rr_nilCheck rfl rfl ?_
    refine r_fa rfl rfl ?_
    refine r_ld rfl (ls0 rfl) rfl rfl ?_
    refine rr_call rfl rfl rfl rfl (tclear_tr tk k (adN4 N epoch ns).tok (htok4 ▸ ht) (by rw [htok4]; exact htl)) inferInstance rfl (sd0 rfl) (fun _ => sd0 rfl) rfl (fun v => ?_)
    refine RR.ex1 fun cc => ?_
    refine RR.pu2 ?_
    rintro rfl
    refine rr_nil ?_
    refine CC.cls (nodeR V n d c X ⟨(adN4 N epoch ns).store, ⟨0, 0, 0⟩, (adN4 N epoch ns).id, (adN4 N epoch ns).ring, killT (adN4 N epoch ns).tok (fun _ => true), (adN4 N epoch ns).waits, (adN4 N epoch ns).reads, (adN4 N epoch ns).asked, (adN4 N epoch ns).msgs, (adN4 N epoch ns).reps⟩) (nodeRaw n d c st le tk (adN4 N epoch ns).id rg X wv rv (adN4 N epoch ns).asked mv lv (adN4 N epoch ns).store ⟨0, 0, 0⟩ (killT (adN4 N epoch ns).tok (fun _ => true)) (adN4 N epoch ns).waits (adN4 N epoch ns).reads M (adN4 N epoch ns).reps) (nodeR_mk V n d c st le tk (adN4 N epoch ns).id rg X wv rv (adN4 N epoch ns).asked mv lv (adN4 N epoch ns).store ⟨0, 0, 0⟩ (killT (adN4 N epoch ns).tok (fun _ => true)) (adN4 N epoch ns).waits (adN4 N epoch ns).reads M (adN4 N epoch ns).reps h1 h2 h3) ?_
    refine cc_seq ?_
    refine cc_region ?_
    refine rr_move rfl rfl ?_
    refine rr_call rfl rfl rfl rfl (nstill_tr V n d c X ⟨(adN4 N epoch ns).store, ⟨0, 0, 0⟩, (adN4 N epoch ns).id, (adN4 N epoch ns).ring, killT (adN4 N epoch ns).tok (fun _ => true), (adN4 N epoch ns).waits, (adN4 N epoch ns).reads, (adN4 N epoch ns).asked, (adN4 N epoch ns).msgs, (adN4 N epoch ns).reps⟩) inferInstance rfl (sd0 rfl) (fun _ => sd0 rfl) rfl (fun v => ?_)
    first | refine RR.pu2 ?_ | refine RR.pu ?_
    rintro rfl
    refine rr_nil ?_
    refine cc_seq ?_
    refine cc_seq ?_
    rw [hw4]
    refine CC.node V n d c movX0 ⟨(adN4 N epoch ns).store, ⟨0, 0, 0⟩, (adN4 N epoch ns).id, (adN4 N epoch ns).ring, killT (adN4 N epoch ns).tok (fun _ => true), [], (adN4 N epoch ns).reads, (adN4 N epoch ns).asked, (adN4 N epoch ns).msgs, (adN4 N epoch ns).reps⟩ fun st le tk rg wv rv mv lv M h1 h2 h3 => ?_
    simp only at h1 h2 ⊢
    refine CC.slv wv fun wb wc hwv _ => ?_
    subst hwv
    refine cc_region ?_
    refine rr_move rfl rfl ?_
    refine rr_nilCheck rfl rfl ?_
    refine r_fa rfl rfl ?_
    refine r_ld rfl (ls0 rfl) rfl rfl ?_
    refine r_lens rfl rfl ?_
    refine rr_move rfl rfl ?_
    refine rr_nil ?_
    refine cc_block ?_
    refine cc_loopW (α := Nat) (fun j => [(86, i64 0), (85, i64 0), (0, ptr n)]) (fun j => bl n 57 [ptr st, ptr le, i64 (adN4 N epoch ns).id, rg, ptr tk, .bool movX0.knows, movX0.pv, movX0.ov, movX0.iv, .slice wb ([] : List WaitS).length wc, rv, i64 (adN4 N epoch ns).asked, mv, lv] *
      (storeR st d (adN4 N epoch ns).store * (leaseR le c ⟨0, 0, 0⟩ * (tokR tk (killT (adN4 N epoch ns).tok (fun _ => true)) * (slR rv 75 5 (adN4 N epoch ns).reads.length ((adN4 N epoch ns).reads.flatMap readV) *
    (slR mv 66 21 M.length (M.flatMap msgV2) * (slR lv 41 6 (adN4 N epoch ns).reps.length ((adN4 N epoch ns).reps.flatMap repV) * (poolR V * F)))))))) (fun j => j) (0) (by ((repeat' (first | exact covers_nil | (refine covers_cons ?_ ?_; focus (first | rfl | (simp [lk, lk?]; done))))) ; (first | done | fail))) (by exact entW_fr) ?_
    rintro j f
    refine cc_seq ?_
    refine cc_region ?_
    refine r_int rfl rfl rfl rfl ?_
    refine rr_nil ?_
    refine cc_seq ?_
    refine cc_condF rfl ?_
    refine cc_exit ?_
    refine cc_region ?_
    refine rr_move rfl rfl ?_
    refine rr_nilCheck rfl rfl ?_
    refine r_fa rfl rfl ?_
    refine r_st rfl rfl rfl rfl (sd0 rfl) (sd0 rfl) ?_
    refine rr_nil ?_
    refine ⟨_, rfl, ?_⟩
    refine (entW_ent (ent_nil 100 7)).trans ?_
    refine entW_ex2 V (entW_pu2 ⟨rfl, hq1⟩ ?_)
    exact entW_cls (nodeR V n d c movX0 (adoptN N epoch ns)) (bl n 57 [ptr st, ptr le, i64 (adN4 N epoch ns).id, rg, ptr tk, .bool movX0.knows, movX0.pv, movX0.ov, movX0.iv, .slice none 0 0, rv, i64 (adN4 N epoch ns).asked, mv, lv] *
      (storeR st d (adN4 N epoch ns).store * (leaseR le c ⟨0, 0, 0⟩ * (tokR tk (killT (adN4 N epoch ns).tok (fun _ => true)) * (slR (.slice none 0 0) 100 7 0 [] * (slR rv 75 5 (adN4 N epoch ns).reads.length ((adN4 N epoch ns).reads.flatMap readV) *
    (slR mv 66 21 M.length (M.flatMap msgV2) * slR lv 41 6 (adN4 N epoch ns).reps.length ((adN4 N epoch ns).reps.flatMap repV)))))))) (nodeR_mk V n d c st le tk (adN4 N epoch ns).id rg movX0 (.slice none 0 0) rv (adN4 N epoch ns).asked mv lv (adN4 N epoch ns).store ⟨0, 0, 0⟩ (killT (adN4 N epoch ns).tok (fun _ => true)) [] (adN4 N epoch ns).reads M (adN4 N epoch ns).reps h1 h2 h3) entW_fr
end Go.Proofs.YtoiakcgdkegncaaGreat

namespace Go.Proofs.YtoiakcgdkegncaaGreat
open Go.RowKit Ice
attribute [local irreducible] CC RR Tr stir mixOf mixPoint ptsOf leaseGood appD putC addC flushD killS killT hasS dropsC supW metaText wipeC
def takeN (N : NodeS) (now sent epoch : Int) : NodeS := { N with lease := (leaseTake N.lease now sent epoch).2 }
theorem ngrant_tr (U : Pool) (n d c : Nat) (now : Int) (X X2 : MovX) (N N2 : NodeS) (m : MsgS) (L : MsgL) (hm : msgIn U m L) (hkind : m.kind = 2) (hup : N.store.mt.epoch ≤ m.epoch) (h0 : 0 ≤ now) (h1' : now ≤ 2 ^ 41) (h2' : -(2 ^ 50) ≤ m.tick) (h3' : m.tick ≤ 2 ^ 50)
    (hA : Tr Tryz.prog 68 #[ptr n, i64 m.epoch, L.ev] (nodeR U n d c X N * poolR U) (fun r => ex fun V : Pool => pu (r = unit ∧ Sub U V) * (nodeR V n d c X2 N2 * poolR V))) :
    Tr Tryz.prog 33 #[ptr n, msgA m L] (nodeR U n d c X N * (poolR U * clockR c now)) (fun r => ex fun V : Pool => pu (r = unit ∧ Sub U V) * (nodeR V n d c X2 (takeN N2 now m.tick m.epoch) * (poolR V * clockR c now))) := by
  have hone := hm.one
  refine tr_body Tryz.func33 (by kernel_rfl) rfl Tryz.ntmps33 rfl (L := [(0, ptr n), (1, msgA m L)]) (covers_cons rfl (covers_cons rfl covers_nil)) rfl ?_
  intro F w0 f
  refine CC.node U n d c X N fun st le tk rg wv rv mv lv M h1 h2 h3 => ?_
  refine CC.opn (storeR st d N.store) rfl fun q => ?_
  refine cc_seq ?_
  refine cc_region ?_
  refine r_boxa (vs := msgV m L) rfl rfl (sd0 rfl) (fun _ => sd0 rfl) (fun p0_0 => ?_)
  refine rr_nil ?_
  refine cc_seq ?_
  refine cc_region ?_
  refine rr_move rfl rfl ?_
  refine rr_nilCheck rfl rfl ?_
  refine r_fa rfl rfl ?_
  refine r_ld rfl (ls0 rfl) rfl rfl ?_
  refine rr_nilCheck rfl rfl ?_
  refine r_fa rfl rfl ?_
  refine r_ld rfl (ls0 rfl) rfl rfl ?_
  refine rr_call rfl rfl rfl rfl (mmetaR_tr q.2.2 d N.store.mt N.store.turn N.store.slot) inferInstance rfl (sd0 rfl) (fun _ => sd0 rfl) rfl (fun v => ?_)
  first | refine RR.pu2 ?_ | refine RR.pu ?_
  rintro rfl
  refine r_fld rfl rfl rfl ?_
  refine rr_assign rfl rfl ?_
  refine rr_nil ?_
  refine cc_seq ?_
  refine cc_seq ?_
  refine cc_region ?_
  refine r_fa rfl rfl ?_
  refine r_ld rfl (ls0 rfl) rfl rfl ?_
  refine rr_move rfl rfl ?_
  refine r_int rfl rfl rfl rfl ?_
  rw [show decide (m.epoch < N.store.mt.epoch) = false by simp; omega]
  refine rr_move rfl rfl ?_
  refine rr_guardY rfl rfl rfl ?_
  refine r_fa rfl rfl ?_
  refine rr_guardY rfl rfl rfl ?_
  refine r_ld rfl (ls0 rfl) rfl rfl ?_
  refine rr_guardY rfl rfl rfl ?_
  refine rr_move rfl rfl ?_
  refine rr_guardY rfl rfl rfl ?_
  refine r_int rfl rfl rfl rfl ?_
  refine rr_guardY rfl rfl rfl ?_
  refine rr_move rfl rfl ?_
  refine rr_guard rfl rfl rfl (fun hg2_9 => ?_) (fun hg2_9 => ?_)
  · refine r_fa rfl rfl ?_
    refine rr_guardY rfl rfl rfl ?_
    refine r_ld rfl (ls0 rfl) rfl rfl ?_
    refine rr_guardY rfl rfl rfl ?_
    refine r_int rfl rfl rfl rfl ?_
    rw [hkind]
    refine rr_guardY rfl rfl rfl ?_
    first | refine rr_pick rfl rfl ?_ | refine rr_pickb rfl rfl rfl rfl ?_
    first | refine rr_pick rfl rfl ?_ | refine rr_pickb rfl rfl rfl rfl ?_
    refine rr_nil ?_
    refine cc_condF rfl ?_
    refine cc_skip ?_
    refine cc_seq ?_
    refine CC.cls (storeR st d N.store) (bl st 84 [ptr q.1, ptr q.2.1, ptr q.2.2, i64 N.store.boot] * (cacheR q.1 d N.store.cache * (journalR q.2.1 d N.store.jour * (keeperR q.2.2 d N.store.mt N.store.turn N.store.slot * devR d N.store.dev)))) (storeR_mk st d q.1 q.2.1 q.2.2 N.store) ?_
    refine CC.cls (nodeR U n d c X N) (nodeRaw n d c st le tk N.id rg X wv rv N.asked mv lv N.store N.lease N.tok N.waits N.reads M N.reps) (nodeR_mk U n d c st le tk N.id rg X wv rv N.asked mv lv N.store N.lease N.tok N.waits N.reads M N.reps h1 h2 h3) ?_
    refine cc_region ?_
    refine rr_move rfl rfl ?_
    refine r_fa rfl rfl ?_
    refine r_ld rfl (ls0 rfl) rfl rfl ?_
    refine r_fa rfl rfl ?_
    refine r_ld rfl (ls0 rfl) rfl rfl ?_
    refine rr_call rfl rfl rfl rfl (hA) inferInstance rfl (sd0 rfl) (fun _ => sd0 rfl) rfl (fun v => ?_)
    refine RR.ex1 fun V => ?_
    refine RR.pu2 fun hqq => ?_
    obtain ⟨rfl, hq1⟩ := hqq
    refine rr_nil ?_
    refine cc_seq ?_
    refine cc_region ?_
    refine r_fa rfl rfl ?_
    refine r_ld rfl (ls0 rfl) rfl rfl ?_
    refine r_int rfl rfl rfl rfl ?_
    rw [hkind]
    refine rr_nil ?_
    refine cc_condT rfl ?_
    refine CC.node V n d c X2 N2 fun st le tk rg wv rv mv lv M h1 h2 h3 => ?_
    refine cc_draw (bl n 57 [ptr st, ptr le, i64 N2.id, rg, ptr tk, .bool X2.knows, X2.pv, X2.ov, X2.iv, wv, rv, i64 N2.asked, mv, lv] * bl p0_0 66 (msgV m L)) [] [] mixed (by decide +kernel) ?_
    refine rr_move rfl rfl ?_
    refine rr_nilCheck rfl rfl ?_
    refine r_fa rfl rfl ?_
    refine r_ld rfl (ls0 rfl) rfl rfl ?_
    refine r_fa rfl rfl ?_
    refine r_ld rfl (ls0 rfl) rfl rfl ?_
    refine r_fa rfl rfl ?_
    refine r_ld rfl (ls0 rfl) rfl rfl ?_
    refine rr_call rfl rfl rfl rfl (ltake_tr le c now m.tick m.epoch N2.lease h0 h1' h2' h3') inferInstance rfl (sd0 rfl) (fun _ => sd0 rfl) rfl (fun v => ?_)
    first | refine RR.pu2 ?_ | refine RR.pu ?_
    rintro rfl
    refine rr_nil ?_
    refine ⟨_, rfl, entW_ex2 V (entW_pu2 ⟨rfl, hq1⟩ ?_)⟩
    exact entW_cls (nodeR V n d c X2 (takeN N2 now m.tick m.epoch)) (nodeRaw n d c st le tk N2.id rg X2 wv rv N2.asked mv lv N2.store (leaseTake N2.lease now m.tick m.epoch).2 N2.tok N2.waits N2.reads M N2.reps) (nodeR_mk V n d c st le tk N2.id rg X2 wv rv N2.asked mv lv N2.store (leaseTake N2.lease now m.tick m.epoch).2 N2.tok N2.waits N2.reads M N2.reps h1 h2 h3) entW_fr
  · refine rr_guardN rfl rfl rfl rfl ?_
    refine rr_guardN rfl rfl rfl rfl ?_
    refine rr_guardY rfl rfl rfl ?_
    first | refine rr_pick rfl rfl ?_ | refine rr_pickb rfl rfl rfl rfl ?_
    first | refine rr_pick rfl rfl ?_ | refine rr_pickb rfl rfl rfl rfl ?_
    refine rr_nil ?_
    refine cc_condF rfl ?_
    refine cc_skip ?_
    refine cc_seq ?_
    refine CC.cls (storeR st d N.store) (bl st 84 [ptr q.1, ptr q.2.1, ptr q.2.2, i64 N.store.boot] * (cacheR q.1 d N.store.cache * (journalR q.2.1 d N.store.jour * (keeperR q.2.2 d N.store.mt N.store.turn N.store.slot * devR d N.store.dev)))) (storeR_mk st d q.1 q.2.1 q.2.2 N.store) ?_
    refine CC.cls (nodeR U n d c X N) (nodeRaw n d c st le tk N.id rg X wv rv N.asked mv lv N.store N.lease N.tok N.waits N.reads M N.reps) (nodeR_mk U n d c st le tk N.id rg X wv rv N.asked mv lv N.store N.lease N.tok N.waits N.reads M N.reps h1 h2 h3) ?_
    refine cc_region ?_
    refine rr_move rfl rfl ?_
    refine r_fa rfl rfl ?_
    refine r_ld rfl (ls0 rfl) rfl rfl ?_
    refine r_fa rfl rfl ?_
    refine r_ld rfl (ls0 rfl) rfl rfl ?_
    refine rr_call rfl rfl rfl rfl (hA) inferInstance rfl (sd0 rfl) (fun _ => sd0 rfl) rfl (fun v => ?_)
    refine RR.ex1 fun V => ?_
    refine RR.pu2 fun hqq => ?_
    obtain ⟨rfl, hq1⟩ := hqq
    refine rr_nil ?_
    refine cc_seq ?_
    refine cc_region ?_
    refine r_fa rfl rfl ?_
    refine r_ld rfl (ls0 rfl) rfl rfl ?_
    refine r_int rfl rfl rfl rfl ?_
    rw [hkind]
    refine rr_nil ?_
    refine cc_condT rfl ?_
    refine CC.node V n d c X2 N2 fun st le tk rg wv rv mv lv M h1 h2 h3 => ?_
    refine cc_draw (bl n 57 [ptr st, ptr le, i64 N2.id, rg, ptr tk, .bool X2.knows, X2.pv, X2.ov, X2.iv, wv, rv, i64 N2.asked, mv, lv] * bl p0_0 66 (msgV m L)) [] [] mixed (by decide +kernel) ?_
    refine rr_move rfl rfl ?_
    refine rr_nilCheck rfl rfl ?_
    refine r_fa rfl rfl ?_
    refine r_ld rfl (ls0 rfl) rfl rfl ?_
    refine r_fa rfl rfl ?_
    refine r_ld rfl (ls0 rfl) rfl rfl ?_
    refine r_fa rfl rfl ?_
    refine r_ld rfl (ls0 rfl) rfl rfl ?_
    refine rr_call rfl rfl rfl rfl (ltake_tr le c now m.tick m.epoch N2.lease h0 h1' h2' h3') inferInstance rfl (sd0 rfl) (fun _ => sd0 rfl) rfl (fun v => ?_)
    first | refine RR.pu2 ?_ | refine RR.pu ?_
    rintro rfl
    refine rr_nil ?_
    refine ⟨_, rfl, entW_ex2 V (entW_pu2 ⟨rfl, hq1⟩ ?_)⟩
    exact entW_cls (nodeR V n d c X2 (takeN N2 now m.tick m.epoch)) (nodeRaw n d c st le tk N2.id rg X2 wv rv N2.asked mv lv N2.store (leaseTake N2.lease now m.tick m.epoch).2 N2.tok N2.waits N2.reads M N2.reps) (nodeR_mk V n d c st le tk N2.id rg X2 wv rv N2.asked mv lv N2.store (leaseTake N2.lease now m.tick m.epoch).2 N2.tok N2.waits N2.reads M N2.reps h1 h2 h3) entW_fr
end Go.Proofs.YtoiakcgdkegncaaGreat

namespace Go.Proofs.YtoiakcgdkegncaaGreat
open Go.RowKit Ice
attribute [local irreducible] CC RR Tr stir mixOf mixPoint ptsOf leaseGood appD putC addC flushD killS killT hasS dropsC supW metaText wipeC
theorem nstep_grant_tr (U : Pool) (n d c : Nat) (now : Int) (X X2 : MovX) (N N2 : NodeS) (m : MsgS) (L : MsgL) (hm : msgIn U m L) (hmay : mayMsg m = true) (hkind : m.kind = 2) (hto : m.to_ = N.id) (hpm : mayP m.members = true) (hl1 : m.members.length ≤ 2 ^ 20) (hl2 : m.old.length ≤ 2 ^ 20)
    (hG : Tr Tryz.prog 33 #[ptr n, msgA m L] (nodeR U n d c X N * (poolR U * clockR c now)) (fun r => ex fun V : Pool => pu (r = unit ∧ Sub U V) * (nodeR V n d c X2 N2 * (poolR V * clockR c now)))) :
    Tr Tryz.prog 13 #[ptr n, msgA m L] (nodeR U n d c X N * (poolR U * clockR c now))
      (fun v => ex fun V : Pool => pu (Sub U V) * (outR V v N2.msgs N2.reps * (nodeR V n d c X2 (didN N2) * (poolR V * clockR c now)))) := by
  have hone := hm.one
  refine tr_bodyR Tryz.func13 (by kernel_rfl) rfl Tryz.ntmps13 rfl (L := [(0, ptr n), (1, msgA m L)]) (covers_cons rfl (covers_cons rfl covers_nil)) rfl ?_
  intro F w0 f
  refine CC.node U n d c X N fun st le tk rg wv rv mv lv M h1 h2 h3 => ?_
  refine CC.opn (storeR st d N.store) rfl fun q => ?_
  refine cc_seq ?_
  refine cc_region ?_
  refine r_boxa (vs := msgV m L) rfl rfl (sd0 rfl) (fun _ => sd0 rfl) (fun p0_0 => ?_)
  refine r_alloc rfl (sd0 rfl) (fun _ => sd0 rfl) (fun p0_1 => ?_)
  refine rr_nil ?_
  refine cc_seq ?_
  refine cc_seq ?_
  refine cc_draw (bl n 57 [ptr st, ptr le, i64 N.id, rg, ptr tk, .bool X.knows, X.pv, X.ov, X.iv, wv, rv, i64 N.asked, mv, lv] * bl p0_0 66 (msgV m L)) [] [] mixed (by decide +kernel) ?_
  refine rr_move rfl rfl ?_
  refine r_pnil rfl rfl rfl ?_
  refine rr_move rfl rfl ?_
  refine rr_guardY rfl rfl rfl ?_
  refine r_fa rfl rfl ?_
  refine rr_guardY rfl rfl rfl ?_
  refine r_ld rfl (ls0 rfl) rfl rfl ?_
  refine rr_guardY rfl rfl rfl ?_
  refine rr_move rfl rfl ?_
  refine rr_guardY rfl rfl rfl ?_
  refine rr_nilCheck rfl rfl ?_
  refine rr_guardY rfl rfl rfl ?_
  refine r_fa rfl rfl ?_
  refine rr_guardY rfl rfl rfl ?_
  refine r_ld rfl (ls0 rfl) rfl rfl ?_
  refine rr_guardY rfl rfl rfl ?_
  refine r_int rfl rfl rfl rfl ?_
  rw [hto, show (N.id != N.id) = false by simp]
  first | refine rr_pick rfl rfl ?_ | refine rr_pickb rfl rfl rfl rfl ?_
  refine rr_move rfl rfl ?_
  refine rr_guardY rfl rfl rfl ?_
  refine r_lda rfl (by first | exact ls0 rfl | exact ls1 rfl) (vs := msgV m L) rfl rfl ?_
  refine rr_guardY rfl rfl rfl ?_
  refine rr_call rfl rfl rfl rfl (msgMay_tr U m L hm hmay hl1 hl2) inferInstance rfl (sd0 rfl) (fun _ => sd0 rfl) rfl (fun v => ?_)
  first | refine RR.pu2 ?_ | refine RR.pu ?_
  rintro rfl
  refine rr_guardY rfl rfl rfl ?_
  refine r_not rfl rfl ?_
  first | refine rr_pick rfl rfl ?_ | refine rr_pickb rfl rfl rfl rfl ?_
  refine rr_nil ?_
  refine cc_condF rfl ?_
  refine cc_skip ?_
  refine cc_seq ?_
  refine cc_region ?_
  refine rr_move rfl rfl ?_
  refine rr_nilCheck rfl rfl ?_
  refine r_fa rfl rfl ?_
  refine r_ld rfl (ls0 rfl) rfl rfl ?_
  refine rr_nilCheck rfl rfl ?_
  refine r_fa rfl rfl ?_
  refine r_ld rfl (ls0 rfl) rfl rfl ?_
  refine rr_call rfl rfl rfl rfl (mmetaR_tr q.2.2 d N.store.mt N.store.turn N.store.slot) inferInstance rfl (sd0 rfl) (fun _ => sd0 rfl) rfl (fun v => ?_)
  first | refine RR.pu2 ?_ | refine RR.pu ?_
  rintro rfl
  refine r_fld rfl rfl rfl ?_
  refine rr_assign rfl rfl ?_
  refine rr_nil ?_
  refine CC.cls (storeR st d N.store) (bl st 84 [ptr q.1, ptr q.2.1, ptr q.2.2, i64 N.store.boot] * (cacheR q.1 d N.store.cache * (journalR q.2.1 d N.store.jour * (keeperR q.2.2 d N.store.mt N.store.turn N.store.slot * devR d N.store.dev)))) (storeR_mk st d q.1 q.2.1 q.2.2 N.store) ?_
  refine CC.cls (nodeR U n d c X N) (nodeRaw n d c st le tk N.id rg X wv rv N.asked mv lv N.store N.lease N.tok N.waits N.reads M N.reps) (nodeR_mk U n d c st le tk N.id rg X wv rv N.asked mv lv N.store N.lease N.tok N.waits N.reads M N.reps h1 h2 h3) ?_
  refine cc_seq ?_
  refine cc_region ?_
  refine rr_move rfl rfl ?_
  refine r_int rfl rfl rfl rfl ?_
  refine rr_move rfl rfl ?_
  refine rr_guard rfl rfl rfl (fun hg4_2 => ?_) (fun hg4_2 => ?_)
  · refine r_fa rfl rfl ?_
    refine rr_guardY rfl rfl rfl ?_
    refine r_ld rfl (ls0 rfl) rfl rfl ?_
    refine rr_guardY rfl rfl rfl ?_
    refine rr_move rfl rfl ?_
    refine rr_guardY rfl rfl rfl ?_
    refine r_int rfl rfl rfl rfl ?_
    first | refine rr_pick rfl rfl ?_ | refine rr_pickb rfl rfl rfl rfl ?_
    refine rr_assign rfl rfl ?_
    refine rr_nil ?_
    refine cc_seq ?_
    refine cc_seq ?_
    refine cc_region ?_
    refine r_fa rfl rfl ?_
    refine r_ld rfl (ls0 rfl) rfl rfl ?_
    refine rr_nil ?_
    refine cc_block ?_
    refine cc_seq ?_
    refine cc_seq ?_
    refine cc_region ?_
    refine r_int rfl rfl rfl rfl ?_
    rw [hkind]
    refine rr_assign rfl rfl ?_
    refine rr_nil ?_
    refine cc_condT rfl ?_
    refine cc_skip ?_
    refine cc_condT rfl ?_
    refine cc_seq ?_
    refine cc_region ?_
    refine r_fa rfl rfl ?_
    refine r_ld rfl (ls0 rfl) rfl rfl ?_
    refine rr_call rfl rfl rfl rfl (ptsMay_tr L.ev m.members (poolR U) hm.2.2.1.view hl1) inferInstance rfl (sd0 rfl) (fun _ => sd0 rfl) rfl (fun v => ?_)
    first | refine RR.pu2 ?_ | refine RR.pu ?_
    rintro rfl
    rw [hpm]
    refine rr_nil ?_
    refine cc_condT rfl ?_
    refine cc_region ?_
    refine rr_move rfl rfl ?_
    refine r_lda rfl (ls0 rfl) (vs := msgV m L) rfl rfl ?_
    refine rr_call rfl rfl rfl rfl (hG) inferInstance rfl (sd0 rfl) (fun _ => sd0 rfl) rfl (fun v => ?_)
    refine RR.ex1 fun V => ?_
    refine RR.pu2 fun hqq => ?_
    obtain ⟨rfl, hq0⟩ := hqq
    refine rr_nil ?_
    refine cc_seq ?_
    refine cc_region ?_
    refine rr_move rfl rfl ?_
    refine rr_call rfl rfl rfl rfl (ndid_tr V n d c X2 N2) inferInstance rfl (sd0 rfl) (fun _ => sd0 rfl) rfl (fun v => ?_)
    refine RR.opn (outR V v N2.msgs N2.reps) rfl fun q => ?_
    refine RR.pu2 fun hq => ?_
    obtain ⟨rfl, hq1, hq2⟩ := hq
    obtain ⟨qm, ql, qM⟩ := q
    simp only at hq1 hq2 ⊢
    refine RR.slv qm fun qb qc hqm _ => ?_
    subst hqm
    refine RR.slv ql fun rb2 rc2 hql _ => ?_
    subst hql
    refine r_sta rfl rfl rfl rfl rfl (by first | exact Nat.le_of_ble_eq_true rfl | simp) (sd0 rfl) (sd0 rfl) ?_
    refine rr_nil ?_
    refine cc_ret ?_
    refine ⟨_, .agg inferInstance rfl inferInstance rfl .nil, entW_ex2 V (entW_pu2 hq0 ?_)⟩
    exact entW_cls (outR V (.agg #[.slice qb qM.length qc, .slice rb2 N2.reps.length rc2]) N2.msgs N2.reps) (slR (.slice qb qM.length qc) 66 21 qM.length (qM.flatMap msgV2) * slR (.slice rb2 N2.reps.length rc2) 41 6 N2.reps.length (N2.reps.flatMap repV)) (outR_mk V _ _ qM _ _ hq1 hq2) entW_fr
  · refine rr_guardN rfl rfl rfl rfl ?_
    refine rr_guardN rfl rfl rfl rfl ?_
    refine rr_guardN rfl rfl rfl rfl ?_
    first | refine rr_pick rfl rfl ?_ | refine rr_pickb rfl rfl rfl rfl ?_
    refine rr_assign rfl rfl ?_
    refine rr_nil ?_
    refine cc_seq ?_
    refine cc_seq ?_
    refine cc_region ?_
    refine r_fa rfl rfl ?_
    refine r_ld rfl (ls0 rfl) rfl rfl ?_
    refine rr_nil ?_
    refine cc_block ?_
    refine cc_seq ?_
    refine cc_seq ?_
    refine cc_region ?_
    refine r_int rfl rfl rfl rfl ?_
    rw [hkind]
    refine rr_assign rfl rfl ?_
    refine rr_nil ?_
    refine cc_condT rfl ?_
    refine cc_skip ?_
    refine cc_condT rfl ?_
    refine cc_seq ?_
    refine cc_region ?_
    refine r_fa rfl rfl ?_
    refine r_ld rfl (ls0 rfl) rfl rfl ?_
    refine rr_call rfl rfl rfl rfl (ptsMay_tr L.ev m.members (poolR U) hm.2.2.1.view hl1) inferInstance rfl (sd0 rfl) (fun _ => sd0 rfl) rfl (fun v => ?_)
    first | refine RR.pu2 ?_ | refine RR.pu ?_
    rintro rfl
    rw [hpm]
    refine rr_nil ?_
    refine cc_condT rfl ?_
    refine cc_region ?_
    refine rr_move rfl rfl ?_
    refine r_lda rfl (ls0 rfl) (vs := msgV m L) rfl rfl ?_
    refine rr_call rfl rfl rfl rfl (hG) inferInstance rfl (sd0 rfl) (fun _ => sd0 rfl) rfl (fun v => ?_)
    refine RR.ex1 fun V => ?_
    refine RR.pu2 fun hqq => ?_
    obtain ⟨rfl, hq0⟩ := hqq
    refine rr_nil ?_
    refine cc_seq ?_
    refine cc_region ?_
    refine rr_move rfl rfl ?_
    refine rr_call rfl rfl rfl rfl (ndid_tr V n d c X2 N2) inferInstance rfl (sd0 rfl) (fun _ => sd0 rfl) rfl (fun v => ?_)
    refine RR.opn (outR V v N2.msgs N2.reps) rfl fun q => ?_
    refine RR.pu2 fun hq => ?_
    obtain ⟨rfl, hq1, hq2⟩ := hq
    obtain ⟨qm, ql, qM⟩ := q
    simp only at hq1 hq2 ⊢
    refine RR.slv qm fun qb qc hqm _ => ?_
    subst hqm
    refine RR.slv ql fun rb2 rc2 hql _ => ?_
    subst hql
    refine r_sta rfl rfl rfl rfl rfl (by first | exact Nat.le_of_ble_eq_true rfl | simp) (sd0 rfl) (sd0 rfl) ?_
    refine rr_nil ?_
    refine cc_ret ?_
    refine ⟨_, .agg inferInstance rfl inferInstance rfl .nil, entW_ex2 V (entW_pu2 hq0 ?_)⟩
    exact entW_cls (outR V (.agg #[.slice qb qM.length qc, .slice rb2 N2.reps.length rc2]) N2.msgs N2.reps) (slR (.slice qb qM.length qc) 66 21 qM.length (qM.flatMap msgV2) * slR (.slice rb2 N2.reps.length rc2) 41 6 N2.reps.length (N2.reps.flatMap repV)) (outR_mk V _ _ qM _ _ hq1 hq2) entW_fr
end Go.Proofs.YtoiakcgdkegncaaGreat

namespace Go.Proofs.YtoiakcgdkegncaaGreat
open Go.RowKit Ice
attribute [local irreducible] CC RR Tr stir mixOf mixPoint ptsOf appD putC addC flushD killS killT hasS dropsC supW metaText wipeC
theorem mt1_ok : (⟨1, 0, 0, false⟩ : MetaS).ok := ⟨by decide, by decide, by decide, by decide, by decide, by decide, .inl rfl, fun h => by cases h⟩
theorem makeS_ok (D : DevS) (h : 192 ≤ D.length) (h2 : D.length ≤ 2048) : StoreOK (makeS D) D.length 10 := by
  have hL : (supMake (blank D D.length) 0 (metaText meta0)).length = D.length := by simp [supMake]
  have hsg : 3 ≤ segsN (supMake (blank D D.length) 0 (metaText meta0)).length ∧ segsN (supMake (blank D D.length) 0 (metaText meta0)).length ≤ 200 ∧ 162 + segsN (supMake (blank D D.length) 0 (metaText meta0)).length * 8 ≤ D.length := by
    rw [hL]; unfold segsN; omega
  unfold makeS partS
  refine ⟨by simp [supMake], ⟨⟨by show 1 ≤ segsN _; omega, hsg.2.1, hsg.2.2, ?_, by simp, ?_, ?_, by simp, by simp⟩, ⟨?_, ?_, ?_⟩, idx0_ok⟩,
    ⟨⟨by simp, by simp, by show 2 + 20 * 8 ≤ _; omega, ?_, by simp, ?_, ?_, by simp, by simp⟩, ⟨?_, ?_, ?_⟩, by simp, ?_⟩, mt1_ok, by simp, by simp⟩ <;> (intro x hx; cases hx)
end Go.Proofs.YtoiakcgdkegncaaGreat

namespace Go.Proofs.YtoiakcgdkegncaaGreat
open Go.RowKit Ice
attribute [local irreducible] CC RR Tr stir mixOf mixPoint ptsOf appD putC addC flushD killS hasS dropsC supW metaText
def storeF (D : DevS) (e : Int) : StoreS := saveS (wipeS (makeS D)) ⟨1, e, 0, false⟩
def firstN (D : DevS) (e : Int) : NodeS := ⟨storeF D e, ⟨e, 20, e⟩, 1, some (e, [1]), ⟨0, []⟩, [], [], 0, [], []⟩
def grantM (e : Int) : MsgS := { msg0 with kind := 2, to_ := 1, epoch := e, members := [1] }
def grantL (p : Nat) : MsgL := ⟨nilS, nilS, .slice (some ⟨p, 0, none⟩) 1 1, nilS⟩
theorem keys0 : keysI idx0 = [] := by
  have h : (rawKeys idx0.t) = [] := by decide
  unfold keysI; rw [h]
  exact List.length_eq_zero_iff.1 (sortT_len (by simp))
theorem adWS0 (D : DevS) (e : Int) (he : 1 ≤ e) : adWS (begunN 1 (makeS D)) e = wipeS (makeS D) := by
  rw [adWS, if_neg]; · rfl
  show ¬ e = 0; omega
theorem adopt0 (D : DevS) (e : Int) (he : 1 ≤ e) : adoptN (begunN 1 (makeS D)) e [1] = { firstN D e with lease := ⟨0, 0, 0⟩ } := by
  have h1 : adN3 (begunN 1 (makeS D)) e [1] = ⟨storeF D e, ⟨0, 0, 0⟩, 1, some (e, [1]), ⟨0, []⟩, [], [], 0, [], []⟩ := by
    unfold adN3 adS; rw [adWS0 D e he]; rfl
  have h2 : adN4 (begunN 1 (makeS D)) e [1] = ⟨storeF D e, ⟨0, 0, 0⟩, 1, some (e, [1]), ⟨0, []⟩, [], [], 0, [], []⟩ := by
    unfold adN4; rw [h1]
    unfold strangeN; simp only
    unfold dropsN
    rw [if_neg]
    simp only [storeF, saveS, wipeS, wipeC, keys0]; simp
  unfold adoptN; rw [h2]; rfl
theorem take0 (D : DevS) (e : Int) (he : 1 ≤ e) : takeN { firstN D e with lease := ⟨0, 0, 0⟩ } 0 0 e = firstN D e := by
  have : leaseTake ⟨0, 0, 0⟩ 0 0 e = (true, ⟨e, 20, e⟩) := by
    rw [leaseTake, if_neg (by simp [sinceI]; omega), if_neg (by simp; try omega)]
    rfl
  simp only [takeN, this]; rfl
theorem tok0_ok (k : Nat) : TokOK ⟨0, []⟩ k := ⟨by simp, by simp, by simp, by simp⟩
theorem nfirst_tr (n d c p : Nat) (D : DevS) (e : Int) (he : 1 ≤ e) (he2 : e ≤ 5) (hD : 192 ≤ D.length) (hD2 : D.length ≤ 2048) :
    Tr Tryz.prog 13 #[ptr n, msgA (grantM e) (grantL p)] (nodeR [(p, 3, [i64 1])] n d c movX0 (begunN 1 (makeS D)) * (poolR [(p, 3, [i64 1])] * clockR c 0))
      (fun v => ex fun V : Pool => pu (Sub [(p, 3, [i64 1])] V) * (outR V v [] [] * (nodeR V n d c movX0 (firstN D e) * (poolR V * clockR c 0)))) := by
  have hin : inSl [(p, 3, [i64 1])] (.slice (some ⟨p, 0, none⟩) 1 1) 3 1 ([1] : List Int).length (([1] : List Int).map i64) := .inr ⟨p, 0, 1, [i64 1], rfl, by simp, by simp, by simp, by simp, rfl⟩
  have hm : msgIn [(p, 3, [i64 1])] (grantM e) (grantL p) := ⟨inSl.nil _ _ _, inSl.nil _ _ _, hin, inSl.nil _ _ _⟩
  have hmay : mayMsg (grantM e) = true := by
    rcases (by omega : e = 1 ∨ e = 2 ∨ e = 3 ∨ e = 4 ∨ e = 5) with rfl | rfl | rfl | rfl | rfl <;> decide
  have hs := makeS_ok D hD hD2
  have hA := nadopt_tr [(p, 3, [i64 1])] n d c D.length 10 movX0 (begunN 1 (makeS D)) (.slice (some ⟨p, 0, none⟩) 1 1) e [1] hin (by decide) (by decide) hs (tok0_ok 10) (by show 0 ≤ 2 ^ 40; omega) (by omega) (by omega) he (by omega)
    (by show e ≠ 0; omega) (by show (0 : Int) ≤ e; omega) rfl (by rw [adWS0 D e he]; simp only [wipeS, wipeC]; decide) (by rw [adWS0 D e he]; simp only [wipeS, wipeC]; rw [keys0]; intro k hk; cases hk)
  rw [adopt0 D e he] at hA
  have hG := ngrant_tr [(p, 3, [i64 1])] n d c 0 movX0 movX0 (begunN 1 (makeS D)) _ (grantM e) (grantL p) hm rfl (by show (0 : Int) ≤ e; omega) (by decide) (by decide) (by show -(2 ^ 50) ≤ (0 : Int); decide) (by show (0 : Int) ≤ 2 ^ 50; decide) hA
  rw [show (grantM e).tick = 0 from rfl, show (grantM e).epoch = e from rfl, take0 D e he] at hG
  exact nstep_grant_tr [(p, 3, [i64 1])] n d c 0 movX0 movX0 (begunN 1 (makeS D)) (firstN D e) (grantM e) (grantL p) hm hmay rfl rfl (by show mayP [1] = true; decide) (by show 1 ≤ 2 ^ 20; decide) (by show 0 ≤ 2 ^ 20; decide) hG
end Go.Proofs.YtoiakcgdkegncaaGreat

namespace Go.Proofs.YtoiakcgdkegncaaGreat
open Go.RowKit Ice
attribute [local irreducible] CC RR Tr stir mixOf mixPoint ptsOf appD putC addC flushD killS hasS dropsC supW metaText
def devN (n : Nat) : DevS := List.replicate n sec0
theorem devN_len (n : Nat) : (devN n).length = n := List.length_replicate
theorem newD_tr (n : Nat) (h1 : 1 ≤ n) (h2 : n ≤ 2048) : Tr Tryz.prog 11 #[i64 n] 1 (fun v => ex fun d => pu (v = ptr d) * devR d (devN n)) := new_tr n h1 h2
attribute [local irreducible] devN
theorem pool1 (p T : Nat) (cs : List Value) : Ent (bl p T cs) (poolR [(p, T, cs)]) := by
  show Ent _ (bl p T cs * 1)
  rw [sl_mul_one]; exact Ent.refl _
theorem alone_tr (c : Nat) : Tr Tryz.prog 5 #[ptr c] (clockR c 0)
    (fun v => ex fun q : Nat × Nat × Pool => pu (v = .tuple #[ptr q.1, ptr q.2.1]) * (nodeR q.2.2 q.1 q.2.1 c movX0 (firstN (devN 800) 1) * (poolR q.2.2 * clockR c 0))) := by
  refine tr_body Tryz.func5 (by kernel_rfl) rfl Tryz.ntmps5 rfl (L := [(0, ptr c)]) (covers_cons rfl covers_nil) rfl ?_
  intro F w0 f
  have hl : (devN 800).length = 800 := devN_len 800
  refine cc_seq ?_
  refine cc_region ?_
  refine rr_assign rfl rfl ?_
  refine rr_assign rfl rfl ?_
  refine rr_nil ?_
  refine cc_seq ?_
  refine cc_region ?_
  refine rr_call rfl rfl rfl rfl (newD_tr 800 (by omega) (by omega)) inferInstance rfl (sd0 rfl) (fun _ => sd0 rfl) rfl (fun v => ?_)
  refine RR.ex1 fun d => ?_
  refine RR.pu2 ?_
  rintro rfl
  refine rr_assign rfl rfl ?_
  refine rr_nil ?_
  refine cc_seq ?_
  refine cc_region ?_
  refine rr_move rfl rfl ?_
  refine rr_move rfl rfl ?_
  refine rr_call rfl rfl rfl rfl (nmake_tr [] 1 d c 0 (devN 800) (by omega) (by omega) (by omega)) inferInstance rfl (sd0 rfl) (fun _ => sd0 rfl) rfl (fun v => ?_)
  refine RR.ex1 fun n => ?_
  refine RR.pu2 ?_
  rintro rfl
  refine rr_move rfl rfl ?_
  refine rr_extract rfl rfl rfl ?_
  refine rr_extract rfl rfl rfl ?_
  refine rr_assign rfl rfl ?_
  refine rr_assign rfl rfl ?_
  refine rr_nil ?_
  refine cc_seq ?_
  refine cc_seq ?_
  refine cc_region ?_
  refine rr_move rfl rfl ?_
  refine r_int rfl rfl rfl rfl ?_
  refine rr_nil ?_
  refine cc_condF rfl ?_
  refine cc_skip ?_
  refine cc_seq ?_
  refine cc_region ?_
  refine rr_move rfl rfl ?_
  refine rr_move rfl rfl ?_
  refine rr_call rfl rfl rfl rfl (now_tr c 0) inferInstance rfl (sd0 rfl) (fun _ => sd0 rfl) rfl (fun v => ?_)
  first | refine RR.pu2 ?_ | refine RR.pu ?_
  rintro rfl
  refine r_bsl (cs := [i64 1]) rfl rfl rfl rfl rfl rfl (by first | exact sd0 rfl | exact sd1 rfl) (fun _ => by first | exact sd0 rfl | exact sd1 rfl) (fun p5_3 => ?_)
  refine RR.cl (X := bl p5_3 3 [i64 1]) (Y := poolR [(p5_3, 3, [i64 1])]) (pool1 _ _ _) ?_
  refine RR.cl (X := nodeR [] n d c movX0 (begunN 1 (makeS (devN 800)))) (Y := nodeR [(p5_3, 3, [i64 1])] n d c movX0 (begunN 1 (makeS (devN 800)))) (nodeR_mono (fun _ h => by cases h) _ _ _ _ _) ?_
  refine r_bld rfl rfl rfl ?_
  refine rr_call rfl rfl rfl rfl (nfirst_tr n d c p5_3 (devN 800) 1 (by omega) (by omega) (by omega) (by omega)) inferInstance rfl (sd0 rfl) (fun _ => sd0 rfl) rfl (fun v => ?_)
  refine RR.ex1 fun V => ?_
  refine RR.pu2 fun hV => ?_
  refine rr_nil ?_
  refine cc_seq ?_
  refine cc_region ?_
  refine rr_move rfl rfl ?_
  refine rr_move rfl rfl ?_
  refine rr_assign rfl rfl ?_
  refine rr_assign rfl rfl ?_
  refine rr_nil ?_
  refine cc_ret ?_
  exact ⟨_, rfl, entW_ex2 (n, d, V) (entW_pu2 rfl entW_fr)⟩
end Go.Proofs.YtoiakcgdkegncaaGreat

namespace Go.Proofs.YtoiakcgdkegncaaGreat
open Go.RowKit Ice
attribute [local irreducible] CC RR Tr stir mixOf mixPoint appD putC addC flushD killS hasS dropsC supW metaText
def nameK (i : Nat) : Txt := [107, UInt8.ofNat (97 + i)]
theorem wrapK (i : Nat) (h : i < 8) : IntKind.u8.wrap (97 + (i : Int)) = ((UInt8.ofNat (97 + i)).toNat : Int) := by
  revert h; revert i; decide +kernel
theorem name_tr (i : Nat) (h : i < 8) : Tr Tryz.prog 6 #[i64 i] 1 (fun v => pu (v = str (nameK i))) := by
  refine tr_body Tryz.func6 (by kernel_rfl) rfl Tryz.ntmps6 rfl (L := [(0, i64 i)]) (covers_cons rfl covers_nil) rfl ?_
  intro F w0 f
  rw [sl_one_mul]
  refine cc_seq ?_
  refine cc_region ?_
  refine rr_assign rfl rfl ?_
  refine rr_nil ?_
  refine cc_seq ?_
  refine cc_region ?_
  refine rr_move rfl rfl ?_
  refine r_add rfl rfl rfl (by omega) ?_
  refine r_conv rfl rfl ?_
  rw [wrapK i h]
  refine r_bsl (cs := [.int .u8 107, .int .u8 ((UInt8.ofNat (97 + i)).toNat : Int)]) rfl rfl rfl rfl rfl rfl (by first | exact sd0 rfl | exact sd1 rfl) (fun _ => by first | exact sd0 rfl | exact sd1 rfl) (fun p1_3 => ?_)
  refine r_tostr (bs := nameK i) rfl inferInstance rfl (Nat.le_of_ble_eq_true rfl) rfl (sd0 rfl) ?_
  refine rr_assign rfl rfl ?_
  refine rr_nil ?_
  refine cc_ret ?_
  exact ⟨_, rfl, entW_pu rfl entW_fr⟩
section
variable {α : Type} [Inhabited α] {P : α → Prop} {lt : α → α → Bool}
theorem all_swp {d : Array α} {i j : Nat} (hi : i < d.size) (hj : j < d.size) (h : ∀ x ∈ d.toList, P x) : ∀ x ∈ (Go.Sort.swp d i j).toList, P x := by
  rw [swp_list]
  exact all_set (all_set h (h _ (List.mem_of_getElem? (ag hj)))) (h _ (List.mem_of_getElem? (ag hi)))
theorem all_insInner {a : Nat} : ∀ {j : Nat} {d : Array α}, j < d.size → (∀ x ∈ d.toList, P x) → ∀ x ∈ (Go.Sort.insInner lt a j d).toList, P x
  | 0, d, _, h => h
  | j + 1, d, hj, h => by
    unfold Go.Sort.insInner
    split
    · exact all_insInner (by rw [swp_size]; omega) (all_swp hj (by omega) h)
    · exact h
theorem all_insOuter {a b i : Nat} {d : Array α} (hb : b ≤ d.size) (h : ∀ x ∈ d.toList, P x) : ∀ x ∈ (Go.Sort.insOuter lt a b i d).toList, P x := by
  fun_induction Go.Sort.insOuter lt a b i d with
  | case1 i d hi ih => exact ih (by rw [insInner_size]; exact hb) (all_insInner (by omega) h)
  | case2 => exact h
theorem all_sort {d : Array α} (hd : d.size ≤ 12) (h : ∀ x ∈ d.toList, P x) : ∀ x ∈ (Go.Sort.sort lt d).toList, P x := by
  rw [Go.Sort.sort, Go.Sort.pdq, if_pos (by omega)]
  exact all_insOuter (Nat.le_refl _) h
end
theorem firstAt_all {h : UInt64} {n : Int} : ∀ {l : List PtS}, (∀ x ∈ l, x.2 = n) → firstAt h l = none ∨ firstAt h l = some n
  | [], _ => .inl rfl
  | p :: r, hl => by
    unfold firstAt
    split
    · exact .inr (by rw [hl p (by simp)])
    · exact firstAt_all fun x hx => hl x (by simp [hx])
theorem owner_all {h : UInt64} {n : Int} {l : List PtS} (h0 : 0 < l.length) (hl : ∀ x ∈ l, x.2 = n) : ownerS l h = n := by
  unfold ownerS
  rcases firstAt_all (h := h) hl with e | e
  · rw [e]
    cases l with
    | nil => simp at h0
    | cons p r => simp [hl p (by simp)]
  · rw [e]; rfl
theorem pts1 : (ptsOf [1]).length = 8 ∧ ∀ x ∈ ptsOf [1], x.2 = 1 := by
  refine ⟨ptsOf_len (by decide) (by decide), ?_⟩
  rw [ptsOf, if_pos (by decide)]
  refine all_sort (by rw [List.size_toArray, rawPts_len]; decide) ?_
  intro x hx
  simp only [rawPts, List.flatMap_cons, List.flatMap_nil, List.append_nil, List.mem_map] at hx
  obtain ⟨a, _, rfl⟩ := hx
  rfl
theorem owner1 (e : Int) (key : Txt) : ownerR (some (e, [1])) key = 1 := owner_all (by rw [pts1.1]; omega) pts1.2
theorem fit1 (e : Int) : ringFit (some (e, [1])) := by
  have := pts1.1
  exact ⟨by show 0 < (ptsOf [1]).length; omega, by show (ptsOf [1]).length ≤ _; omega⟩
end Go.Proofs.YtoiakcgdkegncaaGreat

namespace Go.Proofs.YtoiakcgdkegncaaGreat
open Go.RowKit Ice
def entB (C : CacheS) (key : Txt) (o : Option ItemS) : Bool := match o with
  | none => !(getI C.idx key).2
  | some x => (getI C.idx key).2 && (readL C.log (getI C.idx key).1 == some (recOf x)) && itemMay x
theorem entB_is {C : CacheS} {key : Txt} {o : Option ItemS} (h : entB C key o = true) : EntIs C key o := by
  cases o with
  | none => simpa [entB, EntIs] using h
  | some x =>
    simp only [entB, Bool.and_eq_true, beq_iff_eq] at h
    exact ⟨h.1.1, h.1.2, h.2⟩
def itemK (i : Nat) : ItemS := ⟨nameK i, [118], 0, false⟩
def cK0 (segs : Nat) : CacheS := wipeC ⟨⟨162, segs, [], 1, 1, true⟩, idx0⟩
def killC (C : CacheS) (key : Txt) : CacheS := ⟨(addC C (recOf (tomb key))).log, (dropI (addC C (recOf (tomb key))).idx key).2⟩
def putsK (kill : Nat) : Nat → CacheS → CacheS
  | 0, C => C
  | j + 1, C => if j = kill then putsK kill j C else putC (putsK kill j C) (itemK j)
def cacheK (kill j : Nat) : CacheS := putsK kill j (killC (cK0 79) (nameK kill))
def putB (C : CacheS) (x : ItemS) : Bool := (!decide ((findI' (addC C (recOf x)).idx x.key).1 < 0) || !decide ((findI' (addC C (recOf x)).idx x.key).2 < 0)) && decide (2 * (addC C (recOf x)).idx.used < (addC C (recOf x)).idx.t.length)
theorem putB_is {C : CacheS} {x : ItemS} (h : putB C x = true) : putOK C x := by
  simp only [putB, Bool.and_eq_true, Bool.or_eq_true, Bool.not_eq_true', decide_eq_false_iff_not, decide_eq_true_eq] at h
  refine ⟨fun h1 h2 => ?_, h.2⟩
  rcases h.1 with h | h
  · exact h h1
  · exact h h2
theorem chkNone : (List.range 8).all (fun i => entB (cK0 79) (nameK i) none) = true := by decide +kernel
theorem chkEnt : (List.range 8).all (fun kill => (List.range 9).all fun n => (List.range n).all fun i => entB (cacheK kill n) (nameK i) (if i = kill then none else some (itemK i))) = true := by decide +kernel
theorem chkPut : (List.range 8).all (fun kill => (List.range 8).all fun j => decide (j = kill) || putB (cacheK kill j) (itemK j)) = true := by decide +kernel
theorem all_range {n : Nat} {p : Nat → Bool} (h : (List.range n).all p = true) {i : Nat} (hi : i < n) : p i = true := List.all_eq_true.1 h i (List.mem_range.2 hi)
theorem entNone {i : Nat} (h : i < 8) : EntIs (cK0 79) (nameK i) none := entB_is (all_range chkNone h)
theorem entK {kill n i : Nat} (hk : kill < 8) (hn : n ≤ 8) (hi : i < n) : EntIs (cacheK kill n) (nameK i) (if i = kill then none else some (itemK i)) :=
  entB_is (all_range (all_range (all_range chkEnt hk) (by omega : n < 9)) hi)
theorem putK {kill j : Nat} (hk : kill < 8) (hj : j < 8) (hne : j ≠ kill) : putOK (cacheK kill j) (itemK j) := by
  have := all_range (all_range chkPut hk) hj
  simp only [Bool.or_eq_true, decide_eq_true_eq] at this
  rcases this with h | h
  · exact absurd h hne
  · exact putB_is h
theorem name_ok {i : Nat} (h : i < 8) : keyOk (nameK i) = true := by
  revert h; revert i; decide
theorem name_ne {i j : Nat} (hi : i < 8) (hj : j < 8) : (nameK i == nameK j) = decide (i = j) := by
  have : ∀ i, i < 8 → ∀ j, j < 8 → (nameK i == nameK j) = decide (i = j) := by decide
  exact this i hi j hj
end Go.Proofs.YtoiakcgdkegncaaGreat

namespace Go.Proofs.YtoiakcgdkegncaaGreat
open Go.RowKit Ice
attribute [local irreducible] CC RR Tr stir mixOf mixPoint ptsOf appD putC addC flushD killS hasS dropsC supW metaText devN nameK
def stN (S : StoreS) (R : List ReadS) (T : TokS) : NodeS := ⟨S, ⟨1, 20, 1⟩, 1, some (1, [1]), T, [], R, 0, [], []⟩
def S0 : StoreS := storeF (devN 800) 1
theorem first_st : firstN (devN 800) 1 = stN S0 [] ⟨0, []⟩ := rfl
theorem S0_ok : StoreOK S0 (devN 800).length 13 := ((makeS_ok (devN 800) (by rw [devN_len]; omega) (by rw [devN_len]; omega)).wipe).save ⟨by decide, by decide, by decide, by decide, by decide, by decide, .inl rfl, fun h => by cases h⟩
theorem S0_cache : S0.cache = cK0 79 := by
  have h : segsN (supMake (blank (devN 800) (devN 800).length) 0 (metaText meta0)).length = 79 := by
    rw [show (supMake (blank (devN 800) (devN 800).length) 0 (metaText meta0)).length = (devN 800).length by simp [supMake], devN_len]; decide
  show wipeC ⟨⟨162, segsN (supMake (blank (devN 800) (devN 800).length) 0 (metaText meta0)).length, [], 1, 1, true⟩, idx0⟩ = _
  rw [h]; rfl
theorem serves_st {S : StoreS} {R : List ReadS} {T : TokS} (h : S.mt.epoch = 1) (key : Txt) : servesN (stN S R T) 0 key = true := by
  have h1 : ownerR (some (1, [1])) key = 1 := owner1 1 key
  show (ownerR (some (1, [1])) key == 1 && leaseGood ⟨1, 20, 1⟩ 0 S.mt.epoch) = true
  rw [h1, h]; decide
theorem StoreOK.mono {S : StoreS} {n k k' : Nat} (h : StoreOK S n k) (hk : k ≤ k') : StoreOK S n k' :=
  ⟨h.len, ⟨h.cache.log.mono hk, h.cache.srt, h.cache.idx⟩, h.jour.mono hk, h.mt, Nat.le_trans h.turn hk, h.slot⟩
def rdK (a : Nat) : ReadS := ⟨⟨0, (a : Int) + 1, 1, nameK a⟩, (a : Int) + 1⟩
def gvK (p : Nat → Bool) (a : Nat) : Giv := ((a : Int) + 1, nameK a, p a)
def N1 (i : Nat) : NodeS := stN S0 ((List.range i).map rdK) ⟨i, (List.range i).map (gvK fun _ => true)⟩
theorem tokL_ok {n m k : Nat} (p : Nat → Bool) (j : Nat) (h : n ≤ k) (hm : m ≤ n) : TokOK ⟨n, ((List.range m).map (gvK p)).drop j⟩ k := by
  refine ⟨by simp, by simp; omega, ?_, ?_⟩
  · intro x hx
    obtain ⟨a, ha, rfl⟩ := List.mem_map.1 (List.mem_of_mem_drop hx)
    have := List.mem_range.1 ha
    show ((a : Int) + 1) ≤ n; omega
  · simp only [List.map_drop, List.map_map]
    refine List.Nodup.sublist (List.drop_sublist _ _) ?_
    have : ((fun x : Giv => x.1) ∘ gvK p) = fun a : Nat => (a : Int) + 1 := rfl
    rw [this]
    exact List.Pairwise.map _ (fun a b (h : a ≠ b) => by omega) List.nodup_range
theorem N1_succ (i : Nat) : didN (getN (N1 i) ⟨0, (i : Int) + 1, 1, nameK i⟩ 0 none) = N1 (i + 1) := by
  simp only [getN, getC, readN, giveT, didN, N1, stN, List.range_succ, List.map_append, List.map_cons, List.map_nil]
  rfl
theorem ask1_tr (U : Pool) (n d c i : Nat) (X : MovX) (h : i < 8) : Tr Tryz.prog 7 #[ptr n, i64 ((i : Int) + 1), i64 1, str (nameK i)] (nodeR U n d c X (N1 i) * (poolR U * clockR c 0))
    (fun v => outR U v [] [] * (nodeR U n d c X (N1 (i + 1)) * (poolR U * clockR c 0))) := by
  have hg := nask_get_tr U n d c (devN 800).length 100 0 X (N1 i) 0 ((i : Int) + 1) (nameK i) (1, [1]) none rfl (fit1 1) (owner1 1 _) rfl (serves_st rfl _) (S0_ok.mono (by omega)) (by
    have := tokL_ok (n := i) (m := i) (k := 100) (fun _ => true) 0 (by omega) (Nat.le_refl _); rw [List.drop_zero] at this; exact this) (by omega) (name_ok h) (by
    show EntIs S0.cache _ _; rw [S0_cache]; exact entNone h) (by show 0 ≤ 2 ^ 19; omega) (by show 0 ≤ 2 ^ 19; omega) (by show ((List.range i).map rdK).length ≤ _; simp; omega)
  have := nAsk_tr U n d c 0 X (N1 i) _ ((i : Int) + 1) 1 (nameK i) hg
  rw [N1_succ] at this
  exact this
end Go.Proofs.YtoiakcgdkegncaaGreat

namespace Go.Proofs.YtoiakcgdkegncaaGreat
open Go.RowKit Ice
attribute [local irreducible] CC RR Tr stir mixOf mixPoint ptsOf appD putC addC flushD killS dropsC supW metaText devN nameK
theorem hasS1 (key x : Txt) : hasS [key] x = (x == key) := by
  unfold hasS
  simp only [List.findIdx?_cons, List.findIdx?_nil]
  cases (x == key) <;> rfl
def keepP (kill a : Nat) : Bool := decide (a ≠ kill)
def rdL (n : Nat) : List ReadS := (List.range n).map rdK
def gvL (n kill : Nat) : List Giv := (List.range n).map (gvK (keepP kill))
theorem kill_tok {n kill : Nat} (hn : n ≤ 8) (hk : kill < 8) : killT ⟨n, (List.range n).map (gvK fun _ => true)⟩ (hasS [nameK kill]) = ⟨n, gvL n kill⟩ := by
  simp only [killT, gvL, List.map_map, TokS.mk.injEq, true_and]
  refine List.map_congr_left fun a ha => ?_
  have ha := List.mem_range.1 ha
  simp only [Function.comp, killM, gvK, hasS1, name_ne (by omega : a < 8) hk, keepP, Bool.true_and, decide_not]
def S2 (kill : Nat) : Nat → StoreS
  | 0 => killS S0 [nameK kill]
  | j + 1 => if j = kill then S2 kill j else putS (S2 kill j) (itemK j)
theorem killS_cache (S : StoreS) (key : Txt) : (killS S [key]).cache = killC S.cache key := by
  unfold killS dropsC killC drop1; rfl
theorem S2_cache (kill : Nat) : ∀ j, (S2 kill j).cache = cacheK kill j
  | 0 => by rw [S2, killS_cache, S0_cache]; rfl
  | j + 1 => by
    have ih := S2_cache kill j
    unfold S2 cacheK putsK
    split
    · exact ih
    · show putC (S2 kill j).cache _ = _
      rw [ih]; rfl
theorem killS_mt (S : StoreS) (ks : List Txt) : (killS S ks).mt = S.mt := by unfold killS; rfl
theorem S2_mt (kill : Nat) : ∀ j, (S2 kill j).mt = ⟨1, 1, 0, false⟩
  | 0 => by rw [S2, killS_mt]; rfl
  | j + 1 => by
    have ih := S2_mt kill j
    unfold S2
    split
    · exact ih
    · exact ih
theorem item_may {i : Nat} (h : i < 8) : itemMay (itemK i) = true := by
  have := name_ok h
  simp [itemMay, itemK, this]
theorem S2_ok {kill : Nat} (hk : kill < 8) : ∀ {j : Nat}, j ≤ 8 → StoreOK (S2 kill j) (devN 800).length (15 + 2 * j)
  | 0, _ => S0_ok.kill (by simpa using name_ok hk)
  | j + 1, hj => by
    have ih := S2_ok hk (j := j) (by omega)
    unfold S2
    split
    · exact ih.mono (by omega)
    · rename_i hne
      exact ih.put (item_may (by omega)) (by rw [S2_cache]; exact putK hk (by omega) hne)
def N2 (n kill j : Nat) : NodeS := stN (S2 kill j) ((rdL n).drop j) ⟨n, (gvL n kill).drop j⟩
theorem askK_tr (U : Pool) (n d c m kill : Nat) (X : MovX) (hm : m ≤ 8) (hk : kill < m) : Tr Tryz.prog 7 #[ptr n, i64 50, i64 2, str (nameK kill)] (nodeR U n d c X (N1 m) * (poolR U * clockR c 0))
    (fun v => outR U v [] [⟨50, 2, nameK kill, 0, [], false⟩] * (nodeR U n d c X (N2 m kill 0) * (poolR U * clockR c 0))) := by
  have hg := nask_kill_tr U n d c (devN 800).length 100 0 X (N1 m) 0 50 (nameK kill) (1, [1]) rfl (fit1 1) (owner1 1 _) rfl (serves_st rfl _) (S0_ok.mono (by omega)) (by
    have := tokL_ok (n := m) (m := m) (k := 100) (fun _ => true) 0 (by omega) (Nat.le_refl _); rw [List.drop_zero] at this; exact this) (by show ((List.range m).map _).length ≤ _; simp; omega) (by omega) (name_ok (by omega)) (by show 0 ≤ 2 ^ 19; omega) (by show 0 ≤ 2 ^ 19; omega)
  have := nAsk_tr U n d c 0 X (N1 m) _ 50 2 (nameK kill) hg
  have e : didN (tellN (killN (N1 m) (nameK kill)) ⟨0, 50, 2, nameK kill⟩ 0 [] false) = N2 m kill 0 := by
    have ht := kill_tok hm (by omega : kill < 8)
    unfold tellN
    rw [if_pos (by rfl)]
    simp only [didN, killN, N1, N2, stN, ht, S2, rdL, List.drop_zero]
  rw [e] at this
  exact this
end Go.Proofs.YtoiakcgdkegncaaGreat

namespace Go.Proofs.YtoiakcgdkegncaaGreat
open Go.RowKit Ice
attribute [local irreducible] CC RR Tr stir mixOf mixPoint ptsOf appD putC addC flushD killS dropsC supW metaText devN nameK
theorem rdL_drop {n j : Nat} (h : j < n) : (rdL n).drop j = rdK j :: (rdL n).drop (j + 1) := by
  refine drop_cons_get ?_
  rw [rdL, List.getElem?_map, List.getElem?_range h]; rfl
theorem gvL_drop {n kill j : Nat} (h : j < n) : (gvL n kill).drop j = gvK (keepP kill) j :: (gvL n kill).drop (j + 1) := by
  refine drop_cons_get ?_
  rw [gvL, List.getElem?_map, List.getElem?_range h]; rfl
theorem use_st {n kill j : Nat} (h : j < n) : useT ⟨n, (gvL n kill).drop j⟩ ((j : Int) + 1) = (some (nameK j, keepP kill j), ⟨n, (gvL n kill).drop (j + 1)⟩) := by
  have hf : ((gvL n kill).drop j).findIdx? (fun x => x.1 == (j : Int) + 1) = some 0 := by
    rw [gvL_drop h, List.findIdx?_cons]
    rw [show ((gvK (keepP kill) j).1 == (j : Int) + 1) = true by simp [gvK]]; rfl
  unfold useT
  simp only [hf]
  rw [gvL_drop h]; rfl
theorem S2_succ (kill j : Nat) : S2 kill (j + 1) = if j = kill then S2 kill j else putS (S2 kill j) (itemK j) := rfl
theorem read_st {n kill j : Nat} (h : j < n) : readD (N2 n kill j) 0 0 (rdK j) [118] true = { N2 n kill (j + 1) with reps := [⟨(j : Int) + 1, 1, nameK j, 0, [118], true⟩] } := by
  have hu := use_st (kill := kill) h
  have hC : readC (N2 n kill j) 0 (rdK j) (hvT true [118]) true = keepP kill j := by
    have h1 : readOK (N2 n kill j) (rdK j).token = keepP kill j := by
      show ((useT ⟨n, (gvL n kill).drop j⟩ ((j : Int) + 1)).1.getD ([], false)).2 = _
      rw [hu]; rfl
    have h2 : servesN (N2 n kill j) 0 (rdK j).w.key = true := serves_st (by rw [S2_mt]) _
    simp only [readC, h1, h2, Bool.and_true]
    rw [show decide (((hvT true [118]).length : Int) ≤ 200) = true by decide, Bool.and_true]
  have h1 : readN1 (N2 n kill j) 0 (rdK j) = stN (S2 kill j) ((rdL n).drop (j + 1)) ⟨n, (gvL n kill).drop (j + 1)⟩ := by
    have ht : (useT ⟨n, (gvL n kill).drop j⟩ ((j : Int) + 1)).2 = ⟨n, (gvL n kill).drop (j + 1)⟩ := by rw [hu]
    have hr : ((rdL n).drop j).eraseIdx 0 = (rdL n).drop (j + 1) := by rw [rdL_drop h]; rfl
    show stN (S2 kill j) (((rdL n).drop j).eraseIdx 0) (useT ⟨n, (gvL n kill).drop j⟩ ((j : Int) + 1)).2 = _
    rw [ht, hr]
  have h2 : readN2 (N2 n kill j) 0 0 (rdK j) (hvT true [118]) true = N2 n kill (j + 1) := by
    rw [readN2, hC, h1]
    rw [show N2 n kill (j + 1) = stN (S2 kill (j + 1)) ((rdL n).drop (j + 1)) ⟨n, (gvL n kill).drop (j + 1)⟩ from rfl, S2_succ]
    by_cases hj : j = kill
    · rw [if_neg (by simp [keepP, hj]), if_pos hj]
    · rw [if_pos (by simp [keepP, hj]), if_neg hj]; rfl
  unfold readD
  rw [h2]
  unfold tellN
  rw [if_pos (by rfl)]
  rfl
theorem read2_tr (U : Pool) (n d c m kill j : Nat) (X : MovX) (hm : m ≤ 8) (hk : kill < m) (hj : j < m) : Tr Tryz.prog 9 #[ptr n, i64 (0 : Nat), str [118], .bool true] (nodeR U n d c X (N2 m kill j) * (poolR U * clockR c 0))
    (fun v => outR U v [] [⟨(j : Int) + 1, 1, nameK j, 0, [118], true⟩] * (nodeR U n d c X (N2 m kill (j + 1)) * (poolR U * clockR c 0))) := by
  have := nread_tr U n d c (devN 800).length 100 0 0 X (N2 m kill j) (rdK j) [118] true (by show ((rdL m).drop j)[0]? = _; rw [rdL_drop hj]; rfl) ((S2_ok (by omega) (by omega)).mono (by omega)) (by omega) (fit1 1) (by
    show (S2 kill j).mt.frozen = false; rw [S2_mt]) (name_ok (by omega)) (fun hc => by
    have hC : keepP kill j = true := by
      have h1 : readOK (N2 m kill j) (rdK j).token = keepP kill j := by
        show ((useT ⟨m, (gvL m kill).drop j⟩ ((j : Int) + 1)).1.getD ([], false)).2 = _
        rw [use_st hj]; rfl
      simp only [readC, h1, Bool.and_eq_true] at hc
      exact hc.1.1.1
    show putOK (S2 kill j).cache (itemK j)
    rw [S2_cache]; exact putK (by omega) (by omega) (by simpa [keepP] using hC)) (by show 0 ≤ 2 ^ 19; omega) (by show 0 ≤ 2 ^ 19; omega) (by show ((rdL m).drop j).length ≤ _; simp [rdL]; omega) (by simp)
  rw [read_st hj] at this
  exact this
def lateR (n kill : Nat) : ReadS := ⟨⟨0, 60 + (kill : Int), 1, nameK kill⟩, (n : Int) + 1⟩
def N3 (n kill i : Nat) : NodeS := if kill < i then stN (S2 kill n) [lateR n kill] ⟨(n : Int) + 1, [((n : Int) + 1, nameK kill, true)]⟩ else stN (S2 kill n) [] ⟨n, []⟩
theorem N3_0 (n kill : Nat) : N2 n kill n = N3 n kill 0 := by
  have h1 : (rdL n).drop n = [] := List.drop_of_length_le (by simp [rdL])
  have h2 : (gvL n kill).drop n = [] := List.drop_of_length_le (by simp [gvL])
  rw [N3, if_neg (by omega), N2, h1, h2]
def reps3 (kill i : Nat) : List RepS := if i = kill then [] else [⟨60 + (i : Int), 1, nameK i, 0, [118], true⟩]
theorem N3_form (n kill i : Nat) : ∃ R T, N3 n kill i = stN (S2 kill n) R T ∧ R.length ≤ 1 ∧ TokOK T (n + 1) := by
  unfold N3
  split
  · exact ⟨_, _, rfl, by simp, ⟨by simp; omega, by simp, by simp, by simp⟩⟩
  · exact ⟨_, _, rfl, by simp, ⟨by simp, by simp; omega, by simp, by simp⟩⟩
theorem live_K {i : Nat} (h : i < 8) : itemLive (itemK i) 0 = true := by
  have := item_may h
  simp only [itemLive, this]; rfl
theorem ask3_st {n kill i : Nat} (hn : n ≤ 8) (hi : i < n) : getN (N3 n kill i) ⟨0, 60 + (i : Int), 1, nameK i⟩ 0 (if i = kill then none else some (itemK i)) = { N3 n kill (i + 1) with reps := reps3 kill i } := by
  by_cases h : i = kill
  · subst h
    rw [if_pos rfl, reps3, if_pos rfl, N3, if_neg (by omega), N3, if_pos (by omega)]
    rfl
  · rw [if_neg h, reps3, if_neg h]
    have hl := live_K (by omega : i < 8)
    have hs : N3 n kill (i + 1) = N3 n kill i := by
      unfold N3
      by_cases h2 : kill < i
      · rw [if_pos h2, if_pos (by omega)]
      · rw [if_neg h2, if_neg (by omega)]
    rw [hs]
    obtain ⟨R, T, e, _, _⟩ := N3_form n kill i
    rw [e]
    simp only [getN, getC, hl, if_true]
    unfold tellN
    rw [if_pos (by rfl)]
    rfl
theorem ask3_tr (U : Pool) (n d c m kill i : Nat) (X : MovX) (hm : m ≤ 8) (hk : kill < m) (hi : i < m) : Tr Tryz.prog 7 #[ptr n, i64 (60 + (i : Int)), i64 1, str (nameK i)] (nodeR U n d c X (N3 m kill i) * (poolR U * clockR c 0))
    (fun v => outR U v [] (reps3 kill i) * (nodeR U n d c X (N3 m kill (i + 1)) * (poolR U * clockR c 0))) := by
  obtain ⟨R, T, e, hR, hT⟩ := N3_form m kill i
  have hmt := S2_mt kill m
  have hg := nask_get_tr U n d c (devN 800).length 100 0 X (N3 m kill i) 0 (60 + (i : Int)) (nameK i) (1, [1]) (if i = kill then none else some (itemK i)) (by rw [e]; rfl) (by rw [e]; exact fit1 1) (by rw [e]; exact owner1 1 _) (by rw [e]; show (S2 kill m).mt.frozen = false; rw [hmt])
    (by rw [e]; exact serves_st (by rw [hmt]) _) (by rw [e]; exact (S2_ok (by omega) hm).mono (by omega)) (by rw [e]; exact ⟨hT.l0, by have := hT.l1; show T.last ≤ _; omega, hT.ids, hT.nd⟩) (by omega) (name_ok (by omega))
    (by rw [e]; show EntIs (S2 kill m).cache _ _; rw [S2_cache]; exact entK (by omega) hm hi) (by rw [e]; show 0 ≤ 2 ^ 19; omega) (by rw [e]; show 0 ≤ 2 ^ 19; omega) (by rw [e]; show R.length ≤ _; omega)
  rw [ask3_st hm hi] at hg
  have := nAsk_tr U n d c 0 X (N3 m kill i) _ (60 + (i : Int)) 1 (nameK i) hg
  have e2 : didN { N3 m kill (i + 1) with reps := reps3 kill i } = N3 m kill (i + 1) := by
    obtain ⟨R, T, e, _, _⟩ := N3_form m kill (i + 1)
    rw [e]; rfl
  have e3 : ({ N3 m kill (i + 1) with reps := reps3 kill i } : NodeS).msgs = [] := by
    obtain ⟨R, T, e, _, _⟩ := N3_form m kill (i + 1)
    rw [e]; rfl
  rw [e2, e3] at this
  exact this
end Go.Proofs.YtoiakcgdkegncaaGreat

namespace Go.Proofs.YtoiakcgdkegncaaGreat
open Go.RowKit Ice
attribute [local irreducible] CC RR Tr
/-- an answer with one reply: its cells lie bare -/
def outR1 (v : Value) (r : RepS) : SL := ex fun q : (Option Addr × Nat × Nat) × (Nat × Nat × List Value) =>
  pu (v = .agg #[.slice q.1.1 q.1.2.1 q.1.2.2, .slice (some ⟨q.2.1, 0, none⟩) 1 q.2.2.1]) * bl q.2.1 41 (repV r ++ q.2.2.2)
/-- an answer with one message -/
def outM1 (v : Value) (m : MsgS) : SL := ex fun q : (Option Addr × Nat × Nat) × (Nat × Nat × List Value × MsgL) =>
  pu (v = .agg #[.slice (some ⟨q.2.1, 0, none⟩) 1 q.2.2.1, .slice q.1.1 q.1.2.1 q.1.2.2]) * bl q.2.1 66 (msgV2 (m, q.2.2.2.2) ++ q.2.2.2.1)
/-- an answer: how long -/
def outN (v : Value) (a b : Nat) : SL := ex fun q : Option Addr × Nat × Option Addr × Nat => pu (v = .agg #[.slice q.1 a q.2.1, .slice q.2.2.1 b q.2.2.2])
theorem outR_1 (U : Pool) (v : Value) (ms : List MsgS) (r : RepS) (R : SL) : EntW (outR U v ms [r] * R) (outR1 v r * R) := by
  intro w s0
  obtain ⟨⟨mv, lv, M⟩, s1⟩ := sat_ex_mul.1 s0
  clear s0
  obtain ⟨⟨hv, _, _⟩, s⟩ := sat_pu2.1 s1
  clear s1; subst hv
  simp only at s ⊢
  rw [sl_assoc] at s
  obtain ⟨mb, mc, e1, _⟩ := slR_val s
  rcases slR_cases s.r with ⟨_, e2, _, _⟩ | ⟨b, cap, rest, e2, _, _, s2⟩
  · simp at e2
  · subst e1 e2
    exact sat_ex_mul.2 ⟨((mb, M.length, mc), (b, cap, rest)), sat_pu2.2 ⟨rfl, by simpa using s2⟩⟩
theorem outR_m1 (U : Pool) (v : Value) (m : MsgS) (rs : List RepS) (R : SL) : EntW (outR U v [m] rs * R) (outM1 v m * R) := by
  intro w s0
  obtain ⟨⟨mv, lv, M⟩, s1⟩ := sat_ex_mul.1 s0
  clear s0
  obtain ⟨⟨hv, hM, _⟩, s⟩ := sat_pu2.1 s1
  clear s1; subst hv
  simp only at s hM ⊢
  obtain ⟨⟨m', L⟩, rfl⟩ : ∃ x, M = [x] := by
    match M, hM with
    | [x], _ => exact ⟨x, rfl⟩
    | x :: y :: r, h => simp at h
  simp only [List.map_cons, List.map_nil, List.cons.injEq, and_true] at hM
  subst hM
  have sl : Sat w (slR lv 41 6 rs.length (rs.flatMap repV) * (slR mv 66 21 [(m', L)].length ([(m', L)].flatMap msgV2) * R)) := s.eq (by ac_rfl)
  obtain ⟨lb, lc, e1, _⟩ := slR_val sl
  rcases slR_cases sl.r with ⟨_, e2, _, _⟩ | ⟨b, cap, rest, e2, _, _, s2⟩
  · simp at e2
  · subst e1 e2
    exact sat_ex_mul.2 ⟨((lb, rs.length, lc), (b, cap, rest, L)), sat_pu2.2 ⟨rfl, by simpa using s2⟩⟩
theorem outR_n (U : Pool) (v : Value) (ms : List MsgS) (rs : List RepS) (R : SL) : EntW (outR U v ms rs * R) (outN v ms.length rs.length * R) := by
  intro w s0
  obtain ⟨⟨mv, lv, M⟩, s1⟩ := sat_ex_mul.1 s0
  clear s0
  obtain ⟨⟨hv, hM, _⟩, s⟩ := sat_pu2.1 s1
  clear s1; subst hv
  simp only at s hM ⊢
  have hl : M.length = ms.length := by rw [← hM, List.length_map]
  rw [sl_assoc] at s
  obtain ⟨mb, mc, e1, _⟩ := slR_val s
  obtain ⟨lb, lc, e2, _⟩ := slR_val s.r
  have s2 := s.r.r
  subst e1 e2
  exact sat_ex_mul.2 ⟨(mb, mc, lb, lc), sat_pu.2 ⟨by rw [hl], s2⟩⟩
theorem tr_out {g : Nat} {args : Array Value} {X : SL} {B : Value → SL} {O O2 : Value → SL} (e : ∀ v R, EntW (O v * R) (O2 v * R)) (h : Tr Tryz.prog g args X (fun v => O v * B v)) : Tr Tryz.prog g args X (fun v => O2 v * B v) :=
  tr_ent h (fun F w s => s) (fun v F => by rw [sl_assoc, sl_assoc]; exact e v (B v * F))
end Go.Proofs.YtoiakcgdkegncaaGreat

namespace Go.Proofs.YtoiakcgdkegncaaGreat
open Go.RowKit Ice
def kk : Txt := [107]
def vv : Txt := [118]
def itB : ItemS := ⟨kk, vv, 0, false⟩
theorem chkB : entB (cK0 29) kk none = true ∧ putB (cK0 29) itB = true ∧ entB (putC (cK0 29) itB) kk (some itB) = true ∧ itemMay itB = true ∧ keyOk kk = true ∧ itemLive itB 0 = true := by decide +kernel
attribute [local irreducible] CC RR Tr stir mixOf mixPoint ptsOf appD putC addC flushD killS dropsC supW metaText devN
def stM (S : StoreS) (R : List ReadS) (T : TokS) : NodeS := ⟨S, ⟨2, 20, 2⟩, 1, some (2, [1]), T, [], R, 0, [], []⟩
def Sb : StoreS := storeF (devN 400) 2
theorem first_stM : firstN (devN 400) 2 = stM Sb [] ⟨0, []⟩ := rfl
theorem Sb_ok : StoreOK Sb (devN 400).length 13 := ((makeS_ok (devN 400) (by rw [devN_len]; omega) (by rw [devN_len]; omega)).wipe).save ⟨by decide, by decide, by decide, by decide, by decide, by decide, .inl rfl, fun h => by cases h⟩
theorem Sb_cache : Sb.cache = cK0 29 := by
  have h : segsN (supMake (blank (devN 400) (devN 400).length) 0 (metaText meta0)).length = 29 := by
    rw [show (supMake (blank (devN 400) (devN 400).length) 0 (metaText meta0)).length = (devN 400).length by simp [supMake], devN_len]; decide
  show wipeC ⟨⟨162, segsN (supMake (blank (devN 400) (devN 400).length) 0 (metaText meta0)).length, [], 1, 1, true⟩, idx0⟩ = _
  rw [h]; rfl
theorem serves_stM {S : StoreS} {R : List ReadS} {T : TokS} (h : S.mt.epoch = 2) (key : Txt) : servesN (stM S R T) 0 key = true := by
  have h1 : ownerR (some (2, [1])) key = 1 := owner1 2 key
  show (ownerR (some (2, [1])) key == 1 && leaseGood ⟨2, 20, 2⟩ 0 S.mt.epoch) = true
  rw [h1, h]; decide
def rdB : ReadS := ⟨⟨0, 2, 1, kk⟩, 1⟩
theorem b_ask1 (U : Pool) (n d c : Nat) : Tr Tryz.prog 7 #[ptr n, i64 1, i64 1, str kk] (nodeR U n d c movX0 (begunN 1 (makeS (devN 400))) * (poolR U * clockR c 0))
    (fun v => outR1 v ⟨1, 1, kk, 6, [], false⟩ * (nodeR U n d c movX0 (begunN 1 (makeS (devN 400))) * (poolR U * clockR c 0))) := by
  have hg := nask_nil_tr U n d c 0 movX0 (begunN 1 (makeS (devN 400))) 0 1 kk rfl chkB.2.2.2.2.1 (by show 0 ≤ 2 ^ 19; omega) (by show 0 ≤ 2 ^ 19; omega)
  exact tr_out (fun v R => outR_1 U v _ _ R) (nAsk_tr U n d c 0 movX0 _ _ 1 1 kk hg)
theorem b_beat (U : Pool) (n d c : Nat) : Tr Tryz.prog 12 #[ptr n] (nodeR U n d c movX0 (begunN 1 (makeS (devN 400))) * clockR c 0)
    (fun v => outM1 v { renewM (begunN 1 (makeS (devN 400))) 0 with from_ := 1 } * (nodeR U n d c movX0 (begunN 1 (makeS (devN 400))) * clockR c 0)) :=
  tr_out (fun v R => outR_m1 U v _ _ R) (nbeat_tr U n d c 0 movX0 (begunN 1 (makeS (devN 400))) rfl rfl (by show 0 ≤ 2 ^ 19; omega))
theorem b_ask2 (U : Pool) (n d c : Nat) : Tr Tryz.prog 7 #[ptr n, i64 2, i64 1, str kk] (nodeR U n d c movX0 (stM Sb [] ⟨0, []⟩) * (poolR U * clockR c 0))
    (fun v => outN v 0 0 * (nodeR U n d c movX0 (stM Sb [rdB] ⟨1, [(1, kk, true)]⟩) * (poolR U * clockR c 0))) := by
  have hg := nask_get_tr U n d c (devN 400).length 100 0 movX0 (stM Sb [] ⟨0, []⟩) 0 2 kk (2, [1]) none rfl (fit1 2) (owner1 2 _) rfl (serves_stM rfl _) (Sb_ok.mono (by omega)) (tok0_ok _) (by omega) chkB.2.2.2.2.1 (by
    show EntIs Sb.cache _ _; rw [Sb_cache]; exact entB_is chkB.1) (by show 0 ≤ 2 ^ 19; omega) (by show 0 ≤ 2 ^ 19; omega) (by show 0 ≤ 2 ^ 20; omega)
  exact tr_out (fun v R => outR_n U v _ _ R) (nAsk_tr U n d c 0 movX0 _ _ 2 1 kk hg)
def Sb2 : StoreS := putS Sb itB
theorem Sb2_cache : Sb2.cache = putC (cK0 29) itB := by show putC Sb.cache itB = _; rw [Sb_cache]
theorem Sb2_ok : StoreOK Sb2 (devN 400).length 15 := Sb_ok.put chkB.2.2.2.1 (by rw [Sb_cache]; exact putB_is chkB.2.1)
theorem b_read_st : readD (stM Sb [rdB] ⟨1, [(1, kk, true)]⟩) 0 0 rdB vv true = { stM Sb2 [] ⟨1, []⟩ with reps := [⟨2, 1, kk, 0, vv, true⟩] } := by
  have hC : readC (stM Sb [rdB] ⟨1, [(1, kk, true)]⟩) 0 rdB (hvT true vv) true = true := by
    have h2 : servesN (stM Sb [rdB] ⟨1, [(1, kk, true)]⟩) 0 rdB.w.key = true := serves_stM rfl _
    simp only [readC, h2]; rfl
  unfold readD
  rw [readN2, if_pos hC]
  unfold tellN
  rw [if_pos (by rfl)]
  rfl
theorem b_read (U : Pool) (n d c : Nat) : Tr Tryz.prog 9 #[ptr n, i64 (0 : Nat), str vv, .bool true] (nodeR U n d c movX0 (stM Sb [rdB] ⟨1, [(1, kk, true)]⟩) * (poolR U * clockR c 0))
    (fun v => outR1 v ⟨2, 1, kk, 0, vv, true⟩ * (nodeR U n d c movX0 (stM Sb2 [] ⟨1, []⟩) * (poolR U * clockR c 0))) := by
  have := nread_tr U n d c (devN 400).length 100 0 0 movX0 (stM Sb [rdB] ⟨1, [(1, kk, true)]⟩) rdB vv true rfl (Sb_ok.mono (by omega)) (by omega) (fit1 2) rfl chkB.2.2.2.2.1 (fun _ => by
    show putOK Sb.cache itB; rw [Sb_cache]; exact putB_is chkB.2.1) (by show 0 ≤ 2 ^ 19; omega) (by show 0 ≤ 2 ^ 19; omega) (by show 1 ≤ 2 ^ 20; omega) (by show 1 ≤ 2 ^ 40; omega)
  rw [b_read_st] at this
  exact tr_out (fun v R => outR_1 U v _ _ R) this
theorem b_tok (k : Nat) (h : 1 ≤ k) : TokOK ⟨1, []⟩ k := ⟨by simp, by simp; omega, by simp, by simp⟩
theorem b_ask3 (U : Pool) (n d c : Nat) : Tr Tryz.prog 7 #[ptr n, i64 3, i64 1, str kk] (nodeR U n d c movX0 (stM Sb2 [] ⟨1, []⟩) * (poolR U * clockR c 0))
    (fun v => outR1 v ⟨3, 1, kk, 0, vv, true⟩ * (nodeR U n d c movX0 (stM Sb2 [] ⟨1, []⟩) * (poolR U * clockR c 0))) := by
  have hg := nask_get_tr U n d c (devN 400).length 100 0 movX0 (stM Sb2 [] ⟨1, []⟩) 0 3 kk (2, [1]) (some itB) rfl (fit1 2) (owner1 2 _) rfl (serves_stM rfl _) (Sb2_ok.mono (by omega)) (b_tok 100 (by omega)) (by omega) chkB.2.2.2.2.1 (by
    show EntIs Sb2.cache _ _; rw [Sb2_cache]; exact entB_is chkB.2.2.1) (by show 0 ≤ 2 ^ 19; omega) (by show 0 ≤ 2 ^ 19; omega) (by show 0 ≤ 2 ^ 20; omega)
  have e : getN (stM Sb2 [] ⟨1, []⟩) ⟨0, 3, 1, kk⟩ 0 (some itB) = { stM Sb2 [] ⟨1, []⟩ with reps := [⟨3, 1, kk, 0, vv, true⟩] } := by
    simp only [getN, getC, chkB.2.2.2.2.2, if_true]
    unfold tellN
    rw [if_pos (by rfl)]
    rfl
  rw [e] at hg
  exact tr_out (fun v R => outR_1 U v _ _ R) (nAsk_tr U n d c 0 movX0 _ _ 3 1 kk hg)
theorem b_ask4 (U : Pool) (n d c : Nat) : Tr Tryz.prog 7 #[ptr n, i64 4, i64 2, str kk] (nodeR U n d c movX0 (stM Sb2 [] ⟨1, []⟩) * (poolR U * clockR c 0))
    (fun v => outR1 v ⟨4, 2, kk, 0, [], false⟩ * (nodeR U n d c movX0 (stM (killS Sb2 [kk]) [] ⟨1, []⟩) * (poolR U * clockR c 0))) := by
  have hg := nask_kill_tr U n d c (devN 400).length 100 0 movX0 (stM Sb2 [] ⟨1, []⟩) 0 4 kk (2, [1]) rfl (fit1 2) (owner1 2 _) rfl (serves_stM rfl _) (Sb2_ok.mono (by omega)) (b_tok 100 (by omega)) (by show 0 ≤ 2 ^ 40; omega) (by omega) chkB.2.2.2.2.1 (by show 0 ≤ 2 ^ 19; omega) (by show 0 ≤ 2 ^ 19; omega)
  have e : tellN (killN (stM Sb2 [] ⟨1, []⟩) kk) ⟨0, 4, 2, kk⟩ 0 [] false = { stM (killS Sb2 [kk]) [] ⟨1, []⟩ with reps := [⟨4, 2, kk, 0, [], false⟩] } := by
    unfold tellN
    rw [if_pos (by rfl)]
    rfl
  rw [e] at hg
  exact tr_out (fun v R => outR_1 U v _ _ R) (nAsk_tr U n d c 0 movX0 _ _ 4 2 kk hg)
theorem b_serves (U : Pool) (n d c : Nat) : Tr Tryz.prog 14 #[ptr n, str kk] (nodeR U n d c movX0 (stM (killS Sb2 [kk]) [] ⟨1, []⟩) * (poolR U * clockR c 0))
    (fun v => pu (v = .bool true) * (nodeR U n d c movX0 (stM (killS Sb2 [kk]) [] ⟨1, []⟩) * (poolR U * clockR c 0))) := by
  have hmt : (killS Sb2 [kk]).mt = ⟨1, 2, 0, false⟩ := by rw [killS_mt]; rfl
  have := nserves_tr U n d c 0 movX0 (stM (killS Sb2 [kk]) [] ⟨1, []⟩) kk (by show (killS Sb2 [kk]).mt.frozen = false; rw [hmt]) (fit1 2) (by decide)
  rw [serves_stM (by rw [hmt]) kk] at this
  exact this
end Go.Proofs.YtoiakcgdkegncaaGreat

