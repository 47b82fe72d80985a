/-
  NodeKills: for every n and kill the law returns true: a kill ends the rights of the reads that are under way, of its key alone. No condition.
-/
import Derived.OpenShut
import Derived.ProofKit
import Derived.Test.YtoiakcgdkegncaaGreatRows
import Derived.Test.YtoiakcgdkegncaaGreatK16
set_option linter.unusedVariables false
set_option linter.unusedSimpArgs false
set_option linter.unusedSectionVars false
namespace Go.Proofs.YtoiakcgdkegncaaGreat
open Go.ChangeShapes Go.WideShapes Go.ChangeAt Go.RowKit Ice
theorem kept_heap {w w' : World} (h1 : Kept w w') (h2 : ∀ (b : Nat) (o : Obj), w.heap[b]? = some o → w'.heap[b]? = some o) (may : MemPlace → Prop) : w.keptBut w' may := by
  refine ⟨h1.os, h1.output, fun i hi => ?_⟩
  have hx : w.heap[i]? = some w.heap[i] := Array.getElem?_eq_getElem hi
  rw [hx, h2 i _ hx]
  cases w.heap[i] <;> simp
theorem law_walk {g : Nat} {args : Array Value} (h : Tr Tryz.prog g args 1 (fun v => pu (v = .bool true))) (w : World) :
    Calls Tryz.prog g args w fun e w' => e = .returned (.bool true) ∧ Kept w w' ∧ ∀ (b : Nat) (o : Obj), w.heap[b]? = some o → w'.heap[b]? = some o := by
  obtain ⟨F, hF⟩ : ∃ F : SL, F = fun h => ∀ b, h b = w.heap[b]? := ⟨_, rfl⟩
  have hs : Sat w (1 * F) := by
    rw [sl_one_mul]
    subst hF
    exact ⟨fun b => w.heap[b]?, fun b o hb => hb, fun b => rfl⟩
  refine (h.2 _ w hs).mono fun e w' ⟨v, h1, h2, h3⟩ => ?_
  subst hF
  obtain ⟨hv, x, hx, hb⟩ := sat_pu.1 h2
  subst hv
  exact ⟨h1, h3, fun b o ho => hx b o (by rw [hb b]; exact ho)⟩
set_option maxRecDepth 100000 in
theorem post_same0 {H : Type} {enc : TypeId × Value → H} {f : Func} {s : ChangeSpec} {apart fresh handsOn again : Bool} {W W' : World} {args : Array Value} {v : Value} {ds gs : List (DataW H)}
    (hW : DataW.Whole enc Tryz.prog f.params.toList s.vars apart W args.toList ds gs [])
    (hres : ∀ (b : Nat) (sp : Nat → Bool) (hd : Bool), DataW.TrodAll enc Tryz.prog W' b sp hd f.resultTypes.toList (v.resultList f.resultTypes.size) (s.fn H (ds ++ gs)).results [])
    (hargs : ∀ sp : Nat → Bool, DataW.TrodAll enc Tryz.prog W' 0 sp true f.params.toList args.toList (s.fn H (ds ++ gs)).args [])
    (hvars : ∀ sp : Nat → Bool, DataW.TrodVars enc Tryz.prog W' sp s.vars (s.fn H (ds ++ gs)).vars [])
    (hk : ∀ may, W.keptBut W' may)
    (hok : ∀ (j : Nat) (t : TypeId) (r : Value), f.resultTypes[j]? = some t → (v.resultList f.resultTypes.size)[j]? = some r → Value.okWide Tryz.prog W' .any 0 t r) :
    s.post enc Tryz.prog f apart fresh handsOn again W args v W' := by
  refine ⟨ds, gs, [], [], [], [], hW, hres _ _ _, hargs _, hvars _, hk _, fun _ => ⟨hok, _, _, [], ⟨[], [], trodAll_append (hargs _) (hres _ _ _), hvars _, rfl, fun b off hp => ?_, fun _ => List.nodup_nil⟩, fun p hp _ => ?_⟩⟩
  · cases hp
  · cases hp
theorem own : ownKnob Tryz.prog.godebug = none := by kernel_rfl
set_option maxRecDepth 100000 in
theorem lifted (os : Os) (started : os.Started) (H : Type) (enc : TypeId × Value → H) :
    ReturnsInHanded {} Tryz.checked os 3 .any (Rows.nodeKillsSpec.pre6 enc Tryz.prog Tryz.f3 Rows.nodeKillsRow.domain false) (Rows.nodeKillsSpec.post enc Tryz.prog Tryz.f3 false true false false) := by
  refine returnsInHanded_of_change (C := Tryz.checked) own started (by kernel_rfl) Tryz.func3
    (ChangeSpec.witness6 (enc := enc) (C := Tryz.checked) false ⟨#[], #[.int .i64 0, .int .i64 0], []⟩ 8 (by kernel_rfl) (by kernel_rfl) (by kernel_rfl) (by kernel_rfl)) ?_
  intro W base args ds gs before hval0 hW hcnd _
  have hval : ∀ (j : Nat) t v, Tryz.f3.params[j]? = some t → args[j]? = some v → Value.okWide Tryz.prog W .any base t v := hval0
  have hW' := hW
  obtain ⟨p, q, hA0, hV, rfl, hfz, hnd⟩ := hW
  have hA : DataW.TrodAll enc Tryz.prog W 0 (fun _ => true) true Tryz.f3.params.toList args.toList ds p := hA0
  rw [Tryz.params3] at hA hval
  obtain ⟨v0, vs0, d0, ds0, p0, q0, hargs, rfl, rfl, h0, r0⟩ := trodAll_cons hA
  obtain ⟨v1, vs1, d1, ds1, p1, q1, rfl, rfl, rfl, h1, r1⟩ := trodAll_cons r0
  obtain ⟨rfl, rfl, rfl⟩ := trodAll_nil r1
  obtain rfl : args = #[v0, v1] := by cases args; simp_all
  obtain ⟨rfl, rfl⟩ := trodVars_none hV
  obtain ⟨a0, rfl, rfl, rfl, w0⟩ := open_int Tryz.underlying3 (hval 0 3 v0 rfl rfl) h0
  obtain ⟨a1, rfl, rfl, rfl, w1⟩ := open_int Tryz.underlying3 (hval 1 3 v1 rfl rfl) h1
  clear hA0 hval0
  simp only [List.append_nil] at hW'
  have bd : ∀ a : Int, (Lit.int .i64 a).wf = true → -9223372036854775808 ≤ a ∧ a ≤ 9223372036854775807 := by
    intro a ha
    simp only [Lit.wf, Bool.and_eq_true, decide_eq_true_eq] at ha
    exact ha
  refine (law_walk (nodeKills_tr a0 a1 (bd a0 w0) (bd a1 w1)) W).mono fun e W' ⟨he, hg, hh⟩ => ?_
  subst he
  exact ⟨_, rfl, post_same0 hW' (fun _ _ _ => (trodAll_cons_mk (shut_bool Tryz.underlying4 _) trodAll_mk0)) (fun sp => (trodAll_cons_mk (shut_int Tryz.underlying3 w0) (trodAll_cons_mk (shut_int Tryz.underlying3 w1) trodAll_mk0))) (fun _ => rfl)
    (kept_heap hg hh) (ok_one (by kernel_rfl) rfl (okWide_bool_mk Tryz.underlying4 _))⟩
theorem over : Rows.nodeKillsRow.holds Tryz.pinned (OpenSpec.ofChange Rows.nodeKillsSpec) :=
  OpenClaim.holds_of_wide 3 Tryz.f3 rfl rfl rfl rfl rfl rfl rfl ⟨rfl, rfl, rfl, rfl, rfl⟩ rfl rfl rfl rfl rfl (by kernel_rfl) Tryz.func3 (by kernel_rfl)
    (of_decide_eq_true (by kernel_rfl)) (by unfold Func.isWrapper; first | (rw [if_pos (by decide +kernel)]; kernel_rfl) | (rw [if_neg (by decide +kernel)]; exact ⟨rfl, rfl⟩))
    (fun os started H enc _ => lifted os started H enc)
/-- the statement -/
theorem nodeKills_holds : Rows.NodeKillsSaid := over
#print axioms nodeKills_holds
end Go.Proofs.YtoiakcgdkegncaaGreat
