import Derived.Test.YtoiakcgdkegncaaGreatK1
set_option linter.unusedVariables false
set_option linter.unusedSimpArgs false
set_option linter.unusedSectionVars false
namespace Ice
open Go Go.RowKit
def LS (m : Bool) (A J : SL) (b : Nat) (o : Obj) : Prop := (m = false ∧ Has A b o) ∨ (m = true ∧ EntW A J ∧ Has J b o)
def SD (m : Bool) (A J : SL) : Prop := m = false ∨ (m = true ∧ EntW A J)
section
variable {P : Program} {n : Nat} {w0 : World} {Q : Exit → Pos} {f : Nat → Value} {l : Env} {A : SL}
variable {ops : Array Oper} {J : SL} {K : Pos} {pl fl : List Nat} {k : Nat} {r : List Oper} {d : Nat} {ty : TypeId} {ps : String} {af : Array Edge}
theorem rpv_bind {w : World} {α β : Type} (s : Sem α) (g : α → Sem β) : rpv P w (s >>= g) = (rpv P w s).bind fun a => rpv P w (g a) := by
  show rpv P w (s.bind g) = _
  induction s with
  | pure a => rfl
  | program k ih => exact ih P
  | mark m k ih => exact ih
  | load m a k ih =>
    simp only [Sem.bind, rpv]
    cases w.cell? a with
    | none => rfl
    | some v => exact ih v
  | shape r k ih => exact ih _
  | frozen a k ih => exact ih _
  | getObj r k ih =>
    simp only [Sem.bind, rpv]
    cases h : w.heap[r]? with
    | none => rfl
    | some o => cases o <;> first | rfl | exact ih _
  | _ => rfl
theorem rpv_pure {w : World} {α : Type} (a : α) : rpv P w (pure a : Sem α) = some a := rfl
theorem rpv_map {w : World} {α β : Type} (g : α → β) (s : Sem α) : rpv P w (g <$> s) = (rpv P w s).map g := by
  show rpv P w (s.bind fun a => Sem.pure (g a)) = _
  exact (rpv_bind (P := P) s (fun a => Sem.pure (g a))).trans (by cases rpv P w s <;> rfl)
theorem rpv_of {w : World} {α : Type} {s : Sem α} {a : α} (h : spv P s = some a) : rpv P w s = some a := rpv_of_spv h
theorem rpv_load {w : World} {a : Addr} {v : Value} (h : w.cell? a = some v) : rpv P w (load a) = some v := by
  simp [load, rpv, h]
theorem aggB_spv {T : TypeId} {b : Bool} (h : aggB P T = some b) : spv P (isAgg T) = some b := by
  unfold isAgg
  rw [spv_bind, spv_underlying]
  unfold aggB at h
  split at h <;> simp_all [spv_pure]
theorem loadCells_rpv {w : World} {b : Nat} {cs : List Value} (hc : ∀ i, w.cell? ⟨b, i, none⟩ = cs[i]?) (o : Nat) : ∀ (m i : Nat) (acc : Array Value) (vs : List Value),
    vs.length = m → (∀ j, j < m → vs[j]? = cs[o + i + j]?) → (∀ v ∈ vs, True) → rpv P w (loadCellsFrom ⟨b, o, none⟩ i m acc) = some (acc ++ vs.toArray) := by
  intro m
  induction m with
  | zero => intro i acc vs hl _ _; have := List.length_eq_zero_iff.1 hl; subst this; simp [loadCellsFrom, rpv_pure]
  | succ m ih =>
    intro i acc vs hl hv _
    cases vs with
    | nil => simp at hl
    | cons v vs =>
      have h0 := hv 0 (by omega)
      simp only [List.getElem?_cons_zero, Nat.add_zero] at h0
      have hcell : w.cell? (Addr.add ⟨b, o, none⟩ i) = some v := by rw [addr_add, hc, ← h0]
      simp only [loadCellsFrom]
      rw [rpv_bind, rpv_load hcell]
      simp only [Option.bind_some]
      rw [ih (i + 1) (acc.push v) vs (by simpa using hl) (fun j hj => by
        have := hv (j + 1) (by omega)
        simp only [List.getElem?_cons_succ] at this
        rw [this]; congr 1; omega) (fun _ _ => trivial)]
      simp
theorem bl_cell {w : World} {b : Nat} {T : TypeId} {cs : List Value} (h : w.heap[b]? = some (.cells cs.toArray T (0, 0))) (i : Nat) : w.cell? ⟨b, i, none⟩ = cs[i]? := by
  rw [cell_blk h]; simp
theorem rv_load1 {w : World} {T : TypeId} {x : Operand} {ρ : Operand → Value} {b o E : Nat} {cs : List Value} {v : Value} (hx : ρ x = .pointer (some ⟨b, o, none⟩)) (ha : aggB P T = some false)
    (hh : w.heap[b]? = some (.cells cs.toArray E (0, 0))) (hv : nth cs o = some v) {dst : Option Nat} {ps : String} {af : Array Edge} {g : Option (Nat × Bool)} : rv P w ρ ⟨dst, .load T x, ty, ps, af, g⟩ = some v := by
  rw [nth_eq] at hv
  have hcell : w.cell? ⟨b, o, none⟩ = some v := by rw [bl_cell hh, hv]
  simp [rv, execOp, Instr.loadAt, hx, Instr.sureAddr, loadVar, rpv_bind, rpv_pure, rpv_of (aggB_spv ha), rpv_load hcell, val?, rpv_map]
theorem rv_loadA {w : World} {T : TypeId} {x : Operand} {ρ : Operand → Value} {b o E m : Nat} {cs vs : List Value} (hx : ρ x = .pointer (some ⟨b, o, none⟩)) (ha : aggB P T = some true) (hs : szB P T = some m)
    (hh : w.heap[b]? = some (.cells cs.toArray E (0, 0))) (hv : cutR cs o m [] = some vs) {dst : Option Nat} {ps : String} {af : Array Edge} {g : Option (Nat × Bool)} : rv P w ρ ⟨dst, .load T x, ty, ps, af, g⟩ = some (.agg vs.toArray) := by
  obtain ⟨l1, e1, e2, e3⟩ := cutR_spec hv
  simp only [List.append_nil] at e1
  subst e1
  have hsz : rpv P w (Go.sizeOf T) = some m := rpv_of (by rw [spv_sizeOf, hs])
  have hl : rpv P w (loadCells ⟨b, o, none⟩ m) = some vs.toArray := by
    have := loadCells_rpv (P := P) (fun i => bl_cell hh i) o m 0 #[] vs e2 (by simpa using e3) (fun _ _ => trivial)
    simpa [loadCells] using this
  simp [rv, execOp, Instr.loadAt, hx, Instr.sureAddr, loadVar, rpv_bind, rpv_pure, rpv_of (aggB_spv ha), hsz, hl, val?, rpv_map]
theorem rr_loadV {T : Nat} {x : Operand} {b E : Nat} {cs : List Value} {v : Value}
    (hs : LS (memN k pl) A J b (.cells cs.toArray E (0, 0)))
    (hv : ∀ w, w.heap[b]? = some (.cells cs.toArray E (0, 0)) → rv P w (evf f l) ⟨some d, .load T x, ty, ps, af, none⟩ = some v) (hd : Nat.blt d n = true)
    (h : RR P n w0 ops J K pl fl (k + 1) r f ((d, v) :: l) A) : RR P n w0 ops J K pl fl k (⟨some d, .load T x, ty, ps, af, none⟩ :: r) f l A := by
  refine rr_step rfl fun w a s kk z => ?_
  rcases hs with ⟨hm, hh⟩ | ⟨hm, he, hh⟩
  · have hc : clsF P pl fl k ⟨some d, .load T x, ty, ps, af, none⟩ = .load := by simp [clsF, kindF, hm]
    rw [hc]
    exact ⟨v, by rw [z.eval]; exact hv w (s.blk hh), h w _ s kk (z.put hd v)⟩
  · have hc : clsF P pl fl k ⟨some d, .load T x, ty, ps, af, none⟩ = .pload := by simp [clsF, kindF, hm]
    rw [hc]
    exact ⟨he w s, v, fun w' s' => by rw [z.eval]; exact hv w' (s'.blk hh), h w _ s kk (z.put hd v)⟩
theorem rr_load1 {T : Nat} {x : Operand} {b o E : Nat} {cs : List Value} {v : Value} (hx : ev? l x = some (.pointer (some ⟨b, o, none⟩))) (ha : aggB P T = some false)
    (hs : LS (memN k pl) A J b (.cells cs.toArray E (0, 0))) (hv : nth cs o = some v) (hd : Nat.blt d n = true)
    (h : RR P n w0 ops J K pl fl (k + 1) r f ((d, v) :: l) A) : RR P n w0 ops J K pl fl k (⟨some d, .load T x, ty, ps, af, none⟩ :: r) f l A :=
  rr_loadV hs (fun _ hh => rv_load1 (ev?_evf hx) ha hh hv) hd h
theorem rr_loadA {T : Nat} {x : Operand} {b o E m : Nat} {cs vs : List Value} (hx : ev? l x = some (.pointer (some ⟨b, o, none⟩))) (ha : aggB P T = some true) (hz : szB P T = some m)
    (hs : LS (memN k pl) A J b (.cells cs.toArray E (0, 0))) (hv : cutR cs o m [] = some vs) (hd : Nat.blt d n = true)
    (h : RR P n w0 ops J K pl fl (k + 1) r f ((d, .agg vs.toArray) :: l) A) : RR P n w0 ops J K pl fl k (⟨some d, .load T x, ty, ps, af, none⟩ :: r) f l A :=
  rr_loadV hs (fun _ hh => rv_loadA (ev?_evf hx) ha hz hh hv) hd h
def putE : Option Nat → Value → Env → Env
  | some d, v, l => (d, v) :: l
  | none, _, l => l
def okD (n : Nat) : Option Nat → Bool
  | some d => Nat.blt d n
  | none => true
theorem Fits.putE {n : Nat} {f : Nat → Value} {l : Env} {a : Act} (h : Fits n f l a) {d : Option Nat} (hd : okD n d = true) (v : Value) : Fits n f (Ice.putE d v l) (a.put d v) := by
  cases d with
  | none => exact h
  | some d => exact h.put hd v
/-- a loud operation that gives a value, or none -/
theorem rr_loud {dst : Option Nat} {op : Op} (hc : kindF P ⟨dst, op, ty, ps, af, none⟩ = .loud) (hs : SD (memN k fl) A J) (hd : okD n dst = true)
    (h : ∀ w, Sat w A → ∃ v w' A', ((execOp (evf f l) ⟨dst, op, ty, ps, af, none⟩).run P w = .ok (.value v) w' ∨ ((execOp (evf f l) ⟨dst, op, ty, ps, af, none⟩).run P w = .ok .skip w' ∧ v = undef)) ∧
      Sat w' A' ∧ Kept w w' ∧ SD (memN k fl) A' J ∧ RR P n w0 ops J K pl fl (k + 1) r f (putE dst v l) A') :
    RR P n w0 ops J K pl fl k (⟨dst, op, ty, ps, af, none⟩ :: r) f l A := by
  refine rr_step rfl fun w a s kk z => ?_
  obtain ⟨v, w', A', hr, s', k', hs', hn⟩ := h w s
  have key : LStep P a.eval ⟨dst, op, ty, ps, af, none⟩ w fun u w'' => u = v ∧ w'' = w' := by
    unfold LStep
    rw [z.eval]
    rcases hr with hr | ⟨hr, rfl⟩ <;> rw [hr] <;> exact ⟨rfl, rfl⟩
  rcases hs with hm | ⟨hm, he⟩
  · have hcl : clsF P pl fl k ⟨dst, op, ty, ps, af, none⟩ = .loud := by simp [clsF, hc, hm]
    rw [hcl]
    exact key.mono fun u w'' ⟨e1, e2⟩ => by subst e1; subst e2; exact hn w'' _ s' (kk.trans k') (z.putE hd u)
  · have hcl : clsF P pl fl k ⟨dst, op, ty, ps, af, none⟩ = .floud := by simp [clsF, hc, hm]
    rw [hcl]
    refine ⟨he w s, key.mono fun u w'' ⟨e1, e2⟩ => ?_⟩
    subst e1; subst e2
    rcases hs' with h0 | ⟨_, he'⟩
    · rw [hm] at h0; cases h0
    · exact ⟨he' w'' s', hn w'' _ s' (kk.trans k') (z.putE hd u)⟩
theorem run_callee {w : World} {c : Go.Call} {x : Operand} {g : Nat} {fs cs vs as : List Value} {ρ : Operand → Value} (hc : c.callee = .value x) (hx : ρ x = .func (.func g) fs.toArray cs.toArray)
    (hv : c.args.toList.map ρ = vs) (ha : fs ++ (vs ++ cs) = as) (hg : goF P g = true) {dst : Option Nat} {gd : Option (Nat × Bool)} :
    (execOp ρ ⟨dst, .call c, ty, ps, af, gd⟩).run P w = .ok (.enter g as.toArray) w := by
  have h0 : (c.args.map ρ).toList = vs := by rw [Array.toList_map]; exact hv
  have h1 : c.args.map ρ = vs.toArray := by rw [← h0]
  unfold goF at hg
  split at hg
  · rename_i fn hfn
    simp only [Bool.and_eq_true, Bool.not_eq_true', beq_eq_false_iff_ne, ne_eq] at hg
    have e : spv P (execOp ρ ⟨dst, .call c, ty, ps, af, gd⟩) = some (.enter g as.toArray) := by
      have hb : ¬ fn.body = none := by intro e; simp [e] at hg
      simp [hb, execOp, resolve, hc, hx, h1, Deferred.ofValue, spv_bind, spv_pure, invoke, callFunc, spv_program, hfn, hg.1, hg.2, ← ha]
    exact spv_run e w
  · simp at hg
/-- a call, by the callee's contract -/
theorem rr_call {c : Go.Call} {x : Operand} {g : Nat} {fs cs vs as : List Value} {X F : SL} {B : Value → SL} (hc : c.callee = .value x) (hx : ev? l x = some (.func (.func g) fs.toArray cs.toArray))
    (hv : ev?s l c.args.toList = some vs) (ha : fs ++ (vs ++ cs) = as) (ht : Tr P g as.toArray X B) (hF : Fr A X F) (hd : Nat.blt d n = true) (hs : SD (memN k fl) A J) (hs' : ∀ v, SD (memN k fl) (B v * F) J)
    (hk : kindF P ⟨some d, .call c, ty, ps, af, none⟩ = .loud)
    (h : ∀ v, RR P n w0 ops J K pl fl (k + 1) r f ((d, v) :: l) (B v * F)) : RR P n w0 ops J K pl fl k (⟨some d, .call c, ty, ps, af, none⟩ :: r) f l A := by
  refine rr_step rfl fun w a s kk z => ?_
  have key : LStep P a.eval ⟨some d, .call c, ty, ps, af, none⟩ w fun u w'' => Sat w'' (B u * F) ∧ Kept w w'' := by
    unfold LStep
    rw [z.eval, run_callee (P := P) hc (ev?_evf hx) (ev?s_evf hv) ha ht.1]
    exact (ht.2 F w (s.eq hF.eq)).mono fun e w' ⟨v, h1, h2, h3⟩ => ⟨v, h1, h2, h3⟩
  rcases hs with hm | ⟨hm, he⟩
  · have hcl : clsF P pl fl k ⟨some d, .call c, ty, ps, af, none⟩ = .loud := by simp [clsF, hk, hm]
    rw [hcl]
    exact key.mono fun u w'' ⟨e1, e2⟩ => h u w'' _ e1 (kk.trans e2) (z.put hd u)
  · have hcl : clsF P pl fl k ⟨some d, .call c, ty, ps, af, none⟩ = .floud := by simp [clsF, hk, hm]
    rw [hcl]
    refine ⟨he w s, key.mono fun u w'' ⟨e1, e2⟩ => ?_⟩
    rcases hs' u with h0 | ⟨_, he'⟩
    · rw [hm] at h0; cases h0
    · exact ⟨he' w'' e1, h u w'' _ e1 (kk.trans e2) (z.put hd u)⟩
theorem mapM_tmps {g : ResultVar → Sem Value} {tm : Nat → Value} (hg : ∀ t, g (.tmp t) = pure (tm t)) (ts : List Nat) :
    spv P ((ts.map ResultVar.tmp).toArray.mapM g) = some (ts.map tm).toArray := by
  rw [Array.mapM_eq_mapM_toList, spv_map]
  have : spv P ((ts.map ResultVar.tmp).mapM g) = some (ts.map tm) := by
    induction ts with
    | nil => rfl
    | cons t ts ih =>
      simp only [List.map_cons, List.mapM_cons]
      rw [spv_bind, hg, spv_pure]
      simp only [Option.bind_some]
      rw [spv_bind, ih]
      rfl
  rw [this]
  rfl
theorem results_tmps {fn : Func} {a : Act} {w : World} {ts : List Nat} {vs : List Value} (hr : fn.results = (ts.map ResultVar.tmp).toArray) (hv : ts.map (fun t => a.tmps.getD t undef) = vs) :
    (results fn a.tmps).run P w = .ok (if h : vs.length = 1 then vs[0] else .tuple vs.toArray) w := by
  refine spv_run ?_ w
  unfold results
  rw [spv_bind, hr, mapM_tmps (tm := fun t => a.tmps.getD t undef) (fun t => rfl), hv]
  simp only [Option.bind_some]
  rw [spv_pure]
  simp
/-- the results' slots -/
def resT : List ResultVar → Option (List Nat)
  | [] => some []
  | .tmp t :: r => match resT r with
    | some ts => some (t :: ts)
    | none => none
  | .cell _ _ :: _ => none
theorem resT_spec {l : List ResultVar} {ts : List Nat} (h : resT l = some ts) : l = ts.map ResultVar.tmp := by
  induction l generalizing ts with
  | nil => simp only [resT, Option.some.injEq] at h; subst h; rfl
  | cons x r ih =>
    cases x with
    | tmp t =>
      simp only [resT] at h
      split at h
      · rename_i ts' h'; simp only [Option.some.injEq] at h; subst h; simp [ih h']
      · simp at h
    | cell a t => simp [resT] at h
theorem tr_body {g : Nat} {fn : Func} {c : Code} {vs : List Value} {X : SL} {B : Value → SL} {L : Env} (hf : P.funcs[g]? = some fn) (hg : goF P g = true) (hb : fn.body = some c) (hn : fn.ntmps = n)
    {ts : List Nat} (hr : resT fn.results.toList = some ts) (hL : covers (fun t => (vs ++ List.replicate (n - vs.length) undef).getD t undef) [] L) (hvn : Nat.ble vs.length n = true)
    (h : ∀ (F : SL) (w0 : World) (f : Nat → Value), CC P n w0 c (fun x => match x with
      | .normal | .ret => fun f l A => ∃ us, ev?s l (ts.map Operand.tmp) = some us ∧ EntW A (B (match us with | [v] => v | us => .tuple us.toArray) * F)
      | _ => fun _ _ _ => False) f L (X * F)) : Tr P g vs.toArray X B := by
  refine ⟨hg, fun F w s => calls_of_wp hf hb ?_⟩
  have hsz : vs.length ≤ n := by simpa [Nat.ble_eq] using hvn
  have z : Fits n (fun t => (vs ++ List.replicate (n - vs.length) undef).getD t undef) [] { tmps := vs.toArray ++ Array.replicate (fn.ntmps - vs.toArray.size) undef, defers := [] } := by
    refine ⟨rfl, ?_, fun t => ?_⟩
    · simp [hn]; omega
    · simp only [hn, lk, lk?, Option.getD_none]
      rw [Array.getD_eq_getD_getElem?, ← Array.getElem?_toList]
      simp
  refine Code.wp_mono ?_ (h F w _ w _ s (.refl w) (z.re hL))
  intro e a w' he
  have fin : ∀ (f : Nat → Value) (l : Env) (A : SL), Fits n f l a → Sat w' A → Kept w w' → (∃ us, ev?s l (ts.map Operand.tmp) = some us ∧ EntW A (B (match us with | [v] => v | us => .tuple us.toArray) * F)) →
      a.defers = [] ∧ ∃ v, (results fn a.tmps).run P w' = .ok v w' ∧ ∃ u, Ending.returned v = .returned u ∧ Sat w' (B u * F) ∧ Kept w w' := by
    rintro f l A y s1 k1 ⟨us, h1, h2⟩
    have h3 : ts.map (fun t => a.tmps.getD t undef) = us := by
      rw [← ev?s_evf (f := f) h1, List.map_map]
      exact List.map_congr_left fun t _ => y.2.2 t
    have hr' : fn.results = (ts.map ResultVar.tmp).toArray := by rw [← resT_spec hr]
    refine ⟨y.1, _, results_tmps hr' h3, _, rfl, ?_, k1⟩
    have := h2 w' s1
    cases us with
    | nil => exact this
    | cons v us => cases us with
      | nil => exact this
      | cons v' us => exact this
  cases e with
  | normal => obtain ⟨f, l, A, y, s1, k1, q⟩ := he; exact fin f l A y s1 k1 q
  | ret => obtain ⟨f, l, A, y, s1, k1, q⟩ := he; exact fin f l A y s1 k1 q
  | panic c => exact he.elim
  | outgrown => exact he.elim
  | exit id => obtain ⟨f, l, A, y, s1, k1, q⟩ := he; exact q.elim
  | goto l => obtain ⟨f, l, A, y, s1, k1, q⟩ := he; exact q.elim
theorem ls0 {m : Bool} {A J : SL} {b : Nat} {o : Obj} [h : HasI A b o] (e : m = false) : LS m A J b o := .inl ⟨e, h.has⟩
theorem ls1 {m : Bool} {A J R : SL} {b : Nat} {o : Obj} [hr : Fr A J R] [h : HasI J b o] (e : m = true) : LS m A J b o := .inr ⟨e, entW_fr (X := J), h.has⟩
theorem sd0 {m : Bool} {A J : SL} (e : m = false) : SD m A J := .inl e
theorem sd1 {m : Bool} {A J R : SL} [hr : Fr A J R] (e : m = true) : SD m A J := .inr ⟨e, entW_fr (X := J)⟩
theorem cc_condT {x : Operand} {t e : Code} (hv : ev? l x = some (.bool true)) (ht : CC P n w0 t Q f l A) : CC P n w0 (.cond x t e) Q f l A := cc_cond hv (fun _ => ht) (fun h => by cases h)
theorem cc_condF {x : Operand} {t e : Code} (hv : ev? l x = some (.bool false)) (ht : CC P n w0 e Q f l A) : CC P n w0 (.cond x t e) Q f l A := cc_cond hv (fun h => by cases h) (fun _ => ht)
theorem rr_guardY {op : Op} {j : Nat} {want : Bool} {s : Nat} (hs : gslot ops j = some s) (hb : lk? l s = some (.bool want)) (hd : Nat.blt d n = true)
    (ht : RR P n w0 ops J K pl fl k (⟨some d, op, ty, ps, af, none⟩ :: r) f ((s, .bool want) :: l) A) :
    RR P n w0 ops J K pl fl k (⟨some d, op, ty, ps, af, some (j, want)⟩ :: r) f l A := rr_guard hs hb hd (fun _ => ht) (fun h => by cases want <;> cases h)
theorem rr_guardN {op : Op} {j : Nat} {want b : Bool} {s : Nat} (hs : gslot ops j = some s) (hb : lk? l s = some (.bool b)) (hn : (b == want) = false) (hd : Nat.blt d n = true)
    (hf : RR P n w0 ops J K pl fl (k + 1) r f ((d, undef) :: l) A) :
    RR P n w0 ops J K pl fl k (⟨some d, op, ty, ps, af, some (j, want)⟩ :: r) f l A := rr_guard hs hb hd (fun h => by subst h; simp at hn) (fun h => by
      subst h
      refine fun w a sa kk z => hf w a sa kk ?_
      refine ⟨z.1, z.2.1, fun t => ?_⟩
      rw [z.2.2 t]
      simp only [lk, lk?]
      cases Nat.beq d t
      · simp only [cond_false]
        cases h : Nat.beq s t
        · rfl
        · have := Nat.eq_of_beq_eq_true h; subst this; simp [hb]
      · rfl)
end
end Ice

namespace Ice
open Go Go.RowKit
class TU (P : Program) (T : TypeId) (d : outParam TypeDesc) : Prop where
  h : P.underlying T = some d
class T1 (P : Program) (T : TypeId) : Prop where
  h : aggB P T = some false
class TA (P : Program) (T : TypeId) (m : outParam Nat) : Prop where
  h : aggB P T = some true
  s : szB P T = some m
class TS (P : Program) (T : TypeId) (m : outParam Nat) : Prop where
  h : szB P T = some m
class TF (P : Program) (T i : Nat) (d : outParam Nat) : Prop where
  h : fOff P T i = some d
class TE (P : Program) (T : Nat) (E s : outParam Nat) : Prop where
  h : elB P T = some (E, s)
/-- a type's zero value, cell by cell -/
def zeroL (P : Program) (T : TypeId) : Option (List Value) := match P.info? T with
  | some i => match i.zero with
    | some v => some v.cells.toList
    | none => none
  | none => none
class TZ (P : Program) (T : Nat) (zs : outParam (List Value)) : Prop where
  h : zeroL P T = some zs
section
variable {P : Program} {n : Nat} {w0 : World} {Q : Exit → Pos} {f : Nat → Value} {l : Env} {A : SL}
variable {ops : Array Oper} {J : SL} {K : Pos} {pl fl : List Nat} {k : Nat} {r : List Oper} {d : Nat} {ty : TypeId} {ps : String} {af : Array Edge}
theorem r_fa {T fi : Nat} {x : Operand} {b o dd : Nat} [t : TF P T fi dd] (hx : ev? l x = some (.pointer (some ⟨b, o, none⟩))) (hd : Nat.blt d n = true)
    (h : RR P n w0 ops J K pl fl (k + 1) r f ((d, .pointer (some ⟨b, o + dd, none⟩)) :: l) A) : RR P n w0 ops J K pl fl k (⟨some d, .fieldAddr T x fi, ty, ps, af, none⟩ :: r) f l A := rr_fieldAddr hx t.h hd h
theorem r_ix {T : Nat} {x ix : Operand} {b o len cap s E : Nat} [t : TE P T E s] {q : IntKind} {i : Int} (hx : ev? l x = some (.slice (some ⟨b, o, none⟩) len cap)) (hi : ev? l ix = some (.int q i))
    (hd : Nat.blt d n = true) (h0 : 0 ≤ i ∧ i < len)
    (h : RR P n w0 ops J K pl fl (k + 1) r f ((d, .pointer (some ⟨b, o + i.toNat * s, none⟩)) :: l) A) : RR P n w0 ops J K pl fl k (⟨some d, .indexAddr T x ix, ty, ps, af, none⟩ :: r) f l A := rr_indexAddr hx hi t.h h0 hd h
theorem r_ld {T : Nat} {x : Operand} {b o E : Nat} {cs : List Value} {v : Value} [t : T1 P T] (hx : ev? l x = some (.pointer (some ⟨b, o, none⟩)))
    (hs : LS (memN k pl) A J b (.cells cs.toArray E (0, 0))) (hv : nth cs o = some v) (hd : Nat.blt d n = true)
    (h : RR P n w0 ops J K pl fl (k + 1) r f ((d, v) :: l) A) : RR P n w0 ops J K pl fl k (⟨some d, .load T x, ty, ps, af, none⟩ :: r) f l A := rr_load1 hx t.h hs hv hd h
theorem r_lda {T : Nat} {x : Operand} {b o E m : Nat} {cs vs : List Value} [t : TA P T m] (hx : ev? l x = some (.pointer (some ⟨b, o, none⟩)))
    (hs : LS (memN k pl) A J b (.cells cs.toArray E (0, 0))) (hv : cutR cs o m [] = some vs) (hd : Nat.blt d n = true)
    (h : RR P n w0 ops J K pl fl (k + 1) r f ((d, .agg vs.toArray) :: l) A) : RR P n w0 ops J K pl fl k (⟨some d, .load T x, ty, ps, af, none⟩ :: r) f l A := rr_loadA hx t.h t.s hs hv hd h
theorem eq_pnil {T e : Nat} [t : TU P T (.pointer e)] (a : Option Addr) : spv P (Op.equal T (.pointer a) (.pointer none)) = some a.isNone := by
  have : ∀ dd, spv P (Op.equalIn (dd + 1) T (.pointer a) (.pointer none)) = some a.isNone := by
    intro dd; cases a <;> simp [Op.equalIn, spv_bind, spv_underlying, t.h, spv_pure]
  exact this 9999
theorem eq_snil {T e len cap : Nat} [t : TU P T (.slice e)] (a : Option Addr) : spv P (Op.equal T (.slice a len cap) (.slice none 0 0)) = some a.isNone := by
  have : ∀ dd, spv P (Op.equalIn (dd + 1) T (.slice a len cap) (.slice none 0 0)) = some a.isNone := by
    intro dd; cases a <;> simp [Op.equalIn, spv_bind, spv_underlying, t.h, spv_pure]
  exact this 9999
theorem eq_bool {T : Nat} [t : TU P T .bool] (a b : Bool) : spv P (Op.equal T (.bool a) (.bool b)) = some (a == b) := by
  have : ∀ dd, spv P (Op.equalIn (dd + 1) T (.bool a) (.bool b)) = some (a == b) := by
    intro dd; simp [Op.equalIn, spv_bind, spv_underlying, t.h, spv_pure]
  exact this 9999
def pnil : BinOp → Option Addr → Option Bool
  | .eql, none => some true
  | .eql, some _ => some false
  | .neq, none => some false
  | .neq, some _ => some true
  | _, _ => none
/-- a pointer held against nil -/
theorem r_pnil {o : BinOp} {T e ty2 : Nat} {x : Operand} {a : Option Addr} {u : Bool} [t : TU P T (.pointer e)] (hx : ev? l x = some (.pointer a))
    (hu : pnil o a = some u) (hd : Nat.blt d n = true)
    (h : RR P n w0 ops J K pl fl (k + 1) r f ((d, .bool u) :: l) A) : RR P n w0 ops J K pl fl k (⟨some d, .binOp o T x (.const (.pointer none)) ty2, ty, ps, af, none⟩ :: r) f l A := by
  refine rr_pure rfl ?_ hd h
  have h1 := ev?_evf (f := f) hx
  have hc : evf f l (.const (.pointer none)) = .pointer none := rfl
  cases o <;> cases a <;> simp only [pnil, reduceCtorEq, Option.some.injEq] at hu <;> subst hu <;>
    simp [pv, execOp, h1, hc, eqGuard, binOp, eq_pnil, spv_bind, spv_pure, spv_map, val?]
/-- a slice held against nil -/
theorem r_snil {o : BinOp} {T e ty2 len cap : Nat} {x : Operand} {a : Option Addr} {u : Bool} [t : TU P T (.slice e)] (hx : ev? l x = some (.slice a len cap))
    (hu : pnil o a = some u) (hd : Nat.blt d n = true)
    (h : RR P n w0 ops J K pl fl (k + 1) r f ((d, .bool u) :: l) A) : RR P n w0 ops J K pl fl k (⟨some d, .binOp o T x (.const (.slice none 0 0)) ty2, ty, ps, af, none⟩ :: r) f l A := by
  refine rr_pure rfl ?_ hd h
  have h1 := ev?_evf (f := f) hx
  have hc : evf f l (.const (.slice none 0 0)) = .slice none 0 0 := rfl
  cases o <;> cases a <;> simp only [pnil, reduceCtorEq, Option.some.injEq] at hu <;> subst hu <;>
    simp [pv, execOp, h1, hc, eqGuard, binOp, eq_snil, spv_bind, spv_pure, spv_map, val?]
/-- two bools -/
theorem r_beq {o : BinOp} {T ty2 : Nat} {x y : Operand} {a b u : Bool} [t : TU P T .bool] (hx : ev? l x = some (.bool a)) (hy : ev? l y = some (.bool b))
    (hu : (match o with | .eql => some (a == b) | .neq => some (!(a == b)) | _ => none) = some u) (hd : Nat.blt d n = true)
    (h : RR P n w0 ops J K pl fl (k + 1) r f ((d, .bool u) :: l) A) : RR P n w0 ops J K pl fl k (⟨some d, .binOp o T x y ty2, ty, ps, af, none⟩ :: r) f l A := by
  refine rr_pure rfl ?_ hd h
  have h1 := ev?_evf (f := f) hx
  have h2 := ev?_evf (f := f) hy
  cases o <;> simp only [reduceCtorEq, Option.some.injEq] at hu <;> subst hu <;>
    simp [pv, execOp, h1, h2, eqGuard, binOp, eq_bool, spv_bind, spv_pure, spv_map, val?]
/-- the arithmetic of whole numbers, and their tests -/
def intBin : BinOp → IntKind → Int → Int → Option Value
  | .add, k, a, b => some (.int k (k.wrap (a + b)))
  | .sub, k, a, b => some (.int k (k.wrap (a - b)))
  | .mul, k, a, b => some (.int k (k.wrap (a * b)))
  | .and, k, a, b => some (.int k (k.wrap (BitVec.ofInt k.bits a &&& BitVec.ofInt k.bits b).toNat))
  | .or, k, a, b => some (.int k (k.wrap (BitVec.ofInt k.bits a ||| BitVec.ofInt k.bits b).toNat))
  | .xor, k, a, b => some (.int k (k.wrap (BitVec.ofInt k.bits a ^^^ BitVec.ofInt k.bits b).toNat))
  | .eql, _, a, b => some (.bool (a == b))
  | .neq, _, a, b => some (.bool (a != b))
  | .lss, _, a, b => some (.bool (decide (a < b)))
  | .leq, _, a, b => some (.bool (decide (a ≤ b)))
  | .gtr, _, a, b => some (.bool (decide (b < a)))
  | .geq, _, a, b => some (.bool (decide (b ≤ a)))
  | _, _, _, _ => none
theorem r_int {o : BinOp} {T ty2 : Nat} {x y : Operand} {q : IntKind} {a b : Int} {v : Value} (hx : ev? l x = some (.int q a)) (hy : ev? l y = some (.int q b))
    (hu : intBin o q a b = some v) (hd : Nat.blt d n = true)
    (h : RR P n w0 ops J K pl fl (k + 1) r f ((d, v) :: l) A) : RR P n w0 ops J K pl fl k (⟨some d, .binOp o T x y ty2, ty, ps, af, none⟩ :: r) f l A := by
  refine rr_pure rfl ?_ hd h
  have h1 := ev?_evf (f := f) hx
  have h2 := ev?_evf (f := f) hy
  cases o <;> simp only [intBin, reduceCtorEq, Option.some.injEq] at hu <;> subst hu <;>
    simp [pv, execOp, h1, h2, eqGuard, binOp, Op.intArith, Op.intBits, Op.intCmp, spv_bind, spv_pure, spv_map, val?]
/-- shifts by a plain number -/
theorem r_shl {T ty2 : Nat} {x y : Operand} {q q2 : IntKind} {a b : Int} (hx : ev? l x = some (.int q a)) (hy : ev? l y = some (.int q2 b)) (hd : Nat.blt d n = true) (hb : 0 ≤ b)
    (h : RR P n w0 ops J K pl fl (k + 1) r f ((d, .int q (q.wrap (a * 2 ^ (min b.toNat q.bits)))) :: l) A) : RR P n w0 ops J K pl fl k (⟨some d, .binOp .shl T x y ty2, ty, ps, af, none⟩ :: r) f l A := by
  refine rr_pure rfl ?_ hd h
  have h1 := ev?_evf (f := f) hx
  have h2 := ev?_evf (f := f) hy
  simp [pv, execOp, h1, h2, eqGuard, binOp, Op.shift, Int.not_lt.2 hb, spv_bind, spv_pure, spv_map, val?]
theorem r_shr {T ty2 : Nat} {x y : Operand} {q q2 : IntKind} {a b : Int} (hx : ev? l x = some (.int q a)) (hy : ev? l y = some (.int q2 b)) (hd : Nat.blt d n = true) (hb : 0 ≤ b)
    (h : RR P n w0 ops J K pl fl (k + 1) r f ((d, .int q (a.fdiv (2 ^ (min b.toNat q.bits)))) :: l) A) : RR P n w0 ops J K pl fl k (⟨some d, .binOp .shr T x y ty2, ty, ps, af, none⟩ :: r) f l A := by
  refine rr_pure rfl ?_ hd h
  have h1 := ev?_evf (f := f) hx
  have h2 := ev?_evf (f := f) hy
  simp [pv, execOp, h1, h2, eqGuard, binOp, Op.shift, Int.not_lt.2 hb, spv_bind, spv_pure, spv_map, val?]
/-- texts -/
def strBin : BinOp → ByteArray → ByteArray → Option Value
  | .eql, a, b => some (.bool (a.toList == b.toList))
  | .neq, a, b => some (.bool (!(a.toList == b.toList)))
  | .lss, a, b => some (.bool (Op.bytesLess a.toList b.toList))
  | .leq, a, b => some (.bool (Op.bytesLess a.toList b.toList || a.toList == b.toList))
  | .gtr, a, b => some (.bool (!(Op.bytesLess a.toList b.toList || a.toList == b.toList)))
  | .geq, a, b => some (.bool (!Op.bytesLess a.toList b.toList))
  | _, _, _ => none
theorem r_str {o : BinOp} {T ty2 : Nat} {x y : Operand} {a b : ByteArray} {v : Value} (hx : ev? l x = some (.string a)) (hy : ev? l y = some (.string b))
    (hu : strBin o a b = some v) (hd : Nat.blt d n = true)
    (h : RR P n w0 ops J K pl fl (k + 1) r f ((d, v) :: l) A) : RR P n w0 ops J K pl fl k (⟨some d, .binOp o T x y ty2, ty, ps, af, none⟩ :: r) f l A := by
  refine rr_pure rfl ?_ hd h
  have h1 := ev?_evf (f := f) hx
  have h2 := ev?_evf (f := f) hy
  cases o <;> simp only [strBin, reduceCtorEq, Option.some.injEq] at hu <;> subst hu <;>
    simp [pv, execOp, h1, h2, eqGuard, binOp, Op.stringOp, spv_bind, spv_pure, spv_map, val?]
theorem r_not {T : Nat} {x : Operand} {a : Bool} (hx : ev? l x = some (.bool a)) (hd : Nat.blt d n = true)
    (h : RR P n w0 ops J K pl fl (k + 1) r f ((d, .bool (!a)) :: l) A) : RR P n w0 ops J K pl fl k (⟨some d, .unOp .not T x, ty, ps, af, none⟩ :: r) f l A := by
  refine rr_pure rfl ?_ hd h
  have h1 := ev?_evf (f := f) hx
  simp [pv, execOp, h1, Op.unary, spv_pure, spv_map, val?]
/-- an int as an int of another kind -/
theorem r_conv {S T : Nat} {x : Operand} {q q1 q2 : IntKind} {a : Int} [t1 : TU P S (.int q1)] [t : TU P T (.int q2)] (hx : ev? l x = some (.int q a)) (hd : Nat.blt d n = true)
    (h : RR P n w0 ops J K pl fl (k + 1) r f ((d, .int q2 (q2.wrap a)) :: l) A) : RR P n w0 ops J K pl fl k (⟨some d, .convert S T x, ty, ps, af, none⟩ :: r) f l A := by
  refine rr_pure (by simp [kindF, isInt, t1.h, t.h]) ?_ hd h
  have h1 := ev?_evf (f := f) hx
  simp [pv, execOp, h1, convert, spv_bind, spv_underlying, t1.h, t.h, Conv.intToInt, spv_pure, spv_map, val?]
/-- len of a slice, of a text -/
theorem r_lens {T e : Nat} {x : Operand} {a : Option Addr} {m cap : Nat} [t : TU P T (.slice e)] (hx : ev? l x = some (.slice a m cap)) (hd : Nat.blt d n = true)
    (h : RR P n w0 ops J K pl fl (k + 1) r f ((d, .int .i64 m) :: l) A) : RR P n w0 ops J K pl fl k (⟨some d, .call ⟨.builtin .len, #[x], #[T]⟩, ty, ps, af, none⟩ :: r) f l A := by
  refine rr_pure rfl ?_ hd h
  have h1 := ev?_evf (f := f) hx
  simp [pv, execOp, resolve, h1, invoke, builtin, Builtin.len_, goInt, spv_bind, spv_underlying, t.h, spv_pure, spv_map, val?]
theorem r_lent {T : Nat} {x : Operand} {s : ByteArray} [t : TU P T .string] (hx : ev? l x = some (.string s)) (hd : Nat.blt d n = true)
    (h : RR P n w0 ops J K pl fl (k + 1) r f ((d, .int .i64 s.size) :: l) A) : RR P n w0 ops J K pl fl k (⟨some d, .call ⟨.builtin .len, #[x], #[T]⟩, ty, ps, af, none⟩ :: r) f l A := by
  refine rr_pure rfl ?_ hd h
  have h1 := ev?_evf (f := f) hx
  simp [pv, execOp, resolve, h1, invoke, builtin, Builtin.len_, goInt, spv_bind, spv_underlying, t.h, spv_pure, spv_map, val?]
theorem r_min {T1' T2' : Nat} {x y : Operand} {q q' : IntKind} {a b : Int} (hx : ev? l x = some (.int q a)) (hy : ev? l y = some (.int q' b)) (hd : Nat.blt d n = true)
    (h : RR P n w0 ops J K pl fl (k + 1) r f ((d, .int q (if b < a then b else a)) :: l) A) : RR P n w0 ops J K pl fl k (⟨some d, .call ⟨.builtin .min, #[x, y], #[T1', T2']⟩, ty, ps, af, none⟩ :: r) f l A := by
  refine rr_pure rfl ?_ hd h
  have h1 := ev?_evf (f := f) hx
  have h2 := ev?_evf (f := f) hy
  simp [pv, execOp, resolve, h1, h2, invoke, builtin, Builtin.min_, Builtin.min2, spv_bind, spv_pure, spv_map, val?]
theorem r_max {T1' T2' : Nat} {x y : Operand} {q q' : IntKind} {a b : Int} (hx : ev? l x = some (.int q a)) (hy : ev? l y = some (.int q' b)) (hd : Nat.blt d n = true)
    (h : RR P n w0 ops J K pl fl (k + 1) r f ((d, .int q (if a < b then b else a)) :: l) A) : RR P n w0 ops J K pl fl k (⟨some d, .call ⟨.builtin .max, #[x, y], #[T1', T2']⟩, ty, ps, af, none⟩ :: r) f l A := by
  refine rr_pure rfl ?_ hd h
  have h1 := ev?_evf (f := f) hx
  have h2 := ev?_evf (f := f) hy
  simp [pv, execOp, resolve, h1, h2, invoke, builtin, Builtin.max_, Builtin.max2, spv_bind, spv_pure, spv_map, val?]
/-- a text's byte -/
theorem r_ixt {T : Nat} {x ix : Operand} {s : ByteArray} {q : IntKind} {i : Int} {c : UInt8} [t : TU P T .string] (hx : ev? l x = some (.string s)) (hi : ev? l ix = some (.int q i)) (hd : Nat.blt d n = true)
    (h0 : 0 ≤ i) (hc : s[i.toNat]? = some c)
    (h : RR P n w0 ops J K pl fl (k + 1) r f ((d, .int .u8 c.toNat) :: l) A) : RR P n w0 ops J K pl fl k (⟨some d, .index T x ix, ty, ps, af, none⟩ :: r) f l A := by
  refine rr_pure rfl ?_ hd h
  have h1 := ev?_evf (f := f) hx
  have h2 := ev?_evf (f := f) hi
  simp [pv, execOp, h1, h2, Instr.index, asIntOf, spv_bind, spv_underlying, t.h, spv_pure, spv_map, val?, h0, hc]
end
end Ice

namespace Ice
open Go Go.RowKit
section
variable {P : Program} {n : Nat} {w0 : World} {Q : Exit → Pos} {f : Nat → Value} {l : Env} {A : SL}
variable {ops : Array Oper} {J : SL} {K : Pos} {pl fl : List Nat} {k : Nat} {r : List Oper} {d : Nat} {ty : TypeId} {ps : String} {af : Array Edge}
/-- sums and differences that do not wrap -/
theorem wrap_i64 {x : Int} (h : -9223372036854775808 ≤ x ∧ x ≤ 9223372036854775807) : IntKind.i64.wrap x = x := by
  rw [IntKind.wrap_i64]; omega
theorem r_add {T ty2 : Nat} {x y : Operand} {a b : Int} (hx : ev? l x = some (.int .i64 a)) (hy : ev? l y = some (.int .i64 b))
    (hd : Nat.blt d n = true) (hb : -9223372036854775808 ≤ a + b ∧ a + b ≤ 9223372036854775807)
    (h : RR P n w0 ops J K pl fl (k + 1) r f ((d, .int .i64 (a + b)) :: l) A) : RR P n w0 ops J K pl fl k (⟨some d, .binOp .add T x y ty2, ty, ps, af, none⟩ :: r) f l A :=
  r_int hx hy (v := .int .i64 (a + b)) (by simp only [intBin]; rw [wrap_i64 hb]) hd h
theorem r_sub {T ty2 : Nat} {x y : Operand} {a b : Int} (hx : ev? l x = some (.int .i64 a)) (hy : ev? l y = some (.int .i64 b))
    (hd : Nat.blt d n = true) (hb : -9223372036854775808 ≤ a - b ∧ a - b ≤ 9223372036854775807)
    (h : RR P n w0 ops J K pl fl (k + 1) r f ((d, .int .i64 (a - b)) :: l) A) : RR P n w0 ops J K pl fl k (⟨some d, .binOp .sub T x y ty2, ty, ps, af, none⟩ :: r) f l A :=
  r_int hx hy (v := .int .i64 (a - b)) (by simp only [intBin]; rw [wrap_i64 hb]) hd h
theorem r_mul {T ty2 : Nat} {x y : Operand} {a b : Int} (hx : ev? l x = some (.int .i64 a)) (hy : ev? l y = some (.int .i64 b))
    (hd : Nat.blt d n = true) (hb : -9223372036854775808 ≤ a * b ∧ a * b ≤ 9223372036854775807)
    (h : RR P n w0 ops J K pl fl (k + 1) r f ((d, .int .i64 (a * b)) :: l) A) : RR P n w0 ops J K pl fl k (⟨some d, .binOp .mul T x y ty2, ty, ps, af, none⟩ :: r) f l A :=
  r_int hx hy (v := .int .i64 (a * b)) (by simp only [intBin]; rw [wrap_i64 hb]) hd h
/-- running, part by part -/
theorem run_bind {w : World} {α β : Type} (s : Sem α) (g : α → Sem β) : (s >>= g).run P w = match s.run P w with
    | .ok a w' => (g a).run P w'
    | .halt h w' => .halt h w' := by
  show (s.bind g).run P w = _
  rw [Sem.run_bind']
  cases s.run P w <;> rfl
theorem run_pure {w : World} {α : Type} (a : α) : (pure a : Sem α).run P w = .ok a w := rfl
theorem run_map {w : World} {α β : Type} (g : α → β) (s : Sem α) : (g <$> s).run P w = match s.run P w with
    | .ok a w' => .ok (g a) w'
    | .halt h w' => .halt h w' := by
  show (s.bind fun a => Sem.pure (g a)).run P w = _
  exact (run_bind (P := P) s (fun a => Sem.pure (g a))).trans (by cases s.run P w <;> rfl)
theorem run_of {w : World} {α : Type} {s : Sem α} {a : α} (h : spv P s = some a) : s.run P w = .ok a w := spv_run h w
theorem run_new {w : World} (o : Obj) : (newObj o).run P w = .ok w.heap.size (w.alloc o) := rfl
theorem setL_lt {v : Value} : ∀ {cs : List Value} {j : Nat}, j < cs.length → setL cs j v = some (cs.set j v)
  | [], _, h => by simp at h
  | _ :: _, 0, _ => rfl
  | _ :: r, j + 1, h => by
    have := setL_lt (v := v) (cs := r) (j := j) (by simpa using h)
    simp [setL, this]
def oneC : Value → Bool
  | .agg _ => false
  | .tuple _ => false
  | _ => true
theorem oneC_cells {v : Value} (h : oneC v = true) : v.cells = #[v] := by cases v <;> simp_all [oneC, Value.cells]
theorem run_store1 {w : World} {b i E : Nat} {cs : List Value} {v : Value} (h : w.heap[b]? = some (.cells cs.toArray E (0, 0))) (hi : i < cs.length) (hv : oneC v = true) :
    (store ⟨b, i, none⟩ v).run P w = .ok () (w.setCell ⟨b, i, none⟩ v) := by
  have hc : w.cell? ⟨b, i, none⟩ = some cs[i] := by rw [bl_cell h]; simp [hi]
  have hf := frozen_blk h i
  cases v <;> simp_all [store, Sem.run, oneC]
theorem run_storeCells {b E : Nat} : ∀ (vs : List Value) (w : World) (cs : List Value) (o i : Nat), w.heap[b]? = some (.cells cs.toArray E (0, 0)) → o + i + vs.length ≤ cs.length → (∀ v ∈ vs, oneC v = true) →
    ∃ w', (storeCells ⟨b, o, none⟩ vs i).run P w = .ok () w' ∧ Kept w w' ∧ (∀ A A' cs', Sat w A → setR cs (o + i) vs = some cs' → Upd A b (.cells cs.toArray E (0, 0)) (.cells cs'.toArray E (0, 0)) A' → Sat w' A') := by
  intro vs
  induction vs with
  | nil =>
    intro w cs o i h _ _
    refine ⟨w, rfl, .refl w, fun A A' cs' s hs hu => ?_⟩
    simp only [setR, Option.some.injEq] at hs
    subst hs
    obtain ⟨x, a, p⟩ := s
    obtain ⟨e1, e2⟩ := hu x p
    refine ⟨_, fun c o hc => ?_, e2⟩
    by_cases e : c = b
    · subst e; simp only [if_true] at hc; exact a _ _ (e1.trans hc)
    · simp only [e, if_false] at hc; exact a _ _ hc
  | cons v vs ih =>
    intro w cs o i h hl hv
    simp only [List.length_cons] at hl
    have hi : o + i < cs.length := by omega
    have h1 := run_store1 (P := P) h hi (hv v (by simp))
    have hb : (w.setCell ⟨b, o + i, none⟩ v).heap[b]? = some (.cells (cs.set (o + i) v).toArray E (0, 0)) := by
      rw [heap_setCell_of h]; simp
    obtain ⟨w', r1, r2, r3⟩ := ih (w.setCell ⟨b, o + i, none⟩ v) (cs.set (o + i) v) o (i + 1) hb (by simp; omega) (fun u hu => hv u (by simp [hu]))
    refine ⟨w', ?_, (Kept.setCell (.refl w) _ _).trans r2, fun A A' cs' s hs hu => ?_⟩
    · unfold storeCells
      rw [run_bind, addr_add, h1]
      exact r1
    · simp only [setR] at hs
      have hset : setL cs (o + i) v = some (cs.set (o + i) v) := setL_lt hi
      rw [hset] at hs
      -- one cell, then the others
      obtain ⟨x, a, p⟩ := s
      obtain ⟨e1, e2⟩ := hu x p
      have hm : Sat (w.setCell ⟨b, o + i, none⟩ v) (fun y => ∃ x, A x ∧ y = fun c => if c = b then some (.cells (cs.set (o + i) v).toArray E (0, 0)) else x c) := by
        refine ⟨fun c => if c = b then some (.cells (cs.set (o + i) v).toArray E (0, 0)) else x c, fun c u hc => ?_, x, p, rfl⟩
        rw [heap_setCell_of h]
        by_cases e : c = b
        · simp only [e, if_true] at hc ⊢; simpa using hc
        · simp only [e, if_false] at hc ⊢; exact a _ _ hc
      refine r3 _ A' cs' hm (by rw [show o + (i + 1) = o + i + 1 by omega]; exact hs) ?_
      rintro y ⟨x, p, rfl⟩
      obtain ⟨e1, e2⟩ := hu x p
      refine ⟨by simp, ?_⟩
      have : (fun c => if c = b then some (Obj.cells cs'.toArray E (0, 0)) else (if c = b then some (.cells (cs.set (o + i) v).toArray E (0, 0)) else x c)) = fun c => if c = b then some (.cells cs'.toArray E (0, 0)) else x c := by
        funext c; by_cases e : c = b <;> simp [e]
      rw [this]; exact e2
theorem spv_size {T m : Nat} [t : TS P T m] : spv P (Go.sizeOf T) = some m := by rw [spv_sizeOf, t.h]
/-- a store of one cell -/
theorem r_st {T : Nat} {x y : Operand} {b o E : Nat} {cs cs' : List Value} {v : Value} {A' : SL} [t : TS P T 1] (hx : ev? l x = some (.pointer (some ⟨b, o, none⟩))) (hy : ev? l y = some v) (h1 : oneC v = true)
    [hh : HasI A b (.cells cs.toArray E (0, 0))] (hs : setL cs o v = some cs') [hu : UpdI A b (.cells cs.toArray E (0, 0)) (.cells cs'.toArray E (0, 0)) A'] (s1 : SD (memN k fl) A J) (s2 : SD (memN k fl) A' J)
    (h : RR P n w0 ops J K pl fl (k + 1) r f l A') : RR P n w0 ops J K pl fl k (⟨none, .store T x y, ty, ps, af, none⟩ :: r) f l A := by
  refine rr_loud rfl s1 rfl fun w s => ?_
  have e1 := ev?_evf (f := f) hx
  have e2 := ev?_evf (f := f) hy
  obtain ⟨g1, rfl⟩ := setL_spec hs
  have hb := s.blk hh.has
  refine ⟨undef, w.setCell ⟨b, o, none⟩ v, A', .inr ⟨?_, rfl⟩, ?_, .setCell (.refl w) _ _, s2, h⟩
  · simp [execOp, e1, e2, Instr.storeAt, Instr.sureAddr, storeVar, run_bind, run_pure, oneC_cells h1, run_of (spv_size (P := P) (T := T)), storeCells, addr_add, run_store1 hb g1 h1]
  · refine s.set (cs := cs.toArray) (T := E) (fr := (0, 0)) ?_
    have := hu.upd
    simpa using this
/-- a store of a struct -/
theorem r_sta {T : Nat} {x y : Operand} {b o E m : Nat} {cs cs' vs : List Value} {A' : SL} [t : TA P T m] (hx : ev? l x = some (.pointer (some ⟨b, o, none⟩))) (hy : ev? l y = some (.agg vs.toArray))
    (h0 : vs.length = m) (h1 : vs.all oneC = true) [hh : HasI A b (.cells cs.toArray E (0, 0))] (hs : setR cs o vs = some cs') (hl : o + vs.length ≤ cs.length) [hu : UpdI A b (.cells cs.toArray E (0, 0)) (.cells cs'.toArray E (0, 0)) A'] (s1 : SD (memN k fl) A J) (s2 : SD (memN k fl) A' J)
    (h : RR P n w0 ops J K pl fl (k + 1) r f l A') : RR P n w0 ops J K pl fl k (⟨none, .store T x y, ty, ps, af, none⟩ :: r) f l A := by
  refine rr_loud rfl s1 rfl fun w s => ?_
  have e1 := ev?_evf (f := f) hx
  have e2 := ev?_evf (f := f) hy
  have hb := s.blk hh.has
  obtain ⟨w', r1, r2, r3⟩ := run_storeCells (P := P) vs w cs o 0 hb (by omega) (fun v hv => List.all_eq_true.1 h1 v hv)
  refine ⟨undef, w', A', .inr ⟨?_, rfl⟩, r3 A A' cs' s (by simpa using hs) hu.upd, r2, s2, h⟩
  have hz : spv P (Go.sizeOf T) = some m := by rw [spv_sizeOf, t.s]
  simp [execOp, e1, e2, Instr.storeAt, Instr.sureAddr, storeVar, run_bind, run_pure, Value.cells, run_of hz, h0, r1]
theorem spv_zero {T : Nat} {zs : List Value} [t : TZ P T zs] : ∃ v, spv P (zeroValue T) = some v ∧ v.cells = zs.toArray := by
  have h := t.h
  unfold zeroL at h
  split at h
  · rename_i i hi
    split at h
    · rename_i v hv
      simp only [Option.some.injEq] at h
      refine ⟨v, ?_, by rw [← h]⟩
      unfold zeroValue
      rw [spv_bind, spv_typeInfo, hi]
      simp [hv, spv_pure]
    · simp at h
  · simp at h
/-- new(T) -/
theorem r_alloc {T : Nat} {zs : List Value} [t : TZ P T zs] (hd : Nat.blt d n = true) (s1 : SD (memN k fl) A J) (s2 : ∀ b, SD (memN k fl) (bl b T zs * A) J)
    (h : ∀ b, RR P n w0 ops J K pl fl (k + 1) r f ((d, .pointer (some ⟨b, 0, none⟩)) :: l) (bl b T zs * A)) : RR P n w0 ops J K pl fl k (⟨some d, .alloc T, ty, ps, af, none⟩ :: r) f l A := by
  refine rr_loud rfl s1 hd fun w s => ?_
  obtain ⟨v, hv, hc⟩ := spv_zero (P := P) (T := T)
  refine ⟨_, w.alloc (.cells zs.toArray T), _, .inl ?_, s.alloc _, .alloc (.refl w) _, s2 _, h w.heap.size⟩
  simp [execOp, Instr.alloc, run_bind, run_pure, run_map, run_of hv, newVar, newRow, run_new, hc]
/-- a box of one cell -/
theorem r_box {T : Nat} {x : Operand} {v : Value} (hx : ev? l x = some v) (h1 : oneC v = true) (hd : Nat.blt d n = true) (s1 : SD (memN k fl) A J) (s2 : ∀ b, SD (memN k fl) (bl b T [v] * A) J)
    (h : ∀ b, RR P n w0 ops J K pl fl (k + 1) r f ((d, .pointer (some ⟨b, 0, none⟩)) :: l) (bl b T [v] * A)) : RR P n w0 ops J K pl fl k (⟨some d, .box T x, ty, ps, af, none⟩ :: r) f l A := by
  refine rr_loud rfl s1 hd fun w s => ?_
  have e1 := ev?_evf (f := f) hx
  refine ⟨_, w.alloc (.cells [v].toArray T), _, .inl ?_, s.alloc _, .alloc (.refl w) _, s2 _, h w.heap.size⟩
  simp [execOp, Instr.box, run_bind, run_pure, run_map, e1, newVar, newRow, run_new, oneC_cells h1]
theorem r_boxa {T : Nat} {x : Operand} {vs : List Value} (hx : ev? l x = some (.agg vs.toArray)) (hd : Nat.blt d n = true) (s1 : SD (memN k fl) A J) (s2 : ∀ b, SD (memN k fl) (bl b T vs * A) J)
    (h : ∀ b, RR P n w0 ops J K pl fl (k + 1) r f ((d, .pointer (some ⟨b, 0, none⟩)) :: l) (bl b T vs * A)) : RR P n w0 ops J K pl fl k (⟨some d, .box T x, ty, ps, af, none⟩ :: r) f l A := by
  refine rr_loud rfl s1 hd fun w s => ?_
  have e1 := ev?_evf (f := f) hx
  refine ⟨_, w.alloc (.cells vs.toArray T), _, .inl ?_, s.alloc _, .alloc (.refl w) _, s2 _, h w.heap.size⟩
  simp [execOp, Instr.box, run_bind, run_pure, run_map, e1, newVar, newRow, run_new, Value.cells]
end
end Ice

namespace Ice
open Go Go.RowKit
/-- v is a slice of m elements of type E (s cells each) with the cells xs, in a row of its own, or nil -/
def slR (v : Value) (E s m : Nat) (xs : List Value) : SL := fun h =>
  (v = .slice none 0 0 ∧ m = 0 ∧ xs = [] ∧ ∀ b, h b = none) ∨
  ∃ b cap rest, v = .slice (some ⟨b, 0, none⟩) m cap ∧ xs.length = m * s ∧ (xs ++ rest).length = cap * s ∧ bl b E (xs ++ rest) h
theorem slR_nil (E s : Nat) : Ent 1 (slR (.slice none 0 0) E s 0 []) := fun _ h => .inl ⟨rfl, rfl, rfl, h⟩
theorem slR_new {b E s m : Nat} {cs : List Value} (h : cs.length = m * s) : Ent (bl b E cs) (slR (.slice (some ⟨b, 0, none⟩) m m) E s m cs) := fun _ x =>
  .inr ⟨b, m, [], rfl, h, by simpa using h, by simpa using x⟩
theorem slR_cases {v : Value} {E s m : Nat} {xs : List Value} {A : SL} {w : World} (h : Sat w (slR v E s m xs * A)) :
    (v = .slice none 0 0 ∧ m = 0 ∧ xs = [] ∧ Sat w A) ∨ ∃ b cap rest, v = .slice (some ⟨b, 0, none⟩) m cap ∧ xs.length = m * s ∧ (xs ++ rest).length = cap * s ∧ Sat w (bl b E (xs ++ rest) * A) := by
  obtain ⟨h, a, h1, h2, hd, he, p, q⟩ := h
  rcases p with ⟨e1, e2, e3, e4⟩ | ⟨b, cap, rest, e1, e2, e3, e4⟩
  · refine .inl ⟨e1, e2, e3, h, a, ?_⟩
    have : h = h2 := funext fun b => by rw [he, e4 b]; rfl
    rw [this]; exact q
  · exact .inr ⟨b, cap, rest, e1, e2, e3, h, a, h1, h2, hd, he, e4, q⟩
section
variable {P : Program} {n : Nat} {w0 : World} {Q : Exit → Pos} {f : Nat → Value} {l : Env} {A : SL}
variable {ops : Array Oper} {J : SL} {K : Pos} {pl fl : List Nat} {k : Nat} {r : List Oper} {d : Nat} {ty : TypeId} {ps : String} {af : Array Edge}
/-- a slice is nil, or lies in a block -/
theorem RR.slc {v : Value} {E s m : Nat} {xs : List Value}
    (h1 : v = .slice none 0 0 → m = 0 → xs = [] → RR P n w0 ops J K pl fl k r f l A)
    (h2 : ∀ b cap rest, v = .slice (some ⟨b, 0, none⟩) m cap → xs.length = m * s → (xs ++ rest).length = cap * s → RR P n w0 ops J K pl fl k r f l (bl b E (xs ++ rest) * A)) :
    RR P n w0 ops J K pl fl k r f l (slR v E s m xs * A) := fun w a sa kk z => by
  rcases slR_cases sa with ⟨e1, e2, e3, s1⟩ | ⟨b, cap, rest, e1, e2, e3, s1⟩
  · exact h1 e1 e2 e3 w a s1 kk z
  · exact h2 b cap rest e1 e2 e3 w a s1 kk z
theorem CC.slc {c : Code} {v : Value} {E s m : Nat} {xs : List Value}
    (h1 : v = .slice none 0 0 → m = 0 → xs = [] → CC P n w0 c Q f l A)
    (h2 : ∀ b cap rest, v = .slice (some ⟨b, 0, none⟩) m cap → xs.length = m * s → (xs ++ rest).length = cap * s → CC P n w0 c Q f l (bl b E (xs ++ rest) * A)) :
    CC P n w0 c Q f l (slR v E s m xs * A) := fun w a sa kk z => by
  rcases slR_cases sa with ⟨e1, e2, e3, s1⟩ | ⟨b, cap, rest, e1, e2, e3, s1⟩
  · exact h1 e1 e2 e3 w a s1 kk z
  · exact h2 b cap rest e1 e2 e3 w a s1 kk z
theorem loadCells_run {w : World} {b E : Nat} {cs : List Value} (hh : w.heap[b]? = some (.cells cs.toArray E (0, 0))) {o m : Nat} (h : o + m ≤ cs.length) :
    (loadCells ⟨b, o, none⟩ m).run P w = .ok ((cs.drop o).take m).toArray w := by
  have hl : ((cs.drop o).take m).length = m := by simp; omega
  have := loadCells_rpv (P := P) (fun i => bl_cell hh i) o m 0 #[] ((cs.drop o).take m) hl (fun j hj => by
    rw [List.getElem?_take_of_lt hj, List.getElem?_drop]; rfl) (fun _ _ => trivial)
  refine rpv_run ?_
  simpa [loadCells] using this
/-- what append reads -/
def Src (P : Program) (w : World) (y : Value) (s k : Nat) (ys : List Value) : Prop :=
  ∀ w', w'.heap = w.heap → (Builtin.firstCells s k y).run P w' = .ok ys.toArray w' ∧ (Builtin.lenOf y).run P w' = .ok k w'
theorem src_nil {w : World} {s : Nat} {cap : Nat} : Src P w (.slice none 0 cap) s 0 [] := fun _ _ => ⟨rfl, rfl⟩
theorem src_blk {w : World} {b E o s k cap : Nat} {cs : List Value} (hh : w.heap[b]? = some (.cells cs.toArray E (0, 0))) (h : o + k * s ≤ cs.length) :
    Src P w (.slice (some ⟨b, o, none⟩) k cap) s k ((cs.drop o).take (k * s)) := fun w' e => ⟨loadCells_run (by rw [e]; exact hh) h, rfl⟩
def bytesV (t : ByteArray) : List Value := t.data.toList.map fun c => .int .u8 c.toNat
theorem src_str {w : World} {t : ByteArray} : Src P w (.string t) 1 t.size (bytesV t) := by
  refine fun w' _ => ⟨?_, rfl⟩
  unfold Builtin.firstCells
  rw [run_pure]
  have : (t.extract 0 t.size) = t := by
    apply ByteArray.ext
    rw [ByteArray.data_extract, ← ByteArray.size_data]
    exact Array.extract_size
  rw [this]
  unfold bytesV
  rw [← Array.toList_map]
theorem growBy_le {nl : Nat} : ∀ (rounds c : Nat), c < nl → Builtin.growBy nl rounds c ≤ 2 * nl + 192 := by
  intro rounds
  induction rounds with
  | zero => intro c h; simp only [Builtin.growBy]; omega
  | succ k ih =>
    intro c h
    simp only [Builtin.growBy]
    rw [if_neg (by omega)]
    by_cases h2 : c + (c + 768) / 4 < nl
    · exact ih _ h2
    · cases k with
      | zero => simp only [Builtin.growBy]; omega
      | succ k => simp only [Builtin.growBy]; rw [if_pos (by omega)]; omega
theorem nextcap_le {nl oc : Nat} (h : oc < nl) : Builtin.nextslicecap nl oc ≤ 2 * nl + 192 := by
  unfold Builtin.nextslicecap
  split
  · omega
  · split
    · omega
    · exact growBy_le 4 oc h
class TBy (P : Program) (T : TypeId) (m : outParam Nat) : Prop where
  h : (P.info? T).map (·.bytes) = some m
theorem zeroCells_len (zs : Array Value) (m : Nat) : (Builtin.zeroCells zs m).size = m * zs.size := by simp [Builtin.zeroCells]
theorem run_askRoom {w : World} (m : Nat) : (askRoom m).run P w = .ok () w := by
  unfold askRoom; split <;> rfl
theorem setR_app : ∀ (ys xs rest : List Value), ys.length ≤ rest.length → setR (xs ++ rest) xs.length ys = some (xs ++ ys ++ rest.drop ys.length) := by
  intro ys
  induction ys with
  | nil => intro xs rest _; simp [setR]
  | cons y ys ih =>
    intro xs rest h
    cases rest with
    | nil => simp at h
    | cons z rest =>
      simp only [setR]
      rw [setL_lt (by simp)]
      have := ih (xs ++ [y]) rest (by simpa using h)
      simp only [List.length_append, List.length_cons, List.length_nil, Nat.zero_add] at this
      rw [show (xs ++ z :: rest).set xs.length y = xs ++ [y] ++ rest by simp]
      simp only [this]
      simp
set_option maxHeartbeats 2000000 in
theorem run_append {w : World} {T T2 E s m k' by' : Nat} {v y : Value} {xs ys zs : List Value} {R : SL} {ty : TypeId} [t : TU P T (.slice E)] [t2 : TS P E s] [t3 : TBy P E by'] [t4 : TZ P E zs]
    (hz : zs.length = s) (h2 : spv P (underlying T2) = some (.slice E) ∨ spv P (underlying T2) = some .string)
    (hs : Sat w (slR v E s m xs * R)) (hsrc : Src P w y s k' ys) (hys : ys.length = k' * s) (hone : ys.all oneC = true) (hb : (2 * (m + k') + 192) * by' ≤ 281474976710656) (hm : m + k' ≤ 9223372036854775807) (hby0 : 0 < by') :
    ∃ v' w', (Builtin.append_ #[T, T2] ty #[v, y]).run P w = .ok v' w' ∧ Sat w' (slR v' E s (m + k') (xs ++ ys) * R) ∧ Kept w w' := by
  have hu : ∀ w, (underlying T).run P w = .ok (.slice E) w := fun w => run_of (by rw [spv_underlying, t.h])
  have hsz : ∀ w, (Go.sizeOf E).run P w = .ok s w := fun w => run_of (by rw [spv_sizeOf, t2.h])
  obtain ⟨i0, hi0, hby⟩ : ∃ i, P.info? E = some i ∧ i.bytes = by' := by
    have := t3.h
    cases hi : P.info? E with
    | none => simp [hi] at this
    | some i => simp [hi] at this; exact ⟨i, rfl, this⟩
  have hti : ∀ w, (typeInfo E).run P w = .ok i0 w := fun w => run_of (by rw [spv_typeInfo, hi0])
  obtain ⟨zv, hzv, hzc⟩ := spv_zero (P := P) (T := E)
  have hzr : ∀ w, (zeroValue E).run P w = .ok zv w := fun w => run_of hzv
  have hu2 : (∀ w, (underlying T2).run P w = .ok (.slice E) w) ∨ (∀ w, (underlying T2).run P w = .ok .string w) := h2.imp (fun h w => run_of h) (fun h w => run_of h)
  have hvs : ∃ base cap, v = .slice base m cap := by
    rcases slR_cases hs with ⟨e1, e2, e3, _⟩ | ⟨b, cap, rest, e1, _⟩
    · exact ⟨none, 0, by rw [e1, e2]⟩
    · exact ⟨_, cap, e1⟩
  obtain ⟨base, cap, hv⟩ := hvs
  subst hv
  have hl := (hsrc w rfl).2
  have hc := (hsrc w rfl).1
  by_cases hfit : m + k' ≤ cap
  · -- there is room
    rcases slR_cases hs with ⟨e1, e2, e3, s1⟩ | ⟨b, cap', rest, e1, e2, e3, s1⟩
    · simp only [Value.slice.injEq] at e1
      obtain ⟨rfl, rfl, rfl⟩ := e1
      obtain rfl : k' = 0 := by omega
      obtain rfl : ys = [] := List.length_eq_zero_iff.1 (by simpa using hys)
      refine ⟨.slice none 0 0, w, ?_, by simpa using hs, .refl w⟩
      rcases hu2 with hu2 | hu2 <;> simp [Builtin.append_, run_bind, run_map, run_pure, hu, hu2, hsz, hl, hc]
    · simp only [Value.slice.injEq] at e1
      obtain ⟨rfl, _, rfl⟩ := e1
      have hb0 := s1.blk (.l .o)
      have hlen : m * s + ys.length ≤ (xs ++ rest).length := by
        rw [hys, e3, ← Nat.add_mul]; exact Nat.mul_le_mul_right _ hfit
      obtain ⟨w', r1, r2, r3⟩ := run_storeCells (P := P) ys w (xs ++ rest) (m * s) 0 hb0 (by omega) (fun v hv => List.all_eq_true.1 hone v hv)
      have hset : setR (xs ++ rest) (m * s) ys = some (xs ++ ys ++ rest.drop ys.length) := by
        rw [← e2]
        exact setR_app ys xs rest (by simp at hlen; omega)
      refine ⟨.slice (some ⟨b, 0, none⟩) (m + k') cap, w', ?_, ?_, r2⟩
      · rcases hu2 with hu2 | hu2 <;> simp [Builtin.append_, run_bind, run_map, run_pure, hu, hu2, hsz, hl, hc, hfit, addr_add, r1]
      · have s2 := r3 _ _ _ s1 (by simpa using hset) (.l .o)
        refine s2.mono (fun h => star_mono (fun h x => .inr ⟨b, cap, rest.drop ys.length, rfl, ?_, ?_, by simpa using x⟩) fun _ x => x)
        · simp [e2, hys, Nat.add_mul]
        · simp at e3 hlen ⊢; omega
  · -- a new row
    have hold : (Builtin.firstCells s m (.slice base m cap)).run P w.drew = .ok xs.toArray w.drew := by
      rcases slR_cases hs with ⟨e1, e2, e3, s1⟩ | ⟨b, cap', rest, e1, e2, e3, s1⟩
      · simp only [Value.slice.injEq] at e1
        obtain ⟨rfl, rfl, rfl⟩ := e1
        subst e3; rfl
      · simp only [Value.slice.injEq] at e1
        obtain ⟨rfl, _, rfl⟩ := e1
        have hb0 := s1.drew.blk (.l .o)
        have := loadCells_run (P := P) (w := w.drew) (cs := xs ++ rest) (E := E) (b := b) hb0 (o := 0) (m := m * s) (by simp; omega)
        simp only [Builtin.firstCells]
        rw [this]
        simp [← e2]
    have hnew := (hsrc w.drew rfl).1
    have hnc := nextcap_le (nl := m + k') (oc := cap) (by omega)
    have hnb : ¬ (Builtin.nextslicecap (m + k') cap * i0.bytes > 281474976710656) := by
      rw [hby]; exact Nat.not_lt.2 (Nat.le_trans (Nat.mul_le_mul_right _ hnc) hb)
    have hmx : ¬ ((m : Int) + (k' : Int) > IntKind.i64.max) := by
      have : IntKind.i64.max = 9223372036854775807 := by decide
      rw [this]; omega
    have hb0 : ¬ (i0.bytes = 0) := by omega
    have hq : (Question.appendCap (m + k') cap E).forced = false := rfl
    obtain ⟨nc, hnc1⟩ : ∃ nc, (Question.appendCap (m + k') cap E).cut (w.tape w.drawn (.appendCap (m + k') cap E)) = nc := ⟨_, rfl⟩
    have hnc2 : m + k' ≤ nc := by rw [← hnc1]; simp only [Question.cut]; omega
    refine ⟨.slice (some ⟨w.heap.size, 0, none⟩) (m + k') nc, w.drew.alloc (.cells (xs ++ ys ++ (Builtin.zeroCells zv.cells (nc - (m + k'))).toList).toArray E), ?_, ?_, .alloc (.drew (.refl w)) _⟩
    · have hnew' : (newRow E (xs.toArray ++ (ys.toArray ++ Builtin.zeroCells zv.cells (nc - (m + k'))))).run P w.drew = .ok ⟨w.heap.size, 0, none⟩ (w.drew.alloc (.cells (xs ++ ys ++ (Builtin.zeroCells zv.cells (nc - (m + k'))).toList).toArray E)) := by
        unfold newRow
        rw [run_bind, run_new]
        simp only [run_pure]
        have : xs.toArray ++ (ys.toArray ++ Builtin.zeroCells zv.cells (nc - (m + k'))) = (xs ++ ys ++ (Builtin.zeroCells zv.cells (nc - (m + k'))).toList).toArray := by
          apply Array.ext'; simp
        rw [this]; rfl
      generalize hW : w.drew.alloc (.cells (xs ++ ys ++ (Builtin.zeroCells zv.cells (nc - (m + k'))).toList).toArray E) = W at hnew' ⊢
      rcases hu2 with hu2 | hu2 <;>
        simp [Builtin.append_, run_bind, run_map, run_pure, hu, hu2, hsz, hl, hfit, hti, hnb, hb0, hq, hnc1, run_askRoom, hold, hnew, hzr, hnew']
    · have s1 : Sat w.drew R := hs.r.drew
      refine (s1.alloc _).mono (fun h => star_mono (fun h x => .inr ⟨w.heap.size, nc, (Builtin.zeroCells zv.cells (nc - (m + k'))).toList, rfl, ?_, ?_, x⟩) fun _ x => x)
      · have hx : xs.length = m * s := by
          rcases slR_cases hs with ⟨e1, e2, e3, s1⟩ | ⟨b, cap', rest, e1, e2, e3, s1⟩
          · subst e2; subst e3; simp
          · exact e2
        simp [hx, hys, Nat.add_mul]
      · have hx : xs.length = m * s := by
          rcases slR_cases hs with ⟨e1, e2, e3, s1⟩ | ⟨b, cap', rest, e1, e2, e3, s1⟩
          · subst e2; subst e3; simp
          · exact e2
        have hzl : (Builtin.zeroCells zv.cells (nc - (m + k'))).size = (nc - (m + k')) * s := by
          rw [zeroCells_len, hzc]; simp [hz]
        simp only [List.length_append, Array.length_toList, hzl, hx, hys]
        rw [← Nat.add_mul, ← Nat.add_mul]
        congr 1; omega
end
end Ice

namespace Ice
open Go Go.RowKit
/-- the places of a struct's fields: offset, size -/
def plcs (P : Program) (T : TypeId) : Option (List (Nat × Nat)) := match P.underlying T with
  | some (.struct fs) => fs.toList.mapM fun f => (szB P f.type).map fun s => (f.offset, s)
  | _ => none
class TB (P : Program) (T : Nat) (p : outParam (List (Nat × Nat))) : Prop where
  h : plcs P T = some p
/-- a struct's field: offset, type -/
def fTy (P : Program) (T i : Nat) : Option (Nat × Nat) := match P.underlying T with
  | some (.struct fs) => (fs.toList[i]?).map fun f => (f.offset, f.type)
  | _ => none
class TG (P : Program) (T i : Nat) (o t : outParam Nat) : Prop where
  h : fTy P T i = some (o, t)
def cellsV : Value → List Value
  | .agg a => a.toList
  | v => [v]
theorem cellsV_eq (v : Value) : v.cells = (cellsV v).toArray := by cases v <;> simp [cellsV, Value.cells]
section
variable {P : Program} {n : Nat} {w0 : World} {Q : Exit → Pos} {f : Nat → Value} {l : Env} {A : SL}
variable {ops : Array Oper} {J : SL} {K : Pos} {pl fl : List Nat} {k : Nat} {r : List Oper} {d : Nat} {ty : TypeId} {ps : String} {af : Array Edge}
/-- append -/
theorem r_app {T T2 E s m k' by' : Nat} {x y : Operand} {v u : Value} {xs ys zs : List Value} {R : SL} [t : TU P T (.slice E)] [t2 : TS P E s] [t3 : TBy P E by'] [t4 : TZ P E zs]
    (hx : ev? l x = some v) (hy : ev? l y = some u) (hT2 : spv P (underlying T2) = some (.slice E) ∨ spv P (underlying T2) = some .string)
    (hp : Pick A (slR v E s m xs) R) (hz : Nat.beq zs.length s = true) (hsrc : ∀ w, Sat w A → Src P w u s k' ys) (hys : ys.length = k' * s) (hone : ys.all oneC = true)
    (hb : (2 * (m + k') + 192) * by' ≤ 281474976710656) (hm : m + k' ≤ 9223372036854775807) (hby : 0 < by') (hd : Nat.blt d n = true)
    (s1 : SD (memN k fl) A J) (s2 : ∀ v', SD (memN k fl) (slR v' E s (m + k') (xs ++ ys) * R) J)
    (h : ∀ v', RR P n w0 ops J K pl fl (k + 1) r f ((d, v') :: l) (slR v' E s (m + k') (xs ++ ys) * R)) :
    RR P n w0 ops J K pl fl k (⟨some d, .call ⟨.builtin .append, #[x, y], #[T, T2]⟩, ty, ps, af, none⟩ :: r) f l A := by
  refine rr_loud rfl s1 hd fun w s => ?_
  have e1 := ev?_evf (f := f) hx
  have e2 := ev?_evf (f := f) hy
  obtain ⟨v', w', r1, r2, r3⟩ := run_append (P := P) (T := T) (T2 := T2) (ty := ty) (Nat.eq_of_beq_eq_true hz) hT2 (s.eq hp.eq) (hsrc w s) hys hone hb hm hby
  refine ⟨v', w', _, .inl ?_, r2, r3, s2 v', h v'⟩
  simp [execOp, resolve, e1, e2, invoke, builtin, run_bind, run_pure, run_map, r1]
/-- a bound of a reslicing -/
def bndE (l : Env) (o : Option Operand) (v dflt : Nat) : Prop := match o with
  | none => v = dflt
  | some y => ∃ q, ev? l y = some (.int q (v : Int))
theorem bnds {isS : Bool} {len cap lo hi : Nat} {xl xh : Option Operand} (hl : bndE l xl lo 0) (hh : bndE l xh hi len) (h1 : lo ≤ hi) (h2 : hi ≤ cap) (h3 : len ≤ cap) :
    spv P (Instr.sliceBounds isS len cap (xl.map (evf f l)) (xh.map (evf f l)) none) = some (lo, hi, cap) := by
  have hb : ∀ (q : IntKind) (v m : Nat) (c : BoundsCode), v ≤ m → spv P (Instr.sliceBound (.int q (v : Int)) m c) = some v := by
    intro q v m c h
    have h' : (v : Int) ≤ (m : Int) := by omega
    unfold Instr.sliceBound
    rw [spv_bind]
    simp only [asIntOf, spv_pure, Option.bind_some]
    rw [if_pos ⟨by omega, h'⟩]
    rfl
  cases xl with
  | none =>
    simp only [bndE] at hl; subst hl
    cases xh with
    | none => simp only [bndE] at hh; subst hh; simp [Instr.sliceBounds, spv_pure]
    | some y =>
      obtain ⟨q, hq⟩ := hh
      have e2 := ev?_evf (f := f) hq
      simp [Instr.sliceBounds, e2, spv_bind, spv_pure, spv_map, hb _ _ _ _ h2]
  | some z =>
    obtain ⟨q1, hq1⟩ := hl
    have e3 := ev?_evf (f := f) hq1
    cases xh with
    | none => simp only [bndE] at hh; subst hh; simp [Instr.sliceBounds, e3, spv_bind, spv_pure, spv_map, hb _ _ _ _ h1]
    | some y =>
      obtain ⟨q, hq⟩ := hh
      have e2 := ev?_evf (f := f) hq
      simp [Instr.sliceBounds, e2, e3, spv_bind, spv_pure, spv_map, hb _ _ _ _ h2, hb _ _ _ _ h1]
theorem te_spec {T E s : Nat} (t : TE P T E s) : P.underlying T = some (.slice E) ∧ szB P E = some s := by
  have := t.h
  unfold elB at this
  split at this
  · rename_i e he
    split at this
    · rename_i z hz; simp only [Option.some.injEq, Prod.mk.injEq] at this; obtain ⟨rfl, rfl⟩ := this; exact ⟨he, hz⟩
    · simp at this
  · simp at this
/-- a reslicing -/
theorem r_sls {T E s : Nat} {x : Operand} {b o len cap lo hi : Nat} {xl xh : Option Operand} [t : TE P T E s] (hx : ev? l x = some (.slice (some ⟨b, o, none⟩) len cap))
    (hl : bndE l xl lo 0) (hh : bndE l xh hi len) (hd : Nat.blt d n = true) (h1 : lo ≤ hi) (h2 : hi ≤ cap) (h3 : len ≤ cap)
    (h : RR P n w0 ops J K pl fl (k + 1) r f ((d, .slice (if cap = lo then some ⟨b, o, none⟩ else some ⟨b, o + lo * s, none⟩) (hi - lo) (cap - lo)) :: l) A) :
    RR P n w0 ops J K pl fl k (⟨some d, .slice T x xl xh none, ty, ps, af, none⟩ :: r) f l A := by
  refine rr_pure rfl ?_ hd h
  have e1 := ev?_evf (f := f) hx
  have hu := te_spec t
  have hb := bnds (P := P) (f := f) (isS := true) hl hh h1 h2 h3
  simp [pv, execOp, e1, Instr.sliceAt, Instr.slice, spv_bind, spv_underlying, hu.1, hb, hu.2, spv_sizeOf, spv_pure, spv_map, val?, addr_add]
theorem r_slnil {T E s cap : Nat} {x : Operand} {xl xh : Option Operand} [t : TE P T E s] (hx : ev? l x = some (.slice none 0 cap))
    (hl : bndE l xl 0 0) (hh : bndE l xh 0 0) (hd : Nat.blt d n = true)
    (h : RR P n w0 ops J K pl fl (k + 1) r f ((d, .slice none 0 cap) :: l) A) :
    RR P n w0 ops J K pl fl k (⟨some d, .slice T x xl xh none, ty, ps, af, none⟩ :: r) f l A := by
  refine rr_pure rfl ?_ hd h
  have e1 := ev?_evf (f := f) hx
  have hu := te_spec t
  have hb := bnds (P := P) (f := f) (isS := true) (len := 0) (cap := cap) hl hh (by omega) (by omega) (by omega)
  simp [pv, execOp, e1, Instr.sliceAt, Instr.slice, spv_bind, spv_underlying, hu.1, hb, hu.2, spv_sizeOf, spv_pure, spv_map, val?]
/-- a slice of an array behind a pointer -/
theorem r_sla {T E s : Nat} {x : Operand} {b o N lo hi : Nat} {xl xh : Option Operand} [t : TU P T (.array N E)] [t2 : TS P E s] (hx : ev? l x = some (.pointer (some ⟨b, o, none⟩)))
    (hl : bndE l xl lo 0) (hh : bndE l xh hi N) (hd : Nat.blt d n = true) (h1 : lo ≤ hi) (h2 : hi ≤ N)
    (h : RR P n w0 ops J K pl fl (k + 1) r f ((d, .slice (if N = lo then some ⟨b, o, none⟩ else some ⟨b, o + lo * s, none⟩) (hi - lo) (N - lo)) :: l) A) :
    RR P n w0 ops J K pl fl k (⟨some d, .slice T x xl xh none, ty, ps, af, none⟩ :: r) f l A := by
  refine rr_pure rfl ?_ hd h
  have e1 := ev?_evf (f := f) hx
  have hb := bnds (P := P) (f := f) (isS := false) (len := N) (cap := N) hl hh h1 h2 (by omega)
  by_cases e : N = lo
  · subst e
    simp [pv, execOp, e1, Instr.sliceAt, Instr.sureAddr, spv_bind, spv_underlying, t.h, hb, t2.h, spv_sizeOf, spv_pure, spv_map, val?, addr_add]
  · simp [pv, execOp, e1, Instr.sliceAt, Instr.sureAddr, spv_bind, spv_underlying, t.h, hb, t2.h, spv_sizeOf, spv_pure, spv_map, val?, addr_add, e]
/-- copy: from a source into a block -/
theorem r_cpy {T T2 E s m kk' : Nat} {x y : Operand} {b o dl cap : Nat} {u : Value} {cs cs' ys : List Value} {A' : SL} {by' : Nat} [t : TE P T E s]
    (hx : ev? l x = some (.slice (some ⟨b, o, none⟩) dl cap)) (hy : ev? l y = some u) (hh : HasI A b (.cells cs.toArray by' (0, 0)))
    (hlen : ∀ w, Sat w A → (Builtin.lenOf u).run P w = .ok m w) (hk : min m dl = kk') (hsrc : ∀ w, Sat w A → (Builtin.firstCells s kk' u).run P w = .ok ys.toArray w)
    (hys : o + ys.length ≤ cs.length) (hone : ys.all oneC = true) (hs : setR cs o ys = some cs') (hu : UpdI A b (.cells cs.toArray by' (0, 0)) (.cells cs'.toArray by' (0, 0)) A')
    (hd : okD n (some d) = true) (s1 : SD (memN k fl) A J) (s2 : SD (memN k fl) A' J)
    (h : RR P n w0 ops J K pl fl (k + 1) r f ((d, .int .i64 kk') :: l) A') :
    RR P n w0 ops J K pl fl k (⟨some d, .call ⟨.builtin .copy, #[x, y], #[T, T2]⟩, ty, ps, af, none⟩ :: r) f l A := by
  refine rr_loud rfl s1 hd fun w sa => ?_
  have e1 := ev?_evf (f := f) hx
  have e2 := ev?_evf (f := f) hy
  obtain ⟨hu1, hu2⟩ := te_spec t
  have hb := sa.blk hh.has
  obtain ⟨w', r1, r2, r3⟩ := run_storeCells (P := P) ys w cs o 0 hb (by omega) (fun v hv => List.all_eq_true.1 hone v hv)
  refine ⟨_, w', A', .inl ?_, r3 _ _ _ sa (by simpa using hs) hu.upd, r2, s2, h⟩
  have hun : (underlying T).run P w = .ok (.slice E) w := run_of (by rw [spv_underlying, hu1])
  have hsz : (Go.sizeOf E).run P w = .ok s w := run_of (by rw [spv_sizeOf, hu2])
  have hmn : Nat.min m dl = kk' := hk
  simp [execOp, resolve, e1, e2, invoke, builtin, Builtin.copy_, run_bind, run_pure, run_map, hun, hlen w sa, hsz, hmn, hsrc w sa, r1, goInt]
end
end Ice

namespace Ice
open Go Go.RowKit
/-- filling a struct's, a row's cells -/
def fillR (place : Nat → Option (Nat × Nat)) : List Value → List (Nat × Value) → Option (List Value)
  | cs, [] => some cs
  | cs, (i, v) :: r => match place i with
    | some (o, s) => bif Nat.beq (cellsV v).length s && Nat.ble (o + s) cs.length then
        match setR cs o (cellsV v) with
        | some cs' => fillR place cs' r
        | none => none
      else none
    | none => none
theorem fold_setR : ∀ {vs cs cs' : List Value} {o : Nat} (j : Nat), setR cs (o + j) vs = some cs' →
    (vs.zipIdx j).foldl (fun (a : Array Value) (x : Value × Nat) => a.setIfInBounds (o + x.2) x.1) cs.toArray = cs'.toArray
  | [], cs, cs', o, j, h => by simp only [setR, Option.some.injEq] at h; subst h; rfl
  | v :: vs, cs, cs', o, j, h => by
    simp only [setR] at h
    split at h
    · rename_i c hc
      obtain ⟨h1, rfl⟩ := setL_spec hc
      have := fold_setR (o := o) (j + 1) (by rw [← Nat.add_assoc]; exact h)
      simp only [List.zipIdx_cons, List.foldl_cons]
      simpa using this
    · simp at h
theorem fill_R {place : Nat → Option (Nat × Nat)} : ∀ {parts : List (Nat × Value)} {cs cs' : List Value}, fillR place cs parts = some cs' → Instr.fill place cs.toArray parts = some cs'.toArray
  | [], cs, cs', h => by simp only [fillR, Option.some.injEq] at h; subst h; rfl
  | (i, v) :: r, cs, cs', h => by
    simp only [fillR] at h
    split at h
    · rename_i o s hp
      cases hb : (Nat.beq (cellsV v).length s && Nat.ble (o + s) cs.length) with
      | false => rw [hb] at h; simp at h
      | true =>
        rw [hb] at h
        simp only [cond_true] at h
        split at h
        · rename_i c hc
          simp only [Bool.and_eq_true, Nat.ble_eq] at hb
          have h1 := Nat.eq_of_beq_eq_true hb.1
          have h2 := fold_setR (o := o) 0 (by simpa using hc)
          simp only [Instr.fill, hp]
          have hsz : v.cells.size = s := by rw [cellsV_eq]; simpa using h1
          rw [if_neg (by simp [hsz]; omega)]
          have : (v.cells.zipIdx.foldl (fun cs (x : Value × Nat) => cs.setIfInBounds (o + x.2) x.1) cs.toArray) = c.toArray := by
            rw [cellsV_eq, ← h2]
            simp [← Array.foldl_toList]
          rw [this]
          exact fill_R h
        · simp at h
    · simp at h
/-- operands with their places -/
def evP (l : Env) : List (Nat × Operand) → Option (List (Nat × Value))
  | [] => some []
  | (i, x) :: r => match ev? l x, evP l r with
    | some v, some vs => some ((i, v) :: vs)
    | _, _ => none
theorem evP_evf {f : Nat → Value} {l : Env} : ∀ {ps : List (Nat × Operand)} {vs : List (Nat × Value)}, evP l ps = some vs → (ps.map fun x => (x.1, evf f l x.2)) = vs
  | [], vs, h => by simp only [evP, Option.some.injEq] at h; subst h; rfl
  | (i, x) :: r, vs, h => by
    simp only [evP] at h
    split at h
    · rename_i v ws hv hw
      simp only [Option.some.injEq] at h; subst h
      simp only [List.map_cons, ev?_evf hv, evP_evf hw]
    · simp at h
def nthP : List (Nat × Nat) → Nat → Option (Nat × Nat)
  | [], _ => none
  | x :: _, 0 => some x
  | _ :: r, k + 1 => nthP r k
theorem nthP_eq (cs : List (Nat × Nat)) (k : Nat) : nthP cs k = cs[k]? := by
  induction cs generalizing k with
  | nil => rfl
  | cons v r ih => cases k with
    | zero => rfl
    | succ k => simp [nthP, ih]
/-- n times the same cells -/
def repC (zs : List Value) : Nat → List Value
  | 0 => []
  | n + 1 => zs ++ repC zs n
theorem repC_len (zs : List Value) (n : Nat) : (repC zs n).length = n * zs.length := by
  induction n with
  | zero => simp [repC]
  | succ n ih => simp [repC, ih, Nat.add_mul]; omega
theorem repC_get (zs : List Value) : ∀ (n i : Nat), i < n * zs.length → (repC zs n)[i]? = zs[i % zs.length]?
  | 0, i, h => by omega
  | n + 1, i, h => by
    simp only [repC]
    by_cases e : i < zs.length
    · rw [List.getElem?_append_left e, Nat.mod_eq_of_lt e]
    · have h' : i < n * zs.length + zs.length := by rw [← Nat.succ_mul]; exact h
      rw [List.getElem?_append_right (by omega), repC_get zs n (i - zs.length) (by omega), ← Nat.mod_eq_sub_mod (Nat.not_lt.1 e)]
theorem zeroPat (zs : List Value) (s n : Nat) (h : zs.length = s) : (Array.range (n * s)).map (fun i => zs.toArray[i % zs.toArray.size]!) = (repC zs n).toArray := by
  apply Array.ext'
  simp only [Array.toList_map, Array.toList_range]
  apply List.ext_getElem?
  intro i
  by_cases hi : i < n * s
  · rw [repC_get zs n i (by rw [h]; exact hi)]
    have hs : 0 < s := by rcases Nat.eq_zero_or_pos s with e | e; · subst e; simp at hi
                          · exact e
    have hm : i % s < s := Nat.mod_lt _ hs
    simp [hi, h, hm, show i % s < zs.length by omega]
  · rw [List.getElem?_eq_none (by simp; omega), List.getElem?_eq_none (by rw [repC_len, h]; omega)]
section
variable {P : Program} {n : Nat} {w0 : World} {Q : Exit → Pos} {f : Nat → Value} {l : Env} {A : SL}
variable {ops : Array Oper} {J : SL} {K : Pos} {pl fl : List Nat} {k : Nat} {r : List Oper} {d : Nat} {ty : TypeId} {ps : String} {af : Array Edge}
theorem spv_mapM {α β : Type} {g : α → Sem β} {h : α → Option β} (hg : ∀ x, spv P (g x) = h x) : ∀ (xs : List α), spv P (xs.mapM g) = xs.mapM h
  | [] => rfl
  | x :: xs => by
    simp only [List.mapM_cons]
    rw [spv_bind, hg]
    cases h x with
    | none => rfl
    | some y =>
      simp only [Option.bind_some]
      rw [spv_bind, spv_mapM hg xs]
      cases xs.mapM h <;> rfl
/-- a struct out of its parts -/
theorem r_bld {T : Nat} {parts : List (Nat × Operand)} {zs cs : List Value} {vs : List (Nat × Value)} {pp : List (Nat × Nat)} [t : TZ P T zs] [t2 : TB P T pp]
    (hv : evP l parts = some vs) (hc : fillR (nthP pp) zs vs = some cs) (hd : Nat.blt d n = true)
    (h : RR P n w0 ops J K pl fl (k + 1) r f ((d, .agg cs.toArray) :: l) A) : RR P n w0 ops J K pl fl k (⟨some d, .build T parts.toArray, ty, ps, af, none⟩ :: r) f l A := by
  refine rr_pure rfl ?_ hd h
  obtain ⟨zv, hz, hzc⟩ := spv_zero (P := P) (T := T)
  have h2 := t2.h
  unfold plcs at h2
  split at h2
  · rename_i fs hu
    have e1 : (parts.toArray.map fun x => (x.1, evf f l x.2)) = vs.toArray := by rw [← evP_evf (f := f) hv]; simp
    have e2 : spv P (fs.mapM fun f => do pure (f.offset, ← Go.sizeOf f.type)) = some pp.toArray := by
      rw [Array.mapM_eq_mapM_toList, spv_map]
      rw [spv_mapM (h := fun f => (szB P f.type).map fun s => (f.offset, s)) (fun x => by rw [spv_bind, spv_sizeOf]; cases szB P x.type <;> rfl) fs.toList, h2]
      rfl
    have e3 : Instr.fill (fun x => pp.toArray[x]?) zs.toArray vs = some cs.toArray := by
      have e : (fun x => pp.toArray[x]?) = nthP pp := by funext x; rw [nthP_eq]; simp
      rw [e]; exact fill_R hc
    have e1' : (Array.map (fun (x : Nat × Operand) => match x with | (i, x) => (i, evf f l x)) parts.toArray) = vs.toArray := e1
    simp only [pv, execOp, e1', Instr.build, spv_bind, hz, hzc, Option.bind_some, spv_underlying, hu, e2, spv_map]
    rw [show (fun x => pp.toArray[x]?) = (fun x => pp[x]?) by funext x; simp] at e3
    simp [e3, spv_pure, val?]
  · simp at h2
/-- a slice out of its parts -/
theorem r_bsl {T E s m : Nat} {parts : List (Nat × Operand)} {zs cs : List Value} {vs : List (Nat × Value)} [t : TE P T E s] [t2 : TZ P E zs]
    (hv : evP l parts = some vs) (hzl : Nat.beq zs.length s = true) (hc : fillR (fun i => some (i * s, s)) (repC zs m) vs = some cs) (hsm : Nat.ble (m * s) 16777216 = true) (hs0 : Nat.blt 0 (m * s) = true) (hd : Nat.blt d n = true)
    (s1 : SD (memN k fl) A J) (s2 : ∀ b, SD (memN k fl) (bl b E cs * A) J)
    (h : ∀ b, RR P n w0 ops J K pl fl (k + 1) r f ((d, .slice (some ⟨b, 0, none⟩) m m) :: l) (bl b E cs * A)) :
    RR P n w0 ops J K pl fl k (⟨some d, .buildSlice T m parts.toArray, ty, ps, af, none⟩ :: r) f l A := by
  refine rr_loud rfl s1 hd fun w sa => ?_
  obtain ⟨zv, hz, hzc⟩ := spv_zero (P := P) (T := E)
  obtain ⟨hu1, hu2⟩ := te_spec t
  have e1 : (Array.map (fun (x : Nat × Operand) => match x with | (i, x) => (i, evf f l x)) parts.toArray) = vs.toArray := by rw [← evP_evf (f := f) hv]; simp
  have hun : (underlying T).run P w = .ok (.slice E) w := run_of (by rw [spv_underlying, hu1])
  have hsz : (Go.sizeOf E).run P w = .ok s w := run_of (by rw [spv_sizeOf, hu2])
  have hzr : (zeroValue E).run P w = .ok zv w := run_of hz
  have h1 : ¬ (m * s > 2 ^ 24) := by have := Nat.le_of_ble_eq_true hsm; omega
  have h2 : ¬ (m * s = 0) := by have : 0 < m * s := by simpa [Nat.blt_eq] using hs0
                                omega
  have h3 : (Array.range (m * s)).map (fun x => zv.cells[x % zv.cells.size]!) = (repC zs m).toArray := by rw [hzc]; exact zeroPat zs s m (Nat.eq_of_beq_eq_true hzl)
  refine ⟨_, w.alloc (.cells cs.toArray E), _, .inl ?_, sa.alloc _, .alloc (.refl w) _, s2 _, h w.heap.size⟩
  have e3 : Instr.fill (fun i => some (i * s, s)) (repC zs m).toArray vs = some cs.toArray := fill_R hc
  simp only [execOp, e1, Instr.buildSlice, run_bind, hun, hsz]
  rw [if_neg h1, if_neg h2]
  simp only [run_bind, run_pure, hzr, h3, e3, newRow, run_new]
/-- make -/
theorem r_mks {T E s by' : Nat} {x y : Operand} {q1 q2 : IntKind} {m c : Nat} {zs : List Value} [t : TE P T E s] [t2 : TZ P E zs] [t3 : TBy P E by'] (hx : ev? l x = some (.int q1 (m : Int))) (hy : ev? l y = some (.int q2 (c : Int)))
    (hzl : Nat.beq zs.length s = true) (hmc : m ≤ c) (hb : by' * c ≤ 281474976710656) (hc : c ≤ 9223372036854775807) (hd : Nat.blt d n = true)
    (s1 : SD (memN k fl) A J) (s2 : ∀ b, SD (memN k fl) (bl b E (repC zs c) * A) J)
    (h : ∀ b, RR P n w0 ops J K pl fl (k + 1) r f ((d, .slice (some ⟨b, 0, none⟩) m c) :: l) (bl b E (repC zs c) * A)) :
    RR P n w0 ops J K pl fl k (⟨some d, .makeSlice T x y, ty, ps, af, none⟩ :: r) f l A := by
  refine rr_loud rfl s1 hd fun w sa => ?_
  have e1 := ev?_evf (f := f) hx
  have e2 := ev?_evf (f := f) hy
  obtain ⟨zv, hz, hzc⟩ := spv_zero (P := P) (T := E)
  obtain ⟨hu1, hu2⟩ := te_spec t
  have hun : (underlying T).run P w = .ok (.slice E) w := run_of (by rw [spv_underlying, hu1])
  have hsz : (Go.sizeOf E).run P w = .ok s w := run_of (by rw [spv_sizeOf, hu2])
  have hzr : (zeroValue E).run P w = .ok zv w := run_of hz
  obtain ⟨i0, hi0, hby⟩ : ∃ i, P.info? E = some i ∧ i.bytes = by' := by
    have := t3.h
    cases hi : P.info? E with
    | none => simp [hi] at this
    | some i => simp [hi] at this; exact ⟨i, rfl, this⟩
  have hti : (typeInfo E).run P w = .ok i0 w := run_of (by rw [spv_typeInfo, hi0])
  have hwc : IntKind.i64.wrap (c : Int) = c := wrap_i64 ⟨by omega, by omega⟩
  have hwm : IntKind.i64.wrap (m : Int) = m := wrap_i64 ⟨by omega, by omega⟩
  have hb' : ¬ ((i0.bytes : Int) * (c : Int) > 281474976710656) := by
    rw [hby]; have : ((by' * c : Nat) : Int) ≤ 281474976710656 := Int.ofNat_le.2 hb
    rw [Int.natCast_mul] at this; exact Int.not_lt.2 this
  have h0 : ¬ ((c : Int) < 0) := by omega
  have h1 : ¬ ((m : Int) < 0) := by omega
  have h2 : ¬ ((m : Int) > (c : Int)) := by omega
  refine ⟨_, w.alloc (.cells (repC zs c).toArray E), _, .inl ?_, sa.alloc _, .alloc (.refl w) _, s2 _, h w.heap.size⟩
  have h3 : (Array.range (c * s)).map (fun x => zv.cells[x % zv.cells.size]!) = (repC zs c).toArray := by rw [hzc]; exact zeroPat zs s c (Nat.eq_of_beq_eq_true hzl)
  by_cases hz0 : c * s = 0
  · have h4 : repC zs c = [] := List.length_eq_zero_iff.1 (by rw [repC_len, Nat.eq_of_beq_eq_true hzl]; exact hz0)
    simp [execOp, e1, e2, Instr.makeSlice, run_bind, hun, hti, asInt, asIntOf, run_pure, run_map, hwc, hwm, h0, h1, h2, hb', run_askRoom, hsz, hz0, newRow, run_new, h4, Int.not_lt]
    all_goals exact congrArg (fun z => w.alloc (Obj.cells z E)) (Array.ext' (by rw [Array.toList_map, Array.toList_range]; rfl))
  · simp [execOp, e1, e2, Instr.makeSlice, run_bind, hun, hti, asInt, asIntOf, run_pure, run_map, hwc, hwm, h0, h1, h2, hb', run_askRoom, hsz, hz0, hzr, newRow, run_new, h3, Int.not_lt]
    all_goals omega
theorem forIn_bytes {g : Value → ByteArray → Sem (ForInStep ByteArray)} (hg : ∀ c s, g (.int .u8 c) s = pure (.yield (s.push (UInt8.ofNat c.toNat)))) : ∀ (bs : List UInt8) (acc : ByteArray) (w : World),
    (forIn (m := Sem) (bs.map fun c => Value.int .u8 c.toNat) acc g).run P w = .ok ⟨acc.data ++ bs.toArray⟩ w
  | [], acc, w => by simp [run_pure]
  | c :: bs, acc, w => by
    simp only [List.map_cons, List.forIn_cons, run_bind, run_pure, hg]
    rw [forIn_bytes hg bs (acc.push (UInt8.ofNat (c.toNat : Int).toNat)) w]
    simp [ByteArray.push]
/-- bytes as a text -/
theorem r_tostr {S T e : Nat} {x : Operand} {b o m cap E : Nat} {cs : List Value} {bs : List UInt8} [t1 : TU P S (.slice e)] [t2 : TU P T .string] [t3 : TU P e (.int .u8)] (hx : ev? l x = some (.slice (some ⟨b, o, none⟩) m cap))
    (hh : HasI A b (.cells cs.toArray E (0, 0))) (hb : (cs.drop o).take m = bs.map fun c => .int .u8 c.toNat) (hm : o + m ≤ cs.length) (hd : Nat.blt d n = true) (s1 : SD (memN k fl) A J)
    (h : RR P n w0 ops J K pl fl (k + 1) r f ((d, .string ⟨bs.toArray⟩) :: l) A) : RR P n w0 ops J K pl fl k (⟨some d, .convert S T x, ty, ps, af, none⟩ :: r) f l A := by
  refine rr_loud (by simp [kindF, isInt, t1.h]) s1 hd fun w sa => ?_
  have e1 := ev?_evf (f := f) hx
  refine ⟨_, w, A, .inl ?_, sa, .refl w, s1, h⟩
  have hl := loadCells_run (P := P) (sa.blk hh.has) (o := o) (m := m) hm
  rw [hb] at hl
  have hun : ∀ T d, P.underlying T = some d → (underlying T).run P w = .ok d w := fun T d h => run_of (by rw [spv_underlying, h])
  simp only [execOp, e1, convert, run_bind, hun S _ t1.h, hun T _ t2.h, hun e _ t3.h, Conv.bytesToString, hl, run_pure]
  rw [List.forIn_toArray]
  rw [forIn_bytes (fun _ _ => rfl) bs ByteArray.empty w]
  simp [ByteArray.empty, ByteArray.emptyWithCapacity]
  all_goals rfl
/-- a function value -/
theorem r_mkf {fn : Fn} {cs : List Operand} {vs : List Value} (hv : ev?s l cs = some vs) (hd : Nat.blt d n = true)
    (h : RR P n w0 ops J K pl fl (k + 1) r f ((d, .func fn #[] vs.toArray) :: l) A) : RR P n w0 ops J K pl fl k (⟨some d, .makeFunc fn #[] cs.toArray, ty, ps, af, none⟩ :: r) f l A := by
  refine rr_pure rfl ?_ hd h
  have h1 : cs.toArray.map (evf f l) = vs.toArray := by rw [← ev?s_evf (f := f) hv]; simp
  simp [pv, execOp, Instr.makeFunc, h1, spv_pure, val?, spv_map]
/-- a struct's field -/
theorem r_fld {T i o ft : Nat} {x : Operand} {vs : List Value} {v : Value} [t : TG P T i o ft] [t2 : T1 P ft] (hx : ev? l x = some (.agg vs.toArray)) (hv : nth vs o = some v) (hd : Nat.blt d n = true)
    (h : RR P n w0 ops J K pl fl (k + 1) r f ((d, v) :: l) A) : RR P n w0 ops J K pl fl k (⟨some d, .field T x i, ty, ps, af, none⟩ :: r) f l A := by
  refine rr_pure rfl ?_ hd h
  have e1 := ev?_evf (f := f) hx
  have ht := t.h
  unfold fTy at ht
  split at ht
  · rename_i fs hu
    cases hf : fs.toList[i]? with
    | none => simp [hf] at ht
    | some fd =>
      simp only [hf, Option.map_some, Option.some.injEq, Prod.mk.injEq] at ht
      obtain ⟨rfl, rfl⟩ := ht
      have hf' : fs[i]? = some fd := by rw [← hf]; simp
      rw [nth_eq] at hv
      simp [pv, execOp, e1, Instr.field, spv_bind, spv_underlying, hu, hf', asAgg, spv_pure, part, aggB_spv t2.h, hv, spv_map, val?]
  · simp at ht
end
end Ice

namespace Ice
open Go Go.RowKit
/-- bytes as cells -/
def bv (l : List UInt8) : List Value := l.map fun c => .int .u8 c.toNat
@[simp] theorem bv_length (l : List UInt8) : (bv l).length = l.length := by simp [bv]
@[simp] theorem bv_append (a b : List UInt8) : bv (a ++ b) = bv a ++ bv b := by simp [bv]
@[simp] theorem bv_nil : bv [] = [] := rfl
theorem bv_one (l : List UInt8) : (bv l).all oneC = true := by simp [bv, oneC]
theorem bv_take (n : Nat) (l : List UInt8) : (bv l).take n = bv (l.take n) := by simp [bv, List.map_take]
theorem bv_drop (n : Nat) (l : List UInt8) : (bv l).drop n = bv (l.drop n) := by simp [bv, List.map_drop]
theorem bv_get {l : List UInt8} {i : Nat} {c : UInt8} (h : l[i]? = some c) : nth (bv l) i = some (.int .u8 c.toNat) := by rw [nth_eq]; simp [bv, h]
/-- cells cut out, cells put in -/
theorem cutR_eq {cs : List Value} {o k : Nat} (h : o + k ≤ cs.length) (acc : List Value) : cutR cs o k acc = some ((cs.drop o).take k ++ acc) := by
  induction k generalizing acc with
  | zero => simp [cutR]
  | succ k ih =>
    simp only [cutR, nth_eq]
    have hl : o + k < cs.length := by omega
    rw [List.getElem?_eq_getElem hl]
    simp only
    rw [ih (by omega)]
    congr 1
    have : (cs.drop o).take (k + 1) = (cs.drop o).take k ++ [cs[o + k]] := by
      rw [List.take_add_one]
      simp [List.getElem?_drop, List.getElem?_eq_getElem hl]
    rw [this]; simp
theorem setR_eq : ∀ {vs cs : List Value} {o : Nat}, o + vs.length ≤ cs.length → setR cs o vs = some (cs.take o ++ vs ++ cs.drop (o + vs.length))
  | [], cs, o, _ => by simp [setR]
  | v :: vs, cs, o, h => by
    simp only [List.length_cons] at h
    simp only [setR, setL_lt (show o < cs.length by omega)]
    rw [setR_eq (by simp; omega)]
    congr 1
    have ho : o < cs.length := by omega
    simp only [List.length_cons]
    rw [List.take_add_one, List.getElem?_set_self ho]
    rw [List.drop_set_of_lt (by omega)]
    simp [List.take_set_of_le, show o + 1 + vs.length = o + (vs.length + 1) by omega]
section
variable {α : Type} {g : α → List Value} {w : Nat} {l : List α}
theorem fm_len (hw : ∀ x ∈ l, (g x).length = w) : (l.flatMap g).length = l.length * w := by
  induction l with
  | nil => simp
  | cons x l ih =>
    simp only [List.flatMap_cons, List.length_append, List.length_cons]
    rw [ih (fun y hy => hw y (by simp [hy])), hw x (by simp), Nat.add_mul]; omega
theorem fm_split (hw : ∀ x ∈ l, (g x).length = w) {i : Nat} {x : α} (hi : l[i]? = some x) :
    l.flatMap g = (l.take i).flatMap g ++ (g x ++ (l.drop (i + 1)).flatMap g) ∧ ((l.take i).flatMap g).length = i * w ∧ i < l.length ∧ (g x).length = w := by
  have hlt : i < l.length := by
    rcases Nat.lt_or_ge i l.length with h | h
    · exact h
    · simp [List.getElem?_eq_none h] at hi
  have hx : l[i] = x := by rw [List.getElem?_eq_getElem hlt] at hi; simpa using hi
  have hm : x ∈ l := by rw [← hx]; exact List.getElem_mem hlt
  refine ⟨?_, ?_, hlt, hw x hm⟩
  · conv => lhs; rw [← List.take_append_drop i l]
    rw [List.drop_eq_getElem_cons hlt, hx]
    simp
  · rw [fm_len (w := w) (fun y hy => hw y (List.mem_of_mem_take hy))]
    simp [Nat.min_eq_left (Nat.le_of_lt hlt)]
theorem nth_fm (hw : ∀ x ∈ l, (g x).length = w) {i j : Nat} {x : α} {v : Value} (hi : l[i]? = some x) (hv : nth (g x) j = some v) (r : List Value := []) : nth (l.flatMap g ++ r) (i * w + j) = some v := by
  obtain ⟨h1, h2, h3, h4⟩ := fm_split hw hi
  rw [nth_eq] at hv ⊢
  have hj : j < (g x).length := by
    rcases Nat.lt_or_ge j (g x).length with h | h
    · exact h
    · simp [List.getElem?_eq_none h] at hv
  rw [h1, List.append_assoc, List.getElem?_append_right (by omega), h2, show i * w + j - i * w = j by omega, List.append_assoc, List.getElem?_append_left hj, hv]
theorem cut_fm (hw : ∀ x ∈ l, (g x).length = w) {i j k : Nat} {x : α} {vs : List Value} (hi : l[i]? = some x) (hv : cutR (g x) j k [] = some vs) (r : List Value := []) : cutR (l.flatMap g ++ r) (i * w + j) k [] = some vs := by
  obtain ⟨h1, h2, h3, h4⟩ := fm_split hw hi
  obtain ⟨l1, e1, e2, e3⟩ := cutR_spec hv
  simp only [List.append_nil] at e1; subst e1
  by_cases hk : k = 0
  · subst hk; simp only [cutR]; congr 1; exact (List.length_eq_zero_iff.1 e2).symm
  have hjk : j + k ≤ (g x).length := by
    have h5 := e3 (k - 1) (by omega)
    rw [List.getElem?_eq_getElem (by omega)] at h5
    rcases Nat.lt_or_ge (j + (k - 1)) (g x).length with h | h
    · omega
    · rw [List.getElem?_eq_none h] at h5; simp at h5
  have hlen : i * w + j + k ≤ (l.flatMap g ++ r).length := by
    rw [h1]; simp only [List.length_append]; omega
  rw [cutR_eq hlen]
  congr 1
  apply List.ext_getElem?
  intro q
  rw [List.append_nil]
  by_cases hq : q < k
  · rw [List.getElem?_take_of_lt hq, List.getElem?_drop, e3 q hq, h1, List.append_assoc, List.getElem?_append_right (by omega), h2, show i * w + j + q - i * w = j + q by omega, List.append_assoc, List.getElem?_append_left (by omega)]
  · rw [List.getElem?_eq_none (by simp; omega), List.getElem?_eq_none (by omega)]
theorem set_fm (hw : ∀ x ∈ l, (g x).length = w) {i j : Nat} {x y : α} {vs : List Value} (hi : l[i]? = some x) (hv : setR (g x) j vs = some (g y)) (hj : j + vs.length ≤ (g x).length) (r : List Value := []) :
    setR (l.flatMap g ++ r) (i * w + j) vs = some ((l.set i y).flatMap g ++ r) := by
  obtain ⟨h1, h2, h3, h4⟩ := fm_split hw hi
  have hlen : i * w + j + vs.length ≤ (l.flatMap g ++ r).length := by
    rw [h1]; simp only [List.length_append]; omega
  rw [setR_eq hlen]
  rw [setR_eq hj] at hv
  simp only [Option.some.injEq] at hv
  congr 1
  have e1 : (l.set i y).flatMap g = (l.take i).flatMap g ++ (g y ++ (l.drop (i + 1)).flatMap g) := by
    rw [List.set_eq_take_append_cons_drop, if_pos h3]; simp
  rw [e1, ← hv, h1]
  generalize (l.take i).flatMap g = pre at h2
  generalize (l.drop (i + 1)).flatMap g = suf
  generalize g x = m at *
  rw [show i * w + j = pre.length + j by omega, List.append_assoc pre, List.append_assoc pre, show pre.length + j + vs.length = pre.length + (j + vs.length) by omega, List.take_length_add_append, List.drop_length_add_append]
  rw [List.append_assoc m, List.take_append_of_le_length (by omega), List.drop_append_of_le_length (by omega)]
  simp
theorem setL_of_setR {cs cs' : List Value} {o : Nat} {v : Value} (h : setR cs o [v] = some cs') : setL cs o v = some cs' := by
  simp only [setR] at h
  split at h
  · rename_i c hc; simp only [Option.some.injEq] at h; rw [hc, h]
  · simp at h
theorem set1_fm (hw : ∀ x ∈ l, (g x).length = w) {i j : Nat} {x y : α} {v : Value} (hi : l[i]? = some x) (hv : setL (g x) j v = some (g y)) (r : List Value := []) :
    setL (l.flatMap g ++ r) (i * w + j) v = some ((l.set i y).flatMap g ++ r) := by
  refine setL_of_setR (set_fm hw hi (by simp only [setR, hv]) ?_ r)
  exact (setL_spec hv).1
end
section
variable {α : Type} {g : α → List Value} {w : Nat} {l : List α}
theorem nth_at {o i j : Nat} {x : α} {v : Value} (hw : ∀ x ∈ l, (g x).length = w) (hi : l[i]? = some x) (ho : o = i * w + j) (hv : nth (g x) j = some v) : nth (l.flatMap g) o = some v := by
  have := nth_fm hw hi hv; simpa [ho] using this
theorem cut_at {o i j k : Nat} {x : α} {vs : List Value} (hw : ∀ x ∈ l, (g x).length = w) (hi : l[i]? = some x) (ho : o = i * w + j) (hv : cutR (g x) j k [] = some vs) : cutR (l.flatMap g) o k [] = some vs := by
  have := cut_fm hw hi hv; simpa [ho] using this
theorem set_at {o i j : Nat} {x : α} (y : α) {vs : List Value} (hw : ∀ x ∈ l, (g x).length = w) (hi : l[i]? = some x) (ho : o = i * w + j) (hj : j + vs.length ≤ w) (hv : setR (g x) j vs = some (g y)) :
    setR (l.flatMap g) o vs = some ((l.set i y).flatMap g) := by
  have hx := (fm_split hw hi).2.2.2
  have := set_fm hw hi hv (by omega); simpa [ho] using this
theorem set1_at {o i j : Nat} {x : α} (y : α) {v : Value} (hw : ∀ x ∈ l, (g x).length = w) (hi : l[i]? = some x) (ho : o = i * w + j) (hv : setL (g x) j v = some (g y)) :
    setL (l.flatMap g) o v = some ((l.set i y).flatMap g) := by
  have := set1_fm hw hi hv; simpa [ho] using this
theorem all_set {p : α → Prop} (h : ∀ x ∈ l, p x) {i : Nat} {y : α} (hy : p y) : ∀ x ∈ l.set i y, p x := fun x hx => by
  rcases List.mem_or_eq_of_mem_set hx with h' | h'
  · exact h x h'
  · exact h' ▸ hy
theorem get_mem {i : Nat} {x : α} (h : l[i]? = some x) : x ∈ l := by
  obtain ⟨a, b⟩ := List.getElem?_eq_some_iff.1 h; exact b ▸ List.getElem_mem a
theorem get_lt {i : Nat} {x : α} (h : l[i]? = some x) : i < l.length := (List.getElem?_eq_some_iff.1 h).1
theorem cut_mid {a b c : List Value} {o k : Nat} (ha : a.length = o) (hb : b.length = k) : cutR (a ++ (b ++ c)) o k [] = some b := by
  subst ha hb
  rw [cutR_eq (by simp)]; simp
theorem set_mid {a b c b' : List Value} {o : Nat} (ha : a.length = o) (hb : b.length = b'.length) : setR (a ++ (b ++ c)) o b' = some (a ++ (b' ++ c)) := by
  subst ha
  rw [setR_eq (by simp; omega), ← hb]; simp
end
/-- zeros -/
theorem repC_one (z : Value) (n : Nat) : repC [z] n = List.replicate n z := by
  induction n with
  | zero => rfl
  | succ n ih => simp [repC, ih, List.replicate_succ]
theorem repC_fm {α : Type} (g : α → List Value) (x : α) (n : Nat) : repC (g x) n = (List.replicate n x).flatMap g := by
  induction n with
  | zero => rfl
  | succ n ih => simp [repC, ih, List.replicate_succ]
theorem bv_rep (n : Nat) (c : UInt8) : bv (List.replicate n c) = List.replicate n (.int .u8 c.toNat) := by simp [bv]
end Ice

namespace Ice
open Go Go.RowKit
section
variable {P : Program} {n : Nat} {w0 : World} {Q : Exit → Pos} {f : Nat → Value} {l : Env} {A : SL}
variable {ops : Array Oper} {J : SL} {K : Pos} {pl fl : List Nat} {k : Nat} {r : List Oper} {d : Nat} {ty : TypeId} {ps : String} {af : Array Edge}
/-- a slice without elements, not nil -/
theorem r_bsl0 {T E s : Nat} [t : TE P T E s] (hd : Nat.blt d n = true)
    (s1 : SD (memN k fl) A J) (s2 : ∀ v, SD (memN k fl) (slR v E s 0 [] * A) J)
    (h : ∀ v, RR P n w0 ops J K pl fl (k + 1) r f ((d, v) :: l) (slR v E s 0 [] * A)) :
    RR P n w0 ops J K pl fl k (⟨some d, .buildSlice T 0 #[], ty, ps, af, none⟩ :: r) f l A := by
  refine rr_loud rfl s1 hd fun w sa => ?_
  obtain ⟨hu1, hu2⟩ := te_spec t
  have hun : (underlying T).run P w = .ok (.slice E) w := run_of (by rw [spv_underlying, hu1])
  have hsz : (Go.sizeOf E).run P w = .ok s w := run_of (by rw [spv_sizeOf, hu2])
  refine ⟨_, w.alloc (.cells #[] E), _, .inl ?_, (sa.alloc _).mono fun h => star_mono (slR_new (b := w.heap.size) (E := E) (s := s) (m := 0) (cs := []) (by simp)) (fun _ x => x), .alloc (.refl w) _, s2 _, h _⟩
  simp [execOp, Instr.buildSlice, run_bind, hun, hsz, run_pure, newRow, run_new, Instr.fill]
  exact congrArg (fun z => w.alloc (Obj.cells z E)) (Array.ext' (by rw [Array.toList_map, Array.toList_range]; rfl))
theorem src_of {w : World} {b E o s k cap : Nat} {cs ys : List Value} {A : SL} [hh : HasI A b (.cells cs.toArray E (0, 0))] (sa : Sat w A) (h : o + k * s ≤ cs.length) (hy : (cs.drop o).take (k * s) = ys) :
    Src P w (.slice (some ⟨b, o, none⟩) k cap) s k ys := by rw [← hy]; exact src_blk (sa.blk hh.has) h
theorem r_xor {T : Nat} {x : Operand} {q : IntKind} {a : Int} (hx : ev? l x = some (.int q a)) (hd : Nat.blt d n = true)
    (h : RR P n w0 ops J K pl fl (k + 1) r f ((d, .int q (q.wrap (BitVec.ofInt q.bits (if q.signed then -1 else q.max) ^^^ BitVec.ofInt q.bits a).toNat)) :: l) A) : RR P n w0 ops J K pl fl k (⟨some d, .unOp .xor T x, ty, ps, af, none⟩ :: r) f l A := by
  refine rr_pure rfl ?_ hd h
  have h1 := ev?_evf (f := f) hx
  simp [pv, execOp, h1, Op.unary, Op.intBits, spv_pure, spv_map, val?]
theorem r_neg {T : Nat} {x : Operand} {q : IntKind} {a : Int} (hx : ev? l x = some (.int q a)) (hd : Nat.blt d n = true)
    (h : RR P n w0 ops J K pl fl (k + 1) r f ((d, .int q (q.wrap (0 - a))) :: l) A) : RR P n w0 ops J K pl fl k (⟨some d, .unOp .neg T x, ty, ps, af, none⟩ :: r) f l A := by
  refine rr_pure rfl ?_ hd h
  have h1 := ev?_evf (f := f) hx
  simp [pv, execOp, h1, Op.unary, Op.intArith, spv_pure, spv_map, val?]
theorem r_rem {T ty2 : Nat} {x y : Operand} {q : IntKind} {a b : Int} (hx : ev? l x = some (.int q a)) (hy : ev? l y = some (.int q b)) (hd : Nat.blt d n = true) (hb : b ≠ 0)
    (h : RR P n w0 ops J K pl fl (k + 1) r f ((d, .int q (a.tmod b)) :: l) A) : RR P n w0 ops J K pl fl k (⟨some d, .binOp .rem T x y ty2, ty, ps, af, none⟩ :: r) f l A := by
  refine rr_pure rfl ?_ hd h
  have h1 := ev?_evf (f := f) hx
  have h2 := ev?_evf (f := f) hy
  simp [pv, execOp, h1, h2, eqGuard, binOp, Op.intDiv, hb, spv_bind, spv_pure, spv_map, val?]
theorem r_quo {T ty2 : Nat} {x y : Operand} {q : IntKind} {a b : Int} (hx : ev? l x = some (.int q a)) (hy : ev? l y = some (.int q b)) (hd : Nat.blt d n = true) (hb : b ≠ 0)
    (h : RR P n w0 ops J K pl fl (k + 1) r f ((d, .int q (q.wrap (a.tdiv b))) :: l) A) : RR P n w0 ops J K pl fl k (⟨some d, .binOp .quo T x y ty2, ty, ps, af, none⟩ :: r) f l A := by
  refine rr_pure rfl ?_ hd h
  have h1 := ev?_evf (f := f) hx
  have h2 := ev?_evf (f := f) hy
  simp [pv, execOp, h1, h2, eqGuard, binOp, Op.intDiv, hb, spv_bind, spv_pure, spv_map, val?]
/-- len of a text -/
theorem r_lenx {T : Nat} {x : Operand} {t : List UInt8} [tt : TU P T .string] (hx : ev? l x = some (.string ⟨t.toArray⟩)) (hd : Nat.blt d n = true)
    (h : RR P n w0 ops J K pl fl (k + 1) r f ((d, .int .i64 t.length) :: l) A) : RR P n w0 ops J K pl fl k (⟨some d, .call ⟨.builtin .len, #[x], #[T]⟩, ty, ps, af, none⟩ :: r) f l A := r_lent hx hd h
theorem cc_condTp {x : Operand} {t e : Code} {b : Bool} (hv : ev? l x = some (.bool b)) (hb : b = true) (ht : CC P n w0 t Q f l A) : CC P n w0 (.cond x t e) Q f l A := cc_cond hv (fun _ => ht) (fun h => by rw [hb] at h; cases h)
theorem cc_condFp {x : Operand} {t e : Code} {b : Bool} (hv : ev? l x = some (.bool b)) (hb : b = false) (ht : CC P n w0 e Q f l A) : CC P n w0 (.cond x t e) Q f l A := cc_cond hv (fun h => by rw [hb] at h; cases h) (fun _ => ht)
theorem entW_ent {A B : SL} (h : Ent A B) : EntW A B := fun _ s => s.mono h
end
end Ice

namespace Ice
open Go Go.RowKit
theorem w_u8 (x : Int) : IntKind.u8.wrap x = x % 256 := by rw [IntKind.wrap]; simp [IntKind.bits, IntKind.signed]
theorem w_u32 (x : Int) : IntKind.u32.wrap x = x % 4294967296 := by rw [IntKind.wrap]; simp [IntKind.bits, IntKind.signed]
theorem w_u64 (x : Int) : IntKind.u64.wrap x = x % 18446744073709551616 := by rw [IntKind.wrap]; simp [IntKind.bits, IntKind.signed]
theorem ku8_bv (x : UInt8) : BitVec.ofInt (IntKind.bits .u8) (x.toNat : Int) = x.toBitVec := by
  apply BitVec.eq_of_toNat_eq
  have := x.toNat_lt
  simp [BitVec.toNat_ofInt, IntKind.bits]
theorem ku8_w (x : UInt8) : IntKind.wrap .u8 (x.toNat : Int) = x.toNat := by rw [w_u8]; have := x.toNat_lt; omega
theorem ku8_and (x y : UInt8) : IntKind.wrap .u8 ((BitVec.ofInt (IntKind.bits .u8) (x.toNat : Int) &&& BitVec.ofInt (IntKind.bits .u8) (y.toNat : Int)).toNat : Int) = (x &&& y).toNat := by
  rw [ku8_bv, ku8_bv]; exact ku8_w (x &&& y)
theorem ku8_or (x y : UInt8) : IntKind.wrap .u8 ((BitVec.ofInt (IntKind.bits .u8) (x.toNat : Int) ||| BitVec.ofInt (IntKind.bits .u8) (y.toNat : Int)).toNat : Int) = (x ||| y).toNat := by
  rw [ku8_bv, ku8_bv]; exact ku8_w (x ||| y)
theorem ku8_of (n : Nat) : IntKind.wrap .u8 (n : Int) = (UInt8.ofNat n).toNat := by
  rw [w_u8]; simp
theorem ku32_bv (x : UInt32) : BitVec.ofInt (IntKind.bits .u32) (x.toNat : Int) = x.toBitVec := by
  apply BitVec.eq_of_toNat_eq
  have := x.toNat_lt
  simp [BitVec.toNat_ofInt, IntKind.bits]
theorem ku32_w (x : UInt32) : IntKind.wrap .u32 (x.toNat : Int) = x.toNat := by rw [w_u32]; have := x.toNat_lt; omega
theorem ku32_xor (x y : UInt32) : IntKind.wrap .u32 ((BitVec.ofInt (IntKind.bits .u32) (x.toNat : Int) ^^^ BitVec.ofInt (IntKind.bits .u32) (y.toNat : Int)).toNat : Int) = (x ^^^ y).toNat := by
  rw [ku32_bv, ku32_bv]; exact ku32_w (x ^^^ y)
theorem ku32_and (x y : UInt32) : IntKind.wrap .u32 ((BitVec.ofInt (IntKind.bits .u32) (x.toNat : Int) &&& BitVec.ofInt (IntKind.bits .u32) (y.toNat : Int)).toNat : Int) = (x &&& y).toNat := by
  rw [ku32_bv, ku32_bv]; exact ku32_w (x &&& y)
theorem ku32_sub (x y : UInt32) : IntKind.wrap .u32 ((x.toNat : Int) - y.toNat) = (x - y).toNat := by
  rw [w_u32, UInt32.toNat_sub]; have := x.toNat_lt; have := y.toNat_lt; omega
theorem ku32_neg (x : UInt32) : IntKind.wrap .u32 (0 - (x.toNat : Int)) = (0 - x).toNat := by
  have := ku32_sub 0 x; simpa using this
theorem ku32_shr (x : UInt32) (s : Nat) : Int.fdiv (x.toNat : Int) (2 ^ s) = ((x.toNat >>> s : Nat) : Int) := by
  rw [Nat.shiftRight_eq_div_pow, Int.fdiv_eq_ediv_of_nonneg _ (by exact_mod_cast Nat.zero_le _)]
  push_cast; rfl
theorem ku64_bv (x : UInt64) : BitVec.ofInt (IntKind.bits .u64) (x.toNat : Int) = x.toBitVec := by
  apply BitVec.eq_of_toNat_eq
  have := x.toNat_lt
  simp [BitVec.toNat_ofInt, IntKind.bits]
theorem ku64_w (x : UInt64) : IntKind.wrap .u64 (x.toNat : Int) = x.toNat := by rw [w_u64]; have := x.toNat_lt; omega
theorem ku64_xor (x y : UInt64) : IntKind.wrap .u64 ((BitVec.ofInt (IntKind.bits .u64) (x.toNat : Int) ^^^ BitVec.ofInt (IntKind.bits .u64) (y.toNat : Int)).toNat : Int) = (x ^^^ y).toNat := by
  rw [ku64_bv, ku64_bv]; exact ku64_w (x ^^^ y)
theorem ku64_and (x y : UInt64) : IntKind.wrap .u64 ((BitVec.ofInt (IntKind.bits .u64) (x.toNat : Int) &&& BitVec.ofInt (IntKind.bits .u64) (y.toNat : Int)).toNat : Int) = (x &&& y).toNat := by
  rw [ku64_bv, ku64_bv]; exact ku64_w (x &&& y)
theorem ku64_or (x y : UInt64) : IntKind.wrap .u64 ((BitVec.ofInt (IntKind.bits .u64) (x.toNat : Int) ||| BitVec.ofInt (IntKind.bits .u64) (y.toNat : Int)).toNat : Int) = (x ||| y).toNat := by
  rw [ku64_bv, ku64_bv]; exact ku64_w (x ||| y)
theorem ku64_add (x y : UInt64) : IntKind.wrap .u64 ((x.toNat : Int) + y.toNat) = (x + y).toNat := by
  rw [w_u64, UInt64.toNat_add]; omega
theorem ku64_mul (x y : UInt64) : IntKind.wrap .u64 ((x.toNat : Int) * y.toNat) = (x * y).toNat := by
  rw [w_u64, UInt64.toNat_mul, ← Int.natCast_mul]; omega
theorem ku64_shr (x : UInt64) (s : Nat) : Int.fdiv (x.toNat : Int) (2 ^ s) = ((x.toNat >>> s : Nat) : Int) := by
  rw [Nat.shiftRight_eq_div_pow, Int.fdiv_eq_ediv_of_nonneg _ (by exact_mod_cast Nat.zero_le _)]
  push_cast; rfl
theorem ku64_of (n : Nat) : IntKind.wrap .u64 (n : Int) = (UInt64.ofNat n).toNat := by
  rw [w_u64]; simp
theorem ku32_shr1 (x : UInt32) : Int.fdiv (x.toNat : Int) (2 ^ (min (Int.toNat 1) (IntKind.bits .u32))) = (x >>> 1).toNat := by
  rw [show min (Int.toNat 1) (IntKind.bits .u32) = 1 from rfl, ku32_shr]; simp
theorem ku64_shr27 (x : UInt64) : Int.fdiv (x.toNat : Int) (2 ^ (min (Int.toNat 27) (IntKind.bits .u64))) = (x >>> 27).toNat := by
  rw [show min (Int.toNat 27) (IntKind.bits .u64) = 27 from rfl, ku64_shr]; simp
theorem ku64_shr30 (x : UInt64) : Int.fdiv (x.toNat : Int) (2 ^ (min (Int.toNat 30) (IntKind.bits .u64))) = (x >>> 30).toNat := by
  rw [show min (Int.toNat 30) (IntKind.bits .u64) = 30 from rfl, ku64_shr]; simp
theorem ku64_shr31 (x : UInt64) : Int.fdiv (x.toNat : Int) (2 ^ (min (Int.toNat 31) (IntKind.bits .u64))) = (x >>> 31).toNat := by
  rw [show min (Int.toNat 31) (IntKind.bits .u64) = 31 from rfl, ku64_shr]; simp
theorem ku8_u32 (c : UInt8) : IntKind.wrap .u32 (c.toNat : Int) = c.toUInt32.toNat := by rw [w_u32]; have := c.toNat_lt; simp; omega
theorem ku8_u64 (c : UInt8) : IntKind.wrap .u64 (c.toNat : Int) = c.toUInt64.toNat := by rw [w_u64]; have := c.toNat_lt; simp; omega
theorem ku32_u64 (c : UInt32) : IntKind.wrap .u64 (c.toNat : Int) = c.toUInt64.toNat := by rw [w_u64]; have := c.toNat_lt; simp; omega
theorem ent_pu {A X : SL} {p : Prop} (hp : p) (h : Ent A X) : Ent A (pu p * X) := fun w s => pu_mul.2 ⟨hp, h w s⟩
theorem ent_ex {A : SL} {α : Type} {X : α → SL} (x : α) (h : Ent A (X x)) : Ent A (ex X) := fun w s => ⟨x, h w s⟩
end Ice

