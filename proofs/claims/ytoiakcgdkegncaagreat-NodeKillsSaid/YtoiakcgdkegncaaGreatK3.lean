import Derived.Laws.Strings
import Derived.Test.YtoiakcgdkegncaaGreatProg
import Derived.Test.YtoiakcgdkegncaaGreatRows
import Derived.Test.YtoiakcgdkegncaaGreatK2
set_option linter.unusedVariables false
set_option linter.unusedSimpArgs false
set_option linter.unusedSectionVars false
namespace Ice
open Go Go.RowKit
/-- A has an owned slice v -/
class PickSl (A : SL) (v : Value) (E s m : outParam Nat) (xs : outParam (List Value)) (R : outParam SL) : Prop where
  eq : A = slR v E s m xs * R
instance (priority := 1100) picksl_hl (v : Value) (E s m : Nat) (xs : List Value) (R : SL) : PickSl (slR v E s m xs * R) v E s m xs R := ⟨rfl⟩
instance (priority := 1090) picksl_hr (v : Value) (E s m : Nat) (xs : List Value) (R : SL) : PickSl (R * slR v E s m xs) v E s m xs R := ⟨sl_comm _ _⟩
instance (priority := 900) picksl_r (L R R' : SL) (v : Value) (E s m : Nat) (xs : List Value) [h : PickSl R v E s m xs R'] : PickSl (L * R) v E s m xs (L * R') := ⟨by rw [h.eq, ← sl_assoc, sl_comm L, sl_assoc]⟩
instance (priority := 800) picksl_l (L R L' : SL) (v : Value) (E s m : Nat) (xs : List Value) [h : PickSl L v E s m xs L'] : PickSl (L * R) v E s m xs (L' * R) := ⟨by rw [h.eq, sl_assoc]⟩
/-- A has the block b -/
class PickBl (A : SL) (b : Nat) (cs : outParam (List Value)) (T : outParam Nat) (R : outParam SL) : Prop where
  eq : A = bl b T cs * R
instance (priority := 1100) pickbl_hl (b T : Nat) (cs : List Value) (R : SL) : PickBl (bl b T cs * R) b cs T R := ⟨rfl⟩
instance (priority := 1090) pickbl_hr (b T : Nat) (cs : List Value) (R : SL) : PickBl (R * bl b T cs) b cs T R := ⟨sl_comm _ _⟩
instance (priority := 900) pickbl_r (L R R' : SL) (b T : Nat) (cs : List Value) [h : PickBl R b cs T R'] : PickBl (L * R) b cs T (L * R') := ⟨by rw [h.eq, ← sl_assoc, sl_comm L, sl_assoc]⟩
instance (priority := 800) pickbl_l (L R L' : SL) (b T : Nat) (cs : List Value) [h : PickBl L b cs T L'] : PickBl (L * R) b cs T (L' * R) := ⟨by rw [h.eq, sl_assoc]⟩
section
variable {P : Program} {n : Nat} {w0 : World} {Q : Exit → Pos} {f : Nat → Value} {l : Env} {A : SL}
variable {ops : Array Oper} {J : SL} {K : Pos} {pl fl : List Nat} {k : Nat} {r : List Oper} {d : Nat} {ty : TypeId} {ps : String} {af : Array Edge}
theorem slR_val {v : Value} {E s m : Nat} {xs : List Value} {R : SL} {w : World} (hA : Sat w (slR v E s m xs * R)) : ∃ base cap, v = .slice base m cap ∧ xs.length = m * s := by
  rcases slR_cases hA with ⟨e1, e2, e3, _⟩ | ⟨b, cap, rest, e1, e2, _, _⟩
  · exact ⟨none, 0, by rw [e1, e2], by simp [e2, e3]⟩
  · exact ⟨_, cap, e1, e2⟩
/-- what an owned slice looks like -/
theorem CC.slv {c : Code} (v : Value) {E s m : Nat} {xs : List Value} {R : SL} [p : PickSl A v E s m xs R]
    (h : ∀ base cap, v = .slice base m cap → xs.length = m * s → CC P n w0 c Q f l A) : CC P n w0 c Q f l A := fun w a sa kk z => by
  obtain ⟨base, cap, e, h2⟩ := slR_val (sa.eq p.eq)
  exact h base cap e h2 w a sa kk z
theorem RR.slv (v : Value) {E s m : Nat} {xs : List Value} {R : SL} [p : PickSl A v E s m xs R]
    (h : ∀ base cap, v = .slice base m cap → xs.length = m * s → RR P n w0 ops J K pl fl k r f l A) : RR P n w0 ops J K pl fl k r f l A := fun w a sa kk z => by
  obtain ⟨base, cap, e, h2⟩ := slR_val (sa.eq p.eq)
  exact h base cap e h2 w a sa kk z
/-- an owned slice is opened: nil or a block -/
theorem CC.slo {c : Code} (v : Value) {E s m : Nat} {xs : List Value} {R : SL} [p : PickSl A v E s m xs R]
    (h1 : v = .slice none 0 0 → m = 0 → xs = [] → CC P n w0 c Q f l R)
    (h2 : ∀ b cap rest, v = .slice (some ⟨b, 0, none⟩) m cap → xs.length = m * s → (xs ++ rest).length = cap * s → CC P n w0 c Q f l (bl b E (xs ++ rest) * R)) : CC P n w0 c Q f l A := by
  rw [p.eq]; exact CC.slc h1 h2
theorem RR.slo (v : Value) {E s m : Nat} {xs : List Value} {R : SL} [p : PickSl A v E s m xs R]
    (h1 : v = .slice none 0 0 → m = 0 → xs = [] → RR P n w0 ops J K pl fl k r f l R)
    (h2 : ∀ b cap rest, v = .slice (some ⟨b, 0, none⟩) m cap → xs.length = m * s → (xs ++ rest).length = cap * s → RR P n w0 ops J K pl fl k r f l (bl b E (xs ++ rest) * R)) : RR P n w0 ops J K pl fl k r f l A := by
  rw [p.eq]; exact RR.slc h1 h2
/-- one that has elements is a block -/
theorem CC.slb {c : Code} (v : Value) {E s m : Nat} {xs : List Value} {R : SL} [p : PickSl A v E s m xs R] (hm : 0 < m)
    (h2 : ∀ b cap rest, v = .slice (some ⟨b, 0, none⟩) m cap → xs.length = m * s → (xs ++ rest).length = cap * s → CC P n w0 c Q f l (bl b E (xs ++ rest) * R)) : CC P n w0 c Q f l A :=
  CC.slo v (fun _ h _ => by omega) h2
theorem RR.slb (v : Value) {E s m : Nat} {xs : List Value} {R : SL} [p : PickSl A v E s m xs R] (hm : 0 < m)
    (h2 : ∀ b cap rest, v = .slice (some ⟨b, 0, none⟩) m cap → xs.length = m * s → (xs ++ rest).length = cap * s → RR P n w0 ops J K pl fl k r f l (bl b E (xs ++ rest) * R)) : RR P n w0 ops J K pl fl k r f l A :=
  RR.slo v (fun _ h _ => by omega) h2
/-- and closed -/
theorem slR_blk {b E s m cap : Nat} {xs rest : List Value} (h1 : xs.length = m * s) (h2 : (xs ++ rest).length = cap * s) : Ent (bl b E (xs ++ rest)) (slR (.slice (some ⟨b, 0, none⟩) m cap) E s m xs) :=
  fun _ x => .inr ⟨b, cap, rest, rfl, h1, h2, x⟩
theorem ent_star {A A' B : SL} (h : Ent A A') : Ent (A * B) (A' * B) := fun _ x => star_mono h (fun _ y => y) x
theorem ent_pick {A X Y R : SL} [p : Pick A X R] (h : Ent X Y) : Ent A (Y * R) := by rw [p.eq]; exact ent_star h
theorem RR.cl {A X Y R : SL} [p : Pick A X R] (e : Ent X Y) (h : RR P n w0 ops J K pl fl k r f l (Y * R)) : RR P n w0 ops J K pl fl k r f l A := RR.ent h (ent_pick e)
theorem CC.cl {c : Code} {A X Y R : SL} [p : Pick A X R] (e : Ent X Y) (h : CC P n w0 c Q f l (Y * R)) : CC P n w0 c Q f l A := CC.ent h (ent_pick e)
/-- what is named is opened -/
theorem CC.opn {c : Code} {R : SL} (X : SL) [p : Pick A X R] {α : Type} {g : α → SL} (e : X = Ice.ex g) (h : ∀ x, CC P n w0 c Q f l (g x * R)) : CC P n w0 c Q f l A := by
  rw [p.eq, e]; exact CC.ex1 h
theorem RR.opn {R : SL} (X : SL) [p : Pick A X R] {α : Type} {g : α → SL} (e : X = Ice.ex g) (h : ∀ x, RR P n w0 ops J K pl fl k r f l (g x * R)) : RR P n w0 ops J K pl fl k r f l A := by
  rw [p.eq, e]; exact RR.ex1 h
/-- and closed -/
theorem CC.cls {c : Code} {R : SL} (X Y : SL) [p : Fr A Y R] (e : Ent Y X) (h : CC P n w0 c Q f l (X * R)) : CC P n w0 c Q f l A := by
  rw [p.eq]; exact CC.ent h (ent_star e)
theorem RR.cls {R : SL} (X Y : SL) [p : Fr A Y R] (e : Ent Y X) (h : RR P n w0 ops J K pl fl k r f l (X * R)) : RR P n w0 ops J K pl fl k r f l A := by
  rw [p.eq]; exact RR.ent h (ent_star e)
theorem entW_cls {R B : SL} (X Y : SL) [p : Fr A Y R] (e : Ent Y X) (h : EntW (X * R) B) : EntW A B := fun w s => h w (by rw [p.eq] at s; exact s.mono (ent_star e))
theorem CC.pu3 {c : Code} {p : Prop} {B : SL} (h : p → CC P n w0 c Q f l (B * A)) : CC P n w0 c Q f l (Ice.pu p * B * A) := by rw [sl_assoc]; exact CC.pu h
theorem ent_exi {X : SL} {α : Type} {g : α → SL} (x : α) (e : X = Ice.ex g) : Ent (g x) X := by rw [e]; exact fun _ h => ⟨x, h⟩
theorem CC.fact {c : Code} {φ : Prop} {R : SL} (X : SL) [p : Pick A X R] (hφ : ∀ w, Sat w X → φ) (h : φ → CC P n w0 c Q f l A) : CC P n w0 c Q f l A := fun w a s k z => h (hφ w (s.eq p.eq).l) w a s k z
theorem RR.fact {φ : Prop} {R : SL} (X : SL) [p : Pick A X R] (hφ : ∀ w, Sat w X → φ) (h : φ → RR P n w0 ops J K pl fl k r f l A) : RR P n w0 ops J K pl fl k r f l A := fun w a s kk z => h (hφ w (s.eq p.eq).l) w a s kk z
theorem CC.entW {c : Code} {B : SL} (h : CC P n w0 c Q f l B) (e : EntW A B) : CC P n w0 c Q f l A := fun w a s k x => h w a (e w s) k x
theorem RR.entW {B : SL} (h : RR P n w0 ops J K pl fl k r f l B) (e : EntW A B) : RR P n w0 ops J K pl fl k r f l A := fun w a s kk z => h w a (e w s) kk z
/-- a loop; what is not needed any more is let go -/
theorem cc_loopW {c : Code} {α : Type} (L : α → Env) (B : α → SL) (μ : α → Nat) (x0 : α) (h1 : covers f l (L x0)) (h2 : EntW A (B x0))
    (round : ∀ x f, CC P n w0 c (thn (fun f' l' A' => ∃ y, μ y < μ x ∧ covers f' l' (L y) ∧ EntW A' (B y)) Q) f (L x) (B x)) : CC P n w0 (.loop c) Q f l A := by
  intro w a s k z
  refine wp_loop_gh (fun x a w => ∃ f, Fits n f (L x) a ∧ Sat w (B x) ∧ Kept w0 w) μ x0 ⟨_, z.re h1, h2 w s, k⟩ ?_
  rintro x a w ⟨f, g1, g2, g3⟩
  refine Code.wp_mono ?_ (round x f w a g2 g3 g1)
  intro e a w he
  cases e with
  | normal =>
    obtain ⟨f', l', A', x1, s1, k1, y, hy, hc, he⟩ := he
    exact ⟨y, ⟨_, x1.re hc, he w s1, k1⟩, hy⟩
  | panic c => exact he
  | outgrown => exact he
  | _ => exact he
/-- a block's cells, written otherwise -/
theorem CC.clb {c : Code} {cs : List Value} {T : Nat} {R : SL} (b : Nat) (cs' : List Value) [p : PickBl A b cs T R] (e : cs = cs') (h : CC P n w0 c Q f l (bl b T cs' * R)) : CC P n w0 c Q f l A := by
  rw [p.eq, e]; exact h
theorem RR.clb {cs : List Value} {T : Nat} {R : SL} (b : Nat) (cs' : List Value) [p : PickBl A b cs T R] (e : cs = cs') (h : RR P n w0 ops J K pl fl k r f l (bl b T cs' * R)) : RR P n w0 ops J K pl fl k r f l A := by
  rw [p.eq, e]; exact h
theorem ent_nil (E s : Nat) : Ent A (slR (.slice none 0 0) E s 0 [] * A) := fun h x => by
  have : (1 * A : SL) h := by rw [sl_one_mul]; exact x
  exact star_mono (slR_nil E s) (fun _ y => y) this
/-- append, of bytes -/
theorem r_appB {T T2 E by' : Nat} {x y : Operand} {v u : Value} {zs : List Value} {R : SL} (acc ys : List UInt8) [t : TU P T (.slice E)] [t2 : TS P E 1] [t3 : TBy P E by'] [t4 : TZ P E zs]
    (hx : ev? l x = some v) (hy : ev? l y = some u) (hT2 : spv P (underlying T2) = some (.slice E) ∨ spv P (underlying T2) = some .string)
    (hp : Pick A (slR v E 1 acc.length (bv acc)) R) (hz : Nat.beq zs.length 1 = true) (hsrc : ∀ w, Sat w A → Src P w u 1 ys.length (bv ys))
    (hb : acc.length + ys.length ≤ 1099511627776) (hby : by' = 1) (hd : Nat.blt d n = true)
    (s1 : SD (memN k fl) A J) (s2 : ∀ v', SD (memN k fl) (slR v' E 1 (acc ++ ys).length (bv (acc ++ ys)) * R) J)
    (h : ∀ v', RR P n w0 ops J K pl fl (k + 1) r f ((d, v') :: l) (slR v' E 1 (acc ++ ys).length (bv (acc ++ ys)) * R)) :
    RR P n w0 ops J K pl fl k (⟨some d, .call ⟨.builtin .append, #[x, y], #[T, T2]⟩, ty, ps, af, none⟩ :: r) f l A := by
  subst hby
  refine r_app (m := acc.length) (xs := bv acc) (k' := ys.length) (ys := bv ys) hx hy hT2 hp hz hsrc (by simp) (bv_one _) (by omega) (by omega) (by omega) hd s1 (fun v' => ?_) (fun v' => ?_)
  · have := s2 v'; rw [bv_append, List.length_append] at this; exact this
  · have := h v'; rw [bv_append, List.length_append] at this; exact this
theorem ent_nilB (E : Nat) : Ent A (slR (.slice none 0 0) E 1 ([] : List UInt8).length (bv []) * A) := ent_nil E 1
theorem src_strL {w : World} (t : List UInt8) : Src P w (.string ⟨t.toArray⟩) 1 t.length (bv t) := by
  have := src_str (P := P) (w := w) (t := ⟨t.toArray⟩)
  simpa [bytesV, ByteArray.size, bv] using this
theorem src_slR {w : World} {v : Value} {E s m : Nat} {xs : List Value} {R : SL} [p : PickSl A v E s m xs R] (sa : Sat w A) : Src P w v s m xs := by
  rcases slR_cases (sa.eq p.eq) with ⟨e1, e2, e3, _⟩ | ⟨b, cap, rest, e1, e2, e3, s1⟩
  · subst e1 e2 e3; exact src_nil
  · subst e1
    have := src_blk (P := P) (w := w) (b := b) (E := E) (o := 0) (s := s) (k := m) (cap := cap) (cs := xs ++ rest) (s1.blk (.l .o)) (by simp at e3; simp; omega)
    simpa [← e2] using this
theorem fst_slR {w : World} {v : Value} {E s m : Nat} {xs : List Value} {R : SL} [p : PickSl A v E s m xs R] (sa : Sat w A) : (Builtin.firstCells s m v).run P w = .ok xs.toArray w := (src_slR (P := P) sa w rfl).1
end
end Ice

namespace Ice
open Go Go.RowKit
section
variable {P : Program} {n : Nat} {w0 : World} {Q : Exit → Pos} {f : Nat → Value} {l : Env} {A : SL}
/-- a guard that was not worked out -/
theorem rr_guardU {ops : Array Oper} {J : SL} {K : Pos} {pl fl : List Nat} {k : Nat} {r : List Oper} {d : Nat} {ty : TypeId} {ps : String} {af : Array Edge} {op : Op} {j : Nat} {want : Bool} {s : Nat}
    (hs : gslot ops j = some s) (hb : lk? l s = some undef) (hd : Nat.blt d n = true)
    (hf : RR P n w0 ops J K pl fl (k + 1) r f ((d, undef) :: l) A) : RR P n w0 ops J K pl fl k (⟨some d, op, ty, ps, af, some (j, want)⟩ :: r) f l A := by
  intro w a sa kk z
  have hy : yielded ops a.tmps j = none := by
    unfold gslot at hs
    split at hs
    · rename_i o ho
      have ho' : ops[j]? = some o := by rw [← ho]; simp
      have hl := z.2.2 s
      have hv : lk f l s = undef := by simp [lk, hb]
      rw [hv] at hl
      unfold yielded
      rw [ho']
      simp only [Option.bind_some, hs]
      rw [Array.getD_eq_getD_getElem?] at hl
      cases h : a.tmps[s]? with
      | none => rfl
      | some v => rw [h] at hl; simp only [Option.getD_some] at hl; rw [hl]; rfl
    · simp at hs
  simp only [tag, AL, Step1, Region.wanted, hy]
  rw [if_neg (by cases want <;> simp)]
  exact hf w _ sa kk (z.put hd undef)
/-- the results, of slots and of cells -/
inductive ResOK (P : Program) (l : Env) (A : SL) : List ResultVar → List Value → Prop
  | nil : ResOK P l A [] []
  | tmp {t : Nat} {v : Value} {r : List ResultVar} {vs : List Value} : ev? l (.tmp t) = some v → ResOK P l A r vs → ResOK P l A (.tmp t :: r) (v :: vs)
  | one {a T b o E : Nat} {cs : List Value} {v : Value} {r : List ResultVar} {vs : List Value} (t : T1 P T) : ev? l (.tmp a) = some (.pointer (some ⟨b, o, none⟩)) → HasI A b (.cells cs.toArray E (0, 0)) → nth cs o = some v →
      ResOK P l A r vs → ResOK P l A (.cell a T :: r) (v :: vs)
  | agg {a T m b o E : Nat} {cs ws : List Value} {r : List ResultVar} {vs : List Value} (t : TA P T m) : ev? l (.tmp a) = some (.pointer (some ⟨b, o, none⟩)) → HasI A b (.cells cs.toArray E (0, 0)) → cutR cs o m [] = some ws →
      ResOK P l A r vs → ResOK P l A (.cell a T :: r) (.agg ws.toArray :: vs)
theorem loadVar1 {w : World} {T b o E : Nat} {cs : List Value} {v : Value} (t : T1 P T) (hh : w.heap[b]? = some (.cells cs.toArray E (0, 0))) (hv : nth cs o = some v) : (loadVar T ⟨b, o, none⟩).run P w = .ok v w := by
  rw [nth_eq] at hv
  have hcell : w.cell? ⟨b, o, none⟩ = some v := by rw [bl_cell hh, hv]
  refine rpv_run ?_
  simp [loadVar, rpv_bind, rpv_of (aggB_spv t.h), rpv_load hcell]
theorem loadVarA {w : World} {T m b o E : Nat} {cs ws : List Value} (t : TA P T m) (hh : w.heap[b]? = some (.cells cs.toArray E (0, 0))) (hv : cutR cs o m [] = some ws) : (loadVar T ⟨b, o, none⟩).run P w = .ok (.agg ws.toArray) w := by
  obtain ⟨l1, e1, e2, e3⟩ := cutR_spec hv
  simp only [List.append_nil] at e1
  subst e1
  have hsz : rpv P w (Go.sizeOf T) = some m := rpv_of (by rw [spv_sizeOf, t.s])
  have hl : rpv P w (loadCells ⟨b, o, none⟩ m) = some ws.toArray := by
    have := loadCells_rpv (P := P) (fun i => bl_cell hh i) o m 0 #[] ws e2 (by simpa using e3) (fun _ _ => trivial)
    simpa [loadCells] using this
  refine rpv_run ?_
  simp [loadVar, rpv_bind, rpv_pure, rpv_map, rpv_of (aggB_spv t.h), hsz, hl]
theorem resOK_run {w : World} {a : Act} (g : ResultVar → Sem Value) (hg1 : ∀ t, g (.tmp t) = pure (a.tmps.getD t undef)) (hg2 : ∀ x T, g (.cell x T) = (do loadVar T (← asAddr (a.tmps.getD x undef))))
    (z : Fits n f l a) (s : Sat w A) {rs : List ResultVar} {us : List Value} (h : ResOK P l A rs us) : (rs.mapM g).run P w = .ok us w := by
  induction h with
  | nil => rfl
  | @tmp t v r vs hv _ ih =>
    have e : a.tmps.getD t undef = v := by rw [z.2.2 t]; exact ev?_evf (x := .tmp t) hv
    simp only [List.mapM_cons, run_bind, hg1, run_pure, ih, e]
  | @one x T b o E cs v r vs t hv hh hn _ ih =>
    have e : a.tmps.getD x undef = .pointer (some ⟨b, o, none⟩) := by rw [z.2.2 x]; exact ev?_evf (x := .tmp x) hv
    simp only [List.mapM_cons, run_bind, hg2, run_pure, ih, e, asAddr, loadVar1 t (s.blk hh.has) hn]
  | @agg x T m b o E cs ws r vs t hv hh hn _ ih =>
    have e : a.tmps.getD x undef = .pointer (some ⟨b, o, none⟩) := by rw [z.2.2 x]; exact ev?_evf (x := .tmp x) hv
    simp only [List.mapM_cons, run_bind, hg2, run_pure, ih, e, asAddr, loadVarA t (s.blk hh.has) hn]
theorem results_ok {fn : Func} {w : World} {a : Act} (z : Fits n f l a) (s : Sat w A) {us : List Value} (h : ResOK P l A fn.results.toList us) :
    (results fn a.tmps).run P w = .ok (if h : us.length = 1 then us[0] else .tuple us.toArray) w := by
  unfold results
  rw [run_bind, Array.mapM_eq_mapM_toList, run_map, resOK_run _ (fun _ => rfl) (fun _ _ => rfl) z s h]
  simp [run_pure]
theorem tr_bodyR {g : Nat} {fn : Func} {c : Code} {vs : List Value} {X : SL} {B : Value → SL} {L : Env} (hf : P.funcs[g]? = some fn) (hg : goF P g = true) (hb : fn.body = some c) (hn : fn.ntmps = n)
    {rs : List ResultVar} (hr : fn.results.toList = rs) (hL : covers (fun t => (vs ++ List.replicate (n - vs.length) undef).getD t undef) [] L) (hvn : Nat.ble vs.length n = true)
    (h : ∀ (F : SL) (w0 : World) (f : Nat → Value), CC P n w0 c (fun x => match x with
      | .normal | .ret => fun _ l A => ∃ us, ResOK P l A rs us ∧ EntW A (B (match us with | [v] => v | us => .tuple us.toArray) * F)
      | _ => fun _ _ _ => False) f L (X * F)) : Tr P g vs.toArray X B := by
  refine ⟨hg, fun F w s => calls_of_wp hf hb ?_⟩
  have hsz : vs.length ≤ n := by simpa [Nat.ble_eq] using hvn
  have z : Fits n (fun t => (vs ++ List.replicate (n - vs.length) undef).getD t undef) [] { tmps := vs.toArray ++ Array.replicate (fn.ntmps - vs.toArray.size) undef, defers := [] } := by
    refine ⟨rfl, ?_, fun t => ?_⟩
    · simp [hn]; omega
    · simp only [hn, lk, lk?, Option.getD_none]
      rw [Array.getD_eq_getD_getElem?, ← Array.getElem?_toList]
      simp
  refine Code.wp_mono ?_ (h F w _ w _ s (.refl w) (z.re hL))
  intro e a w' he
  have fin : ∀ (f : Nat → Value) (l : Env) (A : SL), Fits n f l a → Sat w' A → Kept w w' → (∃ us, ResOK P l A rs us ∧ EntW A (B (match us with | [v] => v | us => .tuple us.toArray) * F)) →
      a.defers = [] ∧ ∃ v, (results fn a.tmps).run P w' = .ok v w' ∧ ∃ u, Ending.returned v = .returned u ∧ Sat w' (B u * F) ∧ Kept w w' := by
    rintro f l A y s1 k1 ⟨us, h1, h2⟩
    subst hr
    refine ⟨y.1, _, results_ok y s1 h1, _, rfl, ?_, k1⟩
    have := h2 w' s1
    cases us with
    | nil => exact this
    | cons v us => cases us with
      | nil => exact this
      | cons v' us => exact this
  cases e with
  | normal => obtain ⟨f, l, A, y, s1, k1, q⟩ := he; exact fin f l A y s1 k1 q
  | ret => obtain ⟨f, l, A, y, s1, k1, q⟩ := he; exact fin f l A y s1 k1 q
  | panic c => exact he.elim
  | outgrown => exact he.elim
  | exit id => obtain ⟨f, l, A, y, s1, k1, q⟩ := he; exact q.elim
  | goto l => obtain ⟨f, l, A, y, s1, k1, q⟩ := he; exact q.elim
/-- what copy reads: any beginning of it -/
def Src2 (P : Program) (w : World) (y : Value) (s k : Nat) (ys : List Value) : Prop :=
  (Builtin.lenOf y).run P w = .ok k w ∧ ∀ j, j ≤ k → (Builtin.firstCells s j y).run P w = .ok (ys.take (j * s)).toArray w
theorem src2_blk {w : World} {b E o s k cap : Nat} {cs : List Value} (hh : w.heap[b]? = some (.cells cs.toArray E (0, 0))) (h : o + k * s ≤ cs.length) :
    Src2 P w (.slice (some ⟨b, o, none⟩) k cap) s k ((cs.drop o).take (k * s)) := ⟨rfl, fun j hj => by
    have hjk : j * s ≤ k * s := Nat.mul_le_mul_right _ hj
    have := loadCells_run (P := P) (w := w) hh (o := o) (m := j * s) (by omega)
    simp only [Builtin.firstCells]
    rw [this, List.take_take, Nat.min_eq_left hjk]⟩
variable {ops : Array Oper} {J : SL} {K : Pos} {pl fl : List Nat} {k : Nat} {r : List Oper} {d : Nat} {ty : TypeId} {ps : String} {af : Array Edge}
/-- a part of an owned slice -/
theorem r_slsS {T E s E' m : Nat} {x : Operand} {v : Value} {xs : List Value} {R : SL} {lo hi : Nat} {xl xh : Option Operand} [t : TE P T E s] (hx : ev? l x = some v) [p : PickSl A v E' s m xs R]
    (hl : bndE l xl lo 0) (hh : bndE l xh hi m) (hd : Nat.blt d n = true) (hz : Nat.blt 0 s = true) (h1 : lo ≤ hi) (h2 : hi ≤ m)
    (h : ∀ base cap, (∀ w, Sat w (slR v E' s m xs) → Src2 P w (.slice base (hi - lo) cap) s (hi - lo) ((xs.drop (lo * s)).take ((hi - lo) * s))) →
      RR P n w0 ops J K pl fl (k + 1) r f ((d, .slice base (hi - lo) cap) :: l) A) :
    RR P n w0 ops J K pl fl k (⟨some d, .slice T x xl xh none, ty, ps, af, none⟩ :: r) f l A := by
  intro w a sa kk z
  have s1 := sa.eq p.eq
  rcases slR_cases s1 with ⟨e1, e2, e3, _⟩ | ⟨b, cap, rest, e1, e2, e3, s2⟩
  · subst e1 e2 e3
    obtain rfl : hi = 0 := by omega
    obtain rfl : lo = 0 := by omega
    refine r_slnil (n := n) (f := f) (l := l) (A := A) (t := t) hx hl hh hd ?_ w a sa kk z
    exact h none 0 fun w _ => ⟨rfl, fun j hj => by obtain rfl : j = 0 := by omega
                                                   simp [Builtin.firstCells, run_pure]⟩
  · subst e1
    have hml : m ≤ cap := by
      have : m * s ≤ cap * s := by rw [← e2, ← e3]; simp
      exact Nat.le_of_mul_le_mul_right this (by simpa [Nat.blt_eq] using hz)
    refine r_sls (n := n) (f := f) (l := l) (A := A) (t := t) hx hl hh hd h1 (by omega) hml ?_ w a sa kk z
    refine h _ _ fun w' s' => ?_
    have s'' : Sat w' (slR (.slice (some ⟨b, 0, none⟩) m cap) E' s m xs * 1) := s'.eq (sl_mul_one _).symm
    rcases slR_cases s'' with ⟨f1, _⟩ | ⟨b2, cap2, rest2, f1, f2, f3, s3⟩
    · simp at f1
    · simp only [Value.slice.injEq, Option.some.injEq, Addr.mk.injEq, and_true, true_and] at f1
      obtain ⟨rfl, rfl⟩ := f1
      have hb := s3.blk (.l .o)
      have hle : lo * s + (hi - lo) * s ≤ (xs ++ rest2).length := by
        rw [← Nat.add_mul, f3]; exact Nat.mul_le_mul_right _ (by omega)
      have hq : ((xs ++ rest2).drop (lo * s)).take ((hi - lo) * s) = (xs.drop (lo * s)).take ((hi - lo) * s) := by
        have hlm : lo * s + (hi - lo) * s ≤ m * s := by rw [← Nat.add_mul]; exact Nat.mul_le_mul_right _ (by omega)
        rw [List.drop_append_of_le_length (by omega), List.take_append_of_le_length (by simp; omega)]
      split
      · rename_i e
        have h0 : hi - lo = 0 := by omega
        rw [h0]
        refine ⟨rfl, fun j hj => ?_⟩
        obtain rfl : j = 0 := by omega
        have := loadCells_run (P := P) (w := w') hb (o := 0) (m := 0 * s) (by simp)
        simp only [Builtin.firstCells]
        rw [this]; simp
      · have := src2_blk (P := P) (w := w') (b := b) (E := E') (o := 0 + lo * s) (s := s) (k := hi - lo) (cap := cap - lo) hb (by omega)
        rw [Nat.zero_add] at this ⊢
        rw [hq] at this
        exact this
theorem txt_toList (a : List UInt8) : (⟨a.toArray⟩ : ByteArray).toList = a := by rw [ByteArray.toList_eq]
/-- texts, as lists -/
def strBinL : BinOp → List UInt8 → List UInt8 → Option Value
  | .eql, a, b => some (.bool (a == b))
  | .neq, a, b => some (.bool (a != b))
  | .lss, a, b => some (.bool (Op.bytesLess a b))
  | .leq, a, b => some (.bool (Op.bytesLess a b || a == b))
  | .gtr, a, b => some (.bool (!(Op.bytesLess a b || a == b)))
  | .geq, a, b => some (.bool (!Op.bytesLess a b))
  | _, _, _ => none
theorem r_strx {o : BinOp} {T ty2 : Nat} {x y : Operand} {a b : List UInt8} {v : Value} (hx : ev? l x = some (.string ⟨a.toArray⟩)) (hy : ev? l y = some (.string ⟨b.toArray⟩))
    (hu : strBinL o a b = some v) (hd : Nat.blt d n = true)
    (h : RR P n w0 ops J K pl fl (k + 1) r f ((d, v) :: l) A) : RR P n w0 ops J K pl fl k (⟨some d, .binOp o T x y ty2, ty, ps, af, none⟩ :: r) f l A := by
  refine r_str hx hy (v := v) ?_ hd h
  cases o <;> simp only [strBin, strBinL, txt_toList] at hu ⊢ <;> exact hu
end
end Ice

namespace Ice
open Go Go.RowKit
section
variable {P : Program} {n : Nat} {w0 : World} {Q : Exit → Pos} {f : Nat → Value} {l : Env} {A : SL}
variable {ops : Array Oper} {J : SL} {K : Pos} {pl fl : List Nat} {k : Nat} {r : List Oper} {d : Nat} {ty : TypeId} {ps : String} {af : Array Edge}
theorem zeroCells_mem {zs : List Value} {m : Nat} {v : Value} (hz : 0 < zs.length) (h : v ∈ (Builtin.zeroCells zs.toArray m).toList) : v ∈ zs := by
  simp only [Builtin.zeroCells, Array.toList_map, Array.toList_range, List.mem_map, List.mem_range] at h
  obtain ⟨i, hi, rfl⟩ := h
  have : i % zs.length < zs.length := Nat.mod_lt _ hz
  simp [this]
/-- clear: of a slice that has elements -/
theorem r_clr {T E s m b o cap by' : Nat} {x : Operand} {zs cs : List Value} {R : SL} [t : TU P T (.slice E)] [t2 : TZ P E zs] (hx : ev? l x = some (.slice (some ⟨b, o, none⟩) (m + 1) cap))
    (hz : Nat.beq zs.length s = true) (hz0 : Nat.blt 0 s = true) (hone : zs.all oneC = true) [p : PickBl A b cs by' R] (hl : o + (m + 1) * s ≤ cs.length) (s1 : memN k fl = false)
    (h : ∀ zz : List Value, zz.length = (m + 1) * s → RR P n w0 ops J K pl fl (k + 1) r f l (bl b by' (cs.take o ++ zz ++ cs.drop (o + (m + 1) * s)) * R)) :
    RR P n w0 ops J K pl fl k (⟨none, .call ⟨.builtin .clear, #[x], #[T]⟩, ty, ps, af, none⟩ :: r) f l A := by
  refine rr_loud rfl (.inl s1) rfl fun w sa => ?_
  have e1 := ev?_evf (f := f) hx
  obtain ⟨zv, hzv, hzc⟩ := spv_zero (P := P) (T := E)
  have hzl := Nat.eq_of_beq_eq_true hz
  have hs0 : 0 < s := by simpa [Nat.blt_eq] using hz0
  have hlen : (Builtin.zeroCells zv.cells (m + 1)).toList.length = (m + 1) * s := by
    rw [Array.length_toList, zeroCells_len, hzc]; simp [hzl]
  have sb := sa.eq p.eq
  have hb := sb.blk (.l .o)
  obtain ⟨w', r1, r2, r3⟩ := run_storeCells (P := P) (Builtin.zeroCells zv.cells (m + 1)).toList w cs o 0 hb (by rw [hlen]; omega) (fun v hv => by
    rw [hzc] at hv
    exact List.all_eq_true.1 hone v (zeroCells_mem (by omega) hv))
  have hset := setR_eq (vs := (Builtin.zeroCells zv.cells (m + 1)).toList) (cs := cs) (o := o) (by rw [hlen]; exact hl)
  refine ⟨.tuple #[], w', _, .inl ?_, r3 _ _ _ sb (by rw [Nat.add_zero]; exact hset) (.l .o), r2, .inl s1, ?_⟩
  · have hun : (underlying T).run P w = .ok (.slice E) w := run_of (by rw [spv_underlying, t.h])
    have hzr : (zeroValue E).run P w = .ok zv w := run_of hzv
    simp [execOp, resolve, e1, invoke, builtin, Builtin.clear_, run_bind, run_pure, run_map, hun, hzr, r1]
  · have := h _ hlen
    rw [← hlen] at this
    exact this
/-- a contract over an owned slice, by its two cases -/
theorem tr_slo {g : Nat} {v : Value} {E s m : Nat} {xs : List Value} {X : SL} {B : Value → SL} {args : Array Value} (hg : goF P g = true)
    (h1 : v = .slice none 0 0 → m = 0 → xs = [] → Tr P g args X B)
    (h2 : ∀ b cap rest, v = .slice (some ⟨b, 0, none⟩) m cap → xs.length = m * s → (xs ++ rest).length = cap * s → Tr P g args (bl b E (xs ++ rest) * X) B) : Tr P g args (slR v E s m xs * X) B := by
  refine ⟨hg, fun F w sa => ?_⟩
  rw [sl_assoc] at sa
  rcases slR_cases sa with ⟨e1, e2, e3, s1⟩ | ⟨b, cap, rest, e1, e2, e3, s1⟩
  · exact (h1 e1 e2 e3).2 F w s1
  · exact (h2 b cap rest e1 e2 e3).2 F w (by rw [sl_assoc]; exact s1)
/-- what a contract gives may be less -/
theorem tr_post {g : Nat} {X : SL} {B B' : Value → SL} {args : Array Value} (h : Tr P g args X B) (e : ∀ v, Ent (B v) (B' v)) : Tr P g args X B' :=
  ⟨h.1, fun F w sa => (h.2 F w sa).mono fun _ _ ⟨v, a, b, c⟩ => ⟨v, a, b.mono (fun _ x => star_mono (e v) (fun _ y => y) x), c⟩⟩
end
end Ice

namespace Ice
open Go Go.RowKit
/-- a type of map keys -/
def plainD : TypeDesc → Bool
  | .interface _ | .array .. | .struct _ => false
  | _ => true
class KeyT (P : Program) (T : TypeId) (α : Type) [BEq α] [LawfulBEq α] (emb : outParam (α → Value)) : Prop where
  h : ∃ d, P.underlying T = some d ∧ plainD d = true ∧ (∀ a b, Instr.sameNow d (emb a) (emb b) = some (a == b))
  same : ∀ a, Instr.sameBits 10000 (emb a) (emb a) = true
class TM (P : Program) (T : Nat) (K E : outParam Nat) : Prop where
  h : P.underlying T = some (.map K E)
section
variable {α : Type} [BEq α] [LawfulBEq α]
def findI (a : α) : List (α × Value) → Nat → Option (Nat × Value)
  | [], _ => none
  | x :: r, i => if a == x.1 then some (i, x.2) else findI a r (i + 1)
def getM (l : List (α × Value)) (a : α) : Option Value := (findI a l 0).map (·.2)
def setM (l : List (α × Value)) (a : α) (v : Value) : List (α × Value) := match findI a l 0 with
  | some (i, _) => l.set i (a, v)
  | none => l ++ [(a, v)]
def delM (l : List (α × Value)) (a : α) : List (α × Value) := match findI a l 0 with
  | some (i, _) => l.eraseIdx i
  | none => l
theorem findI_get {a : α} : ∀ {l : List (α × Value)} {i j : Nat} {v : Value}, findI a l i = some (j, v) → ∃ k, j = i + k ∧ l[k]? = some (a, v)
  | [], i, j, v, h => by simp [findI] at h
  | x :: r, i, j, v, h => by
    simp only [findI] at h
    split at h
    · rename_i e
      simp only [Option.some.injEq, Prod.mk.injEq] at h
      have := eq_of_beq e
      subst this
      exact ⟨0, by omega, by simp [← h.2]⟩
    · obtain ⟨k, h1, h2⟩ := findI_get h
      exact ⟨k + 1, by omega, by simpa using h2⟩
/-- a map's entries are these -/
def esOf (emb : α → Value) (es : List MapEntry) (clock : Nat) (l : List (α × Value)) : Prop :=
  es.map (fun e => (e.key, e.val)) = l.map (fun x => (emb x.1, x.2)) ∧ (es.map (·.born)).Nodup ∧ ∀ e ∈ es, e.born < clock
theorem esOf.len {emb : α → Value} {es : List MapEntry} {clock : Nat} {l : List (α × Value)} (h : esOf emb es clock l) : es.length = l.length := by
  have := congrArg List.length h.1; simpa using this
theorem esOf.get {emb : α → Value} {es : List MapEntry} {clock : Nat} {l : List (α × Value)} (h : esOf emb es clock l) {i : Nat} {e : MapEntry} (he : es[i]? = some e) :
    ∃ x, l[i]? = some x ∧ e.key = emb x.1 ∧ e.val = x.2 := by
  have := congrArg (fun z => z[i]?) h.1
  simp only [List.getElem?_map, he, Option.map_some] at this
  cases hl : l[i]? with
  | none => rw [hl] at this; simp at this
  | some x =>
    rw [hl] at this
    simp only [Option.map_some, Option.some.injEq, Prod.mk.injEq] at this
    exact ⟨x, rfl, this.1, this.2⟩
theorem findNow_findI {d : TypeDesc} {emb : α → Value} (hs : ∀ a b, Instr.sameNow d (emb a) (emb b) = some (a == b)) (a : α) : ∀ (es : List MapEntry) (l : List (α × Value)) (i : Nat),
    es.map (fun e => (e.key, e.val)) = l.map (fun x => (emb x.1, x.2)) → Instr.findNow d (emb a) es i = some (findI a l i)
  | [], l, i, h => by
    cases l with
    | nil => rfl
    | cons x r => simp at h
  | e :: es, l, i, h => by
    cases l with
    | nil => simp at h
    | cons x r =>
      simp only [List.map_cons, List.cons.injEq, Prod.mk.injEq] at h
      simp only [Instr.findNow, findI, h.1.1, hs]
      cases hx : (a == x.1) with
      | true => simp [h.1.2]
      | false => simpa using findNow_findI hs a es r (i + 1) h.2
/-- a map -/
def mapR (emb : α → Value) (b : Nat) (l : List (α × Value)) : SL := ex fun x : List MapEntry × Nat => pu (esOf emb x.1 x.2 l) * pt b (.map x.1.toArray x.2)
end
section
variable {P : Program} {n : Nat} {w0 : World} {Q : Exit → Pos} {f : Nat → Value} {l : Env} {A : SL}
variable {ops : Array Oper} {J : SL} {K : Pos} {pl fl : List Nat} {k : Nat} {r : List Oper} {d : Nat} {ty : TypeId} {ps : String} {af : Array Edge}
variable {α : Type} [BEq α] [LawfulBEq α]
theorem checkKey_spv {T : TypeId} {d : TypeDesc} (h : P.underlying T = some d) (hp : plainD d = true) (e : Bool) (m : Nat) (v : Value) : spv P (Instr.checkKey e (m + 1) T v) = some () := by
  unfold Instr.checkKey
  rw [spv_bind, spv_underlying, h]
  simp only [Option.bind_some]
  cases d <;> simp_all [plainD, spv_pure]
theorem findKey_spv {T : TypeId} {d : TypeDesc} {emb : α → Value} (h : P.underlying T = some d) (hs : ∀ a b, Instr.sameNow d (emb a) (emb b) = some (a == b)) (a : α) {es : List MapEntry} {l : List (α × Value)}
    (he : es.map (fun e => (e.key, e.val)) = l.map (fun x => (emb x.1, x.2))) : spv P (Instr.findKey T (emb a) es) = some (findI a l 0) := by
  unfold Instr.findKey
  rw [spv_bind, spv_underlying, h]
  simp only [Option.bind_some]
  rw [findNow_findI hs a es l 0 he]
  rfl
/-- a reading operation -/
theorem rr_read {op : Op} {b : Nat} {o : Obj} {v : Value} (hc : kindF P ⟨some d, op, ty, ps, af, none⟩ = .load)
    (hs : LS (memN k pl) A J b o)
    (hv : ∀ w, w.heap[b]? = some o → rv P w (evf f l) ⟨some d, op, ty, ps, af, none⟩ = some v) (hd : Nat.blt d n = true)
    (h : RR P n w0 ops J K pl fl (k + 1) r f ((d, v) :: l) A) : RR P n w0 ops J K pl fl k (⟨some d, op, ty, ps, af, none⟩ :: r) f l A := by
  refine rr_step rfl fun w a s kk z => ?_
  rcases hs with ⟨hm, hh⟩ | ⟨hm, he, hh⟩
  · have hc : clsF P pl fl k ⟨some d, op, ty, ps, af, none⟩ = .load := by simp [clsF, hc, hm]
    rw [hc]
    exact ⟨v, by rw [z.eval]; exact hv w (s.blk hh), h w _ s kk (z.put hd v)⟩
  · have hc : clsF P pl fl k ⟨some d, op, ty, ps, af, none⟩ = .pload := by simp [clsF, hc, hm]
    rw [hc]
    exact ⟨he w s, v, fun w' s' => by rw [z.eval]; exact hv w' (s'.blk hh), h w _ s kk (z.put hd v)⟩
theorem rpv_getObj {w : World} {b : Nat} {es : Array MapEntry} {c : Nat} (h : w.heap[b]? = some (.map es c)) : rpv P w (getObj b) = some (.map es c) := by
  simp [getObj, rpv, h]
theorem run_getObj {w : World} {b : Nat} {es : Array MapEntry} {c : Nat} (h : w.heap[b]? = some (.map es c)) : (getObj b).run P w = .ok (.map es c) w := rpv_run (rpv_getObj h)
/-- a look into a map -/
def lookV (co : Bool) (z : Value) : Option Value → Value
  | some v => if co then .tuple #[v, .bool true] else v
  | none => if co then .tuple #[z, .bool false] else z
theorem r_lookup {T KT E : Nat} {x y : Operand} {b : Nat} {es : List MapEntry} {clock : Nat} {ml : List (α × Value)} {emb : α → Value} {a : α} {co : Bool} {z : Value} [t : TM P T KT E] [kt : KeyT P KT α emb]
    (hx : ev? l x = some (.map (some b))) (hy : ev? l y = some (emb a)) (hz : spv P (zeroValue E) = some z)
    (he : esOf emb es clock ml) (hs : LS (memN k pl) A J b (.map es.toArray clock)) (hd : Nat.blt d n = true)
    (h : RR P n w0 ops J K pl fl (k + 1) r f ((d, lookV co z (getM ml a)) :: l) A) : RR P n w0 ops J K pl fl k (⟨some d, .lookup T x y co, ty, ps, af, none⟩ :: r) f l A := by
  refine rr_read rfl hs (fun w hb => ?_) hd h
  obtain ⟨dd, hu, hp, hsn⟩ := kt.h
  have h1 := ev?_evf (f := f) hx
  have h2 := ev?_evf (f := f) hy
  have hfk := rpv_of (P := P) (w := w) (findKey_spv hu hsn a he.1)
  have hck := rpv_of (P := P) (w := w) (checkKey_spv hu hp es.isEmpty 9999 (emb a))
  have hun : rpv P w (underlying T) = some (.map KT E) := rpv_of (by rw [spv_underlying, t.h])
  have hzz : rpv P w (zeroValue E) = some z := rpv_of hz
  simp only [rv, execOp, h1, h2, Instr.lookup]
  cases hf : findI a ml 0 with
  | none =>
    simp [rpv_bind, rpv_pure, rpv_map, hun, rpv_getObj hb, hck, hfk, hf, hzz, lookV, getM, val?]
  | some x =>
    simp [rpv_bind, rpv_pure, rpv_map, hun, rpv_getObj hb, hck, hfk, hf, lookV, getM, val?]
/-- a look into a nil map -/
theorem r_look0 {T KT E : Nat} {x y : Operand} {emb : α → Value} {a : α} {co : Bool} {z : Value} [t : TM P T KT E] [kt : KeyT P KT α emb]
    (hx : ev? l x = some (.map none)) (hy : ev? l y = some (emb a)) (hz : spv P (zeroValue E) = some z) (hm : memN k pl = false) (hd : Nat.blt d n = true)
    (h : RR P n w0 ops J K pl fl (k + 1) r f ((d, lookV co z none) :: l) A) : RR P n w0 ops J K pl fl k (⟨some d, .lookup T x y co, ty, ps, af, none⟩ :: r) f l A := by
  have hrv : ∀ w, rv P w (evf f l) ⟨some d, .lookup T x y co, ty, ps, af, none⟩ = some (lookV co z none) := by
    intro w
    obtain ⟨dd, hu, hp, hsn⟩ := kt.h
    have h1 := ev?_evf (f := f) hx
    have h2 := ev?_evf (f := f) hy
    have hfk := rpv_of (P := P) (w := w) (findKey_spv hu hsn a (es := []) (l := []) rfl)
    have hck := rpv_of (P := P) (w := w) (checkKey_spv hu hp true 9999 (emb a))
    have hun : rpv P w (underlying T) = some (.map KT E) := rpv_of (by rw [spv_underlying, t.h])
    have hzz : rpv P w (zeroValue E) = some z := rpv_of hz
    simp only [rv, execOp, h1, h2, Instr.lookup]
    simp [rpv_bind, rpv_pure, rpv_map, hun, hck, hfk, findI, hzz, lookV, val?]
  refine rr_step rfl fun w a s kk z => ?_
  have hc : clsF P pl fl k ⟨some d, .lookup T x y co, ty, ps, af, none⟩ = .load := by simp [clsF, kindF, hm]
  rw [hc]
  exact ⟨_, by rw [z.eval]; exact hrv w, h w _ s kk (z.put hd _)⟩
theorem run_setObj {w : World} {b : Nat} {es : Array MapEntry} {c : Nat} (h : w.heap[b]? = some (.map es c)) (o : Obj) : (setObj b o).run P w = .ok () { w with heap := w.heap.setIfInBounds b o } := by
  simp [setObj, Sem.run, h]
theorem Kept.setObj {w : World} (b : Nat) (o : Obj) : Kept w { w with heap := w.heap.setIfInBounds b o } := ⟨rfl, rfl, rfl, by simp⟩
theorem born_ne {es : List MapEntry} (h : (es.map (·.born)).Nodup) {i : Nat} {e : MapEntry} (he : es[i]? = some e) (u : Value) (v : Value) : ((es.set i { e with key := u, val := v }).map (·.born)) = es.map (·.born) := by
  rw [List.map_set]
  refine List.ext_getElem? fun j => ?_
  rw [List.getElem?_set]
  split
  · rename_i e1; subst e1
    split
    · simp [he]
    · rename_i h2; have := (List.getElem?_eq_some_iff.1 he).1; simp at h2; omega
  · rfl
theorem esOf.set {emb : α → Value} {es : List MapEntry} {clock : Nat} {ml : List (α × Value)} (h : esOf emb es clock ml) {i : Nat} {e : MapEntry} (he : es[i]? = some e) (a : α) (v : Value) :
    esOf emb (es.set i { e with key := emb a, val := v }) clock (ml.set i (a, v)) := by
  refine ⟨?_, by rw [born_ne h.2.1 he]; exact h.2.1, ?_⟩
  · rw [List.map_set, List.map_set, h.1]
  · intro x hx
    have hm : x.born ∈ ((es.set i { e with key := emb a, val := v }).map (·.born)) := List.mem_map_of_mem hx
    rw [born_ne h.2.1 he] at hm
    obtain ⟨y, hy, e2⟩ := List.mem_map.1 hm
    have := h.2.2 y hy; omega
theorem esOf.push {emb : α → Value} {es : List MapEntry} {clock : Nat} {ml : List (α × Value)} (h : esOf emb es clock ml) (a : α) (v : Value) :
    esOf emb (es ++ [{ key := emb a, val := v, born := clock }]) (clock + 1) (ml ++ [(a, v)]) := by
  refine ⟨by simp [h.1], ?_, ?_⟩
  · rw [List.map_append, List.nodup_append]
    refine ⟨h.2.1, by simp, ?_⟩
    intro x hx y hy
    simp at hy; subst hy
    obtain ⟨e, he, rfl⟩ := List.mem_map.1 hx
    have := h.2.2 e he; simp; omega
  · intro x hx
    rcases List.mem_append.1 hx with hx | hx
    · have := h.2.2 x hx; omega
    · simp at hx; subst hx; simp
theorem erase_map {β γ : Type} (g : β → γ) : ∀ (l : List β) (i : Nat), (l.eraseIdx i).map g = (l.map g).eraseIdx i
  | [], i => by simp
  | x :: l, 0 => rfl
  | x :: l, i + 1 => by simp [erase_map g l i]
theorem esOf.erase {emb : α → Value} {es : List MapEntry} {clock : Nat} {ml : List (α × Value)} (h : esOf emb es clock ml) (i : Nat) : esOf emb (es.eraseIdx i) clock (ml.eraseIdx i) := by
  refine ⟨by rw [erase_map, erase_map, h.1], ?_, ?_⟩
  · rw [erase_map]; exact h.2.1.sublist (List.eraseIdx_sublist _ _)
  · intro x hx; exact h.2.2 x ((List.eraseIdx_sublist _ _).subset hx)
/-- an entry of a map is set -/
theorem r_mupd {T KT E : Nat} {x y u : Operand} {b : Nat} {ml : List (α × Value)} {emb : α → Value} {a : α} {v : Value} {R : SL} [t : TM P T KT E] [kt : KeyT P KT α emb]
    (hx : ev? l x = some (.map (some b))) (hy : ev? l y = some (emb a)) (hu : ev? l u = some v)
    (hp : Pick A (mapR emb b ml) R) (s1 : SD (memN k fl) A J) (s2 : SD (memN k fl) (mapR emb b (setM ml a v) * R) J)
    (h : RR P n w0 ops J K pl fl (k + 1) r f l (mapR emb b (setM ml a v) * R)) : RR P n w0 ops J K pl fl k (⟨none, .mapUpdate T x y u, ty, ps, af, none⟩ :: r) f l A := by
  refine rr_loud rfl s1 rfl fun w sa => ?_
  have h1 := ev?_evf (f := f) hx
  have h2 := ev?_evf (f := f) hy
  have h3 := ev?_evf (f := f) hu
  have sa' := sa.eq hp.eq
  unfold mapR at sa'
  obtain ⟨⟨es, clock⟩, sa'⟩ := sat_ex_mul.1 sa'
  obtain ⟨he, sa'⟩ := sat_pu2.1 sa'
  simp only at he sa'
  have hb := sa'.blk (b := b) (o := .map es.toArray clock) (.l .o)
  obtain ⟨dd, hud, hpd, hsn⟩ := kt.h
  have hfk := run_of (P := P) (w := w) (findKey_spv hud hsn a he.1)
  have hck := run_of (P := P) (w := w) (checkKey_spv hud hpd false 9999 (emb a))
  have hun : (underlying T).run P w = .ok (.map KT E) w := run_of (by rw [spv_underlying, t.h])
  cases hf : findI a ml 0 with
  | none =>
    refine ⟨undef, { w with heap := w.heap.setIfInBounds b (.map (es ++ [({ key := emb a, val := v, born := clock } : MapEntry)]).toArray (clock + 1)) }, _, .inr ⟨?_, rfl⟩, ?_, .setObj _ _, s2, h⟩
    · simp [execOp, h1, h2, h3, Instr.mapUpdate, run_bind, run_pure, hun, run_getObj hb, hck, hfk, hf, run_setObj hb]
    · have hs := sa'.setObj (w' := { w with heap := w.heap.setIfInBounds b (.map (es ++ [({ key := emb a, val := v, born := clock } : MapEntry)]).toArray (clock + 1)) }) (.l .o) rfl
      refine hs.mono fun h => star_mono (fun h x => ?_) (fun _ x => x)
      refine ⟨(es ++ [{ key := emb a, val := v, born := clock }], clock + 1), ?_⟩
      refine pu_mul.2 ⟨?_, x⟩
      simp only [setM, hf]
      exact he.push a v
  | some iv =>
    obtain ⟨i, vo⟩ := iv
    obtain ⟨i', hi, hg⟩ := findI_get hf
    have hi : i = i' := by omega
    subst hi
    have hlen := he.len
    have hil := (List.getElem?_eq_some_iff.1 hg).1
    obtain ⟨e, hge⟩ : ∃ e, es[i]? = some e := ⟨es[i]'(by omega), List.getElem?_eq_getElem (by omega)⟩
    obtain ⟨xx, hgx, hek, hev⟩ := he.get hge
    rw [hg] at hgx
    simp only [Option.some.injEq] at hgx
    subst hgx
    simp only at hek hev
    have hkt : (Instr.keyThatStays (((es.toArray[i]?).map (·.key)).getD (emb a)) (emb a)).run P w = .ok (emb a) w := by
      have : ((es.toArray[i]?).map (·.key)).getD (emb a) = emb a := by simp [hge, hek]
      rw [this]
      simp [Instr.keyThatStays, kt.same, run_pure]
    have hmod : es.toArray.modify i (fun e => { e with key := emb a, val := v }) = (es.set i { e with key := emb a, val := v }).toArray := by
      apply Array.ext'
      rw [Array.toList_modify]
      simp only
      refine List.ext_getElem? fun j => ?_
      rw [List.getElem?_modify, List.getElem?_set]
      by_cases ej : i = j
      · subst ej; have he3 := (List.getElem?_eq_some_iff.1 hge).2; simp [(by omega : i < es.length), he3]
      · simp [ej]
    refine ⟨undef, { w with heap := w.heap.setIfInBounds b (.map (es.set i { e with key := emb a, val := v }).toArray clock) }, _, .inr ⟨?_, rfl⟩, ?_, .setObj _ _, s2, h⟩
    · simp only [execOp, h1, h2, h3, Instr.mapUpdate]
      simp only [run_bind, hun, run_getObj hb, hck, hfk, hf, hkt, run_setObj hb, hmod, run_pure]
    · have hs := sa'.setObj (w' := { w with heap := w.heap.setIfInBounds b (.map (es.set i { e with key := emb a, val := v }).toArray clock) }) (.l .o) rfl
      refine hs.mono fun h => star_mono (fun h x => ?_) (fun _ x => x)
      refine ⟨(es.set i { e with key := emb a, val := v }, clock), ?_⟩
      refine pu_mul.2 ⟨?_, x⟩
      simp only [setM, hf]
      exact he.set hge a v
/-- an entry of a map goes -/
theorem r_mdel {T T2 KT E : Nat} {x y : Operand} {b : Nat} {ml : List (α × Value)} {emb : α → Value} {a : α} {R : SL} {dst : Option Nat} [t : TM P T KT E] [kt : KeyT P KT α emb]
    (hx : ev? l x = some (.map (some b))) (hy : ev? l y = some (emb a))
    (hp : Pick A (mapR emb b ml) R) (hd : okD n dst = true) (s1 : SD (memN k fl) A J) (s2 : SD (memN k fl) (mapR emb b (delM ml a) * R) J)
    (h : RR P n w0 ops J K pl fl (k + 1) r f (putE dst (.tuple #[]) l) (mapR emb b (delM ml a) * R)) : RR P n w0 ops J K pl fl k (⟨dst, .call ⟨.builtin .delete, #[x, y], #[T, T2]⟩, ty, ps, af, none⟩ :: r) f l A := by
  refine rr_loud rfl s1 hd fun w sa => ?_
  have h1 := ev?_evf (f := f) hx
  have h2 := ev?_evf (f := f) hy
  have sa' := sa.eq hp.eq
  unfold mapR at sa'
  obtain ⟨⟨es, clock⟩, sa'⟩ := sat_ex_mul.1 sa'
  obtain ⟨he, sa'⟩ := sat_pu2.1 sa'
  simp only at he sa'
  have hb := sa'.blk (b := b) (o := .map es.toArray clock) (.l .o)
  obtain ⟨dd, hud, hpd, hsn⟩ := kt.h
  have hfk := run_of (P := P) (w := w) (findKey_spv hud hsn a he.1)
  have hck := run_of (P := P) (w := w) (checkKey_spv hud hpd es.isEmpty 9999 (emb a))
  have hun : (underlying T).run P w = .ok (.map KT E) w := run_of (by rw [spv_underlying, t.h])
  cases hf : findI a ml 0 with
  | none =>
    refine ⟨.tuple #[], { w with heap := w.heap.setIfInBounds b (.map es.toArray clock) }, _, .inl ?_, ?_, .setObj _ _, s2, h⟩
    · simp [execOp, resolve, h1, h2, invoke, builtin, Builtin.delete_, run_bind, run_pure, run_map, hun, run_getObj hb, hck, hfk, hf, run_setObj hb]
    · have hs := sa'.setObj (w' := { w with heap := w.heap.setIfInBounds b (.map es.toArray clock) }) (.l .o) rfl
      refine hs.mono fun h => star_mono (fun h x => ?_) (fun _ x => x)
      refine ⟨(es, clock), pu_mul.2 ⟨?_, x⟩⟩
      simp only [delM, hf]
      exact he
  | some iv =>
    obtain ⟨i, vo⟩ := iv
    refine ⟨.tuple #[], { w with heap := w.heap.setIfInBounds b (.map (es.eraseIdx i).toArray clock) }, _, .inl ?_, ?_, .setObj _ _, s2, h⟩
    · have : es.toArray.eraseIdxIfInBounds i = (es.eraseIdx i).toArray := by simp
      simp [execOp, resolve, h1, h2, invoke, builtin, Builtin.delete_, run_bind, run_pure, run_map, hun, run_getObj hb, hck, hfk, hf, run_setObj hb]
    · have hs := sa'.setObj (w' := { w with heap := w.heap.setIfInBounds b (.map (es.eraseIdx i).toArray clock) }) (.l .o) rfl
      refine hs.mono fun h => star_mono (fun h x => ?_) (fun _ x => x)
      refine ⟨(es.eraseIdx i, clock), pu_mul.2 ⟨?_, x⟩⟩
      simp only [delM, hf]
      exact he.erase i
/-- a map is made -/
theorem r_mkm {T : Nat} (emb : α → Value) (hd : Nat.blt d n = true) (s1 : SD (memN k fl) A J) (s2 : ∀ b, SD (memN k fl) (mapR emb b [] * A) J)
    (h : ∀ b, RR P n w0 ops J K pl fl (k + 1) r f ((d, .map (some b)) :: l) (mapR emb b [] * A)) : RR P n w0 ops J K pl fl k (⟨some d, .makeMap T none, ty, ps, af, none⟩ :: r) f l A := by
  refine rr_loud rfl s1 hd fun w s => ?_
  refine ⟨_, w.alloc (.map #[] 0), _, .inl ?_, ?_, .alloc (.refl w) _, s2 _, h w.heap.size⟩
  · simp [execOp, Instr.makeMap, run_bind, run_pure, run_map, run_new]
  · refine (s.alloc (.map #[] 0)).mono fun h => star_mono (fun h x => ?_) (fun _ x => x)
    exact ⟨([], 0), pu_mul.2 ⟨⟨rfl, by simp, by simp⟩, x⟩⟩
/-- an iterator over a map: the places that it has told -/
def itR (it m : Nat) (es : List MapEntry) (clock : Nat) (vs : List Nat) : SL :=
  pt it (.mapIter (some m) clock (vs.map fun i => (es.map (·.born)).getD i 0).toArray clock)
theorem r_range {T KT E : Nat} {x : Operand} {b : Nat} {es : List MapEntry} {clock : Nat} [t : TM P T KT E] (hx : ev? l x = some (.map (some b))) [hh : HasI A b (.map es.toArray clock)]
    (hd : Nat.blt d n = true) (s1 : SD (memN k fl) A J) (s2 : ∀ it, SD (memN k fl) (itR it b es clock [] * A) J)
    (h : ∀ it, RR P n w0 ops J K pl fl (k + 1) r f ((d, .pointer (some ⟨it, 0, none⟩)) :: l) (itR it b es clock [] * A)) : RR P n w0 ops J K pl fl k (⟨some d, .range T x, ty, ps, af, none⟩ :: r) f l A := by
  refine rr_loud rfl s1 hd fun w s => ?_
  have h1 := ev?_evf (f := f) hx
  have hb := s.blk hh.has
  have hun : (underlying T).run P w = .ok (.map KT E) w := run_of (by rw [spv_underlying, t.h])
  refine ⟨_, w.alloc (.mapIter (some b) clock #[] clock), _, .inl ?_, s.alloc _, .alloc (.refl w) _, s2 _, h w.heap.size⟩
  simp [execOp, h1, Instr.range, run_bind, run_pure, run_map, hun, run_getObj hb, run_new]
theorem run_getObjO {w : World} {b : Nat} {o : Obj} (h : w.heap[b]? = some o) (hc : ∀ c T fr, o ≠ .cells c T fr) : (getObj b).run P w = .ok o w := by
  cases o with
  | cells c T fr => exact absurd rfl (hc c T fr)
  | _ => simp [getObj, Sem.run, h]
theorem run_chooseN {w : World} {m : Nat} (hm : 0 < m) : ∃ i w', i < m ∧ w'.heap = w.heap ∧ Kept w w' ∧ (choose (.mapNext m)).run P w = .ok i w' := by
  by_cases h : m ≤ 1
  · exact ⟨0, w, by omega, rfl, .refl w, by simp [choose, Sem.run, Question.forced, h]⟩
  · refine ⟨(Question.mapNext m).cut (w.tape w.drawn (.mapNext m)), w.drew, Nat.mod_lt _ hm, rfl, .drew (.refl w), ?_⟩
    simp [choose, Sem.run, Question.forced, h]
theorem seen_iff {es : List MapEntry} (hn : (es.map (·.born)).Nodup) {vs : List Nat} (hv : ∀ i ∈ vs, i < es.length) {j : Nat} {e : MapEntry} (he : es[j]? = some e) :
    (vs.map fun i => (es.map (·.born)).getD i 0).contains e.born = true ↔ j ∈ vs := by
  obtain ⟨hj, hje⟩ := List.getElem?_eq_some_iff.1 he
  have hjb : (es.map (·.born))[j]'(by simpa using hj) = e.born := by simp [hje]
  rw [List.contains_iff_mem, List.mem_map]
  constructor
  · rintro ⟨i, hi, e2⟩
    have hil := hv i hi
    rw [List.getD_eq_getElem?_getD, List.getElem?_eq_getElem (by simpa using hil)] at e2
    simp only [Option.getD_some] at e2
    have : i = j := (List.getElem_inj (h₀ := by simpa using hil) (h₁ := by simpa using hj) hn).1 (by rw [e2, hjb])
    exact this ▸ hi
  · intro h
    refine ⟨j, h, ?_⟩
    rw [List.getD_eq_getElem?_getD, List.getElem?_eq_getElem (by simpa using hj)]
    simpa using hjb
/-- the next entry: any one that was not told -/
theorem r_next {x : Operand} {it m : Nat} {es : List MapEntry} {clock : Nat} {vs : List Nat} {R : SL} (hx : ev? l x = some (.pointer (some ⟨it, 0, none⟩)))
    (hp : Pick A (itR it m es clock vs) R) [hh : HasI R m (.map es.toArray clock)] (hn : (es.map (·.born)).Nodup) (hc : ∀ e ∈ es, e.born < clock) (hv : ∀ i ∈ vs, i < es.length)
    (hd : Nat.blt d n = true) (s1 : SD (memN k fl) A J) (s2 : ∀ i, SD (memN k fl) (itR it m es clock (vs ++ [i]) * R) J)
    (h0 : (∀ i, i < es.length → i ∈ vs) → RR P n w0 ops J K pl fl (k + 1) r f ((d, .tuple #[.bool false]) :: l) A)
    (h1 : ∀ i e, es[i]? = some e → i ∉ vs → RR P n w0 ops J K pl fl (k + 1) r f ((d, .tuple #[.bool true, e.key, e.val]) :: l) (itR it m es clock (vs ++ [i]) * R)) :
    RR P n w0 ops J K pl fl k (⟨some d, .next x false, ty, ps, af, none⟩ :: r) f l A := by
  refine rr_loud rfl s1 hd fun w s => ?_
  have hx1 := ev?_evf (f := f) hx
  have s' := s.eq hp.eq
  have hb := s'.blk (b := m) (o := .map es.toArray clock) (.r hh.has)
  have hi := s'.blk (b := it) (.l (P := itR it m es clock vs) .o)
  have hg1 := run_getObjO (P := P) hi (fun c T fr => by simp)
  have hg2 := run_getObj (P := P) hb
  have hcond : (!(vs.map fun i => (es.map (·.born)).getD i 0).toArray.isEmpty && !es.toArray.isEmpty && es.toArray.all fun x => decide (x.born ≥ clock)) = false := by
    cases es with
    | nil => simp
    | cons e es =>
      have := hc e (by simp)
      simp; intro _ h; omega
  generalize hleft : es.filter (fun e => !(vs.map fun i => (es.map (·.born)).getD i 0).contains e.born) = left
  have hl1 : (es.toArray.filter fun e => !(vs.map fun i => (es.map (·.born)).getD i 0).toArray.contains e.born) = left.toArray := by
    rw [← hleft]; simp
  have hmem : ∀ e ∈ left, e ∈ es := fun e he => by rw [← hleft] at he; exact (List.mem_filter.1 he).1
  have hl2 : left.toArray.filter (fun x => decide (x.born < clock)) = left.toArray := by
    simp only [List.filter_toArray', List.size_toArray]
    congr 1
    rw [List.filter_eq_self]
    intro e he; simpa using hc e (hmem e he)
  have hl3 : left.toArray.filter (fun x => decide (x.born ≥ clock)) = #[] := by
    simp only [List.filter_toArray', List.size_toArray]
    congr 1
    rw [List.filter_eq_nil_iff]
    intro e he; have := hc e (hmem e he); simp; omega
  by_cases hle : left = []
  · have hall : ∀ i, i < es.length → i ∈ vs := by
      intro i hil
      have hge : es[i]? = some es[i] := List.getElem?_eq_getElem hil
      rw [hle, List.filter_eq_nil_iff] at hleft
      have := hleft es[i] (List.getElem_mem hil)
      simp only [Bool.not_eq_true', Bool.not_eq_false] at this
      exact (seen_iff hn hv hge).1 this
    refine ⟨_, w, _, .inl ?_, s, .refl w, s1, h0 hall⟩
    subst hle
    simp only [execOp, hx1, Instr.next]
    simp only [run_bind, hg1, hg2, hcond, hl1, hl2, hl3]
    simp [run_bind, run_pure, choose, Sem.run, Question.forced, Question.cut]
  · have hpos : 0 < left.length := List.length_pos_iff.2 hle
    obtain ⟨i, w', hilt, hwh, hk, hrun⟩ := run_chooseN (P := P) (w := w) hpos
    have hgl : left[i]? = some left[i] := List.getElem?_eq_getElem hilt
    have hlm : left[i] ∈ left := List.getElem_mem hilt
    obtain ⟨j, hj⟩ := List.getElem?_of_mem (hmem _ hlm)
    have hjn : j ∉ vs := by
      intro hjv
      have h2 := (seen_iff hn hv hj).2 hjv
      generalize left[i] = ee at *
      rw [← hleft] at hlm
      have h3 := (List.mem_filter.1 hlm).2
      rw [h2] at h3; simp at h3
    have hi' : w'.heap[it]? = some (.mapIter (some m) clock (vs.map fun i => (es.map (·.born)).getD i 0).toArray clock) := by rw [hwh]; exact hi
    have hset : ∀ o, (setObj it o).run P w' = .ok () { w' with heap := w'.heap.setIfInBounds it o } := fun o => by simp [setObj, Sem.run, hi']
    have hborn : (es.map (·.born)).getD j 0 = left[i].born := by
      rw [List.getD_eq_getElem?_getD, List.getElem?_map, hj]; rfl
    refine ⟨_, { w' with heap := w'.heap.setIfInBounds it (.mapIter (some m) clock ((vs ++ [j]).map fun i => (es.map (·.born)).getD i 0).toArray clock) }, _, .inl ?_, ?_, hk.trans (.setObj _ _), s2 j, h1 j left[i] hj hjn⟩
    · have hne : left.toArray.isEmpty = false := by simpa using hle
      have hsz : ((if left.toArray.isEmpty = true then #[none] else #[]) ++ (left.toArray ++ #[]).map some : Array (Option MapEntry)) = (left.map some).toArray := by simp [hne]
      have hpush : (vs.map fun i => (es.map (·.born)).getD i 0).toArray.push left[i].born = ((vs ++ [j]).map fun i => (es.map (·.born)).getD i 0).toArray := by
        simp only [List.map_append, List.map_cons, List.map_nil, hborn]; simp
      simp only [execOp, hx1, Instr.next]
      simp only [run_bind, hg1, hg2, hcond, hl1, hl2, hl3, hsz]
      simp only [List.size_toArray, List.length_map]
      simp only [Bool.false_eq_true, if_false, run_bind, run_pure]
      rw [hrun]
      simp only [List.getElem?_toArray, List.getElem?_map, hgl, Option.map_some, run_bind, hset, run_pure, hpush]
    · have h2 := (s'.heap (w' := w') hwh).setObj (w' := { w' with heap := w'.heap.setIfInBounds it (.mapIter (some m) clock ((vs ++ [j]).map fun i => (es.map (·.born)).getD i 0).toArray clock) }) (.l (Q := R) .o) rfl
      exact h2
end
end Ice

namespace Ice
open Go Go.RowKit
/-- blocks that no one writes any more -/
abbrev Pool := List (Nat × Nat × List Value)
def poolR : Pool → SL
  | [] => 1
  | x :: r => bl x.1 x.2.1 x.2.2 * poolR r
class InP (U : Pool) (b : Nat) (T : outParam Nat) (cs : outParam (List Value)) : Prop where
  h : (b, T, cs) ∈ U
theorem pool_has {b T : Nat} {cs : List Value} : ∀ {U : Pool}, (b, T, cs) ∈ U → Has (poolR U) b (.cells cs.toArray T (0, 0))
  | x :: r, h => by
    rcases List.mem_cons.1 h with h | h
    · subst h; exact .l .o
    · exact .r (pool_has h)
instance (priority := 1050) hasI_pool (U : Pool) (b T : Nat) (cs : List Value) [h : InP U b T cs] : HasI (poolR U) b (.cells cs.toArray T (0, 0)) := ⟨pool_has h.h⟩
def Sub (U V : Pool) : Prop := ∀ x ∈ U, x ∈ V
theorem Sub.refl (U : Pool) : Sub U U := fun _ h => h
theorem Sub.trans {U V W : Pool} (h : Sub U V) (k : Sub V W) : Sub U W := fun x a => k x (h x a)
theorem Sub.cons (U : Pool) (x : Nat × Nat × List Value) : Sub U (x :: U) := fun _ h => List.mem_cons_of_mem _ h
theorem pool_cons (b T : Nat) (cs : List Value) (U : Pool) : bl b T cs * poolR U = poolR ((b, T, cs) :: U) := rfl
/-- a slice in the pool -/
def inSl (U : Pool) (v : Value) (E s m : Nat) (xs : List Value) : Prop :=
  (v = .slice none 0 0 ∧ m = 0 ∧ xs = []) ∨ ∃ b o cap cs, v = .slice (some ⟨b, o, none⟩) m cap ∧ (b, E, cs) ∈ U ∧ o + m * s ≤ cs.length ∧ m ≤ cap ∧ o + cap * s ≤ cs.length ∧ (cs.drop o).take (m * s) = xs
theorem inSl.mono {U V : Pool} {v : Value} {E s m : Nat} {xs : List Value} (h : inSl U v E s m xs) (k : Sub U V) : inSl V v E s m xs := by
  rcases h with h | ⟨b, o, cap, cs, h1, h2, h3⟩
  · exact .inl h
  · exact .inr ⟨b, o, cap, cs, h1, k _ h2, h3⟩
theorem inSl.nil (U : Pool) (E s : Nat) : inSl U (.slice none 0 0) E s 0 [] := .inl ⟨rfl, rfl, rfl⟩
theorem inSl.val {U : Pool} {v : Value} {E s m : Nat} {xs : List Value} (h : inSl U v E s m xs) : (∃ base cap, v = .slice base m cap) ∧ xs.length = m * s := by
  rcases h with ⟨h1, h2, h3⟩ | ⟨b, o, cap, cs, h1, h2, h3, h4, h5, h6⟩
  · subst h2 h3; exact ⟨⟨_, _, h1⟩, by simp⟩
  · refine ⟨⟨_, _, h1⟩, ?_⟩
    rw [← h6]; simp; omega
/-- a slice goes into the pool -/
theorem pool_sl (v : Value) (E s m : Nat) (xs : List Value) (U : Pool) (hs0 : 0 < s) : Ent (slR v E s m xs * poolR U) (ex fun V => pu (Sub U V ∧ inSl V v E s m xs) * poolR V) := by
  intro h x
  obtain ⟨h1, h2, hd, he, p, q⟩ := x
  rcases p with ⟨e1, e2, e3, e4⟩ | ⟨b, cap, rest, e1, e2, e3, e4⟩
  · have : h = h2 := funext fun b => by rw [he, e4 b]; rfl
    subst this
    exact ⟨U, pu_mul.2 ⟨⟨.refl _, .inl ⟨e1, e2, e3⟩⟩, q⟩⟩
  · refine ⟨(b, E, xs ++ rest) :: U, pu_mul.2 ⟨⟨.cons _ _, .inr ⟨b, 0, cap, xs ++ rest, e1, List.mem_cons_self, ?_, ?_, ?_, ?_⟩⟩, ⟨h1, h2, hd, he, e4, q⟩⟩⟩
    · rw [List.length_append]; omega
    · rw [List.length_append] at e3
      exact Nat.le_of_mul_le_mul_right (by omega) hs0
    · omega
    · rw [List.drop_zero, ← e2, List.take_left' rfl]
end Ice

namespace Ice
open Go Go.RowKit
section
variable {P : Program} {n : Nat} {w0 : World} {Q Q2 : Exit → Pos} {f : Nat → Value} {l : Env} {A : SL}
/-- two ways meet: L, B: the frame and the heap there -/
theorem cc_join {c c2 : Code} {α : Type} (L : α → Env) (B : α → SL) (h1 : CC P n w0 c (thn (fun f' l' A' => ∃ y, covers f' l' (L y) ∧ EntW A' (B y)) Q) f l A)
    (h2 : ∀ y f, CC P n w0 c2 Q2 f (L y) (B y)) : CC P n w0 c (thn (CC P n w0 c2 Q2) Q) f l A := by
  intro w a s k z
  refine Code.wp_mono ?_ (h1 w a s k z)
  intro e a w he
  cases e with
  | normal =>
    obtain ⟨f', l', A', x, s, k, y, hc, he⟩ := he
    exact ⟨_, _, _, x.re hc, he w s, k, h2 y _⟩
  | panic c => exact he
  | outgrown => exact he
  | _ => exact he
theorem tr_ex {g : Nat} {args : Array Value} {B : Value → SL} {α : Type} {X : α → SL} {R : SL} (hg : goF P g = true) (h : ∀ x, Tr P g args (X x * R) B) : Tr P g args (ex X * R) B :=
  ⟨hg, fun F w s => by rw [sl_assoc] at s; obtain ⟨x, s⟩ := sat_ex_mul.1 s; rw [← sl_assoc] at s; exact (h x).2 F w s⟩
theorem tr_pu {g : Nat} {args : Array Value} {B : Value → SL} {p : Prop} {X R : SL} (hg : goF P g = true) (h : p → Tr P g args (X * R) B) : Tr P g args (pu p * X * R) B :=
  ⟨hg, fun F w s => by rw [sl_assoc, sl_assoc] at s; obtain ⟨x, s⟩ := sat_pu.1 s; rw [← sl_assoc] at s; exact (h x).2 F w s⟩
theorem tr_ent {g : Nat} {args : Array Value} {X X' : SL} {B B' : Value → SL} (h : Tr P g args X B) (e : ∀ F, EntW (X' * F) (X * F)) (e2 : ∀ v F, EntW (B v * F) (B' v * F)) : Tr P g args X' B' :=
  ⟨h.1, fun F w s => (h.2 F w (e F w s)).mono fun _ w' ⟨v, a, b, c⟩ => ⟨v, a, e2 v F w' b, c⟩⟩
variable {ops : Array Oper} {J : SL} {K : Pos} {pl fl : List Nat} {k : Nat} {r : List Oper} {d : Nat} {ty : TypeId} {ps : String} {af : Array Edge}
/-- slicing an array that has elements -/
theorem r_slaP {T E s : Nat} {x : Operand} {b o N lo hi m c : Nat} {xl xh : Option Operand} [t : TU P T (.array N E)] [t2 : TS P E s] (hx : ev? l x = some (.pointer (some ⟨b, o, none⟩)))
    (hl : bndE l xl lo 0) (hh : bndE l xh hi N) (hd : Nat.blt d n = true) (h1 : lo ≤ hi) (h2 : hi ≤ N) (hN : Nat.blt lo N = true) (hm : hi - lo = m) (hc : N - lo = c)
    (h : RR P n w0 ops J K pl fl (k + 1) r f ((d, .slice (some ⟨b, o + lo * s, none⟩) m c) :: l) A) : RR P n w0 ops J K pl fl k (⟨some d, .slice T x xl xh none, ty, ps, af, none⟩ :: r) f l A := by
  refine r_sla hx hl hh hd h1 h2 ?_
  have hN2 : lo < N := by simpa [Nat.blt_eq] using hN
  rw [if_neg (by omega), hm, hc]
  exact h
theorem tr_fact {g : Nat} {args : Array Value} {B : Value → SL} {X : SL} {φ : Prop} (hg : goF P g = true) (hφ : ∀ h, X h → φ) (h : φ → Tr P g args X B) : Tr P g args X B :=
  ⟨hg, fun F w s => (h (by obtain ⟨_, _, _, _, _, _, p, _⟩ := s; exact hφ _ p)).2 F w s⟩
theorem tr_frame {g : Nat} {args : Array Value} {B : Value → SL} {X : SL} (R : SL) (h : Tr P g args X B) : Tr P g args (X * R) (fun v => B v * R) :=
  ⟨h.1, fun F w s => by
    rw [sl_assoc] at s
    refine (h.2 (R * F) w s).mono fun e w' ⟨v, a, b, c⟩ => ⟨v, a, ?_, c⟩
    rw [sl_assoc]; exact b⟩
end
end Ice

namespace Ice
open Go Go.RowKit
section
variable {P : Program} {n : Nat} {w0 : World} {Q Q2 : Exit → Pos} {f : Nat → Value} {l : Env} {A : SL}
variable {ops : Array Oper} {J : SL} {K : Pos} {pl fl : List Nat} {k : Nat} {r : List Oper} {d : Nat} {ty : TypeId} {ps : String} {af : Array Edge}
/-- the entry that was told last -/
theorem r_entry {x : Operand} {it m i : Nat} {es : List MapEntry} {clock : Nat} {vs : List Nat} {e : MapEntry} {R : SL} (hx : ev? l x = some (.pointer (some ⟨it, 0, none⟩)))
    (hp : Pick A (itR it m es clock (vs ++ [i])) R) [hh : HasI R m (.map es.toArray clock)] (hn : (es.map (·.born)).Nodup) (he : es[i]? = some e) (hd : Nat.blt d n = true) (s1 : SD (memN k fl) A J)
    (h : RR P n w0 ops J K pl fl (k + 1) r f ((d, .tuple #[e.key, e.val]) :: l) A) : RR P n w0 ops J K pl fl k (⟨some d, .entry x, ty, ps, af, none⟩ :: r) f l A := by
  refine rr_loud rfl s1 hd fun w s => ?_
  have hx1 := ev?_evf (f := f) hx
  have s' := s.eq hp.eq
  have hb := s'.blk (b := m) (o := .map es.toArray clock) (.r hh.has)
  have hi := s'.blk (b := it) (.l (P := itR it m es clock (vs ++ [i])) .o)
  have hg1 := run_getObjO (P := P) hi (fun c T fr => by simp)
  have hg2 := run_getObj (P := P) hb
  have hborn : (es.map (·.born)).getD i 0 = e.born := by
    rw [List.getD_eq_getElem?_getD, List.getElem?_map, he]; rfl
  have hback : ((vs ++ [i]).map fun i => (es.map (·.born)).getD i 0).toArray.back? = some e.born := by
    simp only [List.map_append, List.map_cons, List.map_nil, hborn]; simp
  have hfind : es.toArray.find? (fun x => x.born == e.born) = some e := by
    simp only [List.find?_toArray]
    rw [List.find?_eq_some_iff_getElem]
    obtain ⟨hil, hie⟩ := List.getElem?_eq_some_iff.1 he
    refine ⟨by simp, i, hil, hie, fun j hj => ?_⟩
    have hjl : j < es.length := by omega
    have : (es.map (·.born))[j]'(by simpa using hjl) ≠ (es.map (·.born))[i]'(by simpa using hil) := fun e2 => by
      have := (List.getElem_inj (h₀ := by simpa using hjl) (h₁ := by simpa using hil) hn).1 e2
      omega
    simp only [List.getElem_map, hie] at this
    simpa using this
  refine ⟨_, w, _, .inl ?_, s, .refl w, s1, h⟩
  simp only [execOp, hx1, Instr.entry]
  simp only [run_bind, hg1, hg2, hback, hfind]
  simp [run_bind, run_pure]
/-- the next entry, both ways in one -/
theorem r_nextD {x : Operand} {it m : Nat} {es : List MapEntry} {clock : Nat} {vs : List Nat} {R : SL} (hx : ev? l x = some (.pointer (some ⟨it, 0, none⟩)))
    (hp : Pick A (itR it m es clock vs) R) [hh : HasI R m (.map es.toArray clock)] (hn : (es.map (·.born)).Nodup) (hc : ∀ e ∈ es, e.born < clock) (hv : ∀ i ∈ vs, i < es.length)
    (hd : Nat.blt d n = true) (s1 : SD (memN k fl) A J) (s2 : ∀ i, SD (memN k fl) (itR it m es clock (vs ++ [i]) * R) J)
    (h : ∀ (ok : Bool) (tl : List Value) (vs' : List Nat), ((ok = false ∧ vs' = vs ∧ ∀ i, i < es.length → i ∈ vs) ∨ (ok = true ∧ ∃ i e, es[i]? = some e ∧ i ∉ vs ∧ vs' = vs ++ [i])) →
      RR P n w0 ops J K pl fl (k + 1) r f ((d, .tuple (.bool ok :: tl).toArray) :: l) (itR it m es clock vs' * R)) :
    RR P n w0 ops J K pl fl k (⟨some d, .next x false, ty, ps, af, none⟩ :: r) f l A := by
  refine r_next hx hp hn hc hv hd s1 s2 (fun hall => ?_) (fun i e he hni => ?_)
  · exact RR.eq (h false [] vs (.inl ⟨rfl, rfl, hall⟩)) hp.eq
  · exact h true [e.key, e.val] _ (.inr ⟨rfl, i, e, he, hni, rfl⟩)
end
end Ice

namespace Go.Proofs.YtoiakcgdkegncaaGreat
open Ice
set_option maxRecDepth 100000
instance tu2 : TU Tryz.prog 2 (.int .i64) := ⟨by kernel_rfl⟩
instance t1_2 : T1 Tryz.prog 2 := ⟨by kernel_rfl⟩
instance ts2 : TS Tryz.prog 2 1 := ⟨by kernel_rfl⟩
instance tz2 : TZ Tryz.prog 2 [.int .i64 0] := ⟨by kernel_rfl⟩
instance tu3 : TU Tryz.prog 3 (.int .i64) := ⟨by kernel_rfl⟩
instance tby3 : TBy Tryz.prog 3 8 := ⟨by kernel_rfl⟩
instance t1_3 : T1 Tryz.prog 3 := ⟨by kernel_rfl⟩
instance ts3 : TS Tryz.prog 3 1 := ⟨by kernel_rfl⟩
instance tz3 : TZ Tryz.prog 3 [.int .i64 0] := ⟨by kernel_rfl⟩
instance tu4 : TU Tryz.prog 4 (.bool) := ⟨by kernel_rfl⟩
instance t1_4 : T1 Tryz.prog 4 := ⟨by kernel_rfl⟩
instance ts4 : TS Tryz.prog 4 1 := ⟨by kernel_rfl⟩
instance tu5 : TU Tryz.prog 5 (.int .u8) := ⟨by kernel_rfl⟩
instance tby5 : TBy Tryz.prog 5 1 := ⟨by kernel_rfl⟩
instance t1_5 : T1 Tryz.prog 5 := ⟨by kernel_rfl⟩
instance ts5 : TS Tryz.prog 5 1 := ⟨by kernel_rfl⟩
instance tz5 : TZ Tryz.prog 5 [.int .u8 0] := ⟨by kernel_rfl⟩
instance tu9 : TU Tryz.prog 9 (.string) := ⟨by kernel_rfl⟩
instance tby9 : TBy Tryz.prog 9 16 := ⟨by kernel_rfl⟩
instance t1_9 : T1 Tryz.prog 9 := ⟨by kernel_rfl⟩
instance ts9 : TS Tryz.prog 9 1 := ⟨by kernel_rfl⟩
instance tz9 : TZ Tryz.prog 9 [.string ByteArray.empty] := ⟨by kernel_rfl⟩
instance tf24_0 : TF Tryz.prog 24 0 0 := ⟨by kernel_rfl⟩
instance tz24 : TZ Tryz.prog 24 [.int .i64 0] := ⟨by kernel_rfl⟩
instance tu25 : TU Tryz.prog 25 (.pointer 57) := ⟨by kernel_rfl⟩
instance t1_25 : T1 Tryz.prog 25 := ⟨by kernel_rfl⟩
instance tu26 : TU Tryz.prog 26 (.pointer 92) := ⟨by kernel_rfl⟩
instance t1_26 : T1 Tryz.prog 26 := ⟨by kernel_rfl⟩
instance tu29 : TU Tryz.prog 29 (.pointer 24) := ⟨by kernel_rfl⟩
instance t1_29 : T1 Tryz.prog 29 := ⟨by kernel_rfl⟩
instance tu30 : TU Tryz.prog 30 (.slice 5) := ⟨by kernel_rfl⟩
instance t1_30 : T1 Tryz.prog 30 := ⟨by kernel_rfl⟩
instance ts30 : TS Tryz.prog 30 1 := ⟨by kernel_rfl⟩
instance te30 : TE Tryz.prog 30 5 1 := ⟨by kernel_rfl⟩
instance tz30 : TZ Tryz.prog 30 [.slice none 0 0] := ⟨by kernel_rfl⟩
instance tu32 : TU Tryz.prog 32 (.slice 66) := ⟨by kernel_rfl⟩
instance t1_32 : T1 Tryz.prog 32 := ⟨by kernel_rfl⟩
instance ts32 : TS Tryz.prog 32 1 := ⟨by kernel_rfl⟩
instance te32 : TE Tryz.prog 32 66 21 := ⟨by kernel_rfl⟩
instance tu33 : TU Tryz.prog 33 (.slice 41) := ⟨by kernel_rfl⟩
instance t1_33 : T1 Tryz.prog 33 := ⟨by kernel_rfl⟩
instance ts33 : TS Tryz.prog 33 1 := ⟨by kernel_rfl⟩
instance te33 : TE Tryz.prog 33 41 6 := ⟨by kernel_rfl⟩
instance tb35 : TB Tryz.prog 35 [(0, 1), (1, 1)] := ⟨by kernel_rfl⟩
instance ta35 : TA Tryz.prog 35 2 := ⟨by kernel_rfl, by kernel_rfl⟩
instance tf35_0 : TF Tryz.prog 35 0 0 := ⟨by kernel_rfl⟩
instance tf35_1 : TF Tryz.prog 35 1 1 := ⟨by kernel_rfl⟩
instance tz35 : TZ Tryz.prog 35 [.slice none 0 0, .slice none 0 0] := ⟨by kernel_rfl⟩
instance tu37 : TU Tryz.prog 37 (.slice 9) := ⟨by kernel_rfl⟩
instance t1_37 : T1 Tryz.prog 37 := ⟨by kernel_rfl⟩
instance te37 : TE Tryz.prog 37 9 1 := ⟨by kernel_rfl⟩
instance t1_39 : T1 Tryz.prog 39 := ⟨by kernel_rfl⟩
instance tby41 : TBy Tryz.prog 41 64 := ⟨by kernel_rfl⟩
instance tb41 : TB Tryz.prog 41 [(0, 1), (1, 1), (2, 1), (3, 1), (4, 1), (5, 1)] := ⟨by kernel_rfl⟩
instance ts41 : TS Tryz.prog 41 6 := ⟨by kernel_rfl⟩
instance tf41_0 : TF Tryz.prog 41 0 0 := ⟨by kernel_rfl⟩
instance tf41_3 : TF Tryz.prog 41 3 3 := ⟨by kernel_rfl⟩
instance tf41_4 : TF Tryz.prog 41 4 4 := ⟨by kernel_rfl⟩
instance tf41_5 : TF Tryz.prog 41 5 5 := ⟨by kernel_rfl⟩
instance tz41 : TZ Tryz.prog 41 [.int .i64 0, .int .i64 0, .string ByteArray.empty, .int .i64 0, .string ByteArray.empty, .bool false] := ⟨by kernel_rfl⟩
instance tu47 : TU Tryz.prog 47 (.pointer 84) := ⟨by kernel_rfl⟩
instance t1_47 : T1 Tryz.prog 47 := ⟨by kernel_rfl⟩
instance tu48 : TU Tryz.prog 48 (.pointer 102) := ⟨by kernel_rfl⟩
instance t1_48 : T1 Tryz.prog 48 := ⟨by kernel_rfl⟩
instance tu49 : TU Tryz.prog 49 (.pointer 120) := ⟨by kernel_rfl⟩
instance t1_49 : T1 Tryz.prog 49 := ⟨by kernel_rfl⟩
instance ts49 : TS Tryz.prog 49 1 := ⟨by kernel_rfl⟩
instance tu50 : TU Tryz.prog 50 (.pointer 127) := ⟨by kernel_rfl⟩
instance t1_50 : T1 Tryz.prog 50 := ⟨by kernel_rfl⟩
instance ts51 : TS Tryz.prog 51 1 := ⟨by kernel_rfl⟩
instance t1_52 : T1 Tryz.prog 52 := ⟨by kernel_rfl⟩
instance ts52 : TS Tryz.prog 52 1 := ⟨by kernel_rfl⟩
instance ts53 : TS Tryz.prog 53 1 := ⟨by kernel_rfl⟩
instance tu54 : TU Tryz.prog 54 (.slice 100) := ⟨by kernel_rfl⟩
instance t1_54 : T1 Tryz.prog 54 := ⟨by kernel_rfl⟩
instance ts54 : TS Tryz.prog 54 1 := ⟨by kernel_rfl⟩
instance tu55 : TU Tryz.prog 55 (.slice 75) := ⟨by kernel_rfl⟩
instance t1_55 : T1 Tryz.prog 55 := ⟨by kernel_rfl⟩
instance ts55 : TS Tryz.prog 55 1 := ⟨by kernel_rfl⟩
instance te55 : TE Tryz.prog 55 75 5 := ⟨by kernel_rfl⟩
instance tb57 : TB Tryz.prog 57 [(0, 1), (1, 1), (2, 1), (3, 1), (4, 1), (5, 1), (6, 1), (7, 1), (8, 1), (9, 1), (10, 1), (11, 1), (12, 2)] := ⟨by kernel_rfl⟩
instance tf57_0 : TF Tryz.prog 57 0 0 := ⟨by kernel_rfl⟩
instance tf57_1 : TF Tryz.prog 57 1 1 := ⟨by kernel_rfl⟩
instance tf57_2 : TF Tryz.prog 57 2 2 := ⟨by kernel_rfl⟩
instance tf57_3 : TF Tryz.prog 57 3 3 := ⟨by kernel_rfl⟩
instance tf57_4 : TF Tryz.prog 57 4 4 := ⟨by kernel_rfl⟩
instance tf57_5 : TF Tryz.prog 57 5 5 := ⟨by kernel_rfl⟩
instance tf57_6 : TF Tryz.prog 57 6 6 := ⟨by kernel_rfl⟩
instance tf57_7 : TF Tryz.prog 57 7 7 := ⟨by kernel_rfl⟩
instance tf57_8 : TF Tryz.prog 57 8 8 := ⟨by kernel_rfl⟩
instance tf57_9 : TF Tryz.prog 57 9 9 := ⟨by kernel_rfl⟩
instance tf57_10 : TF Tryz.prog 57 10 10 := ⟨by kernel_rfl⟩
instance tf57_12 : TF Tryz.prog 57 12 12 := ⟨by kernel_rfl⟩
instance tz57 : TZ Tryz.prog 57 [.pointer none, .pointer none, .int .i64 0, .pointer none, .pointer none, .bool false, .slice none 0 0, .map none, .map none, .slice none 0 0, .slice none 0 0, .int .i64 0, .slice none 0 0, .slice none 0 0] := ⟨by kernel_rfl⟩
instance tu60 : TU Tryz.prog 60 (.slice 3) := ⟨by kernel_rfl⟩
instance t1_60 : T1 Tryz.prog 60 := ⟨by kernel_rfl⟩
instance te60 : TE Tryz.prog 60 3 1 := ⟨by kernel_rfl⟩
instance tby62 : TBy Tryz.prog 62 48 := ⟨by kernel_rfl⟩
instance tb62 : TB Tryz.prog 62 [(0, 1), (1, 1), (2, 1), (3, 1)] := ⟨by kernel_rfl⟩
instance ta62 : TA Tryz.prog 62 4 := ⟨by kernel_rfl, by kernel_rfl⟩
instance ts62 : TS Tryz.prog 62 4 := ⟨by kernel_rfl⟩
instance tf62_0 : TF Tryz.prog 62 0 0 := ⟨by kernel_rfl⟩
instance tf62_1 : TF Tryz.prog 62 1 1 := ⟨by kernel_rfl⟩
instance tf62_2 : TF Tryz.prog 62 2 2 := ⟨by kernel_rfl⟩
instance tf62_3 : TF Tryz.prog 62 3 3 := ⟨by kernel_rfl⟩
instance tz62 : TZ Tryz.prog 62 [.string ByteArray.empty, .string ByteArray.empty, .int .i64 0, .bool false] := ⟨by kernel_rfl⟩
instance tu63 : TU Tryz.prog 63 (.slice 62) := ⟨by kernel_rfl⟩
instance t1_63 : T1 Tryz.prog 63 := ⟨by kernel_rfl⟩
instance te63 : TE Tryz.prog 63 62 4 := ⟨by kernel_rfl⟩
instance tu64 : TU Tryz.prog 64 (.slice 206) := ⟨by kernel_rfl⟩
instance t1_64 : T1 Tryz.prog 64 := ⟨by kernel_rfl⟩
instance te64 : TE Tryz.prog 64 206 2 := ⟨by kernel_rfl⟩
instance tby66 : TBy Tryz.prog 66 256 := ⟨by kernel_rfl⟩
instance tb66 : TB Tryz.prog 66 [(0, 1), (1, 1), (2, 1), (3, 1), (4, 1), (5, 1), (6, 1), (7, 1), (8, 1), (9, 1), (10, 1), (11, 1), (12, 4), (16, 1), (17, 1), (18, 1), (19, 1), (20, 1)] := ⟨by kernel_rfl⟩
instance ta66 : TA Tryz.prog 66 21 := ⟨by kernel_rfl, by kernel_rfl⟩
instance ts66 : TS Tryz.prog 66 21 := ⟨by kernel_rfl⟩
instance tf66_0 : TF Tryz.prog 66 0 0 := ⟨by kernel_rfl⟩
instance tf66_1 : TF Tryz.prog 66 1 1 := ⟨by kernel_rfl⟩
instance tf66_2 : TF Tryz.prog 66 2 2 := ⟨by kernel_rfl⟩
instance tf66_3 : TF Tryz.prog 66 3 3 := ⟨by kernel_rfl⟩
instance tf66_4 : TF Tryz.prog 66 4 4 := ⟨by kernel_rfl⟩
instance tf66_5 : TF Tryz.prog 66 5 5 := ⟨by kernel_rfl⟩
instance tf66_6 : TF Tryz.prog 66 6 6 := ⟨by kernel_rfl⟩
instance tf66_7 : TF Tryz.prog 66 7 7 := ⟨by kernel_rfl⟩
instance tf66_8 : TF Tryz.prog 66 8 8 := ⟨by kernel_rfl⟩
instance tf66_9 : TF Tryz.prog 66 9 9 := ⟨by kernel_rfl⟩
instance tf66_10 : TF Tryz.prog 66 10 10 := ⟨by kernel_rfl⟩
instance tf66_12 : TF Tryz.prog 66 12 12 := ⟨by kernel_rfl⟩
instance tf66_13 : TF Tryz.prog 66 13 16 := ⟨by kernel_rfl⟩
instance tf66_14 : TF Tryz.prog 66 14 17 := ⟨by kernel_rfl⟩
instance tf66_15 : TF Tryz.prog 66 15 18 := ⟨by kernel_rfl⟩
instance tf66_16 : TF Tryz.prog 66 16 19 := ⟨by kernel_rfl⟩
instance tf66_17 : TF Tryz.prog 66 17 20 := ⟨by kernel_rfl⟩
instance tz66 : TZ Tryz.prog 66 [.int .i64 0, .int .i64 0, .int .i64 0, .int .i64 0, .int .i64 0, .int .i64 0, .int .i64 0, .int .i64 0, .int .i64 0, .string ByteArray.empty, .int .i64 0, .bool false, .string ByteArray.empty, .string ByteArray.empty, .int .i64 0, .bool false, .slice none 0 0, .slice none 0 0, .slice none 0 0, .int .i64 0, .slice none 0 0] := ⟨by kernel_rfl⟩
instance tb73 : TB Tryz.prog 73 [(0, 1), (1, 1), (2, 1), (3, 1)] := ⟨by kernel_rfl⟩
instance ta73 : TA Tryz.prog 73 4 := ⟨by kernel_rfl, by kernel_rfl⟩
instance tf73_0 : TF Tryz.prog 73 0 0 := ⟨by kernel_rfl⟩
instance tf73_1 : TF Tryz.prog 73 1 1 := ⟨by kernel_rfl⟩
instance tf73_2 : TF Tryz.prog 73 2 2 := ⟨by kernel_rfl⟩
instance tf73_3 : TF Tryz.prog 73 3 3 := ⟨by kernel_rfl⟩
instance tz73 : TZ Tryz.prog 73 [.int .i64 0, .int .i64 0, .int .i64 0, .string ByteArray.empty] := ⟨by kernel_rfl⟩
instance tby75 : TBy Tryz.prog 75 48 := ⟨by kernel_rfl⟩
instance tb75 : TB Tryz.prog 75 [(0, 4), (4, 1)] := ⟨by kernel_rfl⟩
instance ta75 : TA Tryz.prog 75 5 := ⟨by kernel_rfl, by kernel_rfl⟩
instance ts75 : TS Tryz.prog 75 5 := ⟨by kernel_rfl⟩
instance tf75_0 : TF Tryz.prog 75 0 0 := ⟨by kernel_rfl⟩
instance tf75_1 : TF Tryz.prog 75 1 4 := ⟨by kernel_rfl⟩
instance tz75 : TZ Tryz.prog 75 [.int .i64 0, .int .i64 0, .int .i64 0, .string ByteArray.empty, .int .i64 0] := ⟨by kernel_rfl⟩
instance tu80 : TU Tryz.prog 80 (.pointer 136) := ⟨by kernel_rfl⟩
instance t1_80 : T1 Tryz.prog 80 := ⟨by kernel_rfl⟩
instance tu81 : TU Tryz.prog 81 (.pointer 204) := ⟨by kernel_rfl⟩
instance t1_81 : T1 Tryz.prog 81 := ⟨by kernel_rfl⟩
instance tu82 : TU Tryz.prog 82 (.pointer 148) := ⟨by kernel_rfl⟩
instance t1_82 : T1 Tryz.prog 82 := ⟨by kernel_rfl⟩
instance tb84 : TB Tryz.prog 84 [(0, 1), (1, 1), (2, 1), (3, 1)] := ⟨by kernel_rfl⟩
instance tf84_0 : TF Tryz.prog 84 0 0 := ⟨by kernel_rfl⟩
instance tf84_1 : TF Tryz.prog 84 1 1 := ⟨by kernel_rfl⟩
instance tf84_2 : TF Tryz.prog 84 2 2 := ⟨by kernel_rfl⟩
instance tz84 : TZ Tryz.prog 84 [.pointer none, .pointer none, .pointer none, .int .i64 0] := ⟨by kernel_rfl⟩
instance tu90 : TU Tryz.prog 90 (.slice 194) := ⟨by kernel_rfl⟩
instance t1_90 : T1 Tryz.prog 90 := ⟨by kernel_rfl⟩
instance te90 : TE Tryz.prog 90 194 129 := ⟨by kernel_rfl⟩
instance tb92 : TB Tryz.prog 92 [(0, 1), (1, 1)] := ⟨by kernel_rfl⟩
instance tf92_0 : TF Tryz.prog 92 0 0 := ⟨by kernel_rfl⟩
instance tf92_1 : TF Tryz.prog 92 1 1 := ⟨by kernel_rfl⟩
instance tz92 : TZ Tryz.prog 92 [.slice none 0 0, .int .i64 0] := ⟨by kernel_rfl⟩
instance tb95 : TB Tryz.prog 95 [(0, 1), (1, 1), (2, 1), (3, 1)] := ⟨by kernel_rfl⟩
instance tg95_1 : TG Tryz.prog 95 1 1 2 := ⟨by kernel_rfl⟩
instance tg95_2 : TG Tryz.prog 95 2 2 2 := ⟨by kernel_rfl⟩
instance tg95_3 : TG Tryz.prog 95 3 3 4 := ⟨by kernel_rfl⟩
instance ta95 : TA Tryz.prog 95 4 := ⟨by kernel_rfl, by kernel_rfl⟩
instance tf95_0 : TF Tryz.prog 95 0 0 := ⟨by kernel_rfl⟩
instance tf95_1 : TF Tryz.prog 95 1 1 := ⟨by kernel_rfl⟩
instance tf95_2 : TF Tryz.prog 95 2 2 := ⟨by kernel_rfl⟩
instance tf95_3 : TF Tryz.prog 95 3 3 := ⟨by kernel_rfl⟩
instance tz95 : TZ Tryz.prog 95 [.int .i64 0, .int .i64 0, .int .i64 0, .bool false] := ⟨by kernel_rfl⟩
instance tu97 : TU Tryz.prog 97 (.pointer 150) := ⟨by kernel_rfl⟩
instance tb102 : TB Tryz.prog 102 [(0, 1), (1, 1), (2, 1), (3, 1)] := ⟨by kernel_rfl⟩
instance tf102_0 : TF Tryz.prog 102 0 0 := ⟨by kernel_rfl⟩
instance tf102_1 : TF Tryz.prog 102 1 1 := ⟨by kernel_rfl⟩
instance tf102_2 : TF Tryz.prog 102 2 2 := ⟨by kernel_rfl⟩
instance tf102_3 : TF Tryz.prog 102 3 3 := ⟨by kernel_rfl⟩
instance tz102 : TZ Tryz.prog 102 [.pointer none, .int .i64 0, .int .i64 0, .int .i64 0] := ⟨by kernel_rfl⟩
instance tu110 : TU Tryz.prog 110 (.int .u64) := ⟨by kernel_rfl⟩
instance t1_110 : T1 Tryz.prog 110 := ⟨by kernel_rfl⟩
instance tu118 : TU Tryz.prog 118 (.slice 224) := ⟨by kernel_rfl⟩
instance t1_118 : T1 Tryz.prog 118 := ⟨by kernel_rfl⟩
instance te118 : TE Tryz.prog 118 224 2 := ⟨by kernel_rfl⟩
instance tb120 : TB Tryz.prog 120 [(0, 1), (1, 1), (2, 1)] := ⟨by kernel_rfl⟩
instance tf120_1 : TF Tryz.prog 120 1 1 := ⟨by kernel_rfl⟩
instance tf120_2 : TF Tryz.prog 120 2 2 := ⟨by kernel_rfl⟩
instance tz120 : TZ Tryz.prog 120 [.int .i64 0, .slice none 0 0, .slice none 0 0] := ⟨by kernel_rfl⟩
instance tu124 : TU Tryz.prog 124 (.pointer 129) := ⟨by kernel_rfl⟩
instance t1_125 : T1 Tryz.prog 125 := ⟨by kernel_rfl⟩
instance tb127 : TB Tryz.prog 127 [(0, 1), (1, 1)] := ⟨by kernel_rfl⟩
instance tf127_0 : TF Tryz.prog 127 0 0 := ⟨by kernel_rfl⟩
instance tf127_1 : TF Tryz.prog 127 1 1 := ⟨by kernel_rfl⟩
instance tz127 : TZ Tryz.prog 127 [.int .i64 0, .map none] := ⟨by kernel_rfl⟩
instance tb129 : TB Tryz.prog 129 [(0, 1), (1, 1)] := ⟨by kernel_rfl⟩
instance tf129_0 : TF Tryz.prog 129 0 0 := ⟨by kernel_rfl⟩
instance tf129_1 : TF Tryz.prog 129 1 1 := ⟨by kernel_rfl⟩
instance tz129 : TZ Tryz.prog 129 [.string ByteArray.empty, .bool false] := ⟨by kernel_rfl⟩
instance tu133 : TU Tryz.prog 133 (.pointer 190) := ⟨by kernel_rfl⟩
instance t1_133 : T1 Tryz.prog 133 := ⟨by kernel_rfl⟩
instance tu134 : TU Tryz.prog 134 (.pointer 183) := ⟨by kernel_rfl⟩
instance t1_134 : T1 Tryz.prog 134 := ⟨by kernel_rfl⟩
instance ts134 : TS Tryz.prog 134 1 := ⟨by kernel_rfl⟩
instance tb136 : TB Tryz.prog 136 [(0, 1), (1, 1)] := ⟨by kernel_rfl⟩
instance tf136_0 : TF Tryz.prog 136 0 0 := ⟨by kernel_rfl⟩
instance tf136_1 : TF Tryz.prog 136 1 1 := ⟨by kernel_rfl⟩
instance tz136 : TZ Tryz.prog 136 [.pointer none, .pointer none] := ⟨by kernel_rfl⟩
instance tu146 : TU Tryz.prog 146 (.pointer 245) := ⟨by kernel_rfl⟩
instance t1_146 : T1 Tryz.prog 146 := ⟨by kernel_rfl⟩
instance tb148 : TB Tryz.prog 148 [(0, 1), (1, 4)] := ⟨by kernel_rfl⟩
instance tf148_0 : TF Tryz.prog 148 0 0 := ⟨by kernel_rfl⟩
instance tf148_1 : TF Tryz.prog 148 1 1 := ⟨by kernel_rfl⟩
instance tz148 : TZ Tryz.prog 148 [.pointer none, .int .i64 0, .int .i64 0, .int .i64 0, .bool false] := ⟨by kernel_rfl⟩
instance tu181 : TU Tryz.prog 181 (.slice 187) := ⟨by kernel_rfl⟩
instance t1_181 : T1 Tryz.prog 181 := ⟨by kernel_rfl⟩
instance te181 : TE Tryz.prog 181 187 4 := ⟨by kernel_rfl⟩
instance tb183 : TB Tryz.prog 183 [(0, 1), (1, 1), (2, 1)] := ⟨by kernel_rfl⟩
instance tf183_0 : TF Tryz.prog 183 0 0 := ⟨by kernel_rfl⟩
instance tf183_1 : TF Tryz.prog 183 1 1 := ⟨by kernel_rfl⟩
instance tf183_2 : TF Tryz.prog 183 2 2 := ⟨by kernel_rfl⟩
instance tz183 : TZ Tryz.prog 183 [.slice none 0 0, .int .i64 0, .int .i64 0] := ⟨by kernel_rfl⟩
instance tby187 : TBy Tryz.prog 187 32 := ⟨by kernel_rfl⟩
instance tb187 : TB Tryz.prog 187 [(0, 1), (1, 1), (2, 1), (3, 1)] := ⟨by kernel_rfl⟩
instance ta187 : TA Tryz.prog 187 4 := ⟨by kernel_rfl, by kernel_rfl⟩
instance tf187_0 : TF Tryz.prog 187 0 0 := ⟨by kernel_rfl⟩
instance tf187_1 : TF Tryz.prog 187 1 1 := ⟨by kernel_rfl⟩
instance tf187_2 : TF Tryz.prog 187 2 2 := ⟨by kernel_rfl⟩
instance tf187_3 : TF Tryz.prog 187 3 3 := ⟨by kernel_rfl⟩
instance tz187 : TZ Tryz.prog 187 [.string ByteArray.empty, .int .i64 0, .bool false, .bool false] := ⟨by kernel_rfl⟩
instance tu188 : TU Tryz.prog 188 (.slice 234) := ⟨by kernel_rfl⟩
instance t1_188 : T1 Tryz.prog 188 := ⟨by kernel_rfl⟩
instance ts188 : TS Tryz.prog 188 1 := ⟨by kernel_rfl⟩
instance te188 : TE Tryz.prog 188 234 1 := ⟨by kernel_rfl⟩
instance tb190 : TB Tryz.prog 190 [(0, 1), (1, 1), (2, 1), (3, 1), (4, 1), (5, 1), (6, 1)] := ⟨by kernel_rfl⟩
instance tf190_0 : TF Tryz.prog 190 0 0 := ⟨by kernel_rfl⟩
instance tf190_1 : TF Tryz.prog 190 1 1 := ⟨by kernel_rfl⟩
instance tf190_2 : TF Tryz.prog 190 2 2 := ⟨by kernel_rfl⟩
instance tf190_3 : TF Tryz.prog 190 3 3 := ⟨by kernel_rfl⟩
instance tf190_4 : TF Tryz.prog 190 4 4 := ⟨by kernel_rfl⟩
instance tf190_5 : TF Tryz.prog 190 5 5 := ⟨by kernel_rfl⟩
instance tf190_6 : TF Tryz.prog 190 6 6 := ⟨by kernel_rfl⟩
instance tz190 : TZ Tryz.prog 190 [.pointer none, .int .i64 0, .int .i64 0, .slice none 0 0, .int .i64 0, .int .i64 0, .bool false] := ⟨by kernel_rfl⟩
instance tu192 : TU Tryz.prog 192 (.array 64 5) := ⟨by kernel_rfl⟩
instance ta192 : TA Tryz.prog 192 64 := ⟨by kernel_rfl, by kernel_rfl⟩
instance tby194 : TBy Tryz.prog 194 129 := ⟨by kernel_rfl⟩
instance tf194_0 : TF Tryz.prog 194 0 0 := ⟨by kernel_rfl⟩
instance tf194_1 : TF Tryz.prog 194 1 64 := ⟨by kernel_rfl⟩
instance tf194_2 : TF Tryz.prog 194 2 128 := ⟨by kernel_rfl⟩
instance tu202 : TU Tryz.prog 202 (.slice 208) := ⟨by kernel_rfl⟩
instance t1_202 : T1 Tryz.prog 202 := ⟨by kernel_rfl⟩
instance ts202 : TS Tryz.prog 202 1 := ⟨by kernel_rfl⟩
instance te202 : TE Tryz.prog 202 208 3 := ⟨by kernel_rfl⟩
instance tb204 : TB Tryz.prog 204 [(0, 1), (1, 1)] := ⟨by kernel_rfl⟩
instance tf204_0 : TF Tryz.prog 204 0 0 := ⟨by kernel_rfl⟩
instance tf204_1 : TF Tryz.prog 204 1 1 := ⟨by kernel_rfl⟩
instance tz204 : TZ Tryz.prog 204 [.pointer none, .slice none 0 0] := ⟨by kernel_rfl⟩
instance tb206 : TB Tryz.prog 206 [(0, 1), (1, 1)] := ⟨by kernel_rfl⟩
instance ta206 : TA Tryz.prog 206 2 := ⟨by kernel_rfl, by kernel_rfl⟩
instance tf206_0 : TF Tryz.prog 206 0 0 := ⟨by kernel_rfl⟩
instance tf206_1 : TF Tryz.prog 206 1 1 := ⟨by kernel_rfl⟩
instance tz206 : TZ Tryz.prog 206 [.int .i64 0, .string ByteArray.empty] := ⟨by kernel_rfl⟩
instance tby208 : TBy Tryz.prog 208 32 := ⟨by kernel_rfl⟩
instance tb208 : TB Tryz.prog 208 [(0, 2), (2, 1)] := ⟨by kernel_rfl⟩
instance ta208 : TA Tryz.prog 208 3 := ⟨by kernel_rfl, by kernel_rfl⟩
instance ts208 : TS Tryz.prog 208 3 := ⟨by kernel_rfl⟩
instance tf208_0 : TF Tryz.prog 208 0 0 := ⟨by kernel_rfl⟩
instance tf208_1 : TF Tryz.prog 208 1 2 := ⟨by kernel_rfl⟩
instance tz208 : TZ Tryz.prog 208 [.int .i64 0, .string ByteArray.empty, .int .i64 0] := ⟨by kernel_rfl⟩
instance tu210 : TU Tryz.prog 210 (.slice 2) := ⟨by kernel_rfl⟩
instance te210 : TE Tryz.prog 210 2 1 := ⟨by kernel_rfl⟩
instance tby224 : TBy Tryz.prog 224 16 := ⟨by kernel_rfl⟩
instance tb224 : TB Tryz.prog 224 [(0, 1), (1, 1)] := ⟨by kernel_rfl⟩
instance ta224 : TA Tryz.prog 224 2 := ⟨by kernel_rfl, by kernel_rfl⟩
instance ts224 : TS Tryz.prog 224 2 := ⟨by kernel_rfl⟩
instance tf224_0 : TF Tryz.prog 224 0 0 := ⟨by kernel_rfl⟩
instance tf224_1 : TF Tryz.prog 224 1 1 := ⟨by kernel_rfl⟩
instance tz224 : TZ Tryz.prog 224 [.int .u64 0, .int .i64 0] := ⟨by kernel_rfl⟩
instance tu225 : TU Tryz.prog 225 (.int .u64) := ⟨by kernel_rfl⟩
instance tu231 : TU Tryz.prog 231 (.slice 241) := ⟨by kernel_rfl⟩
instance t1_231 : T1 Tryz.prog 231 := ⟨by kernel_rfl⟩
instance ts231 : TS Tryz.prog 231 1 := ⟨by kernel_rfl⟩
instance te231 : TE Tryz.prog 231 241 2 := ⟨by kernel_rfl⟩
instance tb233 : TB Tryz.prog 233 [(0, 1), (1, 1), (2, 1), (3, 1), (4, 1)] := ⟨by kernel_rfl⟩
instance tf233_0 : TF Tryz.prog 233 0 0 := ⟨by kernel_rfl⟩
instance tf233_1 : TF Tryz.prog 233 1 1 := ⟨by kernel_rfl⟩
instance tf233_3 : TF Tryz.prog 233 3 3 := ⟨by kernel_rfl⟩
instance tf233_4 : TF Tryz.prog 233 4 4 := ⟨by kernel_rfl⟩
instance tz233 : TZ Tryz.prog 233 [.int .i64 0, .int .i64 0, .int .i64 0, .slice none 0 0, .slice none 0 0] := ⟨by kernel_rfl⟩
instance tu234 : TU Tryz.prog 234 (.pointer 233) := ⟨by kernel_rfl⟩
instance tby234 : TBy Tryz.prog 234 8 := ⟨by kernel_rfl⟩
instance t1_234 : T1 Tryz.prog 234 := ⟨by kernel_rfl⟩
instance ts234 : TS Tryz.prog 234 1 := ⟨by kernel_rfl⟩
instance tz234 : TZ Tryz.prog 234 [.pointer none] := ⟨by kernel_rfl⟩
instance tu235 : TU Tryz.prog 235 (.array 8 5) := ⟨by kernel_rfl⟩
instance tz235 : TZ Tryz.prog 235 [.int .u8 0, .int .u8 0, .int .u8 0, .int .u8 0, .int .u8 0, .int .u8 0, .int .u8 0, .int .u8 0] := ⟨by kernel_rfl⟩
instance tby241 : TBy Tryz.prog 241 32 := ⟨by kernel_rfl⟩
instance tb241 : TB Tryz.prog 241 [(0, 1), (1, 1)] := ⟨by kernel_rfl⟩
instance ta241 : TA Tryz.prog 241 2 := ⟨by kernel_rfl, by kernel_rfl⟩
instance ts241 : TS Tryz.prog 241 2 := ⟨by kernel_rfl⟩
instance tf241_0 : TF Tryz.prog 241 0 0 := ⟨by kernel_rfl⟩
instance tf241_1 : TF Tryz.prog 241 1 1 := ⟨by kernel_rfl⟩
instance tz241 : TZ Tryz.prog 241 [.int .i64 0, .slice none 0 0] := ⟨by kernel_rfl⟩
instance tb245 : TB Tryz.prog 245 [(0, 1), (1, 1), (2, 1), (3, 1), (4, 1)] := ⟨by kernel_rfl⟩
instance tf245_0 : TF Tryz.prog 245 0 0 := ⟨by kernel_rfl⟩
instance tf245_1 : TF Tryz.prog 245 1 1 := ⟨by kernel_rfl⟩
instance tf245_2 : TF Tryz.prog 245 2 2 := ⟨by kernel_rfl⟩
instance tf245_3 : TF Tryz.prog 245 3 3 := ⟨by kernel_rfl⟩
instance tf245_4 : TF Tryz.prog 245 4 4 := ⟨by kernel_rfl⟩
instance tz245 : TZ Tryz.prog 245 [.pointer none, .int .i64 0, .int .i64 0, .slice none 0 0, .int .i64 0] := ⟨by kernel_rfl⟩
instance tu271 : TU Tryz.prog 271 (.int .u32) := ⟨by kernel_rfl⟩
instance tu294 : TU Tryz.prog 294 (.slice 30) := ⟨by kernel_rfl⟩
instance te294 : TE Tryz.prog 294 30 1 := ⟨by kernel_rfl⟩
instance tu303 : TU Tryz.prog 303 (.pointer 2) := ⟨by kernel_rfl⟩
instance t1_303 : T1 Tryz.prog 303 := ⟨by kernel_rfl⟩
instance tz303 : TZ Tryz.prog 303 [.pointer none] := ⟨by kernel_rfl⟩
instance tu323 : TU Tryz.prog 323 (.slice 303) := ⟨by kernel_rfl⟩
instance te323 : TE Tryz.prog 323 303 1 := ⟨by kernel_rfl⟩
end Go.Proofs.YtoiakcgdkegncaaGreat

namespace Go.Proofs.YtoiakcgdkegncaaGreat
open Go.RowKit Ice
attribute [local irreducible] CC RR Tr
theorem mixed : Tryz.prog.follows .mixedOrders = true := by kernel_rfl
theorem und_str : spv Tryz.prog (underlying 9) = some .string := by rw [spv_underlying]; kernel_rfl
/-- bytes.Clone -/
theorem clone_tr (b E o m cap : Nat) (cs : List Value) (bs : List UInt8) (hc : (cs.drop o).take m = bv bs) (hm : o + m ≤ cs.length) (hb : bs.length = m) (hz : m ≤ 2 ^ 30) :
    Tr Tryz.prog 146 #[.slice (some ⟨b, o, none⟩) m cap] (bl b E cs) (fun v => slR v 5 1 m (bv bs) * bl b E cs) := by
  refine tr_body Tryz.func146 (by kernel_rfl) rfl Tryz.ntmps146 rfl (L := [(0, .slice (some ⟨b, o, none⟩) m cap)]) (covers_cons rfl covers_nil) rfl ?_
  intro F w0 f
  refine cc_seq ?_
  refine cc_region ?_
  refine rr_assign rfl rfl ?_
  refine rr_nil ?_
  refine cc_seq ?_
  refine cc_seq ?_
  refine cc_region ?_
  refine rr_move rfl rfl ?_
  refine r_snil rfl rfl rfl ?_
  refine rr_nil ?_
  refine cc_condF rfl ?_
  refine cc_skip ?_
  refine cc_seq ?_
  refine cc_region ?_
  refine r_bsl0 rfl (sd0 rfl) (fun _ => sd0 rfl) (fun p3_0 => ?_)
  refine rr_move rfl rfl ?_
  refine r_app (m := 0) (xs := []) (k' := m) (ys := bv bs) rfl rfl (.inl (by rw [spv_underlying]; kernel_rfl)) inferInstance rfl (fun w sa => src_of sa (by omega) (by simpa using hc)) (by simp [hb]) (bv_one _) (by omega) (by omega) (by omega) rfl (sd0 rfl) (fun _ => sd0 rfl) (fun v => ?_)
  refine rr_assign rfl rfl ?_
  refine rr_nil ?_
  refine cc_ret ?_
  exact ⟨_, rfl, by simpa using entW_fr⟩
end Go.Proofs.YtoiakcgdkegncaaGreat

namespace Go.Proofs.YtoiakcgdkegncaaGreat
open Go.RowKit Ice
attribute [local irreducible] CC RR Tr
def crcStep (x : UInt32) : UInt32 := (x >>> 1) ^^^ (3988292384 &&& (0 - (x &&& 1)))
def crcN : Nat → UInt32 → UInt32
  | 0, y => y
  | k + 1, y => crcStep (crcN k y)
def crcB (x : UInt32) (c : UInt8) : UInt32 := crcN 8 (x ^^^ c.toUInt32)
def crcF (bs : List UInt8) : UInt32 := bs.foldl crcB 4294967295
/-- the sum of bytes -/
def crcL (bs : List UInt8) : UInt32 := 4294967295 ^^^ crcF bs
abbrev vS (b o m cap : Nat) : Value := .slice (some ⟨b, o, none⟩) m cap
abbrev i64 (n : Int) : Value := .int .i64 n
abbrev u32V (x : UInt32) : Value := .int .u32 (x.toNat : Int)
theorem crc_step_int (x : UInt32) : IntKind.wrap .u32 ((BitVec.ofInt (IntKind.bits .u32) (Int.fdiv (x.toNat : Int) (2 ^ (min (Int.toNat 1) (IntKind.bits .u32)))) ^^^ BitVec.ofInt (IntKind.bits .u32) (IntKind.wrap .u32 ((BitVec.ofInt (IntKind.bits .u32) 3988292384 &&&
    BitVec.ofInt (IntKind.bits .u32) (IntKind.wrap .u32 (0 - IntKind.wrap .u32 ((BitVec.ofInt (IntKind.bits .u32) (x.toNat : Int) &&& BitVec.ofInt (IntKind.bits .u32) 1).toNat : Int)))).toNat : Int))).toNat : Int) = (crcStep x).toNat := by
  have h1 := ku32_and x 1
  have h2 := ku32_neg (x &&& 1)
  have h3 := ku32_and 3988292384 (0 - (x &&& 1))
  have h4 := ku32_xor (x >>> 1) (3988292384 &&& (0 - (x &&& 1)))
  rw [ku32_shr1]
  rw [show BitVec.ofInt (IntKind.bits .u32) 1 = BitVec.ofInt (IntKind.bits .u32) ((1 : UInt32).toNat : Int) from rfl, h1, h2]
  rw [show BitVec.ofInt (IntKind.bits .u32) 3988292384 = BitVec.ofInt (IntKind.bits .u32) ((3988292384 : UInt32).toNat : Int) from rfl, h3, h4]
  rfl
theorem crc_end_int (x : UInt32) : IntKind.wrap .u32 ((BitVec.ofInt (IntKind.bits .u32) (if IntKind.signed .u32 then -1 else IntKind.max .u32) ^^^ BitVec.ofInt (IntKind.bits .u32) (x.toNat : Int)).toNat : Int) = (4294967295 ^^^ x).toNat :=
  ku32_xor 4294967295 x
theorem foldl_take_succ {α β : Type} (g : β → α → β) (z : β) {l : List α} {j : Nat} {c : α} (h : l[j]? = some c) : (l.take (j + 1)).foldl g z = g ((l.take j).foldl g z) c := by
  rw [List.take_add_one, h]; simp
theorem sum_tr (b p o m cap c2 E : Nat) (cs : List Value) (bs : List UInt8) (hb : bs.length = m) (hz : m ≤ 2 ^ 30) (hc : ∀ j, j < m → nth cs (o + j) = nth (bv bs) j) :
    Tr Tryz.prog 171 #[vS p 0 1 c2] (bl p 30 [vS b o m cap] * bl b E cs) (fun v => pu (v = u32V (crcL bs)) * (bl p 30 [vS b o m cap] * bl b E cs)) := by
  refine tr_body Tryz.func171 (by kernel_rfl) rfl Tryz.ntmps171 rfl (L := [(0, vS p 0 1 c2)]) (covers_cons rfl covers_nil) rfl ?_
  intro F w0 f
  refine cc_seq ?_
  refine cc_region ?_
  refine rr_assign rfl rfl ?_
  refine rr_nil ?_
  refine cc_seq ?_
  refine cc_region ?_
  refine rr_assign rfl rfl ?_
  refine rr_nil ?_
  refine cc_seq ?_
  refine cc_seq ?_
  refine cc_region ?_
  refine rr_move rfl rfl ?_
  refine r_lens rfl rfl ?_
  refine rr_move rfl rfl ?_
  refine rr_nil ?_
  refine cc_block ?_
  refine cc_loopW (α := Nat) (fun i => [(3, u32V (if i = 0 then 4294967295 else crcF bs)), (10, i64 i), (9, i64 1), (8, vS p 0 1 c2)]) (fun i => pu (i ≤ 1) * (bl p 30 [vS b o m cap] * bl b E cs * F)) (fun i => 1 - i) (0) (by repeat' (first | exact covers_nil | (refine covers_cons ?_ ?_; · first | rfl | (simp [lk, lk?]; done)))) (by exact entW_pu (by omega) entW_fr) ?_
  rintro i f
  refine CC.pu fun hi => ?_
  refine cc_seq ?_
  refine cc_region ?_
  refine r_int rfl rfl rfl rfl ?_
  refine rr_nil ?_
  refine cc_seq ?_
  refine cc_cond rfl (fun h11 => ?_) (fun h11 => ?_)
  · try simp only [decide_eq_true_eq, decide_eq_false_iff_not, beq_iff_eq, beq_eq_false_iff_ne, bne_iff_ne, bne_eq_false_iff_eq, ne_eq, Bool.not_eq_eq_eq_not, Bool.not_true, Bool.not_false] at h11
    obtain rfl : i = 0 := by omega
    refine cc_skip ?_
    refine cc_seq ?_
    refine cc_block ?_
    refine cc_seq ?_
    refine cc_region ?_
    refine r_ix rfl rfl rfl (by omega) ?_
    refine r_ld rfl (ls0 rfl) rfl rfl ?_
    refine rr_assign rfl rfl ?_
    refine rr_nil ?_
    refine cc_seq ?_
    refine cc_region ?_
    refine rr_move rfl rfl ?_
    refine r_lens rfl rfl ?_
    refine rr_move rfl rfl ?_
    refine rr_nil ?_
    refine cc_block ?_
    refine cc_loopW (α := Nat) (fun j => [(3, u32V ((bs.take j).foldl crcB 4294967295)), (10, i64 0), (9, i64 1), (8, vS p 0 1 c2), (16, i64 j), (15, i64 m), (14, vS b o m cap)]) (fun j => pu (j ≤ m) * (bl p 30 [vS b o m cap] * bl b E cs * F)) (fun j => m - j) (0) (by repeat' (first | exact covers_nil | (refine covers_cons ?_ ?_; · first | rfl | (simp [lk, lk?]; done)))) (by exact entW_pu (by omega) entW_fr) ?_
    rintro j f
    refine CC.pu fun hj => ?_
    refine cc_seq ?_
    refine cc_region ?_
    refine r_int rfl rfl rfl rfl ?_
    refine rr_nil ?_
    refine cc_seq ?_
    refine cc_cond rfl (fun h17 => ?_) (fun h17 => ?_)
    · try simp only [decide_eq_true_eq, decide_eq_false_iff_not, beq_iff_eq, beq_eq_false_iff_ne, bne_iff_ne, bne_eq_false_iff_eq, ne_eq, Bool.not_eq_eq_eq_not, Bool.not_true, Bool.not_false] at h17
      have hj2 : j < m := by omega
      obtain ⟨c, hcj⟩ : ∃ c, bs[j]? = some c := ⟨bs[j]'(by omega), List.getElem?_eq_getElem (by omega)⟩
      have hv : nth cs (o + (j : Int).toNat * 1) = some (.int .u8 c.toNat) := by rw [show o + (j : Int).toNat * 1 = o + j by simp, hc j hj2, bv_get hcj]
      refine cc_skip ?_
      refine cc_seq ?_
      refine cc_block ?_
      refine cc_seq ?_
      refine cc_region ?_
      refine r_ix rfl rfl rfl (by omega) ?_
      refine r_ld rfl (ls0 rfl) hv rfl ?_
      refine rr_assign rfl rfl ?_
      refine rr_nil ?_
      refine cc_seq ?_
      refine cc_region ?_
      refine rr_move rfl rfl ?_
      refine rr_move rfl rfl ?_
      refine r_conv rfl rfl ?_
      refine r_int rfl rfl rfl rfl ?_
      refine rr_assign rfl rfl ?_
      refine rr_nil ?_
      refine cc_seq ?_
      refine cc_region ?_
      refine rr_move rfl rfl ?_
      refine rr_nil ?_
      refine cc_block ?_
      refine cc_loopW (α := Nat) (fun k => [(3, u32V (crcN k ((bs.take j).foldl crcB 4294967295 ^^^ c.toUInt32))), (24, i64 k), (10, i64 0), (9, i64 1), (8, vS p 0 1 c2), (16, i64 j), (15, i64 m), (14, vS b o m cap)]) (fun k => pu (k ≤ 8) * (bl p 30 [vS b o m cap] * bl b E cs * F)) (fun k => 8 - k) (0) (by repeat' (first | exact covers_nil | (refine covers_cons ?_ ?_; · first | rfl | (simp [lk, lk?]; done) | (refine congrArg (Value.int _) ?_; rw [ku8_u32, ku32_xor]; rfl)))) (by exact entW_pu (by omega) entW_fr) ?_
      rintro k f
      refine CC.pu fun hk => ?_
      refine cc_seq ?_
      refine cc_region ?_
      refine r_int rfl rfl rfl rfl ?_
      refine rr_nil ?_
      refine cc_seq ?_
      refine cc_cond rfl (fun h25 => ?_) (fun h25 => ?_)
      · try simp only [decide_eq_true_eq, decide_eq_false_iff_not, beq_iff_eq, beq_eq_false_iff_ne, bne_iff_ne, bne_eq_false_iff_eq, ne_eq, Bool.not_eq_eq_eq_not, Bool.not_true, Bool.not_false] at h25
        refine cc_skip ?_
        refine cc_seq ?_
        refine cc_block ?_
        refine cc_region ?_
        refine rr_move rfl rfl ?_
        refine r_shr rfl rfl rfl (by omega) ?_
        refine rr_move rfl rfl ?_
        refine r_int rfl rfl rfl rfl ?_
        refine r_neg rfl rfl ?_
        refine r_int rfl rfl rfl rfl ?_
        refine r_int rfl rfl rfl rfl ?_
        refine rr_assign rfl rfl ?_
        refine rr_nil ?_
        refine cc_region ?_
        refine r_add rfl rfl rfl (by omega) ?_
        refine rr_move rfl rfl ?_
        refine rr_nil ?_
        exact ⟨k + 1, by omega, by repeat' (first | exact covers_nil | (refine covers_cons ?_ ?_; · first | rfl | (simp [lk, lk?]; done) | (refine congrArg (Value.int _) ?_; exact crc_step_int _))), entW_pu (by omega) entW_fr⟩
      · try simp only [decide_eq_true_eq, decide_eq_false_iff_not, beq_iff_eq, beq_eq_false_iff_ne, bne_iff_ne, bne_eq_false_iff_eq, ne_eq, Bool.not_eq_eq_eq_not, Bool.not_true, Bool.not_false] at h25
        obtain rfl : k = 8 := by omega
        refine cc_exit ?_
        refine cc_region ?_
        refine r_add rfl rfl rfl (by omega) ?_
        refine rr_move rfl rfl ?_
        refine rr_nil ?_
        exact ⟨j + 1, by omega, by repeat' (first | exact covers_nil | (refine covers_cons ?_ ?_; · first | rfl | (simp [lk, lk?]; done) | (refine congrArg (Value.int _) ?_; rw [foldl_take_succ _ _ hcj]; rfl))), entW_pu (by omega) entW_fr⟩
    · try simp only [decide_eq_true_eq, decide_eq_false_iff_not, beq_iff_eq, beq_eq_false_iff_ne, bne_iff_ne, bne_eq_false_iff_eq, ne_eq, Bool.not_eq_eq_eq_not, Bool.not_true, Bool.not_false] at h17
      obtain rfl : j = m := by omega
      refine cc_exit ?_
      refine cc_region ?_
      refine r_add rfl rfl rfl (by omega) ?_
      refine rr_move rfl rfl ?_
      refine rr_nil ?_
      exact ⟨1, by omega, by repeat' (first | exact covers_nil | (refine covers_cons ?_ ?_; · first | rfl | (simp [lk, lk?]; done) | (refine congrArg (Value.int _) ?_; rw [List.take_of_length_le (by omega)]; rfl))), entW_pu (by omega) entW_fr⟩
  · try simp only [decide_eq_true_eq, decide_eq_false_iff_not, beq_iff_eq, beq_eq_false_iff_ne, bne_iff_ne, bne_eq_false_iff_eq, ne_eq, Bool.not_eq_eq_eq_not, Bool.not_true, Bool.not_false] at h11
    obtain rfl : i = 1 := by omega
    refine cc_exit ?_
    refine cc_seq ?_
    refine cc_region ?_
    refine rr_move rfl rfl ?_
    refine r_xor rfl rfl ?_
    refine rr_assign rfl rfl ?_
    refine rr_nil ?_
    refine cc_ret ?_
    exact ⟨_, rfl, entW_pu2 (congrArg (Value.int _) (crc_end_int _)) entW_fr⟩
end Go.Proofs.YtoiakcgdkegncaaGreat

namespace Go.Proofs.YtoiakcgdkegncaaGreat
open Go.RowKit Ice
attribute [local irreducible] CC RR Tr
abbrev Txt := List UInt8
abbrev str (l : Txt) : Value := .string ⟨l.toArray⟩
abbrev u64V (x : UInt64) : Value := .int .u64 (x.toNat : Int)
abbrev u8V (x : UInt8) : Value := .int .u8 (x.toNat : Int)
abbrev unit : Value := .tuple #[]
theorem txt_get {l : Txt} {i : Nat} {c : UInt8} (h : l[i]? = some c) : (⟨l.toArray⟩ : ByteArray)[((i : Nat) : Int).toNat]? = some c := by
  have hi : i < l.length := by
    rcases Nat.lt_or_ge i l.length with h' | h'
    · exact h'
    · simp [List.getElem?_eq_none h'] at h
  have hs : i < (⟨l.toArray⟩ : ByteArray).size := by simpa [ByteArray.size] using hi
  have e : (⟨l.toArray⟩ : ByteArray)[i]? = some ((⟨l.toArray⟩ : ByteArray)[i]'hs) := getElem?_pos _ i hs
  rw [Int.toNat_natCast, e]
  congr 1
  rw [List.getElem?_eq_getElem hi] at h
  simp only [Option.some.injEq] at h
  rw [← h]; rfl
theorem lt_get {α : Type} {l : List α} {j : Nat} (h : j < l.length) : ∃ c, l[j]? = some c := ⟨l[j], List.getElem?_eq_getElem h⟩
def stir1 (x : UInt64) : UInt64 := (x ^^^ (x >>> 30)) * 13787848793156543929
def stir2 (x : UInt64) : UInt64 := (x ^^^ (x >>> 27)) * 10723151780598845931
def stir (x : UInt64) : UInt64 := stir2 (stir1 x) ^^^ (stir2 (stir1 x) >>> 31)
def mixC (h : UInt64) (c : UInt8) : UInt64 := stir (h ^^^ c.toUInt64) + 1
/-- a key's hash -/
def mixOf (k : Txt) : UInt64 := stir (k.foldl mixC 11400714819323198485 ^^^ (256 + UInt64.ofNat k.length))
theorem stir_tr (x : UInt64) : Tr Tryz.prog 91 #[u64V x] 1 (fun v => pu (v = u64V (stir x))) := by
  refine tr_body Tryz.func91 (by kernel_rfl) rfl Tryz.ntmps91 rfl (L := [(0, u64V x)]) (covers_cons rfl covers_nil) rfl ?_
  intro F w0 f
  rw [sl_one_mul]
  refine cc_seq ?_
  refine cc_region ?_
  refine rr_assign rfl rfl ?_
  refine rr_nil ?_
  refine cc_seq ?_
  refine cc_region ?_
  refine rr_move rfl rfl ?_
  refine rr_move rfl rfl ?_
  refine r_shr rfl rfl rfl (by omega) ?_
  refine r_int rfl rfl rfl rfl ?_
  refine r_int rfl rfl rfl rfl ?_
  rw [ku64_shr30, ku64_xor, show (13787848793156543929 : Int) = ((13787848793156543929 : UInt64).toNat : Int) from rfl, ku64_mul]
  refine rr_assign rfl rfl ?_
  refine rr_nil ?_
  refine cc_seq ?_
  refine cc_region ?_
  refine rr_move rfl rfl ?_
  refine rr_move rfl rfl ?_
  refine r_shr rfl rfl rfl (by omega) ?_
  refine r_int rfl rfl rfl rfl ?_
  refine r_int rfl rfl rfl rfl ?_
  rw [ku64_shr27, ku64_xor, show (10723151780598845931 : Int) = ((10723151780598845931 : UInt64).toNat : Int) from rfl, ku64_mul]
  refine rr_assign rfl rfl ?_
  refine rr_nil ?_
  refine cc_seq ?_
  refine cc_region ?_
  refine rr_move rfl rfl ?_
  refine rr_move rfl rfl ?_
  refine r_shr rfl rfl rfl (by omega) ?_
  refine r_int rfl rfl rfl rfl ?_
  rw [ku64_shr31, ku64_xor]
  refine rr_assign rfl rfl ?_
  refine rr_nil ?_
  refine cc_ret ?_
  exact ⟨_, rfl, entW_pu rfl entW_fr⟩
attribute [local irreducible] stir
theorem mix_end_int (h : UInt64) (n : Nat) : IntKind.wrap .u64 ((BitVec.ofInt (IntKind.bits .u64) (h.toNat : Int) ^^^ BitVec.ofInt (IntKind.bits .u64) (IntKind.wrap .u64 (256 + IntKind.wrap .u64 (n : Int)))).toNat : Int) = (h ^^^ (256 + UInt64.ofNat n)).toNat := by
  have h1 := ku64_add 256 (UInt64.ofNat n)
  rw [ku64_of]
  exact (congrArg (fun z => IntKind.wrap .u64 ((BitVec.ofInt (IntKind.bits .u64) (h.toNat : Int) ^^^ BitVec.ofInt (IntKind.bits .u64) z).toNat : Int)) h1).trans (ku64_xor h (256 + UInt64.ofNat n))
theorem mixOf_tr (p c2 : Nat) (k : Txt) (hk : k.length ≤ 2 ^ 30) : Tr Tryz.prog 44 #[vS p 0 1 c2] (bl p 9 [str k]) (fun v => pu (v = u64V (mixOf k)) * bl p 9 [str k]) := by
  refine tr_body Tryz.func44 (by kernel_rfl) rfl Tryz.ntmps44 rfl (L := [(0, vS p 0 1 c2)]) (covers_cons rfl covers_nil) rfl ?_
  intro F w0 f
  refine cc_seq ?_
  refine cc_region ?_
  refine rr_assign rfl rfl ?_
  refine rr_nil ?_
  refine cc_seq ?_
  refine cc_region ?_
  refine rr_assign rfl rfl ?_
  refine rr_nil ?_
  refine cc_seq ?_
  refine cc_seq ?_
  refine cc_region ?_
  refine rr_move rfl rfl ?_
  refine r_lens rfl rfl ?_
  refine rr_move rfl rfl ?_
  refine rr_nil ?_
  refine cc_block ?_
  refine cc_loopW (α := Nat) (fun i => [(3, u64V (if i = 0 then 11400714819323198485 else mixOf k)), (9, i64 i), (8, i64 1), (7, vS p 0 1 c2)]) (fun i => pu (i ≤ 1) * (bl p 9 [str k] * F)) (fun i => 1 - i) (0) (by repeat' (first | exact covers_nil | (refine covers_cons ?_ ?_; · first | rfl | (simp [lk, lk?]; done)))) (by exact entW_pu (by omega) entW_fr) ?_
  rintro i f
  refine CC.pu fun hi => ?_
  refine cc_seq ?_
  refine cc_region ?_
  refine r_int rfl rfl rfl rfl ?_
  refine rr_nil ?_
  refine cc_seq ?_
  refine cc_cond rfl (fun h10 => ?_) (fun h10 => ?_)
  · try simp only [decide_eq_true_eq, decide_eq_false_iff_not, beq_iff_eq, beq_eq_false_iff_ne, bne_iff_ne, bne_eq_false_iff_eq, ne_eq, Bool.not_eq_eq_eq_not, Bool.not_true, Bool.not_false] at h10
    obtain rfl : i = 0 := by omega
    refine cc_skip ?_
    refine cc_seq ?_
    refine cc_block ?_
    refine cc_seq ?_
    refine cc_region ?_
    refine r_ix rfl rfl rfl (by omega) ?_
    refine r_ld rfl (ls0 rfl) rfl rfl ?_
    refine rr_assign rfl rfl ?_
    refine rr_nil ?_
    refine cc_seq ?_
    refine cc_seq ?_
    refine cc_region ?_
    refine rr_move rfl rfl ?_
    first | refine r_lenx rfl rfl ?_ | refine r_lent rfl rfl ?_
    refine rr_move rfl rfl ?_
    refine rr_nil ?_
    refine cc_block ?_
    refine cc_loopW (α := Nat) (fun j => [(3, u64V ((k.take j).foldl mixC 11400714819323198485)), (9, i64 0), (8, i64 1), (7, vS p 0 1 c2), (5, str k), (15, i64 j), (14, i64 k.length)]) (fun j => pu (j ≤ k.length) * (bl p 9 [str k] * F)) (fun j => k.length - j) (0) (by repeat' (first | exact covers_nil | (refine covers_cons ?_ ?_; · first | rfl | (simp [lk, lk?]; done)))) (by exact entW_pu (by omega) entW_fr) ?_
    rintro j f
    refine CC.pu fun hj => ?_
    refine cc_seq ?_
    refine cc_region ?_
    refine r_int rfl rfl rfl rfl ?_
    refine rr_nil ?_
    refine cc_seq ?_
    refine cc_cond rfl (fun h16 => ?_) (fun h16 => ?_)
    · try simp only [decide_eq_true_eq, decide_eq_false_iff_not, beq_iff_eq, beq_eq_false_iff_ne, bne_iff_ne, bne_eq_false_iff_eq, ne_eq, Bool.not_eq_eq_eq_not, Bool.not_true, Bool.not_false] at h16
      obtain ⟨c, hc⟩ := lt_get (l := k) (j := j) (by omega)
      refine cc_skip ?_
      refine cc_seq ?_
      refine cc_block ?_
      refine cc_seq ?_
      refine cc_region ?_
      refine rr_move rfl rfl ?_
      refine rr_assign rfl rfl ?_
      refine rr_nil ?_
      refine cc_region ?_
      refine rr_move rfl rfl ?_
      refine rr_move rfl rfl ?_
      refine rr_move rfl rfl ?_
      refine r_ixt rfl rfl rfl (by omega) (txt_get hc) ?_
      refine r_conv rfl rfl ?_
      refine r_int rfl rfl rfl rfl ?_
      rw [ku8_u64, ku64_xor]
      refine rr_call rfl rfl rfl rfl (stir_tr _) inferInstance rfl (sd0 rfl) (fun _ => sd0 rfl) rfl (fun v => ?_)
      first | refine RR.pu2 ?_ | refine RR.pu ?_
      rintro rfl
      refine r_int rfl rfl rfl rfl ?_
      refine rr_assign rfl rfl ?_
      refine rr_nil ?_
      refine cc_region ?_
      refine r_add rfl rfl rfl (by omega) ?_
      refine rr_move rfl rfl ?_
      refine rr_nil ?_
      exact ⟨j + 1, by omega, by repeat' (first | exact covers_nil | (refine covers_cons ?_ ?_; · first | rfl | (simp [lk, lk?]; done) | (refine congrArg (Value.int _) ?_; rw [foldl_take_succ _ _ hc]; exact ku64_add _ 1))), entW_pu (by omega) entW_fr⟩
    · try simp only [decide_eq_true_eq, decide_eq_false_iff_not, beq_iff_eq, beq_eq_false_iff_ne, bne_iff_ne, bne_eq_false_iff_eq, ne_eq, Bool.not_eq_eq_eq_not, Bool.not_true, Bool.not_false] at h16
      obtain rfl : j = k.length := by omega
      refine cc_exit ?_
      refine cc_region ?_
      refine rr_move rfl rfl ?_
      refine rr_move rfl rfl ?_
      first | refine r_lenx rfl rfl ?_ | refine r_lent rfl rfl ?_
      refine r_conv rfl rfl ?_
      refine r_int rfl rfl rfl rfl ?_
      refine r_int rfl rfl rfl rfl ?_
      rw [mix_end_int]
      refine rr_call rfl rfl rfl rfl (stir_tr _) inferInstance rfl (sd0 rfl) (fun _ => sd0 rfl) rfl (fun v => ?_)
      first | refine RR.pu2 ?_ | refine RR.pu ?_
      rintro rfl
      refine rr_assign rfl rfl ?_
      refine rr_nil ?_
      refine cc_region ?_
      refine r_add rfl rfl rfl (by omega) ?_
      refine rr_move rfl rfl ?_
      refine rr_nil ?_
      exact ⟨1, by omega, by repeat' (first | exact covers_nil | (refine covers_cons ?_ ?_; · first | rfl | (simp [lk, lk?]; done) | (refine congrArg (Value.int _) ?_; rw [List.take_of_length_le (Nat.le_refl _)]; rfl))), entW_pu (by omega) entW_fr⟩
  · try simp only [decide_eq_true_eq, decide_eq_false_iff_not, beq_iff_eq, beq_eq_false_iff_ne, bne_iff_ne, bne_eq_false_iff_eq, ne_eq, Bool.not_eq_eq_eq_not, Bool.not_true, Bool.not_false] at h10
    obtain rfl : i = 1 := by omega
    refine cc_exit ?_
    refine cc_seq ?_
    refine cc_region ?_
    refine rr_move rfl rfl ?_
    refine rr_assign rfl rfl ?_
    refine rr_nil ?_
    refine cc_ret ?_
    exact ⟨_, rfl, entW_pu2 rfl entW_fr⟩
/-- a node's point -/
def mixPoint (node i : Nat) : UInt64 := stir (UInt64.ofNat (node * 1000003 + i))
theorem point_tr (node i : Nat) (h1 : node ≤ 2 ^ 20) (h2 : i ≤ 2 ^ 20) : Tr Tryz.prog 159 #[i64 node, i64 i] 1 (fun v => pu (v = u64V (mixPoint node i))) := by
  refine tr_body Tryz.func159 (by kernel_rfl) rfl Tryz.ntmps159 rfl (L := [(0, i64 node), (1, i64 i)]) (covers_cons rfl (covers_cons rfl covers_nil)) rfl ?_
  intro F w0 f
  rw [sl_one_mul]
  refine cc_seq ?_
  refine cc_region ?_
  refine rr_assign rfl rfl ?_
  refine rr_nil ?_
  refine cc_seq ?_
  refine cc_region ?_
  refine rr_move rfl rfl ?_
  refine r_mul rfl rfl rfl (by omega) ?_
  refine rr_move rfl rfl ?_
  refine r_add rfl rfl rfl (by omega) ?_
  refine r_conv rfl rfl ?_
  rw [show (node : Int) * 1000003 + i = ((node * 1000003 + i : Nat) : Int) by simp, ku64_of]
  refine rr_call rfl rfl rfl rfl (stir_tr _) inferInstance rfl (sd0 rfl) (fun _ => sd0 rfl) rfl (fun v => ?_)
  first | refine RR.pu2 ?_ | refine RR.pu ?_
  rintro rfl
  refine rr_assign rfl rfl ?_
  refine rr_nil ?_
  refine cc_ret ?_
  exact ⟨_, rfl, entW_pu rfl entW_fr⟩
end Go.Proofs.YtoiakcgdkegncaaGreat

