/-
  THE EVALUATOR's KIT, twenty-seventh part: functions: the entry, the return, the contract. Plain theorems over any program; the conditions stand in each.
-/
import Derived.Test.YtiojlennpdmapaaGreatEVz
set_option linter.unusedVariables false
set_option linter.unusedSimpArgs false
namespace Go.EV
open Go.RowKit Go.VK
variable {U : Uni} {Y : Lay U} {TI : List (Nat × TInfo)} {FZ : List (Nat × Sum U)} {P : Program} {g : GI} {E : Env g}

section
variable {s : St U} {a : Act} {w w0 : World} {β : List Tr}
theorem resV_mean (hti : tiOk P TI = true) (r : Rel Y.C E s a w β) {x : ResultVar} {y : Sv U} (h : resV TI s x = some y) : ∃ v, (resM P w a.tmps x).run P w = .ok v w ∧ y.mean Y.C w (E.X β) β s.m v := by
  cases x with
  | tmp n => exact ⟨_, by simp [resM], r.tm n y (by rw [← nth_eq]; exact h)⟩
  | cell c t =>
    simp only [resV] at h
    split at h
    · rename_i b i h1 h2
      have hl : load Y s i (.box b 0) = some y := h
      have hmb : (Lf.box b 0 : Lf U).mean Y.C w (E.X β) β s.m (a.tmps.getD c undef) := r.tm c (.l (.box b 0)) (by rw [← nth_eq]; exact h1)
      obtain ⟨p, v', k1, k2, k3⟩ := load_mean r (tiOk_at hti h2) hmb hl
      exact ⟨v', by simp only [resM, k1, asAddr, Sem.run_bind, Sem.run_pure, Result.andThen_ok, k2 w (Ext.refl w)], k3⟩
    · cases h
theorem resVs_mean (hti : tiOk P TI = true) (r : Rel Y.C E s a w β) : ∀ {l : List ResultVar} {xs : List (Sv U)}, resVs TI s l = some xs → ∃ vs : List Value, (l.mapM (resM P w a.tmps)).run P w = .ok vs w ∧ vs.length = xs.length ∧ ∀ (i : Nat) (v : Value) (x : Sv U), vs[i]? = some v → xs[i]? = some x → x.mean Y.C w (E.X β) β s.m v
  | [], xs, h => by
    have := Option.some.inj h; subst this
    exact ⟨[], rfl, rfl, by simp⟩
  | x :: l, xs, h => by
    simp only [resVs] at h
    cases h1 : resV TI s x with
    | none => rw [h1] at h; cases h
    | some y =>
      cases h2 : resVs TI s l with
      | none => rw [h1, h2] at h; cases h
      | some ys =>
        rw [h1, h2] at h
        have := Option.some.inj h; subst this
        obtain ⟨v, k1, k2⟩ := resV_mean hti r h1
        obtain ⟨vs, k3, k4, k5⟩ := resVs_mean hti r h2
        refine ⟨v :: vs, by simp [List.mapM_cons, k1, k3], by simp [k4], fun i v' W q1 q2 => ?_⟩
        cases i with
        | zero => simp at q1 q2; subst q1; subst q2; exact k2
        | succ i => exact k5 i v' W (by simpa using q1) (by simpa using q2)
theorem results_run {fn : Func} {l : List ResultVar} (hf : fn.results = l.toArray) {vs : List Value} (h : (l.mapM (resM P w a.tmps)).run P w = .ok vs w) : (results fn a.tmps).run P w = .ok (if h : vs.toArray.size = 1 then vs.toArray[0] else .tuple vs.toArray) w := by
  have e1 : results fn a.tmps = (do
      let vs ← fn.results.mapM (resM P w a.tmps)
      pure (if h : vs.size = 1 then vs[0] else .tuple vs)) := rfl
  rw [e1, hf, List.mapM_toArray]
  simp only [Sem.run_bind, Sem.run_map, h, Result.andThen_ok, Sem.run_pure]
theorem fin_plain (hti : tiOk P TI = true) (r : Rel Y.C E s a w β) {fn : Func} {l : List ResultVar} (hf : fn.results = l.toArray) {ks : List Kd} {z : Tup U ks} (h : fin Y TI false ks l s = some z) : ∃ v, (results fn a.tmps).run P w = .ok v w ∧ Rd w E.X0 [] v (tupOf ((toCps Y ks z).map cpV)) := by
  unfold fin at h
  cases h1 : resVs TI s l with
  | none => rw [h1] at h; cases h
  | some xs =>
    rw [h1] at h
    obtain ⟨vs, k1, k2, k3⟩ := resVs_mean hti r h1
    have hrd := svsTy_mean r (Z := E.X0) (fun b hb => .inl hb) ks (z := z) h k2 k3 (.inr (X0_free r))
    refine ⟨_, results_run hf k1, ?_⟩
    generalize (toCps Y ks z).map cpV = Us at hrd
    obtain ⟨h2, h3⟩ := hrd
    clear k1 k2 k3 h h1
    match Us, vs, h2, h3 with
    | [U], [v], _, h3 => exact h3 0 v U rfl rfl
    | [], [], _, _ => exact .tup rfl (by simp)
    | U :: U' :: Us, v :: v' :: vs, h2, h3 =>
      rw [dif_neg (by simp)]
      exact .tup (by simpa using h2) (fun i v c h5 h6 => h3 i v c (by simpa using h5) h6)

theorem enter_rel {w0 : World} {X0 : Nat → Prop} (hG : g.G w0) (hX0 : ∀ b, X0 b → b < w0.heap.size) {ks : List Kd} {z : Tup U ks} {n : Nat} {vs : List Value} (hvs : RdL w0 X0 vs ((toCps Y ks z).map cpV)) (hn : (toCps Y ks z).length ≤ n) (E : Env g) (hE0 : E.X0 = X0) (hEY : ∀ b, ¬ E.Y0 b) (hEw : E.w0 = w0) (hEp : E.pin = []) :
    Rel Y.C E (ini Y n ks z) { tmps := vs.toArray ++ Array.replicate (n - vs.toArray.size) undef, defers := [] } w0 [] := by
  have hlen : vs.length = (toCps Y ks z).length := by rw [hvs.1, List.length_map]
  refine ⟨⟨by rw [← hEw]; exact Bel.refl _, rfl, by simp [ini], by simp [ini], by simp, by simp, by simp, by simp, by simp [hEp]⟩, rfl, ?_, fun m x hx => ?_⟩
  · simp only [ini, len_eq, List.length_append, List.length_map, List.length_replicate, Array.size_append, List.size_toArray, Array.size_replicate, hlen]
  · simp only [ini, len_eq, List.length_map] at hx
    by_cases hlt : m < (toCps Y ks z).length
    · rw [List.getElem?_append_left (by simpa using hlt), List.getElem?_map] at hx
      cases hc : (toCps Y ks z)[m]? with
      | none => rw [hc] at hx; cases hx
      | some c =>
        rw [hc] at hx
        have := Option.some.inj hx; subst this
        have hvl : m < vs.length := by omega
        have hv : (vs.toArray ++ Array.replicate (n - vs.toArray.size) undef).getD m undef = vs[m] := by
          rw [Array.getD_eq_getD_getElem?, Array.getElem?_append_left (by simpa using hvl)]
          simp [List.getElem?_eq_getElem hvl]
        rw [hv]
        refine cpSv_mean (cp_mean (toCps_ok ks z c (List.mem_of_getElem? hc)) (hvs.2 m _ _ (List.getElem?_eq_getElem hvl) (by rw [List.getElem?_map, hc]; rfl)) (.inl fun b hb => ?_))
        rcases hb with hb | hb | ⟨t, ht, _⟩
        · rw [hE0] at hb; exact hb
        · exact absurd hb (hEY b)
        · simp at ht
    · rw [List.getElem?_append_right (by rw [List.length_map]; omega)] at hx
      have := List.mem_of_getElem? hx
      simp at this
      rw [this.2]; trivial

/-- A function whose text the evaluator has gone through meets its contract. -/
theorem evF_spec (G : Good P g Y TI FZ) (hm : P.follows .mixedOrders = true) {f : FuncId} {fn : Func} {cd : Code} {n : Nat} {l : List ResultVar} {ar rs : List Kd} {an : An} {z : Tup U ar} {q : Tup U rs} (hf : P.funcs[f]? = some fn) (hb : fn.body = some cd) (hn : fn.ntmps = n) (hl : fn.results = l.toArray)
    (hE : ∀ args w, (callFunc f args).run P w = .ok (.enter f args) w) (hlen : (toCps Y ar z).length ≤ n) (h : evF Y TI FZ an cd n ar rs false l z = some q) : VK.Spec P g f ((toCps Y ar z).map cpV) (fun v => v = tupOf ((toCps Y rs q).map cpV)) := by
  refine ⟨hE, fun w X0 vs hG hX0 hvs => calls_of_wp hf hb ?_⟩
  let E : Env g := ⟨X0, fun _ => False, w, hX0, fun _ h => h.elim, fun _ _ h => h, fun w' hw => g.st w w' hG (hw.ext fun _ h => h), []⟩
  have r0 := enter_rel (Y := Y) hG hX0 hvs hlen E rfl (fun _ h => h) rfl rfl
  have done : ∀ s' a' w' β', fin Y TI false rs l s' = some q → Rel Y.C E s' a' w' β' → a'.defers = [] ∧ ∃ v, (results fn a'.tmps).run P w' = .ok v w' ∧ (∃ v' r, Ending.returned v = .returned v' ∧ r = tupOf ((toCps Y rs q).map cpV) ∧ Rd w' X0 [] v' r ∧ Ext w w') := fun s' a' w' β' hq r => by
    obtain ⟨v, k1, k2⟩ := fin_plain G.ti r hl hq
    exact ⟨r.defers, v, k1, v, _, rfl, rfl, k2, r.hp.ext.ext fun _ h => h⟩
  rw [hn]
  exact ev_sound (rgn_sound G hm) 1000 an cd _ _ _ _ _ q (fun _ => True) (by
    have : ∀ c : Code, WC (fun _ => True) c := fun c => by
      induction c with
      | seq a b h1 h2 => exact ⟨h1, h2⟩
      | cond c a b h1 h2 => exact ⟨fun _ _ => trivial, h1, h2⟩
      | block id c h => exact h
      | loop c h => exact h
      | region id os d => exact fun _ _ _ _ => trivial
      | _ => trivial
    exact this cd) (AW.true an) h _ (fun s' a' w' β' _ hq r => done s' a' w' β' hq r) (fun i s' a' w' β' _ hq r => by cases hq) (fun s' a' w' β' _ hq r => done s' a' w' β' hq r) _ _ _ r0
end
end Go.EV
