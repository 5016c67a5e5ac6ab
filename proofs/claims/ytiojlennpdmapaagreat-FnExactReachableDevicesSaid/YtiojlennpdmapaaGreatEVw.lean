/-
  THE EVALUATOR's KIT, twenty-third part: the state behind a join. Plain theorems over any program; the conditions stand in each.
-/
import Derived.Test.YtiojlennpdmapaaGreatEVv
set_option linter.unusedVariables false
set_option linter.unusedSimpArgs false
namespace Go.EV
open Go.RowKit Go.VK
variable {U : Uni} {Y : Lay U} {P : Program} {g : GI} {E : Env g}

/-! ### Slots that are wiped -/
section wipe
theorem kep1_get {a n : Nat} {K : List (Sv U) → List (Sv U)} (hK : K [] = []) : ∀ {l : List (Sv U)}, (kep1 a K l)[n]? = if n < a then l[n]? else (K (l.drop a))[n - a]? := by
  induction a generalizing n with
  | zero => intro l; rfl
  | succ a ih =>
    intro l
    cases l with
    | nil =>
      have e : kep1 (a + 1) K ([] : List (Sv U)) = [] := rfl
      rw [e]; simp [hK]
    | cons x l =>
      have e : kep1 (a + 1) K (x :: l) = x :: kep1 a K l := rfl
      rw [e]
      cases n with
      | zero => simp
      | succ n => simp only [List.getElem?_cons_succ, ih, Nat.add_lt_add_iff_right, List.drop_succ_cons, Nat.add_sub_add_right]
theorem wip1_get {a n : Nat} {K : List (Sv U) → List (Sv U)} (hK : K [] = []) : ∀ {l : List (Sv U)}, (wip1 a K l)[n]? = if n < a then (l[n]?).map (fun _ => Sv.l .any) else (K (l.drop a))[n - a]? := by
  induction a generalizing n with
  | zero => intro l; rfl
  | succ a ih =>
    intro l
    cases l with
    | nil =>
      have e : wip1 (a + 1) K ([] : List (Sv U)) = [] := rfl
      rw [e]; simp [hK]
    | cons x l =>
      have e : wip1 (a + 1) K (x :: l) = Sv.l .any :: wip1 a K l := rfl
      rw [e]
      cases n with
      | zero => simp
      | succ n => simp only [List.getElem?_cons_succ, ih, Nat.add_lt_add_iff_right, List.drop_succ_cons, Nat.add_sub_add_right]
theorem wip_nil : ∀ {ws : List (Nat × Nat)}, wip ws ([] : List (Sv U)) = []
  | [] => rfl
  | (a, b) :: r => by
    have e : wip ((a, b) :: r) ([] : List (Sv U)) = kep1 a (wip1 b (wip r)) [] := rfl
    rw [e]
    cases a with
    | succ a => rfl
    | zero =>
      cases b with
      | succ b => rfl
      | zero => exact wip_nil (ws := r)
theorem inW_le : ∀ {ws : List (Nat × Nat)} {p n : Nat}, inW ws p n = true → p ≤ n
  | [], p, n, h => by cases h
  | (a, b) :: r, p, n, h => by
    simp only [inW, Bool.or_eq_true, Bool.and_eq_true] at h
    rcases h with ⟨h, _⟩ | h
    · have := Nat.le_of_ble_eq_true h; omega
    · have := inW_le h; omega
theorem wip_get : ∀ {ws : List (Nat × Nat)} {p n : Nat} {l : List (Sv U)}, (wip ws l)[n]? = if inW ws p (p + n) = true then (l[n]?).map (fun _ => Sv.l .any) else l[n]?
  | [], p, n, l => by simp [inW, wip]
  | (a, b) :: r, p, n, l => by
    have hb : (wip1 b (wip r) ([] : List (Sv U))) = [] := by
      cases b with
      | succ b => rfl
      | zero => exact wip_nil (ws := r)
    have e : wip ((a, b) :: r) l = kep1 a (wip1 b (wip r)) l := rfl
    rw [e, kep1_get hb]
    simp only [inW, Bool.or_eq_true, Bool.and_eq_true]
    by_cases h1 : n < a
    · rw [if_pos h1, if_neg]
      rintro (⟨h, _⟩ | h)
      · have := Nat.le_of_ble_eq_true h; omega
      · have := inW_le h; omega
    · rw [if_neg h1, wip1_get wip_nil]
      by_cases h2 : n - a < b
      · rw [if_pos h2, if_pos]
        · rw [List.getElem?_drop, show a + (n - a) = n by omega]
        · exact .inl ⟨Nat.ble_eq_true_of_le (by omega), Nat.ble_eq_true_of_le (by omega)⟩
      · rw [if_neg h2, wip_get (ws := r) (p := p + a + b)]
        rw [show p + a + b + (n - a - b) = p + n by omega]
        simp only [List.getElem?_drop, show a + (b + (n - a - b)) = n by omega]
        by_cases h3 : inW r (p + a + b) (p + n) = true
        · rw [if_pos h3, if_pos (.inr h3)]
        · rw [if_neg h3, if_neg]
          rintro (⟨_, h⟩ | h)
          · have := Nat.le_of_ble_eq_true h; omega
          · exact h3 h
theorem wip_len {ws : List (Nat × Nat)} {l : List (Sv U)} : (wip ws l).length = l.length := by
  have key : ∀ n, n < (wip ws l).length ↔ n < l.length := fun n => by
    have h := wip_get (ws := ws) (p := 0) (n := n) (l := l)
    constructor
    · intro hn
      rw [List.getElem?_eq_getElem hn] at h
      refine Nat.lt_of_not_le fun hh => ?_
      rw [List.getElem?_eq_none hh] at h
      split at h <;> cases h
    · intro hn
      rw [List.getElem?_eq_getElem hn] at h
      refine Nat.lt_of_not_le fun hh => ?_
      rw [List.getElem?_eq_none hh] at h
      split at h <;> cases h
  have h1 := key (wip ws l).length
  have h2 := key l.length
  omega
end wipe

/-! ### What stands where -/
def LV (a : Act) (w : World) (β : List Tr) (o : List (EO U)) : Lo → Value → Prop
  | .s n, v => v = a.tmps.getD n undef
  | .c b j, v => ∀ e, o[b]? = some e → e.ob.isBox = true → ∃ t blk vals T, β[b]? = some t ∧ t.b = some blk ∧ w.heap[blk]? = some (.cells vals T (0, 0)) ∧ vals[j]? = some v

section
variable {C : Cod U} {b s u : St U} {a a0 : Act} {w w0 : World} {β β0 : List Tr}
theorem lkp_mean (r : Rel C E s a w β) {l : Lo} {x : Sv U} (h : lkp s l = some x) : ∃ v, LV a w β s.m.o l v ∧ x.mean C w (E.X β) β s.m v := by
  cases l with
  | s n => exact ⟨_, rfl, r.tm n x (by rw [← nth_eq]; exact h)⟩
  | c b j =>
    simp only [lkp, nth_eq] at h
    split at h
    · rename_i T cs vs rv cv he
      split at h
      · rename_i y hy
        have := Option.some.inj h; subst this
        obtain ⟨t, ht⟩ := r.hp.tr he
        obtain ⟨h0, blk, vals, k1, k2, k3, k4⟩ := r.hp.ok b t _ ht he
        have hjl : j < vals.length := by rw [k4.1]; exact lt_of_some hy
        exact ⟨vals[j], fun e _ _ => ⟨t, blk, vals.toArray, T, ht, k1, k3, by simp [hjl]⟩, k4.2 j _ _ (List.getElem?_eq_getElem hjl) hy⟩
      · cases h
    · cases h

/-- What goes on being known while leaves are set. -/
structure Tp (C : Cod U) (E : Env g) (a : Act) (w : World) (u : St U) (β : List Tr) (u' : St U) (β' : List Tr) : Prop where
  own : ∀ (i r : Nat) (v : Value), (Lf.own i r : Lf U).mean C w (E.X β) β u.m v → (Lf.own i r : Lf U).mean C w (E.X β') β' u'.m v
  x : ∀ b, E.X β' b → E.X β b
  lv : ∀ (l : Lo) (v : Value), LV a w β u.m.o l v → LV a w β' u'.m.o l v
theorem Tp.refl : Tp C E a w u β u β := ⟨fun _ _ _ h => h, fun _ h => h, fun _ _ h => h⟩

theorem Rel.setL (r : Rel C E u a w β) {l : Lo} {v : Value} (hl : LV a w β u.m.o l v) {x : Sv U} (hx : x.mean C w (E.X β) β u.m v) : ∃ β', Rel C E (EV.setL u x l) a w β' ∧ Tp C E a w u β (EV.setL u x l) β' := by
  cases l with
  | s n =>
    refine ⟨β, r.set (n := n) (x := x) ?_, ⟨fun _ _ _ h => h, fun _ h => h, fun _ _ h => h⟩⟩
    rw [← (show v = a.tmps.getD n undef from hl)]; exact hx
  | c b j =>
    unfold EV.setL
    simp only [nth_eq]
    split
    · rename_i T cs vs rv cv y he
      obtain ⟨t, blk, vals, T', h1, h2, h3, h4⟩ := hl _ he rfl
      obtain ⟨h0, blk', vals', k1, k2, k3, k4⟩ := r.hp.ok b t _ h1 he
      rw [h2] at k1
      have := Option.some.inj k1; subst this
      rw [h3] at k3
      have := Option.some.inj k3
      injection this with q1 q2 q3; subst q1; subst q2
      have hvv : vals'[j]? = some v := by simpa using h4
      obtain ⟨β', r', hb', ev⟩ := r.turn (i := b) (J := []) (t' := t) (w' := w) (ob := .box T' (upd cs j y) (upd vs j (Nat.succ u.m.k))) (rv := rv) he h1 (by simp) (Nat.le_refl _) rfl rfl rfl (fun _ _ _ => rfl)
        (fun bb hb => ⟨(r.hp.new b t bb h1 hb).2, .inr (.inl hb)⟩) (r.hp.nd b t h1) (.inl ⟨rfl, rfl⟩) (fun _ => ⟨rfl, rfl⟩)
        (fun β' m' ev => by
          refine ⟨by rw [upd_eq, upd_eq, List.length_set, List.length_set, h0], blk, vals', h2, k2, h3, by rw [k4.1, upd_eq, List.length_set], fun i v' c p q => ?_⟩
          rw [upd_eq] at q
          by_cases hij : j = i
          · subst hij
            have hl : j < cs.length := by have := lt_of_some q; simpa using this
            rw [List.getElem?_set_self hl] at q
            have := Option.some.inj q; subst this
            rw [hvv] at p
            have := Option.some.inj p; subst this
            exact Lf.mean_go ev hx
          · rw [List.getElem?_set_ne hij] at q
            exact Lf.mean_go ev (k4.2 i v' c p q))
      refine ⟨β', r', ⟨fun i q v' h => Lf.mean_go ev h, fun bb hb => ev.hX bb (Hp.X_lt r'.hp bb hb) hb, fun l v' h => ?_⟩⟩
      cases l with
      | s n => exact h
      | c b' j' =>
        intro e' he' hbx
        have hlt : b' < u.m.o.length := by
          have := lt_of_some he'
          have hl : (upd u.m.o b (⟨.box T' (upd cs j y) (upd vs j (Nat.succ u.m.k)), rv, Nat.succ u.m.k⟩ : EO U)).length = u.m.o.length := by rw [upd_eq, List.length_set]
          have h2 : b' < (upd u.m.o b (⟨.box T' (upd cs j y) (upd vs j (Nat.succ u.m.k)), rv, Nat.succ u.m.k⟩ : EO U)).length := this
          rwa [hl] at h2
        have hb0 : u.m.o[b']? = some u.m.o[b'] := List.getElem?_eq_getElem hlt
        obtain ⟨t0, ht0⟩ := r.hp.tr hb0
        obtain ⟨e1, t1, g1, g2, _, _, g3⟩ := ev.ho b' _ t0 hlt hb0 ht0
        have : e1 = e' := Option.some.inj (g1.symm.trans he')
        subst this
        obtain ⟨p1, p2⟩ := g3 hbx
        obtain ⟨t2, blk2, vals2, T2, z1, z2, z3, z4⟩ := h _ hb0 p1
        rw [ht0] at z1
        have := Option.some.inj z1; subst this
        exact ⟨t1, blk2, vals2, T2, g2, p2.trans z2, z3, z4⟩
    · exact ⟨β, r, Tp.refl⟩

/-- What is known of the items that are still to be set. -/
def IF1 (Y : Lay U) (E : Env g) (k : Nat) (u : St U) (a : Act) (w : World) (β : List Tr) (n : Nat) : (x : DI) → x.ty U → Prop
  | .dat l kd, d => ∃ v, LV a w β u.m.o l v ∧ Rd w (E.X β) [] v (cpV (toCp Y kd d))
  | .nat l, i => ∃ v, LV a w β u.m.o l v ∧ ∃ j : Nat, j = i ∧ v = .int .i64 (j : Int) ∧ (j : Int) ≤ 9223372036854775807
  | .tr l i _ _, _ => ∃ v, LV a w β u.m.o l v ∧ (Lf.own i k : Lf U).mean Y.C w (E.X β) β u.m v
  | .nt l _ _, _ => ∃ v, LV a w β u.m.o l v ∧ (Lf.own n k : Lf U).mean Y.C w (E.X β) β u.m v
  | .ti _ _ _, _ => True
def IF (Y : Lay U) (E : Env g) (k : Nat) (u : St U) (a : Act) (w : World) (β : List Tr) : Nat → (xs : List DI) → Dat U xs → Prop
  | _, [], _ => True
  | n, x :: xs, d => IF1 Y E k u a w β n x (Dhd d) ∧ IF Y E k u a w β (nxt n x) xs (Dtl d)
theorem IF1.tp {k n : Nat} {u' : St U} {β' : List Tr} (h : Tp Y.C E a w u β u' β') {x : DI} {d : x.ty U} (hf : IF1 Y E k u a w β n x d) : IF1 Y E k u' a w β' n x d := by
  cases x with
  | dat l kd => obtain ⟨v, h1, h2⟩ := hf; exact ⟨v, h.lv l v h1, h2.conv (Nat.le_refl _) (fun b _ => h.x b) (fun _ _ _ h => h) (fun _ _ h => h)⟩
  | nat l => obtain ⟨v, h1, h2⟩ := hf; exact ⟨v, h.lv l v h1, h2⟩
  | tr l i τ b => obtain ⟨v, h1, h2⟩ := hf; exact ⟨v, h.lv l v h1, h.own _ _ v h2⟩
  | nt l τ b => obtain ⟨v, h1, h2⟩ := hf; exact ⟨v, h.lv l v h1, h.own _ _ v h2⟩
  | ti i τ b => trivial
theorem IF.tp {k : Nat} {u' : St U} {β' : List Tr} (h : Tp Y.C E a w u β u' β') : ∀ {xs : List DI} {n : Nat} {d : Dat U xs}, IF Y E k u a w β n xs d → IF Y E k u' a w β' n xs d
  | [], _, _, _ => trivial
  | x :: xs, n, d, ⟨h1, h2⟩ => ⟨h1.tp h, IF.tp h h2⟩
theorem set1_sound (r : Rel Y.C E u a w β) {k n : Nat} {x : DI} {d : x.ty U} (h : IF1 Y E k u a w β n x d) : ∃ β', Rel Y.C E (set1 Y k n u x d) a w β' ∧ Tp Y.C E a w u β (set1 Y k n u x d) β' := by
  cases x with
  | dat l kd =>
    obtain ⟨v, h1, h2⟩ := h
    exact r.setL h1 (cpSv_mean (cp_mean toCp_ok h2 (.inl fun _ h => h)))
  | nat l =>
    obtain ⟨v, h1, j, rfl, h2, h3⟩ := h
    have r1 : Rel Y.C E ⟨u.t, ⟨u.m.o, u.m.k, u.m.ns ++ [((⟨j, false⟩ : Nat × Bool))]⟩, u.fr⟩ a w β := r.cntr (fun a' i f h => ⟨f, by rw [List.getElem?_append_left (lt_of_some h)]; exact h⟩) (fun a' i h => by
      by_cases hl : a' < u.m.ns.length
      · rw [List.getElem?_append_left hl] at h; exact r.hp.cnt a' i h
      · rw [List.getElem?_append_right (by omega)] at h
        cases hq : a' - u.m.ns.length with
        | zero => rw [hq] at h; simp at h
        | succ q => rw [hq] at h; simp at h)
    obtain ⟨β', q1, q2⟩ := r1.setL (l := l) (v := v) h1 (x := .l (.nat (len u.m.ns))) ⟨j, false, by rw [len_eq]; simp, h2, h3⟩
    exact ⟨β', q1, ⟨fun i q v h => q2.own i q v h, q2.x, fun l v h => q2.lv l v h⟩⟩
  | tr l i τ b =>
    obtain ⟨v, h1, h2⟩ := h
    exact r.setL h1 (x := .l (.own i k)) h2
  | nt l τ b =>
    obtain ⟨v, h1, h2⟩ := h
    exact r.setL h1 (x := .l (.own n k)) h2
  | ti i τ b => exact ⟨β, r, Tp.refl⟩
theorem sets_sound {k : Nat} : ∀ (xs : List DI) {u : St U} {β : List Tr} {n : Nat} {d : Dat U xs}, Rel Y.C E u a w β → IF Y E k u a w β n xs d → ∃ β', Rel Y.C E (sets Y k n u xs d) a w β'
  | [], _, β, _, _, r, _ => ⟨β, r⟩
  | x :: xs, u, β, n, d, r, ⟨h1, h2⟩ => by
    obtain ⟨β1, r1, t1⟩ := set1_sound r h1
    rw [sets_cons]
    exact sets_sound xs r1 (IF.tp t1 h2)
end
end Go.EV
