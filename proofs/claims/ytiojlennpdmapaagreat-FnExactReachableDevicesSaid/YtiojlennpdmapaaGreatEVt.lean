/-
  THE EVALUATOR's KIT, twentieth part: regions. Plain theorems over any program; the conditions stand in each.
-/
import Derived.Test.YtiojlennpdmapaaGreatEVs
set_option linter.unusedVariables false
set_option linter.unusedSimpArgs false
namespace Go.EV
open Go.RowKit Go.VK
variable {U : Uni} {Y : Lay U} {TI : List (Nat × TInfo)} {FZ : List (Nat × Sum U)} {P : Program} {g : GI} {E : Env g}

/-- The state behind agrees with the state before but for the slots D. -/
structure Ag (D : Nat → Prop) (s s' : St U) : Prop where
  t : ∀ n, ¬ D n → s'.t[n]? = s.t[n]?
  tl : s'.t.length = s.t.length
  fr : s'.fr = s.fr
  m : Am s.m s'.m
theorem Ag.refl {D : Nat → Prop} (s : St U) : Ag D s s := ⟨fun _ _ => rfl, rfl, rfl, Am.refl _⟩
theorem Ag.trans {D : Nat → Prop} {s s' s'' : St U} (h : Ag D s s') (h' : Ag D s' s'') : Ag D s s'' := ⟨fun n hn => (h'.t n hn).trans (h.t n hn), h'.tl.trans h.tl, h'.fr.trans h.fr, h.m.trans h'.m⟩
theorem Ag.mono {D D' : Nat → Prop} {s s' : St U} (h : Ag D s s') (hd : ∀ n, D n → D' n) : Ag D' s s' := ⟨fun n hn => h.t n (fun hh => hn (hd n hh)), h.tl, h.fr, h.m⟩
theorem Ag.put {D : Nat → Prop} {s s' : St U} (h : Ag D s s') {d : Option Nat} {x : Sv U} (hd : ∀ n, d = some n → D n) : Ag D s (put s' d x) := by
  cases d with
  | none => exact h
  | some n =>
    refine ⟨fun k hk => ?_, ?_, h.fr, h.m⟩
    · simp only [EV.put, upd_eq]
      rw [List.getElem?_set_ne (fun e => hk (by rw [← e]; exact hd n rfl))]
      exact h.t k hk
    · simp only [EV.put, upd_eq, List.length_set]; exact h.tl

section
variable {s : St U} {a : Act} {w : World} {β : List Tr} {α : Type} {C : Cod U}

/-- A slot gets another account of the value that it holds. -/
theorem Rel.set (r : Rel C E s a w β) {n : Nat} {x : Sv U} (h : x.mean C w (E.X β) β s.m (a.tmps.getD n undef)) : Rel C E (EV.put s (some n) x) a w β := by
  refine ⟨r.hp, r.defers, by simp only [EV.put, upd_eq, List.length_set]; exact r.tsz, fun m y hm => ?_⟩
  simp only [EV.put, upd_eq] at hm ⊢
  by_cases he : n = m
  · subst he
    have hl : n < s.t.length := by have := lt_of_some hm; simpa using this
    rw [List.getElem?_set_self hl] at hm
    injection hm with hm; subst hm; exact h
  · rw [List.getElem?_set_ne he] at hm; exact r.tm m y hm

theorem tst_sound (r : Rel C E s a w β) {n : Nat} {T F : St U → Option α} {z : α} (h : tst n s T F = some z) :
    ∃ b s', a.tmps.getD n undef = .bool b ∧ n < s.t.length ∧ Rel C E s' a w β ∧ (b = true → T s' = some z) ∧ (b = false → F s' = some z) ∧ Ag (fun k => k = n) s s' := by
  unfold tst at h
  rw [nth_eq] at h
  split at h
  · rename_i b hx
    have hm : a.tmps.getD n undef = .bool b := r.tm n _ hx
    cases b with
    | true => exact ⟨true, _, hm, lt_of_some hx, r.set (x := .l (.bool true)) hm, fun _ => h, fun h => (by cases h), (Ag.refl s).put (fun k e => by injection e with e; exact e.symm)⟩
    | false => exact ⟨false, _, hm, lt_of_some hx, r.set (x := .l (.bool false)) hm, fun h => (by cases h), fun _ => h, (Ag.refl s).put (fun k e => by injection e with e; exact e.symm)⟩
  · rename_i c m hx
    obtain ⟨i, f, k1, k2, k3⟩ := r.tm n _ hx
    rw [nth_eq, k1] at h
    simp only at h
    cases hb : decide ((i : Int) < m) with
    | true =>
      rw [hb] at h k2
      have hlt := of_decide_eq_true hb
      have hns : ∀ (a' j : Nat) (f' : Bool), s.m.ns[a']? = some (j, f') → ∃ f'', (upd s.m.ns c (i, true))[a']? = some (j, f'') := fun a' j f' h' => by
        rw [upd_eq]
        by_cases he : c = a'
        · subst he
          rw [k1] at h'; injection h' with h'; injection h' with h' _; subst h'
          exact ⟨true, List.getElem?_set_self (lt_of_some k1)⟩
        · exact ⟨f', by rw [List.getElem?_set_ne he]; exact h'⟩
      have r1 : Rel C E ⟨s.t, ⟨s.m.o, s.m.k, upd s.m.ns c (i, true)⟩, s.fr⟩ a w β := r.cntr hns (fun a' j h' => by
        rw [upd_eq] at h'
        by_cases he : c = a'
        · subst he
          rw [List.getElem?_set_self (lt_of_some k1)] at h'
          have hij : i = j := congrArg Prod.fst (Option.some.inj h')
          rw [← hij]
          exact Int.le_trans (Int.add_one_le_iff.2 hlt) k3
        · rw [List.getElem?_set_ne he] at h'; exact r.hp.cnt a' j h')
      have hag : Ag (fun k => k = n) s (⟨s.t, ⟨s.m.o, s.m.k, upd s.m.ns c (i, true)⟩, s.fr⟩ : St U) := ⟨fun _ _ => rfl, rfl, rfl, Am.cntr _ hns⟩
      exact ⟨true, _, k2, lt_of_some hx, r1.set (x := .l (.bool true)) k2, fun _ => h, fun h => (by cases h), hag.put (fun k e => by injection e with e; exact e.symm)⟩
    | false =>
      rw [hb] at h k2
      exact ⟨false, _, k2, lt_of_some hx, r.set (x := .l (.bool false)) k2, fun h => (by cases h), fun _ => h, (Ag.refl s).put (fun k e => by injection e with e; exact e.symm)⟩
  · cases h

/-- What a step writes. -/
def Wr (al : List Oper) (o : Oper) (n : Nat) : Prop := o.dst = some n ∨ ∃ j b oj, o.guard = some (j, b) ∧ al[j]? = some oj ∧ oj.dst = some n

theorem yield_bool {al : List Oper} {j n : Nat} {oj : Oper} {b : Bool} (hj : al[j]? = some oj) (hd : oj.dst = some n) (hn : n < a.tmps.size) (hv : a.tmps.getD n undef = .bool b) : yielded al.toArray a.tmps j = some b := by
  have h2 : a.tmps[n]? = some (.bool b) := by
    rw [Array.getD_eq_getD_getElem?, Array.getElem?_eq_getElem hn] at hv
    rw [Array.getElem?_eq_getElem hn]; exact congrArg some hv
  simp [yielded, hj, hd, h2]
theorem yield_und {al : List Oper} {j n : Nat} {oj : Oper} (hj : al[j]? = some oj) (hd : oj.dst = some n) (hn : n < a.tmps.size) (hv : a.tmps.getD n undef = undef) : yielded al.toArray a.tmps j = none := by
  have h2 : a.tmps[n]? = some undef := by
    rw [Array.getD_eq_getD_getElem?, Array.getElem?_eq_getElem hn] at hv
    rw [Array.getElem?_eq_getElem hn]; exact congrArg some hv
  simp [yielded, hj, hd, h2, undef]

/-- A step with its guard: carried out or passed over. -/
theorem grd_cases (r : Rel C E s a w β) {al : List Oper} {o : Oper} {K : St U → Option α} {z : α} (h : grd Y TI FZ al o s K = some z) :
    ∃ s', Rel C E s' a w β ∧ Ag (Wr al o) s s' ∧ ((Region.wanted o (yielded al.toArray a.tmps) = true ∧ one Y TI FZ o s' K = some z) ∨ (Region.wanted o (yielded al.toArray a.tmps) = false ∧ skp o s' K = some z)) := by
  unfold grd at h
  split at h
  · rename_i hg
    exact ⟨s, r, Ag.refl s, .inl ⟨by simp [Region.wanted, hg], h⟩⟩
  · rename_i j want hg
    rw [nth_eq] at h
    split at h
    · rename_i oj hj
      split at h
      · rename_i n hd
        cases hu : isUnd (nth s.t n) with
        | true =>
          rw [hu] at h
          rw [nth_eq] at hu
          have hx : s.t[n]? = some (.l .und) := by
            cases hq : s.t[n]? with
            | none => rw [hq] at hu; cases hu
            | some x =>
              rw [hq] at hu
              cases x with
              | l y => cases y <;> first | rfl | cases hu
              | _ => cases hu
          have hv : a.tmps.getD n undef = undef := r.tm n _ hx
          have hy := yield_und (a := a) hj hd (by rw [r.tsz]; exact lt_of_some hx) hv
          exact ⟨s, r, Ag.refl s, .inr ⟨by simp [Region.wanted, hg, hy], h⟩⟩
        | false =>
          rw [hu] at h
          simp only [cond_false] at h
          obtain ⟨b, s', k1, k2, k3, k4, k5, k6⟩ := tst_sound r h
          have hy := yield_bool (a := a) hj hd (by rw [r.tsz]; exact k2) k1
          refine ⟨s', k3, k6.mono (fun k e => by subst e; exact .inr ⟨j, want, oj, hg, hj, hd⟩), ?_⟩
          cases b with
          | true =>
            have h4 := k4 rfl
            cases want with
            | true => exact .inl ⟨by simp [Region.wanted, hg, hy], h4⟩
            | false => exact .inr ⟨by simp [Region.wanted, hg, hy], h4⟩
          | false =>
            have h5 := k5 rfl
            cases want with
            | true => exact .inr ⟨by simp [Region.wanted, hg, hy], h5⟩
            | false => exact .inl ⟨by simp [Region.wanted, hg, hy], h5⟩
      · cases h
    · cases h
theorem grd_wp (G : Good P g Y TI FZ) (r : Rel Y.C E s a w β) {al : List Oper} {o : Oper} {K : St U → Option α} {z : α} (h : grd Y TI FZ al o s K = some z) {K' : Act → World → Prop} {Q : Exit → Act → World → Prop}
    (hk : ∀ s' a' w' β', Ag (Wr al o) s s' → K s' = some z → Rel Y.C E s' a' w' β' → (Nat.ble (cls FZ o.op) 1 = true → Ext w w') → K' a' w') : if Region.wanted o (yielded al.toArray a.tmps) = true then o.wp P a w K' Q else K' (a.put o.dst undef) w := by
  obtain ⟨s1, r1, h1, h2⟩ := grd_cases r h
  rcases h2 with ⟨hw, h2⟩ | ⟨hw, h2⟩
  · rw [if_pos hw]
    unfold one at h2
    obtain ⟨x, s2, k1, k2, k3, k4, k5⟩ := stp_sound G r1 rfl h2
    exact k2 K' Q fun v w' β' q1 q2 q3 => hk _ _ w' β' (Ag.put ⟨fun n hn => by rw [k3]; exact h1.t n hn, by rw [k3]; exact h1.tl, by rw [k4]; exact h1.fr, h1.m.trans k5⟩ (fun n e => .inl e)) k1 (q1.put q2) q3
  · rw [if_neg (by rw [hw]; simp)]
    exact hk _ _ w β (h1.put (fun n e => .inl e)) h2 (r1.put (x := .l .und) (v := undef) (fun _ => rfl)) (fun _ => Ext.refl w)
theorem grd0 (G : Good P g Y TI FZ) (r : Rel Y.C E s a w β) {al : List Oper} {o : Oper} (hc : cls FZ o.op = 0) {K : St U → Option α} {z : α} (h : grd Y TI FZ al o s K = some z) :
    ∃ v s', ((Region.wanted o (yielded al.toArray a.tmps) = true ∧ ∀ w', Ext w w' → (execOp a.eval o).run P w' = .ok (.value v) w') ∨ (Region.wanted o (yielded al.toArray a.tmps) = false ∧ v = undef)) ∧ Rel Y.C E s' (a.put o.dst v) w β ∧ K s' = some z ∧ Ag (Wr al o) s s' := by
  obtain ⟨s1, r1, h1, h2⟩ := grd_cases r h
  rcases h2 with ⟨hw, h2⟩ | ⟨hw, h2⟩
  · unfold one at h2
    obtain ⟨x, s2, k1, ⟨v, p1, p2, p3⟩, k3, k4, k5⟩ := stp0_sound G r1 rfl hc h2
    exact ⟨v, _, .inl ⟨hw, p1⟩, p2.put (fun _ => p3), k1, Ag.put ⟨fun n hn => by rw [k3]; exact h1.t n hn, by rw [k3]; exact h1.tl, by rw [k4]; exact h1.fr, h1.m.trans k5⟩ (fun n e => .inl e)⟩
  · exact ⟨undef, _, .inr ⟨hw, rfl⟩, r1.put (x := .l .und) (v := undef) (fun _ => rfl), h2, h1.put (fun n e => .inl e)⟩

/-! ### In the text's order -/
theorem ops_sound (G : Good P g Y TI FZ) {al : List Oper} {Q : Exit → Act → World → Prop} {D : Nat → Prop} : ∀ (l : List Oper) (s : St U) (K : St U → Option α) (z : α), (∀ o ∈ l, ∀ n, Wr al o n → D n) → ops Y TI FZ al l s K = some z →
    ∀ (rest : List Oper), (∀ s' a w β, Ag D s s' → K s' = some z → Rel Y.C E s' a w β → wpList P al.toArray Q rest a w) → ∀ a w β, Rel Y.C E s a w β → wpList P al.toArray Q (l ++ rest) a w
  | [], s, K, z, _, h, rest, hk, a, w, β, r => hk s a w β (Ag.refl s) h r
  | o :: l, s, K, z, hD, h, rest, hk, a, w, β, r => by
    simp only [ops] at h
    refine wpList_step fun K' hK' => grd_wp G r h fun s' a' w' β' q1 q2 q3 _ => hK' _ _ ?_
    have q1' := q1.mono (hD o (by simp))
    exact ops_sound G l s' K z (fun o ho => hD o (by simp [ho])) q2 rest (fun s2 a2 w2 β2 p1 p2 p3 => hk s2 a2 w2 β2 (q1'.trans p1) p2 p3) a' w' β' q3
end
end Go.EV
