import Derived.Test.YtiojlennpdmapaaGreatDoorXdPi
import Derived.Test.YtiojlennpdmapaaGreatDoorXdQ
/-
  Printed by wip/tools (own work of this part): models of functions, walks over the value kit, and proofs.
-/
set_option linter.unusedVariables false
set_option linter.unusedSimpArgs false
set_option maxRecDepth 100000
set_option maxHeartbeats 4000000
namespace Go.VK
open Go.RowKit Go.Proofs
noncomputable section
open EV (itr)
theorem takeAny {α : Type} {τ : Type} {l : List α} (p : α → Bool) (a b : τ) (i : Nat) (hi : i ≤ l.length) (h : l.length ≤ 34359738368) {F : (Nat → Option τ) → Nat → Option τ} (hF : ∀ rec j (hj : j < i), F rec j = bif p (l[j]'(by omega)) then some a else rec (j + 1)) (hE : ∀ rec, F rec i = some b) :
    itr FUEL F 0 = some (bif (l.take i).any p then a else b) := by
  have ht : (l.take i).length = i := by rw [List.length_take]; omega
  exact anyLoop (l := l.take i) p _ _ (by omega) (fun rec j hj => by rw [hF rec j (by omega), List.getElem_take]) (fun rec => by rw [ht]; exact hE rec)
theorem t_spec_AreShares (l : List D.Share) (h : l.length ≤ 34359738368) : m_spec_AreShares l = some (areF l) := by
  unfold m_spec_AreShares areF
  rw [anyLoopI (l := l) (badS l) (.inl false) (.inr ()) (by omega) (fun rec i hi => by
    simp only [lt_i hi, cond_true, atq_nat hi, bd_s, bb_some]
    rw [takeAny (fun q => q.Index == l[i].Index) (.inl (.inl false)) (.inr ()) i (by omega) h (fun rec j hj => by simp only [lt_i hj, cond_true, atq_nat (show j < l.length by omega), bd_s]) (fun rec => by simp only [ge_i, cond_false])]
    unfold badS
    cases inR l[i].Index 1 7 <;> cases inR l[i].Value 0 1018 <;> cases (l.take i).any _ <;> rfl) (fun rec => by simp only [ge_i, cond_false])]
  cases inR (l.length : Int) 1 7 <;> cases anyI (badS l) 0 l <;> rfl
theorem anyI_iff {α : Type} {p : Nat → α → Bool} : ∀ (l : List α) (j : Nat), anyI p j l = true ↔ ∃ (i : Nat) (hi : i < l.length), p (j + i) l[i] = true
  | [], j => by simp [anyI]
  | x :: xs, j => by
    simp only [anyI, Bool.or_eq_true, anyI_iff xs]
    constructor
    · rintro (h | ⟨i, hi, h⟩)
      · exact ⟨0, by simp, h⟩
      · exact ⟨i + 1, by simpa using hi, by rw [show j + (i + 1) = j + 1 + i by omega]; exact h⟩
    · rintro ⟨i, hi, h⟩
      cases i with
      | zero => exact .inl h
      | succ i => exact .inr ⟨i, by simpa using hi, by rw [show j + 1 + i = j + (i + 1) by omega]; exact h⟩
theorem t_impl_AreShares (l : List D.Share) : m_impl_AreShares l = some (areF l) := by
  unfold m_impl_AreShares areF
  cases hr : inR (l.length : Int) 1 7 with
  | false => rfl
  | true =>
    have hlen : l.length ≤ 7 := by have := inR_t hr; omega
    rw [Bool.not_true, cond_false, Bool.true_and]
    rw [itr0 (s := ((0 : Nat), false, false, false, false, false, false, false, false)) (fun i s => i ≤ l.length ∧ s = (i, cS l i 0, cS l i 1, cS l i 2, cS l i 3, cS l i 4, cS l i 5, cS l i 6, cS l i 7) ∧ ∀ (j : Nat) (hj : j < l.length), j < i → badS l j l[j] = false) l.length (some (bif anyI (badS l) 0 l then .inl false else .inr ())) (by omega) ⟨by omega, by simp [cS], fun j _ h => by omega⟩ (fun i s rec hi hv => ?_) (fun s rec hv => ?_)]
    · cases anyI (badS l) 0 l <;> rfl
    · obtain ⟨_, rfl, h3⟩ := hv
      have hbad : badS l i l[i] = true → anyI (badS l) 0 l = true := fun h => (anyI_iff l 0).2 ⟨i, hi, by rw [Nat.zero_add]; exact h⟩
      have hgo : badS l i l[i] = false → ∀ (j : Nat) (hj : j < l.length), j < i + 1 → badS l j l[j] = false := fun h j hj hij => by
        rcases Nat.lt_or_ge j i with h' | h'
        · exact h3 j hj h'
        · have : j = i := by omega
          subst this; exact h
      simp only [lt_i hi, cond_true, atq_nat hi, bd_s]
      cases h1 : inR l[i].Index 1 7 with
      | false => exact .inr (by rw [hbad (by unfold badS; rw [h1]; rfl)]; rfl)
      | true =>
        cases h2 : inR l[i].Value 0 1018 with
        | false => exact .inr (by rw [hbad (by unfold badS; rw [h1, h2]; rfl)]; rfl)
        | true =>
          have hk := inR_t h1
          have hc : badS l i l[i] = cS l i l[i].Index := by unfold badS cS; rw [h1, h2]; rfl
          have go : ∀ n : Int, l[i].Index = n → (cS l i n = true ∧ anyI (badS l) 0 l = true) ∨ (cS l i n = false ∧ ∀ (j : Nat) (hj : j < l.length), j < i + 1 → badS l j l[j] = false) := fun n e => by
            cases hb : cS l i n with
            | true => exact .inl ⟨rfl, hbad (by rw [hc, e]; exact hb)⟩
            | false => exact .inr ⟨rfl, hgo (by rw [hc, e]; exact hb)⟩
          have hs := fun k => cS_s (l := l) (k := k) hi
          simp only [hs]
          obtain e | e | e | e | e | e | e : l[i].Index = 1 ∨ l[i].Index = 2 ∨ l[i].Index = 3 ∨ l[i].Index = 4 ∨ l[i].Index = 5 ∨ l[i].Index = 6 ∨ l[i].Index = 7 := by omega
          all_goals
            rcases go _ e with ⟨hb, g⟩ | ⟨hb, g⟩
            · exact .inr (by rw [e, g, hb]; rfl)
            · refine .inl ⟨_, ⟨by omega, rfl, g⟩, ?_⟩
              rw [e, hb]
              simp
    · obtain ⟨_, rfl, h3⟩ := hv
      have : anyI (badS l) 0 l = false := by
        cases h : anyI (badS l) 0 l with
        | false => rfl
        | true =>
          obtain ⟨i, hi, hp⟩ := (anyI_iff l 0).1 h
          rw [Nat.zero_add, h3 i hi hi] at hp; cases hp
      simp only [ge_i, cond_false, this]
theorem t_spec_l5Mod (a : Int) : m_spec_l5Mod a = some (modI a 1019) := rfl
theorem f_ne : ((1019 : Int) ≠ 0) = True := by simp
theorem t_spec_l5Poly (c : Int) (l : List Int) (x : Int) (h : 0 ≤ x ∧ x ≤ 1000 ∧ l.length ≤ 34359738368) : m_spec_l5Poly c l x = some (polyF c l x) := by
  obtain ⟨h1, h2, h3⟩ := h
  have hr := poly_range ⟨h1, h2⟩ l
  have hm := modI_range (p := c) (q := 1019) (by omega)
  unfold m_spec_l5Poly polyF
  rw [downLoop (l := l) (polyS x) some (by omega) (fun rec s i hi => by
    simp only [show decide ((i : Int) ≥ 0) = true from decide_eq_true (by omega), cond_true, atq_nat hi, bd_s, f_ne, gd_T, wrap64_id (show -9223372036854775808 ≤ (i : Int) - 1 by omega) (by omega)]; rfl) (fun rec s => rfl) (wrap64_id (by omega) (by omega))]
  simp only [bd_s, f_ne, gd_T]
  rw [wrap64_id (by omega) (by omega), Int.tmod_eq_emod_of_nonneg (by omega)]
theorem t_impl_polynomial (c : Int) (l : List Int) (x : Int) (h : 0 ≤ x ∧ x ≤ 1000 ∧ l.length ≤ 34359738368) : m_impl_polynomial c l x = some (polyF c l x) := by
  obtain ⟨h1, h2, h3⟩ := h
  have hr := poly_range ⟨h1, h2⟩ l
  have hm := modI_range (p := c) (q := 1019) (by omega)
  unfold m_impl_polynomial polyF
  rw [downLoop (l := l) (polyS x) some (by omega) (fun rec s i hi => by
    simp only [show decide ((i : Int) ≥ 0) = true from decide_eq_true (by omega), cond_true, atq_nat hi, bd_s, f_ne, gd_T, wrap64_id (show -9223372036854775808 ≤ (i : Int) - 1 by omega) (by omega)]; rfl) (fun rec s => rfl) (wrap64_id (by omega) (by omega))]
  simp only [bd_s]
  rw [wrap64_id (by omega) (by omega), modI, if_pos (by omega)]
theorem are_range {l : List D.Share} (h : areF l = true) {i : Nat} (hi : i < l.length) : 1 ≤ l[i].Index ∧ l[i].Index ≤ 7 := by
  unfold areF at h
  rw [Bool.and_eq_true, Bool.not_eq_true'] at h
  have hb : badS l i l[i] = false := by
    cases hc : badS l i l[i] with
    | false => rfl
    | true => rw [(anyI_iff l 0).2 ⟨i, hi, by rw [Nat.zero_add]; exact hc⟩] at h; exact absurd h.2 (by simp)
  unfold badS at hb
  rw [Bool.or_eq_false_iff, Bool.not_eq_false'] at hb
  exact inR_t hb.1
theorem mapR {α β : Type} {l : List α} (f : α → β) {F : (List β × Nat → Option (List β)) → List β × Nat → Option (List β)} (hl : l.length ≤ 34359738368)
    (hF : ∀ rec i s (hi : i < l.length), s.length ≤ 34359738368 → F rec (s, i) = rec (s ++ [f l[i]], i + 1)) (hE : ∀ rec s, F rec (s, l.length) = some s) : itr FUEL F ([], 0) = some (l.map f) := by
  rw [foldLoopR (l := l) (fun s x => s ++ [f x]) (fun i s => s.length = i) (fun s => some s) (by omega) rfl (fun i s hi hv => by simp; omega) (fun rec i s hi hv => hF rec i s hi (by omega)) (fun rec s _ => hE rec s), foldl_one, List.nil_append]
theorem t_spec_RefreshShares (l : List D.Share) (c : List Int) (h : l.length ≤ 34359738368 ∧ c.length ≤ 34359738368) : m_spec_RefreshShares l c = some (refreshF l c) := by
  unfold m_spec_RefreshShares refreshF
  rw [gd_t h.1, bd_s]
  cases hA : areF l with
  | false => rfl
  | true =>
    rw [Bool.not_true, cond_false, mapR (l := l) (freshS c) (by omega) (fun rec i s hi hs => by
      have := are_range hA hi
      simp only [lt_i hi, cond_true, atq_nat hi, bd_s, gd_t (show 0 ≤ l[i].Index ∧ l[i].Index ≤ 1000 ∧ c.length ≤ 34359738368 by omega), f_ne, gd_T, gd_ap1 hs]; rfl) (fun rec s => by simp only [ge_i, cond_false])]
    rfl
theorem t_impl_RefreshShares (l : List D.Share) (c : List Int) (h : l.length ≤ 34359738368 ∧ c.length ≤ 34359738368) : m_impl_RefreshShares l c = some (refreshF l c) := by
  unfold m_impl_RefreshShares refreshF
  cases hA : areF l with
  | false => rfl
  | true =>
    rw [Bool.not_true, cond_false, mapR (l := l) (freshS c) (by omega) (fun rec i s hi hs => by
      have := are_range hA hi
      simp only [lt_i hi, cond_true, atq_nat hi, bd_s, gd_t (show 0 ≤ l[i].Index ∧ l[i].Index ≤ 1000 ∧ c.length ≤ 34359738368 by omega), f_ne, gd_T, gd_ap1 hs]; rfl) (fun rec s => by simp only [ge_i, cond_false])]
    rfl
theorem t_spec_l26Shares (l : List D.KeeperHost) (h : l.length ≤ 34359738368) : m_spec_l26Shares l = some (l.map fun h => h.State.Share) := by
  unfold m_spec_l26Shares
  rw [mapR (l := l) (fun h : D.KeeperHost => h.State.Share) (by omega) (fun rec i s hi hs => by simp only [lt_i hi, cond_true, atq_nat hi, bd_s, gd_ap1 hs]) (fun rec s => by simp only [ge_i, cond_false])]
  rfl
theorem t_impl_sharesOf (l : List D.KeeperHost) (h : l.length ≤ 34359738368) : m_impl_sharesOf l = some (l.map fun h => h.State.Share) := by
  unfold m_impl_sharesOf
  rw [mapR (l := l) (fun h : D.KeeperHost => h.State.Share) (by omega) (fun rec i s hi hs => by simp only [lt_i hi, cond_true, atq_nat hi, bd_s, gd_ap1 hs]) (fun rec s => by simp only [ge_i, cond_false])]
  rfl
end
end Go.VK
