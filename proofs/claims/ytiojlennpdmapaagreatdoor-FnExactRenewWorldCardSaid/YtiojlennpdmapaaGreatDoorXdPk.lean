import Derived.Test.YtiojlennpdmapaaGreatDoorXdPj
import Derived.Test.YtiojlennpdmapaaGreatDoorXdQ
/-
  Printed by wip/tools (own work of this part): models of functions, walks over the value kit, and proofs.
-/
set_option linter.unusedVariables false
set_option linter.unusedSimpArgs false
set_option maxRecDepth 100000
set_option maxHeartbeats 4000000
namespace Go.VK
open Go.RowKit Go.Proofs
noncomputable section
open EV (itr)
theorem t_spec_l24Mark (k : D.Keeper) : m_spec_l24Mark k = some (markF k) := rfl
theorem t_impl_progress (k : D.Keeper) : m_impl_progress k = some (markF k) := rfl
theorem t_spec_IsValidKeeper (k : D.Keeper) : m_spec_IsValidKeeper k = some (keeperOkF k) := by
  unfold m_spec_IsValidKeeper keeperOkF
  rw [gd_t (by simp), bd_s]
  cases areF [k.Share] <;> cases inR k.Epoch 0 1000000 <;> cases inR k.Limit 1 10 <;> rfl
theorem t_impl_IsValidKeeper (k : D.Keeper) : m_impl_IsValidKeeper k = some (keeperOkF k) := by
  unfold m_impl_IsValidKeeper keeperOkF
  cases areF [k.Share] <;> cases inR k.Epoch 0 1000000 <;> cases inR k.Limit 1 10 <;> rfl
theorem t_spec_ResetGuesses (h : D.KeeperHost) (s : D.Share) (hz : h.sz ≤ 34359738368) : m_spec_ResetGuesses h s = some (resetF h s) := by
  unfold m_spec_ResetGuesses resetF resetBad
  simp only [gd_t hz, bd_s, gd_t (show ([s] : List D.Share).length ≤ 34359738368 by simp)]
  cases keeperOkF h.State <;> cases decide (markF h.State < h.Monotonic) <;> cases (h.State.Epoch == 1000000) <;> cases (s.Index != h.State.Share.Index) <;> cases areF [s] <;> rfl
theorem t_impl_ResetGuesses (h : D.KeeperHost) (s : D.Share) (hz : h.sz ≤ 34359738368) : m_impl_ResetGuesses h s = some (resetF h s) := by
  unfold m_impl_ResetGuesses resetF resetBad
  simp only [gd_t hz, bd_s]
  cases keeperOkF h.State <;> cases decide (markF h.State < h.Monotonic) <;> cases (h.State.Epoch == 1000000) <;> cases (s.Index != h.State.Share.Index) <;> cases areF [s] <;> rfl
theorem renew_loop (hs : List D.KeeperHost) (ss : List D.Share) (hl : ss.length = hs.length) (hz : hs.length ≤ 34359738368) {F : (List D.KeeperHost × Nat → Option (List D.KeeperHost × Bool ⊕ List D.KeeperHost)) → List D.KeeperHost × Nat → Option (List D.KeeperHost × Bool ⊕ List D.KeeperHost)}
    (hF : ∀ rec i s (hi : i < hs.length) (hj : i < ss.length), s.length ≤ 34359738368 → F rec (s, i) = bif resetBad hs[i] ss[i] then some (.inl (hs, false)) else rec (s ++ [resetS hs[i] ss[i]], i + 1)) (hE : ∀ rec s, F rec (s, hs.length) = some (.inr s)) :
    nx (itr FUEL F ([], 0)) (fun z => some (z, true)) = some (bif (hs.zip ss).any (fun p => resetBad p.1 p.2) then (hs, false) else (List.zipWith resetS hs ss, true)) := by
  have hb : ∀ i (hi : i < hs.length), resetBad hs[i] (ss[i]'(by omega)) = true → (hs.zip ss).any (fun p => resetBad p.1 p.2) = true := fun i hi h => by
    refine List.any_eq_true.2 ⟨(hs[i], ss[i]'(by omega)), ?_, h⟩
    have := List.getElem_mem (l := hs.zip ss) (n := i) (by simp; omega)
    rwa [List.getElem_zip] at this
  have ht : ∀ i (hi : i < hs.length), List.zipWith resetS (hs.take (i + 1)) (ss.take (i + 1)) = List.zipWith resetS (hs.take i) (ss.take i) ++ [resetS (hs[i]'(by omega)) (ss[i]'(by omega))] := fun i hi => by
    rw [List.take_add_one, List.take_add_one, List.getElem?_eq_getElem hi, List.getElem?_eq_getElem (show i < ss.length by omega)]
    simp only [Option.toList_some]
    rw [List.zipWith_append (by simp; omega)]; rfl
  have key := itr0 (F := F) (s := ([], 0)) (fun i s => i ≤ hs.length ∧ s = (List.zipWith resetS (hs.take i) (ss.take i), i) ∧ ∀ j (hj : j < hs.length), j < i → resetBad hs[j] (ss[j]'(by omega)) = false) hs.length (some (bif (hs.zip ss).any (fun p => resetBad p.1 p.2) then .inl (hs, false) else .inr (List.zipWith resetS hs ss))) (by omega) ⟨by omega, by simp, fun j _ h => by omega⟩ (fun i s rec hi hv => ?_) (fun s rec hv => ?_)
  · rw [key]; cases (hs.zip ss).any _ <;> rfl
  · obtain ⟨_, rfl, h3⟩ := hv
    rw [hF rec i _ hi (by omega) (by simp; omega)]
    cases hc : resetBad hs[i] (ss[i]'(by omega)) with
    | true => exact .inr (by rw [hb i hi hc]; rfl)
    | false =>
      refine .inl ⟨_, ⟨hi, by rw [ht i hi], fun j hj hji => ?_⟩, rfl⟩
      rcases Nat.lt_or_ge j i with h' | h'
      · exact h3 j hj h'
      · have : j = i := by omega
        subst this; exact hc
  · obtain ⟨_, rfl, h3⟩ := hv
    have hn : (hs.zip ss).any (fun p => resetBad p.1 p.2) = false := by
      cases h : (hs.zip ss).any (fun p => resetBad p.1 p.2) with
      | false => rfl
      | true =>
        obtain ⟨x, hx, hxb⟩ := List.any_eq_true.1 h
        obtain ⟨i, hi, e⟩ := List.getElem_of_mem hx
        rw [List.getElem_zip] at e
        have hi' : i < hs.length := by simp at hi; omega
        rw [← e] at hxb
        simp only at hxb
        rw [h3 i hi' hi'] at hxb; cases hxb
    rw [hE, hn, List.take_length, ← hl, List.take_length]; rfl
theorem t_spec_RenewHosts (hs : List D.KeeperHost) (c : List Int) (h : szL D.KeeperHost.sz hs ≤ 34359738368 ∧ c.length ≤ 34359738368) : m_spec_RenewHosts hs c = some (renewHostsF hs c) := by
  obtain ⟨h1, h2⟩ := h
  have h0 : hs.length ≤ 34359738368 := by unfold szL at h1; omega
  have hr := refresh_len (hs.map fun h => h.State.Share) c
  unfold m_spec_RenewHosts renewHostsF renewL
  rw [gd_t h0, bd_s, gd_t ⟨by simpa using h0, h2⟩, bd_s, gd_t h1]
  cases he : ((refreshF (hs.map fun h => h.State.Share) c).length : Int) == 0 with
  | true => rfl
  | false =>
    have hl := refresh_all (l := hs.map fun h => h.State.Share) (c := c) (by simpa using he)
    rw [List.length_map] at hl
    rw [cond_false, Bool.false_or, renew_loop hs _ hl h0 (fun rec i s hi hj hs' => by
      have hz := le_sumI (f := D.KeeperHost.sz) hi
      unfold szL at h1
      simp only [lt_i hi, cond_true, atq_nat hi, atq_nat hj, bd_s, gd_t (show hs[i].sz ≤ 34359738368 by omega), gd_ap1 hs']
      unfold resetF; cases resetBad hs[i] (refreshF (hs.map fun h => h.State.Share) c)[i] <;> rfl) (fun rec s => by simp only [ge_i, cond_false])]
theorem t_impl_RenewHosts (hs : List D.KeeperHost) (c : List Int) (h : szL D.KeeperHost.sz hs ≤ 34359738368 ∧ c.length ≤ 34359738368) : m_impl_RenewHosts hs c = some (renewHostsF hs c) := by
  obtain ⟨h1, h2⟩ := h
  have h0 : hs.length ≤ 34359738368 := by unfold szL at h1; omega
  have hr := refresh_len (hs.map fun h => h.State.Share) c
  unfold m_impl_RenewHosts renewHostsF renewL
  rw [gd_t h0, bd_s, gd_t ⟨by simpa using h0, h2⟩, bd_s, gd_t h1]
  cases he : ((refreshF (hs.map fun h => h.State.Share) c).length : Int) == 0 with
  | true => rfl
  | false =>
    have hl := refresh_all (l := hs.map fun h => h.State.Share) (c := c) (by simpa using he)
    rw [List.length_map] at hl
    rw [cond_false, Bool.false_or, renew_loop hs _ hl h0 (fun rec i s hi hj hs' => by
      have hz := le_sumI (f := D.KeeperHost.sz) hi
      unfold szL at h1
      simp only [lt_i hi, cond_true, atq_nat hi, atq_nat hj, bd_s, gd_t (show hs[i].sz ≤ 34359738368 by omega), gd_ap1 hs']
      unfold resetF; cases resetBad hs[i] (refreshF (hs.map fun h => h.State.Share) c)[i] <;> rfl) (fun rec s => by simp only [ge_i, cond_false])]
theorem coef_loop (w : D.World) {F : (List Int × Int → Option (List Int)) → List Int × Int → Option (List Int)}
    (hF : ∀ rec (s : List Int) (k : Int), s.length ≤ 100 → 0 ≤ k → k ≤ 100 → F rec (s, k) = bif decide (k < w.Vault.Threshold) && decide (k ≤ 7) then rec (s ++ [deriveF w.Seed [317, w.Now, k]], k + 1) else some s) :
    ∀ (n f : Nat) (k : Int) (s : List Int), n < f → k = 9 - (n : Int) → n ≤ 8 → s.length ≤ 100 - n → itr f F (s, k) = some (s ++ coefG w n k)
  | 0, f + 1, k, s, hf, hk, _, hs => by
    rw [itr_s, hF _ _ _ (by omega) (by omega) (by omega), show decide (k ≤ 7) = false from decide_eq_false (by omega), Bool.and_false, cond_false]
    unfold coefG; simp
  | n + 1, f + 1, k, s, hf, hk, hn, hs => by
    rw [itr_s, hF _ _ _ (by omega) (by omega) (by omega)]
    unfold coefG
    cases (decide (k < w.Vault.Threshold) && decide (k ≤ 7)) with
    | true => rw [cond_true, cond_true, coef_loop w hF n f _ _ (by omega) (by omega) (by omega) (by simp; omega)]; simp
    | false => simp
theorem t_spec_RenewWorld (w : D.World) (h : w.sz ≤ 34359738368) : m_spec_RenewWorld w = some (renewWorldF w) := by
  have hz := h
  simp only [D.World.sz] at hz
  have hc := coefG_len w 8 1
  unfold m_spec_RenewWorld renewWorldF
  rw [gd_t h, bd_s, coef_loop w (fun rec s k h1 h2 h3 => by
    rw [gd_t (by simp), bd_s, gd_ap1 (s := s) (by omega), wrap64_id (by omega) (by omega), bb_and, bd_s]) 8 FUEL 1 [] (by have := FUEL_le; omega) rfl (by omega) (by simp), bd_s, List.nil_append, gd_t ⟨by unfold szL; omega, by omega⟩, bd_s, gd_t h, bd_s]
  unfold coefF
  cases worldOkF w <;> cases (renewHostsF w.Hosts (coefG w 8 1)).2 <;> rfl
theorem t_impl_RenewWorld (w : D.World) (h : w.sz ≤ 34359738368) : m_impl_RenewWorld w = some (renewWorldF w) := by
  have hz := h
  simp only [D.World.sz] at hz
  have hc := coefG_len w 8 1
  unfold m_impl_RenewWorld renewWorldF
  rw [gd_t h, bd_s, gd_t h, bd_s, coef_loop w (fun rec s k h1 h2 h3 => by
    rw [gd_t (by simp), bd_s, gd_ap1 (s := s) (by omega), wrap64_id (by omega) (by omega), bb_and, bd_s]) 8 FUEL 1 [] (by have := FUEL_le; omega) rfl (by omega) (by simp), bd_s, List.nil_append, gd_t ⟨by unfold szL; omega, by omega⟩, bd_s]
  unfold coefF
  cases worldOkF w <;> cases (renewHostsF w.Hosts (coefG w 8 1)).2 <;> rfl
end
end Go.VK
