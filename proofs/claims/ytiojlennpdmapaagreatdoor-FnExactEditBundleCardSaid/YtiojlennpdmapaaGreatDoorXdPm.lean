import Derived.Test.YtiojlennpdmapaaGreatDoorXdPl
import Derived.Test.YtiojlennpdmapaaGreatDoorXdQ
/-
  Printed by wip/tools (own work of this part): models of functions, walks over the value kit, and proofs.
-/
set_option linter.unusedVariables false
set_option linter.unusedSimpArgs false
set_option maxRecDepth 100000
set_option maxHeartbeats 4000000
namespace Go.VK
open Go.RowKit Go.Proofs
noncomputable section
open EV (itr)
theorem WOk.of' {w : D.World} (h : w.sz ≤ 34359738368) : WOk w := by
  simp only [D.World.sz] at h
  unfold WOk
  omega
theorem t_spec_l34There (w : D.World) (d : Int) (h : w.sz ≤ 34359738368) : m_spec_l34There w d = some (worldOkF w && hasDevF w d) := by
  unfold m_spec_l34There
  rw [gd_t h, bd_s, hasDev_in (WOk.of' h), bb_and, bd_s]
theorem t_spec_DeleteEntry (b : D.Bundle) (s h : Int) (hz : b.sz ≤ 34359738360) : m_spec_DeleteEntry b s h = some (delF b s h) := by
  unfold m_spec_DeleteEntry delF
  simp only [gd_t hz, gd_t (show b.sz ≤ 34359738368 by omega), bd_s]
  cases bundleOkF b with
  | false => rfl
  | true =>
    by_cases hf : findEntryF b s h < 0
    · rw [decide_eq_true hf]; rfl
    · obtain ⟨h1, h2, h3, h4⟩ := find_at (b := b) (s := s) (h := h) (decide_eq_true (by omega))
      rw [decide_eq_false hf, h1]
      simp only [bd_s]
      rw [show (⟨s, h, IntKind.i64.wrap ((b.Entries.getD (findEntryF b s h).toNat default).Version + 1), true⟩ : D.Entry) = delE b s h from rfl]
      cases (b.Entries.getD (findEntryF b s h).toNat default).Deleted <;> cases ((b.Entries.getD (findEntryF b s h).toNat default).Version == 1000000) <;> rfl
theorem anyI_false {α : Type} {p : Nat → α → Bool} {l : List α} : anyI p 0 l = false ↔ ∀ (i : Nat) (hi : i < l.length), p i l[i] = false := by
  constructor
  · intro h i hi
    cases hc : p i l[i] with
    | false => rfl
    | true => rw [(anyI_iff l 0).2 ⟨i, hi, by rw [Nat.zero_add]; exact hc⟩] at h; cases h
  · intro h
    cases hc : anyI p 0 l with
    | false => rfl
    | true =>
      obtain ⟨i, hi, hp⟩ := (anyI_iff l 0).1 hc
      rw [Nat.zero_add, h i hi] at hp; cases hp
theorem badE_key {l l' : List D.Entry} {i : Nat} {e e' : D.Entry} (he : e'.Site = e.Site ∧ e'.Handle = e.Handle) (hp : (l'.getD (i - 1) default).Site = (l.getD (i - 1) default).Site ∧ (l'.getD (i - 1) default).Handle = (l.getD (i - 1) default).Handle) (h : badE l i e = false) : badE l' i e' = !inR e'.Version 1 1000000 := by
  unfold badE at h ⊢
  rw [Bool.or_eq_false_iff, Bool.or_eq_false_iff, Bool.or_eq_false_iff] at h
  obtain ⟨h1, h2, h3, h4⟩ := h
  rw [he.1, he.2, h1, h2, kless_key' he, kless_key hp, h4]; simp
theorem set_ok {b : D.Bundle} {j : Nat} {x : D.Entry} (hj : j < b.Entries.length) (hx : x.Site = b.Entries[j].Site ∧ x.Handle = b.Entries[j].Handle) (h : bundleOkF b = true) : bundleOkF ⟨b.Entries.set j x⟩ = inR x.Version 1 1000000 := by
  unfold bundleOkF at h ⊢
  rw [Bool.and_eq_true, Bool.not_eq_true'] at h
  obtain ⟨h1, h2⟩ := h
  rw [List.length_set, h1, Bool.true_and]
  have hg : ∀ i, ((b.Entries.set j x).getD i default).Site = (b.Entries.getD i default).Site ∧ ((b.Entries.set j x).getD i default).Handle = (b.Entries.getD i default).Handle := fun i => by
    by_cases hij : j = i
    · subst hij
      simp only [List.getD, List.getElem?_set_self hj, List.getElem?_eq_getElem hj, Option.getD_some]; exact hx
    · simp [List.getD, List.getElem?_set_ne hij]
  have h2 := anyI_false.1 h2
  have hb : ∀ (i : Nat) (hi : i < (b.Entries.set j x).length), badE (b.Entries.set j x) i (b.Entries.set j x)[i] = !inR (b.Entries.set j x)[i].Version 1 1000000 := fun i hi => by
    have hi' : i < b.Entries.length := by simpa using hi
    have g := hg i
    simp only [List.getD, List.getElem?_eq_getElem hi, List.getElem?_eq_getElem hi', Option.getD_some] at g
    exact badE_key g (hg (i - 1)) (h2 i hi')
  have hv : ∀ (i : Nat) (hi : i < b.Entries.length), inR b.Entries[i].Version 1 1000000 = true := fun i hi => by
    have := h2 i hi
    unfold badE at this
    rw [Bool.or_eq_false_iff, Bool.or_eq_false_iff, Bool.or_eq_false_iff] at this
    simpa using this.2.2.1
  cases hc : inR x.Version 1 1000000 with
  | true =>
    rw [Bool.not_eq_true']
    refine anyI_false.2 fun i hi => ?_
    rw [hb i hi]
    by_cases hij : j = i
    · subst hij; rw [List.getElem_set_self, hc]; rfl
    · rw [List.getElem_set_ne hij, hv i (by simpa using hi)]; rfl
  | false =>
    rw [Bool.not_eq_false']
    refine (anyI_iff _ 0).2 ⟨j, by simpa using hj, ?_⟩
    rw [Nat.zero_add, hb j (by simpa using hj), List.getElem_set_self, hc]; rfl
theorem ok_version {b : D.Bundle} (h : bundleOkF b = true) {i : Nat} (hi : i < b.Entries.length) : inR b.Entries[i].Version 1 1000000 = true := by
  unfold bundleOkF at h
  rw [Bool.and_eq_true, Bool.not_eq_true'] at h
  have := anyI_false.1 h.2 i hi
  unfold badE at this
  rw [Bool.or_eq_false_iff, Bool.or_eq_false_iff, Bool.or_eq_false_iff] at this
  simpa using this.2.2.1
theorem t_impl_DeleteEntry (b : D.Bundle) (s h : Int) (hz : b.sz ≤ 34359738360) : m_impl_DeleteEntry b s h = some (delF b s h) := by
  have hq := hz
  simp only [D.Bundle.sz] at hq
  unfold m_impl_DeleteEntry delF
  simp only [gd_t (show b.sz ≤ 34359738368 by omega), bd_s]
  cases hb : bundleOkF b with
  | false => rfl
  | true =>
    by_cases hf : findEntryF b s h < 0
    · rw [decide_eq_true hf]; rfl
    · have hf' : decide (findEntryF b s h ≥ 0) = true := decide_eq_true (by omega)
      obtain ⟨h1, h2, h3, h4⟩ := find_at hf'
      have hset : setF b (delE b s h) = ⟨b.Entries.set (findEntryF b s h).toNat (delE b s h)⟩ := by
        unfold setF
        rw [show (delE b s h).Site = s from rfl, show (delE b s h).Handle = h from rfl, hf']; rfl
      have hg : b.Entries.getD (findEntryF b s h).toNat default = b.Entries[(findEntryF b s h).toNat] := by rw [List.getD, List.getElem?_eq_getElem h2]; rfl
      have hok := set_ok (x := delE b s h) h2 ⟨by rw [← hg, h3]; rfl, by rw [← hg, h4]; rfl⟩ hb
      have hv := ok_version hb h2
      rw [decide_eq_false hf, h1]
      simp only [bd_s]
      cases hd : (b.Entries.getD (findEntryF b s h).toNat default).Deleted with
      | true => rfl
      | false =>
        have e : (⟨(b.Entries.getD (findEntryF b s h).toNat default).Site, (b.Entries.getD (findEntryF b s h).toNat default).Handle, IntKind.i64.wrap ((b.Entries.getD (findEntryF b s h).toNat default).Version + 1), true⟩ : D.Entry) = delE b s h := by rw [h3, h4]; rfl
        rw [atq_int (by omega) (by rw [List.length_set]; exact h2), List.getElem_set_self, bd_s, bd_s, List.set_set, e, ← hset]
        have hS : (setF b (delE b s h)).sz ≤ 34359738368 := by have := set_len b (delE b s h); simp only [D.Bundle.sz]; omega
        rw [gd_t hS, bd_s, hset, hok, ← hset]
        have hv := inR_t hv
        have ev : (delE b s h).Version = b.Entries[(findEntryF b s h).toNat].Version + 1 := by
          show IntKind.i64.wrap ((b.Entries.getD (findEntryF b s h).toNat default).Version + 1) = _
          rw [hg, wrap64_id (by omega) (by omega)]
        rw [ev, hg]
        generalize b.Entries[(findEntryF b s h).toNat].Version = v at hv ⊢
        unfold inR
        by_cases hm : v = 1000000
        · subst hm; rfl
        · rw [show (v == 1000000) = false by simpa using hm, decide_eq_true (show 1 ≤ v + 1 by omega), decide_eq_true (show v + 1 ≤ 1000000 by omega)]; rfl
theorem t_spec_ChangeBundle (d : D.Device) (n : ByteArray) (h : Int) (rm : Bool) (hz : d.sz ≤ 34359738360 ∧ n.size ≤ 34359738300) : m_spec_ChangeBundle d n h rm = some (changeF d n h rm) := by
  obtain ⟨h1, h2⟩ := hz
  have hb : d.Bundle.sz ≤ 34359738360 := by simp only [D.Device.sz, D.Bundle.sz] at *; omega
  unfold m_spec_ChangeBundle changeF changeB
  simp only [gd_t (show d.sz ≤ 34359738368 by omega), gd_t h2, gd_t hb, bd_s]
  cases rm with
  | true =>
    simp only [cond_true, bd_s]
    cases (delF d.Bundle (siteHashF n) h).2 <;> rfl
  | false =>
    simp only [cond_false, bd_s]
    cases (putF d.Bundle (siteHashF n) h).2 <;> rfl
theorem t_impl_ChangeBundle (d : D.Device) (n : ByteArray) (h : Int) (rm : Bool) (hz : d.sz ≤ 34359738360 ∧ n.size ≤ 34359738300) : m_impl_ChangeBundle d n h rm = some (changeF d n h rm) := by
  obtain ⟨h1, h2⟩ := hz
  have hb : d.Bundle.sz ≤ 34359738360 := by simp only [D.Device.sz, D.Bundle.sz] at *; omega
  unfold m_impl_ChangeBundle changeF changeB
  simp only [gd_t (show d.sz ≤ 34359738368 by omega), gd_t h2, gd_t hb, bd_s]
  cases rm with
  | true =>
    simp only [cond_true, bd_s]
    cases (delF d.Bundle (siteHashF n) h).2 <;> rfl
  | false =>
    simp only [cond_false, bd_s]
    cases (putF d.Bundle (siteHashF n) h).2 <;> rfl
theorem dev_facts {w : D.World} {d : Int} (h : hasDevF w d = true) : 0 ≤ d ∧ d.toNat < w.Devices.length ∧ (devAt w d).sz ≤ w.sz ∧ devAt w d = w.Devices.getD d.toNat default := by
  simp only [hasDevF, Bool.and_eq_true, decide_eq_true_eq] at h
  have hi : d.toNat < w.Devices.length := by omega
  have := getD_sz (f := D.Device.sz) hi
  refine ⟨h.1, hi, ?_, rfl⟩
  show (w.Devices.getD d.toNat default).sz ≤ _
  simp only [D.World.sz]; omega
theorem change_no {d : D.Device} {n : ByteArray} {h : Int} {rm : Bool} (e : (changeF d n h rm).2 = false) : changeF d n h rm = (d, false) := by
  unfold changeF at e ⊢
  cases q : (changeB d n h rm).2 with
  | true => rw [q] at e; cases e
  | false => rfl
theorem t_spec_EditBundle (w : D.World) (d : Int) (n : ByteArray) (h : Int) (rm : Bool) (hz : w.sz ≤ 34359738300 ∧ n.size ≤ 34359738300) : m_spec_EditBundle w d n h rm = some (editF w d n h rm) := by
  obtain ⟨h1, h2⟩ := hz
  unfold m_spec_EditBundle editF
  rw [gd_t (show w.sz ≤ 34359738368 by omega), bd_s, gd_t (show w.sz ≤ 34359738368 by omega), bd_s]
  cases hc : (worldOkF w && hasDevF w d) with
  | false => rfl
  | true =>
    have hd := (Bool.and_eq_true_iff.1 hc).2
    obtain ⟨k1, k2, k3, k4⟩ := dev_facts hd
    rw [Bool.not_true, cond_false, cond_true, atq_dev hd, bd_s, gd_t ⟨by omega, h2⟩, bd_s, bd_s]
    cases e : (changeF (devAt w d) n h rm).2 with
    | true => rfl
    | false => rw [change_no e, cond_false, k4, set_same k2]
theorem t_impl_EditBundle (w : D.World) (d : Int) (n : ByteArray) (h : Int) (rm : Bool) (hz : w.sz ≤ 34359738300 ∧ n.size ≤ 34359738300) : m_impl_EditBundle w d n h rm = some (editF w d n h rm) := by
  obtain ⟨h1, h2⟩ := hz
  unfold m_impl_EditBundle editF
  rw [gd_t (show w.sz ≤ 34359738368 by omega), bd_s, gd_t (show w.sz ≤ 34359738368 by omega), bd_s, if_or, bd_s, ← Bool.not_and]
  cases hc : (worldOkF w && hasDevF w d) with
  | false => rfl
  | true =>
    have hd := (Bool.and_eq_true_iff.1 hc).2
    obtain ⟨k1, k2, k3, k4⟩ := dev_facts hd
    rw [Bool.not_true, cond_false, cond_true, atq_dev hd, bd_s, gd_t ⟨by omega, h2⟩, bd_s, bd_s]
    cases e : (changeF (devAt w d) n h rm).2 <;> rfl
end
end Go.VK
