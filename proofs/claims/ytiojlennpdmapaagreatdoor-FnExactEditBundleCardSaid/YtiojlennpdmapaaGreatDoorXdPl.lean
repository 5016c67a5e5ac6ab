import Derived.Test.YtiojlennpdmapaaGreatDoorXdPk
import Derived.Test.YtiojlennpdmapaaGreatDoorXdQ
/-
  Printed by wip/tools (own work of this part): models of functions, walks over the value kit, and proofs.
-/
set_option linter.unusedVariables false
set_option linter.unusedSimpArgs false
set_option maxRecDepth 100000
set_option maxHeartbeats 4000000
namespace Go.VK
open Go.RowKit Go.Proofs
noncomputable section
open EV (itr)
theorem mapR1 {α β : Type} {l : List α} (f : α → β) {s0 : List β} {F : (List β × Nat → Option (List β)) → List β × Nat → Option (List β)} (hl : s0.length + l.length ≤ 34359738368)
    (hF : ∀ rec i s (hi : i < l.length), s.length ≤ 34359738368 → F rec (s, i) = rec (s ++ [f l[i]], i + 1)) (hE : ∀ rec s, F rec (s, l.length) = some s) : itr FUEL F (s0, 0) = some (s0 ++ l.map f) := by
  rw [foldLoopR (l := l) (fun s x => s ++ [f x]) (fun i s => s.length = s0.length + i) (fun s => some s) (by omega) (by simp) (fun i s hi hv => by simp; omega) (fun rec i s hi hv => hF rec i s hi (by omega)) (fun rec s _ => hE rec s), foldl_one]
theorem t_spec_BytesToInts (b : List Int) (h : b.length ≤ 34359738360) : m_spec_BytesToInts b = some (b2iF b) := by
  unfold m_spec_BytesToInts b2iF
  rw [mapR1 (l := b) IntKind.i64.wrap (by simp; omega) (fun rec i s hi hs => by simp only [lt_i hi, cond_true, atq_nat hi, bd_s, gd_ap1 hs]) (fun rec s => by simp only [ge_i, cond_false])]; rfl
theorem t_impl_BytesToInts (b : List Int) (h : b.length ≤ 34359738360) : m_impl_BytesToInts b = some (b2iF b) := by
  unfold m_impl_BytesToInts b2iF
  rw [mapR1 (l := b) IntKind.i64.wrap (by simp; omega) (fun rec i s hi hs => by simp only [lt_i hi, cond_true, atq_nat hi, bd_s, gd_ap1 hs]) (fun rec s => by simp only [ge_i, cond_false])]; rfl
theorem t_spec_DeriveFromString (k : Int) (s : ByteArray) (h : s.size ≤ 34359738300) : m_spec_DeriveFromString k s = some (deriveSF k s) := by
  have hb := bytesI_len s
  unfold m_spec_DeriveFromString deriveSF
  rw [map_idI, gd_t (by omega), bd_s, gd_t (by rw [b2i_len]; omega), bd_s, maxF_one (keyedI_range _ _).1]
theorem t_impl_DeriveFromString (k : Int) (s : ByteArray) (h : s.size ≤ 34359738300) : m_impl_DeriveFromString k s = some (deriveSF k s) := by
  have hb := bytesI_len s
  unfold m_impl_DeriveFromString deriveSF
  rw [map_idI, gd_t (by omega), bd_s, gd_t (by rw [b2i_len]; omega), bd_s]
theorem t_spec_SiteHash (s : ByteArray) (h : s.size ≤ 34359738300) : m_spec_SiteHash s = some (siteHashF s) := by unfold m_spec_SiteHash; rw [gd_t h]; rfl
theorem t_impl_SiteHash (s : ByteArray) (h : s.size ≤ 34359738300) : m_impl_SiteHash s = some (siteHashF s) := by unfold m_impl_SiteHash; rw [gd_t h]; rfl
theorem t_impl_FindEntry (b : D.Bundle) (s h : Int) (hz : b.sz ≤ 34359738368) : m_impl_FindEntry b s h = some (findEntryF b s h) := by
  simp only [D.Bundle.sz] at hz
  unfold m_impl_FindEntry findEntryF
  rw [findLoop (l := b.Entries) (fun e => e.Site == s && e.Handle == h) (by omega) (fun rec i hi => by
    simp only [lt_i hi, cond_true, atq_nat hi, bd_s]; cases (b.Entries[i].Site == s) <;> rfl) (fun rec => by simp only [ge_i, cond_false])]
theorem find_at {b : D.Bundle} {s h : Int} (hf : decide (findEntryF b s h ≥ 0) = true) : atq b.Entries (findEntryF b s h) = some (b.Entries.getD (findEntryF b s h).toNat default) ∧ (findEntryF b s h).toNat < b.Entries.length ∧ (b.Entries.getD (findEntryF b s h).toNat default).Site = s ∧ (b.Entries.getD (findEntryF b s h).toNat default).Handle = h := by
  have h0 := of_decide_eq_true hf
  obtain ⟨l1, e, l2, e1, e2, e3⟩ := findP_yes (p := fun e : D.Entry => e.Site == s && e.Handle == h) (l := b.Entries) (i := 0) h0
  have e3 : findEntryF b s h = ((0 + l1.length : Nat) : Int) := e3
  rw [Nat.zero_add] at e3
  have hl : l1.length < b.Entries.length := by rw [e1]; simp
  have hg : b.Entries.getD l1.length default = e := by rw [e1]; simp [List.getD]
  rw [e3, Int.toNat_natCast, hg]
  simp only [Bool.and_eq_true, beq_iff_eq] at e2
  refine ⟨?_, hl, e2.1, e2.2⟩
  rw [atq_nat hl]
  have : b.Entries[l1.length] = e := by rw [← hg, List.getD, List.getElem?_eq_getElem hl]; rfl
  rw [this]
theorem set_len (b : D.Bundle) (x : D.Entry) : (setF b x).Entries.length ≤ b.Entries.length + 1 := by
  unfold setF
  cases decide (findEntryF b x.Site x.Handle ≥ 0) with
  | true => simp
  | false =>
    have := congrArg List.length (List.takeWhile_append_dropWhile (p := fun e => lessF e x.Site x.Handle) (l := b.Entries))
    simp only [List.length_append] at this
    simp only [cond_false, List.length_append, List.length_singleton]; omega
theorem t_spec_PutEntry (b : D.Bundle) (s h : Int) (hz : b.sz ≤ 34359738360) : m_spec_PutEntry b s h = some (putF b s h) := by
  have hq := hz
  simp only [D.Bundle.sz] at hq
  have hs := set_len b (putE b s h)
  unfold m_spec_PutEntry putF
  have hS : (setF b (putE b s h)).sz ≤ 34359738368 := by simp only [D.Bundle.sz]; omega
  rw [gd_t (show b.sz ≤ 34359738368 by omega), gd_t (show b.sz ≤ 34359738368 by omega)]
  simp only [gd_t (show b.sz ≤ 34359738360 from hz), gd_t (show b.sz ≤ 34359738368 by omega), bd_s]
  cases hf : decide (findEntryF b s h ≥ 0) with
  | true =>
    obtain ⟨h1, h2, _, _⟩ := find_at hf
    have hv : putE b s h = ⟨s, h, IntKind.i64.wrap ((b.Entries.getD (findEntryF b s h).toNat default).Version + 1), false⟩ := by unfold putE putV; rw [hf]; rfl
    rw [cond_true, h1, bd_s]
    cases hd : (b.Entries.getD (findEntryF b s h).toNat default).Deleted with
    | false => rfl
    | true =>
      rw [bd_s, Bool.not_true, cond_false, nx_r, ← hv, gd_t hS]
      cases bundleOkF b <;> cases bundleOkF (setF b (putE b s h)) <;> rfl
  | false =>
    have hv : putE b s h = ⟨s, h, 1, false⟩ := by unfold putE putV; rw [hf]; rfl
    rw [cond_false, nx_r, ← hv, gd_t hS]
    cases bundleOkF b <;> cases bundleOkF (setF b (putE b s h)) <;> rfl
theorem tw_len {α : Type} {p : α → Bool} {l : List α} : (l.takeWhile p).length ≤ l.length := by
  have := congrArg List.length (List.takeWhile_append_dropWhile (p := p) (l := l))
  simp only [List.length_append] at this; omega
theorem tw_eq {α : Type} {p : α → Bool} {l : List α} : l.takeWhile p = l.take (l.takeWhile p).length ∧ l.dropWhile p = l.drop (l.takeWhile p).length := by
  have e := List.takeWhile_append_dropWhile (p := p) (l := l)
  have h1 := congrArg (List.take (l.takeWhile p).length) e
  have h2 := congrArg (List.drop (l.takeWhile p).length) e
  rw [List.take_left] at h1
  rw [List.drop_left] at h2
  exact ⟨h1, h2⟩
theorem pos_loop (b : D.Bundle) (x : D.Entry) (hz : b.Entries.length ≤ 34359738360) {F : (Int → Option Int) → Int → Option Int}
    (hF : ∀ rec i (hi : i < b.Entries.length), F rec (i : Int) = bif kless b.Entries[i] x then rec (((i + 1 : Nat) : Int)) else some (i : Int)) (hE : ∀ rec, F rec (b.Entries.length : Int) = some (b.Entries.length : Int)) : itr FUEL F 0 = some (((b.Entries.takeWhile fun e => lessF e x.Site x.Handle).length : Nat) : Int) := by
  refine itr0 (fun i s => i ≤ (b.Entries.takeWhile fun e => lessF e x.Site x.Handle).length ∧ s = (i : Int)) (b.Entries.takeWhile fun e => lessF e x.Site x.Handle).length _ (by have := tw_len (p := fun e => lessF e x.Site x.Handle) (l := b.Entries); omega) ⟨by omega, rfl⟩ (fun i s rec hi hv => ?_) (fun s rec hv => ?_)
  · obtain ⟨_, rfl⟩ := hv
    rcases tw_step (fun e => lessF e x.Site x.Handle) b.Entries i (by omega) with ⟨h1, h2, _⟩ | ⟨h1, _⟩
    · refine .inl ⟨_, ⟨by omega, rfl⟩, ?_⟩
      rw [hF rec i h1]
      have : kless b.Entries[i] x = true := h2
      rw [this]; rfl
    · omega
  · obtain ⟨_, rfl⟩ := hv
    rcases tw_step (fun e => lessF e x.Site x.Handle) b.Entries _ (Nat.le_refl _) with ⟨_, _, h3⟩ | ⟨_, h2⟩
    · omega
    · rcases Nat.lt_or_ge (b.Entries.takeWhile fun e => lessF e x.Site x.Handle).length b.Entries.length with hlt | hge
      · rw [hF rec _ hlt]
        have : kless b.Entries[(b.Entries.takeWhile fun e => lessF e x.Site x.Handle).length] x = false := h2 hlt
        rw [this]; rfl
      · have := tw_len (p := fun e => lessF e x.Site x.Handle) (l := b.Entries)
        have e : (b.Entries.takeWhile fun e => lessF e x.Site x.Handle).length = b.Entries.length := by omega
        rw [e, hE]
theorem t_impl_PutEntry (b : D.Bundle) (s h : Int) (hz : b.sz ≤ 34359738360) : m_impl_PutEntry b s h = some (putF b s h) := by
  have hq := hz
  simp only [D.Bundle.sz] at hq
  have hs := set_len b (putE b s h)
  have hS : (setF b (putE b s h)).sz ≤ 34359738368 := by simp only [D.Bundle.sz]; omega
  unfold m_impl_PutEntry putF
  simp only [gd_t (show b.sz ≤ 34359738368 by omega), bd_s]
  cases hb : bundleOkF b with
  | false => simp
  | true =>
    rw [Bool.not_true, cond_false]
    cases hf : decide (findEntryF b s h ≥ 0) with
    | true =>
      obtain ⟨h1, h2, h3, h4⟩ := find_at hf
      have h0 := of_decide_eq_true hf
      have hv : putE b s h = ⟨s, h, IntKind.i64.wrap ((b.Entries.getD (findEntryF b s h).toNat default).Version + 1), false⟩ := by unfold putE putV; rw [hf]; rfl
      have hset : setF b (putE b s h) = ⟨b.Entries.set (findEntryF b s h).toNat (putE b s h)⟩ := by
        unfold setF
        rw [show (putE b s h).Site = s from rfl, show (putE b s h).Handle = h from rfl, hf]; rfl
      rw [cond_true, h1, bd_s]
      cases hd : (b.Entries.getD (findEntryF b s h).toNat default).Deleted with
      | false => rfl
      | true =>
        rw [bd_s, Bool.not_true, cond_false]
        rw [atq_int h0 (by rw [List.length_set]; exact h2), bd_s, List.getElem_set_self, bd_s, nx_r, List.set_set, h3, h4, ← hv, ← hset, gd_t hS, bd_s]
        cases bundleOkF (setF b (putE b s h)) <;> rfl
    | false =>
      have hv : putE b s h = ⟨s, h, 1, false⟩ := by unfold putE putV; rw [hf]; rfl
      have hset : setF b (putE b s h) = ⟨b.Entries.takeWhile (fun e => lessF e s h) ++ [putE b s h] ++ b.Entries.dropWhile (fun e => lessF e s h)⟩ := by
        unfold setF
        rw [show (putE b s h).Site = s from rfl, show (putE b s h).Handle = h from rfl, hf]; rfl
      have hl := tw_len (p := fun e => lessF e s h) (l := b.Entries)
      obtain ⟨w1, w2⟩ := tw_eq (p := fun e => lessF e s h) (l := b.Entries)
      rw [← hv, cond_false, pos_loop b (putE b s h) hq (fun rec i hi => by
        simp only [lt_i hi, cond_true, atq_nat hi, bd_s, wrap64_id (show -9223372036854775808 ≤ (i : Int) + 1 by omega) (by omega)]; rfl) (fun rec => by simp only [ge_i, cond_false, bd_s])]
      rw [show (putE b s h).Site = s from rfl, show (putE b s h).Handle = h from rfl, bd_s, toNat_i]
      rw [gd_t (show hiOk b.Entries _ by unfold hiOk; omega), gd_t (show hiOk b.Entries _ by unfold hiOk; omega), gd_t (by unfold apOk; simp; omega), gd_t (by unfold apOk; simp; omega), gd_t (by unfold apOk; simp; omega), nx_r, List.nil_append, ← w1, ← w2, ← hset, gd_t hS, bd_s]
      cases bundleOkF (setF b (putE b s h)) <;> rfl
end
end Go.VK
