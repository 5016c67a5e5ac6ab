import Derived.Test.YtiojlennpdmapaaGreatXzFF
/-
  Printed by wip/tools (own work of this part): models of functions, walks over the value kit, and proofs.
-/
set_option linter.unusedVariables false
set_option linter.unusedSimpArgs false
set_option maxRecDepth 100000
set_option maxHeartbeats 4000000
namespace Go.VK
open Go.RowKit Go.Proofs
noncomputable section
open EV (itr)
def mkI (_ : Int) (k : Int) : Int × Int := (k, IntKind.i64.wrap (k + 1))
def mkU (_ : Int) (k : Int) : Int × Int := (IntKind.u8.wrap k, IntKind.i64.wrap (k + 1))
def mkB (_ : Bool) (k : Int) : Bool × Int := (k.tmod 3 == 0, IntKind.i64.wrap (k + 1))
def cn1 {α : Type} (_ : α) : Nat := 1
theorem mkI_ok : MkOk mkI cn1 := fun _ k h0 h1 => ⟨wrap1 h0 h1, rfl⟩
theorem mkU_ok : MkOk mkU cn1 := fun _ k h0 h1 => ⟨wrap1 h0 h1, rfl⟩
theorem mkB_ok : MkOk mkB cn1 := fun _ k h0 h1 => ⟨wrap1 h0 h1, rfl⟩
def D.Box.ok (x : D.Box) : Prop := (okL (fun _ : Int => True)) x.Data
noncomputable instance (x : D.Box) : Decidable x.ok := Classical.propDecidable _
def D.EpochBoxes.ok (x : D.EpochBoxes) : Prop := (okL D.Box.ok) x.Boxes
noncomputable instance (x : D.EpochBoxes) : Decidable x.ok := Classical.propDecidable _
def D.SealedBundle.ok (x : D.SealedBundle) : Prop := (okL (fun _ : Int => True)) x.Data
noncomputable instance (x : D.SealedBundle) : Decidable x.ok := Classical.propDecidable _
def D.Cloud.ok (x : D.Cloud) : Prop := (okL (fun _ : D.LogEntry => True)) x.Log ∧ D.EpochBoxes.ok x.Boxes ∧ (okL D.SealedBundle.ok) x.History
noncomputable instance (x : D.Cloud) : Decidable x.ok := Classical.propDecidable _
def D.Mailbox.ok (x : D.Mailbox) : Prop := (okL (fun _ : D.Notice => True)) x.Notices
noncomputable instance (x : D.Mailbox) : Decidable x.ok := Classical.propDecidable _
def D.Bundle.ok (x : D.Bundle) : Prop := (okL (fun _ : D.Entry => True)) x.Entries
noncomputable instance (x : D.Bundle) : Decidable x.ok := Classical.propDecidable _
def D.Device.ok (x : D.Device) : Prop := (okL (fun _ : D.LogEntry => True)) x.Log ∧ D.Bundle.ok x.Bundle
noncomputable instance (x : D.Device) : Decidable x.ok := Classical.propDecidable _
def D.Account.ok (x : D.Account) : Prop := (okL (fun _ : D.Credential => True)) x.Credentials
noncomputable instance (x : D.Account) : Decidable x.ok := Classical.propDecidable _
def D.ChallengeBook.ok (x : D.ChallengeBook) : Prop := (okL (fun _ : D.Challenge => True)) x.Open
noncomputable instance (x : D.ChallengeBook) : Decidable x.ok := Classical.propDecidable _
def D.Site.ok (x : D.Site) : Prop := okS x.Name ∧ (okL D.Account.ok) x.Accounts ∧ D.ChallengeBook.ok x.Book ∧ (okL (fun _ : Int => True)) x.Logins
noncomputable instance (x : D.Site) : Decidable x.ok := Classical.propDecidable _
def D.KeeperHost.ok (x : D.KeeperHost) : Prop := (okL (fun _ : D.Keeper => True)) x.Saved
noncomputable instance (x : D.KeeperHost) : Decidable x.ok := Classical.propDecidable _
def D.World.ok (x : D.World) : Prop := (okL D.Device.ok) x.Devices ∧ (okL (fun _ : Bool => True)) x.Stolen ∧ D.Cloud.ok x.Cloud ∧ (okL D.Site.ok) x.Sites ∧ (okL D.KeeperHost.ok) x.Hosts ∧ D.Mailbox.ok x.Mail
noncomputable instance (x : D.World) : Decidable x.ok := Classical.propDecidable _
-- laws_szLogEntryS
def m_laws_szLogEntryS (a0 : List D.LogEntry) (a1 : Int) : Option (Int) := bif (decide (IntKind.i64.wrap (a1 - (↑a0.length : Int)) < (0 : Int))) then (some (-(1 : Int))) else (some (IntKind.i64.wrap (a1 - (↑a0.length : Int))))
theorem t_laws_szLogEntryS (a0 : List D.LogEntry) (a1 : Int) (h : SzP (okL (fun _ : D.LogEntry => True)) a0 a1) : m_laws_szLogEntryS a0 a1 = some (szI (a0.length) a1) := by
  obtain ⟨h1, h3⟩ := h
  unfold m_laws_szLogEntryS
  exact szFlat h1.1 h3

-- laws_szEntryS
def m_laws_szEntryS (a0 : List D.Entry) (a1 : Int) : Option (Int) := bif (decide (IntKind.i64.wrap (a1 - (↑a0.length : Int)) < (0 : Int))) then (some (-(1 : Int))) else (some (IntKind.i64.wrap (a1 - (↑a0.length : Int))))
theorem t_laws_szEntryS (a0 : List D.Entry) (a1 : Int) (h : SzP (okL (fun _ : D.Entry => True)) a0 a1) : m_laws_szEntryS a0 a1 = some (szI (a0.length) a1) := by
  obtain ⟨h1, h3⟩ := h
  unfold m_laws_szEntryS
  exact szFlat h1.1 h3

-- laws_szBundle
def m_laws_szBundle (a0 : D.Bundle) (a1 : Int) : Option (Int) := bd (gd (SzP (okL fun (x : D.Entry) => True) a0.Entries a1) (some (szI a0.Entries.length a1))) fun (z0 : (Int)) => bif (decide (z0 < (0 : Int))) then (some (-(1 : Int))) else (some z0)
theorem t_laws_szBundle (a0 : D.Bundle) (a1 : Int) (h : SzP D.Bundle.ok a0 a1) : m_laws_szBundle a0 a1 = some (szI (a0.sz) a1) := by
  obtain ⟨h1, h3⟩ := h
  unfold m_laws_szBundle
  have e : a0.sz = (a0.Entries.length) := by simp only [D.Bundle.sz] <;> omega
  rw [e]
  rw [gd_t (show SzP (okL (fun _ : D.Entry => True)) (a0.Entries) _ from ⟨h1, h3⟩), bd_s]
  exact szEnd h3

-- laws_szDevice
def m_laws_szDevice (a0 : D.Device) (a1 : Int) : Option (Int) := bd (gd (SzP (okL fun (x : D.LogEntry) => True) a0.Log a1) (some (szI a0.Log.length a1))) fun (z0 : (Int)) => bif (decide (z0 < (0 : Int))) then (some (-(1 : Int))) else (bd (gd (SzP D.Bundle.ok a0.Bundle z0) (some (szI a0.Bundle.sz z0))) fun (z1 : (Int)) => bif (decide (z1 < (0 : Int))) then (some (-(1 : Int))) else (some z1))
theorem t_laws_szDevice (a0 : D.Device) (a1 : Int) (h : SzP D.Device.ok a0 a1) : m_laws_szDevice a0 a1 = some (szI (a0.sz) a1) := by
  obtain ⟨h1, h3⟩ := h
  unfold m_laws_szDevice
  have e : a0.sz = ((a0.Log.length) + (a0.Bundle.sz)) := by simp only [D.Bundle.sz, D.Device.sz, D.KeyStore.sz] <;> omega
  rw [e]
  rw [gd_t (show SzP (okL (fun _ : D.LogEntry => True)) (a0.Log) _ from ⟨h1.1, h3⟩), bd_s]
  refine szGo h3 (fun p1 => ?_)
  revert p1
  generalize szI (a0.Log.length) a1 = l1
  intro p1
  rw [gd_t (show SzP D.Bundle.ok (a0.Bundle) _ from ⟨h1.2, p1⟩), bd_s]
  exact szEnd p1

-- laws_szDeviceS
def m_laws_szDeviceS (a0 : List D.Device) (a1 : Int) : Option (Int) := bif (decide (IntKind.i64.wrap (a1 - (↑a0.length : Int)) < (0 : Int))) then (some (-(1 : Int))) else (nx (itr (α := (Int ⊕ Int)) FUEL (fun rec1 (i1 : (Int × Nat)) => bif (decide ((↑i1.snd : Int) < (↑a0.length : Int))) then (bd (atq a0 (↑i1.snd : Int)) fun (z2 : (D.Device)) => bd (gd (SzP D.Device.ok z2 i1.fst) (some (szI z2.sz i1.fst))) fun (z3 : (Int)) => bif (decide (z3 < (0 : Int))) then (some (.inl (-(1 : Int)))) else (rec1 ((z3, (i1.snd + 1))))) else (some (.inr (i1.fst)))) ((IntKind.i64.wrap (a1 - (↑a0.length : Int)), 0))) fun (z0 : (Int)) => some z0)
theorem t_laws_szDeviceS (a0 : List D.Device) (a1 : Int) (h : SzP (okL D.Device.ok) a0 a1) : m_laws_szDeviceS a0 a1 = some (szI (a0.length + (a0.map D.Device.sz).sum) a1) := by
  unfold m_laws_szDeviceS
  exact szList h (fun rec i left hi hp => by simp only [lt_i hi, cond_true, atq_nat hi, bd_s, gd_t hp]) (fun rec left => by simp only [ge_i, cond_false])

-- laws_szBoolS
def m_laws_szBoolS (a0 : List Bool) (a1 : Int) : Option (Int) := bif (decide (IntKind.i64.wrap (a1 - (↑a0.length : Int)) < (0 : Int))) then (some (-(1 : Int))) else (some (IntKind.i64.wrap (a1 - (↑a0.length : Int))))
theorem t_laws_szBoolS (a0 : List Bool) (a1 : Int) (h : SzP (okL (fun _ : Bool => True)) a0 a1) : m_laws_szBoolS a0 a1 = some (szI (a0.length) a1) := by
  obtain ⟨h1, h3⟩ := h
  unfold m_laws_szBoolS
  exact szFlat h1.1 h3

-- laws_szByteS
def m_laws_szByteS (a0 : List Int) (a1 : Int) : Option (Int) := bif (decide (IntKind.i64.wrap (a1 - (↑a0.length : Int)) < (0 : Int))) then (some (-(1 : Int))) else (some (IntKind.i64.wrap (a1 - (↑a0.length : Int))))
theorem t_laws_szByteS (a0 : List Int) (a1 : Int) (h : SzP (okL (fun _ : Int => True)) a0 a1) : m_laws_szByteS a0 a1 = some (szI (a0.length) a1) := by
  obtain ⟨h1, h3⟩ := h
  unfold m_laws_szByteS
  exact szFlat h1.1 h3

-- laws_szBox
def m_laws_szBox (a0 : D.Box) (a1 : Int) : Option (Int) := bd (gd (SzP (okL fun (x : Int) => True) a0.Data a1) (some (szI a0.Data.length a1))) fun (z0 : (Int)) => bif (decide (z0 < (0 : Int))) then (some (-(1 : Int))) else (some z0)
theorem t_laws_szBox (a0 : D.Box) (a1 : Int) (h : SzP D.Box.ok a0 a1) : m_laws_szBox a0 a1 = some (szI (a0.sz) a1) := by
  obtain ⟨h1, h3⟩ := h
  unfold m_laws_szBox
  have e : a0.sz = (a0.Data.length) := by simp only [D.Box.sz] <;> omega
  rw [e]
  rw [gd_t (show SzP (okL (fun _ : Int => True)) (a0.Data) _ from ⟨h1, h3⟩), bd_s]
  exact szEnd h3

-- laws_szBoxS
def m_laws_szBoxS (a0 : List D.Box) (a1 : Int) : Option (Int) := bif (decide (IntKind.i64.wrap (a1 - (↑a0.length : Int)) < (0 : Int))) then (some (-(1 : Int))) else (nx (itr (α := (Int ⊕ Int)) FUEL (fun rec1 (i1 : (Int × Nat)) => bif (decide ((↑i1.snd : Int) < (↑a0.length : Int))) then (bd (atq a0 (↑i1.snd : Int)) fun (z2 : (D.Box)) => bd (gd (SzP D.Box.ok z2 i1.fst) (some (szI z2.sz i1.fst))) fun (z3 : (Int)) => bif (decide (z3 < (0 : Int))) then (some (.inl (-(1 : Int)))) else (rec1 ((z3, (i1.snd + 1))))) else (some (.inr (i1.fst)))) ((IntKind.i64.wrap (a1 - (↑a0.length : Int)), 0))) fun (z0 : (Int)) => some z0)
theorem t_laws_szBoxS (a0 : List D.Box) (a1 : Int) (h : SzP (okL D.Box.ok) a0 a1) : m_laws_szBoxS a0 a1 = some (szI (a0.length + (a0.map D.Box.sz).sum) a1) := by
  unfold m_laws_szBoxS
  exact szList h (fun rec i left hi hp => by simp only [lt_i hi, cond_true, atq_nat hi, bd_s, gd_t hp]) (fun rec left => by simp only [ge_i, cond_false])

-- laws_szEpochBoxes
def m_laws_szEpochBoxes (a0 : D.EpochBoxes) (a1 : Int) : Option (Int) := bd (gd (SzP (okL D.Box.ok) a0.Boxes a1) (some (szI (a0.Boxes.length + (List.map D.Box.sz a0.Boxes).sum) a1))) fun (z0 : (Int)) => bif (decide (z0 < (0 : Int))) then (some (-(1 : Int))) else (some z0)
theorem t_laws_szEpochBoxes (a0 : D.EpochBoxes) (a1 : Int) (h : SzP D.EpochBoxes.ok a0 a1) : m_laws_szEpochBoxes a0 a1 = some (szI (a0.sz) a1) := by
  obtain ⟨h1, h3⟩ := h
  unfold m_laws_szEpochBoxes
  have e : a0.sz = (a0.Boxes.length + (a0.Boxes.map D.Box.sz).sum) := by simp only [D.EpochBoxes.sz] <;> omega
  rw [e]
  rw [gd_t (show SzP (okL D.Box.ok) (a0.Boxes) _ from ⟨h1, h3⟩), bd_s]
  exact szEnd h3

-- laws_szSealedBundle
def m_laws_szSealedBundle (a0 : D.SealedBundle) (a1 : Int) : Option (Int) := bd (gd (SzP (okL fun (x : Int) => True) a0.Data a1) (some (szI a0.Data.length a1))) fun (z0 : (Int)) => bif (decide (z0 < (0 : Int))) then (some (-(1 : Int))) else (some z0)
theorem t_laws_szSealedBundle (a0 : D.SealedBundle) (a1 : Int) (h : SzP D.SealedBundle.ok a0 a1) : m_laws_szSealedBundle a0 a1 = some (szI (a0.sz) a1) := by
  obtain ⟨h1, h3⟩ := h
  unfold m_laws_szSealedBundle
  have e : a0.sz = (a0.Data.length) := by simp only [D.SealedBundle.sz] <;> omega
  rw [e]
  rw [gd_t (show SzP (okL (fun _ : Int => True)) (a0.Data) _ from ⟨h1, h3⟩), bd_s]
  exact szEnd h3

-- laws_szSealedBundleS
def m_laws_szSealedBundleS (a0 : List D.SealedBundle) (a1 : Int) : Option (Int) := bif (decide (IntKind.i64.wrap (a1 - (↑a0.length : Int)) < (0 : Int))) then (some (-(1 : Int))) else (nx (itr (α := (Int ⊕ Int)) FUEL (fun rec1 (i1 : (Int × Nat)) => bif (decide ((↑i1.snd : Int) < (↑a0.length : Int))) then (bd (atq a0 (↑i1.snd : Int)) fun (z2 : (D.SealedBundle)) => bd (gd (SzP D.SealedBundle.ok z2 i1.fst) (some (szI z2.sz i1.fst))) fun (z3 : (Int)) => bif (decide (z3 < (0 : Int))) then (some (.inl (-(1 : Int)))) else (rec1 ((z3, (i1.snd + 1))))) else (some (.inr (i1.fst)))) ((IntKind.i64.wrap (a1 - (↑a0.length : Int)), 0))) fun (z0 : (Int)) => some z0)
theorem t_laws_szSealedBundleS (a0 : List D.SealedBundle) (a1 : Int) (h : SzP (okL D.SealedBundle.ok) a0 a1) : m_laws_szSealedBundleS a0 a1 = some (szI (a0.length + (a0.map D.SealedBundle.sz).sum) a1) := by
  unfold m_laws_szSealedBundleS
  exact szList h (fun rec i left hi hp => by simp only [lt_i hi, cond_true, atq_nat hi, bd_s, gd_t hp]) (fun rec left => by simp only [ge_i, cond_false])

-- laws_szCloud
def m_laws_szCloud (a0 : D.Cloud) (a1 : Int) : Option (Int) := bd (gd (SzP (okL fun (x : D.LogEntry) => True) a0.Log a1) (some (szI a0.Log.length a1))) fun (z0 : (Int)) => bif (decide (z0 < (0 : Int))) then (some (-(1 : Int))) else (bd (gd (SzP D.EpochBoxes.ok a0.Boxes z0) (some (szI a0.Boxes.sz z0))) fun (z1 : (Int)) => bif (decide (z1 < (0 : Int))) then (some (-(1 : Int))) else (bd (gd (SzP (okL D.SealedBundle.ok) a0.History z1) (some (szI (a0.History.length + (List.map D.SealedBundle.sz a0.History).sum) z1))) fun (z2 : (Int)) => bif (decide (z2 < (0 : Int))) then (some (-(1 : Int))) else (some z2)))
theorem t_laws_szCloud (a0 : D.Cloud) (a1 : Int) (h : SzP D.Cloud.ok a0 a1) : m_laws_szCloud a0 a1 = some (szI (a0.sz) a1) := by
  obtain ⟨h1, h3⟩ := h
  unfold m_laws_szCloud
  have e : a0.sz = ((a0.Log.length) + ((a0.Boxes.sz) + (a0.History.length + (a0.History.map D.SealedBundle.sz).sum))) := by simp only [D.Cloud.sz, D.EpochBoxes.sz] <;> omega
  rw [e]
  rw [gd_t (show SzP (okL (fun _ : D.LogEntry => True)) (a0.Log) _ from ⟨h1.1, h3⟩), bd_s]
  refine szGo h3 (fun p1 => ?_)
  revert p1
  generalize szI (a0.Log.length) a1 = l1
  intro p1
  rw [gd_t (show SzP D.EpochBoxes.ok (a0.Boxes) _ from ⟨h1.2.1, p1⟩), bd_s]
  refine szGo p1 (fun p2 => ?_)
  revert p2
  generalize szI (a0.Boxes.sz) l1 = l2
  intro p2
  rw [gd_t (show SzP (okL D.SealedBundle.ok) (a0.History) _ from ⟨h1.2.2, p2⟩), bd_s]
  exact szEnd p2

-- laws_szCredentialS
def m_laws_szCredentialS (a0 : List D.Credential) (a1 : Int) : Option (Int) := bif (decide (IntKind.i64.wrap (a1 - (↑a0.length : Int)) < (0 : Int))) then (some (-(1 : Int))) else (some (IntKind.i64.wrap (a1 - (↑a0.length : Int))))
theorem t_laws_szCredentialS (a0 : List D.Credential) (a1 : Int) (h : SzP (okL (fun _ : D.Credential => True)) a0 a1) : m_laws_szCredentialS a0 a1 = some (szI (a0.length) a1) := by
  obtain ⟨h1, h3⟩ := h
  unfold m_laws_szCredentialS
  exact szFlat h1.1 h3

-- laws_szAccount
def m_laws_szAccount (a0 : D.Account) (a1 : Int) : Option (Int) := bd (gd (SzP (okL fun (x : D.Credential) => True) a0.Credentials a1) (some (szI a0.Credentials.length a1))) fun (z0 : (Int)) => bif (decide (z0 < (0 : Int))) then (some (-(1 : Int))) else (some z0)
theorem t_laws_szAccount (a0 : D.Account) (a1 : Int) (h : SzP D.Account.ok a0 a1) : m_laws_szAccount a0 a1 = some (szI (a0.sz) a1) := by
  obtain ⟨h1, h3⟩ := h
  unfold m_laws_szAccount
  have e : a0.sz = (a0.Credentials.length) := by simp only [D.Account.sz] <;> omega
  rw [e]
  rw [gd_t (show SzP (okL (fun _ : D.Credential => True)) (a0.Credentials) _ from ⟨h1, h3⟩), bd_s]
  exact szEnd h3

-- laws_szAccountS
def m_laws_szAccountS (a0 : List D.Account) (a1 : Int) : Option (Int) := bif (decide (IntKind.i64.wrap (a1 - (↑a0.length : Int)) < (0 : Int))) then (some (-(1 : Int))) else (nx (itr (α := (Int ⊕ Int)) FUEL (fun rec1 (i1 : (Int × Nat)) => bif (decide ((↑i1.snd : Int) < (↑a0.length : Int))) then (bd (atq a0 (↑i1.snd : Int)) fun (z2 : (D.Account)) => bd (gd (SzP D.Account.ok z2 i1.fst) (some (szI z2.sz i1.fst))) fun (z3 : (Int)) => bif (decide (z3 < (0 : Int))) then (some (.inl (-(1 : Int)))) else (rec1 ((z3, (i1.snd + 1))))) else (some (.inr (i1.fst)))) ((IntKind.i64.wrap (a1 - (↑a0.length : Int)), 0))) fun (z0 : (Int)) => some z0)
theorem t_laws_szAccountS (a0 : List D.Account) (a1 : Int) (h : SzP (okL D.Account.ok) a0 a1) : m_laws_szAccountS a0 a1 = some (szI (a0.length + (a0.map D.Account.sz).sum) a1) := by
  unfold m_laws_szAccountS
  exact szList h (fun rec i left hi hp => by simp only [lt_i hi, cond_true, atq_nat hi, bd_s, gd_t hp]) (fun rec left => by simp only [ge_i, cond_false])

-- laws_szChallengeS
def m_laws_szChallengeS (a0 : List D.Challenge) (a1 : Int) : Option (Int) := bif (decide (IntKind.i64.wrap (a1 - (↑a0.length : Int)) < (0 : Int))) then (some (-(1 : Int))) else (some (IntKind.i64.wrap (a1 - (↑a0.length : Int))))
theorem t_laws_szChallengeS (a0 : List D.Challenge) (a1 : Int) (h : SzP (okL (fun _ : D.Challenge => True)) a0 a1) : m_laws_szChallengeS a0 a1 = some (szI (a0.length) a1) := by
  obtain ⟨h1, h3⟩ := h
  unfold m_laws_szChallengeS
  exact szFlat h1.1 h3

-- laws_szChallengeBook
def m_laws_szChallengeBook (a0 : D.ChallengeBook) (a1 : Int) : Option (Int) := bd (gd (SzP (okL fun (x : D.Challenge) => True) a0.Open a1) (some (szI a0.Open.length a1))) fun (z0 : (Int)) => bif (decide (z0 < (0 : Int))) then (some (-(1 : Int))) else (some z0)
theorem t_laws_szChallengeBook (a0 : D.ChallengeBook) (a1 : Int) (h : SzP D.ChallengeBook.ok a0 a1) : m_laws_szChallengeBook a0 a1 = some (szI (a0.sz) a1) := by
  obtain ⟨h1, h3⟩ := h
  unfold m_laws_szChallengeBook
  have e : a0.sz = (a0.Open.length) := by simp only [D.ChallengeBook.sz] <;> omega
  rw [e]
  rw [gd_t (show SzP (okL (fun _ : D.Challenge => True)) (a0.Open) _ from ⟨h1, h3⟩), bd_s]
  exact szEnd h3

-- laws_szIntS
def m_laws_szIntS (a0 : List Int) (a1 : Int) : Option (Int) := bif (decide (IntKind.i64.wrap (a1 - (↑a0.length : Int)) < (0 : Int))) then (some (-(1 : Int))) else (some (IntKind.i64.wrap (a1 - (↑a0.length : Int))))
theorem t_laws_szIntS (a0 : List Int) (a1 : Int) (h : SzP (okL (fun _ : Int => True)) a0 a1) : m_laws_szIntS a0 a1 = some (szI (a0.length) a1) := by
  obtain ⟨h1, h3⟩ := h
  unfold m_laws_szIntS
  exact szFlat h1.1 h3

-- laws_szSite
def m_laws_szSite (a0 : D.Site) (a1 : Int) : Option (Int) := bif (decide (IntKind.i64.wrap (a1 - (↑a0.Name.size : Int)) < (0 : Int))) then (some (-(1 : Int))) else (bd (gd (SzP (okL D.Account.ok) a0.Accounts (IntKind.i64.wrap (a1 - (↑a0.Name.size : Int)))) (some (szI (a0.Accounts.length + (List.map D.Account.sz a0.Accounts).sum) (IntKind.i64.wrap (a1 - (↑a0.Name.size : Int)))))) fun (z0 : (Int)) => bif (decide (z0 < (0 : Int))) then (some (-(1 : Int))) else (bd (gd (SzP D.ChallengeBook.ok a0.Book z0) (some (szI a0.Book.sz z0))) fun (z1 : (Int)) => bif (decide (z1 < (0 : Int))) then (some (-(1 : Int))) else (bd (gd (SzP (okL fun (x : Int) => True) a0.Logins z1) (some (szI a0.Logins.length z1))) fun (z2 : (Int)) => bif (decide (z2 < (0 : Int))) then (some (-(1 : Int))) else (some z2))))
theorem t_laws_szSite (a0 : D.Site) (a1 : Int) (h : SzP D.Site.ok a0 a1) : m_laws_szSite a0 a1 = some (szI (a0.sz) a1) := by
  obtain ⟨h1, h3⟩ := h
  unfold m_laws_szSite
  have e : a0.sz = ((a0.Name.size) + ((a0.Accounts.length + (a0.Accounts.map D.Account.sz).sum) + ((a0.Book.sz) + (a0.Logins.length)))) := by simp only [D.ChallengeBook.sz, D.Site.sz] <;> omega
  rw [e]
  have w0 : IntKind.i64.wrap (a1 - ((a0.Name).size : Int)) = a1 - ((a0.Name).size : Int) := by have := h3.1; have := h3.2; have : (a0.Name).size ≤ 9223372036854775807 := h1.1; exact wrap64_id (by omega) (by omega)
  rw [w0]
  refine szStr h3 (fun p1 => ?_)
  revert p1
  generalize a1 - ((a0.Name).size : Int) = l1
  intro p1
  rw [gd_t (show SzP (okL D.Account.ok) (a0.Accounts) _ from ⟨h1.2.1, p1⟩), bd_s]
  refine szGo p1 (fun p2 => ?_)
  revert p2
  generalize szI (a0.Accounts.length + (a0.Accounts.map D.Account.sz).sum) l1 = l2
  intro p2
  rw [gd_t (show SzP D.ChallengeBook.ok (a0.Book) _ from ⟨h1.2.2.1, p2⟩), bd_s]
  refine szGo p2 (fun p3 => ?_)
  revert p3
  generalize szI (a0.Book.sz) l2 = l3
  intro p3
  rw [gd_t (show SzP (okL (fun _ : Int => True)) (a0.Logins) _ from ⟨h1.2.2.2, p3⟩), bd_s]
  exact szEnd p3

-- laws_szSiteS
def m_laws_szSiteS (a0 : List D.Site) (a1 : Int) : Option (Int) := bif (decide (IntKind.i64.wrap (a1 - (↑a0.length : Int)) < (0 : Int))) then (some (-(1 : Int))) else (nx (itr (α := (Int ⊕ Int)) FUEL (fun rec1 (i1 : (Int × Nat)) => bif (decide ((↑i1.snd : Int) < (↑a0.length : Int))) then (bd (atq a0 (↑i1.snd : Int)) fun (z2 : (D.Site)) => bd (gd (SzP D.Site.ok z2 i1.fst) (some (szI z2.sz i1.fst))) fun (z3 : (Int)) => bif (decide (z3 < (0 : Int))) then (some (.inl (-(1 : Int)))) else (rec1 ((z3, (i1.snd + 1))))) else (some (.inr (i1.fst)))) ((IntKind.i64.wrap (a1 - (↑a0.length : Int)), 0))) fun (z0 : (Int)) => some z0)
theorem t_laws_szSiteS (a0 : List D.Site) (a1 : Int) (h : SzP (okL D.Site.ok) a0 a1) : m_laws_szSiteS a0 a1 = some (szI (a0.length + (a0.map D.Site.sz).sum) a1) := by
  unfold m_laws_szSiteS
  exact szList h (fun rec i left hi hp => by simp only [lt_i hi, cond_true, atq_nat hi, bd_s, gd_t hp]) (fun rec left => by simp only [ge_i, cond_false])

-- laws_szKeeperS
def m_laws_szKeeperS (a0 : List D.Keeper) (a1 : Int) : Option (Int) := bif (decide (IntKind.i64.wrap (a1 - (↑a0.length : Int)) < (0 : Int))) then (some (-(1 : Int))) else (some (IntKind.i64.wrap (a1 - (↑a0.length : Int))))
theorem t_laws_szKeeperS (a0 : List D.Keeper) (a1 : Int) (h : SzP (okL (fun _ : D.Keeper => True)) a0 a1) : m_laws_szKeeperS a0 a1 = some (szI (a0.length) a1) := by
  obtain ⟨h1, h3⟩ := h
  unfold m_laws_szKeeperS
  exact szFlat h1.1 h3

-- laws_szKeeperHost
def m_laws_szKeeperHost (a0 : D.KeeperHost) (a1 : Int) : Option (Int) := bd (gd (SzP (okL fun (x : D.Keeper) => True) a0.Saved a1) (some (szI a0.Saved.length a1))) fun (z0 : (Int)) => bif (decide (z0 < (0 : Int))) then (some (-(1 : Int))) else (some z0)
theorem t_laws_szKeeperHost (a0 : D.KeeperHost) (a1 : Int) (h : SzP D.KeeperHost.ok a0 a1) : m_laws_szKeeperHost a0 a1 = some (szI (a0.sz) a1) := by
  obtain ⟨h1, h3⟩ := h
  unfold m_laws_szKeeperHost
  have e : a0.sz = (a0.Saved.length) := by simp only [D.Keeper.sz, D.KeeperHost.sz, D.Share.sz] <;> omega
  rw [e]
  rw [gd_t (show SzP (okL (fun _ : D.Keeper => True)) (a0.Saved) _ from ⟨h1, h3⟩), bd_s]
  exact szEnd h3

-- laws_szKeeperHostS
def m_laws_szKeeperHostS (a0 : List D.KeeperHost) (a1 : Int) : Option (Int) := bif (decide (IntKind.i64.wrap (a1 - (↑a0.length : Int)) < (0 : Int))) then (some (-(1 : Int))) else (nx (itr (α := (Int ⊕ Int)) FUEL (fun rec1 (i1 : (Int × Nat)) => bif (decide ((↑i1.snd : Int) < (↑a0.length : Int))) then (bd (atq a0 (↑i1.snd : Int)) fun (z2 : (D.KeeperHost)) => bd (gd (SzP D.KeeperHost.ok z2 i1.fst) (some (szI z2.sz i1.fst))) fun (z3 : (Int)) => bif (decide (z3 < (0 : Int))) then (some (.inl (-(1 : Int)))) else (rec1 ((z3, (i1.snd + 1))))) else (some (.inr (i1.fst)))) ((IntKind.i64.wrap (a1 - (↑a0.length : Int)), 0))) fun (z0 : (Int)) => some z0)
theorem t_laws_szKeeperHostS (a0 : List D.KeeperHost) (a1 : Int) (h : SzP (okL D.KeeperHost.ok) a0 a1) : m_laws_szKeeperHostS a0 a1 = some (szI (a0.length + (a0.map D.KeeperHost.sz).sum) a1) := by
  unfold m_laws_szKeeperHostS
  exact szList h (fun rec i left hi hp => by simp only [lt_i hi, cond_true, atq_nat hi, bd_s, gd_t hp]) (fun rec left => by simp only [ge_i, cond_false])

-- laws_szNoticeS
def m_laws_szNoticeS (a0 : List D.Notice) (a1 : Int) : Option (Int) := bif (decide (IntKind.i64.wrap (a1 - (↑a0.length : Int)) < (0 : Int))) then (some (-(1 : Int))) else (some (IntKind.i64.wrap (a1 - (↑a0.length : Int))))
theorem t_laws_szNoticeS (a0 : List D.Notice) (a1 : Int) (h : SzP (okL (fun _ : D.Notice => True)) a0 a1) : m_laws_szNoticeS a0 a1 = some (szI (a0.length) a1) := by
  obtain ⟨h1, h3⟩ := h
  unfold m_laws_szNoticeS
  exact szFlat h1.1 h3

-- laws_szMailbox
def m_laws_szMailbox (a0 : D.Mailbox) (a1 : Int) : Option (Int) := bd (gd (SzP (okL fun (x : D.Notice) => True) a0.Notices a1) (some (szI a0.Notices.length a1))) fun (z0 : (Int)) => bif (decide (z0 < (0 : Int))) then (some (-(1 : Int))) else (some z0)
theorem t_laws_szMailbox (a0 : D.Mailbox) (a1 : Int) (h : SzP D.Mailbox.ok a0 a1) : m_laws_szMailbox a0 a1 = some (szI (a0.sz) a1) := by
  obtain ⟨h1, h3⟩ := h
  unfold m_laws_szMailbox
  have e : a0.sz = (a0.Notices.length) := by simp only [D.Mailbox.sz] <;> omega
  rw [e]
  rw [gd_t (show SzP (okL (fun _ : D.Notice => True)) (a0.Notices) _ from ⟨h1, h3⟩), bd_s]
  exact szEnd h3

-- laws_szWorld
def m_laws_szWorld (a0 : D.World) (a1 : Int) : Option (Int) := bd (gd (SzP (okL D.Device.ok) a0.Devices a1) (some (szI (a0.Devices.length + (List.map D.Device.sz a0.Devices).sum) a1))) fun (z0 : (Int)) => bif (decide (z0 < (0 : Int))) then (some (-(1 : Int))) else (bd (gd (SzP (okL fun (x : Bool) => True) a0.Stolen z0) (some (szI a0.Stolen.length z0))) fun (z1 : (Int)) => bif (decide (z1 < (0 : Int))) then (some (-(1 : Int))) else (bd (gd (SzP D.Cloud.ok a0.Cloud z1) (some (szI a0.Cloud.sz z1))) fun (z2 : (Int)) => bif (decide (z2 < (0 : Int))) then (some (-(1 : Int))) else (bd (gd (SzP (okL D.Site.ok) a0.Sites z2) (some (szI (a0.Sites.length + (List.map D.Site.sz a0.Sites).sum) z2))) fun (z3 : (Int)) => bif (decide (z3 < (0 : Int))) then (some (-(1 : Int))) else (bd (gd (SzP (okL D.KeeperHost.ok) a0.Hosts z3) (some (szI (a0.Hosts.length + (List.map D.KeeperHost.sz a0.Hosts).sum) z3))) fun (z4 : (Int)) => bif (decide (z4 < (0 : Int))) then (some (-(1 : Int))) else (bd (gd (SzP D.Mailbox.ok a0.Mail z4) (some (szI a0.Mail.sz z4))) fun (z5 : (Int)) => bif (decide (z5 < (0 : Int))) then (some (-(1 : Int))) else (some z5))))))
theorem t_laws_szWorld (a0 : D.World) (a1 : Int) (h : SzP D.World.ok a0 a1) : m_laws_szWorld a0 a1 = some (szI (a0.sz) a1) := by
  obtain ⟨h1, h3⟩ := h
  unfold m_laws_szWorld
  have e : a0.sz = ((a0.Devices.length + (a0.Devices.map D.Device.sz).sum) + ((a0.Stolen.length) + ((a0.Cloud.sz) + ((a0.Sites.length + (a0.Sites.map D.Site.sz).sum) + ((a0.Hosts.length + (a0.Hosts.map D.KeeperHost.sz).sum) + (a0.Mail.sz)))))) := by simp only [D.Cloud.sz, D.EpochBoxes.sz, D.Mailbox.sz, D.Vault.sz, D.World.sz] <;> omega
  rw [e]
  rw [gd_t (show SzP (okL D.Device.ok) (a0.Devices) _ from ⟨h1.1, h3⟩), bd_s]
  refine szGo h3 (fun p1 => ?_)
  revert p1
  generalize szI (a0.Devices.length + (a0.Devices.map D.Device.sz).sum) a1 = l1
  intro p1
  rw [gd_t (show SzP (okL (fun _ : Bool => True)) (a0.Stolen) _ from ⟨h1.2.1, p1⟩), bd_s]
  refine szGo p1 (fun p2 => ?_)
  revert p2
  generalize szI (a0.Stolen.length) l1 = l2
  intro p2
  rw [gd_t (show SzP D.Cloud.ok (a0.Cloud) _ from ⟨h1.2.2.1, p2⟩), bd_s]
  refine szGo p2 (fun p3 => ?_)
  revert p3
  generalize szI (a0.Cloud.sz) l2 = l3
  intro p3
  rw [gd_t (show SzP (okL D.Site.ok) (a0.Sites) _ from ⟨h1.2.2.2.1, p3⟩), bd_s]
  refine szGo p3 (fun p4 => ?_)
  revert p4
  generalize szI (a0.Sites.length + (a0.Sites.map D.Site.sz).sum) l3 = l4
  intro p4
  rw [gd_t (show SzP (okL D.KeeperHost.ok) (a0.Hosts) _ from ⟨h1.2.2.2.2.1, p4⟩), bd_s]
  refine szGo p4 (fun p5 => ?_)
  revert p5
  generalize szI (a0.Hosts.length + (a0.Hosts.map D.KeeperHost.sz).sum) l4 = l5
  intro p5
  rw [gd_t (show SzP D.Mailbox.ok (a0.Mail) _ from ⟨h1.2.2.2.2.2, p5⟩), bd_s]
  exact szEnd p5

-- laws_toKeyStore
def m_laws_toKeyStore (a0 : D.KeyStore) : Option (D.KeyStore) := some a0
theorem t_laws_toKeyStore (a0 : D.KeyStore) : m_laws_toKeyStore a0 = some (a0) := by
  unfold m_laws_toKeyStore
  rfl

-- laws_toLogEntry
def m_laws_toLogEntry (a0 : D.LogEntry) : Option (D.LogEntry) := some a0
theorem t_laws_toLogEntry (a0 : D.LogEntry) : m_laws_toLogEntry a0 = some (a0) := by
  unfold m_laws_toLogEntry
  rfl

-- laws_toLogEntryS
def m_laws_toLogEntryS (a0 : List D.LogEntry) : Option ((List D.LogEntry)) := gd (mkOk (↑a0.length : Int)) (bd (itr (α := (List D.LogEntry)) FUEL (fun rec1 (i1 : (Nat × List D.LogEntry)) => bif (decide ((↑i1.fst : Int) < (↑a0.length : Int))) then (bd (atq a0 (↑i1.fst : Int)) fun (z2 : (D.LogEntry)) => bd (atq (i1.snd) (↑i1.fst : Int)) fun (z3 : (D.LogEntry)) => rec1 (((i1.fst + 1), i1.snd.set (↑i1.fst : Int).toNat z2))) else (some (i1.snd))) ((0, List.replicate (↑a0.length : Int).toNat (D.LogEntry.mk (0 : Int) (0 : Int) (0 : Int) (0 : Int) (0 : Int) (0 : Int))))) fun (z0 : (List D.LogEntry)) => some z0)
theorem t_laws_toLogEntryS (a0 : List D.LogEntry) (h : a0.length ≤ 1048576) : m_laws_toLogEntryS a0 = some (a0) := by
  unfold m_laws_toLogEntryS
  rw [gd_t (mkOk_n (by omega)), toLoopId toNat_i (by omega) (fun rec i out ho hi => by
    simp only [lt_i hi, cond_true, atq_nat hi, atq_nat (show i < out.length by omega), bd_s, toNat_i]) (fun rec out => by simp only [ge_i, cond_false])]
  rfl

-- laws_toEntry
def m_laws_toEntry (a0 : D.Entry) : Option (D.Entry) := some a0
theorem t_laws_toEntry (a0 : D.Entry) : m_laws_toEntry a0 = some (a0) := by
  unfold m_laws_toEntry
  rfl

-- laws_toEntryS
def m_laws_toEntryS (a0 : List D.Entry) : Option ((List D.Entry)) := gd (mkOk (↑a0.length : Int)) (bd (itr (α := (List D.Entry)) FUEL (fun rec1 (i1 : (Nat × List D.Entry)) => bif (decide ((↑i1.fst : Int) < (↑a0.length : Int))) then (bd (atq a0 (↑i1.fst : Int)) fun (z2 : (D.Entry)) => bd (atq (i1.snd) (↑i1.fst : Int)) fun (z3 : (D.Entry)) => rec1 (((i1.fst + 1), i1.snd.set (↑i1.fst : Int).toNat z2))) else (some (i1.snd))) ((0, List.replicate (↑a0.length : Int).toNat (D.Entry.mk (0 : Int) (0 : Int) (0 : Int) false)))) fun (z0 : (List D.Entry)) => some z0)
theorem t_laws_toEntryS (a0 : List D.Entry) (h : a0.length ≤ 1048576) : m_laws_toEntryS a0 = some (a0) := by
  unfold m_laws_toEntryS
  rw [gd_t (mkOk_n (by omega)), toLoopId toNat_i (by omega) (fun rec i out ho hi => by
    simp only [lt_i hi, cond_true, atq_nat hi, atq_nat (show i < out.length by omega), bd_s, toNat_i]) (fun rec out => by simp only [ge_i, cond_false])]
  rfl

-- laws_toBundle
def m_laws_toBundle (a0 : D.Bundle) : Option (D.Bundle) := bd (gd (a0.Entries.length ≤ 1048576) (some (a0.Entries))) fun (z0 : (List D.Entry)) => some (D.Bundle.mk z0)
theorem t_laws_toBundle (a0 : D.Bundle) (h : a0.sz ≤ 1048576) : m_laws_toBundle a0 = some (a0) := by
  unfold m_laws_toBundle
  simp only [D.Bundle.sz] at h
  try simp only [bd_s]
  rw [gd_t (by first | omega | (simp only [D.Bundle.sz]; omega))]
  rfl

-- laws_toDevice
def m_laws_toDevice (a0 : D.Device) : Option (D.Device) := bd (gd (a0.Log.length ≤ 1048576) (some (a0.Log))) fun (z0 : (List D.LogEntry)) => bd (gd (a0.Bundle.sz ≤ 1048576) (some (a0.Bundle))) fun (z1 : (D.Bundle)) => some (D.Device.mk a0.Store z0 a0.Key a0.Epoch a0.Version z1)
theorem t_laws_toDevice (a0 : D.Device) (h : a0.sz ≤ 1048576) : m_laws_toDevice a0 = some (a0) := by
  unfold m_laws_toDevice
  simp only [D.Bundle.sz, D.Device.sz, D.KeyStore.sz] at h
  try simp only [bd_s]
  rw [gd_t (by first | omega | (simp only [D.Bundle.sz, D.Device.sz, D.KeyStore.sz]; omega))]
  try simp only [bd_s]
  rw [gd_t (by first | omega | (simp only [D.Bundle.sz, D.Device.sz, D.KeyStore.sz]; omega))]
  rfl

-- laws_toDeviceS
def m_laws_toDeviceS (a0 : List D.Device) : Option ((List D.Device)) := gd (mkOk (↑a0.length : Int)) (bd (itr (α := (List D.Device)) FUEL (fun rec1 (i1 : (Nat × List D.Device)) => bif (decide ((↑i1.fst : Int) < (↑a0.length : Int))) then (bd (atq a0 (↑i1.fst : Int)) fun (z2 : (D.Device)) => bd (gd (z2.sz ≤ 1048576) (some z2)) fun (z3 : (D.Device)) => bd (atq (i1.snd) (↑i1.fst : Int)) fun (z4 : (D.Device)) => rec1 (((i1.fst + 1), i1.snd.set (↑i1.fst : Int).toNat z3))) else (some (i1.snd))) ((0, List.replicate (↑a0.length : Int).toNat (D.Device.mk (D.KeyStore.mk (0 : Int) (0 : Int) (0 : Int) (0 : Int)) [] (0 : Int) (0 : Int) (0 : Int) (D.Bundle.mk []))))) fun (z0 : (List D.Device)) => some z0)
theorem t_laws_toDeviceS (a0 : List D.Device) (h : a0.length + (a0.map D.Device.sz).sum ≤ 1048576) : m_laws_toDeviceS a0 = some (a0) := by
  unfold m_laws_toDeviceS
  rw [gd_t (mkOk_n (by omega)), toLoopId toNat_i (by omega) (fun rec i out ho hi => by
    have hz := le_sumI (f := D.Device.sz) hi
    simp only [lt_i hi, cond_true, atq_nat hi, atq_nat (show i < out.length by omega), bd_s, toNat_i, gd_t (show a0[i].sz ≤ 1048576 by omega)]) (fun rec out => by simp only [ge_i, cond_false])]
  rfl

-- laws_toBoolS
def m_laws_toBoolS (a0 : List Bool) : Option ((List Bool)) := gd (mkOk (↑a0.length : Int)) (bd (itr (α := (List Bool)) FUEL (fun rec1 (i1 : (Nat × List Bool)) => bif (decide ((↑i1.fst : Int) < (↑a0.length : Int))) then (bd (atq a0 (↑i1.fst : Int)) fun (z2 : (Bool)) => bd (atq (i1.snd) (↑i1.fst : Int)) fun (z3 : (Bool)) => rec1 (((i1.fst + 1), i1.snd.set (↑i1.fst : Int).toNat z2))) else (some (i1.snd))) ((0, List.replicate (↑a0.length : Int).toNat false))) fun (z0 : (List Bool)) => some z0)
theorem t_laws_toBoolS (a0 : List Bool) (h : a0.length ≤ 1048576) : m_laws_toBoolS a0 = some (a0) := by
  unfold m_laws_toBoolS
  rw [gd_t (mkOk_n (by omega)), toLoopId toNat_i (by omega) (fun rec i out ho hi => by
    simp only [lt_i hi, cond_true, atq_nat hi, atq_nat (show i < out.length by omega), bd_s, toNat_i]) (fun rec out => by simp only [ge_i, cond_false])]
  rfl

-- laws_toByteS
def m_laws_toByteS (a0 : List Int) : Option ((List Int)) := gd (mkOk (↑a0.length : Int)) (bd (itr (α := (List Int)) FUEL (fun rec1 (i1 : (Nat × List Int)) => bif (decide ((↑i1.fst : Int) < (↑a0.length : Int))) then (bd (atq a0 (↑i1.fst : Int)) fun (z2 : (Int)) => bd (atq (i1.snd) (↑i1.fst : Int)) fun (z3 : (Int)) => rec1 (((i1.fst + 1), i1.snd.set (↑i1.fst : Int).toNat z2))) else (some (i1.snd))) ((0, List.replicate (↑a0.length : Int).toNat (0 : Int)))) fun (z0 : (List Int)) => some z0)
theorem t_laws_toByteS (a0 : List Int) (h : a0.length ≤ 1048576) : m_laws_toByteS a0 = some (a0) := by
  unfold m_laws_toByteS
  rw [gd_t (mkOk_n (by omega)), toLoopId toNat_i (by omega) (fun rec i out ho hi => by
    simp only [lt_i hi, cond_true, atq_nat hi, atq_nat (show i < out.length by omega), bd_s, toNat_i]) (fun rec out => by simp only [ge_i, cond_false])]
  rfl

-- laws_toBox
def m_laws_toBox (a0 : D.Box) : Option (D.Box) := bd (gd (a0.Data.length ≤ 1048576) (some (a0.Data))) fun (z0 : (List Int)) => some (D.Box.mk a0.To a0.Ephemeral z0 a0.MAC)
theorem t_laws_toBox (a0 : D.Box) (h : a0.sz ≤ 1048576) : m_laws_toBox a0 = some (a0) := by
  unfold m_laws_toBox
  simp only [D.Box.sz] at h
  try simp only [bd_s]
  rw [gd_t (by first | omega | (simp only [D.Box.sz]; omega))]
  rfl

-- laws_toBoxS
def m_laws_toBoxS (a0 : List D.Box) : Option ((List D.Box)) := gd (mkOk (↑a0.length : Int)) (bd (itr (α := (List D.Box)) FUEL (fun rec1 (i1 : (Nat × List D.Box)) => bif (decide ((↑i1.fst : Int) < (↑a0.length : Int))) then (bd (atq a0 (↑i1.fst : Int)) fun (z2 : (D.Box)) => bd (gd (z2.sz ≤ 1048576) (some z2)) fun (z3 : (D.Box)) => bd (atq (i1.snd) (↑i1.fst : Int)) fun (z4 : (D.Box)) => rec1 (((i1.fst + 1), i1.snd.set (↑i1.fst : Int).toNat z3))) else (some (i1.snd))) ((0, List.replicate (↑a0.length : Int).toNat (D.Box.mk (0 : Int) (0 : Int) [] (0 : Int))))) fun (z0 : (List D.Box)) => some z0)
theorem t_laws_toBoxS (a0 : List D.Box) (h : a0.length + (a0.map D.Box.sz).sum ≤ 1048576) : m_laws_toBoxS a0 = some (a0) := by
  unfold m_laws_toBoxS
  rw [gd_t (mkOk_n (by omega)), toLoopId toNat_i (by omega) (fun rec i out ho hi => by
    have hz := le_sumI (f := D.Box.sz) hi
    simp only [lt_i hi, cond_true, atq_nat hi, atq_nat (show i < out.length by omega), bd_s, toNat_i, gd_t (show a0[i].sz ≤ 1048576 by omega)]) (fun rec out => by simp only [ge_i, cond_false])]
  rfl

-- laws_toEpochBoxes
def m_laws_toEpochBoxes (a0 : D.EpochBoxes) : Option (D.EpochBoxes) := bd (gd (a0.Boxes.length + (List.map D.Box.sz a0.Boxes).sum ≤ 1048576) (some (a0.Boxes))) fun (z0 : (List D.Box)) => some (D.EpochBoxes.mk a0.Epoch z0)
theorem t_laws_toEpochBoxes (a0 : D.EpochBoxes) (h : a0.sz ≤ 1048576) : m_laws_toEpochBoxes a0 = some (a0) := by
  unfold m_laws_toEpochBoxes
  simp only [D.EpochBoxes.sz] at h
  try simp only [bd_s]
  rw [gd_t (by first | omega | (simp only [D.EpochBoxes.sz]; omega))]
  rfl

-- laws_toSealedBundle
def m_laws_toSealedBundle (a0 : D.SealedBundle) : Option (D.SealedBundle) := bd (gd (a0.Data.length ≤ 1048576) (some (a0.Data))) fun (z0 : (List Int)) => some (D.SealedBundle.mk a0.Epoch a0.Version z0 a0.MAC)
theorem t_laws_toSealedBundle (a0 : D.SealedBundle) (h : a0.sz ≤ 1048576) : m_laws_toSealedBundle a0 = some (a0) := by
  unfold m_laws_toSealedBundle
  simp only [D.SealedBundle.sz] at h
  try simp only [bd_s]
  rw [gd_t (by first | omega | (simp only [D.SealedBundle.sz]; omega))]
  rfl

-- laws_toSealedBundleS
def m_laws_toSealedBundleS (a0 : List D.SealedBundle) : Option ((List D.SealedBundle)) := gd (mkOk (↑a0.length : Int)) (bd (itr (α := (List D.SealedBundle)) FUEL (fun rec1 (i1 : (Nat × List D.SealedBundle)) => bif (decide ((↑i1.fst : Int) < (↑a0.length : Int))) then (bd (atq a0 (↑i1.fst : Int)) fun (z2 : (D.SealedBundle)) => bd (gd (z2.sz ≤ 1048576) (some z2)) fun (z3 : (D.SealedBundle)) => bd (atq (i1.snd) (↑i1.fst : Int)) fun (z4 : (D.SealedBundle)) => rec1 (((i1.fst + 1), i1.snd.set (↑i1.fst : Int).toNat z3))) else (some (i1.snd))) ((0, List.replicate (↑a0.length : Int).toNat (D.SealedBundle.mk (0 : Int) (0 : Int) [] (0 : Int))))) fun (z0 : (List D.SealedBundle)) => some z0)
theorem t_laws_toSealedBundleS (a0 : List D.SealedBundle) (h : a0.length + (a0.map D.SealedBundle.sz).sum ≤ 1048576) : m_laws_toSealedBundleS a0 = some (a0) := by
  unfold m_laws_toSealedBundleS
  rw [gd_t (mkOk_n (by omega)), toLoopId toNat_i (by omega) (fun rec i out ho hi => by
    have hz := le_sumI (f := D.SealedBundle.sz) hi
    simp only [lt_i hi, cond_true, atq_nat hi, atq_nat (show i < out.length by omega), bd_s, toNat_i, gd_t (show a0[i].sz ≤ 1048576 by omega)]) (fun rec out => by simp only [ge_i, cond_false])]
  rfl

-- laws_toCloud
def m_laws_toCloud (a0 : D.Cloud) : Option (D.Cloud) := bd (gd (a0.Log.length ≤ 1048576) (some (a0.Log))) fun (z0 : (List D.LogEntry)) => bd (gd (a0.Boxes.sz ≤ 1048576) (some (a0.Boxes))) fun (z1 : (D.EpochBoxes)) => bd (gd (a0.History.length + (List.map D.SealedBundle.sz a0.History).sum ≤ 1048576) (some (a0.History))) fun (z2 : (List D.SealedBundle)) => some (D.Cloud.mk z0 z1 z2)
theorem t_laws_toCloud (a0 : D.Cloud) (h : a0.sz ≤ 1048576) : m_laws_toCloud a0 = some (a0) := by
  unfold m_laws_toCloud
  simp only [D.Cloud.sz, D.EpochBoxes.sz] at h
  try simp only [bd_s]
  rw [gd_t (by first | omega | (simp only [D.Cloud.sz, D.EpochBoxes.sz]; omega))]
  try simp only [bd_s]
  rw [gd_t (by first | omega | (simp only [D.Cloud.sz, D.EpochBoxes.sz]; omega))]
  try simp only [bd_s]
  rw [gd_t (by first | omega | (simp only [D.Cloud.sz, D.EpochBoxes.sz]; omega))]
  rfl

-- laws_toCredential
def m_laws_toCredential (a0 : D.Credential) : Option (D.Credential) := some a0
theorem t_laws_toCredential (a0 : D.Credential) : m_laws_toCredential a0 = some (a0) := by
  unfold m_laws_toCredential
  rfl

-- laws_toCredentialS
def m_laws_toCredentialS (a0 : List D.Credential) : Option ((List D.Credential)) := gd (mkOk (↑a0.length : Int)) (bd (itr (α := (List D.Credential)) FUEL (fun rec1 (i1 : (Nat × List D.Credential)) => bif (decide ((↑i1.fst : Int) < (↑a0.length : Int))) then (bd (atq a0 (↑i1.fst : Int)) fun (z2 : (D.Credential)) => bd (atq (i1.snd) (↑i1.fst : Int)) fun (z3 : (D.Credential)) => rec1 (((i1.fst + 1), i1.snd.set (↑i1.fst : Int).toNat z2))) else (some (i1.snd))) ((0, List.replicate (↑a0.length : Int).toNat (D.Credential.mk (0 : Int) (0 : Int) (0 : Int) false)))) fun (z0 : (List D.Credential)) => some z0)
theorem t_laws_toCredentialS (a0 : List D.Credential) (h : a0.length ≤ 1048576) : m_laws_toCredentialS a0 = some (a0) := by
  unfold m_laws_toCredentialS
  rw [gd_t (mkOk_n (by omega)), toLoopId toNat_i (by omega) (fun rec i out ho hi => by
    simp only [lt_i hi, cond_true, atq_nat hi, atq_nat (show i < out.length by omega), bd_s, toNat_i]) (fun rec out => by simp only [ge_i, cond_false])]
  rfl

-- laws_toAccount
def m_laws_toAccount (a0 : D.Account) : Option (D.Account) := bd (gd (a0.Credentials.length ≤ 1048576) (some (a0.Credentials))) fun (z0 : (List D.Credential)) => some (D.Account.mk a0.Id a0.Minimum z0)
theorem t_laws_toAccount (a0 : D.Account) (h : a0.sz ≤ 1048576) : m_laws_toAccount a0 = some (a0) := by
  unfold m_laws_toAccount
  simp only [D.Account.sz] at h
  try simp only [bd_s]
  rw [gd_t (by first | omega | (simp only [D.Account.sz]; omega))]
  rfl

-- laws_toAccountS
def m_laws_toAccountS (a0 : List D.Account) : Option ((List D.Account)) := gd (mkOk (↑a0.length : Int)) (bd (itr (α := (List D.Account)) FUEL (fun rec1 (i1 : (Nat × List D.Account)) => bif (decide ((↑i1.fst : Int) < (↑a0.length : Int))) then (bd (atq a0 (↑i1.fst : Int)) fun (z2 : (D.Account)) => bd (gd (z2.sz ≤ 1048576) (some z2)) fun (z3 : (D.Account)) => bd (atq (i1.snd) (↑i1.fst : Int)) fun (z4 : (D.Account)) => rec1 (((i1.fst + 1), i1.snd.set (↑i1.fst : Int).toNat z3))) else (some (i1.snd))) ((0, List.replicate (↑a0.length : Int).toNat (D.Account.mk (0 : Int) (0 : Int) [])))) fun (z0 : (List D.Account)) => some z0)
theorem t_laws_toAccountS (a0 : List D.Account) (h : a0.length + (a0.map D.Account.sz).sum ≤ 1048576) : m_laws_toAccountS a0 = some (a0) := by
  unfold m_laws_toAccountS
  rw [gd_t (mkOk_n (by omega)), toLoopId toNat_i (by omega) (fun rec i out ho hi => by
    have hz := le_sumI (f := D.Account.sz) hi
    simp only [lt_i hi, cond_true, atq_nat hi, atq_nat (show i < out.length by omega), bd_s, toNat_i, gd_t (show a0[i].sz ≤ 1048576 by omega)]) (fun rec out => by simp only [ge_i, cond_false])]
  rfl

-- laws_toChallenge
def m_laws_toChallenge (a0 : D.Challenge) : Option (D.Challenge) := some a0
theorem t_laws_toChallenge (a0 : D.Challenge) : m_laws_toChallenge a0 = some (a0) := by
  unfold m_laws_toChallenge
  rfl

-- laws_toChallengeS
def m_laws_toChallengeS (a0 : List D.Challenge) : Option ((List D.Challenge)) := gd (mkOk (↑a0.length : Int)) (bd (itr (α := (List D.Challenge)) FUEL (fun rec1 (i1 : (Nat × List D.Challenge)) => bif (decide ((↑i1.fst : Int) < (↑a0.length : Int))) then (bd (atq a0 (↑i1.fst : Int)) fun (z2 : (D.Challenge)) => bd (atq (i1.snd) (↑i1.fst : Int)) fun (z3 : (D.Challenge)) => rec1 (((i1.fst + 1), i1.snd.set (↑i1.fst : Int).toNat z2))) else (some (i1.snd))) ((0, List.replicate (↑a0.length : Int).toNat (D.Challenge.mk (0 : Int) (0 : Int) (0 : Int))))) fun (z0 : (List D.Challenge)) => some z0)
theorem t_laws_toChallengeS (a0 : List D.Challenge) (h : a0.length ≤ 1048576) : m_laws_toChallengeS a0 = some (a0) := by
  unfold m_laws_toChallengeS
  rw [gd_t (mkOk_n (by omega)), toLoopId toNat_i (by omega) (fun rec i out ho hi => by
    simp only [lt_i hi, cond_true, atq_nat hi, atq_nat (show i < out.length by omega), bd_s, toNat_i]) (fun rec out => by simp only [ge_i, cond_false])]
  rfl

-- laws_toChallengeBook
def m_laws_toChallengeBook (a0 : D.ChallengeBook) : Option (D.ChallengeBook) := bd (gd (a0.Open.length ≤ 1048576) (some (a0.Open))) fun (z0 : (List D.Challenge)) => some (D.ChallengeBook.mk a0.Seed a0.Next z0)
theorem t_laws_toChallengeBook (a0 : D.ChallengeBook) (h : a0.sz ≤ 1048576) : m_laws_toChallengeBook a0 = some (a0) := by
  unfold m_laws_toChallengeBook
  simp only [D.ChallengeBook.sz] at h
  try simp only [bd_s]
  rw [gd_t (by first | omega | (simp only [D.ChallengeBook.sz]; omega))]
  rfl

-- laws_toIntS
def m_laws_toIntS (a0 : List Int) : Option ((List Int)) := gd (mkOk (↑a0.length : Int)) (bd (itr (α := (List Int)) FUEL (fun rec1 (i1 : (Nat × List Int)) => bif (decide ((↑i1.fst : Int) < (↑a0.length : Int))) then (bd (atq a0 (↑i1.fst : Int)) fun (z2 : (Int)) => bd (atq (i1.snd) (↑i1.fst : Int)) fun (z3 : (Int)) => rec1 (((i1.fst + 1), i1.snd.set (↑i1.fst : Int).toNat z2))) else (some (i1.snd))) ((0, List.replicate (↑a0.length : Int).toNat (0 : Int)))) fun (z0 : (List Int)) => some z0)
theorem t_laws_toIntS (a0 : List Int) (h : a0.length ≤ 1048576) : m_laws_toIntS a0 = some (a0) := by
  unfold m_laws_toIntS
  rw [gd_t (mkOk_n (by omega)), toLoopId toNat_i (by omega) (fun rec i out ho hi => by
    simp only [lt_i hi, cond_true, atq_nat hi, atq_nat (show i < out.length by omega), bd_s, toNat_i]) (fun rec out => by simp only [ge_i, cond_false])]
  rfl

-- laws_toSite
def m_laws_toSite (a0 : D.Site) : Option (D.Site) := bd (gd (a0.Accounts.length + (List.map D.Account.sz a0.Accounts).sum ≤ 1048576) (some (a0.Accounts))) fun (z0 : (List D.Account)) => bd (gd (a0.Book.sz ≤ 1048576) (some (a0.Book))) fun (z1 : (D.ChallengeBook)) => bd (gd (a0.Logins.length ≤ 1048576) (some (a0.Logins))) fun (z2 : (List Int)) => some (D.Site.mk a0.Name z0 z1 z2)
theorem t_laws_toSite (a0 : D.Site) (h : a0.sz ≤ 1048576) : m_laws_toSite a0 = some (a0) := by
  unfold m_laws_toSite
  simp only [D.ChallengeBook.sz, D.Site.sz] at h
  try simp only [bd_s]
  rw [gd_t (by first | omega | (simp only [D.ChallengeBook.sz, D.Site.sz]; omega))]
  try simp only [bd_s]
  rw [gd_t (by first | omega | (simp only [D.ChallengeBook.sz, D.Site.sz]; omega))]
  try simp only [bd_s]
  rw [gd_t (by first | omega | (simp only [D.ChallengeBook.sz, D.Site.sz]; omega))]
  rfl

-- laws_toSiteS
def m_laws_toSiteS (a0 : List D.Site) : Option ((List D.Site)) := gd (mkOk (↑a0.length : Int)) (bd (itr (α := (List D.Site)) FUEL (fun rec1 (i1 : (Nat × List D.Site)) => bif (decide ((↑i1.fst : Int) < (↑a0.length : Int))) then (bd (atq a0 (↑i1.fst : Int)) fun (z2 : (D.Site)) => bd (gd (z2.sz ≤ 1048576) (some z2)) fun (z3 : (D.Site)) => bd (atq (i1.snd) (↑i1.fst : Int)) fun (z4 : (D.Site)) => rec1 (((i1.fst + 1), i1.snd.set (↑i1.fst : Int).toNat z3))) else (some (i1.snd))) ((0, List.replicate (↑a0.length : Int).toNat (D.Site.mk (ByteArray.mk #[]) [] (D.ChallengeBook.mk (0 : Int) (0 : Int) []) [])))) fun (z0 : (List D.Site)) => some z0)
theorem t_laws_toSiteS (a0 : List D.Site) (h : a0.length + (a0.map D.Site.sz).sum ≤ 1048576) : m_laws_toSiteS a0 = some (a0) := by
  unfold m_laws_toSiteS
  rw [gd_t (mkOk_n (by omega)), toLoopId toNat_i (by omega) (fun rec i out ho hi => by
    have hz := le_sumI (f := D.Site.sz) hi
    simp only [lt_i hi, cond_true, atq_nat hi, atq_nat (show i < out.length by omega), bd_s, toNat_i, gd_t (show a0[i].sz ≤ 1048576 by omega)]) (fun rec out => by simp only [ge_i, cond_false])]
  rfl

-- laws_toVault
def m_laws_toVault (a0 : D.Vault) : Option (D.Vault) := some a0
theorem t_laws_toVault (a0 : D.Vault) : m_laws_toVault a0 = some (a0) := by
  unfold m_laws_toVault
  rfl

-- laws_toShare
def m_laws_toShare (a0 : D.Share) : Option (D.Share) := some a0
theorem t_laws_toShare (a0 : D.Share) : m_laws_toShare a0 = some (a0) := by
  unfold m_laws_toShare
  rfl

-- laws_toKeeper
def m_laws_toKeeper (a0 : D.Keeper) : Option (D.Keeper) := some a0
theorem t_laws_toKeeper (a0 : D.Keeper) : m_laws_toKeeper a0 = some (a0) := by
  unfold m_laws_toKeeper
  rfl

-- laws_toKeeperS
def m_laws_toKeeperS (a0 : List D.Keeper) : Option ((List D.Keeper)) := gd (mkOk (↑a0.length : Int)) (bd (itr (α := (List D.Keeper)) FUEL (fun rec1 (i1 : (Nat × List D.Keeper)) => bif (decide ((↑i1.fst : Int) < (↑a0.length : Int))) then (bd (atq a0 (↑i1.fst : Int)) fun (z2 : (D.Keeper)) => bd (atq (i1.snd) (↑i1.fst : Int)) fun (z3 : (D.Keeper)) => rec1 (((i1.fst + 1), i1.snd.set (↑i1.fst : Int).toNat z2))) else (some (i1.snd))) ((0, List.replicate (↑a0.length : Int).toNat (D.Keeper.mk (D.Share.mk (0 : Int) (0 : Int)) (0 : Int) (0 : Int) (0 : Int))))) fun (z0 : (List D.Keeper)) => some z0)
theorem t_laws_toKeeperS (a0 : List D.Keeper) (h : a0.length ≤ 1048576) : m_laws_toKeeperS a0 = some (a0) := by
  unfold m_laws_toKeeperS
  rw [gd_t (mkOk_n (by omega)), toLoopId toNat_i (by omega) (fun rec i out ho hi => by
    simp only [lt_i hi, cond_true, atq_nat hi, atq_nat (show i < out.length by omega), bd_s, toNat_i]) (fun rec out => by simp only [ge_i, cond_false])]
  rfl

-- laws_toKeeperHost
def m_laws_toKeeperHost (a0 : D.KeeperHost) : Option (D.KeeperHost) := bd (gd (a0.Saved.length ≤ 1048576) (some (a0.Saved))) fun (z0 : (List D.Keeper)) => some (D.KeeperHost.mk a0.State z0 a0.Monotonic)
theorem t_laws_toKeeperHost (a0 : D.KeeperHost) (h : a0.sz ≤ 1048576) : m_laws_toKeeperHost a0 = some (a0) := by
  unfold m_laws_toKeeperHost
  simp only [D.Keeper.sz, D.KeeperHost.sz, D.Share.sz] at h
  try simp only [bd_s]
  rw [gd_t (by first | omega | (simp only [D.Keeper.sz, D.KeeperHost.sz, D.Share.sz]; omega))]
  rfl

-- laws_toKeeperHostS
def m_laws_toKeeperHostS (a0 : List D.KeeperHost) : Option ((List D.KeeperHost)) := gd (mkOk (↑a0.length : Int)) (bd (itr (α := (List D.KeeperHost)) FUEL (fun rec1 (i1 : (Nat × List D.KeeperHost)) => bif (decide ((↑i1.fst : Int) < (↑a0.length : Int))) then (bd (atq a0 (↑i1.fst : Int)) fun (z2 : (D.KeeperHost)) => bd (gd (z2.sz ≤ 1048576) (some z2)) fun (z3 : (D.KeeperHost)) => bd (atq (i1.snd) (↑i1.fst : Int)) fun (z4 : (D.KeeperHost)) => rec1 (((i1.fst + 1), i1.snd.set (↑i1.fst : Int).toNat z3))) else (some (i1.snd))) ((0, List.replicate (↑a0.length : Int).toNat (D.KeeperHost.mk (D.Keeper.mk (D.Share.mk (0 : Int) (0 : Int)) (0 : Int) (0 : Int) (0 : Int)) [] (0 : Int))))) fun (z0 : (List D.KeeperHost)) => some z0)
theorem t_laws_toKeeperHostS (a0 : List D.KeeperHost) (h : a0.length + (a0.map D.KeeperHost.sz).sum ≤ 1048576) : m_laws_toKeeperHostS a0 = some (a0) := by
  unfold m_laws_toKeeperHostS
  rw [gd_t (mkOk_n (by omega)), toLoopId toNat_i (by omega) (fun rec i out ho hi => by
    have hz := le_sumI (f := D.KeeperHost.sz) hi
    simp only [lt_i hi, cond_true, atq_nat hi, atq_nat (show i < out.length by omega), bd_s, toNat_i, gd_t (show a0[i].sz ≤ 1048576 by omega)]) (fun rec out => by simp only [ge_i, cond_false])]
  rfl

-- laws_toNotice
def m_laws_toNotice (a0 : D.Notice) : Option (D.Notice) := some a0
theorem t_laws_toNotice (a0 : D.Notice) : m_laws_toNotice a0 = some (a0) := by
  unfold m_laws_toNotice
  rfl

-- laws_toNoticeS
def m_laws_toNoticeS (a0 : List D.Notice) : Option ((List D.Notice)) := gd (mkOk (↑a0.length : Int)) (bd (itr (α := (List D.Notice)) FUEL (fun rec1 (i1 : (Nat × List D.Notice)) => bif (decide ((↑i1.fst : Int) < (↑a0.length : Int))) then (bd (atq a0 (↑i1.fst : Int)) fun (z2 : (D.Notice)) => bd (atq (i1.snd) (↑i1.fst : Int)) fun (z3 : (D.Notice)) => rec1 (((i1.fst + 1), i1.snd.set (↑i1.fst : Int).toNat z2))) else (some (i1.snd))) ((0, List.replicate (↑a0.length : Int).toNat (D.Notice.mk (0 : Int) (0 : Int) (0 : Int) false)))) fun (z0 : (List D.Notice)) => some z0)
theorem t_laws_toNoticeS (a0 : List D.Notice) (h : a0.length ≤ 1048576) : m_laws_toNoticeS a0 = some (a0) := by
  unfold m_laws_toNoticeS
  rw [gd_t (mkOk_n (by omega)), toLoopId toNat_i (by omega) (fun rec i out ho hi => by
    simp only [lt_i hi, cond_true, atq_nat hi, atq_nat (show i < out.length by omega), bd_s, toNat_i]) (fun rec out => by simp only [ge_i, cond_false])]
  rfl

-- laws_toMailbox
def m_laws_toMailbox (a0 : D.Mailbox) : Option (D.Mailbox) := bd (gd (a0.Notices.length ≤ 1048576) (some (a0.Notices))) fun (z0 : (List D.Notice)) => some (D.Mailbox.mk z0)
theorem t_laws_toMailbox (a0 : D.Mailbox) (h : a0.sz ≤ 1048576) : m_laws_toMailbox a0 = some (a0) := by
  unfold m_laws_toMailbox
  simp only [D.Mailbox.sz] at h
  try simp only [bd_s]
  rw [gd_t (by first | omega | (simp only [D.Mailbox.sz]; omega))]
  rfl

-- laws_toWorld
def m_laws_toWorld (a0 : D.World) : Option (D.World) := bd (gd (a0.Devices.length + (List.map D.Device.sz a0.Devices).sum ≤ 1048576) (some (a0.Devices))) fun (z0 : (List D.Device)) => bd (gd (a0.Stolen.length ≤ 1048576) (some (a0.Stolen))) fun (z1 : (List Bool)) => bd (gd (a0.Cloud.sz ≤ 1048576) (some (a0.Cloud))) fun (z2 : (D.Cloud)) => bd (gd (a0.Sites.length + (List.map D.Site.sz a0.Sites).sum ≤ 1048576) (some (a0.Sites))) fun (z3 : (List D.Site)) => bd (gd (a0.Hosts.length + (List.map D.KeeperHost.sz a0.Hosts).sum ≤ 1048576) (some (a0.Hosts))) fun (z4 : (List D.KeeperHost)) => bd (gd (a0.Mail.sz ≤ 1048576) (some (a0.Mail))) fun (z5 : (D.Mailbox)) => some (D.World.mk a0.Now a0.Seed z0 z1 z2 z3 a0.Vault z4 a0.Pin z5)
theorem t_laws_toWorld (a0 : D.World) (h : a0.sz ≤ 1048576) : m_laws_toWorld a0 = some (a0) := by
  unfold m_laws_toWorld
  simp only [D.Cloud.sz, D.EpochBoxes.sz, D.Mailbox.sz, D.Vault.sz, D.World.sz] at h
  try simp only [bd_s]
  rw [gd_t (by first | omega | (simp only [D.Cloud.sz, D.EpochBoxes.sz, D.Mailbox.sz, D.Vault.sz, D.World.sz]; omega))]
  try simp only [bd_s]
  rw [gd_t (by first | omega | (simp only [D.Cloud.sz, D.EpochBoxes.sz, D.Mailbox.sz, D.Vault.sz, D.World.sz]; omega))]
  try simp only [bd_s]
  rw [gd_t (by first | omega | (simp only [D.Cloud.sz, D.EpochBoxes.sz, D.Mailbox.sz, D.Vault.sz, D.World.sz]; omega))]
  try simp only [bd_s]
  rw [gd_t (by first | omega | (simp only [D.Cloud.sz, D.EpochBoxes.sz, D.Mailbox.sz, D.Vault.sz, D.World.sz]; omega))]
  try simp only [bd_s]
  rw [gd_t (by first | omega | (simp only [D.Cloud.sz, D.EpochBoxes.sz, D.Mailbox.sz, D.Vault.sz, D.World.sz]; omega))]
  try simp only [bd_s]
  rw [gd_t (by first | omega | (simp only [D.Cloud.sz, D.EpochBoxes.sz, D.Mailbox.sz, D.Vault.sz, D.World.sz]; omega))]
  rfl

-- spec_l1In
def m_spec_l1In (a0 : Int) (a1 : Int) (a2 : Int) : Option (Bool) := bd (bif (decide (a0 ≥ a1)) then (some (decide (a0 ≤ a2))) else (some (false))) fun (z0 : (Bool)) => some z0
theorem t_spec_l1In (a b c : Int) : m_spec_l1In a b c = some (inR a b c) := by
  unfold m_spec_l1In inR
  show bd (bif decide (b ≤ a) then some (decide (a ≤ c)) else some false) _ = _
  cases decide (b ≤ a) <;> rfl

-- spec_l37View
-- spec_SiteViews
-- impl_hasSite
-- impl_viewOf
-- impl_SiteViews
-- laws_eqIntS
def m_laws_eqIntS (a0 : List Int) (a1 : List Int) : Option (Bool) := bif ((↑a0.length : Int) != (↑a1.length : Int)) then (some (false)) else (nx (itr (α := (Bool ⊕ PUnit)) FUEL (fun rec1 (i1 : (Nat)) => bif (decide ((↑i1 : Int) < (↑a0.length : Int))) then (bd (atq a0 (↑i1 : Int)) fun (z2 : (Int)) => bd (atq a1 (↑i1 : Int)) fun (z3 : (Int)) => bif (z2 != z3) then (some (.inl (false))) else (rec1 (i1 + 1))) else (some (.inr ()))) 0) fun (z0 : (PUnit)) => some (true))
theorem t_laws_eqIntS (a0 : List Int) (a1 : List Int) (h : EqZ (a0.length) a0 a1) : m_laws_eqIntS a0 a1 = some (true) := by
  obtain ⟨rfl, hz⟩ := h
  unfold m_laws_eqIntS
  rw [eqLoop (a := a0) (by omega) (fun rec i hi => by
    simp only [lt_i hi, atq_nat hi, beq_self_eq_true, bne_self_eq_false, Bool.not_true, Bool.not_false, cond_true, cond_false, bd_s, nx_r]) (fun rec => by simp only [ge_i, cond_false])]
  simp only [beq_self_eq_true, bne_self_eq_false, Bool.not_true, Bool.not_false, cond_true, cond_false, bd_s, nx_r]

-- laws_eqKeyStore
def m_laws_eqKeyStore (a0 : D.KeyStore) (a1 : D.KeyStore) : Option (Bool) := bif (a0.Vendor != a1.Vendor) then (some (false)) else (bif (a0.Serial != a1.Serial) then (some (false)) else (bif (a0.Seed != a1.Seed) then (some (false)) else (bif (a0.Counter != a1.Counter) then (some (false)) else (some (true)))))
theorem t_laws_eqKeyStore (a0 : D.KeyStore) (a1 : D.KeyStore) (h : EqZ (0) a0 a1) : m_laws_eqKeyStore a0 a1 = some (true) := by
  obtain ⟨rfl, hz⟩ := h
  unfold m_laws_eqKeyStore
  simp only [beq_self_eq_true, bne_self_eq_false, Bool.not_true, Bool.not_false, cond_true, cond_false, bd_s, nx_r]

-- laws_eqLogEntry
def m_laws_eqLogEntry (a0 : D.LogEntry) (a1 : D.LogEntry) : Option (Bool) := bif (a0.Index != a1.Index) then (some (false)) else (bif (a0.Kind != a1.Kind) then (some (false)) else (bif (a0.Device != a1.Device) then (some (false)) else (bif (a0.By != a1.By) then (some (false)) else (bif (a0.Previous != a1.Previous) then (some (false)) else (bif (a0.Signature != a1.Signature) then (some (false)) else (some (true)))))))
theorem t_laws_eqLogEntry (a0 : D.LogEntry) (a1 : D.LogEntry) (h : EqZ (0) a0 a1) : m_laws_eqLogEntry a0 a1 = some (true) := by
  obtain ⟨rfl, hz⟩ := h
  unfold m_laws_eqLogEntry
  simp only [beq_self_eq_true, bne_self_eq_false, Bool.not_true, Bool.not_false, cond_true, cond_false, bd_s, nx_r]

-- laws_eqLogEntryS
def m_laws_eqLogEntryS (a0 : List D.LogEntry) (a1 : List D.LogEntry) : Option (Bool) := bif ((↑a0.length : Int) != (↑a1.length : Int)) then (some (false)) else (nx (itr (α := (Bool ⊕ PUnit)) FUEL (fun rec1 (i1 : (Nat)) => bif (decide ((↑i1 : Int) < (↑a0.length : Int))) then (bd (atq a0 (↑i1 : Int)) fun (z2 : (D.LogEntry)) => bd (atq a1 (↑i1 : Int)) fun (z3 : (D.LogEntry)) => bd (gd (EqZ 0 z2 z3) (some (true))) fun (z4 : (Bool)) => bif (!z4) then (some (.inl (false))) else (rec1 (i1 + 1))) else (some (.inr ()))) 0) fun (z0 : (PUnit)) => some (true))
theorem t_laws_eqLogEntryS (a0 : List D.LogEntry) (a1 : List D.LogEntry) (h : EqZ (a0.length) a0 a1) : m_laws_eqLogEntryS a0 a1 = some (true) := by
  obtain ⟨rfl, hz⟩ := h
  unfold m_laws_eqLogEntryS
  rw [eqLoop (a := a0) (by omega) (fun rec i hi => by
    simp only [lt_i hi, atq_nat hi, gd_t (show EqZ (0) a0[i] a0[i] from ⟨rfl, by omega⟩), beq_self_eq_true, bne_self_eq_false, Bool.not_true, Bool.not_false, cond_true, cond_false, bd_s, nx_r]) (fun rec => by simp only [ge_i, cond_false])]
  simp only [beq_self_eq_true, bne_self_eq_false, Bool.not_true, Bool.not_false, cond_true, cond_false, bd_s, nx_r]

-- laws_eqEntry
def m_laws_eqEntry (a0 : D.Entry) (a1 : D.Entry) : Option (Bool) := bif (a0.Site != a1.Site) then (some (false)) else (bif (a0.Handle != a1.Handle) then (some (false)) else (bif (a0.Version != a1.Version) then (some (false)) else (bif (!a0.Deleted == a1.Deleted) then (some (false)) else (some (true)))))
theorem t_laws_eqEntry (a0 : D.Entry) (a1 : D.Entry) (h : EqZ (0) a0 a1) : m_laws_eqEntry a0 a1 = some (true) := by
  obtain ⟨rfl, hz⟩ := h
  unfold m_laws_eqEntry
  simp only [beq_self_eq_true, bne_self_eq_false, Bool.not_true, Bool.not_false, cond_true, cond_false, bd_s, nx_r]

-- laws_eqEntryS
def m_laws_eqEntryS (a0 : List D.Entry) (a1 : List D.Entry) : Option (Bool) := bif ((↑a0.length : Int) != (↑a1.length : Int)) then (some (false)) else (nx (itr (α := (Bool ⊕ PUnit)) FUEL (fun rec1 (i1 : (Nat)) => bif (decide ((↑i1 : Int) < (↑a0.length : Int))) then (bd (atq a0 (↑i1 : Int)) fun (z2 : (D.Entry)) => bd (atq a1 (↑i1 : Int)) fun (z3 : (D.Entry)) => bd (gd (EqZ 0 z2 z3) (some (true))) fun (z4 : (Bool)) => bif (!z4) then (some (.inl (false))) else (rec1 (i1 + 1))) else (some (.inr ()))) 0) fun (z0 : (PUnit)) => some (true))
theorem t_laws_eqEntryS (a0 : List D.Entry) (a1 : List D.Entry) (h : EqZ (a0.length) a0 a1) : m_laws_eqEntryS a0 a1 = some (true) := by
  obtain ⟨rfl, hz⟩ := h
  unfold m_laws_eqEntryS
  rw [eqLoop (a := a0) (by omega) (fun rec i hi => by
    simp only [lt_i hi, atq_nat hi, gd_t (show EqZ (0) a0[i] a0[i] from ⟨rfl, by omega⟩), beq_self_eq_true, bne_self_eq_false, Bool.not_true, Bool.not_false, cond_true, cond_false, bd_s, nx_r]) (fun rec => by simp only [ge_i, cond_false])]
  simp only [beq_self_eq_true, bne_self_eq_false, Bool.not_true, Bool.not_false, cond_true, cond_false, bd_s, nx_r]

-- laws_eqBundle
def m_laws_eqBundle (a0 : D.Bundle) (a1 : D.Bundle) : Option (Bool) := bd (gd (EqZ a0.Entries.length a0.Entries a1.Entries) (some (true))) fun (z0 : (Bool)) => bif (!z0) then (some (false)) else (some (true))
theorem t_laws_eqBundle (a0 : D.Bundle) (a1 : D.Bundle) (h : EqZ (a0.sz) a0 a1) : m_laws_eqBundle a0 a1 = some (true) := by
  obtain ⟨rfl, hz⟩ := h
  unfold m_laws_eqBundle
  simp only [D.Bundle.sz] at hz
  simp only [beq_self_eq_true, bne_self_eq_false, Bool.not_true, Bool.not_false, cond_true, cond_false, bd_s, nx_r, gd_t (show EqZ (a0.Entries.length) a0.Entries a0.Entries from ⟨rfl, by omega⟩)]

-- laws_eqDevice
def m_laws_eqDevice (a0 : D.Device) (a1 : D.Device) : Option (Bool) := bd (gd (EqZ 0 a0.Store a1.Store) (some (true))) fun (z0 : (Bool)) => bif (!z0) then (some (false)) else (bd (gd (EqZ a0.Log.length a0.Log a1.Log) (some (true))) fun (z1 : (Bool)) => bif (!z1) then (some (false)) else (bif (a0.Key != a1.Key) then (some (false)) else (bif (a0.Epoch != a1.Epoch) then (some (false)) else (bif (a0.Version != a1.Version) then (some (false)) else (bd (gd (EqZ a0.Bundle.sz a0.Bundle a1.Bundle) (some (true))) fun (z2 : (Bool)) => bif (!z2) then (some (false)) else (some (true)))))))
theorem t_laws_eqDevice (a0 : D.Device) (a1 : D.Device) (h : EqZ (a0.sz) a0 a1) : m_laws_eqDevice a0 a1 = some (true) := by
  obtain ⟨rfl, hz⟩ := h
  unfold m_laws_eqDevice
  simp only [D.Bundle.sz, D.Device.sz, D.KeyStore.sz] at hz
  simp only [beq_self_eq_true, bne_self_eq_false, Bool.not_true, Bool.not_false, cond_true, cond_false, bd_s, nx_r, gd_t (show EqZ (0) a0.Store a0.Store from ⟨rfl, by omega⟩), gd_t (show EqZ (a0.Log.length) a0.Log a0.Log from ⟨rfl, by omega⟩), gd_t (show EqZ (a0.Bundle.sz) a0.Bundle a0.Bundle from ⟨rfl, by simp only [D.Bundle.sz]; omega⟩)]

-- laws_eqDeviceS
def m_laws_eqDeviceS (a0 : List D.Device) (a1 : List D.Device) : Option (Bool) := bif ((↑a0.length : Int) != (↑a1.length : Int)) then (some (false)) else (nx (itr (α := (Bool ⊕ PUnit)) FUEL (fun rec1 (i1 : (Nat)) => bif (decide ((↑i1 : Int) < (↑a0.length : Int))) then (bd (atq a0 (↑i1 : Int)) fun (z2 : (D.Device)) => bd (atq a1 (↑i1 : Int)) fun (z3 : (D.Device)) => bd (gd (EqZ z2.sz z2 z3) (some (true))) fun (z4 : (Bool)) => bif (!z4) then (some (.inl (false))) else (rec1 (i1 + 1))) else (some (.inr ()))) 0) fun (z0 : (PUnit)) => some (true))
theorem t_laws_eqDeviceS (a0 : List D.Device) (a1 : List D.Device) (h : EqZ (a0.length + (a0.map D.Device.sz).sum) a0 a1) : m_laws_eqDeviceS a0 a1 = some (true) := by
  obtain ⟨rfl, hz⟩ := h
  unfold m_laws_eqDeviceS
  rw [eqLoop (a := a0) (by omega) (fun rec i hi => by
    have hs := le_sumI (f := D.Device.sz) hi
    simp only [lt_i hi, atq_nat hi, gd_t (show EqZ (a0[i].sz) a0[i] a0[i] from ⟨rfl, by omega⟩), beq_self_eq_true, bne_self_eq_false, Bool.not_true, Bool.not_false, cond_true, cond_false, bd_s, nx_r]) (fun rec => by simp only [ge_i, cond_false])]
  simp only [beq_self_eq_true, bne_self_eq_false, Bool.not_true, Bool.not_false, cond_true, cond_false, bd_s, nx_r]

-- laws_eqBoolS
def m_laws_eqBoolS (a0 : List Bool) (a1 : List Bool) : Option (Bool) := bif ((↑a0.length : Int) != (↑a1.length : Int)) then (some (false)) else (nx (itr (α := (Bool ⊕ PUnit)) FUEL (fun rec1 (i1 : (Nat)) => bif (decide ((↑i1 : Int) < (↑a0.length : Int))) then (bd (atq a0 (↑i1 : Int)) fun (z2 : (Bool)) => bd (atq a1 (↑i1 : Int)) fun (z3 : (Bool)) => bif (!z2 == z3) then (some (.inl (false))) else (rec1 (i1 + 1))) else (some (.inr ()))) 0) fun (z0 : (PUnit)) => some (true))
theorem t_laws_eqBoolS (a0 : List Bool) (a1 : List Bool) (h : EqZ (a0.length) a0 a1) : m_laws_eqBoolS a0 a1 = some (true) := by
  obtain ⟨rfl, hz⟩ := h
  unfold m_laws_eqBoolS
  rw [eqLoop (a := a0) (by omega) (fun rec i hi => by
    simp only [lt_i hi, atq_nat hi, beq_self_eq_true, bne_self_eq_false, Bool.not_true, Bool.not_false, cond_true, cond_false, bd_s, nx_r]) (fun rec => by simp only [ge_i, cond_false])]
  simp only [beq_self_eq_true, bne_self_eq_false, Bool.not_true, Bool.not_false, cond_true, cond_false, bd_s, nx_r]

-- laws_eqByteS
def m_laws_eqByteS (a0 : List Int) (a1 : List Int) : Option (Bool) := bif ((↑a0.length : Int) != (↑a1.length : Int)) then (some (false)) else (nx (itr (α := (Bool ⊕ PUnit)) FUEL (fun rec1 (i1 : (Nat)) => bif (decide ((↑i1 : Int) < (↑a0.length : Int))) then (bd (atq a0 (↑i1 : Int)) fun (z2 : (Int)) => bd (atq a1 (↑i1 : Int)) fun (z3 : (Int)) => bif (z2 != z3) then (some (.inl (false))) else (rec1 (i1 + 1))) else (some (.inr ()))) 0) fun (z0 : (PUnit)) => some (true))
theorem t_laws_eqByteS (a0 : List Int) (a1 : List Int) (h : EqZ (a0.length) a0 a1) : m_laws_eqByteS a0 a1 = some (true) := by
  obtain ⟨rfl, hz⟩ := h
  unfold m_laws_eqByteS
  rw [eqLoop (a := a0) (by omega) (fun rec i hi => by
    simp only [lt_i hi, atq_nat hi, beq_self_eq_true, bne_self_eq_false, Bool.not_true, Bool.not_false, cond_true, cond_false, bd_s, nx_r]) (fun rec => by simp only [ge_i, cond_false])]
  simp only [beq_self_eq_true, bne_self_eq_false, Bool.not_true, Bool.not_false, cond_true, cond_false, bd_s, nx_r]

-- laws_eqBox
def m_laws_eqBox (a0 : D.Box) (a1 : D.Box) : Option (Bool) := bif (a0.To != a1.To) then (some (false)) else (bif (a0.Ephemeral != a1.Ephemeral) then (some (false)) else (bd (gd (EqZ a0.Data.length a0.Data a1.Data) (some (true))) fun (z0 : (Bool)) => bif (!z0) then (some (false)) else (bif (a0.MAC != a1.MAC) then (some (false)) else (some (true)))))
theorem t_laws_eqBox (a0 : D.Box) (a1 : D.Box) (h : EqZ (a0.sz) a0 a1) : m_laws_eqBox a0 a1 = some (true) := by
  obtain ⟨rfl, hz⟩ := h
  unfold m_laws_eqBox
  simp only [D.Box.sz] at hz
  simp only [beq_self_eq_true, bne_self_eq_false, Bool.not_true, Bool.not_false, cond_true, cond_false, bd_s, nx_r, gd_t (show EqZ (a0.Data.length) a0.Data a0.Data from ⟨rfl, by omega⟩)]

-- laws_eqBoxS
def m_laws_eqBoxS (a0 : List D.Box) (a1 : List D.Box) : Option (Bool) := bif ((↑a0.length : Int) != (↑a1.length : Int)) then (some (false)) else (nx (itr (α := (Bool ⊕ PUnit)) FUEL (fun rec1 (i1 : (Nat)) => bif (decide ((↑i1 : Int) < (↑a0.length : Int))) then (bd (atq a0 (↑i1 : Int)) fun (z2 : (D.Box)) => bd (atq a1 (↑i1 : Int)) fun (z3 : (D.Box)) => bd (gd (EqZ z2.sz z2 z3) (some (true))) fun (z4 : (Bool)) => bif (!z4) then (some (.inl (false))) else (rec1 (i1 + 1))) else (some (.inr ()))) 0) fun (z0 : (PUnit)) => some (true))
theorem t_laws_eqBoxS (a0 : List D.Box) (a1 : List D.Box) (h : EqZ (a0.length + (a0.map D.Box.sz).sum) a0 a1) : m_laws_eqBoxS a0 a1 = some (true) := by
  obtain ⟨rfl, hz⟩ := h
  unfold m_laws_eqBoxS
  rw [eqLoop (a := a0) (by omega) (fun rec i hi => by
    have hs := le_sumI (f := D.Box.sz) hi
    simp only [lt_i hi, atq_nat hi, gd_t (show EqZ (a0[i].sz) a0[i] a0[i] from ⟨rfl, by omega⟩), beq_self_eq_true, bne_self_eq_false, Bool.not_true, Bool.not_false, cond_true, cond_false, bd_s, nx_r]) (fun rec => by simp only [ge_i, cond_false])]
  simp only [beq_self_eq_true, bne_self_eq_false, Bool.not_true, Bool.not_false, cond_true, cond_false, bd_s, nx_r]

-- laws_eqEpochBoxes
def m_laws_eqEpochBoxes (a0 : D.EpochBoxes) (a1 : D.EpochBoxes) : Option (Bool) := bif (a0.Epoch != a1.Epoch) then (some (false)) else (bd (gd (EqZ (a0.Boxes.length + (List.map D.Box.sz a0.Boxes).sum) a0.Boxes a1.Boxes) (some (true))) fun (z0 : (Bool)) => bif (!z0) then (some (false)) else (some (true)))
theorem t_laws_eqEpochBoxes (a0 : D.EpochBoxes) (a1 : D.EpochBoxes) (h : EqZ (a0.sz) a0 a1) : m_laws_eqEpochBoxes a0 a1 = some (true) := by
  obtain ⟨rfl, hz⟩ := h
  unfold m_laws_eqEpochBoxes
  simp only [D.EpochBoxes.sz] at hz
  simp only [beq_self_eq_true, bne_self_eq_false, Bool.not_true, Bool.not_false, cond_true, cond_false, bd_s, nx_r, gd_t (show EqZ (a0.Boxes.length + (a0.Boxes.map D.Box.sz).sum) a0.Boxes a0.Boxes from ⟨rfl, by omega⟩)]

-- laws_eqSealedBundle
def m_laws_eqSealedBundle (a0 : D.SealedBundle) (a1 : D.SealedBundle) : Option (Bool) := bif (a0.Epoch != a1.Epoch) then (some (false)) else (bif (a0.Version != a1.Version) then (some (false)) else (bd (gd (EqZ a0.Data.length a0.Data a1.Data) (some (true))) fun (z0 : (Bool)) => bif (!z0) then (some (false)) else (bif (a0.MAC != a1.MAC) then (some (false)) else (some (true)))))
theorem t_laws_eqSealedBundle (a0 : D.SealedBundle) (a1 : D.SealedBundle) (h : EqZ (a0.sz) a0 a1) : m_laws_eqSealedBundle a0 a1 = some (true) := by
  obtain ⟨rfl, hz⟩ := h
  unfold m_laws_eqSealedBundle
  simp only [D.SealedBundle.sz] at hz
  simp only [beq_self_eq_true, bne_self_eq_false, Bool.not_true, Bool.not_false, cond_true, cond_false, bd_s, nx_r, gd_t (show EqZ (a0.Data.length) a0.Data a0.Data from ⟨rfl, by omega⟩)]

-- laws_eqSealedBundleS
def m_laws_eqSealedBundleS (a0 : List D.SealedBundle) (a1 : List D.SealedBundle) : Option (Bool) := bif ((↑a0.length : Int) != (↑a1.length : Int)) then (some (false)) else (nx (itr (α := (Bool ⊕ PUnit)) FUEL (fun rec1 (i1 : (Nat)) => bif (decide ((↑i1 : Int) < (↑a0.length : Int))) then (bd (atq a0 (↑i1 : Int)) fun (z2 : (D.SealedBundle)) => bd (atq a1 (↑i1 : Int)) fun (z3 : (D.SealedBundle)) => bd (gd (EqZ z2.sz z2 z3) (some (true))) fun (z4 : (Bool)) => bif (!z4) then (some (.inl (false))) else (rec1 (i1 + 1))) else (some (.inr ()))) 0) fun (z0 : (PUnit)) => some (true))
theorem t_laws_eqSealedBundleS (a0 : List D.SealedBundle) (a1 : List D.SealedBundle) (h : EqZ (a0.length + (a0.map D.SealedBundle.sz).sum) a0 a1) : m_laws_eqSealedBundleS a0 a1 = some (true) := by
  obtain ⟨rfl, hz⟩ := h
  unfold m_laws_eqSealedBundleS
  rw [eqLoop (a := a0) (by omega) (fun rec i hi => by
    have hs := le_sumI (f := D.SealedBundle.sz) hi
    simp only [lt_i hi, atq_nat hi, gd_t (show EqZ (a0[i].sz) a0[i] a0[i] from ⟨rfl, by omega⟩), beq_self_eq_true, bne_self_eq_false, Bool.not_true, Bool.not_false, cond_true, cond_false, bd_s, nx_r]) (fun rec => by simp only [ge_i, cond_false])]
  simp only [beq_self_eq_true, bne_self_eq_false, Bool.not_true, Bool.not_false, cond_true, cond_false, bd_s, nx_r]

-- laws_eqCloud
def m_laws_eqCloud (a0 : D.Cloud) (a1 : D.Cloud) : Option (Bool) := bd (gd (EqZ a0.Log.length a0.Log a1.Log) (some (true))) fun (z0 : (Bool)) => bif (!z0) then (some (false)) else (bd (gd (EqZ a0.Boxes.sz a0.Boxes a1.Boxes) (some (true))) fun (z1 : (Bool)) => bif (!z1) then (some (false)) else (bd (gd (EqZ (a0.History.length + (List.map D.SealedBundle.sz a0.History).sum) a0.History a1.History) (some (true))) fun (z2 : (Bool)) => bif (!z2) then (some (false)) else (some (true))))
theorem t_laws_eqCloud (a0 : D.Cloud) (a1 : D.Cloud) (h : EqZ (a0.sz) a0 a1) : m_laws_eqCloud a0 a1 = some (true) := by
  obtain ⟨rfl, hz⟩ := h
  unfold m_laws_eqCloud
  simp only [D.Cloud.sz, D.EpochBoxes.sz] at hz
  simp only [beq_self_eq_true, bne_self_eq_false, Bool.not_true, Bool.not_false, cond_true, cond_false, bd_s, nx_r, gd_t (show EqZ (a0.Log.length) a0.Log a0.Log from ⟨rfl, by omega⟩), gd_t (show EqZ (a0.Boxes.sz) a0.Boxes a0.Boxes from ⟨rfl, by simp only [D.EpochBoxes.sz]; omega⟩), gd_t (show EqZ (a0.History.length + (a0.History.map D.SealedBundle.sz).sum) a0.History a0.History from ⟨rfl, by omega⟩)]

-- laws_eqCredential
def m_laws_eqCredential (a0 : D.Credential) (a1 : D.Credential) : Option (Bool) := bif (a0.Handle != a1.Handle) then (some (false)) else (bif (a0.Public != a1.Public) then (some (false)) else (bif (a0.Counter != a1.Counter) then (some (false)) else (bif (!a0.Cut == a1.Cut) then (some (false)) else (some (true)))))
theorem t_laws_eqCredential (a0 : D.Credential) (a1 : D.Credential) (h : EqZ (0) a0 a1) : m_laws_eqCredential a0 a1 = some (true) := by
  obtain ⟨rfl, hz⟩ := h
  unfold m_laws_eqCredential
  simp only [beq_self_eq_true, bne_self_eq_false, Bool.not_true, Bool.not_false, cond_true, cond_false, bd_s, nx_r]

-- laws_eqCredentialS
def m_laws_eqCredentialS (a0 : List D.Credential) (a1 : List D.Credential) : Option (Bool) := bif ((↑a0.length : Int) != (↑a1.length : Int)) then (some (false)) else (nx (itr (α := (Bool ⊕ PUnit)) FUEL (fun rec1 (i1 : (Nat)) => bif (decide ((↑i1 : Int) < (↑a0.length : Int))) then (bd (atq a0 (↑i1 : Int)) fun (z2 : (D.Credential)) => bd (atq a1 (↑i1 : Int)) fun (z3 : (D.Credential)) => bd (gd (EqZ 0 z2 z3) (some (true))) fun (z4 : (Bool)) => bif (!z4) then (some (.inl (false))) else (rec1 (i1 + 1))) else (some (.inr ()))) 0) fun (z0 : (PUnit)) => some (true))
theorem t_laws_eqCredentialS (a0 : List D.Credential) (a1 : List D.Credential) (h : EqZ (a0.length) a0 a1) : m_laws_eqCredentialS a0 a1 = some (true) := by
  obtain ⟨rfl, hz⟩ := h
  unfold m_laws_eqCredentialS
  rw [eqLoop (a := a0) (by omega) (fun rec i hi => by
    simp only [lt_i hi, atq_nat hi, gd_t (show EqZ (0) a0[i] a0[i] from ⟨rfl, by omega⟩), beq_self_eq_true, bne_self_eq_false, Bool.not_true, Bool.not_false, cond_true, cond_false, bd_s, nx_r]) (fun rec => by simp only [ge_i, cond_false])]
  simp only [beq_self_eq_true, bne_self_eq_false, Bool.not_true, Bool.not_false, cond_true, cond_false, bd_s, nx_r]

-- laws_eqAccount
def m_laws_eqAccount (a0 : D.Account) (a1 : D.Account) : Option (Bool) := bif (a0.Id != a1.Id) then (some (false)) else (bif (a0.Minimum != a1.Minimum) then (some (false)) else (bd (gd (EqZ a0.Credentials.length a0.Credentials a1.Credentials) (some (true))) fun (z0 : (Bool)) => bif (!z0) then (some (false)) else (some (true))))
theorem t_laws_eqAccount (a0 : D.Account) (a1 : D.Account) (h : EqZ (a0.sz) a0 a1) : m_laws_eqAccount a0 a1 = some (true) := by
  obtain ⟨rfl, hz⟩ := h
  unfold m_laws_eqAccount
  simp only [D.Account.sz] at hz
  simp only [beq_self_eq_true, bne_self_eq_false, Bool.not_true, Bool.not_false, cond_true, cond_false, bd_s, nx_r, gd_t (show EqZ (a0.Credentials.length) a0.Credentials a0.Credentials from ⟨rfl, by omega⟩)]

-- laws_eqAccountS
def m_laws_eqAccountS (a0 : List D.Account) (a1 : List D.Account) : Option (Bool) := bif ((↑a0.length : Int) != (↑a1.length : Int)) then (some (false)) else (nx (itr (α := (Bool ⊕ PUnit)) FUEL (fun rec1 (i1 : (Nat)) => bif (decide ((↑i1 : Int) < (↑a0.length : Int))) then (bd (atq a0 (↑i1 : Int)) fun (z2 : (D.Account)) => bd (atq a1 (↑i1 : Int)) fun (z3 : (D.Account)) => bd (gd (EqZ z2.sz z2 z3) (some (true))) fun (z4 : (Bool)) => bif (!z4) then (some (.inl (false))) else (rec1 (i1 + 1))) else (some (.inr ()))) 0) fun (z0 : (PUnit)) => some (true))
theorem t_laws_eqAccountS (a0 : List D.Account) (a1 : List D.Account) (h : EqZ (a0.length + (a0.map D.Account.sz).sum) a0 a1) : m_laws_eqAccountS a0 a1 = some (true) := by
  obtain ⟨rfl, hz⟩ := h
  unfold m_laws_eqAccountS
  rw [eqLoop (a := a0) (by omega) (fun rec i hi => by
    have hs := le_sumI (f := D.Account.sz) hi
    simp only [lt_i hi, atq_nat hi, gd_t (show EqZ (a0[i].sz) a0[i] a0[i] from ⟨rfl, by omega⟩), beq_self_eq_true, bne_self_eq_false, Bool.not_true, Bool.not_false, cond_true, cond_false, bd_s, nx_r]) (fun rec => by simp only [ge_i, cond_false])]
  simp only [beq_self_eq_true, bne_self_eq_false, Bool.not_true, Bool.not_false, cond_true, cond_false, bd_s, nx_r]

-- laws_eqChallenge
def m_laws_eqChallenge (a0 : D.Challenge) (a1 : D.Challenge) : Option (Bool) := bif (a0.Id != a1.Id) then (some (false)) else (bif (a0.Account != a1.Account) then (some (false)) else (bif (a0.Until != a1.Until) then (some (false)) else (some (true))))
theorem t_laws_eqChallenge (a0 : D.Challenge) (a1 : D.Challenge) (h : EqZ (0) a0 a1) : m_laws_eqChallenge a0 a1 = some (true) := by
  obtain ⟨rfl, hz⟩ := h
  unfold m_laws_eqChallenge
  simp only [beq_self_eq_true, bne_self_eq_false, Bool.not_true, Bool.not_false, cond_true, cond_false, bd_s, nx_r]

-- laws_eqChallengeS
def m_laws_eqChallengeS (a0 : List D.Challenge) (a1 : List D.Challenge) : Option (Bool) := bif ((↑a0.length : Int) != (↑a1.length : Int)) then (some (false)) else (nx (itr (α := (Bool ⊕ PUnit)) FUEL (fun rec1 (i1 : (Nat)) => bif (decide ((↑i1 : Int) < (↑a0.length : Int))) then (bd (atq a0 (↑i1 : Int)) fun (z2 : (D.Challenge)) => bd (atq a1 (↑i1 : Int)) fun (z3 : (D.Challenge)) => bd (gd (EqZ 0 z2 z3) (some (true))) fun (z4 : (Bool)) => bif (!z4) then (some (.inl (false))) else (rec1 (i1 + 1))) else (some (.inr ()))) 0) fun (z0 : (PUnit)) => some (true))
theorem t_laws_eqChallengeS (a0 : List D.Challenge) (a1 : List D.Challenge) (h : EqZ (a0.length) a0 a1) : m_laws_eqChallengeS a0 a1 = some (true) := by
  obtain ⟨rfl, hz⟩ := h
  unfold m_laws_eqChallengeS
  rw [eqLoop (a := a0) (by omega) (fun rec i hi => by
    simp only [lt_i hi, atq_nat hi, gd_t (show EqZ (0) a0[i] a0[i] from ⟨rfl, by omega⟩), beq_self_eq_true, bne_self_eq_false, Bool.not_true, Bool.not_false, cond_true, cond_false, bd_s, nx_r]) (fun rec => by simp only [ge_i, cond_false])]
  simp only [beq_self_eq_true, bne_self_eq_false, Bool.not_true, Bool.not_false, cond_true, cond_false, bd_s, nx_r]

-- laws_eqChallengeBook
def m_laws_eqChallengeBook (a0 : D.ChallengeBook) (a1 : D.ChallengeBook) : Option (Bool) := bif (a0.Seed != a1.Seed) then (some (false)) else (bif (a0.Next != a1.Next) then (some (false)) else (bd (gd (EqZ a0.Open.length a0.Open a1.Open) (some (true))) fun (z0 : (Bool)) => bif (!z0) then (some (false)) else (some (true))))
theorem t_laws_eqChallengeBook (a0 : D.ChallengeBook) (a1 : D.ChallengeBook) (h : EqZ (a0.sz) a0 a1) : m_laws_eqChallengeBook a0 a1 = some (true) := by
  obtain ⟨rfl, hz⟩ := h
  unfold m_laws_eqChallengeBook
  simp only [D.ChallengeBook.sz] at hz
  simp only [beq_self_eq_true, bne_self_eq_false, Bool.not_true, Bool.not_false, cond_true, cond_false, bd_s, nx_r, gd_t (show EqZ (a0.Open.length) a0.Open a0.Open from ⟨rfl, by omega⟩)]

-- laws_eqSite
def m_laws_eqSite (a0 : D.Site) (a1 : D.Site) : Option (Bool) := bif (!a0.Name.toList == a1.Name.toList) then (some (false)) else (bd (gd (EqZ (a0.Accounts.length + (List.map D.Account.sz a0.Accounts).sum) a0.Accounts a1.Accounts) (some (true))) fun (z0 : (Bool)) => bif (!z0) then (some (false)) else (bd (gd (EqZ a0.Book.sz a0.Book a1.Book) (some (true))) fun (z1 : (Bool)) => bif (!z1) then (some (false)) else (bd (gd (EqZ a0.Logins.length a0.Logins a1.Logins) (some (true))) fun (z2 : (Bool)) => bif (!z2) then (some (false)) else (some (true)))))
theorem t_laws_eqSite (a0 : D.Site) (a1 : D.Site) (h : EqZ (a0.sz) a0 a1) : m_laws_eqSite a0 a1 = some (true) := by
  obtain ⟨rfl, hz⟩ := h
  unfold m_laws_eqSite
  simp only [D.ChallengeBook.sz, D.Site.sz] at hz
  simp only [beq_self_eq_true, bne_self_eq_false, Bool.not_true, Bool.not_false, cond_true, cond_false, bd_s, nx_r, gd_t (show EqZ (a0.Accounts.length + (a0.Accounts.map D.Account.sz).sum) a0.Accounts a0.Accounts from ⟨rfl, by omega⟩), gd_t (show EqZ (a0.Book.sz) a0.Book a0.Book from ⟨rfl, by simp only [D.ChallengeBook.sz]; omega⟩), gd_t (show EqZ (a0.Logins.length) a0.Logins a0.Logins from ⟨rfl, by omega⟩)]

-- laws_eqSiteS
def m_laws_eqSiteS (a0 : List D.Site) (a1 : List D.Site) : Option (Bool) := bif ((↑a0.length : Int) != (↑a1.length : Int)) then (some (false)) else (nx (itr (α := (Bool ⊕ PUnit)) FUEL (fun rec1 (i1 : (Nat)) => bif (decide ((↑i1 : Int) < (↑a0.length : Int))) then (bd (atq a0 (↑i1 : Int)) fun (z2 : (D.Site)) => bd (atq a1 (↑i1 : Int)) fun (z3 : (D.Site)) => bd (gd (EqZ z2.sz z2 z3) (some (true))) fun (z4 : (Bool)) => bif (!z4) then (some (.inl (false))) else (rec1 (i1 + 1))) else (some (.inr ()))) 0) fun (z0 : (PUnit)) => some (true))
theorem t_laws_eqSiteS (a0 : List D.Site) (a1 : List D.Site) (h : EqZ (a0.length + (a0.map D.Site.sz).sum) a0 a1) : m_laws_eqSiteS a0 a1 = some (true) := by
  obtain ⟨rfl, hz⟩ := h
  unfold m_laws_eqSiteS
  rw [eqLoop (a := a0) (by omega) (fun rec i hi => by
    have hs := le_sumI (f := D.Site.sz) hi
    simp only [lt_i hi, atq_nat hi, gd_t (show EqZ (a0[i].sz) a0[i] a0[i] from ⟨rfl, by omega⟩), beq_self_eq_true, bne_self_eq_false, Bool.not_true, Bool.not_false, cond_true, cond_false, bd_s, nx_r]) (fun rec => by simp only [ge_i, cond_false])]
  simp only [beq_self_eq_true, bne_self_eq_false, Bool.not_true, Bool.not_false, cond_true, cond_false, bd_s, nx_r]

-- laws_eqVault
def m_laws_eqVault (a0 : D.Vault) (a1 : D.Vault) : Option (Bool) := bif (a0.Salt != a1.Salt) then (some (false)) else (bif (a0.Threshold != a1.Threshold) then (some (false)) else (bif (a0.Check != a1.Check) then (some (false)) else (bif (a0.Masked != a1.Masked) then (some (false)) else (some (true)))))
theorem t_laws_eqVault (a0 : D.Vault) (a1 : D.Vault) (h : EqZ (0) a0 a1) : m_laws_eqVault a0 a1 = some (true) := by
  obtain ⟨rfl, hz⟩ := h
  unfold m_laws_eqVault
  simp only [beq_self_eq_true, bne_self_eq_false, Bool.not_true, Bool.not_false, cond_true, cond_false, bd_s, nx_r]

-- laws_eqShare
def m_laws_eqShare (a0 : D.Share) (a1 : D.Share) : Option (Bool) := bif (a0.Index != a1.Index) then (some (false)) else (bif (a0.Value != a1.Value) then (some (false)) else (some (true)))
theorem t_laws_eqShare (a0 : D.Share) (a1 : D.Share) (h : EqZ (0) a0 a1) : m_laws_eqShare a0 a1 = some (true) := by
  obtain ⟨rfl, hz⟩ := h
  unfold m_laws_eqShare
  simp only [beq_self_eq_true, bne_self_eq_false, Bool.not_true, Bool.not_false, cond_true, cond_false, bd_s, nx_r]

-- laws_eqKeeper
def m_laws_eqKeeper (a0 : D.Keeper) (a1 : D.Keeper) : Option (Bool) := bd (gd (EqZ 0 a0.Share a1.Share) (some (true))) fun (z0 : (Bool)) => bif (!z0) then (some (false)) else (bif (a0.Epoch != a1.Epoch) then (some (false)) else (bif (a0.Guesses != a1.Guesses) then (some (false)) else (bif (a0.Limit != a1.Limit) then (some (false)) else (some (true)))))
theorem t_laws_eqKeeper (a0 : D.Keeper) (a1 : D.Keeper) (h : EqZ (0) a0 a1) : m_laws_eqKeeper a0 a1 = some (true) := by
  obtain ⟨rfl, hz⟩ := h
  unfold m_laws_eqKeeper
  simp only [beq_self_eq_true, bne_self_eq_false, Bool.not_true, Bool.not_false, cond_true, cond_false, bd_s, nx_r, gd_t (show EqZ (0) a0.Share a0.Share from ⟨rfl, by omega⟩)]

-- laws_eqKeeperS
def m_laws_eqKeeperS (a0 : List D.Keeper) (a1 : List D.Keeper) : Option (Bool) := bif ((↑a0.length : Int) != (↑a1.length : Int)) then (some (false)) else (nx (itr (α := (Bool ⊕ PUnit)) FUEL (fun rec1 (i1 : (Nat)) => bif (decide ((↑i1 : Int) < (↑a0.length : Int))) then (bd (atq a0 (↑i1 : Int)) fun (z2 : (D.Keeper)) => bd (atq a1 (↑i1 : Int)) fun (z3 : (D.Keeper)) => bd (gd (EqZ 0 z2 z3) (some (true))) fun (z4 : (Bool)) => bif (!z4) then (some (.inl (false))) else (rec1 (i1 + 1))) else (some (.inr ()))) 0) fun (z0 : (PUnit)) => some (true))
theorem t_laws_eqKeeperS (a0 : List D.Keeper) (a1 : List D.Keeper) (h : EqZ (a0.length) a0 a1) : m_laws_eqKeeperS a0 a1 = some (true) := by
  obtain ⟨rfl, hz⟩ := h
  unfold m_laws_eqKeeperS
  rw [eqLoop (a := a0) (by omega) (fun rec i hi => by
    simp only [lt_i hi, atq_nat hi, gd_t (show EqZ (0) a0[i] a0[i] from ⟨rfl, by omega⟩), beq_self_eq_true, bne_self_eq_false, Bool.not_true, Bool.not_false, cond_true, cond_false, bd_s, nx_r]) (fun rec => by simp only [ge_i, cond_false])]
  simp only [beq_self_eq_true, bne_self_eq_false, Bool.not_true, Bool.not_false, cond_true, cond_false, bd_s, nx_r]

-- laws_eqKeeperHost
def m_laws_eqKeeperHost (a0 : D.KeeperHost) (a1 : D.KeeperHost) : Option (Bool) := bd (gd (EqZ 0 a0.State a1.State) (some (true))) fun (z0 : (Bool)) => bif (!z0) then (some (false)) else (bd (gd (EqZ a0.Saved.length a0.Saved a1.Saved) (some (true))) fun (z1 : (Bool)) => bif (!z1) then (some (false)) else (bif (a0.Monotonic != a1.Monotonic) then (some (false)) else (some (true))))
theorem t_laws_eqKeeperHost (a0 : D.KeeperHost) (a1 : D.KeeperHost) (h : EqZ (a0.sz) a0 a1) : m_laws_eqKeeperHost a0 a1 = some (true) := by
  obtain ⟨rfl, hz⟩ := h
  unfold m_laws_eqKeeperHost
  simp only [D.Keeper.sz, D.KeeperHost.sz, D.Share.sz] at hz
  simp only [beq_self_eq_true, bne_self_eq_false, Bool.not_true, Bool.not_false, cond_true, cond_false, bd_s, nx_r, gd_t (show EqZ (0) a0.State a0.State from ⟨rfl, by omega⟩), gd_t (show EqZ (a0.Saved.length) a0.Saved a0.Saved from ⟨rfl, by omega⟩)]

-- laws_eqKeeperHostS
def m_laws_eqKeeperHostS (a0 : List D.KeeperHost) (a1 : List D.KeeperHost) : Option (Bool) := bif ((↑a0.length : Int) != (↑a1.length : Int)) then (some (false)) else (nx (itr (α := (Bool ⊕ PUnit)) FUEL (fun rec1 (i1 : (Nat)) => bif (decide ((↑i1 : Int) < (↑a0.length : Int))) then (bd (atq a0 (↑i1 : Int)) fun (z2 : (D.KeeperHost)) => bd (atq a1 (↑i1 : Int)) fun (z3 : (D.KeeperHost)) => bd (gd (EqZ z2.sz z2 z3) (some (true))) fun (z4 : (Bool)) => bif (!z4) then (some (.inl (false))) else (rec1 (i1 + 1))) else (some (.inr ()))) 0) fun (z0 : (PUnit)) => some (true))
theorem t_laws_eqKeeperHostS (a0 : List D.KeeperHost) (a1 : List D.KeeperHost) (h : EqZ (a0.length + (a0.map D.KeeperHost.sz).sum) a0 a1) : m_laws_eqKeeperHostS a0 a1 = some (true) := by
  obtain ⟨rfl, hz⟩ := h
  unfold m_laws_eqKeeperHostS
  rw [eqLoop (a := a0) (by omega) (fun rec i hi => by
    have hs := le_sumI (f := D.KeeperHost.sz) hi
    simp only [lt_i hi, atq_nat hi, gd_t (show EqZ (a0[i].sz) a0[i] a0[i] from ⟨rfl, by omega⟩), beq_self_eq_true, bne_self_eq_false, Bool.not_true, Bool.not_false, cond_true, cond_false, bd_s, nx_r]) (fun rec => by simp only [ge_i, cond_false])]
  simp only [beq_self_eq_true, bne_self_eq_false, Bool.not_true, Bool.not_false, cond_true, cond_false, bd_s, nx_r]

-- laws_eqNotice
def m_laws_eqNotice (a0 : D.Notice) (a1 : D.Notice) : Option (Bool) := bif (a0.Kind != a1.Kind) then (some (false)) else (bif (a0.Account != a1.Account) then (some (false)) else (bif (a0.Time != a1.Time) then (some (false)) else (bif (!a0.Seen == a1.Seen) then (some (false)) else (some (true)))))
theorem t_laws_eqNotice (a0 : D.Notice) (a1 : D.Notice) (h : EqZ (0) a0 a1) : m_laws_eqNotice a0 a1 = some (true) := by
  obtain ⟨rfl, hz⟩ := h
  unfold m_laws_eqNotice
  simp only [beq_self_eq_true, bne_self_eq_false, Bool.not_true, Bool.not_false, cond_true, cond_false, bd_s, nx_r]

-- laws_eqNoticeS
def m_laws_eqNoticeS (a0 : List D.Notice) (a1 : List D.Notice) : Option (Bool) := bif ((↑a0.length : Int) != (↑a1.length : Int)) then (some (false)) else (nx (itr (α := (Bool ⊕ PUnit)) FUEL (fun rec1 (i1 : (Nat)) => bif (decide ((↑i1 : Int) < (↑a0.length : Int))) then (bd (atq a0 (↑i1 : Int)) fun (z2 : (D.Notice)) => bd (atq a1 (↑i1 : Int)) fun (z3 : (D.Notice)) => bd (gd (EqZ 0 z2 z3) (some (true))) fun (z4 : (Bool)) => bif (!z4) then (some (.inl (false))) else (rec1 (i1 + 1))) else (some (.inr ()))) 0) fun (z0 : (PUnit)) => some (true))
theorem t_laws_eqNoticeS (a0 : List D.Notice) (a1 : List D.Notice) (h : EqZ (a0.length) a0 a1) : m_laws_eqNoticeS a0 a1 = some (true) := by
  obtain ⟨rfl, hz⟩ := h
  unfold m_laws_eqNoticeS
  rw [eqLoop (a := a0) (by omega) (fun rec i hi => by
    simp only [lt_i hi, atq_nat hi, gd_t (show EqZ (0) a0[i] a0[i] from ⟨rfl, by omega⟩), beq_self_eq_true, bne_self_eq_false, Bool.not_true, Bool.not_false, cond_true, cond_false, bd_s, nx_r]) (fun rec => by simp only [ge_i, cond_false])]
  simp only [beq_self_eq_true, bne_self_eq_false, Bool.not_true, Bool.not_false, cond_true, cond_false, bd_s, nx_r]

-- laws_eqMailbox
def m_laws_eqMailbox (a0 : D.Mailbox) (a1 : D.Mailbox) : Option (Bool) := bd (gd (EqZ a0.Notices.length a0.Notices a1.Notices) (some (true))) fun (z0 : (Bool)) => bif (!z0) then (some (false)) else (some (true))
theorem t_laws_eqMailbox (a0 : D.Mailbox) (a1 : D.Mailbox) (h : EqZ (a0.sz) a0 a1) : m_laws_eqMailbox a0 a1 = some (true) := by
  obtain ⟨rfl, hz⟩ := h
  unfold m_laws_eqMailbox
  simp only [D.Mailbox.sz] at hz
  simp only [beq_self_eq_true, bne_self_eq_false, Bool.not_true, Bool.not_false, cond_true, cond_false, bd_s, nx_r, gd_t (show EqZ (a0.Notices.length) a0.Notices a0.Notices from ⟨rfl, by omega⟩)]

-- laws_eqWorld
def m_laws_eqWorld (a0 : D.World) (a1 : D.World) : Option (Bool) := bif (a0.Now != a1.Now) then (some (false)) else (bif (a0.Seed != a1.Seed) then (some (false)) else (bd (gd (EqZ (a0.Devices.length + (List.map D.Device.sz a0.Devices).sum) a0.Devices a1.Devices) (some (true))) fun (z0 : (Bool)) => bif (!z0) then (some (false)) else (bd (gd (EqZ a0.Stolen.length a0.Stolen a1.Stolen) (some (true))) fun (z1 : (Bool)) => bif (!z1) then (some (false)) else (bd (gd (EqZ a0.Cloud.sz a0.Cloud a1.Cloud) (some (true))) fun (z2 : (Bool)) => bif (!z2) then (some (false)) else (bd (gd (EqZ (a0.Sites.length + (List.map D.Site.sz a0.Sites).sum) a0.Sites a1.Sites) (some (true))) fun (z3 : (Bool)) => bif (!z3) then (some (false)) else (bd (gd (EqZ 0 a0.Vault a1.Vault) (some (true))) fun (z4 : (Bool)) => bif (!z4) then (some (false)) else (bd (gd (EqZ (a0.Hosts.length + (List.map D.KeeperHost.sz a0.Hosts).sum) a0.Hosts a1.Hosts) (some (true))) fun (z5 : (Bool)) => bif (!z5) then (some (false)) else (bif (a0.Pin != a1.Pin) then (some (false)) else (bd (gd (EqZ a0.Mail.sz a0.Mail a1.Mail) (some (true))) fun (z6 : (Bool)) => bif (!z6) then (some (false)) else (some (true)))))))))))
theorem t_laws_eqWorld (a0 : D.World) (a1 : D.World) (h : EqZ (a0.sz) a0 a1) : m_laws_eqWorld a0 a1 = some (true) := by
  obtain ⟨rfl, hz⟩ := h
  unfold m_laws_eqWorld
  simp only [D.Cloud.sz, D.EpochBoxes.sz, D.Mailbox.sz, D.Vault.sz, D.World.sz] at hz
  simp only [beq_self_eq_true, bne_self_eq_false, Bool.not_true, Bool.not_false, cond_true, cond_false, bd_s, nx_r, gd_t (show EqZ (a0.Devices.length + (a0.Devices.map D.Device.sz).sum) a0.Devices a0.Devices from ⟨rfl, by omega⟩), gd_t (show EqZ (a0.Stolen.length) a0.Stolen a0.Stolen from ⟨rfl, by omega⟩), gd_t (show EqZ (a0.Cloud.sz) a0.Cloud a0.Cloud from ⟨rfl, by simp only [D.Cloud.sz, D.EpochBoxes.sz]; omega⟩), gd_t (show EqZ (a0.Sites.length + (a0.Sites.map D.Site.sz).sum) a0.Sites a0.Sites from ⟨rfl, by omega⟩), gd_t (show EqZ (0) a0.Vault a0.Vault from ⟨rfl, by omega⟩), gd_t (show EqZ (a0.Hosts.length + (a0.Hosts.map D.KeeperHost.sz).sum) a0.Hosts a0.Hosts from ⟨rfl, by omega⟩), gd_t (show EqZ (a0.Mail.sz) a0.Mail a0.Mail from ⟨rfl, by simp only [D.Mailbox.sz]; omega⟩)]

-- laws_markLogEntryS
def mk_LogEntry (x : D.LogEntry) (k : Int) : D.LogEntry × Int := (⟨k, (IntKind.i64.wrap (k + 1)), (IntKind.i64.wrap ((IntKind.i64.wrap (k + 1)) + 1)), (IntKind.i64.wrap ((IntKind.i64.wrap ((IntKind.i64.wrap (k + 1)) + 1)) + 1)), (IntKind.i64.wrap ((IntKind.i64.wrap ((IntKind.i64.wrap ((IntKind.i64.wrap (k + 1)) + 1)) + 1)) + 1)), (IntKind.i64.wrap ((IntKind.i64.wrap ((IntKind.i64.wrap ((IntKind.i64.wrap ((IntKind.i64.wrap (k + 1)) + 1)) + 1)) + 1)) + 1))⟩, (IntKind.i64.wrap ((IntKind.i64.wrap ((IntKind.i64.wrap ((IntKind.i64.wrap ((IntKind.i64.wrap ((IntKind.i64.wrap (k + 1)) + 1)) + 1)) + 1)) + 1)) + 1)))
def cn_LogEntry (x : D.LogEntry) : Nat := 1 + 1 + 1 + 1 + 1 + 1
theorem mk_LogEntry_ok : MkOk mk_LogEntry cn_LogEntry := fun x k h0 h1 => by
  unfold cn_LogEntry at h1
  unfold mk_LogEntry cn_LogEntry
  obtain ⟨k0, q0⟩ : ∃ z, z = IntKind.i64.wrap (k + 1) := ⟨_, rfl⟩
  have g0 : k0 = k + 1 := q0.trans (wrap1 (by omega) (by omega))
  obtain ⟨k1, q1⟩ : ∃ z, z = IntKind.i64.wrap (k0 + 1) := ⟨_, rfl⟩
  have g1 : k1 = k0 + 1 := q1.trans (wrap1 (by omega) (by omega))
  obtain ⟨k2, q2⟩ : ∃ z, z = IntKind.i64.wrap (k1 + 1) := ⟨_, rfl⟩
  have g2 : k2 = k1 + 1 := q2.trans (wrap1 (by omega) (by omega))
  obtain ⟨k3, q3⟩ : ∃ z, z = IntKind.i64.wrap (k2 + 1) := ⟨_, rfl⟩
  have g3 : k3 = k2 + 1 := q3.trans (wrap1 (by omega) (by omega))
  obtain ⟨k4, q4⟩ : ∃ z, z = IntKind.i64.wrap (k3 + 1) := ⟨_, rfl⟩
  have g4 : k4 = k3 + 1 := q4.trans (wrap1 (by omega) (by omega))
  obtain ⟨k5, q5⟩ : ∃ z, z = IntKind.i64.wrap (k4 + 1) := ⟨_, rfl⟩
  have g5 : k5 = k4 + 1 := q5.trans (wrap1 (by omega) (by omega))
  simp only [← q0, ← q1, ← q2, ← q3, ← q4, ← q5]
  exact ⟨by omega, by first | trivial | omega⟩
theorem cn_LogEntry_le (x : D.LogEntry) : cn_LogEntry x ≤ 16 := by
  simp only [cn_LogEntry] <;> omega
def m_laws_markLogEntryS (a0 : List D.LogEntry) (a1 : Int) : Option ((List D.LogEntry) × Int) := bd (itr (α := (Int × List D.LogEntry)) FUEL (fun rec1 (i1 : (Int × Nat × List D.LogEntry)) => bif (decide ((↑i1.snd.fst : Int) < (↑i1.snd.snd.length : Int))) then (bd (atq (i1.snd.snd) (↑i1.snd.fst : Int)) fun (z2 : (D.LogEntry)) => bd (atq (i1.snd.snd.set (↑i1.snd.fst : Int).toNat (D.LogEntry.mk i1.fst z2.Kind z2.Device z2.By z2.Previous z2.Signature)) (↑i1.snd.fst : Int)) fun (z3 : (D.LogEntry)) => bd (atq ((i1.snd.snd.set (↑i1.snd.fst : Int).toNat (D.LogEntry.mk i1.fst z2.Kind z2.Device z2.By z2.Previous z2.Signature)).set (↑i1.snd.fst : Int).toNat (D.LogEntry.mk z3.Index (IntKind.i64.wrap (i1.fst + (1 : Int))) z3.Device z3.By z3.Previous z3.Signature)) (↑i1.snd.fst : Int)) fun (z4 : (D.LogEntry)) => bd (atq (((i1.snd.snd.set (↑i1.snd.fst : Int).toNat (D.LogEntry.mk i1.fst z2.Kind z2.Device z2.By z2.Previous z2.Signature)).set (↑i1.snd.fst : Int).toNat (D.LogEntry.mk z3.Index (IntKind.i64.wrap (i1.fst + (1 : Int))) z3.Device z3.By z3.Previous z3.Signature)).set (↑i1.snd.fst : Int).toNat (D.LogEntry.mk z4.Index z4.Kind (IntKind.i64.wrap (IntKind.i64.wrap (i1.fst + (1 : Int)) + (1 : Int))) z4.By z4.Previous z4.Signature)) (↑i1.snd.fst : Int)) fun (z5 : (D.LogEntry)) => bd (atq ((((i1.snd.snd.set (↑i1.snd.fst : Int).toNat (D.LogEntry.mk i1.fst z2.Kind z2.Device z2.By z2.Previous z2.Signature)).set (↑i1.snd.fst : Int).toNat (D.LogEntry.mk z3.Index (IntKind.i64.wrap (i1.fst + (1 : Int))) z3.Device z3.By z3.Previous z3.Signature)).set (↑i1.snd.fst : Int).toNat (D.LogEntry.mk z4.Index z4.Kind (IntKind.i64.wrap (IntKind.i64.wrap (i1.fst + (1 : Int)) + (1 : Int))) z4.By z4.Previous z4.Signature)).set (↑i1.snd.fst : Int).toNat (D.LogEntry.mk z5.Index z5.Kind z5.Device (IntKind.i64.wrap (IntKind.i64.wrap (IntKind.i64.wrap (i1.fst + (1 : Int)) + (1 : Int)) + (1 : Int))) z5.Previous z5.Signature)) (↑i1.snd.fst : Int)) fun (z6 : (D.LogEntry)) => bd (atq (((((i1.snd.snd.set (↑i1.snd.fst : Int).toNat (D.LogEntry.mk i1.fst z2.Kind z2.Device z2.By z2.Previous z2.Signature)).set (↑i1.snd.fst : Int).toNat (D.LogEntry.mk z3.Index (IntKind.i64.wrap (i1.fst + (1 : Int))) z3.Device z3.By z3.Previous z3.Signature)).set (↑i1.snd.fst : Int).toNat (D.LogEntry.mk z4.Index z4.Kind (IntKind.i64.wrap (IntKind.i64.wrap (i1.fst + (1 : Int)) + (1 : Int))) z4.By z4.Previous z4.Signature)).set (↑i1.snd.fst : Int).toNat (D.LogEntry.mk z5.Index z5.Kind z5.Device (IntKind.i64.wrap (IntKind.i64.wrap (IntKind.i64.wrap (i1.fst + (1 : Int)) + (1 : Int)) + (1 : Int))) z5.Previous z5.Signature)).set (↑i1.snd.fst : Int).toNat (D.LogEntry.mk z6.Index z6.Kind z6.Device z6.By (IntKind.i64.wrap (IntKind.i64.wrap (IntKind.i64.wrap (IntKind.i64.wrap (i1.fst + (1 : Int)) + (1 : Int)) + (1 : Int)) + (1 : Int))) z6.Signature)) (↑i1.snd.fst : Int)) fun (z7 : (D.LogEntry)) => rec1 ((IntKind.i64.wrap (IntKind.i64.wrap (IntKind.i64.wrap (IntKind.i64.wrap (IntKind.i64.wrap (IntKind.i64.wrap (i1.fst + (1 : Int)) + (1 : Int)) + (1 : Int)) + (1 : Int)) + (1 : Int)) + (1 : Int)), (i1.snd.fst + 1), (((((i1.snd.snd.set (↑i1.snd.fst : Int).toNat (D.LogEntry.mk i1.fst z2.Kind z2.Device z2.By z2.Previous z2.Signature)).set (↑i1.snd.fst : Int).toNat (D.LogEntry.mk z3.Index (IntKind.i64.wrap (i1.fst + (1 : Int))) z3.Device z3.By z3.Previous z3.Signature)).set (↑i1.snd.fst : Int).toNat (D.LogEntry.mk z4.Index z4.Kind (IntKind.i64.wrap (IntKind.i64.wrap (i1.fst + (1 : Int)) + (1 : Int))) z4.By z4.Previous z4.Signature)).set (↑i1.snd.fst : Int).toNat (D.LogEntry.mk z5.Index z5.Kind z5.Device (IntKind.i64.wrap (IntKind.i64.wrap (IntKind.i64.wrap (i1.fst + (1 : Int)) + (1 : Int)) + (1 : Int))) z5.Previous z5.Signature)).set (↑i1.snd.fst : Int).toNat (D.LogEntry.mk z6.Index z6.Kind z6.Device z6.By (IntKind.i64.wrap (IntKind.i64.wrap (IntKind.i64.wrap (IntKind.i64.wrap (i1.fst + (1 : Int)) + (1 : Int)) + (1 : Int)) + (1 : Int))) z6.Signature)).set (↑i1.snd.fst : Int).toNat (D.LogEntry.mk z7.Index z7.Kind z7.Device z7.By z7.Previous (IntKind.i64.wrap (IntKind.i64.wrap (IntKind.i64.wrap (IntKind.i64.wrap (IntKind.i64.wrap (i1.fst + (1 : Int)) + (1 : Int)) + (1 : Int)) + (1 : Int)) + (1 : Int))))))) else (some (i1.fst, i1.snd.snd))) (a1, 0, a0)) fun (z0 : (Int × List D.LogEntry)) => some (z0.snd, z0.fst)
theorem t_laws_markLogEntryS (a0 : List D.LogEntry) (a1 : Int) (h : MkP (a0.length) (cntL cn_LogEntry a0) a1) : m_laws_markLogEntryS a0 a1 = some (mkL mk_LogEntry a0 a1) := by
  obtain ⟨hs, h0, h1⟩ := h
  unfold m_laws_markLogEntryS
  rw [markLoop mk_LogEntry_ok h0 h1 (by omega) (fun rec k i l hi hi0 hx hk0 hk1 => by
    unfold cn_LogEntry at hk1
    obtain ⟨k0, q0⟩ : ∃ z, z = IntKind.i64.wrap (k + 1) := ⟨_, rfl⟩
    have g0 : k0 = k + 1 := q0.trans (wrap1 (by omega) (by omega))
    obtain ⟨k1, q1⟩ : ∃ z, z = IntKind.i64.wrap (k0 + 1) := ⟨_, rfl⟩
    have g1 : k1 = k0 + 1 := q1.trans (wrap1 (by omega) (by omega))
    obtain ⟨k2, q2⟩ : ∃ z, z = IntKind.i64.wrap (k1 + 1) := ⟨_, rfl⟩
    have g2 : k2 = k1 + 1 := q2.trans (wrap1 (by omega) (by omega))
    obtain ⟨k3, q3⟩ : ∃ z, z = IntKind.i64.wrap (k2 + 1) := ⟨_, rfl⟩
    have g3 : k3 = k2 + 1 := q3.trans (wrap1 (by omega) (by omega))
    obtain ⟨k4, q4⟩ : ∃ z, z = IntKind.i64.wrap (k3 + 1) := ⟨_, rfl⟩
    have g4 : k4 = k3 + 1 := q4.trans (wrap1 (by omega) (by omega))
    obtain ⟨k5, q5⟩ : ∃ z, z = IntKind.i64.wrap (k4 + 1) := ⟨_, rfl⟩
    have g5 : k5 = k4 + 1 := q5.trans (wrap1 (by omega) (by omega))
    simp only [lt_i hi, cond_true, atq_nat hi, hx, atq_set hi, atq_nat (show i < (l.set i _).length by simpa using hi), List.set_set, List.getElem_set_self, bd_s, toNat_i, three_ne, gd_T, mk_LogEntry, ← q0, ← q1, ← q2, ← q3, ← q4, ← q5]) (fun rec k l => by simp only [ge_i, cond_false])]
  rfl

-- laws_markEntryS
def mk_Entry (x : D.Entry) (k : Int) : D.Entry × Int := (⟨k, (IntKind.i64.wrap (k + 1)), (IntKind.i64.wrap ((IntKind.i64.wrap (k + 1)) + 1)), ((IntKind.i64.wrap ((IntKind.i64.wrap ((IntKind.i64.wrap (k + 1)) + 1)) + 1)).tmod 3 == 0)⟩, (IntKind.i64.wrap ((IntKind.i64.wrap ((IntKind.i64.wrap ((IntKind.i64.wrap (k + 1)) + 1)) + 1)) + 1)))
def cn_Entry (x : D.Entry) : Nat := 1 + 1 + 1 + 1
theorem mk_Entry_ok : MkOk mk_Entry cn_Entry := fun x k h0 h1 => by
  unfold cn_Entry at h1
  unfold mk_Entry cn_Entry
  obtain ⟨k0, q0⟩ : ∃ z, z = IntKind.i64.wrap (k + 1) := ⟨_, rfl⟩
  have g0 : k0 = k + 1 := q0.trans (wrap1 (by omega) (by omega))
  obtain ⟨k1, q1⟩ : ∃ z, z = IntKind.i64.wrap (k0 + 1) := ⟨_, rfl⟩
  have g1 : k1 = k0 + 1 := q1.trans (wrap1 (by omega) (by omega))
  obtain ⟨k2, q2⟩ : ∃ z, z = IntKind.i64.wrap (k1 + 1) := ⟨_, rfl⟩
  have g2 : k2 = k1 + 1 := q2.trans (wrap1 (by omega) (by omega))
  obtain ⟨k3, q3⟩ : ∃ z, z = IntKind.i64.wrap (k2 + 1) := ⟨_, rfl⟩
  have g3 : k3 = k2 + 1 := q3.trans (wrap1 (by omega) (by omega))
  simp only [← q0, ← q1, ← q2, ← q3]
  exact ⟨by omega, by first | trivial | omega⟩
theorem cn_Entry_le (x : D.Entry) : cn_Entry x ≤ 16 := by
  simp only [cn_Entry] <;> omega
def m_laws_markEntryS (a0 : List D.Entry) (a1 : Int) : Option ((List D.Entry) × Int) := bd (itr (α := (Int × List D.Entry)) FUEL (fun rec1 (i1 : (Int × Nat × List D.Entry)) => bif (decide ((↑i1.snd.fst : Int) < (↑i1.snd.snd.length : Int))) then (bd (atq (i1.snd.snd) (↑i1.snd.fst : Int)) fun (z2 : (D.Entry)) => bd (atq (i1.snd.snd.set (↑i1.snd.fst : Int).toNat (D.Entry.mk i1.fst z2.Handle z2.Version z2.Deleted)) (↑i1.snd.fst : Int)) fun (z3 : (D.Entry)) => bd (atq ((i1.snd.snd.set (↑i1.snd.fst : Int).toNat (D.Entry.mk i1.fst z2.Handle z2.Version z2.Deleted)).set (↑i1.snd.fst : Int).toNat (D.Entry.mk z3.Site (IntKind.i64.wrap (i1.fst + (1 : Int))) z3.Version z3.Deleted)) (↑i1.snd.fst : Int)) fun (z4 : (D.Entry)) => gd ((3 : Int) ≠ (0 : Int)) (bd (atq (((i1.snd.snd.set (↑i1.snd.fst : Int).toNat (D.Entry.mk i1.fst z2.Handle z2.Version z2.Deleted)).set (↑i1.snd.fst : Int).toNat (D.Entry.mk z3.Site (IntKind.i64.wrap (i1.fst + (1 : Int))) z3.Version z3.Deleted)).set (↑i1.snd.fst : Int).toNat (D.Entry.mk z4.Site z4.Handle (IntKind.i64.wrap (IntKind.i64.wrap (i1.fst + (1 : Int)) + (1 : Int))) z4.Deleted)) (↑i1.snd.fst : Int)) fun (z5 : (D.Entry)) => rec1 ((IntKind.i64.wrap (IntKind.i64.wrap (IntKind.i64.wrap (IntKind.i64.wrap (i1.fst + (1 : Int)) + (1 : Int)) + (1 : Int)) + (1 : Int)), (i1.snd.fst + 1), (((i1.snd.snd.set (↑i1.snd.fst : Int).toNat (D.Entry.mk i1.fst z2.Handle z2.Version z2.Deleted)).set (↑i1.snd.fst : Int).toNat (D.Entry.mk z3.Site (IntKind.i64.wrap (i1.fst + (1 : Int))) z3.Version z3.Deleted)).set (↑i1.snd.fst : Int).toNat (D.Entry.mk z4.Site z4.Handle (IntKind.i64.wrap (IntKind.i64.wrap (i1.fst + (1 : Int)) + (1 : Int))) z4.Deleted)).set (↑i1.snd.fst : Int).toNat (D.Entry.mk z5.Site z5.Handle z5.Version ((IntKind.i64.wrap (IntKind.i64.wrap (IntKind.i64.wrap (i1.fst + (1 : Int)) + (1 : Int)) + (1 : Int))).tmod (3 : Int) == (0 : Int))))))) else (some (i1.fst, i1.snd.snd))) (a1, 0, a0)) fun (z0 : (Int × List D.Entry)) => some (z0.snd, z0.fst)
theorem t_laws_markEntryS (a0 : List D.Entry) (a1 : Int) (h : MkP (a0.length) (cntL cn_Entry a0) a1) : m_laws_markEntryS a0 a1 = some (mkL mk_Entry a0 a1) := by
  obtain ⟨hs, h0, h1⟩ := h
  unfold m_laws_markEntryS
  rw [markLoop mk_Entry_ok h0 h1 (by omega) (fun rec k i l hi hi0 hx hk0 hk1 => by
    unfold cn_Entry at hk1
    obtain ⟨k0, q0⟩ : ∃ z, z = IntKind.i64.wrap (k + 1) := ⟨_, rfl⟩
    have g0 : k0 = k + 1 := q0.trans (wrap1 (by omega) (by omega))
    obtain ⟨k1, q1⟩ : ∃ z, z = IntKind.i64.wrap (k0 + 1) := ⟨_, rfl⟩
    have g1 : k1 = k0 + 1 := q1.trans (wrap1 (by omega) (by omega))
    obtain ⟨k2, q2⟩ : ∃ z, z = IntKind.i64.wrap (k1 + 1) := ⟨_, rfl⟩
    have g2 : k2 = k1 + 1 := q2.trans (wrap1 (by omega) (by omega))
    obtain ⟨k3, q3⟩ : ∃ z, z = IntKind.i64.wrap (k2 + 1) := ⟨_, rfl⟩
    have g3 : k3 = k2 + 1 := q3.trans (wrap1 (by omega) (by omega))
    simp only [lt_i hi, cond_true, atq_nat hi, hx, atq_set hi, atq_nat (show i < (l.set i _).length by simpa using hi), List.set_set, List.getElem_set_self, bd_s, toNat_i, three_ne, gd_T, mk_Entry, ← q0, ← q1, ← q2, ← q3]) (fun rec k l => by simp only [ge_i, cond_false])]
  rfl

-- laws_markDeviceS
def mk_Device (x : D.Device) (k : Int) : D.Device × Int := (⟨⟨k, (IntKind.i64.wrap (k + 1)), (IntKind.i64.wrap ((IntKind.i64.wrap (k + 1)) + 1)), (IntKind.i64.wrap ((IntKind.i64.wrap ((IntKind.i64.wrap (k + 1)) + 1)) + 1))⟩, (mkL mk_LogEntry x.Log (IntKind.i64.wrap ((IntKind.i64.wrap ((IntKind.i64.wrap ((IntKind.i64.wrap (k + 1)) + 1)) + 1)) + 1))).1, (mkL mk_LogEntry x.Log (IntKind.i64.wrap ((IntKind.i64.wrap ((IntKind.i64.wrap ((IntKind.i64.wrap (k + 1)) + 1)) + 1)) + 1))).2, (IntKind.i64.wrap ((mkL mk_LogEntry x.Log (IntKind.i64.wrap ((IntKind.i64.wrap ((IntKind.i64.wrap ((IntKind.i64.wrap (k + 1)) + 1)) + 1)) + 1))).2 + 1)), (IntKind.i64.wrap ((IntKind.i64.wrap ((mkL mk_LogEntry x.Log (IntKind.i64.wrap ((IntKind.i64.wrap ((IntKind.i64.wrap ((IntKind.i64.wrap (k + 1)) + 1)) + 1)) + 1))).2 + 1)) + 1)), ⟨(mkL mk_Entry x.Bundle.Entries (IntKind.i64.wrap ((IntKind.i64.wrap ((IntKind.i64.wrap ((mkL mk_LogEntry x.Log (IntKind.i64.wrap ((IntKind.i64.wrap ((IntKind.i64.wrap ((IntKind.i64.wrap (k + 1)) + 1)) + 1)) + 1))).2 + 1)) + 1)) + 1))).1⟩⟩, (mkL mk_Entry x.Bundle.Entries (IntKind.i64.wrap ((IntKind.i64.wrap ((IntKind.i64.wrap ((mkL mk_LogEntry x.Log (IntKind.i64.wrap ((IntKind.i64.wrap ((IntKind.i64.wrap ((IntKind.i64.wrap (k + 1)) + 1)) + 1)) + 1))).2 + 1)) + 1)) + 1))).2)
def cn_Device (x : D.Device) : Nat := 1 + 1 + 1 + 1 + cntL cn_LogEntry x.Log + 1 + 1 + 1 + cntL cn_Entry x.Bundle.Entries
theorem mk_Device_ok : MkOk mk_Device cn_Device := fun x k h0 h1 => by
  unfold cn_Device at h1
  unfold mk_Device cn_Device
  obtain ⟨k0, q0⟩ : ∃ z, z = IntKind.i64.wrap (k + 1) := ⟨_, rfl⟩
  have g0 : k0 = k + 1 := q0.trans (wrap1 (by omega) (by omega))
  obtain ⟨k1, q1⟩ : ∃ z, z = IntKind.i64.wrap (k0 + 1) := ⟨_, rfl⟩
  have g1 : k1 = k0 + 1 := q1.trans (wrap1 (by omega) (by omega))
  obtain ⟨k2, q2⟩ : ∃ z, z = IntKind.i64.wrap (k1 + 1) := ⟨_, rfl⟩
  have g2 : k2 = k1 + 1 := q2.trans (wrap1 (by omega) (by omega))
  obtain ⟨k3, q3⟩ : ∃ z, z = IntKind.i64.wrap (k2 + 1) := ⟨_, rfl⟩
  have g3 : k3 = k2 + 1 := q3.trans (wrap1 (by omega) (by omega))
  obtain ⟨k4, q4⟩ : ∃ z, z = (mkL mk_LogEntry x.Log k3).2 := ⟨_, rfl⟩
  have f4 := mkL_ok mk_LogEntry_ok x.Log k3 (by omega) (by omega)
  have g4 : k4 = k3 + cntL cn_LogEntry x.Log := q4.trans f4.1
  obtain ⟨k5, q5⟩ : ∃ z, z = IntKind.i64.wrap (k4 + 1) := ⟨_, rfl⟩
  have g5 : k5 = k4 + 1 := q5.trans (wrap1 (by omega) (by omega))
  obtain ⟨k6, q6⟩ : ∃ z, z = IntKind.i64.wrap (k5 + 1) := ⟨_, rfl⟩
  have g6 : k6 = k5 + 1 := q6.trans (wrap1 (by omega) (by omega))
  obtain ⟨k7, q7⟩ : ∃ z, z = IntKind.i64.wrap (k6 + 1) := ⟨_, rfl⟩
  have g7 : k7 = k6 + 1 := q7.trans (wrap1 (by omega) (by omega))
  obtain ⟨k8, q8⟩ : ∃ z, z = (mkL mk_Entry x.Bundle.Entries k7).2 := ⟨_, rfl⟩
  have f8 := mkL_ok mk_Entry_ok x.Bundle.Entries k7 (by omega) (by omega)
  have g8 : k8 = k7 + cntL cn_Entry x.Bundle.Entries := q8.trans f8.1
  simp only [← q0, ← q1, ← q2, ← q3, ← q4, ← q5, ← q6, ← q7, ← q8]
  exact ⟨by omega, by first | trivial | omega⟩
theorem cn_Device_le (x : D.Device) : cn_Device x ≤ 16 + 16 * x.sz := by
  have := cntL_le0 (c := cn_LogEntry) (l := x.Log) (fun y _ => cn_LogEntry_le y)
  have := cntL_le0 (c := cn_Entry) (l := x.Bundle.Entries) (fun y _ => cn_Entry_le y)
  simp only [cn_Device, D.Bundle.sz, D.Device.sz, D.KeyStore.sz]
  omega
def m_laws_markDeviceS (a0 : List D.Device) (a1 : Int) : Option ((List D.Device) × Int) := bd (itr (α := (Int × List D.Device)) FUEL (fun rec1 (i1 : (Int × Nat × List D.Device)) => bif (decide ((↑i1.snd.fst : Int) < (↑i1.snd.snd.length : Int))) then (bd (atq (i1.snd.snd) (↑i1.snd.fst : Int)) fun (z2 : (D.Device)) => bd (atq (i1.snd.snd.set (↑i1.snd.fst : Int).toNat (D.Device.mk (D.KeyStore.mk i1.fst z2.Store.Serial z2.Store.Seed z2.Store.Counter) z2.Log z2.Key z2.Epoch z2.Version z2.Bundle)) (↑i1.snd.fst : Int)) fun (z3 : (D.Device)) => bd (atq ((i1.snd.snd.set (↑i1.snd.fst : Int).toNat (D.Device.mk (D.KeyStore.mk i1.fst z2.Store.Serial z2.Store.Seed z2.Store.Counter) z2.Log z2.Key z2.Epoch z2.Version z2.Bundle)).set (↑i1.snd.fst : Int).toNat (D.Device.mk (D.KeyStore.mk z3.Store.Vendor (IntKind.i64.wrap (i1.fst + (1 : Int))) z3.Store.Seed z3.Store.Counter) z3.Log z3.Key z3.Epoch z3.Version z3.Bundle)) (↑i1.snd.fst : Int)) fun (z4 : (D.Device)) => bd (atq (((i1.snd.snd.set (↑i1.snd.fst : Int).toNat (D.Device.mk (D.KeyStore.mk i1.fst z2.Store.Serial z2.Store.Seed z2.Store.Counter) z2.Log z2.Key z2.Epoch z2.Version z2.Bundle)).set (↑i1.snd.fst : Int).toNat (D.Device.mk (D.KeyStore.mk z3.Store.Vendor (IntKind.i64.wrap (i1.fst + (1 : Int))) z3.Store.Seed z3.Store.Counter) z3.Log z3.Key z3.Epoch z3.Version z3.Bundle)).set (↑i1.snd.fst : Int).toNat (D.Device.mk (D.KeyStore.mk z4.Store.Vendor z4.Store.Serial (IntKind.i64.wrap (IntKind.i64.wrap (i1.fst + (1 : Int)) + (1 : Int))) z4.Store.Counter) z4.Log z4.Key z4.Epoch z4.Version z4.Bundle)) (↑i1.snd.fst : Int)) fun (z5 : (D.Device)) => bd (atq ((((i1.snd.snd.set (↑i1.snd.fst : Int).toNat (D.Device.mk (D.KeyStore.mk i1.fst z2.Store.Serial z2.Store.Seed z2.Store.Counter) z2.Log z2.Key z2.Epoch z2.Version z2.Bundle)).set (↑i1.snd.fst : Int).toNat (D.Device.mk (D.KeyStore.mk z3.Store.Vendor (IntKind.i64.wrap (i1.fst + (1 : Int))) z3.Store.Seed z3.Store.Counter) z3.Log z3.Key z3.Epoch z3.Version z3.Bundle)).set (↑i1.snd.fst : Int).toNat (D.Device.mk (D.KeyStore.mk z4.Store.Vendor z4.Store.Serial (IntKind.i64.wrap (IntKind.i64.wrap (i1.fst + (1 : Int)) + (1 : Int))) z4.Store.Counter) z4.Log z4.Key z4.Epoch z4.Version z4.Bundle)).set (↑i1.snd.fst : Int).toNat (D.Device.mk (D.KeyStore.mk z5.Store.Vendor z5.Store.Serial z5.Store.Seed (IntKind.i64.wrap (IntKind.i64.wrap (IntKind.i64.wrap (i1.fst + (1 : Int)) + (1 : Int)) + (1 : Int)))) z5.Log z5.Key z5.Epoch z5.Version z5.Bundle)) (↑i1.snd.fst : Int)) fun (z6 : (D.Device)) => bd (gd (MkP z6.Log.length (cntL cn_LogEntry z6.Log) (IntKind.i64.wrap (IntKind.i64.wrap (IntKind.i64.wrap (IntKind.i64.wrap (i1.fst + (1 : Int)) + (1 : Int)) + (1 : Int)) + (1 : Int)))) (some (mkL mk_LogEntry z6.Log (IntKind.i64.wrap (IntKind.i64.wrap (IntKind.i64.wrap (IntKind.i64.wrap (i1.fst + (1 : Int)) + (1 : Int)) + (1 : Int)) + (1 : Int)))))) fun (z7 : (List D.LogEntry × Int)) => bd (atq (((((i1.snd.snd.set (↑i1.snd.fst : Int).toNat (D.Device.mk (D.KeyStore.mk i1.fst z2.Store.Serial z2.Store.Seed z2.Store.Counter) z2.Log z2.Key z2.Epoch z2.Version z2.Bundle)).set (↑i1.snd.fst : Int).toNat (D.Device.mk (D.KeyStore.mk z3.Store.Vendor (IntKind.i64.wrap (i1.fst + (1 : Int))) z3.Store.Seed z3.Store.Counter) z3.Log z3.Key z3.Epoch z3.Version z3.Bundle)).set (↑i1.snd.fst : Int).toNat (D.Device.mk (D.KeyStore.mk z4.Store.Vendor z4.Store.Serial (IntKind.i64.wrap (IntKind.i64.wrap (i1.fst + (1 : Int)) + (1 : Int))) z4.Store.Counter) z4.Log z4.Key z4.Epoch z4.Version z4.Bundle)).set (↑i1.snd.fst : Int).toNat (D.Device.mk (D.KeyStore.mk z5.Store.Vendor z5.Store.Serial z5.Store.Seed (IntKind.i64.wrap (IntKind.i64.wrap (IntKind.i64.wrap (i1.fst + (1 : Int)) + (1 : Int)) + (1 : Int)))) z5.Log z5.Key z5.Epoch z5.Version z5.Bundle)).set (↑i1.snd.fst : Int).toNat (D.Device.mk z6.Store z7.fst z6.Key z6.Epoch z6.Version z6.Bundle)) (↑i1.snd.fst : Int)) fun (z8 : (D.Device)) => bd (atq ((((((i1.snd.snd.set (↑i1.snd.fst : Int).toNat (D.Device.mk (D.KeyStore.mk i1.fst z2.Store.Serial z2.Store.Seed z2.Store.Counter) z2.Log z2.Key z2.Epoch z2.Version z2.Bundle)).set (↑i1.snd.fst : Int).toNat (D.Device.mk (D.KeyStore.mk z3.Store.Vendor (IntKind.i64.wrap (i1.fst + (1 : Int))) z3.Store.Seed z3.Store.Counter) z3.Log z3.Key z3.Epoch z3.Version z3.Bundle)).set (↑i1.snd.fst : Int).toNat (D.Device.mk (D.KeyStore.mk z4.Store.Vendor z4.Store.Serial (IntKind.i64.wrap (IntKind.i64.wrap (i1.fst + (1 : Int)) + (1 : Int))) z4.Store.Counter) z4.Log z4.Key z4.Epoch z4.Version z4.Bundle)).set (↑i1.snd.fst : Int).toNat (D.Device.mk (D.KeyStore.mk z5.Store.Vendor z5.Store.Serial z5.Store.Seed (IntKind.i64.wrap (IntKind.i64.wrap (IntKind.i64.wrap (i1.fst + (1 : Int)) + (1 : Int)) + (1 : Int)))) z5.Log z5.Key z5.Epoch z5.Version z5.Bundle)).set (↑i1.snd.fst : Int).toNat (D.Device.mk z6.Store z7.fst z6.Key z6.Epoch z6.Version z6.Bundle)).set (↑i1.snd.fst : Int).toNat (D.Device.mk z8.Store z8.Log z7.snd z8.Epoch z8.Version z8.Bundle)) (↑i1.snd.fst : Int)) fun (z9 : (D.Device)) => bd (atq (((((((i1.snd.snd.set (↑i1.snd.fst : Int).toNat (D.Device.mk (D.KeyStore.mk i1.fst z2.Store.Serial z2.Store.Seed z2.Store.Counter) z2.Log z2.Key z2.Epoch z2.Version z2.Bundle)).set (↑i1.snd.fst : Int).toNat (D.Device.mk (D.KeyStore.mk z3.Store.Vendor (IntKind.i64.wrap (i1.fst + (1 : Int))) z3.Store.Seed z3.Store.Counter) z3.Log z3.Key z3.Epoch z3.Version z3.Bundle)).set (↑i1.snd.fst : Int).toNat (D.Device.mk (D.KeyStore.mk z4.Store.Vendor z4.Store.Serial (IntKind.i64.wrap (IntKind.i64.wrap (i1.fst + (1 : Int)) + (1 : Int))) z4.Store.Counter) z4.Log z4.Key z4.Epoch z4.Version z4.Bundle)).set (↑i1.snd.fst : Int).toNat (D.Device.mk (D.KeyStore.mk z5.Store.Vendor z5.Store.Serial z5.Store.Seed (IntKind.i64.wrap (IntKind.i64.wrap (IntKind.i64.wrap (i1.fst + (1 : Int)) + (1 : Int)) + (1 : Int)))) z5.Log z5.Key z5.Epoch z5.Version z5.Bundle)).set (↑i1.snd.fst : Int).toNat (D.Device.mk z6.Store z7.fst z6.Key z6.Epoch z6.Version z6.Bundle)).set (↑i1.snd.fst : Int).toNat (D.Device.mk z8.Store z8.Log z7.snd z8.Epoch z8.Version z8.Bundle)).set (↑i1.snd.fst : Int).toNat (D.Device.mk z9.Store z9.Log z9.Key (IntKind.i64.wrap (z7.snd + (1 : Int))) z9.Version z9.Bundle)) (↑i1.snd.fst : Int)) fun (z10 : (D.Device)) => bd (atq ((((((((i1.snd.snd.set (↑i1.snd.fst : Int).toNat (D.Device.mk (D.KeyStore.mk i1.fst z2.Store.Serial z2.Store.Seed z2.Store.Counter) z2.Log z2.Key z2.Epoch z2.Version z2.Bundle)).set (↑i1.snd.fst : Int).toNat (D.Device.mk (D.KeyStore.mk z3.Store.Vendor (IntKind.i64.wrap (i1.fst + (1 : Int))) z3.Store.Seed z3.Store.Counter) z3.Log z3.Key z3.Epoch z3.Version z3.Bundle)).set (↑i1.snd.fst : Int).toNat (D.Device.mk (D.KeyStore.mk z4.Store.Vendor z4.Store.Serial (IntKind.i64.wrap (IntKind.i64.wrap (i1.fst + (1 : Int)) + (1 : Int))) z4.Store.Counter) z4.Log z4.Key z4.Epoch z4.Version z4.Bundle)).set (↑i1.snd.fst : Int).toNat (D.Device.mk (D.KeyStore.mk z5.Store.Vendor z5.Store.Serial z5.Store.Seed (IntKind.i64.wrap (IntKind.i64.wrap (IntKind.i64.wrap (i1.fst + (1 : Int)) + (1 : Int)) + (1 : Int)))) z5.Log z5.Key z5.Epoch z5.Version z5.Bundle)).set (↑i1.snd.fst : Int).toNat (D.Device.mk z6.Store z7.fst z6.Key z6.Epoch z6.Version z6.Bundle)).set (↑i1.snd.fst : Int).toNat (D.Device.mk z8.Store z8.Log z7.snd z8.Epoch z8.Version z8.Bundle)).set (↑i1.snd.fst : Int).toNat (D.Device.mk z9.Store z9.Log z9.Key (IntKind.i64.wrap (z7.snd + (1 : Int))) z9.Version z9.Bundle)).set (↑i1.snd.fst : Int).toNat (D.Device.mk z10.Store z10.Log z10.Key z10.Epoch (IntKind.i64.wrap (IntKind.i64.wrap (z7.snd + (1 : Int)) + (1 : Int))) z10.Bundle)) (↑i1.snd.fst : Int)) fun (z11 : (D.Device)) => bd (gd (MkP z11.Bundle.Entries.length (cntL cn_Entry z11.Bundle.Entries) (IntKind.i64.wrap (IntKind.i64.wrap (IntKind.i64.wrap (z7.snd + (1 : Int)) + (1 : Int)) + (1 : Int)))) (some (mkL mk_Entry z11.Bundle.Entries (IntKind.i64.wrap (IntKind.i64.wrap (IntKind.i64.wrap (z7.snd + (1 : Int)) + (1 : Int)) + (1 : Int)))))) fun (z12 : (List D.Entry × Int)) => rec1 ((z12.snd, (i1.snd.fst + 1), ((((((((i1.snd.snd.set (↑i1.snd.fst : Int).toNat (D.Device.mk (D.KeyStore.mk i1.fst z2.Store.Serial z2.Store.Seed z2.Store.Counter) z2.Log z2.Key z2.Epoch z2.Version z2.Bundle)).set (↑i1.snd.fst : Int).toNat (D.Device.mk (D.KeyStore.mk z3.Store.Vendor (IntKind.i64.wrap (i1.fst + (1 : Int))) z3.Store.Seed z3.Store.Counter) z3.Log z3.Key z3.Epoch z3.Version z3.Bundle)).set (↑i1.snd.fst : Int).toNat (D.Device.mk (D.KeyStore.mk z4.Store.Vendor z4.Store.Serial (IntKind.i64.wrap (IntKind.i64.wrap (i1.fst + (1 : Int)) + (1 : Int))) z4.Store.Counter) z4.Log z4.Key z4.Epoch z4.Version z4.Bundle)).set (↑i1.snd.fst : Int).toNat (D.Device.mk (D.KeyStore.mk z5.Store.Vendor z5.Store.Serial z5.Store.Seed (IntKind.i64.wrap (IntKind.i64.wrap (IntKind.i64.wrap (i1.fst + (1 : Int)) + (1 : Int)) + (1 : Int)))) z5.Log z5.Key z5.Epoch z5.Version z5.Bundle)).set (↑i1.snd.fst : Int).toNat (D.Device.mk z6.Store z7.fst z6.Key z6.Epoch z6.Version z6.Bundle)).set (↑i1.snd.fst : Int).toNat (D.Device.mk z8.Store z8.Log z7.snd z8.Epoch z8.Version z8.Bundle)).set (↑i1.snd.fst : Int).toNat (D.Device.mk z9.Store z9.Log z9.Key (IntKind.i64.wrap (z7.snd + (1 : Int))) z9.Version z9.Bundle)).set (↑i1.snd.fst : Int).toNat (D.Device.mk z10.Store z10.Log z10.Key z10.Epoch (IntKind.i64.wrap (IntKind.i64.wrap (z7.snd + (1 : Int)) + (1 : Int))) z10.Bundle)).set (↑i1.snd.fst : Int).toNat (D.Device.mk z11.Store z11.Log z11.Key z11.Epoch z11.Version (D.Bundle.mk z12.fst))))) else (some (i1.fst, i1.snd.snd))) (a1, 0, a0)) fun (z0 : (Int × List D.Device)) => some (z0.snd, z0.fst)
theorem t_laws_markDeviceS (a0 : List D.Device) (a1 : Int) (h : MkP (a0.length + (a0.map D.Device.sz).sum) (cntL cn_Device a0) a1) : m_laws_markDeviceS a0 a1 = some (mkL mk_Device a0 a1) := by
  obtain ⟨hs, h0, h1⟩ := h
  unfold m_laws_markDeviceS
  rw [markLoop mk_Device_ok h0 h1 (by omega) (fun rec k i l hi hi0 hx hk0 hk1 => by
    have hz := le_sumI (f := D.Device.sz) hi0
    simp only [D.Bundle.sz, D.Device.sz, D.KeyStore.sz] at hz
    unfold cn_Device at hk1
    obtain ⟨k0, q0⟩ : ∃ z, z = IntKind.i64.wrap (k + 1) := ⟨_, rfl⟩
    have g0 : k0 = k + 1 := q0.trans (wrap1 (by omega) (by omega))
    obtain ⟨k1, q1⟩ : ∃ z, z = IntKind.i64.wrap (k0 + 1) := ⟨_, rfl⟩
    have g1 : k1 = k0 + 1 := q1.trans (wrap1 (by omega) (by omega))
    obtain ⟨k2, q2⟩ : ∃ z, z = IntKind.i64.wrap (k1 + 1) := ⟨_, rfl⟩
    have g2 : k2 = k1 + 1 := q2.trans (wrap1 (by omega) (by omega))
    obtain ⟨k3, q3⟩ : ∃ z, z = IntKind.i64.wrap (k2 + 1) := ⟨_, rfl⟩
    have g3 : k3 = k2 + 1 := q3.trans (wrap1 (by omega) (by omega))
    have p4 : MkP (a0[i].Log.length) (cntL cn_LogEntry a0[i].Log) k3 := ⟨by omega, by omega, by omega⟩
    have f4 := mkL_ok mk_LogEntry_ok a0[i].Log k3 (by omega) (by omega)
    obtain ⟨k4, q4⟩ : ∃ z, z = (mkL mk_LogEntry a0[i].Log k3).2 := ⟨_, rfl⟩
    have g4 : k4 = k3 + cntL cn_LogEntry a0[i].Log := q4.trans f4.1
    obtain ⟨k5, q5⟩ : ∃ z, z = IntKind.i64.wrap (k4 + 1) := ⟨_, rfl⟩
    have g5 : k5 = k4 + 1 := q5.trans (wrap1 (by omega) (by omega))
    obtain ⟨k6, q6⟩ : ∃ z, z = IntKind.i64.wrap (k5 + 1) := ⟨_, rfl⟩
    have g6 : k6 = k5 + 1 := q6.trans (wrap1 (by omega) (by omega))
    obtain ⟨k7, q7⟩ : ∃ z, z = IntKind.i64.wrap (k6 + 1) := ⟨_, rfl⟩
    have g7 : k7 = k6 + 1 := q7.trans (wrap1 (by omega) (by omega))
    have p8 : MkP (a0[i].Bundle.Entries.length) (cntL cn_Entry a0[i].Bundle.Entries) k7 := ⟨by omega, by omega, by omega⟩
    have f8 := mkL_ok mk_Entry_ok a0[i].Bundle.Entries k7 (by omega) (by omega)
    obtain ⟨k8, q8⟩ : ∃ z, z = (mkL mk_Entry a0[i].Bundle.Entries k7).2 := ⟨_, rfl⟩
    have g8 : k8 = k7 + cntL cn_Entry a0[i].Bundle.Entries := q8.trans f8.1
    simp only [lt_i hi, cond_true, atq_nat hi, hx, atq_set hi, atq_nat (show i < (l.set i _).length by simpa using hi), List.set_set, List.getElem_set_self, bd_s, toNat_i, three_ne, gd_T, mk_Device, ← q0, ← q1, ← q2, ← q3, ← q4, ← q5, ← q6, ← q7, ← q8, gd_t p4, gd_t p8]) (fun rec k l => by simp only [ge_i, cond_false])]
  rfl

-- laws_markBoolS
def m_laws_markBoolS (a0 : List Bool) (a1 : Int) : Option ((List Bool) × Int) := bd (itr (α := (Int × List Bool)) FUEL (fun rec1 (i1 : (Int × Nat × List Bool)) => bif (decide ((↑i1.snd.fst : Int) < (↑i1.snd.snd.length : Int))) then (gd ((3 : Int) ≠ (0 : Int)) (bd (atq (i1.snd.snd) (↑i1.snd.fst : Int)) fun (z2 : (Bool)) => rec1 ((IntKind.i64.wrap (i1.fst + (1 : Int)), (i1.snd.fst + 1), i1.snd.snd.set (↑i1.snd.fst : Int).toNat (i1.fst.tmod (3 : Int) == (0 : Int)))))) else (some (i1.fst, i1.snd.snd))) (a1, 0, a0)) fun (z0 : (Int × List Bool)) => some (z0.snd, z0.fst)
theorem t_laws_markBoolS (a0 : List Bool) (a1 : Int) (h : MkP (a0.length) (cntL cn1 a0) a1) : m_laws_markBoolS a0 a1 = some (mkL mkB a0 a1) := by
  obtain ⟨hs, h0, h1⟩ := h
  unfold m_laws_markBoolS
  rw [markLoop mkB_ok h0 h1 (by omega) (fun rec k i l hi hi0 hx hk0 hk1 => by
    simp only [lt_i hi, cond_true, atq_nat hi, bd_s, toNat_i, three_ne, gd_T, mkB]) (fun rec k l => by simp only [ge_i, cond_false])]
  rfl

-- laws_markByteS
def m_laws_markByteS (a0 : List Int) (a1 : Int) : Option ((List Int) × Int) := bd (itr (α := (Int × List Int)) FUEL (fun rec1 (i1 : (Int × Nat × List Int)) => bif (decide ((↑i1.snd.fst : Int) < (↑i1.snd.snd.length : Int))) then (bd (atq (i1.snd.snd) (↑i1.snd.fst : Int)) fun (z2 : (Int)) => rec1 ((IntKind.i64.wrap (i1.fst + (1 : Int)), (i1.snd.fst + 1), i1.snd.snd.set (↑i1.snd.fst : Int).toNat (IntKind.u8.wrap i1.fst)))) else (some (i1.fst, i1.snd.snd))) (a1, 0, a0)) fun (z0 : (Int × List Int)) => some (z0.snd, z0.fst)
theorem t_laws_markByteS (a0 : List Int) (a1 : Int) (h : MkP (a0.length) (cntL cn1 a0) a1) : m_laws_markByteS a0 a1 = some (mkL mkU a0 a1) := by
  obtain ⟨hs, h0, h1⟩ := h
  unfold m_laws_markByteS
  rw [markLoop mkU_ok h0 h1 (by omega) (fun rec k i l hi hi0 hx hk0 hk1 => by
    simp only [lt_i hi, cond_true, atq_nat hi, bd_s, toNat_i, three_ne, gd_T, mkU]) (fun rec k l => by simp only [ge_i, cond_false])]
  rfl

-- laws_markBoxS
def mk_Box (x : D.Box) (k : Int) : D.Box × Int := (⟨k, (IntKind.i64.wrap (k + 1)), (mkL mkU x.Data (IntKind.i64.wrap ((IntKind.i64.wrap (k + 1)) + 1))).1, (mkL mkU x.Data (IntKind.i64.wrap ((IntKind.i64.wrap (k + 1)) + 1))).2⟩, (IntKind.i64.wrap ((mkL mkU x.Data (IntKind.i64.wrap ((IntKind.i64.wrap (k + 1)) + 1))).2 + 1)))
def cn_Box (x : D.Box) : Nat := 1 + 1 + cntL cn1 x.Data + 1
theorem mk_Box_ok : MkOk mk_Box cn_Box := fun x k h0 h1 => by
  unfold cn_Box at h1
  unfold mk_Box cn_Box
  obtain ⟨k0, q0⟩ : ∃ z, z = IntKind.i64.wrap (k + 1) := ⟨_, rfl⟩
  have g0 : k0 = k + 1 := q0.trans (wrap1 (by omega) (by omega))
  obtain ⟨k1, q1⟩ : ∃ z, z = IntKind.i64.wrap (k0 + 1) := ⟨_, rfl⟩
  have g1 : k1 = k0 + 1 := q1.trans (wrap1 (by omega) (by omega))
  obtain ⟨k2, q2⟩ : ∃ z, z = (mkL mkU x.Data k1).2 := ⟨_, rfl⟩
  have f2 := mkL_ok mkU_ok x.Data k1 (by omega) (by omega)
  have g2 : k2 = k1 + cntL cn1 x.Data := q2.trans f2.1
  obtain ⟨k3, q3⟩ : ∃ z, z = IntKind.i64.wrap (k2 + 1) := ⟨_, rfl⟩
  have g3 : k3 = k2 + 1 := q3.trans (wrap1 (by omega) (by omega))
  simp only [← q0, ← q1, ← q2, ← q3]
  exact ⟨by omega, by first | trivial | omega⟩
theorem cn_Box_le (x : D.Box) : cn_Box x ≤ 16 + 16 * x.sz := by
  have := cntL_le0 (c := cn1) (l := x.Data) (fun _ _ => by simp only [cn1]; omega)
  simp only [cn_Box, D.Box.sz]
  omega
def m_laws_markBoxS (a0 : List D.Box) (a1 : Int) : Option ((List D.Box) × Int) := bd (itr (α := (Int × List D.Box)) FUEL (fun rec1 (i1 : (Int × Nat × List D.Box)) => bif (decide ((↑i1.snd.fst : Int) < (↑i1.snd.snd.length : Int))) then (bd (atq (i1.snd.snd) (↑i1.snd.fst : Int)) fun (z2 : (D.Box)) => bd (atq (i1.snd.snd.set (↑i1.snd.fst : Int).toNat (D.Box.mk i1.fst z2.Ephemeral z2.Data z2.MAC)) (↑i1.snd.fst : Int)) fun (z3 : (D.Box)) => bd (atq ((i1.snd.snd.set (↑i1.snd.fst : Int).toNat (D.Box.mk i1.fst z2.Ephemeral z2.Data z2.MAC)).set (↑i1.snd.fst : Int).toNat (D.Box.mk z3.To (IntKind.i64.wrap (i1.fst + (1 : Int))) z3.Data z3.MAC)) (↑i1.snd.fst : Int)) fun (z4 : (D.Box)) => bd (gd (MkP z4.Data.length (cntL cn1 z4.Data) (IntKind.i64.wrap (IntKind.i64.wrap (i1.fst + (1 : Int)) + (1 : Int)))) (some (mkL mkU z4.Data (IntKind.i64.wrap (IntKind.i64.wrap (i1.fst + (1 : Int)) + (1 : Int)))))) fun (z5 : (List Int × Int)) => bd (atq (((i1.snd.snd.set (↑i1.snd.fst : Int).toNat (D.Box.mk i1.fst z2.Ephemeral z2.Data z2.MAC)).set (↑i1.snd.fst : Int).toNat (D.Box.mk z3.To (IntKind.i64.wrap (i1.fst + (1 : Int))) z3.Data z3.MAC)).set (↑i1.snd.fst : Int).toNat (D.Box.mk z4.To z4.Ephemeral z5.fst z4.MAC)) (↑i1.snd.fst : Int)) fun (z6 : (D.Box)) => rec1 ((IntKind.i64.wrap (z5.snd + (1 : Int)), (i1.snd.fst + 1), (((i1.snd.snd.set (↑i1.snd.fst : Int).toNat (D.Box.mk i1.fst z2.Ephemeral z2.Data z2.MAC)).set (↑i1.snd.fst : Int).toNat (D.Box.mk z3.To (IntKind.i64.wrap (i1.fst + (1 : Int))) z3.Data z3.MAC)).set (↑i1.snd.fst : Int).toNat (D.Box.mk z4.To z4.Ephemeral z5.fst z4.MAC)).set (↑i1.snd.fst : Int).toNat (D.Box.mk z6.To z6.Ephemeral z6.Data z5.snd)))) else (some (i1.fst, i1.snd.snd))) (a1, 0, a0)) fun (z0 : (Int × List D.Box)) => some (z0.snd, z0.fst)
theorem t_laws_markBoxS (a0 : List D.Box) (a1 : Int) (h : MkP (a0.length + (a0.map D.Box.sz).sum) (cntL cn_Box a0) a1) : m_laws_markBoxS a0 a1 = some (mkL mk_Box a0 a1) := by
  obtain ⟨hs, h0, h1⟩ := h
  unfold m_laws_markBoxS
  rw [markLoop mk_Box_ok h0 h1 (by omega) (fun rec k i l hi hi0 hx hk0 hk1 => by
    have hz := le_sumI (f := D.Box.sz) hi0
    simp only [D.Box.sz] at hz
    unfold cn_Box at hk1
    obtain ⟨k0, q0⟩ : ∃ z, z = IntKind.i64.wrap (k + 1) := ⟨_, rfl⟩
    have g0 : k0 = k + 1 := q0.trans (wrap1 (by omega) (by omega))
    obtain ⟨k1, q1⟩ : ∃ z, z = IntKind.i64.wrap (k0 + 1) := ⟨_, rfl⟩
    have g1 : k1 = k0 + 1 := q1.trans (wrap1 (by omega) (by omega))
    have p2 : MkP (a0[i].Data.length) (cntL cn1 a0[i].Data) k1 := ⟨by omega, by omega, by omega⟩
    have f2 := mkL_ok mkU_ok a0[i].Data k1 (by omega) (by omega)
    obtain ⟨k2, q2⟩ : ∃ z, z = (mkL mkU a0[i].Data k1).2 := ⟨_, rfl⟩
    have g2 : k2 = k1 + cntL cn1 a0[i].Data := q2.trans f2.1
    obtain ⟨k3, q3⟩ : ∃ z, z = IntKind.i64.wrap (k2 + 1) := ⟨_, rfl⟩
    have g3 : k3 = k2 + 1 := q3.trans (wrap1 (by omega) (by omega))
    simp only [lt_i hi, cond_true, atq_nat hi, hx, atq_set hi, atq_nat (show i < (l.set i _).length by simpa using hi), List.set_set, List.getElem_set_self, bd_s, toNat_i, three_ne, gd_T, mk_Box, ← q0, ← q1, ← q2, ← q3, gd_t p2]) (fun rec k l => by simp only [ge_i, cond_false])]
  rfl

-- laws_markEpochBoxes
def mv_EpochBoxes (x : D.EpochBoxes) (k : Int) : D.EpochBoxes × Int := (⟨x.Epoch, (mkL mk_Box x.Boxes k).1⟩, (mkL mk_Box x.Boxes k).2)
def cv_EpochBoxes (x : D.EpochBoxes) : Nat := cntL cn_Box x.Boxes
def m_laws_markEpochBoxes (a0 : D.EpochBoxes) (a1 : Int) : Option (D.EpochBoxes × Int) := bd (gd (MkP (a0.Boxes.length + (List.map D.Box.sz a0.Boxes).sum) (cntL cn_Box a0.Boxes) a1) (some (mkL mk_Box a0.Boxes a1))) fun (z0 : (List D.Box × Int)) => some (D.EpochBoxes.mk a0.Epoch z0.fst, z0.snd)
theorem t_laws_markEpochBoxes (a0 : D.EpochBoxes) (a1 : Int) (h : MkP (a0.sz) (cv_EpochBoxes a0) a1) : m_laws_markEpochBoxes a0 a1 = some (mv_EpochBoxes a0 a1) := by
  obtain ⟨hs, h0, h1⟩ := h
  unfold cv_EpochBoxes at h1
  simp only [D.EpochBoxes.sz] at hs
  unfold m_laws_markEpochBoxes mv_EpochBoxes
  rw [gd_t (show MkP _ _ _ from ⟨by omega, by omega, by omega⟩)]
  have f0 := mkL_ok mk_Box_ok a0.Boxes a1 (by omega) (by omega)
  obtain ⟨k0, q0⟩ : ∃ z, z = (mkL mk_Box a0.Boxes a1).2 := ⟨_, rfl⟩
  have g0 : k0 = a1 + cntL cn_Box a0.Boxes := q0.trans f0.1
  simp only [bd_s, ← q0]

-- laws_markSealedBundleS
def mk_SealedBundle (x : D.SealedBundle) (k : Int) : D.SealedBundle × Int := (⟨k, (IntKind.i64.wrap (k + 1)), (mkL mkU x.Data (IntKind.i64.wrap ((IntKind.i64.wrap (k + 1)) + 1))).1, (mkL mkU x.Data (IntKind.i64.wrap ((IntKind.i64.wrap (k + 1)) + 1))).2⟩, (IntKind.i64.wrap ((mkL mkU x.Data (IntKind.i64.wrap ((IntKind.i64.wrap (k + 1)) + 1))).2 + 1)))
def cn_SealedBundle (x : D.SealedBundle) : Nat := 1 + 1 + cntL cn1 x.Data + 1
theorem mk_SealedBundle_ok : MkOk mk_SealedBundle cn_SealedBundle := fun x k h0 h1 => by
  unfold cn_SealedBundle at h1
  unfold mk_SealedBundle cn_SealedBundle
  obtain ⟨k0, q0⟩ : ∃ z, z = IntKind.i64.wrap (k + 1) := ⟨_, rfl⟩
  have g0 : k0 = k + 1 := q0.trans (wrap1 (by omega) (by omega))
  obtain ⟨k1, q1⟩ : ∃ z, z = IntKind.i64.wrap (k0 + 1) := ⟨_, rfl⟩
  have g1 : k1 = k0 + 1 := q1.trans (wrap1 (by omega) (by omega))
  obtain ⟨k2, q2⟩ : ∃ z, z = (mkL mkU x.Data k1).2 := ⟨_, rfl⟩
  have f2 := mkL_ok mkU_ok x.Data k1 (by omega) (by omega)
  have g2 : k2 = k1 + cntL cn1 x.Data := q2.trans f2.1
  obtain ⟨k3, q3⟩ : ∃ z, z = IntKind.i64.wrap (k2 + 1) := ⟨_, rfl⟩
  have g3 : k3 = k2 + 1 := q3.trans (wrap1 (by omega) (by omega))
  simp only [← q0, ← q1, ← q2, ← q3]
  exact ⟨by omega, by first | trivial | omega⟩
theorem cn_SealedBundle_le (x : D.SealedBundle) : cn_SealedBundle x ≤ 16 + 16 * x.sz := by
  have := cntL_le0 (c := cn1) (l := x.Data) (fun _ _ => by simp only [cn1]; omega)
  simp only [cn_SealedBundle, D.SealedBundle.sz]
  omega
def m_laws_markSealedBundleS (a0 : List D.SealedBundle) (a1 : Int) : Option ((List D.SealedBundle) × Int) := bd (itr (α := (Int × List D.SealedBundle)) FUEL (fun rec1 (i1 : (Int × Nat × List D.SealedBundle)) => bif (decide ((↑i1.snd.fst : Int) < (↑i1.snd.snd.length : Int))) then (bd (atq (i1.snd.snd) (↑i1.snd.fst : Int)) fun (z2 : (D.SealedBundle)) => bd (atq (i1.snd.snd.set (↑i1.snd.fst : Int).toNat (D.SealedBundle.mk i1.fst z2.Version z2.Data z2.MAC)) (↑i1.snd.fst : Int)) fun (z3 : (D.SealedBundle)) => bd (atq ((i1.snd.snd.set (↑i1.snd.fst : Int).toNat (D.SealedBundle.mk i1.fst z2.Version z2.Data z2.MAC)).set (↑i1.snd.fst : Int).toNat (D.SealedBundle.mk z3.Epoch (IntKind.i64.wrap (i1.fst + (1 : Int))) z3.Data z3.MAC)) (↑i1.snd.fst : Int)) fun (z4 : (D.SealedBundle)) => bd (gd (MkP z4.Data.length (cntL cn1 z4.Data) (IntKind.i64.wrap (IntKind.i64.wrap (i1.fst + (1 : Int)) + (1 : Int)))) (some (mkL mkU z4.Data (IntKind.i64.wrap (IntKind.i64.wrap (i1.fst + (1 : Int)) + (1 : Int)))))) fun (z5 : (List Int × Int)) => bd (atq (((i1.snd.snd.set (↑i1.snd.fst : Int).toNat (D.SealedBundle.mk i1.fst z2.Version z2.Data z2.MAC)).set (↑i1.snd.fst : Int).toNat (D.SealedBundle.mk z3.Epoch (IntKind.i64.wrap (i1.fst + (1 : Int))) z3.Data z3.MAC)).set (↑i1.snd.fst : Int).toNat (D.SealedBundle.mk z4.Epoch z4.Version z5.fst z4.MAC)) (↑i1.snd.fst : Int)) fun (z6 : (D.SealedBundle)) => rec1 ((IntKind.i64.wrap (z5.snd + (1 : Int)), (i1.snd.fst + 1), (((i1.snd.snd.set (↑i1.snd.fst : Int).toNat (D.SealedBundle.mk i1.fst z2.Version z2.Data z2.MAC)).set (↑i1.snd.fst : Int).toNat (D.SealedBundle.mk z3.Epoch (IntKind.i64.wrap (i1.fst + (1 : Int))) z3.Data z3.MAC)).set (↑i1.snd.fst : Int).toNat (D.SealedBundle.mk z4.Epoch z4.Version z5.fst z4.MAC)).set (↑i1.snd.fst : Int).toNat (D.SealedBundle.mk z6.Epoch z6.Version z6.Data z5.snd)))) else (some (i1.fst, i1.snd.snd))) (a1, 0, a0)) fun (z0 : (Int × List D.SealedBundle)) => some (z0.snd, z0.fst)
theorem t_laws_markSealedBundleS (a0 : List D.SealedBundle) (a1 : Int) (h : MkP (a0.length + (a0.map D.SealedBundle.sz).sum) (cntL cn_SealedBundle a0) a1) : m_laws_markSealedBundleS a0 a1 = some (mkL mk_SealedBundle a0 a1) := by
  obtain ⟨hs, h0, h1⟩ := h
  unfold m_laws_markSealedBundleS
  rw [markLoop mk_SealedBundle_ok h0 h1 (by omega) (fun rec k i l hi hi0 hx hk0 hk1 => by
    have hz := le_sumI (f := D.SealedBundle.sz) hi0
    simp only [D.SealedBundle.sz] at hz
    unfold cn_SealedBundle at hk1
    obtain ⟨k0, q0⟩ : ∃ z, z = IntKind.i64.wrap (k + 1) := ⟨_, rfl⟩
    have g0 : k0 = k + 1 := q0.trans (wrap1 (by omega) (by omega))
    obtain ⟨k1, q1⟩ : ∃ z, z = IntKind.i64.wrap (k0 + 1) := ⟨_, rfl⟩
    have g1 : k1 = k0 + 1 := q1.trans (wrap1 (by omega) (by omega))
    have p2 : MkP (a0[i].Data.length) (cntL cn1 a0[i].Data) k1 := ⟨by omega, by omega, by omega⟩
    have f2 := mkL_ok mkU_ok a0[i].Data k1 (by omega) (by omega)
    obtain ⟨k2, q2⟩ : ∃ z, z = (mkL mkU a0[i].Data k1).2 := ⟨_, rfl⟩
    have g2 : k2 = k1 + cntL cn1 a0[i].Data := q2.trans f2.1
    obtain ⟨k3, q3⟩ : ∃ z, z = IntKind.i64.wrap (k2 + 1) := ⟨_, rfl⟩
    have g3 : k3 = k2 + 1 := q3.trans (wrap1 (by omega) (by omega))
    simp only [lt_i hi, cond_true, atq_nat hi, hx, atq_set hi, atq_nat (show i < (l.set i _).length by simpa using hi), List.set_set, List.getElem_set_self, bd_s, toNat_i, three_ne, gd_T, mk_SealedBundle, ← q0, ← q1, ← q2, ← q3, gd_t p2]) (fun rec k l => by simp only [ge_i, cond_false])]
  rfl

-- laws_markCloud
def mv_Cloud (x : D.Cloud) (k : Int) : D.Cloud × Int := (⟨(mkL mk_LogEntry x.Log k).1, ⟨x.Boxes.Epoch, (mkL mk_Box x.Boxes.Boxes (mkL mk_LogEntry x.Log k).2).1⟩, (mkL mk_SealedBundle x.History (mkL mk_Box x.Boxes.Boxes (mkL mk_LogEntry x.Log k).2).2).1⟩, (mkL mk_SealedBundle x.History (mkL mk_Box x.Boxes.Boxes (mkL mk_LogEntry x.Log k).2).2).2)
def cv_Cloud (x : D.Cloud) : Nat := cntL cn_LogEntry x.Log + cntL cn_Box x.Boxes.Boxes + cntL cn_SealedBundle x.History
def m_laws_markCloud (a0 : D.Cloud) (a1 : Int) : Option (D.Cloud × Int) := bd (gd (MkP a0.Log.length (cntL cn_LogEntry a0.Log) a1) (some (mkL mk_LogEntry a0.Log a1))) fun (z0 : (List D.LogEntry × Int)) => bd (gd (MkP a0.Boxes.sz (cv_EpochBoxes a0.Boxes) z0.snd) (some (mv_EpochBoxes a0.Boxes z0.snd))) fun (z1 : (D.EpochBoxes × Int)) => bd (gd (MkP (a0.History.length + (List.map D.SealedBundle.sz a0.History).sum) (cntL cn_SealedBundle a0.History) z1.snd) (some (mkL mk_SealedBundle a0.History z1.snd))) fun (z2 : (List D.SealedBundle × Int)) => some ((D.Cloud.mk z0.fst (D.EpochBoxes.mk a0.Boxes.Epoch z1.fst.Boxes) z2.fst, z2.snd))
theorem t_laws_markCloud (a0 : D.Cloud) (a1 : Int) (h : MkP (a0.sz) (cv_Cloud a0) a1) : m_laws_markCloud a0 a1 = some (mv_Cloud a0 a1) := by
  obtain ⟨hs, h0, h1⟩ := h
  unfold cv_Cloud at h1
  simp only [D.Cloud.sz, D.EpochBoxes.sz] at hs
  unfold m_laws_markCloud mv_Cloud
  rw [gd_t (show MkP _ _ _ from ⟨by omega, by omega, by omega⟩)]
  have f0 := mkL_ok mk_LogEntry_ok a0.Log a1 (by omega) (by omega)
  obtain ⟨k0, q0⟩ : ∃ z, z = (mkL mk_LogEntry a0.Log a1).2 := ⟨_, rfl⟩
  have g0 : k0 = a1 + cntL cn_LogEntry a0.Log := q0.trans f0.1
  simp only [bd_s, ← q0]
  rw [gd_t (show MkP _ _ _ from ⟨by simp only [D.EpochBoxes.sz]; omega, by omega, by unfold cv_EpochBoxes; omega⟩)]
  simp only [bd_s, mv_EpochBoxes]
  have f1 := mkL_ok mk_Box_ok a0.Boxes.Boxes k0 (by omega) (by omega)
  obtain ⟨k1, q1⟩ : ∃ z, z = (mkL mk_Box a0.Boxes.Boxes k0).2 := ⟨_, rfl⟩
  have g1 : k1 = k0 + cntL cn_Box a0.Boxes.Boxes := q1.trans f1.1
  simp only [← q1]
  rw [gd_t (show MkP _ _ _ from ⟨by omega, by omega, by omega⟩)]
  have f2 := mkL_ok mk_SealedBundle_ok a0.History k1 (by omega) (by omega)
  obtain ⟨k2, q2⟩ : ∃ z, z = (mkL mk_SealedBundle a0.History k1).2 := ⟨_, rfl⟩
  have g2 : k2 = k1 + cntL cn_SealedBundle a0.History := q2.trans f2.1
  simp only [bd_s, ← q2]

-- laws_markText
def m_laws_markText (a0 : Int) : Option (ByteArray) := bif (decide (a0 ≤ (0 : Int))) then (some (ByteArray.mk #[UInt8.ofNat 109, UInt8.ofNat 48])) else (bd (itr (α := (ByteArray)) FUEL (fun rec1 (i1 : (Int × ByteArray)) => bif (decide (i1.fst > (0 : Int))) then (gd ((10 : Int) ≠ (0 : Int)) (gd ([IntKind.u8.wrap (IntKind.i64.wrap ((48 : Int) + i1.fst.tmod (10 : Int)))].length ≤ 68719476736) (gd ((EV.bstr (List.map (fun (n : Int) => n) [IntKind.u8.wrap (IntKind.i64.wrap ((48 : Int) + i1.fst.tmod (10 : Int)))])).size + i1.snd.size ≤ 9223372036854775807) (gd ((10 : Int) ≠ (0 : Int)) (rec1 ((IntKind.i64.wrap (i1.fst.tdiv (10 : Int)), EV.bstr (List.map (fun (n : Int) => n) [IntKind.u8.wrap (IntKind.i64.wrap ((48 : Int) + i1.fst.tmod (10 : Int)))]) ++ i1.snd))))))) else (some (i1.snd))) (a0, ByteArray.mk #[])) fun (z0 : (ByteArray)) => gd ((ByteArray.mk #[UInt8.ofNat 109]).size + z0.size ≤ 9223372036854775807) (some (ByteArray.mk #[UInt8.ofNat 109] ++ z0)))
noncomputable def markTextF (k : Int) : ByteArray := (m_laws_markText k).getD ⟨#[]⟩
theorem markText_ok {k : Int} (h0 : 0 ≤ k) (h1 : k ≤ 4611686018427387904) : m_laws_markText k = some (markTextF k) := by
  have key : ∃ z, m_laws_markText k = some z := by
    unfold m_laws_markText
    by_cases hk : k ≤ 0
    · rw [bifT (decide_eq_true hk)]; exact ⟨_, rfl⟩
    · rw [bifF (decide_eq_false hk)]
      have h10 : ((10 : Int) ≠ 0) = True := by simp
      obtain ⟨r, e1, e2⟩ := itr_ex (F := fun rec1 (i1 : (Int × ByteArray)) => bif (decide (i1.fst > (0 : Int))) then (gd ((10 : Int) ≠ (0 : Int)) (gd ([IntKind.u8.wrap (IntKind.i64.wrap ((48 : Int) + i1.fst.tmod (10 : Int)))].length ≤ 68719476736) (gd ((EV.bstr (List.map (fun (n : Int) => n) [IntKind.u8.wrap (IntKind.i64.wrap ((48 : Int) + i1.fst.tmod (10 : Int)))])).size + i1.snd.size ≤ 9223372036854775807) (gd ((10 : Int) ≠ (0 : Int)) (rec1 (IntKind.i64.wrap (i1.fst.tdiv (10 : Int)), EV.bstr (List.map (fun (n : Int) => n) [IntKind.u8.wrap (IntKind.i64.wrap ((48 : Int) + i1.fst.tmod (10 : Int)))]) ++ i1.snd)))))) else (some (i1.snd)))
        (fun i s => 0 ≤ s.1 ∧ s.1 < ((2 ^ (63 - i) : Nat) : Int) ∧ s.2.size ≤ i) 63 (fun r => r.size ≤ 64) (fun i s rec hi hv => by
          obtain ⟨a1, a2, a3⟩ := hv
          by_cases hs : s.1 > 0
          · refine .inl ⟨(IntKind.i64.wrap (s.1.tdiv 10), EV.bstr (List.map (fun (n : Int) => n) [IntKind.u8.wrap (IntKind.i64.wrap ((48 : Int) + s.1.tmod (10 : Int)))]) ++ s.2), ?_, ?_⟩
            · have hp : 2 ^ (63 - i) = 2 * 2 ^ (63 - (i + 1)) := by rw [show 63 - i = (63 - (i + 1)) + 1 by omega, Nat.pow_succ]; omega
              have hq : (2 : Nat) ^ (63 - i) ≤ 2 ^ 63 := Nat.pow_le_pow_right (by omega) (by omega)
              have ht : s.1.tdiv 10 = s.1 / 10 := Int.tdiv_eq_ediv_of_nonneg a1
              have hq' : (2 : Nat) ^ 63 = 9223372036854775808 := by decide
              rw [hp] at a2 hq
              generalize (2 : Nat) ^ (63 - (i + 1)) = p at *
              have hw : IntKind.i64.wrap (s.1 / 10) = s.1 / 10 := wrap64_id (by omega) (by omega)
              simp only [ht, hw]
              refine ⟨by omega, by omega, ?_⟩
              rw [ByteArray.size_append]
              have : (EV.bstr (List.map (fun (n : Int) => n) [IntKind.u8.wrap (IntKind.i64.wrap ((48 : Int) + s.1.tmod (10 : Int)))])).size = 1 := rfl
              omega
            · have : (EV.bstr (List.map (fun (n : Int) => n) [IntKind.u8.wrap (IntKind.i64.wrap ((48 : Int) + s.1.tmod (10 : Int)))])).size = 1 := rfl
              rw [bifT (decide_eq_true hs), gd_t (by decide), gd_t (by simp), gd_t (by rw [this]; omega), gd_t (by decide)]
          · exact .inr ⟨s.2, by rw [bifF (decide_eq_false hs)], by omega⟩) (fun s rec hv => by
          obtain ⟨a1, a2, a3⟩ := hv
          have : ((2 ^ (63 - 63) : Nat) : Int) = 1 := by decide
          exact ⟨s.2, by rw [bifF (decide_eq_false (by omega))], by omega⟩) 63 0 FUEL (k, ByteArray.mk #[]) rfl (by have := FUEL_le; omega) ⟨h0, by
            have : ((2 ^ (63 - 0) : Nat) : Int) = 9223372036854775808 := by decide
            simp only; omega, by simp [ByteArray.size]⟩
      rw [e1, bd_s, gd_t (by have : (ByteArray.mk #[UInt8.ofNat 109]).size = 1 := rfl; omega)]
      exact ⟨_, rfl⟩
  obtain ⟨z, hz⟩ := key
  rw [markTextF, hz]; rfl

-- laws_markCredentialS
def mk_Credential (x : D.Credential) (k : Int) : D.Credential × Int := (⟨k, (IntKind.i64.wrap (k + 1)), (IntKind.i64.wrap ((IntKind.i64.wrap (k + 1)) + 1)), ((IntKind.i64.wrap ((IntKind.i64.wrap ((IntKind.i64.wrap (k + 1)) + 1)) + 1)).tmod 3 == 0)⟩, (IntKind.i64.wrap ((IntKind.i64.wrap ((IntKind.i64.wrap ((IntKind.i64.wrap (k + 1)) + 1)) + 1)) + 1)))
def cn_Credential (x : D.Credential) : Nat := 1 + 1 + 1 + 1
theorem mk_Credential_ok : MkOk mk_Credential cn_Credential := fun x k h0 h1 => by
  unfold cn_Credential at h1
  unfold mk_Credential cn_Credential
  obtain ⟨k0, q0⟩ : ∃ z, z = IntKind.i64.wrap (k + 1) := ⟨_, rfl⟩
  have g0 : k0 = k + 1 := q0.trans (wrap1 (by omega) (by omega))
  obtain ⟨k1, q1⟩ : ∃ z, z = IntKind.i64.wrap (k0 + 1) := ⟨_, rfl⟩
  have g1 : k1 = k0 + 1 := q1.trans (wrap1 (by omega) (by omega))
  obtain ⟨k2, q2⟩ : ∃ z, z = IntKind.i64.wrap (k1 + 1) := ⟨_, rfl⟩
  have g2 : k2 = k1 + 1 := q2.trans (wrap1 (by omega) (by omega))
  obtain ⟨k3, q3⟩ : ∃ z, z = IntKind.i64.wrap (k2 + 1) := ⟨_, rfl⟩
  have g3 : k3 = k2 + 1 := q3.trans (wrap1 (by omega) (by omega))
  simp only [← q0, ← q1, ← q2, ← q3]
  exact ⟨by omega, by first | trivial | omega⟩
theorem cn_Credential_le (x : D.Credential) : cn_Credential x ≤ 16 := by
  simp only [cn_Credential] <;> omega
def m_laws_markCredentialS (a0 : List D.Credential) (a1 : Int) : Option ((List D.Credential) × Int) := bd (itr (α := (Int × List D.Credential)) FUEL (fun rec1 (i1 : (Int × Nat × List D.Credential)) => bif (decide ((↑i1.snd.fst : Int) < (↑i1.snd.snd.length : Int))) then (bd (atq (i1.snd.snd) (↑i1.snd.fst : Int)) fun (z2 : (D.Credential)) => bd (atq (i1.snd.snd.set (↑i1.snd.fst : Int).toNat (D.Credential.mk i1.fst z2.Public z2.Counter z2.Cut)) (↑i1.snd.fst : Int)) fun (z3 : (D.Credential)) => bd (atq ((i1.snd.snd.set (↑i1.snd.fst : Int).toNat (D.Credential.mk i1.fst z2.Public z2.Counter z2.Cut)).set (↑i1.snd.fst : Int).toNat (D.Credential.mk z3.Handle (IntKind.i64.wrap (i1.fst + (1 : Int))) z3.Counter z3.Cut)) (↑i1.snd.fst : Int)) fun (z4 : (D.Credential)) => gd ((3 : Int) ≠ (0 : Int)) (bd (atq (((i1.snd.snd.set (↑i1.snd.fst : Int).toNat (D.Credential.mk i1.fst z2.Public z2.Counter z2.Cut)).set (↑i1.snd.fst : Int).toNat (D.Credential.mk z3.Handle (IntKind.i64.wrap (i1.fst + (1 : Int))) z3.Counter z3.Cut)).set (↑i1.snd.fst : Int).toNat (D.Credential.mk z4.Handle z4.Public (IntKind.i64.wrap (IntKind.i64.wrap (i1.fst + (1 : Int)) + (1 : Int))) z4.Cut)) (↑i1.snd.fst : Int)) fun (z5 : (D.Credential)) => rec1 ((IntKind.i64.wrap (IntKind.i64.wrap (IntKind.i64.wrap (IntKind.i64.wrap (i1.fst + (1 : Int)) + (1 : Int)) + (1 : Int)) + (1 : Int)), (i1.snd.fst + 1), (((i1.snd.snd.set (↑i1.snd.fst : Int).toNat (D.Credential.mk i1.fst z2.Public z2.Counter z2.Cut)).set (↑i1.snd.fst : Int).toNat (D.Credential.mk z3.Handle (IntKind.i64.wrap (i1.fst + (1 : Int))) z3.Counter z3.Cut)).set (↑i1.snd.fst : Int).toNat (D.Credential.mk z4.Handle z4.Public (IntKind.i64.wrap (IntKind.i64.wrap (i1.fst + (1 : Int)) + (1 : Int))) z4.Cut)).set (↑i1.snd.fst : Int).toNat (D.Credential.mk z5.Handle z5.Public z5.Counter ((IntKind.i64.wrap (IntKind.i64.wrap (IntKind.i64.wrap (i1.fst + (1 : Int)) + (1 : Int)) + (1 : Int))).tmod (3 : Int) == (0 : Int))))))) else (some (i1.fst, i1.snd.snd))) (a1, 0, a0)) fun (z0 : (Int × List D.Credential)) => some (z0.snd, z0.fst)
theorem t_laws_markCredentialS (a0 : List D.Credential) (a1 : Int) (h : MkP (a0.length) (cntL cn_Credential a0) a1) : m_laws_markCredentialS a0 a1 = some (mkL mk_Credential a0 a1) := by
  obtain ⟨hs, h0, h1⟩ := h
  unfold m_laws_markCredentialS
  rw [markLoop mk_Credential_ok h0 h1 (by omega) (fun rec k i l hi hi0 hx hk0 hk1 => by
    unfold cn_Credential at hk1
    obtain ⟨k0, q0⟩ : ∃ z, z = IntKind.i64.wrap (k + 1) := ⟨_, rfl⟩
    have g0 : k0 = k + 1 := q0.trans (wrap1 (by omega) (by omega))
    obtain ⟨k1, q1⟩ : ∃ z, z = IntKind.i64.wrap (k0 + 1) := ⟨_, rfl⟩
    have g1 : k1 = k0 + 1 := q1.trans (wrap1 (by omega) (by omega))
    obtain ⟨k2, q2⟩ : ∃ z, z = IntKind.i64.wrap (k1 + 1) := ⟨_, rfl⟩
    have g2 : k2 = k1 + 1 := q2.trans (wrap1 (by omega) (by omega))
    obtain ⟨k3, q3⟩ : ∃ z, z = IntKind.i64.wrap (k2 + 1) := ⟨_, rfl⟩
    have g3 : k3 = k2 + 1 := q3.trans (wrap1 (by omega) (by omega))
    simp only [lt_i hi, cond_true, atq_nat hi, hx, atq_set hi, atq_nat (show i < (l.set i _).length by simpa using hi), List.set_set, List.getElem_set_self, bd_s, toNat_i, three_ne, gd_T, mk_Credential, ← q0, ← q1, ← q2, ← q3]) (fun rec k l => by simp only [ge_i, cond_false])]
  rfl

-- laws_markAccountS
def mk_Account (x : D.Account) (k : Int) : D.Account × Int := (⟨k, (IntKind.i64.wrap (k + 1)), (mkL mk_Credential x.Credentials (IntKind.i64.wrap ((IntKind.i64.wrap (k + 1)) + 1))).1⟩, (mkL mk_Credential x.Credentials (IntKind.i64.wrap ((IntKind.i64.wrap (k + 1)) + 1))).2)
def cn_Account (x : D.Account) : Nat := 1 + 1 + cntL cn_Credential x.Credentials
theorem mk_Account_ok : MkOk mk_Account cn_Account := fun x k h0 h1 => by
  unfold cn_Account at h1
  unfold mk_Account cn_Account
  obtain ⟨k0, q0⟩ : ∃ z, z = IntKind.i64.wrap (k + 1) := ⟨_, rfl⟩
  have g0 : k0 = k + 1 := q0.trans (wrap1 (by omega) (by omega))
  obtain ⟨k1, q1⟩ : ∃ z, z = IntKind.i64.wrap (k0 + 1) := ⟨_, rfl⟩
  have g1 : k1 = k0 + 1 := q1.trans (wrap1 (by omega) (by omega))
  obtain ⟨k2, q2⟩ : ∃ z, z = (mkL mk_Credential x.Credentials k1).2 := ⟨_, rfl⟩
  have f2 := mkL_ok mk_Credential_ok x.Credentials k1 (by omega) (by omega)
  have g2 : k2 = k1 + cntL cn_Credential x.Credentials := q2.trans f2.1
  simp only [← q0, ← q1, ← q2]
  exact ⟨by omega, by first | trivial | omega⟩
theorem cn_Account_le (x : D.Account) : cn_Account x ≤ 16 + 16 * x.sz := by
  have := cntL_le0 (c := cn_Credential) (l := x.Credentials) (fun y _ => cn_Credential_le y)
  simp only [cn_Account, D.Account.sz]
  omega
def m_laws_markAccountS (a0 : List D.Account) (a1 : Int) : Option ((List D.Account) × Int) := bd (itr (α := (Int × List D.Account)) FUEL (fun rec1 (i1 : (Int × Nat × List D.Account)) => bif (decide ((↑i1.snd.fst : Int) < (↑i1.snd.snd.length : Int))) then (bd (atq (i1.snd.snd) (↑i1.snd.fst : Int)) fun (z2 : (D.Account)) => bd (atq (i1.snd.snd.set (↑i1.snd.fst : Int).toNat (D.Account.mk i1.fst z2.Minimum z2.Credentials)) (↑i1.snd.fst : Int)) fun (z3 : (D.Account)) => bd (atq ((i1.snd.snd.set (↑i1.snd.fst : Int).toNat (D.Account.mk i1.fst z2.Minimum z2.Credentials)).set (↑i1.snd.fst : Int).toNat (D.Account.mk z3.Id (IntKind.i64.wrap (i1.fst + (1 : Int))) z3.Credentials)) (↑i1.snd.fst : Int)) fun (z4 : (D.Account)) => bd (gd (MkP z4.Credentials.length (cntL cn_Credential z4.Credentials) (IntKind.i64.wrap (IntKind.i64.wrap (i1.fst + (1 : Int)) + (1 : Int)))) (some (mkL mk_Credential z4.Credentials (IntKind.i64.wrap (IntKind.i64.wrap (i1.fst + (1 : Int)) + (1 : Int)))))) fun (z5 : (List D.Credential × Int)) => rec1 ((z5.snd, (i1.snd.fst + 1), ((i1.snd.snd.set (↑i1.snd.fst : Int).toNat (D.Account.mk i1.fst z2.Minimum z2.Credentials)).set (↑i1.snd.fst : Int).toNat (D.Account.mk z3.Id (IntKind.i64.wrap (i1.fst + (1 : Int))) z3.Credentials)).set (↑i1.snd.fst : Int).toNat (D.Account.mk z4.Id z4.Minimum z5.fst)))) else (some (i1.fst, i1.snd.snd))) (a1, 0, a0)) fun (z0 : (Int × List D.Account)) => some (z0.snd, z0.fst)
theorem t_laws_markAccountS (a0 : List D.Account) (a1 : Int) (h : MkP (a0.length + (a0.map D.Account.sz).sum) (cntL cn_Account a0) a1) : m_laws_markAccountS a0 a1 = some (mkL mk_Account a0 a1) := by
  obtain ⟨hs, h0, h1⟩ := h
  unfold m_laws_markAccountS
  rw [markLoop mk_Account_ok h0 h1 (by omega) (fun rec k i l hi hi0 hx hk0 hk1 => by
    have hz := le_sumI (f := D.Account.sz) hi0
    simp only [D.Account.sz] at hz
    unfold cn_Account at hk1
    obtain ⟨k0, q0⟩ : ∃ z, z = IntKind.i64.wrap (k + 1) := ⟨_, rfl⟩
    have g0 : k0 = k + 1 := q0.trans (wrap1 (by omega) (by omega))
    obtain ⟨k1, q1⟩ : ∃ z, z = IntKind.i64.wrap (k0 + 1) := ⟨_, rfl⟩
    have g1 : k1 = k0 + 1 := q1.trans (wrap1 (by omega) (by omega))
    have p2 : MkP (a0[i].Credentials.length) (cntL cn_Credential a0[i].Credentials) k1 := ⟨by omega, by omega, by omega⟩
    have f2 := mkL_ok mk_Credential_ok a0[i].Credentials k1 (by omega) (by omega)
    obtain ⟨k2, q2⟩ : ∃ z, z = (mkL mk_Credential a0[i].Credentials k1).2 := ⟨_, rfl⟩
    have g2 : k2 = k1 + cntL cn_Credential a0[i].Credentials := q2.trans f2.1
    simp only [lt_i hi, cond_true, atq_nat hi, hx, atq_set hi, atq_nat (show i < (l.set i _).length by simpa using hi), List.set_set, List.getElem_set_self, bd_s, toNat_i, three_ne, gd_T, mk_Account, ← q0, ← q1, ← q2, gd_t p2]) (fun rec k l => by simp only [ge_i, cond_false])]
  rfl

-- laws_markChallengeS
def mk_Challenge (x : D.Challenge) (k : Int) : D.Challenge × Int := (⟨k, (IntKind.i64.wrap (k + 1)), (IntKind.i64.wrap ((IntKind.i64.wrap (k + 1)) + 1))⟩, (IntKind.i64.wrap ((IntKind.i64.wrap ((IntKind.i64.wrap (k + 1)) + 1)) + 1)))
def cn_Challenge (x : D.Challenge) : Nat := 1 + 1 + 1
theorem mk_Challenge_ok : MkOk mk_Challenge cn_Challenge := fun x k h0 h1 => by
  unfold cn_Challenge at h1
  unfold mk_Challenge cn_Challenge
  obtain ⟨k0, q0⟩ : ∃ z, z = IntKind.i64.wrap (k + 1) := ⟨_, rfl⟩
  have g0 : k0 = k + 1 := q0.trans (wrap1 (by omega) (by omega))
  obtain ⟨k1, q1⟩ : ∃ z, z = IntKind.i64.wrap (k0 + 1) := ⟨_, rfl⟩
  have g1 : k1 = k0 + 1 := q1.trans (wrap1 (by omega) (by omega))
  obtain ⟨k2, q2⟩ : ∃ z, z = IntKind.i64.wrap (k1 + 1) := ⟨_, rfl⟩
  have g2 : k2 = k1 + 1 := q2.trans (wrap1 (by omega) (by omega))
  simp only [← q0, ← q1, ← q2]
  exact ⟨by omega, by first | trivial | omega⟩
theorem cn_Challenge_le (x : D.Challenge) : cn_Challenge x ≤ 16 := by
  simp only [cn_Challenge] <;> omega
def m_laws_markChallengeS (a0 : List D.Challenge) (a1 : Int) : Option ((List D.Challenge) × Int) := bd (itr (α := (Int × List D.Challenge)) FUEL (fun rec1 (i1 : (Int × Nat × List D.Challenge)) => bif (decide ((↑i1.snd.fst : Int) < (↑i1.snd.snd.length : Int))) then (bd (atq (i1.snd.snd) (↑i1.snd.fst : Int)) fun (z2 : (D.Challenge)) => bd (atq (i1.snd.snd.set (↑i1.snd.fst : Int).toNat (D.Challenge.mk i1.fst z2.Account z2.Until)) (↑i1.snd.fst : Int)) fun (z3 : (D.Challenge)) => bd (atq ((i1.snd.snd.set (↑i1.snd.fst : Int).toNat (D.Challenge.mk i1.fst z2.Account z2.Until)).set (↑i1.snd.fst : Int).toNat (D.Challenge.mk z3.Id (IntKind.i64.wrap (i1.fst + (1 : Int))) z3.Until)) (↑i1.snd.fst : Int)) fun (z4 : (D.Challenge)) => rec1 ((IntKind.i64.wrap (IntKind.i64.wrap (IntKind.i64.wrap (i1.fst + (1 : Int)) + (1 : Int)) + (1 : Int)), (i1.snd.fst + 1), ((i1.snd.snd.set (↑i1.snd.fst : Int).toNat (D.Challenge.mk i1.fst z2.Account z2.Until)).set (↑i1.snd.fst : Int).toNat (D.Challenge.mk z3.Id (IntKind.i64.wrap (i1.fst + (1 : Int))) z3.Until)).set (↑i1.snd.fst : Int).toNat (D.Challenge.mk z4.Id z4.Account (IntKind.i64.wrap (IntKind.i64.wrap (i1.fst + (1 : Int)) + (1 : Int))))))) else (some (i1.fst, i1.snd.snd))) (a1, 0, a0)) fun (z0 : (Int × List D.Challenge)) => some (z0.snd, z0.fst)
theorem t_laws_markChallengeS (a0 : List D.Challenge) (a1 : Int) (h : MkP (a0.length) (cntL cn_Challenge a0) a1) : m_laws_markChallengeS a0 a1 = some (mkL mk_Challenge a0 a1) := by
  obtain ⟨hs, h0, h1⟩ := h
  unfold m_laws_markChallengeS
  rw [markLoop mk_Challenge_ok h0 h1 (by omega) (fun rec k i l hi hi0 hx hk0 hk1 => by
    unfold cn_Challenge at hk1
    obtain ⟨k0, q0⟩ : ∃ z, z = IntKind.i64.wrap (k + 1) := ⟨_, rfl⟩
    have g0 : k0 = k + 1 := q0.trans (wrap1 (by omega) (by omega))
    obtain ⟨k1, q1⟩ : ∃ z, z = IntKind.i64.wrap (k0 + 1) := ⟨_, rfl⟩
    have g1 : k1 = k0 + 1 := q1.trans (wrap1 (by omega) (by omega))
    obtain ⟨k2, q2⟩ : ∃ z, z = IntKind.i64.wrap (k1 + 1) := ⟨_, rfl⟩
    have g2 : k2 = k1 + 1 := q2.trans (wrap1 (by omega) (by omega))
    simp only [lt_i hi, cond_true, atq_nat hi, hx, atq_set hi, atq_nat (show i < (l.set i _).length by simpa using hi), List.set_set, List.getElem_set_self, bd_s, toNat_i, three_ne, gd_T, mk_Challenge, ← q0, ← q1, ← q2]) (fun rec k l => by simp only [ge_i, cond_false])]
  rfl

-- laws_markIntS
def m_laws_markIntS (a0 : List Int) (a1 : Int) : Option ((List Int) × Int) := bd (itr (α := (Int × List Int)) FUEL (fun rec1 (i1 : (Int × Nat × List Int)) => bif (decide ((↑i1.snd.fst : Int) < (↑i1.snd.snd.length : Int))) then (bd (atq (i1.snd.snd) (↑i1.snd.fst : Int)) fun (z2 : (Int)) => rec1 ((IntKind.i64.wrap (i1.fst + (1 : Int)), (i1.snd.fst + 1), i1.snd.snd.set (↑i1.snd.fst : Int).toNat i1.fst))) else (some (i1.fst, i1.snd.snd))) (a1, 0, a0)) fun (z0 : (Int × List Int)) => some (z0.snd, z0.fst)
theorem t_laws_markIntS (a0 : List Int) (a1 : Int) (h : MkP (a0.length) (cntL cn1 a0) a1) : m_laws_markIntS a0 a1 = some (mkL mkI a0 a1) := by
  obtain ⟨hs, h0, h1⟩ := h
  unfold m_laws_markIntS
  rw [markLoop mkI_ok h0 h1 (by omega) (fun rec k i l hi hi0 hx hk0 hk1 => by
    simp only [lt_i hi, cond_true, atq_nat hi, bd_s, toNat_i, three_ne, gd_T, mkI]) (fun rec k l => by simp only [ge_i, cond_false])]
  rfl

-- laws_markSiteS
def mk_Site (x : D.Site) (k : Int) : D.Site × Int := (⟨(markTextF k), (mkL mk_Account x.Accounts (IntKind.i64.wrap (k + 1))).1, ⟨(mkL mk_Account x.Accounts (IntKind.i64.wrap (k + 1))).2, (IntKind.i64.wrap ((mkL mk_Account x.Accounts (IntKind.i64.wrap (k + 1))).2 + 1)), (mkL mk_Challenge x.Book.Open (IntKind.i64.wrap ((IntKind.i64.wrap ((mkL mk_Account x.Accounts (IntKind.i64.wrap (k + 1))).2 + 1)) + 1))).1⟩, (mkL mkI x.Logins (mkL mk_Challenge x.Book.Open (IntKind.i64.wrap ((IntKind.i64.wrap ((mkL mk_Account x.Accounts (IntKind.i64.wrap (k + 1))).2 + 1)) + 1))).2).1⟩, (mkL mkI x.Logins (mkL mk_Challenge x.Book.Open (IntKind.i64.wrap ((IntKind.i64.wrap ((mkL mk_Account x.Accounts (IntKind.i64.wrap (k + 1))).2 + 1)) + 1))).2).2)
def cn_Site (x : D.Site) : Nat := 1 + cntL cn_Account x.Accounts + 1 + 1 + cntL cn_Challenge x.Book.Open + cntL cn1 x.Logins
theorem mk_Site_ok : MkOk mk_Site cn_Site := fun x k h0 h1 => by
  unfold cn_Site at h1
  unfold mk_Site cn_Site
  obtain ⟨k0, q0⟩ : ∃ z, z = IntKind.i64.wrap (k + 1) := ⟨_, rfl⟩
  have g0 : k0 = k + 1 := q0.trans (wrap1 (by omega) (by omega))
  obtain ⟨k1, q1⟩ : ∃ z, z = (mkL mk_Account x.Accounts k0).2 := ⟨_, rfl⟩
  have f1 := mkL_ok mk_Account_ok x.Accounts k0 (by omega) (by omega)
  have g1 : k1 = k0 + cntL cn_Account x.Accounts := q1.trans f1.1
  obtain ⟨k2, q2⟩ : ∃ z, z = IntKind.i64.wrap (k1 + 1) := ⟨_, rfl⟩
  have g2 : k2 = k1 + 1 := q2.trans (wrap1 (by omega) (by omega))
  obtain ⟨k3, q3⟩ : ∃ z, z = IntKind.i64.wrap (k2 + 1) := ⟨_, rfl⟩
  have g3 : k3 = k2 + 1 := q3.trans (wrap1 (by omega) (by omega))
  obtain ⟨k4, q4⟩ : ∃ z, z = (mkL mk_Challenge x.Book.Open k3).2 := ⟨_, rfl⟩
  have f4 := mkL_ok mk_Challenge_ok x.Book.Open k3 (by omega) (by omega)
  have g4 : k4 = k3 + cntL cn_Challenge x.Book.Open := q4.trans f4.1
  obtain ⟨k5, q5⟩ : ∃ z, z = (mkL mkI x.Logins k4).2 := ⟨_, rfl⟩
  have f5 := mkL_ok mkI_ok x.Logins k4 (by omega) (by omega)
  have g5 : k5 = k4 + cntL cn1 x.Logins := q5.trans f5.1
  simp only [← q0, ← q1, ← q2, ← q3, ← q4, ← q5]
  exact ⟨by omega, by first | trivial | omega⟩
theorem cn_Site_le (x : D.Site) : cn_Site x ≤ 16 + 16 * x.sz := by
  have := cntL_le (c := cn_Account) (s := D.Account.sz) (l := x.Accounts) (fun y _ => cn_Account_le y)
  have := cntL_le0 (c := cn_Challenge) (l := x.Book.Open) (fun y _ => cn_Challenge_le y)
  have := cntL_le0 (c := cn1) (l := x.Logins) (fun _ _ => by simp only [cn1]; omega)
  simp only [cn_Site, D.ChallengeBook.sz, D.Site.sz]
  omega
def m_laws_markSiteS (a0 : List D.Site) (a1 : Int) : Option ((List D.Site) × Int) := bd (itr (α := (Int × List D.Site)) FUEL (fun rec1 (i1 : (Int × Nat × List D.Site)) => bif (decide ((↑i1.snd.fst : Int) < (↑i1.snd.snd.length : Int))) then (bd (m_laws_markText (i1.fst)) fun (z2 : (ByteArray)) => bd (atq (i1.snd.snd) (↑i1.snd.fst : Int)) fun (z3 : (D.Site)) => bd (atq (i1.snd.snd.set (↑i1.snd.fst : Int).toNat (D.Site.mk z2 z3.Accounts z3.Book z3.Logins)) (↑i1.snd.fst : Int)) fun (z4 : (D.Site)) => bd (gd (MkP (z4.Accounts.length + (List.map D.Account.sz z4.Accounts).sum) (cntL cn_Account z4.Accounts) (IntKind.i64.wrap (i1.fst + (1 : Int)))) (some (mkL mk_Account z4.Accounts (IntKind.i64.wrap (i1.fst + (1 : Int)))))) fun (z5 : (List D.Account × Int)) => bd (atq ((i1.snd.snd.set (↑i1.snd.fst : Int).toNat (D.Site.mk z2 z3.Accounts z3.Book z3.Logins)).set (↑i1.snd.fst : Int).toNat (D.Site.mk z4.Name z5.fst z4.Book z4.Logins)) (↑i1.snd.fst : Int)) fun (z6 : (D.Site)) => bd (atq (((i1.snd.snd.set (↑i1.snd.fst : Int).toNat (D.Site.mk z2 z3.Accounts z3.Book z3.Logins)).set (↑i1.snd.fst : Int).toNat (D.Site.mk z4.Name z5.fst z4.Book z4.Logins)).set (↑i1.snd.fst : Int).toNat (D.Site.mk z6.Name z6.Accounts (D.ChallengeBook.mk z5.snd z6.Book.Next z6.Book.Open) z6.Logins)) (↑i1.snd.fst : Int)) fun (z7 : (D.Site)) => bd (atq ((((i1.snd.snd.set (↑i1.snd.fst : Int).toNat (D.Site.mk z2 z3.Accounts z3.Book z3.Logins)).set (↑i1.snd.fst : Int).toNat (D.Site.mk z4.Name z5.fst z4.Book z4.Logins)).set (↑i1.snd.fst : Int).toNat (D.Site.mk z6.Name z6.Accounts (D.ChallengeBook.mk z5.snd z6.Book.Next z6.Book.Open) z6.Logins)).set (↑i1.snd.fst : Int).toNat (D.Site.mk z7.Name z7.Accounts (D.ChallengeBook.mk z7.Book.Seed (IntKind.i64.wrap (z5.snd + (1 : Int))) z7.Book.Open) z7.Logins)) (↑i1.snd.fst : Int)) fun (z8 : (D.Site)) => bd (gd (MkP z8.Book.Open.length (cntL cn_Challenge z8.Book.Open) (IntKind.i64.wrap (IntKind.i64.wrap (z5.snd + (1 : Int)) + (1 : Int)))) (some (mkL mk_Challenge z8.Book.Open (IntKind.i64.wrap (IntKind.i64.wrap (z5.snd + (1 : Int)) + (1 : Int)))))) fun (z9 : (List D.Challenge × Int)) => bd (atq (((((i1.snd.snd.set (↑i1.snd.fst : Int).toNat (D.Site.mk z2 z3.Accounts z3.Book z3.Logins)).set (↑i1.snd.fst : Int).toNat (D.Site.mk z4.Name z5.fst z4.Book z4.Logins)).set (↑i1.snd.fst : Int).toNat (D.Site.mk z6.Name z6.Accounts (D.ChallengeBook.mk z5.snd z6.Book.Next z6.Book.Open) z6.Logins)).set (↑i1.snd.fst : Int).toNat (D.Site.mk z7.Name z7.Accounts (D.ChallengeBook.mk z7.Book.Seed (IntKind.i64.wrap (z5.snd + (1 : Int))) z7.Book.Open) z7.Logins)).set (↑i1.snd.fst : Int).toNat (D.Site.mk z8.Name z8.Accounts (D.ChallengeBook.mk z8.Book.Seed z8.Book.Next z9.fst) z8.Logins)) (↑i1.snd.fst : Int)) fun (z10 : (D.Site)) => bd (gd (MkP z10.Logins.length (cntL cn1 z10.Logins) z9.snd) (some (mkL mkI z10.Logins z9.snd))) fun (z11 : (List Int × Int)) => rec1 ((z11.snd, (i1.snd.fst + 1), (((((i1.snd.snd.set (↑i1.snd.fst : Int).toNat (D.Site.mk z2 z3.Accounts z3.Book z3.Logins)).set (↑i1.snd.fst : Int).toNat (D.Site.mk z4.Name z5.fst z4.Book z4.Logins)).set (↑i1.snd.fst : Int).toNat (D.Site.mk z6.Name z6.Accounts (D.ChallengeBook.mk z5.snd z6.Book.Next z6.Book.Open) z6.Logins)).set (↑i1.snd.fst : Int).toNat (D.Site.mk z7.Name z7.Accounts (D.ChallengeBook.mk z7.Book.Seed (IntKind.i64.wrap (z5.snd + (1 : Int))) z7.Book.Open) z7.Logins)).set (↑i1.snd.fst : Int).toNat (D.Site.mk z8.Name z8.Accounts (D.ChallengeBook.mk z8.Book.Seed z8.Book.Next z9.fst) z8.Logins)).set (↑i1.snd.fst : Int).toNat (D.Site.mk z10.Name z10.Accounts z10.Book z11.fst)))) else (some (i1.fst, i1.snd.snd))) (a1, 0, a0)) fun (z0 : (Int × List D.Site)) => some (z0.snd, z0.fst)
theorem t_laws_markSiteS (a0 : List D.Site) (a1 : Int) (h : MkP (a0.length + (a0.map D.Site.sz).sum) (cntL cn_Site a0) a1) : m_laws_markSiteS a0 a1 = some (mkL mk_Site a0 a1) := by
  obtain ⟨hs, h0, h1⟩ := h
  unfold m_laws_markSiteS
  rw [markLoop mk_Site_ok h0 h1 (by omega) (fun rec k i l hi hi0 hx hk0 hk1 => by
    have hz := le_sumI (f := D.Site.sz) hi0
    simp only [D.ChallengeBook.sz, D.Site.sz] at hz
    unfold cn_Site at hk1
    have t0 : m_laws_markText k = some (markTextF k) := markText_ok (by omega) (by omega)
    obtain ⟨k0, q0⟩ : ∃ z, z = IntKind.i64.wrap (k + 1) := ⟨_, rfl⟩
    have g0 : k0 = k + 1 := q0.trans (wrap1 (by omega) (by omega))
    have p1 : MkP (a0[i].Accounts.length + (a0[i].Accounts.map D.Account.sz).sum) (cntL cn_Account a0[i].Accounts) k0 := ⟨by omega, by omega, by omega⟩
    have f1 := mkL_ok mk_Account_ok a0[i].Accounts k0 (by omega) (by omega)
    obtain ⟨k1, q1⟩ : ∃ z, z = (mkL mk_Account a0[i].Accounts k0).2 := ⟨_, rfl⟩
    have g1 : k1 = k0 + cntL cn_Account a0[i].Accounts := q1.trans f1.1
    obtain ⟨k2, q2⟩ : ∃ z, z = IntKind.i64.wrap (k1 + 1) := ⟨_, rfl⟩
    have g2 : k2 = k1 + 1 := q2.trans (wrap1 (by omega) (by omega))
    obtain ⟨k3, q3⟩ : ∃ z, z = IntKind.i64.wrap (k2 + 1) := ⟨_, rfl⟩
    have g3 : k3 = k2 + 1 := q3.trans (wrap1 (by omega) (by omega))
    have p4 : MkP (a0[i].Book.Open.length) (cntL cn_Challenge a0[i].Book.Open) k3 := ⟨by omega, by omega, by omega⟩
    have f4 := mkL_ok mk_Challenge_ok a0[i].Book.Open k3 (by omega) (by omega)
    obtain ⟨k4, q4⟩ : ∃ z, z = (mkL mk_Challenge a0[i].Book.Open k3).2 := ⟨_, rfl⟩
    have g4 : k4 = k3 + cntL cn_Challenge a0[i].Book.Open := q4.trans f4.1
    have p5 : MkP (a0[i].Logins.length) (cntL cn1 a0[i].Logins) k4 := ⟨by omega, by omega, by omega⟩
    have f5 := mkL_ok mkI_ok a0[i].Logins k4 (by omega) (by omega)
    obtain ⟨k5, q5⟩ : ∃ z, z = (mkL mkI a0[i].Logins k4).2 := ⟨_, rfl⟩
    have g5 : k5 = k4 + cntL cn1 a0[i].Logins := q5.trans f5.1
    simp only [lt_i hi, cond_true, atq_nat hi, hx, atq_set hi, atq_nat (show i < (l.set i _).length by simpa using hi), List.set_set, List.getElem_set_self, bd_s, toNat_i, three_ne, gd_T, mk_Site, ← q0, ← q1, ← q2, ← q3, ← q4, ← q5, t0, gd_t p1, gd_t p4, gd_t p5]) (fun rec k l => by simp only [ge_i, cond_false])]
  rfl

-- laws_markKeeperS
def mk_Keeper (x : D.Keeper) (k : Int) : D.Keeper × Int := (⟨⟨k, (IntKind.i64.wrap (k + 1))⟩, (IntKind.i64.wrap ((IntKind.i64.wrap (k + 1)) + 1)), (IntKind.i64.wrap ((IntKind.i64.wrap ((IntKind.i64.wrap (k + 1)) + 1)) + 1)), (IntKind.i64.wrap ((IntKind.i64.wrap ((IntKind.i64.wrap ((IntKind.i64.wrap (k + 1)) + 1)) + 1)) + 1))⟩, (IntKind.i64.wrap ((IntKind.i64.wrap ((IntKind.i64.wrap ((IntKind.i64.wrap ((IntKind.i64.wrap (k + 1)) + 1)) + 1)) + 1)) + 1)))
def cn_Keeper (x : D.Keeper) : Nat := 1 + 1 + 1 + 1 + 1
theorem mk_Keeper_ok : MkOk mk_Keeper cn_Keeper := fun x k h0 h1 => by
  unfold cn_Keeper at h1
  unfold mk_Keeper cn_Keeper
  obtain ⟨k0, q0⟩ : ∃ z, z = IntKind.i64.wrap (k + 1) := ⟨_, rfl⟩
  have g0 : k0 = k + 1 := q0.trans (wrap1 (by omega) (by omega))
  obtain ⟨k1, q1⟩ : ∃ z, z = IntKind.i64.wrap (k0 + 1) := ⟨_, rfl⟩
  have g1 : k1 = k0 + 1 := q1.trans (wrap1 (by omega) (by omega))
  obtain ⟨k2, q2⟩ : ∃ z, z = IntKind.i64.wrap (k1 + 1) := ⟨_, rfl⟩
  have g2 : k2 = k1 + 1 := q2.trans (wrap1 (by omega) (by omega))
  obtain ⟨k3, q3⟩ : ∃ z, z = IntKind.i64.wrap (k2 + 1) := ⟨_, rfl⟩
  have g3 : k3 = k2 + 1 := q3.trans (wrap1 (by omega) (by omega))
  obtain ⟨k4, q4⟩ : ∃ z, z = IntKind.i64.wrap (k3 + 1) := ⟨_, rfl⟩
  have g4 : k4 = k3 + 1 := q4.trans (wrap1 (by omega) (by omega))
  simp only [← q0, ← q1, ← q2, ← q3, ← q4]
  exact ⟨by omega, by first | trivial | omega⟩
theorem cn_Keeper_le (x : D.Keeper) : cn_Keeper x ≤ 16 := by
  simp only [cn_Keeper] <;> omega
def m_laws_markKeeperS (a0 : List D.Keeper) (a1 : Int) : Option ((List D.Keeper) × Int) := bd (itr (α := (Int × List D.Keeper)) FUEL (fun rec1 (i1 : (Int × Nat × List D.Keeper)) => bif (decide ((↑i1.snd.fst : Int) < (↑i1.snd.snd.length : Int))) then (bd (atq (i1.snd.snd) (↑i1.snd.fst : Int)) fun (z2 : (D.Keeper)) => bd (atq (i1.snd.snd.set (↑i1.snd.fst : Int).toNat (D.Keeper.mk (D.Share.mk i1.fst z2.Share.Value) z2.Epoch z2.Guesses z2.Limit)) (↑i1.snd.fst : Int)) fun (z3 : (D.Keeper)) => bd (atq ((i1.snd.snd.set (↑i1.snd.fst : Int).toNat (D.Keeper.mk (D.Share.mk i1.fst z2.Share.Value) z2.Epoch z2.Guesses z2.Limit)).set (↑i1.snd.fst : Int).toNat (D.Keeper.mk (D.Share.mk z3.Share.Index (IntKind.i64.wrap (i1.fst + (1 : Int)))) z3.Epoch z3.Guesses z3.Limit)) (↑i1.snd.fst : Int)) fun (z4 : (D.Keeper)) => bd (atq (((i1.snd.snd.set (↑i1.snd.fst : Int).toNat (D.Keeper.mk (D.Share.mk i1.fst z2.Share.Value) z2.Epoch z2.Guesses z2.Limit)).set (↑i1.snd.fst : Int).toNat (D.Keeper.mk (D.Share.mk z3.Share.Index (IntKind.i64.wrap (i1.fst + (1 : Int)))) z3.Epoch z3.Guesses z3.Limit)).set (↑i1.snd.fst : Int).toNat (D.Keeper.mk z4.Share (IntKind.i64.wrap (IntKind.i64.wrap (i1.fst + (1 : Int)) + (1 : Int))) z4.Guesses z4.Limit)) (↑i1.snd.fst : Int)) fun (z5 : (D.Keeper)) => bd (atq ((((i1.snd.snd.set (↑i1.snd.fst : Int).toNat (D.Keeper.mk (D.Share.mk i1.fst z2.Share.Value) z2.Epoch z2.Guesses z2.Limit)).set (↑i1.snd.fst : Int).toNat (D.Keeper.mk (D.Share.mk z3.Share.Index (IntKind.i64.wrap (i1.fst + (1 : Int)))) z3.Epoch z3.Guesses z3.Limit)).set (↑i1.snd.fst : Int).toNat (D.Keeper.mk z4.Share (IntKind.i64.wrap (IntKind.i64.wrap (i1.fst + (1 : Int)) + (1 : Int))) z4.Guesses z4.Limit)).set (↑i1.snd.fst : Int).toNat (D.Keeper.mk z5.Share z5.Epoch (IntKind.i64.wrap (IntKind.i64.wrap (IntKind.i64.wrap (i1.fst + (1 : Int)) + (1 : Int)) + (1 : Int))) z5.Limit)) (↑i1.snd.fst : Int)) fun (z6 : (D.Keeper)) => rec1 ((IntKind.i64.wrap (IntKind.i64.wrap (IntKind.i64.wrap (IntKind.i64.wrap (IntKind.i64.wrap (i1.fst + (1 : Int)) + (1 : Int)) + (1 : Int)) + (1 : Int)) + (1 : Int)), (i1.snd.fst + 1), ((((i1.snd.snd.set (↑i1.snd.fst : Int).toNat (D.Keeper.mk (D.Share.mk i1.fst z2.Share.Value) z2.Epoch z2.Guesses z2.Limit)).set (↑i1.snd.fst : Int).toNat (D.Keeper.mk (D.Share.mk z3.Share.Index (IntKind.i64.wrap (i1.fst + (1 : Int)))) z3.Epoch z3.Guesses z3.Limit)).set (↑i1.snd.fst : Int).toNat (D.Keeper.mk z4.Share (IntKind.i64.wrap (IntKind.i64.wrap (i1.fst + (1 : Int)) + (1 : Int))) z4.Guesses z4.Limit)).set (↑i1.snd.fst : Int).toNat (D.Keeper.mk z5.Share z5.Epoch (IntKind.i64.wrap (IntKind.i64.wrap (IntKind.i64.wrap (i1.fst + (1 : Int)) + (1 : Int)) + (1 : Int))) z5.Limit)).set (↑i1.snd.fst : Int).toNat (D.Keeper.mk z6.Share z6.Epoch z6.Guesses (IntKind.i64.wrap (IntKind.i64.wrap (IntKind.i64.wrap (IntKind.i64.wrap (i1.fst + (1 : Int)) + (1 : Int)) + (1 : Int)) + (1 : Int))))))) else (some (i1.fst, i1.snd.snd))) (a1, 0, a0)) fun (z0 : (Int × List D.Keeper)) => some (z0.snd, z0.fst)
theorem t_laws_markKeeperS (a0 : List D.Keeper) (a1 : Int) (h : MkP (a0.length) (cntL cn_Keeper a0) a1) : m_laws_markKeeperS a0 a1 = some (mkL mk_Keeper a0 a1) := by
  obtain ⟨hs, h0, h1⟩ := h
  unfold m_laws_markKeeperS
  rw [markLoop mk_Keeper_ok h0 h1 (by omega) (fun rec k i l hi hi0 hx hk0 hk1 => by
    unfold cn_Keeper at hk1
    obtain ⟨k0, q0⟩ : ∃ z, z = IntKind.i64.wrap (k + 1) := ⟨_, rfl⟩
    have g0 : k0 = k + 1 := q0.trans (wrap1 (by omega) (by omega))
    obtain ⟨k1, q1⟩ : ∃ z, z = IntKind.i64.wrap (k0 + 1) := ⟨_, rfl⟩
    have g1 : k1 = k0 + 1 := q1.trans (wrap1 (by omega) (by omega))
    obtain ⟨k2, q2⟩ : ∃ z, z = IntKind.i64.wrap (k1 + 1) := ⟨_, rfl⟩
    have g2 : k2 = k1 + 1 := q2.trans (wrap1 (by omega) (by omega))
    obtain ⟨k3, q3⟩ : ∃ z, z = IntKind.i64.wrap (k2 + 1) := ⟨_, rfl⟩
    have g3 : k3 = k2 + 1 := q3.trans (wrap1 (by omega) (by omega))
    obtain ⟨k4, q4⟩ : ∃ z, z = IntKind.i64.wrap (k3 + 1) := ⟨_, rfl⟩
    have g4 : k4 = k3 + 1 := q4.trans (wrap1 (by omega) (by omega))
    simp only [lt_i hi, cond_true, atq_nat hi, hx, atq_set hi, atq_nat (show i < (l.set i _).length by simpa using hi), List.set_set, List.getElem_set_self, bd_s, toNat_i, three_ne, gd_T, mk_Keeper, ← q0, ← q1, ← q2, ← q3, ← q4]) (fun rec k l => by simp only [ge_i, cond_false])]
  rfl

-- laws_markKeeperHostS
def mk_KeeperHost (x : D.KeeperHost) (k : Int) : D.KeeperHost × Int := (⟨⟨⟨k, (IntKind.i64.wrap (k + 1))⟩, (IntKind.i64.wrap ((IntKind.i64.wrap (k + 1)) + 1)), (IntKind.i64.wrap ((IntKind.i64.wrap ((IntKind.i64.wrap (k + 1)) + 1)) + 1)), (IntKind.i64.wrap ((IntKind.i64.wrap ((IntKind.i64.wrap ((IntKind.i64.wrap (k + 1)) + 1)) + 1)) + 1))⟩, (mkL mk_Keeper x.Saved (IntKind.i64.wrap ((IntKind.i64.wrap ((IntKind.i64.wrap ((IntKind.i64.wrap ((IntKind.i64.wrap (k + 1)) + 1)) + 1)) + 1)) + 1))).1, (mkL mk_Keeper x.Saved (IntKind.i64.wrap ((IntKind.i64.wrap ((IntKind.i64.wrap ((IntKind.i64.wrap ((IntKind.i64.wrap (k + 1)) + 1)) + 1)) + 1)) + 1))).2⟩, (IntKind.i64.wrap ((mkL mk_Keeper x.Saved (IntKind.i64.wrap ((IntKind.i64.wrap ((IntKind.i64.wrap ((IntKind.i64.wrap ((IntKind.i64.wrap (k + 1)) + 1)) + 1)) + 1)) + 1))).2 + 1)))
def cn_KeeperHost (x : D.KeeperHost) : Nat := 1 + 1 + 1 + 1 + 1 + cntL cn_Keeper x.Saved + 1
theorem mk_KeeperHost_ok : MkOk mk_KeeperHost cn_KeeperHost := fun x k h0 h1 => by
  unfold cn_KeeperHost at h1
  unfold mk_KeeperHost cn_KeeperHost
  obtain ⟨k0, q0⟩ : ∃ z, z = IntKind.i64.wrap (k + 1) := ⟨_, rfl⟩
  have g0 : k0 = k + 1 := q0.trans (wrap1 (by omega) (by omega))
  obtain ⟨k1, q1⟩ : ∃ z, z = IntKind.i64.wrap (k0 + 1) := ⟨_, rfl⟩
  have g1 : k1 = k0 + 1 := q1.trans (wrap1 (by omega) (by omega))
  obtain ⟨k2, q2⟩ : ∃ z, z = IntKind.i64.wrap (k1 + 1) := ⟨_, rfl⟩
  have g2 : k2 = k1 + 1 := q2.trans (wrap1 (by omega) (by omega))
  obtain ⟨k3, q3⟩ : ∃ z, z = IntKind.i64.wrap (k2 + 1) := ⟨_, rfl⟩
  have g3 : k3 = k2 + 1 := q3.trans (wrap1 (by omega) (by omega))
  obtain ⟨k4, q4⟩ : ∃ z, z = IntKind.i64.wrap (k3 + 1) := ⟨_, rfl⟩
  have g4 : k4 = k3 + 1 := q4.trans (wrap1 (by omega) (by omega))
  obtain ⟨k5, q5⟩ : ∃ z, z = (mkL mk_Keeper x.Saved k4).2 := ⟨_, rfl⟩
  have f5 := mkL_ok mk_Keeper_ok x.Saved k4 (by omega) (by omega)
  have g5 : k5 = k4 + cntL cn_Keeper x.Saved := q5.trans f5.1
  obtain ⟨k6, q6⟩ : ∃ z, z = IntKind.i64.wrap (k5 + 1) := ⟨_, rfl⟩
  have g6 : k6 = k5 + 1 := q6.trans (wrap1 (by omega) (by omega))
  simp only [← q0, ← q1, ← q2, ← q3, ← q4, ← q5, ← q6]
  exact ⟨by omega, by first | trivial | omega⟩
theorem cn_KeeperHost_le (x : D.KeeperHost) : cn_KeeperHost x ≤ 16 + 16 * x.sz := by
  have := cntL_le0 (c := cn_Keeper) (l := x.Saved) (fun y _ => cn_Keeper_le y)
  simp only [cn_KeeperHost, D.Keeper.sz, D.KeeperHost.sz, D.Share.sz]
  omega
def m_laws_markKeeperHostS (a0 : List D.KeeperHost) (a1 : Int) : Option ((List D.KeeperHost) × Int) := bd (itr (α := (Int × List D.KeeperHost)) FUEL (fun rec1 (i1 : (Int × Nat × List D.KeeperHost)) => bif (decide ((↑i1.snd.fst : Int) < (↑i1.snd.snd.length : Int))) then (bd (atq (i1.snd.snd) (↑i1.snd.fst : Int)) fun (z2 : (D.KeeperHost)) => bd (atq (i1.snd.snd.set (↑i1.snd.fst : Int).toNat (D.KeeperHost.mk (D.Keeper.mk (D.Share.mk i1.fst z2.State.Share.Value) z2.State.Epoch z2.State.Guesses z2.State.Limit) z2.Saved z2.Monotonic)) (↑i1.snd.fst : Int)) fun (z3 : (D.KeeperHost)) => bd (atq ((i1.snd.snd.set (↑i1.snd.fst : Int).toNat (D.KeeperHost.mk (D.Keeper.mk (D.Share.mk i1.fst z2.State.Share.Value) z2.State.Epoch z2.State.Guesses z2.State.Limit) z2.Saved z2.Monotonic)).set (↑i1.snd.fst : Int).toNat (D.KeeperHost.mk (D.Keeper.mk (D.Share.mk z3.State.Share.Index (IntKind.i64.wrap (i1.fst + (1 : Int)))) z3.State.Epoch z3.State.Guesses z3.State.Limit) z3.Saved z3.Monotonic)) (↑i1.snd.fst : Int)) fun (z4 : (D.KeeperHost)) => bd (atq (((i1.snd.snd.set (↑i1.snd.fst : Int).toNat (D.KeeperHost.mk (D.Keeper.mk (D.Share.mk i1.fst z2.State.Share.Value) z2.State.Epoch z2.State.Guesses z2.State.Limit) z2.Saved z2.Monotonic)).set (↑i1.snd.fst : Int).toNat (D.KeeperHost.mk (D.Keeper.mk (D.Share.mk z3.State.Share.Index (IntKind.i64.wrap (i1.fst + (1 : Int)))) z3.State.Epoch z3.State.Guesses z3.State.Limit) z3.Saved z3.Monotonic)).set (↑i1.snd.fst : Int).toNat (D.KeeperHost.mk (D.Keeper.mk z4.State.Share (IntKind.i64.wrap (IntKind.i64.wrap (i1.fst + (1 : Int)) + (1 : Int))) z4.State.Guesses z4.State.Limit) z4.Saved z4.Monotonic)) (↑i1.snd.fst : Int)) fun (z5 : (D.KeeperHost)) => bd (atq ((((i1.snd.snd.set (↑i1.snd.fst : Int).toNat (D.KeeperHost.mk (D.Keeper.mk (D.Share.mk i1.fst z2.State.Share.Value) z2.State.Epoch z2.State.Guesses z2.State.Limit) z2.Saved z2.Monotonic)).set (↑i1.snd.fst : Int).toNat (D.KeeperHost.mk (D.Keeper.mk (D.Share.mk z3.State.Share.Index (IntKind.i64.wrap (i1.fst + (1 : Int)))) z3.State.Epoch z3.State.Guesses z3.State.Limit) z3.Saved z3.Monotonic)).set (↑i1.snd.fst : Int).toNat (D.KeeperHost.mk (D.Keeper.mk z4.State.Share (IntKind.i64.wrap (IntKind.i64.wrap (i1.fst + (1 : Int)) + (1 : Int))) z4.State.Guesses z4.State.Limit) z4.Saved z4.Monotonic)).set (↑i1.snd.fst : Int).toNat (D.KeeperHost.mk (D.Keeper.mk z5.State.Share z5.State.Epoch (IntKind.i64.wrap (IntKind.i64.wrap (IntKind.i64.wrap (i1.fst + (1 : Int)) + (1 : Int)) + (1 : Int))) z5.State.Limit) z5.Saved z5.Monotonic)) (↑i1.snd.fst : Int)) fun (z6 : (D.KeeperHost)) => bd (atq (((((i1.snd.snd.set (↑i1.snd.fst : Int).toNat (D.KeeperHost.mk (D.Keeper.mk (D.Share.mk i1.fst z2.State.Share.Value) z2.State.Epoch z2.State.Guesses z2.State.Limit) z2.Saved z2.Monotonic)).set (↑i1.snd.fst : Int).toNat (D.KeeperHost.mk (D.Keeper.mk (D.Share.mk z3.State.Share.Index (IntKind.i64.wrap (i1.fst + (1 : Int)))) z3.State.Epoch z3.State.Guesses z3.State.Limit) z3.Saved z3.Monotonic)).set (↑i1.snd.fst : Int).toNat (D.KeeperHost.mk (D.Keeper.mk z4.State.Share (IntKind.i64.wrap (IntKind.i64.wrap (i1.fst + (1 : Int)) + (1 : Int))) z4.State.Guesses z4.State.Limit) z4.Saved z4.Monotonic)).set (↑i1.snd.fst : Int).toNat (D.KeeperHost.mk (D.Keeper.mk z5.State.Share z5.State.Epoch (IntKind.i64.wrap (IntKind.i64.wrap (IntKind.i64.wrap (i1.fst + (1 : Int)) + (1 : Int)) + (1 : Int))) z5.State.Limit) z5.Saved z5.Monotonic)).set (↑i1.snd.fst : Int).toNat (D.KeeperHost.mk (D.Keeper.mk z6.State.Share z6.State.Epoch z6.State.Guesses (IntKind.i64.wrap (IntKind.i64.wrap (IntKind.i64.wrap (IntKind.i64.wrap (i1.fst + (1 : Int)) + (1 : Int)) + (1 : Int)) + (1 : Int)))) z6.Saved z6.Monotonic)) (↑i1.snd.fst : Int)) fun (z7 : (D.KeeperHost)) => bd (gd (MkP z7.Saved.length (cntL cn_Keeper z7.Saved) (IntKind.i64.wrap (IntKind.i64.wrap (IntKind.i64.wrap (IntKind.i64.wrap (IntKind.i64.wrap (i1.fst + (1 : Int)) + (1 : Int)) + (1 : Int)) + (1 : Int)) + (1 : Int)))) (some (mkL mk_Keeper z7.Saved (IntKind.i64.wrap (IntKind.i64.wrap (IntKind.i64.wrap (IntKind.i64.wrap (IntKind.i64.wrap (i1.fst + (1 : Int)) + (1 : Int)) + (1 : Int)) + (1 : Int)) + (1 : Int)))))) fun (z8 : (List D.Keeper × Int)) => bd (atq ((((((i1.snd.snd.set (↑i1.snd.fst : Int).toNat (D.KeeperHost.mk (D.Keeper.mk (D.Share.mk i1.fst z2.State.Share.Value) z2.State.Epoch z2.State.Guesses z2.State.Limit) z2.Saved z2.Monotonic)).set (↑i1.snd.fst : Int).toNat (D.KeeperHost.mk (D.Keeper.mk (D.Share.mk z3.State.Share.Index (IntKind.i64.wrap (i1.fst + (1 : Int)))) z3.State.Epoch z3.State.Guesses z3.State.Limit) z3.Saved z3.Monotonic)).set (↑i1.snd.fst : Int).toNat (D.KeeperHost.mk (D.Keeper.mk z4.State.Share (IntKind.i64.wrap (IntKind.i64.wrap (i1.fst + (1 : Int)) + (1 : Int))) z4.State.Guesses z4.State.Limit) z4.Saved z4.Monotonic)).set (↑i1.snd.fst : Int).toNat (D.KeeperHost.mk (D.Keeper.mk z5.State.Share z5.State.Epoch (IntKind.i64.wrap (IntKind.i64.wrap (IntKind.i64.wrap (i1.fst + (1 : Int)) + (1 : Int)) + (1 : Int))) z5.State.Limit) z5.Saved z5.Monotonic)).set (↑i1.snd.fst : Int).toNat (D.KeeperHost.mk (D.Keeper.mk z6.State.Share z6.State.Epoch z6.State.Guesses (IntKind.i64.wrap (IntKind.i64.wrap (IntKind.i64.wrap (IntKind.i64.wrap (i1.fst + (1 : Int)) + (1 : Int)) + (1 : Int)) + (1 : Int)))) z6.Saved z6.Monotonic)).set (↑i1.snd.fst : Int).toNat (D.KeeperHost.mk z7.State z8.fst z7.Monotonic)) (↑i1.snd.fst : Int)) fun (z9 : (D.KeeperHost)) => rec1 ((IntKind.i64.wrap (z8.snd + (1 : Int)), (i1.snd.fst + 1), ((((((i1.snd.snd.set (↑i1.snd.fst : Int).toNat (D.KeeperHost.mk (D.Keeper.mk (D.Share.mk i1.fst z2.State.Share.Value) z2.State.Epoch z2.State.Guesses z2.State.Limit) z2.Saved z2.Monotonic)).set (↑i1.snd.fst : Int).toNat (D.KeeperHost.mk (D.Keeper.mk (D.Share.mk z3.State.Share.Index (IntKind.i64.wrap (i1.fst + (1 : Int)))) z3.State.Epoch z3.State.Guesses z3.State.Limit) z3.Saved z3.Monotonic)).set (↑i1.snd.fst : Int).toNat (D.KeeperHost.mk (D.Keeper.mk z4.State.Share (IntKind.i64.wrap (IntKind.i64.wrap (i1.fst + (1 : Int)) + (1 : Int))) z4.State.Guesses z4.State.Limit) z4.Saved z4.Monotonic)).set (↑i1.snd.fst : Int).toNat (D.KeeperHost.mk (D.Keeper.mk z5.State.Share z5.State.Epoch (IntKind.i64.wrap (IntKind.i64.wrap (IntKind.i64.wrap (i1.fst + (1 : Int)) + (1 : Int)) + (1 : Int))) z5.State.Limit) z5.Saved z5.Monotonic)).set (↑i1.snd.fst : Int).toNat (D.KeeperHost.mk (D.Keeper.mk z6.State.Share z6.State.Epoch z6.State.Guesses (IntKind.i64.wrap (IntKind.i64.wrap (IntKind.i64.wrap (IntKind.i64.wrap (i1.fst + (1 : Int)) + (1 : Int)) + (1 : Int)) + (1 : Int)))) z6.Saved z6.Monotonic)).set (↑i1.snd.fst : Int).toNat (D.KeeperHost.mk z7.State z8.fst z7.Monotonic)).set (↑i1.snd.fst : Int).toNat (D.KeeperHost.mk z9.State z9.Saved z8.snd)))) else (some (i1.fst, i1.snd.snd))) (a1, 0, a0)) fun (z0 : (Int × List D.KeeperHost)) => some (z0.snd, z0.fst)
theorem t_laws_markKeeperHostS (a0 : List D.KeeperHost) (a1 : Int) (h : MkP (a0.length + (a0.map D.KeeperHost.sz).sum) (cntL cn_KeeperHost a0) a1) : m_laws_markKeeperHostS a0 a1 = some (mkL mk_KeeperHost a0 a1) := by
  obtain ⟨hs, h0, h1⟩ := h
  unfold m_laws_markKeeperHostS
  rw [markLoop mk_KeeperHost_ok h0 h1 (by omega) (fun rec k i l hi hi0 hx hk0 hk1 => by
    have hz := le_sumI (f := D.KeeperHost.sz) hi0
    simp only [D.Keeper.sz, D.KeeperHost.sz, D.Share.sz] at hz
    unfold cn_KeeperHost at hk1
    obtain ⟨k0, q0⟩ : ∃ z, z = IntKind.i64.wrap (k + 1) := ⟨_, rfl⟩
    have g0 : k0 = k + 1 := q0.trans (wrap1 (by omega) (by omega))
    obtain ⟨k1, q1⟩ : ∃ z, z = IntKind.i64.wrap (k0 + 1) := ⟨_, rfl⟩
    have g1 : k1 = k0 + 1 := q1.trans (wrap1 (by omega) (by omega))
    obtain ⟨k2, q2⟩ : ∃ z, z = IntKind.i64.wrap (k1 + 1) := ⟨_, rfl⟩
    have g2 : k2 = k1 + 1 := q2.trans (wrap1 (by omega) (by omega))
    obtain ⟨k3, q3⟩ : ∃ z, z = IntKind.i64.wrap (k2 + 1) := ⟨_, rfl⟩
    have g3 : k3 = k2 + 1 := q3.trans (wrap1 (by omega) (by omega))
    obtain ⟨k4, q4⟩ : ∃ z, z = IntKind.i64.wrap (k3 + 1) := ⟨_, rfl⟩
    have g4 : k4 = k3 + 1 := q4.trans (wrap1 (by omega) (by omega))
    have p5 : MkP (a0[i].Saved.length) (cntL cn_Keeper a0[i].Saved) k4 := ⟨by omega, by omega, by omega⟩
    have f5 := mkL_ok mk_Keeper_ok a0[i].Saved k4 (by omega) (by omega)
    obtain ⟨k5, q5⟩ : ∃ z, z = (mkL mk_Keeper a0[i].Saved k4).2 := ⟨_, rfl⟩
    have g5 : k5 = k4 + cntL cn_Keeper a0[i].Saved := q5.trans f5.1
    obtain ⟨k6, q6⟩ : ∃ z, z = IntKind.i64.wrap (k5 + 1) := ⟨_, rfl⟩
    have g6 : k6 = k5 + 1 := q6.trans (wrap1 (by omega) (by omega))
    simp only [lt_i hi, cond_true, atq_nat hi, hx, atq_set hi, atq_nat (show i < (l.set i _).length by simpa using hi), List.set_set, List.getElem_set_self, bd_s, toNat_i, three_ne, gd_T, mk_KeeperHost, ← q0, ← q1, ← q2, ← q3, ← q4, ← q5, ← q6, gd_t p5]) (fun rec k l => by simp only [ge_i, cond_false])]
  rfl

-- laws_markNoticeS
def mk_Notice (x : D.Notice) (k : Int) : D.Notice × Int := (⟨k, (IntKind.i64.wrap (k + 1)), (IntKind.i64.wrap ((IntKind.i64.wrap (k + 1)) + 1)), ((IntKind.i64.wrap ((IntKind.i64.wrap ((IntKind.i64.wrap (k + 1)) + 1)) + 1)).tmod 3 == 0)⟩, (IntKind.i64.wrap ((IntKind.i64.wrap ((IntKind.i64.wrap ((IntKind.i64.wrap (k + 1)) + 1)) + 1)) + 1)))
def cn_Notice (x : D.Notice) : Nat := 1 + 1 + 1 + 1
theorem mk_Notice_ok : MkOk mk_Notice cn_Notice := fun x k h0 h1 => by
  unfold cn_Notice at h1
  unfold mk_Notice cn_Notice
  obtain ⟨k0, q0⟩ : ∃ z, z = IntKind.i64.wrap (k + 1) := ⟨_, rfl⟩
  have g0 : k0 = k + 1 := q0.trans (wrap1 (by omega) (by omega))
  obtain ⟨k1, q1⟩ : ∃ z, z = IntKind.i64.wrap (k0 + 1) := ⟨_, rfl⟩
  have g1 : k1 = k0 + 1 := q1.trans (wrap1 (by omega) (by omega))
  obtain ⟨k2, q2⟩ : ∃ z, z = IntKind.i64.wrap (k1 + 1) := ⟨_, rfl⟩
  have g2 : k2 = k1 + 1 := q2.trans (wrap1 (by omega) (by omega))
  obtain ⟨k3, q3⟩ : ∃ z, z = IntKind.i64.wrap (k2 + 1) := ⟨_, rfl⟩
  have g3 : k3 = k2 + 1 := q3.trans (wrap1 (by omega) (by omega))
  simp only [← q0, ← q1, ← q2, ← q3]
  exact ⟨by omega, by first | trivial | omega⟩
theorem cn_Notice_le (x : D.Notice) : cn_Notice x ≤ 16 := by
  simp only [cn_Notice] <;> omega
def m_laws_markNoticeS (a0 : List D.Notice) (a1 : Int) : Option ((List D.Notice) × Int) := bd (itr (α := (Int × List D.Notice)) FUEL (fun rec1 (i1 : (Int × Nat × List D.Notice)) => bif (decide ((↑i1.snd.fst : Int) < (↑i1.snd.snd.length : Int))) then (bd (atq (i1.snd.snd) (↑i1.snd.fst : Int)) fun (z2 : (D.Notice)) => bd (atq (i1.snd.snd.set (↑i1.snd.fst : Int).toNat (D.Notice.mk i1.fst z2.Account z2.Time z2.Seen)) (↑i1.snd.fst : Int)) fun (z3 : (D.Notice)) => bd (atq ((i1.snd.snd.set (↑i1.snd.fst : Int).toNat (D.Notice.mk i1.fst z2.Account z2.Time z2.Seen)).set (↑i1.snd.fst : Int).toNat (D.Notice.mk z3.Kind (IntKind.i64.wrap (i1.fst + (1 : Int))) z3.Time z3.Seen)) (↑i1.snd.fst : Int)) fun (z4 : (D.Notice)) => gd ((3 : Int) ≠ (0 : Int)) (bd (atq (((i1.snd.snd.set (↑i1.snd.fst : Int).toNat (D.Notice.mk i1.fst z2.Account z2.Time z2.Seen)).set (↑i1.snd.fst : Int).toNat (D.Notice.mk z3.Kind (IntKind.i64.wrap (i1.fst + (1 : Int))) z3.Time z3.Seen)).set (↑i1.snd.fst : Int).toNat (D.Notice.mk z4.Kind z4.Account (IntKind.i64.wrap (IntKind.i64.wrap (i1.fst + (1 : Int)) + (1 : Int))) z4.Seen)) (↑i1.snd.fst : Int)) fun (z5 : (D.Notice)) => rec1 ((IntKind.i64.wrap (IntKind.i64.wrap (IntKind.i64.wrap (IntKind.i64.wrap (i1.fst + (1 : Int)) + (1 : Int)) + (1 : Int)) + (1 : Int)), (i1.snd.fst + 1), (((i1.snd.snd.set (↑i1.snd.fst : Int).toNat (D.Notice.mk i1.fst z2.Account z2.Time z2.Seen)).set (↑i1.snd.fst : Int).toNat (D.Notice.mk z3.Kind (IntKind.i64.wrap (i1.fst + (1 : Int))) z3.Time z3.Seen)).set (↑i1.snd.fst : Int).toNat (D.Notice.mk z4.Kind z4.Account (IntKind.i64.wrap (IntKind.i64.wrap (i1.fst + (1 : Int)) + (1 : Int))) z4.Seen)).set (↑i1.snd.fst : Int).toNat (D.Notice.mk z5.Kind z5.Account z5.Time ((IntKind.i64.wrap (IntKind.i64.wrap (IntKind.i64.wrap (i1.fst + (1 : Int)) + (1 : Int)) + (1 : Int))).tmod (3 : Int) == (0 : Int))))))) else (some (i1.fst, i1.snd.snd))) (a1, 0, a0)) fun (z0 : (Int × List D.Notice)) => some (z0.snd, z0.fst)
theorem t_laws_markNoticeS (a0 : List D.Notice) (a1 : Int) (h : MkP (a0.length) (cntL cn_Notice a0) a1) : m_laws_markNoticeS a0 a1 = some (mkL mk_Notice a0 a1) := by
  obtain ⟨hs, h0, h1⟩ := h
  unfold m_laws_markNoticeS
  rw [markLoop mk_Notice_ok h0 h1 (by omega) (fun rec k i l hi hi0 hx hk0 hk1 => by
    unfold cn_Notice at hk1
    obtain ⟨k0, q0⟩ : ∃ z, z = IntKind.i64.wrap (k + 1) := ⟨_, rfl⟩
    have g0 : k0 = k + 1 := q0.trans (wrap1 (by omega) (by omega))
    obtain ⟨k1, q1⟩ : ∃ z, z = IntKind.i64.wrap (k0 + 1) := ⟨_, rfl⟩
    have g1 : k1 = k0 + 1 := q1.trans (wrap1 (by omega) (by omega))
    obtain ⟨k2, q2⟩ : ∃ z, z = IntKind.i64.wrap (k1 + 1) := ⟨_, rfl⟩
    have g2 : k2 = k1 + 1 := q2.trans (wrap1 (by omega) (by omega))
    obtain ⟨k3, q3⟩ : ∃ z, z = IntKind.i64.wrap (k2 + 1) := ⟨_, rfl⟩
    have g3 : k3 = k2 + 1 := q3.trans (wrap1 (by omega) (by omega))
    simp only [lt_i hi, cond_true, atq_nat hi, hx, atq_set hi, atq_nat (show i < (l.set i _).length by simpa using hi), List.set_set, List.getElem_set_self, bd_s, toNat_i, three_ne, gd_T, mk_Notice, ← q0, ← q1, ← q2, ← q3]) (fun rec k l => by simp only [ge_i, cond_false])]
  rfl

-- laws_markMailbox
def mv_Mailbox (x : D.Mailbox) (k : Int) : D.Mailbox × Int := (⟨(mkL mk_Notice x.Notices k).1⟩, (mkL mk_Notice x.Notices k).2)
def cv_Mailbox (x : D.Mailbox) : Nat := cntL cn_Notice x.Notices
def m_laws_markMailbox (a0 : D.Mailbox) (a1 : Int) : Option (D.Mailbox × Int) := bd (gd (MkP a0.Notices.length (cntL cn_Notice a0.Notices) a1) (some (mkL mk_Notice a0.Notices a1))) fun (z0 : (List D.Notice × Int)) => some (D.Mailbox.mk z0.fst, z0.snd)
theorem t_laws_markMailbox (a0 : D.Mailbox) (a1 : Int) (h : MkP (a0.sz) (cv_Mailbox a0) a1) : m_laws_markMailbox a0 a1 = some (mv_Mailbox a0 a1) := by
  obtain ⟨hs, h0, h1⟩ := h
  unfold cv_Mailbox at h1
  simp only [D.Mailbox.sz] at hs
  unfold m_laws_markMailbox mv_Mailbox
  rw [gd_t (show MkP _ _ _ from ⟨by omega, by omega, by omega⟩)]
  have f0 := mkL_ok mk_Notice_ok a0.Notices a1 (by omega) (by omega)
  obtain ⟨k0, q0⟩ : ∃ z, z = (mkL mk_Notice a0.Notices a1).2 := ⟨_, rfl⟩
  have g0 : k0 = a1 + cntL cn_Notice a0.Notices := q0.trans f0.1
  simp only [bd_s, ← q0]

-- laws_markWorld
def mv_World (x : D.World) (k : Int) : D.World × Int := (⟨x.Now, x.Seed, (mkL mk_Device x.Devices k).1, (mkL mkB x.Stolen (mkL mk_Device x.Devices k).2).1, ⟨(mkL mk_LogEntry x.Cloud.Log (mkL mkB x.Stolen (mkL mk_Device x.Devices k).2).2).1, ⟨x.Cloud.Boxes.Epoch, (mkL mk_Box x.Cloud.Boxes.Boxes (mkL mk_LogEntry x.Cloud.Log (mkL mkB x.Stolen (mkL mk_Device x.Devices k).2).2).2).1⟩, (mkL mk_SealedBundle x.Cloud.History (mkL mk_Box x.Cloud.Boxes.Boxes (mkL mk_LogEntry x.Cloud.Log (mkL mkB x.Stolen (mkL mk_Device x.Devices k).2).2).2).2).1⟩, (mkL mk_Site x.Sites (mkL mk_SealedBundle x.Cloud.History (mkL mk_Box x.Cloud.Boxes.Boxes (mkL mk_LogEntry x.Cloud.Log (mkL mkB x.Stolen (mkL mk_Device x.Devices k).2).2).2).2).2).1, ⟨x.Vault.Salt, x.Vault.Threshold, x.Vault.Check, x.Vault.Masked⟩, (mkL mk_KeeperHost x.Hosts (mkL mk_Site x.Sites (mkL mk_SealedBundle x.Cloud.History (mkL mk_Box x.Cloud.Boxes.Boxes (mkL mk_LogEntry x.Cloud.Log (mkL mkB x.Stolen (mkL mk_Device x.Devices k).2).2).2).2).2).2).1, x.Pin, ⟨(mkL mk_Notice x.Mail.Notices (mkL mk_KeeperHost x.Hosts (mkL mk_Site x.Sites (mkL mk_SealedBundle x.Cloud.History (mkL mk_Box x.Cloud.Boxes.Boxes (mkL mk_LogEntry x.Cloud.Log (mkL mkB x.Stolen (mkL mk_Device x.Devices k).2).2).2).2).2).2).2).1⟩⟩, (mkL mk_Notice x.Mail.Notices (mkL mk_KeeperHost x.Hosts (mkL mk_Site x.Sites (mkL mk_SealedBundle x.Cloud.History (mkL mk_Box x.Cloud.Boxes.Boxes (mkL mk_LogEntry x.Cloud.Log (mkL mkB x.Stolen (mkL mk_Device x.Devices k).2).2).2).2).2).2).2).2)
def cv_World (x : D.World) : Nat := cntL cn_Device x.Devices + cntL cn1 x.Stolen + cntL cn_LogEntry x.Cloud.Log + cntL cn_Box x.Cloud.Boxes.Boxes + cntL cn_SealedBundle x.Cloud.History + cntL cn_Site x.Sites + cntL cn_KeeperHost x.Hosts + cntL cn_Notice x.Mail.Notices
theorem mv_World_ok : MkOk mv_World cv_World := fun x k h0 h1 => by
  unfold cv_World at h1
  unfold mv_World cv_World
  obtain ⟨k0, q0⟩ : ∃ z, z = (mkL mk_Device x.Devices k).2 := ⟨_, rfl⟩
  have f0 := mkL_ok mk_Device_ok x.Devices k (by omega) (by omega)
  have g0 : k0 = k + cntL cn_Device x.Devices := q0.trans f0.1
  obtain ⟨k1, q1⟩ : ∃ z, z = (mkL mkB x.Stolen k0).2 := ⟨_, rfl⟩
  have f1 := mkL_ok mkB_ok x.Stolen k0 (by omega) (by omega)
  have g1 : k1 = k0 + cntL cn1 x.Stolen := q1.trans f1.1
  obtain ⟨k2, q2⟩ : ∃ z, z = (mkL mk_LogEntry x.Cloud.Log k1).2 := ⟨_, rfl⟩
  have f2 := mkL_ok mk_LogEntry_ok x.Cloud.Log k1 (by omega) (by omega)
  have g2 : k2 = k1 + cntL cn_LogEntry x.Cloud.Log := q2.trans f2.1
  obtain ⟨k3, q3⟩ : ∃ z, z = (mkL mk_Box x.Cloud.Boxes.Boxes k2).2 := ⟨_, rfl⟩
  have f3 := mkL_ok mk_Box_ok x.Cloud.Boxes.Boxes k2 (by omega) (by omega)
  have g3 : k3 = k2 + cntL cn_Box x.Cloud.Boxes.Boxes := q3.trans f3.1
  obtain ⟨k4, q4⟩ : ∃ z, z = (mkL mk_SealedBundle x.Cloud.History k3).2 := ⟨_, rfl⟩
  have f4 := mkL_ok mk_SealedBundle_ok x.Cloud.History k3 (by omega) (by omega)
  have g4 : k4 = k3 + cntL cn_SealedBundle x.Cloud.History := q4.trans f4.1
  obtain ⟨k5, q5⟩ : ∃ z, z = (mkL mk_Site x.Sites k4).2 := ⟨_, rfl⟩
  have f5 := mkL_ok mk_Site_ok x.Sites k4 (by omega) (by omega)
  have g5 : k5 = k4 + cntL cn_Site x.Sites := q5.trans f5.1
  obtain ⟨k6, q6⟩ : ∃ z, z = (mkL mk_KeeperHost x.Hosts k5).2 := ⟨_, rfl⟩
  have f6 := mkL_ok mk_KeeperHost_ok x.Hosts k5 (by omega) (by omega)
  have g6 : k6 = k5 + cntL cn_KeeperHost x.Hosts := q6.trans f6.1
  obtain ⟨k7, q7⟩ : ∃ z, z = (mkL mk_Notice x.Mail.Notices k6).2 := ⟨_, rfl⟩
  have f7 := mkL_ok mk_Notice_ok x.Mail.Notices k6 (by omega) (by omega)
  have g7 : k7 = k6 + cntL cn_Notice x.Mail.Notices := q7.trans f7.1
  simp only [← q0, ← q1, ← q2, ← q3, ← q4, ← q5, ← q6, ← q7]
  exact ⟨by omega, by first | trivial | omega⟩
theorem cv_World_le (x : D.World) : cv_World x ≤ 16 + 16 * x.sz := by
  have := cntL_le (c := cn_Device) (s := D.Device.sz) (l := x.Devices) (fun y _ => cn_Device_le y)
  have := cntL_le0 (c := cn1) (l := x.Stolen) (fun _ _ => by simp only [cn1]; omega)
  have := cntL_le0 (c := cn_LogEntry) (l := x.Cloud.Log) (fun y _ => cn_LogEntry_le y)
  have := cntL_le (c := cn_Box) (s := D.Box.sz) (l := x.Cloud.Boxes.Boxes) (fun y _ => cn_Box_le y)
  have := cntL_le (c := cn_SealedBundle) (s := D.SealedBundle.sz) (l := x.Cloud.History) (fun y _ => cn_SealedBundle_le y)
  have := cntL_le (c := cn_Site) (s := D.Site.sz) (l := x.Sites) (fun y _ => cn_Site_le y)
  have := cntL_le (c := cn_KeeperHost) (s := D.KeeperHost.sz) (l := x.Hosts) (fun y _ => cn_KeeperHost_le y)
  have := cntL_le0 (c := cn_Notice) (l := x.Mail.Notices) (fun y _ => cn_Notice_le y)
  simp only [cv_World, D.Cloud.sz, D.EpochBoxes.sz, D.Mailbox.sz, D.Vault.sz, D.World.sz]
  omega
def m_laws_markWorld (a0 : D.World) (a1 : Int) : Option (D.World × Int) := bd (gd (MkP (a0.Devices.length + (List.map D.Device.sz a0.Devices).sum) (cntL cn_Device a0.Devices) a1) (some (mkL mk_Device a0.Devices a1))) fun (z0 : (List D.Device × Int)) => bd (gd (MkP a0.Stolen.length (cntL cn1 a0.Stolen) z0.snd) (some (mkL mkB a0.Stolen z0.snd))) fun (z1 : (List Bool × Int)) => bd (gd (MkP a0.Cloud.sz (cv_Cloud a0.Cloud) z1.snd) (some (mv_Cloud a0.Cloud z1.snd))) fun (z2 : (D.Cloud × Int)) => bd (gd (MkP (a0.Sites.length + (List.map D.Site.sz a0.Sites).sum) (cntL cn_Site a0.Sites) z2.snd) (some (mkL mk_Site a0.Sites z2.snd))) fun (z3 : (List D.Site × Int)) => bd (gd (MkP (a0.Hosts.length + (List.map D.KeeperHost.sz a0.Hosts).sum) (cntL cn_KeeperHost a0.Hosts) z3.snd) (some (mkL mk_KeeperHost a0.Hosts z3.snd))) fun (z4 : (List D.KeeperHost × Int)) => bd (gd (MkP a0.Mail.sz (cv_Mailbox a0.Mail) z4.snd) (some (mv_Mailbox a0.Mail z4.snd))) fun (z5 : (D.Mailbox × Int)) => some ((D.World.mk a0.Now a0.Seed z0.fst z1.fst (D.Cloud.mk z2.fst.Log (D.EpochBoxes.mk a0.Cloud.Boxes.Epoch z2.fst.Boxes.Boxes) z2.fst.History) z3.fst a0.Vault z4.fst a0.Pin z5.fst, z5.snd))
theorem t_laws_markWorld (a0 : D.World) (a1 : Int) (h : MkP (a0.sz) (cv_World a0) a1) : m_laws_markWorld a0 a1 = some (mv_World a0 a1) := by
  obtain ⟨hs, h0, h1⟩ := h
  unfold cv_World at h1
  simp only [D.Cloud.sz, D.EpochBoxes.sz, D.Mailbox.sz, D.Vault.sz, D.World.sz] at hs
  unfold m_laws_markWorld mv_World
  rw [gd_t (show MkP _ _ _ from ⟨by omega, by omega, by omega⟩)]
  have f0 := mkL_ok mk_Device_ok a0.Devices a1 (by omega) (by omega)
  obtain ⟨k0, q0⟩ : ∃ z, z = (mkL mk_Device a0.Devices a1).2 := ⟨_, rfl⟩
  have g0 : k0 = a1 + cntL cn_Device a0.Devices := q0.trans f0.1
  simp only [bd_s, ← q0]
  rw [gd_t (show MkP _ _ _ from ⟨by omega, by omega, by omega⟩)]
  have f1 := mkL_ok mkB_ok a0.Stolen k0 (by omega) (by omega)
  obtain ⟨k1, q1⟩ : ∃ z, z = (mkL mkB a0.Stolen k0).2 := ⟨_, rfl⟩
  have g1 : k1 = k0 + cntL cn1 a0.Stolen := q1.trans f1.1
  simp only [bd_s, ← q1]
  rw [gd_t (show MkP _ _ _ from ⟨by simp only [D.Cloud.sz, D.EpochBoxes.sz]; omega, by omega, by unfold cv_Cloud; omega⟩)]
  simp only [bd_s, mv_Cloud]
  have f2 := mkL_ok mk_LogEntry_ok a0.Cloud.Log k1 (by omega) (by omega)
  obtain ⟨k2, q2⟩ : ∃ z, z = (mkL mk_LogEntry a0.Cloud.Log k1).2 := ⟨_, rfl⟩
  have g2 : k2 = k1 + cntL cn_LogEntry a0.Cloud.Log := q2.trans f2.1
  simp only [← q2]
  have f3 := mkL_ok mk_Box_ok a0.Cloud.Boxes.Boxes k2 (by omega) (by omega)
  obtain ⟨k3, q3⟩ : ∃ z, z = (mkL mk_Box a0.Cloud.Boxes.Boxes k2).2 := ⟨_, rfl⟩
  have g3 : k3 = k2 + cntL cn_Box a0.Cloud.Boxes.Boxes := q3.trans f3.1
  simp only [← q3]
  have f4 := mkL_ok mk_SealedBundle_ok a0.Cloud.History k3 (by omega) (by omega)
  obtain ⟨k4, q4⟩ : ∃ z, z = (mkL mk_SealedBundle a0.Cloud.History k3).2 := ⟨_, rfl⟩
  have g4 : k4 = k3 + cntL cn_SealedBundle a0.Cloud.History := q4.trans f4.1
  simp only [← q4]
  rw [gd_t (show MkP _ _ _ from ⟨by omega, by omega, by omega⟩)]
  have f5 := mkL_ok mk_Site_ok a0.Sites k4 (by omega) (by omega)
  obtain ⟨k5, q5⟩ : ∃ z, z = (mkL mk_Site a0.Sites k4).2 := ⟨_, rfl⟩
  have g5 : k5 = k4 + cntL cn_Site a0.Sites := q5.trans f5.1
  simp only [bd_s, ← q5]
  rw [gd_t (show MkP _ _ _ from ⟨by omega, by omega, by omega⟩)]
  have f6 := mkL_ok mk_KeeperHost_ok a0.Hosts k5 (by omega) (by omega)
  obtain ⟨k6, q6⟩ : ∃ z, z = (mkL mk_KeeperHost a0.Hosts k5).2 := ⟨_, rfl⟩
  have g6 : k6 = k5 + cntL cn_KeeperHost a0.Hosts := q6.trans f6.1
  simp only [bd_s, ← q6]
  rw [gd_t (show MkP _ _ _ from ⟨by simp only [D.Mailbox.sz]; omega, by omega, by unfold cv_Mailbox; omega⟩)]
  simp only [bd_s, mv_Mailbox]

-- laws_heldIntS
-- laws_FnExactSiteViews
theorem sz_law {n : Nat} : (n ≤ 1048576 ∧ szI n 1048576 = 1048576 - (n : Int)) ∨ szI n 1048576 = -1 := by
  unfold szI
  by_cases h : (n : Int) ≤ 1048576
  · exact .inl ⟨by omega, if_pos h⟩
  · exact .inr (if_neg h)
-- spec_l19Has
def m_spec_l19Has (a0 : List Int) (a1 : Int) : Option (Bool) := nx (itr (α := (Bool ⊕ PUnit)) FUEL (fun rec1 (i1 : (Nat)) => bif (decide ((↑i1 : Int) < (↑a0.length : Int))) then (bd (atq a0 (↑i1 : Int)) fun (z2 : (Int)) => bif (z2 == a1) then (some (.inl (true))) else (rec1 (i1 + 1))) else (some (.inr ()))) 0) fun (z0 : (PUnit)) => some (false)
theorem t_spec_l19Has (l : List Int) (x : Int) (h : l.length ≤ 1099511627776) : m_spec_l19Has l x = some (hasF l x) := by
  unfold m_spec_l19Has
  rw [anyLoop (l := l) (fun e => e == x) (.inl true) (.inr ()) (by omega) (fun rec i hi => by simp only [lt_i hi, cond_true, atq_nat hi, bd_s]) (fun rec => by simp only [ge_i, cond_false])]
  unfold hasF; cases l.any _ <;> rfl

-- spec_DevicesOf
def m_spec_DevicesOf (a0 : List D.LogEntry) : Option ((List Int)) := bd (itr (α := (List Int)) FUEL (fun rec1 (i1 : (List Int × Nat)) => bif (decide ((↑i1.snd : Int) < (↑a0.length : Int))) then (bd (bd (atq a0 (↑i1.snd : Int)) fun (z3 : (D.LogEntry)) => bd (atq a0 (↑i1.snd : Int)) fun (z4 : (D.LogEntry)) => bd (bif (z4.Kind == (1 : Int)) then (bd (gd (i1.fst.length ≤ 1099511627776) (some (hasF i1.fst z3.Device))) fun (z6 : (Bool)) => some (!z6)) else (some (false))) fun (z5 : (Bool)) => bif z5 then (gd (apOk i1.fst [z3.Device]) (some (i1.fst ++ [z3.Device]))) else (bd (atq a0 (↑i1.snd : Int)) fun (z6 : (D.LogEntry)) => bif (z6.Kind == (2 : Int)) then (bd (itr (α := (List Int)) FUEL (fun rec8 (i8 : (List Int × Nat)) => bif (decide ((↑i8.snd : Int) < (↑i1.fst.length : Int))) then (bd (bd (atq (i1.fst) (↑i8.snd : Int)) fun (z10 : (Int)) => bif (z10 != z3.Device) then (bd (atq (i1.fst) (↑i8.snd : Int)) fun (z11 : (Int)) => gd (apOk i8.fst [z11]) (some (i8.fst ++ [z11]))) else (some (i8.fst))) fun (z9 : (List Int)) => rec8 ((z9, (i8.snd + 1)))) else (some (i8.fst))) ([], 0)) fun (z7 : (List Int)) => some z7) else (some (i1.fst)))) fun (z2 : (List Int)) => rec1 ((z2, (i1.snd + 1)))) else (some (i1.fst))) ([], 0)) fun (z0 : (List Int)) => some z0
theorem has_contains (s : List Int) (x : Int) : hasF s x = s.contains x := by
  unfold hasF
  rw [List.contains_eq_any_beq]; congr 1; funext e; exact Bool.beq_comm
theorem stepDev_1 {s : List Int} {e : D.LogEntry} (h : (e.Kind == 1) = true) : stepDev s e = bif !hasF s e.Device then s ++ [e.Device] else s := by
  unfold stepDev; rw [h, has_contains]; cases s.contains e.Device <;> rfl
theorem stepDev_2 {s : List Int} {e : D.LogEntry} (h : (e.Kind == 1) = false) : stepDev s e = bif e.Kind == 2 then s.filter (fun d => d != e.Device) else s := by
  unfold stepDev; rw [h]; rfl
theorem t_spec_DevicesOf (l : List D.LogEntry) (h : l.length ≤ 34359738368) : m_spec_DevicesOf l = some (devicesOfF l) := by
  unfold m_spec_DevicesOf
  rw [foldLoopR (l := l) stepDev (fun i s => s.length ≤ i) (fun s => some s) (by omega) (by simp) (fun i s hi hv => by have := stepDev_len s l[i]; omega)
    (fun rec i s hi hv => by
      simp only [lt_i hi, cond_true, atq_nat hi, bd_s]
      rw [gd_t (by omega)]
      have hf : ∀ x : Int, itr (α := List Int) FUEL (fun rec8 (i8 : (List Int × Nat)) => bif (decide ((↑i8.snd : Int) < (↑s.length : Int))) then (bd (bd (atq s (↑i8.snd : Int)) fun (z10 : (Int)) => bif (z10 != x) then (bd (atq s (↑i8.snd : Int)) fun (z11 : (Int)) => gd (apOk i8.fst [z11]) (some (i8.fst ++ [z11]))) else (some (i8.fst))) fun (z9 : (List Int)) => rec8 ((z9, (i8.snd + 1)))) else (some (i8.fst))) ([], 0) = some (s.filter fun d => d != x) := fun x => by
        rw [foldLoopR (l := s) (fun q y => bif y != x then q ++ [y] else q) (fun i q => q.length ≤ i) (fun q => some q) (by omega) (by simp) (fun i q hi hv => by cases (s[i] != x) <;> simp <;> omega)
          (fun rec i q hi hv => by
            simp only [lt_i hi, cond_true, atq_nat hi, bd_s]
            rw [gd_t (by unfold apOk; simp; omega)]
            cases (s[i] != x) <;> rfl) (fun rec q _ => by simp only [ge_i, cond_false]), foldl_filter]
        simp
      rw [hf]
      cases h1 : (l[i].Kind == 1) with
      | true =>
        have h2 : (l[i].Kind == 2) = false := by simp at h1 ⊢; omega
        rw [stepDev_1 h1, h2]
        rw [gd_t (by unfold apOk; simp; omega)]
        cases hasF s l[i].Device <;> rfl
      | false =>
        rw [stepDev_2 h1, gd_t (by unfold apOk; simp; omega)]
        cases (l[i].Kind == 2) <;> rfl) (fun rec s _ => by simp only [ge_i, cond_false])]
  rfl

-- spec_Mod
def m_spec_Mod (a0 : Int) (a1 : Int) : Option (Int) := bif (!inR a1 (1 : Int) (1000000000000 : Int)) then (some (0 : Int)) else (gd (a1 ≠ (0 : Int)) (gd (a1 ≠ (0 : Int)) (some ((IntKind.i64.wrap (a0.tmod a1 + a1)).tmod a1))))
theorem t_spec_Mod (p q : Int) : m_spec_Mod p q = some (modI p q) := by
  unfold m_spec_Mod
  by_cases h : 1 ≤ q ∧ q ≤ 1000000000000
  · simp [inR, h.1, h.2, gd_t (show q ≠ 0 by omega), modI_s h]
  · rw [modI_0 h]
    rcases (show q < 1 ∨ q > 1000000000000 by omega) with h | h
    · simp [inR, show ¬ 1 ≤ q by omega]
    · simp [inR, show ¬ q ≤ 1000000000000 by omega]

-- spec_Hash
def m_spec_Hash (a0 : List Int) : Option (Int) := bd (itr (α := (Int)) FUEL (fun rec1 (i1 : (Int × Nat)) => bif (decide ((↑i1.snd : Int) < (↑a0.length : Int))) then (bd (atq a0 (↑i1.snd : Int)) fun (z2 : (Int)) => gd ((2147483647 : Int) ≠ (0 : Int)) (rec1 (((IntKind.i64.wrap (IntKind.i64.wrap (IntKind.i64.wrap (i1.fst * (1000003 : Int)) + modI z2 (2147483647 : Int)) + (13 : Int))).tmod (2147483647 : Int), (i1.snd + 1))))) else (some (i1.fst))) (((11 : Int), 0))) fun (z0 : (Int)) => some z0
theorem md_ne : ((2147483647 : Int) ≠ 0) = True := by simp
theorem t_spec_Hash (l : List Int) (h : l.length ≤ 1099511627776) : m_spec_Hash l = some (hashI l) := by
  unfold m_spec_Hash
  rw [foldLoopR (l := l) hstep (fun _ _ => True) (fun s => some s) (by omega) trivial (fun _ _ _ _ => trivial) (fun rec i s hi _ => by
    simp only [lt_i hi, cond_true, atq_nat hi, bd_s, md_ne, gd_T]; rfl) (fun rec s _ => by simp only [ge_i, cond_false])]
  rfl

-- spec_KeyedHash
def m_spec_KeyedHash (a0 : Int) (a1 : List Int) : Option (Int) := gd (apOk [a0] a1) (gd (apOk ([a0] ++ a1) [a0]) (bd (gd (([a0] ++ a1 ++ [a0]).length ≤ 1099511627776) (some (hashI ([a0] ++ a1 ++ [a0])))) fun (z0 : (Int)) => some z0))
theorem t_spec_KeyedHash (k : Int) (l : List Int) (h : l.length ≤ 34359738368) : m_spec_KeyedHash k l = some (keyedI k l) := by
  unfold m_spec_KeyedHash
  rw [gd_t (by simp [apOk]; omega), gd_t (by simp [apOk]; omega), gd_t (by simp; omega)]
  simp [keyedI]

-- spec_Max
def m_spec_Max (a0 : Int) (a1 : Int) : Option (Int) := bif (decide (a1 > a0)) then (some a1) else (some a0)
theorem t_spec_Max (a b : Int) : m_spec_Max a b = some (maxF a b) := by simp [m_spec_Max, maxF]

-- spec_DeriveKey
def m_spec_DeriveKey (a0 : Int) (a1 : List Int) : Option (Int) := gd (apOk [(151 : Int)] a1) (bd (gd (([(151 : Int)] ++ a1).length ≤ 34359738368) (some (keyedI a0 ([(151 : Int)] ++ a1)))) fun (z0 : (Int)) => some (maxF (1 : Int) z0))
theorem t_spec_DeriveKey (k : Int) (l : List Int) (h : l.length ≤ 34359738300) : m_spec_DeriveKey k l = some (deriveF k l) := by
  unfold m_spec_DeriveKey
  rw [gd_t (by simp [apOk]; omega), gd_t (by simp; omega), bd_s, maxF_one (keyedI_range _ _).1]; rfl

-- spec_l10Device
def m_spec_l10Device (a0 : D.KeyStore) : Option (Int) := bd (gd ([(181 : Int)].length ≤ 34359738300) (some (deriveF a0.Seed [(181 : Int)]))) fun (z0 : (Int)) => some z0
theorem t_spec_l10Device (s : D.KeyStore) : m_spec_l10Device s = some (devKeyF s) := by unfold m_spec_l10Device; rw [gd_t (by simp)]; rfl

-- spec_IsValidKey
def m_spec_IsValidKey (a0 : Int) : Option (Bool) := some (inR a0 (1 : Int) (2147483646 : Int))
theorem t_spec_IsValidKey (n : Int) : m_spec_IsValidKey n = some (keyF n) := rfl

-- spec_PublicKey
def m_spec_PublicKey (a0 : Int) : Option (Int) := bif (!keyF a0) then (some (0 : Int)) else (gd ((2147483647 : Int) ≠ (0 : Int)) (some ((IntKind.i64.wrap (a0 * (48271 : Int))).tmod (2147483647 : Int))))
theorem t_spec_PublicKey (n : Int) : m_spec_PublicKey n = some (publicF n) := by unfold m_spec_PublicKey publicF; cases keyF n <;> rfl

-- spec_DevicePublic
def m_spec_DevicePublic (a0 : D.KeyStore) : Option (Int) := some (publicF (devKeyF a0))
theorem t_spec_DevicePublic (s : D.KeyStore) : m_spec_DevicePublic s = some (devPubF s) := rfl

-- spec_InList
def m_spec_InList (a0 : D.World) (a1 : Int) : Option (Bool) := bd (bif (inR a1 (0 : Int) (IntKind.i64.wrap ((↑a0.Devices.length : Int) - (1 : Int)))) then (bd (atq (a0.Devices) a1) fun (z1 : (D.Device)) => bd (gd (a0.Cloud.Log.length ≤ 34359738368) (some (devicesOfF a0.Cloud.Log))) fun (z2 : (List Int)) => bd (gd (z2.length ≤ 1099511627776) (some (hasF z2 (devPubF z1.Store)))) fun (z3 : (Bool)) => some z3) else (some (false))) fun (z0 : (Bool)) => some z0
theorem t_spec_InList (w : D.World) (d : Int) (h : WOk w) : m_spec_InList w d = some (inListF w d) := by
  unfold m_spec_InList inListF
  rw [hasDev_in h]
  have hl := devicesOf_len w.Cloud.Log
  have h3 := h.2.2.1
  cases hd : hasDevF w d with
  | false => rfl
  | true => simp only [cond_true, atq_dev hd, bd_s, gd_t h3, gd_t (show (devicesOfF w.Cloud.Log).length ≤ 1099511627776 by omega), Bool.true_and]

-- spec_ReachableDevices
def m_spec_ReachableDevices (a0 : D.World) : Option ((List Int)) := bd (itr (α := (List Int)) FUEL (fun rec1 (i1 : (List Int × Int)) => bd (bif (decide (i1.snd < (↑a0.Devices.length : Int))) then (some (decide (i1.snd < (↑a0.Stolen.length : Int)))) else (some (false))) fun (z2 : (Bool)) => bif z2 then (bd (bd (gd (WOk a0) (some (inListF a0 i1.snd))) fun (z4 : (Bool)) => bd (bif z4 then (bd (atq (a0.Stolen) (i1.snd)) fun (z6 : (Bool)) => some (!z6)) else (some (false))) fun (z5 : (Bool)) => bif z5 then (gd (apOk i1.fst [i1.snd]) (some (i1.fst ++ [i1.snd]))) else (some (i1.fst))) fun (z3 : (List Int)) => rec1 ((z3, IntKind.i64.wrap (i1.snd + (1 : Int))))) else (some (i1.fst))) (([], (0 : Int)))) fun (z0 : (List Int)) => some z0
theorem range_filter {p : Nat → Bool} {i : Nat} : ((List.range (i + 1)).filter p).map Int.ofNat = bif p i then ((List.range i).filter p).map Int.ofNat ++ [(i : Int)] else ((List.range i).filter p).map Int.ofNat := by
  rw [List.range_succ, List.filter_append]
  cases h : p i <;> simp [h]
theorem range_len {p : Nat → Bool} {i : Nat} : (((List.range i).filter p).map Int.ofNat).length ≤ i := by
  have := List.length_filter_le p (List.range i)
  simpa using this
theorem t_spec_ReachableDevices (w : D.World) (h : WOk w) : m_spec_ReachableDevices w = some (reachF w) := by
  have h1 := h.1
  have h2 := h.2.1
  unfold m_spec_ReachableDevices
  rw [itr0 (s := ([], 0)) (fun i s => i ≤ min w.Devices.length w.Stolen.length ∧ s = (((List.range i).filter (reachB w)).map Int.ofNat, (i : Int))) (min w.Devices.length w.Stolen.length) (some (reachF w)) (by omega) ⟨by omega, rfl⟩ (fun i s rec hi hv => by
    obtain ⟨_, rfl⟩ := hv
    have hi1 : i < w.Devices.length := by omega
    have hi2 : i < w.Stolen.length := by omega
    have hl := range_len (p := reachB w) (i := i)
    refine .inl ⟨_, ⟨by omega, rfl⟩, ?_⟩
    simp only [lt_i hi1, lt_i hi2, cond_true, bd_s, gd_t h, atq_nat hi2]
    rw [gd_t (by unfold apOk; simp only [List.length_singleton]; omega), range_filter, wrap64_id (by omega) (by omega)]
    have e : reachB w i = (inListF w (i : Int) && !w.Stolen[i]) := by
      unfold reachB; rw [decide_eq_true hi2, Bool.true_and, List.getD, List.getElem?_eq_getElem hi2]; rfl
    rw [e]
    cases inListF w (i : Int) <;> cases w.Stolen[i] <;> rfl) (fun s rec hv => by
    obtain ⟨_, rfl⟩ := hv
    have e : ((List.range (min w.Devices.length w.Stolen.length)).filter (reachB w)).map Int.ofNat = reachF w := by rw [reach_min]; rfl
    have hb : (bif decide (((min w.Devices.length w.Stolen.length : Nat) : Int) < (w.Devices.length : Int)) then some (decide (((min w.Devices.length w.Stolen.length : Nat) : Int) < (w.Stolen.length : Int))) else some false) = some false := by
      rcases Nat.lt_or_ge w.Stolen.length w.Devices.length with q | q
      · rw [Nat.min_eq_right (by omega), bifT (decide_eq_true (by omega))]; simp
      · rw [Nat.min_eq_left q, bifF (decide_eq_false (by omega))]
    simp only [e]
    rw [hb]; rfl)]
  rfl

-- impl_hasDevice
def m_impl_hasDevice (a0 : D.World) (a1 : Int) : Option (Bool) := bd (bif (decide (a1 ≥ (0 : Int))) then (some (decide (a1 < (↑a0.Devices.length : Int)))) else (some (false))) fun (z0 : (Bool)) => some z0
theorem t_impl_hasDevice (w : D.World) (d : Int) : m_impl_hasDevice w d = some (hasDevF w d) := by
  unfold m_impl_hasDevice hasDevF
  show bd (bif decide (0 ≤ d) then _ else _) _ = _
  cases decide (0 ≤ d) <;> rfl

-- impl_has
def m_impl_has (a0 : List Int) (a1 : Int) : Option (Bool) := nx (itr (α := (Bool ⊕ PUnit)) FUEL (fun rec1 (i1 : (Nat)) => bif (decide ((↑i1 : Int) < (↑a0.length : Int))) then (bd (atq a0 (↑i1 : Int)) fun (z2 : (Int)) => bif (z2 == a1) then (some (.inl (true))) else (rec1 (i1 + 1))) else (some (.inr ()))) 0) fun (z0 : (PUnit)) => some (false)
theorem t_impl_has (l : List Int) (x : Int) (h : l.length ≤ 1099511627776) : m_impl_has l x = some (hasF l x) := by
  unfold m_impl_has
  rw [anyLoop (l := l) (fun e => e == x) (.inl true) (.inr ()) (by omega) (fun rec i hi => by simp only [lt_i hi, cond_true, atq_nat hi, bd_s]) (fun rec => by simp only [ge_i, cond_false])]
  unfold hasF; cases l.any _ <;> rfl

-- impl_DevicesOf
def m_impl_DevicesOf (a0 : List D.LogEntry) : Option ((List Int)) := bd (itr (α := (List Int)) FUEL (fun rec1 (i1 : (List Int × Nat)) => bif (decide ((↑i1.snd : Int) < (↑a0.length : Int))) then (bd (bd (atq a0 (↑i1.snd : Int)) fun (z3 : (D.LogEntry)) => bif (z3.Kind == (1 : Int)) then (bd (gd (i1.fst.length ≤ 1099511627776) (some (hasF i1.fst z3.Device))) fun (z4 : (Bool)) => bif (!z4) then (gd (apOk i1.fst [z3.Device]) (some (i1.fst ++ [z3.Device]))) else (some (i1.fst))) else (bif (z3.Kind == (2 : Int)) then (bd (itr (α := (List Int)) FUEL (fun rec5 (i5 : (List Int × Nat)) => bif (decide ((↑i5.snd : Int) < (↑i1.fst.length : Int))) then (bd (bd (atq (i1.fst) (↑i5.snd : Int)) fun (z7 : (Int)) => bif (z7 != z3.Device) then (gd (apOk i5.fst [z7]) (some (i5.fst ++ [z7]))) else (some (i5.fst))) fun (z6 : (List Int)) => rec5 ((z6, (i5.snd + 1)))) else (some (i5.fst))) ([], 0)) fun (z4 : (List Int)) => some z4) else (some (i1.fst)))) fun (z2 : (List Int)) => rec1 ((z2, (i1.snd + 1)))) else (some (i1.fst))) ([], 0)) fun (z0 : (List Int)) => some z0
theorem t_impl_DevicesOf (l : List D.LogEntry) (h : l.length ≤ 34359738368) : m_impl_DevicesOf l = some (devicesOfF l) := by
  unfold m_impl_DevicesOf
  rw [foldLoopR (l := l) stepDev (fun i s => s.length ≤ i) (fun s => some s) (by omega) (by simp) (fun i s hi hv => by have := stepDev_len s l[i]; omega)
    (fun rec i s hi hv => by
      simp only [lt_i hi, cond_true, atq_nat hi, bd_s]
      rw [gd_t (by omega)]
      have hf : ∀ x : Int, itr (α := List Int) FUEL (fun rec5 (i5 : (List Int × Nat)) => bif (decide ((↑i5.snd : Int) < (↑s.length : Int))) then (bd (bd (atq s (↑i5.snd : Int)) fun (z7 : (Int)) => bif (z7 != x) then (gd (apOk i5.fst [z7]) (some (i5.fst ++ [z7]))) else (some (i5.fst))) fun (z6 : (List Int)) => rec5 ((z6, (i5.snd + 1)))) else (some (i5.fst))) ([], 0) = some (s.filter fun d => d != x) := fun x => by
        rw [foldLoopR (l := s) (fun q y => bif y != x then q ++ [y] else q) (fun i q => q.length ≤ i) (fun q => some q) (by omega) (by simp) (fun i q hi hv => by cases (s[i] != x) <;> simp <;> omega)
          (fun rec i q hi hv => by
            simp only [lt_i hi, cond_true, atq_nat hi, bd_s]
            rw [gd_t (by unfold apOk; simp; omega)]
            cases (s[i] != x) <;> rfl) (fun rec q _ => by simp only [ge_i, cond_false]), foldl_filter]
        simp
      rw [hf]
      cases h1 : (l[i].Kind == 1) with
      | true =>
        rw [stepDev_1 h1, gd_t (by unfold apOk; simp; omega)]
        cases hasF s l[i].Device <;> rfl
      | false =>
        rw [stepDev_2 h1]
        cases (l[i].Kind == 2) <;> rfl) (fun rec s _ => by simp only [ge_i, cond_false])]
  rfl

-- impl_joined
def m_impl_joined (a0 : List Int) (a1 : List (List Int)) : Option ((List Int)) := gd (apOk [] a0) (bd (itr (α := (List Int)) FUEL (fun rec1 (i1 : (List Int × Nat)) => bif (decide ((↑i1.snd : Int) < (↑a1.length : Int))) then (bd (atq a1 (↑i1.snd : Int)) fun (z2 : (List Int)) => gd (apOk i1.fst z2) (rec1 ((i1.fst ++ z2, (i1.snd + 1))))) else (some (i1.fst))) ([] ++ a0, 0)) fun (z0 : (List Int)) => some z0)
theorem flatten_take1 {α : Type} {r : List (List α)} {i : Nat} (hi : i < r.length) : (r.take (i + 1)).flatten = (r.take i).flatten ++ r[i] := by
  rw [List.take_add_one, List.getElem?_eq_getElem hi, List.flatten_append]
  simp only [Option.toList_some, List.flatten_cons, List.flatten_nil, List.append_nil]
theorem t_impl_joined (a : List Int) (r : List (List Int)) (h : a.length + r.flatten.length ≤ 68719476736 ∧ r.length ≤ 1099511627776) : m_impl_joined a r = some (joinF a r) := by
  unfold m_impl_joined
  have hs : ∀ i, (r.take i).flatten.length ≤ r.flatten.length := fun i => by
    conv => rhs; rw [← List.take_append_drop i r, List.flatten_append, List.length_append]
    omega
  rw [gd_t (by simp [apOk]; omega), foldLoopR (l := r) (fun s x => s ++ x) (fun i s => s = a ++ (r.take i).flatten) (fun s => some s) (by omega) (by simp)
    (fun i s hi hv => by rw [hv, flatten_take1 hi, List.append_assoc])
    (fun rec i s hi hv => by
      have e := flatten_take1 hi
      have h1 := hs (i + 1)
      rw [e, List.length_append] at h1
      simp only [lt_i hi, cond_true, atq_nat hi, bd_s]
      rw [gd_t (by unfold apOk; rw [hv, List.length_append]; omega)]) (fun rec s _ => by simp only [ge_i, cond_false])]
  have : r.foldl (fun s x => s ++ x) ([] ++ a) = a ++ r.flatten := by rw [List.nil_append, foldl_app (f := fun x : List Int => x)]; simp
  rw [this]; rfl

-- impl_Mod
def m_impl_Mod (a0 : Int) (a1 : Int) : Option (Int) := bd (bif (decide (a1 < (1 : Int))) then (some (true)) else (some (decide (a1 > (1000000000000 : Int))))) fun (z0 : (Bool)) => bif z0 then (some (0 : Int)) else (gd (a1 ≠ (0 : Int)) (bd (bif (decide (a0.tmod a1 < (0 : Int))) then (some (IntKind.i64.wrap (a0.tmod a1 + a1))) else (some (a0.tmod a1))) fun (z1 : (Int)) => some z1))
theorem t_impl_Mod (p q : Int) : m_impl_Mod p q = some (modI p q) := by
  unfold m_impl_Mod
  simp only [bd_bb]
  by_cases h : 1 ≤ q ∧ q ≤ 1000000000000
  · rw [gd_t (by omega)]
    by_cases ht : p.tmod q < 0
    · simp [h, ht, show ¬ q < 1 by omega, show ¬ q > 1000000000000 by omega, modI_n h ht]
      rw [IntKind.wrap_i64]; have := tmod_split (p := p) (q := q) h.1; omega
    · simp [h, ht, show ¬ q < 1 by omega, show ¬ q > 1000000000000 by omega, modI_p h ht]
  · rw [modI_0 h]
    rcases (show q < 1 ∨ q > 1000000000000 by omega) with h | h <;> simp [h]

-- impl_Hash
def m_impl_Hash (a0 : List Int) : Option (Int) := bd (itr (α := (Int)) FUEL (fun rec1 (i1 : (Int × Nat)) => bif (decide ((↑i1.snd : Int) < (↑a0.length : Int))) then (bd (atq a0 (↑i1.snd : Int)) fun (z2 : (Int)) => gd ((2147483647 : Int) ≠ (0 : Int)) (rec1 (((IntKind.i64.wrap (IntKind.i64.wrap (IntKind.i64.wrap (i1.fst * (1000003 : Int)) + modI z2 (2147483647 : Int)) + (13 : Int))).tmod (2147483647 : Int), (i1.snd + 1))))) else (some (i1.fst))) (((11 : Int), 0))) fun (z0 : (Int)) => some z0
theorem t_impl_Hash (l : List Int) (h : l.length ≤ 1099511627776) : m_impl_Hash l = some (hashI l) := by
  unfold m_impl_Hash
  rw [foldLoopR (l := l) hstep (fun _ _ => True) (fun s => some s) (by omega) trivial (fun _ _ _ _ => trivial) (fun rec i s hi _ => by
    simp only [lt_i hi, cond_true, atq_nat hi, bd_s, md_ne, gd_T]; rfl) (fun rec s _ => by simp only [ge_i, cond_false])]
  rfl

-- impl_KeyedHash
def m_impl_KeyedHash (a0 : Int) (a1 : List Int) : Option (Int) := bd (gd ([a0].length + [a1, [a0]].flatten.length ≤ 68719476736 ∧ [a1, [a0]].length ≤ 1099511627776) (some (joinF [a0] [a1, [a0]]))) fun (z0 : (List Int)) => bd (gd (z0.length ≤ 1099511627776) (some (hashI z0))) fun (z1 : (Int)) => some z1
theorem t_impl_KeyedHash (k : Int) (l : List Int) (h : l.length ≤ 34359738368) : m_impl_KeyedHash k l = some (keyedI k l) := by
  unfold m_impl_KeyedHash
  rw [gd_t (by simp; omega), bd_s, gd_t (by simp [joinF]; omega)]
  simp [keyedI, joinF]

-- impl_orOne
def m_impl_orOne (a0 : Int) : Option (Int) := bif (a0 == (0 : Int)) then (some (1 : Int)) else (some a0)
theorem t_impl_orOne (n : Int) : m_impl_orOne n = some (orOneF n) := by simp [m_impl_orOne, orOneF]

-- impl_DeriveKey
def m_impl_DeriveKey (a0 : Int) (a1 : List Int) : Option (Int) := bd (gd ([(151 : Int)].length + [a1].flatten.length ≤ 68719476736 ∧ [a1].length ≤ 1099511627776) (some (joinF [(151 : Int)] [a1]))) fun (z0 : (List Int)) => bd (gd (z0.length ≤ 34359738368) (some (keyedI a0 z0))) fun (z1 : (Int)) => some (orOneF z1)
theorem t_impl_DeriveKey (k : Int) (l : List Int) (h : l.length ≤ 34359738300) : m_impl_DeriveKey k l = some (deriveF k l) := by
  unfold m_impl_DeriveKey
  rw [gd_t (by simp; omega), bd_s, gd_t (by simp [joinF]; omega)]
  simp [deriveF, joinF]

-- impl_InRange
def m_impl_InRange (a0 : Int) (a1 : Int) (a2 : Int) : Option (Bool) := bd (bif (decide (a1 ≤ a0)) then (some (decide (a0 ≤ a2))) else (some (false))) fun (z0 : (Bool)) => some z0
theorem t_impl_InRange (a b c : Int) : m_impl_InRange a b c = some (inR a b c) := by
  unfold m_impl_InRange inR
  cases decide (b ≤ a) <;> rfl

-- impl_IsValidKey
def m_impl_IsValidKey (a0 : Int) : Option (Bool) := some (inR a0 (1 : Int) (2147483646 : Int))
theorem t_impl_IsValidKey (n : Int) : m_impl_IsValidKey n = some (keyF n) := rfl

-- impl_PublicKey
def m_impl_PublicKey (a0 : Int) : Option (Int) := bif (!keyF a0) then (some (0 : Int)) else (gd ((2147483647 : Int) ≠ (0 : Int)) (some ((IntKind.i64.wrap (a0 * (48271 : Int))).tmod (2147483647 : Int))))
theorem t_impl_PublicKey (n : Int) : m_impl_PublicKey n = some (publicF n) := by unfold m_impl_PublicKey publicF; cases keyF n <;> rfl

-- impl_DevicePublic
def m_impl_DevicePublic (a0 : D.KeyStore) : Option (Int) := bd (gd ([(181 : Int)].length ≤ 34359738300) (some (deriveF a0.Seed [(181 : Int)]))) fun (z0 : (Int)) => some (publicF z0)
theorem t_impl_DevicePublic (s : D.KeyStore) : m_impl_DevicePublic s = some (devPubF s) := by unfold m_impl_DevicePublic; rw [gd_t (by simp)]; rfl

-- impl_InList
def m_impl_InList (a0 : D.World) (a1 : Int) : Option (Bool) := bd (bif (hasDevF a0 a1) then (bd (atq (a0.Devices) a1) fun (z1 : (D.Device)) => bd (gd (a0.Cloud.Log.length ≤ 34359738368) (some (devicesOfF a0.Cloud.Log))) fun (z2 : (List Int)) => bd (gd (z2.length ≤ 1099511627776) (some (hasF z2 (devPubF z1.Store)))) fun (z3 : (Bool)) => some z3) else (some (false))) fun (z0 : (Bool)) => some z0
theorem t_impl_InList (w : D.World) (d : Int) (h : WOk w) : m_impl_InList w d = some (inListF w d) := by
  unfold m_impl_InList inListF
  have hl := devicesOf_len w.Cloud.Log
  have h3 := h.2.2.1
  cases hd : hasDevF w d with
  | false => rfl
  | true => simp only [cond_true, atq_dev hd, bd_s, gd_t h3, gd_t (show (devicesOfF w.Cloud.Log).length ≤ 1099511627776 by omega), Bool.true_and]

-- impl_ReachableDevices
def m_impl_ReachableDevices (a0 : D.World) : Option ((List Int)) := bd (itr (α := (List Int)) FUEL (fun rec1 (i1 : (List Int × Nat)) => bif (decide ((↑i1.snd : Int) < (↑a0.Devices.length : Int))) then (bd (bd (gd (WOk a0) (some (inListF a0 (↑i1.snd : Int)))) fun (z3 : (Bool)) => bd (bif z3 then (bif (decide ((↑i1.snd : Int) < (↑a0.Stolen.length : Int))) then (bd (atq (a0.Stolen) (↑i1.snd : Int)) fun (z5 : (Bool)) => some (!z5)) else (some (false))) else (some (false))) fun (z4 : (Bool)) => bif z4 then (gd (apOk i1.fst [(↑i1.snd : Int)]) (some (i1.fst ++ [(↑i1.snd : Int)]))) else (some (i1.fst))) fun (z2 : (List Int)) => rec1 ((z2, (i1.snd + 1)))) else (some (i1.fst))) ([], 0)) fun (z0 : (List Int)) => some z0
theorem t_impl_ReachableDevices (w : D.World) (h : WOk w) : m_impl_ReachableDevices w = some (reachF w) := by
  have h1 := h.1
  unfold m_impl_ReachableDevices
  rw [itr0 (s := ([], 0)) (fun i s => i ≤ w.Devices.length ∧ s = (((List.range i).filter (reachB w)).map Int.ofNat, i)) w.Devices.length (some (reachF w)) (by omega) ⟨by omega, rfl⟩ (fun i s rec hi hv => by
    obtain ⟨_, rfl⟩ := hv
    have hl := range_len (p := reachB w) (i := i)
    refine .inl ⟨_, ⟨by omega, rfl⟩, ?_⟩
    simp only [lt_i hi, cond_true, bd_s, gd_t h]
    rw [gd_t (by unfold apOk; simp only [List.length_singleton]; omega), range_filter]
    unfold reachB
    cases inListF w (i : Int) with
    | false => rfl
    | true =>
      by_cases hi2 : i < w.Stolen.length
      · rw [lt_i hi2, decide_eq_true hi2, List.getD, List.getElem?_eq_getElem hi2, atq_nat hi2]
        simp only [cond_true, bd_s, Option.getD_some, Bool.true_and]
        cases w.Stolen[i] <;> rfl
      · rw [show decide ((i : Int) < (w.Stolen.length : Int)) = false from decide_eq_false (by omega), decide_eq_false hi2]; rfl) (fun s rec hv => by
    obtain ⟨_, rfl⟩ := hv
    simp only [ge_i, cond_false]; rfl)]
  rfl

-- laws_FnExactReachableDevices
-- spec_l17Less
def m_spec_l17Less (a0 : D.Entry) (a1 : Int) (a2 : Int) : Option (Bool) := bd (bif (decide (a0.Site < a1)) then (some (true)) else (bif (a0.Site == a1) then (some (decide (a0.Handle < a2))) else (some (false)))) fun (z0 : (Bool)) => some z0
theorem t_spec_l17Less (a : D.Entry) (s h : Int) : m_spec_l17Less a s h = some (lessF a s h) := by
  unfold m_spec_l17Less lessF
  cases decide (a.Site < s) <;> cases (a.Site == s) <;> rfl

-- spec_IsBundle
def m_spec_IsBundle (a0 : D.Bundle) : Option (Bool) := nx (itr (α := (Bool ⊕ PUnit)) FUEL (fun rec1 (i1 : (Nat)) => bif (decide ((↑i1 : Int) < (↑a0.Entries.length : Int))) then (bd (atq (a0.Entries) (↑i1 : Int)) fun (z2 : (D.Entry)) => bd (bif (!inR z2.Site (0 : Int) (2147483646 : Int)) then (some (true)) else (bif (!inR z2.Handle (0 : Int) (1000000 : Int)) then (some (true)) else (bif (!inR z2.Version (1 : Int) (1000000 : Int)) then (some (true)) else (bif (decide ((↑i1 : Int) > (0 : Int))) then (bd (atq (a0.Entries) (IntKind.i64.wrap ((↑i1 : Int) - (1 : Int)))) fun (z4 : (D.Entry)) => some (!lessF z4 z2.Site z2.Handle)) else (some (false)))))) fun (z3 : (Bool)) => bif z3 then (some (.inl (false))) else (rec1 (i1 + 1))) else (some (.inr ()))) 0) fun (z0 : (PUnit)) => some (decide ((↑a0.Entries.length : Int) ≤ (20 : Int)))
theorem bad_step {l : List D.Entry} {i : Nat} (hi : i < l.length) (hl : l.length ≤ 34359738368) {q : D.Entry → Bool} (hq : ∀ x, q x = kless x l[i]) :
    (bif (!inR l[i].Site (0 : Int) (2147483646 : Int)) then (some (true)) else (bif (!inR l[i].Handle (0 : Int) (1000000 : Int)) then (some (true)) else (bif (!inR l[i].Version (1 : Int) (1000000 : Int)) then (some (true)) else (bif (decide ((i : Int) > (0 : Int))) then (bd (atq l (IntKind.i64.wrap ((i : Int) - (1 : Int)))) fun (z4 : (D.Entry)) => some (!q z4)) else (some (false)))))) = some (badE l i l[i]) := by
  unfold badE
  cases inR l[i].Site 0 2147483646 with
  | false => rfl
  | true =>
    cases inR l[i].Handle 0 1000000 with
    | false => rfl
    | true =>
      cases inR l[i].Version 1 1000000 with
      | false => rfl
      | true =>
        by_cases h0 : (i : Int) > 0
        · rw [decide_eq_true h0, wrap64_id (by omega) (by omega)]
          have hat : atq l ((i : Int) - 1) = some l[i - 1] := by
            rw [show (i : Int) - 1 = ((i - 1 : Nat) : Int) by omega]; exact atq_nat (by omega)
          have hg : l.getD (i - 1) default = l[i - 1] := by rw [List.getD, List.getElem?_eq_getElem (by omega), Option.getD_some]
          simp only [hat, bd_s, hq, hg, Bool.not_true, cond_false, cond_true, Bool.false_or, Bool.true_and]
        · rw [decide_eq_false h0]; rfl
theorem t_spec_IsBundle (b : D.Bundle) (h : b.sz ≤ 34359738368) : m_spec_IsBundle b = some (bundleOkF b) := by
  simp only [D.Bundle.sz] at h
  unfold m_spec_IsBundle bundleOkF
  rw [anyLoopI (l := b.Entries) (badE b.Entries) (.inl false) (.inr ()) (by omega) (fun rec i hi => by
    simp only [lt_i hi, cond_true, atq_nat hi, bd_s]
    rw [bad_step hi h (q := fun x => lessF x b.Entries[i].Site b.Entries[i].Handle) (fun x => rfl)]
    rfl) (fun rec => by simp only [ge_i, cond_false])]
  cases anyI (badE b.Entries) 0 b.Entries with
  | true => simp [nx]
  | false => simp [nx]

-- spec_l17Copy
def m_spec_l17Copy (a0 : D.Bundle) : Option (D.Bundle) := gd (apOk [] a0.Entries) (some (D.Bundle.mk ([] ++ a0.Entries)))
theorem t_spec_l17Copy (b : D.Bundle) (h : b.sz ≤ 34359738368) : m_spec_l17Copy b = some (b) := by
  simp only [D.Bundle.sz] at h
  unfold m_spec_l17Copy
  rw [gd_t (by unfold apOk; simp only [List.length_nil]; omega)]; rfl

-- spec_FindEntry
def m_spec_FindEntry (a0 : D.Bundle) (a1 : Int) (a2 : Int) : Option (Int) := nx (itr (α := (Int ⊕ PUnit)) FUEL (fun rec1 (i1 : (Nat)) => bif (decide ((↑i1 : Int) < (↑a0.Entries.length : Int))) then (bd (atq (a0.Entries) (↑i1 : Int)) fun (z2 : (D.Entry)) => bd (bif (z2.Site == a1) then (bd (atq (a0.Entries) (↑i1 : Int)) fun (z4 : (D.Entry)) => some (z4.Handle == a2)) else (some (false))) fun (z3 : (Bool)) => bif z3 then (some (.inl (↑i1 : Int))) else (rec1 (i1 + 1))) else (some (.inr ()))) 0) fun (z0 : (PUnit)) => some (-(1 : Int))
theorem t_spec_FindEntry (b : D.Bundle) (s h : Int) (hz : b.sz ≤ 34359738368) : m_spec_FindEntry b s h = some (findEntryF b s h) := by
  simp only [D.Bundle.sz] at hz
  unfold m_spec_FindEntry findEntryF
  exact findLoop (l := b.Entries) (fun (e : D.Entry) => e.Site == s && e.Handle == h) (by omega) (fun rec i hi => by
    simp only [lt_i hi, cond_true, atq_nat hi, bd_s]
    cases (b.Entries[i].Site == s) <;> rfl) (fun rec => by simp only [ge_i, cond_false])

-- spec_l17Set
def m_spec_l17Set (a0 : D.Bundle) (a1 : D.Entry) : Option (D.Bundle) := bd (gd (a0.sz ≤ 34359738368) (some a0)) fun (z0 : (D.Bundle)) => bd (gd (a0.sz ≤ 34359738368) (some (findEntryF a0 a1.Site a1.Handle))) fun (z1 : (Int)) => bif (decide (z1 ≥ (0 : Int))) then (bd (atq (z0.Entries) z1) fun (z2 : (D.Entry)) => some (D.Bundle.mk (z0.Entries.set z1.toNat a1))) else (bd (itr (α := (Int)) FUEL (fun rec3 (i3 : (Int)) => bd (bif (decide (i3 < (↑a0.Entries.length : Int))) then (bd (atq (a0.Entries) i3) fun (z5 : (D.Entry)) => some (lessF z5 a1.Site a1.Handle)) else (some (false))) fun (z4 : (Bool)) => bif z4 then (rec3 (IntKind.i64.wrap (i3 + (1 : Int)))) else (some i3)) (0 : Int)) fun (z2 : (Int)) => gd (hiOk a0.Entries z2) (gd (hiOk a0.Entries z2) (gd (apOk [] (List.take (Int.toNat z2) a0.Entries)) (gd (apOk ([] ++ List.take (Int.toNat z2) a0.Entries) [a1]) (gd (apOk ([] ++ List.take (Int.toNat z2) a0.Entries ++ [a1]) (List.drop (Int.toNat z2) a0.Entries)) (some (D.Bundle.mk ([] ++ List.take (Int.toNat z2) a0.Entries ++ [a1] ++ List.drop (Int.toNat z2) a0.Entries))))))))
theorem tw_step (p : D.Entry → Bool) : ∀ (l : List D.Entry) (i : Nat), i ≤ (l.takeWhile p).length → (∃ hi : i < l.length, p l[i] = true ∧ i < (l.takeWhile p).length) ∨ (i = (l.takeWhile p).length ∧ ∀ hi : i < l.length, p l[i] = false)
  | [], i, h => .inr ⟨by simpa using h, fun hi => by simp at hi⟩
  | x :: l, i, h => by
    rw [List.takeWhile_cons] at h ⊢
    cases hp : p x with
    | false =>
      rw [hp] at h
      simp at h
      subst h
      exact .inr ⟨by simp, fun _ => hp⟩
    | true =>
      rw [hp] at h
      simp only [if_true, List.length_cons] at h ⊢
      cases i with
      | zero => exact .inl ⟨by simp, hp, by omega⟩
      | succ i =>
        rcases tw_step p l i (by omega) with ⟨h1, h2, h3⟩ | ⟨h1, h2⟩
        · exact .inl ⟨by simpa using h1, h2, by omega⟩
        · exact .inr ⟨by omega, fun hi => h2 (by simpa using hi)⟩
theorem tw_take (p : D.Entry → Bool) : ∀ l : List D.Entry, l.take (l.takeWhile p).length = l.takeWhile p
  | [] => rfl
  | x :: l => by
    rw [List.takeWhile_cons]
    cases p x with
    | false => rfl
    | true => simp only [if_true, List.length_cons, List.take_succ_cons]; rw [tw_take p l]
theorem tw_drop (p : D.Entry → Bool) : ∀ l : List D.Entry, l.drop (l.takeWhile p).length = l.dropWhile p
  | [] => rfl
  | x :: l => by
    rw [List.takeWhile_cons, List.dropWhile_cons]
    cases p x with
    | false => rfl
    | true => simp only [if_true, List.length_cons, List.drop_succ_cons]; rw [tw_drop p l]
theorem t_spec_l17Set (b : D.Bundle) (x : D.Entry) (h : b.sz ≤ 34359738360) : m_spec_l17Set b x = some (setF b x) := by
  have h' := h
  simp only [D.Bundle.sz] at h
  unfold m_spec_l17Set setF
  rw [gd_t (by omega), bd_s, gd_t (by omega), bd_s]
  by_cases hf : findEntryF b x.Site x.Handle ≥ 0
  · rw [decide_eq_true hf, cond_true, cond_true]
    have := findP_lt (show 0 ≤ findP (fun e => e.Site == x.Site && e.Handle == x.Handle) 0 b.Entries from hf)
    have hlt : (findEntryF b x.Site x.Handle).toNat < b.Entries.length := by unfold findEntryF; omega
    rw [atq_int hf hlt]; rfl
  · rw [decide_eq_false hf, cond_false, cond_false]
    have htl : (b.Entries.takeWhile fun e => lessF e x.Site x.Handle).length ≤ b.Entries.length := (List.takeWhile_sublist _).length_le
    rw [itr0 (fun i s => i ≤ (b.Entries.takeWhile fun e => lessF e x.Site x.Handle).length ∧ s = (i : Int)) b.Entries.length (some ((b.Entries.takeWhile fun e => lessF e x.Site x.Handle).length : Int)) (s := (0 : Int)) (by omega) ⟨by omega, rfl⟩ (fun i s rec hi hv => by
      obtain ⟨h1, rfl⟩ := hv
      rcases tw_step _ _ i h1 with ⟨g1, g2, g3⟩ | ⟨g1, g2⟩
      · refine .inl ⟨_, ⟨by omega, rfl⟩, ?_⟩
        simp only [lt_i hi, cond_true, atq_nat hi, bd_s, g2]
        rw [wrap64_id (by omega) (by omega)]; rfl
      · refine .inr ?_
        simp only [lt_i hi, cond_true, atq_nat hi, bd_s, g2 hi, cond_false]
        rw [← g1]) (fun s rec hv => by
      obtain ⟨h1, rfl⟩ := hv
      have e : b.Entries.length = (b.Entries.takeWhile fun e => lessF e x.Site x.Handle).length := by omega
      simp only [ge_i, cond_false, bd_s]
      rw [← e]), bd_s]
    rw [gd_t ⟨by omega, by simpa using htl⟩, gd_t ⟨by omega, by simpa using htl⟩, gd_t (by unfold apOk; simp; omega), gd_t (by unfold apOk; simp; omega), gd_t (by unfold apOk; simp; omega)]
    rw [Int.toNat_natCast, List.nil_append]
    rw [tw_take, tw_drop]

-- spec_MergeBundles
def m_spec_MergeBundles (a0 : D.Bundle) (a1 : D.Bundle) : Option (D.Bundle × Bool) := bd (gd (a0.sz ≤ 34359738368) (some (bundleOkF a0))) fun (z0 : (Bool)) => bd (bif (!z0) then (some (true)) else (bd (gd (a1.sz ≤ 34359738368) (some (bundleOkF a1))) fun (z2 : (Bool)) => some (!z2))) fun (z1 : (Bool)) => bif z1 then (bd (gd (a0.sz ≤ 34359738368) (some a0)) fun (z2 : (D.Bundle)) => some (z2, false)) else (bd (gd (a0.sz ≤ 34359738368) (some a0)) fun (z2 : (D.Bundle)) => bd (itr (α := (List D.Entry)) FUEL (fun rec4 (i4 : (Nat × List D.Entry)) => bif (decide ((↑i4.fst : Int) < (↑a1.Entries.length : Int))) then (bd (bd (atq (a1.Entries) (↑i4.fst : Int)) fun (z6 : (D.Entry)) => bd (gd ((D.Bundle.mk i4.snd).sz ≤ 34359738368) (some (findEntryF (D.Bundle.mk i4.snd) z6.Site z6.Handle))) fun (z7 : (Int)) => bd (bif (decide (z7 < (0 : Int))) then (some (true)) else (bd (atq (i4.snd) z7) fun (z9 : (D.Entry)) => bif (decide (z6.Version > z9.Version)) then (some (true)) else (bd (atq (i4.snd) z7) fun (z10 : (D.Entry)) => bif (z6.Version == z10.Version) then (some (z6.Deleted)) else (some (false))))) fun (z8 : (Bool)) => bif z8 then (bd (gd ((D.Bundle.mk i4.snd).sz ≤ 34359738360) (some (setF (D.Bundle.mk i4.snd) z6))) fun (z9 : (D.Bundle)) => some (z9.Entries)) else (some (i4.snd))) fun (z5 : (List D.Entry)) => rec4 (((i4.fst + 1), z5))) else (some (i4.snd))) (0, z2.Entries)) fun (z3 : (List D.Entry)) => bd (gd ((D.Bundle.mk z3).sz ≤ 34359738368) (some (bundleOkF (D.Bundle.mk z3)))) fun (z4 : (Bool)) => bif (!z4) then (bd (gd (a0.sz ≤ 34359738368) (some a0)) fun (z5 : (D.Bundle)) => some (z5, false)) else (some (D.Bundle.mk z3, true)))
theorem newer_get {l : List D.Entry} {k : Int} (h0 : 0 ≤ k) (h1 : k.toNat < l.length) (x : D.Entry) : (bd (atq l k) fun (z9 : D.Entry) => bif (decide (x.Version > z9.Version)) then (some (true)) else (bd (atq l k) fun (z10 : D.Entry) => bif (x.Version == z10.Version) then (some (x.Deleted)) else (some (false)))) = some (newerE x (l.getD k.toNat default)) := by
  rw [atq_int h0 h1, List.getD, List.getElem?_eq_getElem h1, Option.getD_some]
  simp only [bd_s]
  unfold newerE
  cases decide (x.Version > l[k.toNat].Version) <;> cases (x.Version == l[k.toNat].Version) <;> rfl
theorem t_spec_MergeBundles (a b : D.Bundle) (h : a.sz ≤ 34359738368 ∧ b.sz ≤ 34359738368) : m_spec_MergeBundles a b = some (mergeF a b) := by
  unfold m_spec_MergeBundles mergeF
  rw [gd_t h.1, bd_s]
  cases ha : bundleOkF a with
  | false => rw [gd_t h.1]; rfl
  | true =>
    rw [gd_t h.2]
    cases hb : bundleOkF b with
    | false => rw [gd_t h.1]; rfl
    | true =>
      obtain ⟨la, sa⟩ := ok_srt ha
      obtain ⟨lb, sb⟩ := ok_srt hb
      rw [gd_t h.1]
      simp only [Bool.not_true, cond_false, cond_true, bd_s, Bool.and_self]
      rw [foldLoopL (l := b.Entries) (s0 := a.Entries) (fun o x => mergeL o [x]) (fun i o => srt o ∧ o.length ≤ 20 + i) (fun o => some o) (by omega) ⟨sa, by omega⟩ (fun i o hi hv => by
          have := merge_len _ o [b.Entries[i]] (Nat.le_refl _)
          exact ⟨ins_srt hv.1, by simp only [List.length_singleton] at this; omega⟩) (fun rec i o hi hv => by
          obtain ⟨hs, hl⟩ := hv
          simp only [lt_i hi, cond_true, atq_nat hi, bd_s]
          rw [gd_t (by simp only [D.Bundle.sz]; omega), bd_s, ← step_ins hs]
          have hk : (bif decide (findEntryF ⟨o⟩ b.Entries[i].Site b.Entries[i].Handle < 0) then some true else bd (atq o (findEntryF ⟨o⟩ b.Entries[i].Site b.Entries[i].Handle)) fun (z9 : D.Entry) => bif (decide (b.Entries[i].Version > z9.Version)) then (some (true)) else (bd (atq o (findEntryF ⟨o⟩ b.Entries[i].Site b.Entries[i].Handle)) fun (z10 : D.Entry) => bif (b.Entries[i].Version == z10.Version) then (some (b.Entries[i].Deleted)) else (some (false)))) = some (decide (findEntryF ⟨o⟩ b.Entries[i].Site b.Entries[i].Handle < 0) || newerE b.Entries[i] (o.getD (findEntryF ⟨o⟩ b.Entries[i].Site b.Entries[i].Handle).toNat default)) := by
            by_cases hf : findEntryF ⟨o⟩ b.Entries[i].Site b.Entries[i].Handle < 0
            · rw [decide_eq_true hf]; rfl
            · rw [decide_eq_false hf, cond_false]
              have := findP_lt (show 0 ≤ findP (fun (e : D.Entry) => e.Site == b.Entries[i].Site && e.Handle == b.Entries[i].Handle) 0 o from by unfold findEntryF at hf; simp only at hf; omega)
              rw [newer_get (by omega) (by unfold findEntryF; simp only; omega)]; rfl
          rw [hk, bd_s]
          cases (decide (findEntryF ⟨o⟩ b.Entries[i].Site b.Entries[i].Handle < 0) || newerE b.Entries[i] (o.getD (findEntryF ⟨o⟩ b.Entries[i].Site b.Entries[i].Handle).toNat default)) with
          | false => rfl
          | true => rw [cond_true, cond_true, gd_t (by simp only [D.Bundle.sz]; omega)]; rfl) (fun rec o _ => by simp only [ge_i, cond_false])]
      rw [fold_merge _ _ sb, bd_s]
      have hm := merge_len _ a.Entries b.Entries (Nat.le_refl _)
      rw [gd_t (by simp only [D.Bundle.sz]; omega), bd_s]
      cases bundleOkF ⟨mergeL a.Entries b.Entries⟩ <;> rfl

-- spec_UnionBundle
def m_spec_UnionBundle (a0 : D.World) : Option (D.Bundle × Bool) := bd (gd (WOk a0) (some (reachF a0))) fun (z0 : (List Int)) => nx (itr (α := (D.Bundle × Bool ⊕ List D.Entry)) FUEL (fun rec2 (i2 : (Nat × List D.Entry)) => bif (decide ((↑i2.fst : Int) < (↑z0.length : Int))) then (bd (atq z0 (↑i2.fst : Int)) fun (z3 : (Int)) => bd (atq (a0.Devices) z3) fun (z4 : (D.Device)) => bd (gd ((D.Bundle.mk i2.snd).sz ≤ 34359738368 ∧ z4.Bundle.sz ≤ 34359738368) (some (mergeF (D.Bundle.mk i2.snd) z4.Bundle))) fun (z5 : (D.Bundle × Bool)) => bif (!z5.snd) then (some (.inl (D.Bundle.mk [], false))) else (rec2 (((i2.fst + 1), z5.fst.Entries)))) else (some (.inr (i2.snd)))) (0, [])) fun (z1 : (List D.Entry)) => some (D.Bundle.mk z1, true)
theorem wok_of {w : D.World} (h : w.sz ≤ 34359738368) : WOk w := by
  simp only [D.World.sz] at h
  unfold WOk; omega
theorem reach_in {w : D.World} {i : Nat} (hi : i < (reachF w).length) : ∃ d : Nat, (reachF w)[i] = (d : Int) ∧ d < w.Devices.length := by
  have hm : (reachF w)[i] ∈ reachF w := List.getElem_mem hi
  unfold reachF at hm
  obtain ⟨d, hd, e⟩ := List.mem_map.1 hm
  have := (List.mem_filter.1 hd).1
  exact ⟨d, e.symm, by simpa using this⟩
theorem dev_sz {w : D.World} {d : Nat} (hd : d < w.Devices.length) : w.Devices[d].Bundle.sz ≤ w.sz := by
  have := le_sumI (f := D.Device.sz) hd
  simp only [D.World.sz, D.Device.sz, D.Bundle.sz] at *; omega
theorem union_loop {w : D.World} (h : w.sz ≤ 34359738368) {F : (Nat × List D.Entry → Option ((D.Bundle × Bool) ⊕ List D.Entry)) → Nat × List D.Entry → Option ((D.Bundle × Bool) ⊕ List D.Entry)}
    (hF : ∀ rec i o (hi : i < (reachF w).length), o.length ≤ 20 → (devAt w (reachF w)[i]).Bundle.sz ≤ 34359738368 → atq w.Devices (reachF w)[i] = some (devAt w (reachF w)[i]) → F rec (i, o) = bif (mergeF ⟨o⟩ (devAt w (reachF w)[i]).Bundle).2 then rec (i + 1, (mergeF ⟨o⟩ (devAt w (reachF w)[i]).Bundle).1.Entries) else some (.inl (⟨[]⟩, false)))
    (hE : ∀ rec o, F rec ((reachF w).length, o) = some (.inr o)) : nx (itr FUEL F (0, [])) (fun o => some (⟨o⟩, true)) = some (unionF w) := by
  have hlen : (reachF w).length ≤ w.Devices.length := by unfold reachF; exact range_len
  have hd : w.Devices.length ≤ 34359738368 := by simp only [D.World.sz] at h; omega
  rw [itr0 (fun i s => ∃ o, s = (i, o) ∧ o.length ≤ 20 ∧ uS w ((reachF w).drop i) o = uS w (reachF w) []) (reachF w).length (some (uS w (reachF w) [])) (s := (0, [])) (by omega) ⟨[], rfl, by simp, rfl⟩ (fun i s rec hi hv => by
    obtain ⟨o, rfl, h1, h2⟩ := hv
    obtain ⟨d, e, hdl⟩ := reach_in hi
    have hdev : devAt w (reachF w)[i] = w.Devices[d] := by rw [e]; unfold devAt; rw [Int.toNat_natCast, List.getD, List.getElem?_eq_getElem hdl, Option.getD_some]
    have hb := dev_sz hdl
    rw [hF rec i o hi h1 (by rw [hdev]; omega) (by rw [hdev, e]; exact atq_nat hdl)]
    rw [List.drop_eq_getElem_cons hi] at h2
    simp only [uS] at h2
    cases hm : (mergeF ⟨o⟩ (devAt w (reachF w)[i]).Bundle).2 with
    | true =>
      rw [hm, cond_true] at h2
      exact .inl ⟨_, ⟨_, rfl, (ok_srt (merge_ok hm)).1, h2⟩, rfl⟩
    | false =>
      rw [hm, cond_false] at h2
      exact .inr (by rw [cond_false, h2])) (fun s rec hv => by
    obtain ⟨o, rfl, h1, h2⟩ := hv
    rw [List.drop_length] at h2
    rw [hE, ← h2]; rfl)]
  unfold unionF
  cases uS w (reachF w) [] <;> rfl
theorem t_spec_UnionBundle (w : D.World) (h : w.sz ≤ 34359738368) : m_spec_UnionBundle w = some (unionF w) := by
  unfold m_spec_UnionBundle
  rw [gd_t (wok_of h), bd_s]
  exact union_loop h (fun rec i o hi h1 h2 h3 => by
    simp only [lt_i hi, cond_true, atq_nat hi, bd_s, h3]
    rw [gd_t ⟨by simp only [D.Bundle.sz]; omega, h2⟩, bd_s]
    cases (mergeF ⟨o⟩ (devAt w (reachF w)[i]).Bundle).2 <;> rfl) (fun rec o => by simp only [ge_i, cond_false])

-- impl_entryBefore
def m_impl_entryBefore (a0 : D.Entry) (a1 : D.Entry) : Option (Bool) := bd (bif (decide (a0.Site < a1.Site)) then (some (true)) else (bif (a0.Site == a1.Site) then (some (decide (a0.Handle < a1.Handle))) else (some (false)))) fun (z0 : (Bool)) => some z0
theorem t_impl_entryBefore (a b : D.Entry) : m_impl_entryBefore a b = some (kless a b) := by
  unfold m_impl_entryBefore kless
  cases decide (a.Site < b.Site) <;> cases (a.Site == b.Site) <;> rfl

-- impl_IsBundle
def m_impl_IsBundle (a0 : D.Bundle) : Option (Bool) := bif (decide ((↑a0.Entries.length : Int) > (20 : Int))) then (some (false)) else (nx (itr (α := (Bool ⊕ PUnit)) FUEL (fun rec1 (i1 : (Nat)) => bif (decide ((↑i1 : Int) < (↑a0.Entries.length : Int))) then (bd (atq (a0.Entries) (↑i1 : Int)) fun (z2 : (D.Entry)) => bd (bif (!inR z2.Site (0 : Int) (2147483646 : Int)) then (some (true)) else (bif (!inR z2.Handle (0 : Int) (1000000 : Int)) then (some (true)) else (bif (!inR z2.Version (1 : Int) (1000000 : Int)) then (some (true)) else (bif (decide ((↑i1 : Int) > (0 : Int))) then (bd (atq (a0.Entries) (IntKind.i64.wrap ((↑i1 : Int) - (1 : Int)))) fun (z4 : (D.Entry)) => some (!kless z4 z2)) else (some (false)))))) fun (z3 : (Bool)) => bif z3 then (some (.inl (false))) else (rec1 (i1 + 1))) else (some (.inr ()))) 0) fun (z0 : (PUnit)) => some (true))
theorem t_impl_IsBundle (b : D.Bundle) (h : b.sz ≤ 34359738368) : m_impl_IsBundle b = some (bundleOkF b) := by
  simp only [D.Bundle.sz] at h
  unfold m_impl_IsBundle bundleOkF
  by_cases h20 : (b.Entries.length : Int) > 20
  · rw [decide_eq_true h20, show decide ((b.Entries.length : Int) ≤ 20) = false from decide_eq_false (by omega)]; rfl
  · rw [decide_eq_false h20, show decide ((b.Entries.length : Int) ≤ 20) = true from decide_eq_true (by omega), cond_false]
    rw [anyLoopI (l := b.Entries) (badE b.Entries) (.inl false) (.inr ()) (by omega) (fun rec i hi => by
      simp only [lt_i hi, cond_true, atq_nat hi, bd_s]
      rw [bad_step hi h (q := fun x => kless x b.Entries[i]) (fun x => rfl)]
      rfl) (fun rec => by simp only [ge_i, cond_false])]
    cases anyI (badE b.Entries) 0 b.Entries <;> rfl

-- impl_copyBundle
def m_impl_copyBundle (a0 : D.Bundle) : Option (D.Bundle) := gd (apOk [] a0.Entries) (some (D.Bundle.mk ([] ++ a0.Entries)))
theorem t_impl_copyBundle (b : D.Bundle) (h : b.sz ≤ 34359738368) : m_impl_copyBundle b = some (b) := by
  simp only [D.Bundle.sz] at h
  unfold m_impl_copyBundle
  rw [gd_t (by unfold apOk; simp only [List.length_nil]; omega)]; rfl

-- impl_MergeBundles
def m_impl_MergeBundles (a0 : D.Bundle) (a1 : D.Bundle) : Option (D.Bundle × Bool) := bd (gd (a0.sz ≤ 34359738368) (some (bundleOkF a0))) fun (z0 : (Bool)) => bd (bif (!z0) then (some (true)) else (bd (gd (a1.sz ≤ 34359738368) (some (bundleOkF a1))) fun (z2 : (Bool)) => some (!z2))) fun (z1 : (Bool)) => bif z1 then (bd (gd (a0.sz ≤ 34359738368) (some a0)) fun (z2 : (D.Bundle)) => some (z2, false)) else (bd (itr (α := (List D.Entry)) FUEL (fun rec3 (i3 : (Int × Int × List D.Entry)) => bd (bif (decide (i3.fst < (↑a0.Entries.length : Int))) then (some (true)) else (some (decide (i3.snd.fst < (↑a1.Entries.length : Int))))) fun (z4 : (Bool)) => bif z4 then (bd (bif (i3.snd.fst == (↑a1.Entries.length : Int)) then (some (true)) else (bif (decide (i3.fst < (↑a0.Entries.length : Int))) then (bd (atq (a0.Entries) (i3.fst)) fun (z6 : (D.Entry)) => bd (atq (a1.Entries) (i3.snd.fst)) fun (z7 : (D.Entry)) => some (kless z6 z7)) else (some (false)))) fun (z5 : (Bool)) => bif z5 then (bd (atq (a0.Entries) (i3.fst)) fun (z6 : (D.Entry)) => gd (apOk i3.snd.snd [z6]) (rec3 ((IntKind.i64.wrap (i3.fst + (1 : Int)), i3.snd.fst, i3.snd.snd ++ [z6])))) else (bd (bif (i3.fst == (↑a0.Entries.length : Int)) then (some (true)) else (bd (atq (a1.Entries) (i3.snd.fst)) fun (z7 : (D.Entry)) => bd (atq (a0.Entries) (i3.fst)) fun (z8 : (D.Entry)) => some (kless z7 z8))) fun (z6 : (Bool)) => bif z6 then (bd (atq (a1.Entries) (i3.snd.fst)) fun (z7 : (D.Entry)) => gd (apOk i3.snd.snd [z7]) (rec3 ((i3.fst, IntKind.i64.wrap (i3.snd.fst + (1 : Int)), i3.snd.snd ++ [z7])))) else (bd (atq (a0.Entries) (i3.fst)) fun (z7 : (D.Entry)) => bd (atq (a1.Entries) (i3.snd.fst)) fun (z8 : (D.Entry)) => bd (bd (bif (decide (z8.Version > z7.Version)) then (some (true)) else (bif (z8.Version == z7.Version) then (some (z8.Deleted)) else (some (false)))) fun (z10 : (Bool)) => bif z10 then (some (z8.Site, z8.Handle, z8.Version, z8.Deleted)) else (some (z7.Site, z7.Handle, z7.Version, z7.Deleted))) fun (z9 : (Int × Int × Int × Bool)) => gd (apOk i3.snd.snd [D.Entry.mk z9.fst z9.snd.fst z9.snd.snd.fst z9.snd.snd.snd]) (rec3 ((IntKind.i64.wrap (i3.fst + (1 : Int)), IntKind.i64.wrap (i3.snd.fst + (1 : Int)), i3.snd.snd ++ [D.Entry.mk z9.fst z9.snd.fst z9.snd.snd.fst z9.snd.snd.snd])))))) else (some (i3.snd.snd))) (((0 : Int), (0 : Int), []))) fun (z2 : (List D.Entry)) => bd (gd ((D.Bundle.mk z2).sz ≤ 34359738368) (some (bundleOkF (D.Bundle.mk z2)))) fun (z3 : (Bool)) => bif (!z3) then (bd (gd (a0.sz ≤ 34359738368) (some a0)) fun (z4 : (D.Bundle)) => some (z4, false)) else (some (D.Bundle.mk z2, true)))
theorem drop_at {l : List D.Entry} {i : Nat} (h : i < l.length) : l.drop i = l[i] :: l.drop (i + 1) := List.drop_eq_getElem_cons h
theorem newer_pick (e f : D.Entry) {X : Int × Int × Int × Bool → Option (List D.Entry)} : (bd (bd (bif (decide (f.Version > e.Version)) then (some (true)) else (bif (f.Version == e.Version) then (some (f.Deleted)) else (some (false)))) fun (z10 : Bool) => bif z10 then (some (f.Site, f.Handle, f.Version, f.Deleted)) else (some (e.Site, e.Handle, e.Version, e.Deleted))) X) = X ((pickE e f).Site, (pickE e f).Handle, (pickE e f).Version, (pickE e f).Deleted) := by
  unfold pickE newerE
  cases decide (f.Version > e.Version) <;> cases (f.Version == e.Version) <;> cases hd : f.Deleted <;> simp [bd, hd]
theorem t_impl_MergeBundles (a b : D.Bundle) (h : a.sz ≤ 34359738368 ∧ b.sz ≤ 34359738368) : m_impl_MergeBundles a b = some (mergeF a b) := by
  unfold m_impl_MergeBundles mergeF
  rw [gd_t h.1, bd_s]
  cases ha : bundleOkF a with
  | false => rw [gd_t h.1]; rfl
  | true =>
    rw [gd_t h.2]
    cases hb : bundleOkF b with
    | false => rw [gd_t h.1]; rfl
    | true =>
      obtain ⟨la, sa⟩ := ok_srt ha
      obtain ⟨lb, sb⟩ := ok_srt hb
      simp only [Bool.not_true, cond_false, cond_true, bd_s, Bool.and_self]
      have hm := merge_len _ a.Entries b.Entries (Nat.le_refl _)
      rw [itr0 (fun n s => ∃ (i k : Nat) (o : List D.Entry), s = ((i : Int), (k : Int), o) ∧ i ≤ a.Entries.length ∧ k ≤ b.Entries.length ∧ n ≤ i + k ∧ o ++ mergeL (a.Entries.drop i) (b.Entries.drop k) = mergeL a.Entries b.Entries) (a.Entries.length + b.Entries.length) (some (mergeL a.Entries b.Entries)) (s := ((0 : Int), (0 : Int), ([] : List D.Entry))) (by omega) ⟨0, 0, [], rfl, by omega, by omega, by omega, rfl⟩ (fun n s rec hn hv => by
          obtain ⟨i, k, o, rfl, hi, hk, hik, ho⟩ := hv
          have hol : o.length ≤ 40 := by have := congrArg List.length ho; rw [List.length_append] at this; omega
          have hap : ∀ x : D.Entry, apOk o [x] := fun x => by unfold apOk; simp only [List.length_singleton]; omega
          have wi : IntKind.i64.wrap ((i : Int) + 1) = ((i + 1 : Nat) : Int) := by rw [wrap64_id (by omega) (by omega)]; rfl
          have wk : IntKind.i64.wrap ((k : Int) + 1) = ((k + 1 : Nat) : Int) := by rw [wrap64_id (by omega) (by omega)]; rfl
          rcases Nat.lt_or_ge i a.Entries.length with hi' | hi'
          · have ne1 : ((i : Int) == (a.Entries.length : Int)) = false := by simp; omega
            rw [drop_at hi'] at ho
            rcases Nat.lt_or_ge k b.Entries.length with hk' | hk'
            · have ne2 : ((k : Int) == (b.Entries.length : Int)) = false := by simp; omega
              rw [drop_at hk', merge_cons] at ho
              simp only [lt_i hi', lt_i hk', cond_true, bd_s, ne2, cond_false, atq_nat hi', atq_nat hk', ne1, gd_t (hap _), wi, wk, newer_pick]
              cases h1 : kless a.Entries[i] b.Entries[k] with
              | true =>
                rw [h1, cond_true, ← drop_at hk'] at ho
                exact .inl ⟨_, ⟨i + 1, k, o ++ [a.Entries[i]], rfl, by omega, hk, by omega, by rw [← ho]; simp⟩, rfl⟩
              | false =>
                cases h2 : kless b.Entries[k] a.Entries[i] with
                | true =>
                  rw [h1, cond_false, h2, cond_true, ← drop_at hi'] at ho
                  exact .inl ⟨_, ⟨i, k + 1, o ++ [b.Entries[k]], rfl, hi, by omega, by omega, by rw [← ho]; simp⟩, rfl⟩
                | false =>
                  rw [h1, cond_false, h2, cond_false] at ho
                  exact .inl ⟨_, ⟨i + 1, k + 1, o ++ [pickE a.Entries[i] b.Entries[k]], rfl, by omega, by omega, by omega, by rw [← ho]; simp⟩, rfl⟩
            · have e : k = b.Entries.length := by omega
              subst e
              rw [List.drop_length, merge_nil] at ho
              simp only [lt_i hi', cond_true, bd_s, beq_self_eq_true, atq_nat hi', gd_t (hap _), wi]
              exact .inl ⟨_, ⟨i + 1, _, o ++ [a.Entries[i]], rfl, by omega, Nat.le_refl _, by omega, by rw [List.drop_length, merge_nil, ← ho]; simp⟩, rfl⟩
          · have e : i = a.Entries.length := by omega
            subst e
            rw [List.drop_length, merge_nil0] at ho
            rcases Nat.lt_or_ge k b.Entries.length with hk' | hk'
            · have ne2 : ((k : Int) == (b.Entries.length : Int)) = false := by simp; omega
              simp only [ge_i, cond_false, lt_i hk', bd_s, cond_true, ne2, beq_self_eq_true, atq_nat hk', gd_t (hap _), wk]
              exact .inl ⟨_, ⟨_, k + 1, o ++ [b.Entries[k]], rfl, Nat.le_refl _, by omega, by omega, by rw [List.drop_length, merge_nil0, ← ho, drop_at hk']; simp⟩, rfl⟩
            · have e2 : k = b.Entries.length := by omega
              subst e2
              rw [List.drop_length, List.append_nil] at ho
              refine .inr ?_
              simp only [ge_i, cond_false, bd_s]
              rw [ho]) (fun s rec hv => by
          obtain ⟨i, k, o, rfl, hi, hk, hik, ho⟩ := hv
          have e1 : i = a.Entries.length := by omega
          have e2 : k = b.Entries.length := by omega
          subst e1; subst e2
          rw [List.drop_length, List.drop_length, merge_nil, List.append_nil] at ho
          simp only [ge_i, cond_false, bd_s]
          rw [ho])]
      rw [bd_s, gd_t (by simp only [D.Bundle.sz]; omega), bd_s, gd_t h.1]
      cases bundleOkF ⟨mergeL a.Entries b.Entries⟩ <;> rfl

-- impl_UnionBundle
def m_impl_UnionBundle (a0 : D.World) : Option (D.Bundle × Bool) := nx (bd (gd (WOk a0) (some (reachF a0))) fun (z1 : (List Int)) => itr (α := (D.Bundle × Bool ⊕ List D.Entry)) FUEL (fun rec2 (i2 : (Nat × List D.Entry)) => bif (decide ((↑i2.fst : Int) < (↑z1.length : Int))) then (bd (atq z1 (↑i2.fst : Int)) fun (z3 : (Int)) => bd (atq (a0.Devices) z3) fun (z4 : (D.Device)) => bd (gd ((D.Bundle.mk i2.snd).sz ≤ 34359738368 ∧ z4.Bundle.sz ≤ 34359738368) (some (mergeF (D.Bundle.mk i2.snd) z4.Bundle))) fun (z5 : (D.Bundle × Bool)) => bif (!z5.snd) then (some (.inl (D.Bundle.mk [], false))) else (rec2 (((i2.fst + 1), z5.fst.Entries)))) else (some (.inr (i2.snd)))) (0, [])) fun (z0 : (List D.Entry)) => some (D.Bundle.mk z0, true)
theorem t_impl_UnionBundle (w : D.World) (h : w.sz ≤ 34359738368) : m_impl_UnionBundle w = some (unionF w) := by
  unfold m_impl_UnionBundle
  rw [gd_t (wok_of h), bd_s]
  exact union_loop h (fun rec i o hi h1 h2 h3 => by
    simp only [lt_i hi, cond_true, atq_nat hi, bd_s, h3]
    rw [gd_t ⟨by simp only [D.Bundle.sz]; omega, h2⟩, bd_s]
    cases (mergeF ⟨o⟩ (devAt w (reachF w)[i]).Bundle).2 <;> rfl) (fun rec o => by simp only [ge_i, cond_false])

-- laws_markBundle
def mv_Bundle (x : D.Bundle) (k : Int) : D.Bundle × Int := (⟨(mkL mk_Entry x.Entries k).1⟩, (mkL mk_Entry x.Entries k).2)
def cv_Bundle (x : D.Bundle) : Nat := cntL cn_Entry x.Entries
theorem mv_Bundle_ok : MkOk mv_Bundle cv_Bundle := fun x k h0 h1 => by
  unfold cv_Bundle at h1
  unfold mv_Bundle cv_Bundle
  obtain ⟨k0, q0⟩ : ∃ z, z = (mkL mk_Entry x.Entries k).2 := ⟨_, rfl⟩
  have f0 := mkL_ok mk_Entry_ok x.Entries k (by omega) (by omega)
  have g0 : k0 = k + cntL cn_Entry x.Entries := q0.trans f0.1
  simp only [← q0]
  exact ⟨by omega, by first | trivial | omega⟩
theorem cv_Bundle_le (x : D.Bundle) : cv_Bundle x ≤ 16 + 16 * x.sz := by
  have := cntL_le0 (c := cn_Entry) (l := x.Entries) (fun y _ => cn_Entry_le y)
  simp only [cv_Bundle, D.Bundle.sz]
  omega
def m_laws_markBundle (a0 : D.Bundle) (a1 : Int) : Option (D.Bundle × Int) := bd (gd (MkP a0.Entries.length (cntL cn_Entry a0.Entries) a1) (some (mkL mk_Entry a0.Entries a1))) fun (z0 : (List D.Entry × Int)) => some (D.Bundle.mk z0.fst, z0.snd)
theorem t_laws_markBundle (a0 : D.Bundle) (a1 : Int) (h : MkP (a0.sz) (cv_Bundle a0) a1) : m_laws_markBundle a0 a1 = some (mv_Bundle a0 a1) := by
  obtain ⟨hs, h0, h1⟩ := h
  unfold cv_Bundle at h1
  simp only [D.Bundle.sz] at hs
  unfold m_laws_markBundle mv_Bundle
  rw [gd_t (show MkP _ _ _ from ⟨by omega, by omega, by omega⟩)]
  have f0 := mkL_ok mk_Entry_ok a0.Entries a1 (by omega) (by omega)
  obtain ⟨k0, q0⟩ : ∃ z, z = (mkL mk_Entry a0.Entries a1).2 := ⟨_, rfl⟩
  have g0 : k0 = a1 + cntL cn_Entry a0.Entries := q0.trans f0.1
  simp only [bd_s, ← q0]

-- laws_heldEntryS
def m_laws_heldEntryS (a0 : List D.Entry) (a1 : Int) : Option (Int) := nx (itr (α := (Int ⊕ Int)) FUEL (fun rec1 (i1 : (Int × Nat)) => bif (decide ((↑i1.snd : Int) < (↑a0.length : Int))) then (bd (atq a0 (↑i1.snd : Int)) fun (z2 : (D.Entry)) => bif (z2.Site != i1.fst) then (some (.inl (-(1 : Int)))) else (bd (atq a0 (↑i1.snd : Int)) fun (z3 : (D.Entry)) => bif (z3.Handle != IntKind.i64.wrap (i1.fst + (1 : Int))) then (some (.inl (-(1 : Int)))) else (bd (atq a0 (↑i1.snd : Int)) fun (z4 : (D.Entry)) => bif (z4.Version != IntKind.i64.wrap (IntKind.i64.wrap (i1.fst + (1 : Int)) + (1 : Int))) then (some (.inl (-(1 : Int)))) else (bd (atq a0 (↑i1.snd : Int)) fun (z5 : (D.Entry)) => gd ((3 : Int) ≠ (0 : Int)) (bif (!z5.Deleted == ((IntKind.i64.wrap (IntKind.i64.wrap (IntKind.i64.wrap (i1.fst + (1 : Int)) + (1 : Int)) + (1 : Int))).tmod (3 : Int) == (0 : Int))) then (some (.inl (-(1 : Int)))) else (rec1 ((IntKind.i64.wrap (IntKind.i64.wrap (IntKind.i64.wrap (IntKind.i64.wrap (i1.fst + (1 : Int)) + (1 : Int)) + (1 : Int)) + (1 : Int)), (i1.snd + 1))))))))) else (some (.inr (i1.fst)))) (a1, 0)) fun (z0 : (Int)) => some z0
theorem t_laws_heldEntryS (a0 : List D.Entry) (a1 : Int) (h : HeldP (mkL mk_Entry) (cntL cn_Entry) a0 a1 ∧ a0.length ≤ 1152921504606846976) : m_laws_heldEntryS a0 a1 = some (a1 + (cntL cn_Entry a0 : Nat)) := by
  obtain ⟨h, hl⟩ := h
  unfold m_laws_heldEntryS
  rw [heldLoop mk_Entry_ok h (by omega) (fun rec k i hi hP => by
    obtain ⟨p1, p2, x, p3, _⟩ := hP
    have p2 : k + 4 ≤ 4611686018427387904 := by simpa [cn_Entry] using p2
    have e0 : a0[i].Site = k := by rw [p3]; rfl
    have e1 : a0[i].Handle = IntKind.i64.wrap (k + 1) := by rw [p3]; rfl
    have e2 : a0[i].Version = IntKind.i64.wrap (IntKind.i64.wrap (k + 1) + 1) := by rw [p3]; rfl
    have e3 : a0[i].Deleted = ((IntKind.i64.wrap (IntKind.i64.wrap (IntKind.i64.wrap (k + 1) + 1) + 1)).tmod 3 == 0) := by rw [p3]; rfl
    simp only [lt_i hi, cond_true, atq_nat hi, bd_s, e0, e1, e2, e3, bne_self_eq_false, cond_false]
    rw [gd_t (by omega), wrap1 p1 (by omega), wrap1 (k := k + 1) (by omega) (by omega), wrap1 (k := k + 1 + 1) (by omega) (by omega), wrap1 (k := k + 1 + 1 + 1) (by omega) (by omega)]
    rw [beq_self_eq_true, Bool.not_true, cond_false]
    congr 2; unfold cn_Entry; omega) (fun rec k => by simp only [ge_i, cond_false])]
  rfl

-- laws_heldBundle
def m_laws_heldBundle (a0 : D.Bundle) (a1 : Int) : Option (Int) := bd (gd (HeldP (mkL mk_Entry) (cntL cn_Entry) a0.Entries a1 ∧ a0.Entries.length ≤ 1152921504606846976) (some (a1 + (↑(cntL cn_Entry a0.Entries) : Int)))) fun (z0 : (Int)) => bif (decide (z0 < (0 : Int))) then (some (-(1 : Int))) else (some z0)
theorem t_laws_heldBundle (a0 : D.Bundle) (a1 : Int) (h : HeldP mv_Bundle cv_Bundle a0 a1 ∧ a0.sz ≤ 1152921504606846976) : m_laws_heldBundle a0 a1 = some (a1 + (cv_Bundle a0 : Nat)) := by
  obtain ⟨⟨p1, p2, x, p3, p4⟩, hz⟩ := h
  unfold m_laws_heldBundle
  have hh : HeldP (mkL mk_Entry) (cntL cn_Entry) a0.Entries a1 := ⟨p1, p2, x.Entries, by rw [p3]; rfl, p4⟩
  rw [gd_t ⟨hh, hz⟩, bd_s, show decide (a1 + ((cntL cn_Entry a0.Entries : Nat) : Int) < 0) = false from decide_eq_false (by omega)]
  rfl

-- laws_FnExactUnionBundle
def m_laws_FnExactUnionBundle (a0 : D.World) : Option (Bool) := bd (gd (SzP D.World.ok a0 (1048576 : Int)) (some (szI a0.sz (1048576 : Int)))) fun (z0 : (Int)) => bif (decide (z0 < (0 : Int))) then (some (true)) else (bd (gd (a0.sz ≤ 1048576) (some a0)) fun (z1 : (D.World)) => bd (gd (z1.sz ≤ 34359738368) (some (unionF z1))) fun (z2 : (D.Bundle × Bool)) => bd (gd (a0.sz ≤ 1048576) (some a0)) fun (z3 : (D.World)) => bd (gd (z3.sz ≤ 34359738368) (some (unionF z3))) fun (z4 : (D.Bundle × Bool)) => bd (gd (EqZ z4.fst.sz z4.fst z2.fst) (some (true))) fun (z5 : (Bool)) => bd (bif (!z5) then (some (true)) else (some (!z4.snd == z2.snd))) fun (z6 : (Bool)) => bif z6 then (some (false)) else (bd (gd (a0.sz ≤ 1048576) (some a0)) fun (z7 : (D.World)) => bd (gd (EqZ z3.sz z3 z7) (some (true))) fun (z8 : (Bool)) => bif (!z8) then (some (false)) else (bd (gd (MkP z3.sz (cv_World z3) (1 : Int)) (some (mv_World z3 (1 : Int)))) fun (z9 : (D.World × Int)) => bd (bif (decide (z9.snd < (0 : Int))) then (some (true)) else (bd (gd (EqZ z4.fst.sz z4.fst z2.fst) (some (true))) fun (z11 : (Bool)) => bif (!z11) then (some (true)) else (some (!z4.snd == z2.snd)))) fun (z10 : (Bool)) => bif z10 then (some (false)) else (bd (gd (MkP z4.fst.sz (cv_Bundle z4.fst) (1 : Int)) (some (mv_Bundle z4.fst (1 : Int)))) fun (z11 : (D.Bundle × Int)) => bd (gd (HeldP mv_Bundle cv_Bundle z11.fst (1 : Int) ∧ z11.fst.sz ≤ 1152921504606846976) (some ((1 : Int) + (↑(cv_Bundle z11.fst) : Int)))) fun (z12 : (Int)) => bif (decide (z12 < (0 : Int))) then (some (false)) else (bif (z12 != z11.snd) then (some (false)) else (bd (gd (a0.sz ≤ 1048576) (some a0)) fun (z13 : (D.World)) => bd (gd (z13.sz ≤ 34359738368) (some (unionF z13))) fun (z14 : (D.Bundle × Bool)) => bd (gd (EqZ z14.fst.sz z14.fst z2.fst) (some (true))) fun (z15 : (Bool)) => bd (bif (!z15) then (some (true)) else (some (!z14.snd == z2.snd))) fun (z16 : (Bool)) => bif z16 then (some (false)) else (bd (gd (HeldP mv_Bundle cv_Bundle z11.fst (1 : Int) ∧ z11.fst.sz ≤ 1152921504606846976) (some ((1 : Int) + (↑(cv_Bundle z11.fst) : Int)))) fun (z17 : (Int)) => bif (decide (z17 < (0 : Int))) then (some (false)) else (bif (z17 != z11.snd) then (some (false)) else (some (true))))))))))
theorem union_len (w : D.World) : (unionF w).1.sz ≤ 20 := by
  have key : ∀ (ds : List Int) (o : List D.Entry), o.length ≤ 20 → ∀ r, uS w ds o = r → (match r with | .inl r => r.1.Entries.length ≤ 20 | .inr o => o.length ≤ 20) := by
    intro ds
    induction ds with
    | nil => intro o ho r hr; subst hr; exact ho
    | cons d ds ih =>
      intro o ho r hr
      simp only [uS] at hr
      cases hm : (mergeF ⟨o⟩ (devAt w d).Bundle).2 with
      | true => rw [hm, cond_true] at hr; exact ih _ (ok_srt (merge_ok hm)).1 r hr
      | false => rw [hm, cond_false] at hr; subst hr; simp
  have := key (reachF w) [] (by simp) _ rfl
  unfold unionF
  simp only [D.Bundle.sz]
  revert this
  cases uS w (reachF w) [] <;> exact fun h => h
theorem t_laws_FnExactUnionBundle (w : D.World) (h : w.ok) : m_laws_FnExactUnionBundle w = some true := by
  unfold m_laws_FnExactUnionBundle
  rw [gd_t (show SzP D.World.ok w _ from ⟨h, by unfold szP; omega⟩), bd_s]
  rcases sz_law (n := w.sz) with ⟨hs, e⟩ | e
  · rw [e, bifF (decide_eq_false (by omega))]
    have hc := cv_World_le w
    have hm := mv_World_ok w 1 (by omega) (by omega)
    have l0 := union_len w
    simp only [gd_t hs, bd_s, gd_t (show w.sz ≤ 34359738368 by omega)]
    generalize unionF w = u at l0 ⊢
    have hcu := cv_Bundle_le u.1
    obtain ⟨n1, n2⟩ := mv_Bundle_ok u.1 1 (by omega) (by omega)
    have hzl : (mv_Bundle u.1 1).1.sz = u.1.sz := by simp only [D.Bundle.sz, mv_Bundle, mkL_len]
    have hH : HeldP mv_Bundle cv_Bundle (mv_Bundle u.1 1).1 1 ∧ (mv_Bundle u.1 1).1.sz ≤ 1152921504606846976 := ⟨⟨by omega, by rw [n2]; omega, u.1, rfl, n2.symm⟩, by rw [hzl]; omega⟩
    have m1 : decide ((mv_World w 1).2 < 0) = false := decide_eq_false (by omega)
    have b1 : (u.2 == u.2) = true := beq_self_eq_true _
    simp only [gd_t (show EqZ u.1.sz u.1 u.1 from ⟨rfl, by omega⟩), gd_t (show EqZ w.sz w w from ⟨rfl, by omega⟩), bd_s, Bool.not_true, Bool.not_false, cond_false,
      gd_t (show MkP w.sz (cv_World w) 1 from ⟨by omega, by omega, by omega⟩), m1, gd_t (show MkP u.1.sz (cv_Bundle u.1) 1 from ⟨by omega, by omega, by omega⟩), gd_t hH, n2, b1,
      show decide (1 + (cv_Bundle u.1 : Int) < 0) = false from decide_eq_false (by omega),
      show (1 + (cv_Bundle u.1 : Int) != (mv_Bundle u.1 1).2) = false by rw [n1, bne_self_eq_false]]
  · rw [e]; rfl

end
end Go.VK
