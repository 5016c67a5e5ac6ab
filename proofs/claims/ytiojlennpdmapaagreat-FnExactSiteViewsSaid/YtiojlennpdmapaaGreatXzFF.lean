/-
  Printed by wip/tools (own work of this part): models of functions, walks over the value kit, and proofs.
-/
import Derived.Test.YtiojlennpdmapaaGreatEWp
import Derived.Test.YtiojlennpdmapaaGreatXzS
set_option linter.unusedVariables false
set_option linter.unusedSimpArgs false
set_option maxRecDepth 100000
set_option maxHeartbeats 4000000
namespace Go.VK
open Go.RowKit Go.Proofs
def WOk (w : D.World) : Prop := w.Devices.length ≤ 34359738368 ∧ w.Stolen.length ≤ 34359738368 ∧ w.Cloud.Log.length ≤ 34359738368 ∧ w.Sites.length ≤ 34359738368
instance (w : D.World) : Decidable (WOk w) := inferInstanceAs (Decidable (_ ∧ _))
theorem WOk.of {w : D.World} (h : w.sz ≤ 1048576) : WOk w := by
  simp only [D.World.sz, D.Cloud.sz] at h
  unfold WOk
  omega
def bytesOk (b : List Int) : Prop := b.length ≤ 34359738368 ∧ b.all (fun z => decide (0 ≤ z) && decide (z ≤ 255)) = true
instance (b : List Int) : Decidable (bytesOk b) := inferInstanceAs (Decidable (_ ∧ _))
def SOk (s : D.Site) : Prop := s.Name.size ≤ 34359738368 ∧ s.Accounts.length ≤ 34359738368 ∧ s.Book.Open.length ≤ 34359738368 ∧ ∀ a ∈ s.Accounts, a.Credentials.length ≤ 34359738368
instance (s : D.Site) : Decidable (SOk s) := inferInstanceAs (Decidable (_ ∧ _))
def WOk2 (w : D.World) : Prop := WOk w ∧ w.Mail.Notices.length ≤ 34359738368 ∧ w.Hosts.length ≤ 34359738368 ∧ ∀ s ∈ w.Sites, SOk s
instance (w : D.World) : Decidable (WOk2 w) := inferInstanceAs (Decidable (_ ∧ _))
theorem le_sum {α : Type} {g : α → Nat} {x : α} : ∀ {l : List α}, x ∈ l → g x ≤ (l.map g).sum
  | y :: r, h => by
    rw [List.map_cons, List.sum_cons]
    rcases List.mem_cons.1 h with rfl | h
    · omega
    · have := le_sum (g := g) h; omega
theorem SOk.of {s : D.Site} (h : s.sz ≤ 1048576) : SOk s := by
  simp only [D.Site.sz] at h
  refine ⟨by omega, by omega, by omega, fun a ha => ?_⟩
  have := le_sum (g := D.Account.sz) ha
  simp only [D.Account.sz] at this h
  omega
theorem WOk2.of {w : D.World} (h : w.sz ≤ 1048576) : WOk2 w := by
  refine ⟨WOk.of h, ?_, ?_, fun s hs => SOk.of ?_⟩
  · simp only [D.World.sz] at h; omega
  · simp only [D.World.sz] at h; omega
  · have := le_sum (g := D.Site.sz) hs
    simp only [D.World.sz] at h; omega
def hasSiteF (w : D.World) (i : Int) : Bool := decide (0 ≤ i) && decide (i < w.Sites.length)

end Go.VK
