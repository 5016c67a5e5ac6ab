import Derived.Test.YtiojlennpdmapaaGreatDoorXdPi
import Derived.Test.YtiojlennpdmapaaGreatDoorXdQ
/-
  Printed by wip/tools (own work of this part): models of functions, walks over the value kit, and proofs.
-/
set_option linter.unusedVariables false
set_option linter.unusedSimpArgs false
set_option maxRecDepth 100000
set_option maxHeartbeats 4000000
namespace Go.VK
open Go.RowKit Go.Proofs
noncomputable section
open EV (itr)
theorem anyI_iff {α : Type} {p : Nat → α → Bool} : ∀ (l : List α) (j : Nat), anyI p j l = true ↔ ∃ (i : Nat) (hi : i < l.length), p (j + i) l[i] = true
  | [], j => by simp [anyI]
  | x :: xs, j => by
    simp only [anyI, Bool.or_eq_true, anyI_iff xs]
    constructor
    · rintro (h | ⟨i, hi, h⟩)
      · exact ⟨0, by simp, h⟩
      · exact ⟨i + 1, by simpa using hi, by rw [show j + (i + 1) = j + 1 + i by omega]; exact h⟩
    · rintro ⟨i, hi, h⟩
      cases i with
      | zero => exact .inl h
      | succ i => exact .inr ⟨i, by simpa using hi, by rw [show j + 1 + i = j + (i + 1) by omega]; exact h⟩
end
end Go.VK
