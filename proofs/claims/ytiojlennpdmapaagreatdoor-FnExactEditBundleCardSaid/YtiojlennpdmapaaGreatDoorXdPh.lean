import Derived.Test.YtiojlennpdmapaaGreatDoorXdPg
import Derived.Test.YtiojlennpdmapaaGreatDoorXdQ
/-
  Printed by wip/tools (own work of this part): models of functions, walks over the value kit, and proofs.
-/
set_option linter.unusedVariables false
set_option linter.unusedSimpArgs false
set_option maxRecDepth 100000
set_option maxHeartbeats 4000000
namespace Go.VK
open Go.RowKit Go.Proofs
noncomputable section
open EV (itr)
theorem if_or {c d : Bool} : (bif c then some true else some d) = some (c || d) := by cases c <;> rfl
theorem set_same {α : Type} [Inhabited α] {l : List α} {i : Nat} (h : i < l.length) : l.set i (l.getD i default) = l := by
  rw [List.getD, List.getElem?_eq_getElem h]; simp
end
end Go.VK
