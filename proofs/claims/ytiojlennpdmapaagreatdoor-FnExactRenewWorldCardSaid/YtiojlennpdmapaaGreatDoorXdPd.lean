import Derived.Test.YtiojlennpdmapaaGreatDoorXdPa
import Derived.Test.YtiojlennpdmapaaGreatDoorXdQ
/-
  Printed by wip/tools (own work of this part): models of functions, walks over the value kit, and proofs.
-/
set_option linter.unusedVariables false
set_option linter.unusedSimpArgs false
set_option maxRecDepth 100000
set_option maxHeartbeats 4000000
namespace Go.VK
open Go.RowKit Go.Proofs
noncomputable section
open EV (itr)
theorem t_spec_l17Copy (b : D.Bundle) (h : b.sz ≤ 34359738368) : m_spec_l17Copy b = some (b) := by
  simp only [D.Bundle.sz] at h
  unfold m_spec_l17Copy
  rw [gd_t (by unfold apOk; simp only [List.length_nil]; omega)]; rfl
theorem t_impl_copyBundle (b : D.Bundle) (h : b.sz ≤ 34359738368) : m_impl_copyBundle b = some (b) := by
  simp only [D.Bundle.sz] at h
  unfold m_impl_copyBundle
  rw [gd_t (by unfold apOk; simp only [List.length_nil]; omega)]; rfl
end
end Go.VK
