import Derived.Test.YtffpnfmhcpcaaaaGreatDoorXgPl
import Derived.Test.YtffpnfmhcpcaaaaGreatDoorXgQ
/-
  Printed by wip/tools (own work of this part): models of functions, walks over the value kit, and proofs.
-/
set_option linter.unusedVariables false
set_option linter.unusedSimpArgs false
set_option maxRecDepth 100000
set_option maxHeartbeats 4000000
namespace Go.VK
open Go.RowKit Go.Proofs
noncomputable section
open EV (itr)
theorem WOk.of' {w:D.World}(h:w.sz≤34359738368):WOk w:=by
 simp only[D.World.sz] at h
 unfold WOk
 omega
theorem t_spec_l34There (w:D.World)(d:Int)(h:w.sz≤34359738368):m_spec_l34There w d=some (worldOkF w&&hasDevF w d):=by
 unfold m_spec_l34There
 rw[gd_t h,bd_s,hasDev_in (WOk.of' h),bb_and,bd_s]
end
end Go.VK
