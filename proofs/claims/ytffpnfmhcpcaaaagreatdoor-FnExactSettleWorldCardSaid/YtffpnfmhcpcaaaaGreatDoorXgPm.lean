import Derived.Test.YtffpnfmhcpcaaaaGreatDoorXgPl
import Derived.Test.YtffpnfmhcpcaaaaGreatDoorXgQ
/-
  Printed by wip/tools (own work of this part): models of functions, walks over the value kit, and proofs.
-/
set_option linter.unusedVariables false
set_option linter.unusedSimpArgs false
set_option maxRecDepth 100000
set_option maxHeartbeats 4000000
namespace Go.VK
open Go.RowKit Go.Proofs
noncomputable section
open EV (bW)
theorem WOk.of' {w:D.World}(h:w.sz≤34359738368):WOk w:=by
 simp only[D.World.sz] at h
 unfold WOk
 omega
theorem aEv (w:D.World)(d:Int)(h:w.sz≤34359738368):En w d=some (dS w&&dO w d):=by
 unfold En
 rw[aH h,bd_s,aPq (WOk.of' h),bC7,bd_s]
end
end Go.VK
