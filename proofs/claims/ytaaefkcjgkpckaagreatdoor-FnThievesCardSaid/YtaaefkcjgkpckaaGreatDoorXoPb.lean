import Derived.Test.YtaaefkcjgkpckaaGreatDoorXoPa
/- Printed by wip/tools: models, walks, proofs. -/
set_option linter.unusedVariables false
set_option linter.unusedSimpArgs false
set_option maxRecDepth 100000
set_option maxHeartbeats 4000000
namespace Go.VK
open Go.RowKit Go.Proofs
noncomputable section
open EV (dL)
theorem aGu (w:D.World)(d:Int):Li w d=some (iE w d):=by
 unfold Li iE
 show bd (bif decide (0≤d) then _ else _) _=_
 cases decide (0≤d)<;>rfl
end
end Go.VK
