import Derived.Test.YtaaefkcjgkpckaaGreatDoorXoPj
import Derived.Test.YtaaefkcjgkpckaaGreatDoorXoM
/- Printed by wip/tools: models, walks, proofs. -/
set_option linter.unusedVariables false
set_option linter.unusedSimpArgs false
set_option maxRecDepth 100000
set_option maxHeartbeats 4000000
namespace Go.VK
open Go.RowKit Go.Proofs
noncomputable section
open EV (dL)
theorem aHg (k:D.aAS):aGp k=some (aE9 k):=rfl
end
end Go.VK
