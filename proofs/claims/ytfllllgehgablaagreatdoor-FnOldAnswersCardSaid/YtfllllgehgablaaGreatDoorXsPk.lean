import Derived.Test.YtfllllgehgablaaGreatDoorXsPj
import Derived.Test.YtfllllgehgablaaGreatDoorXsM
/- Printed by wip/tools: models, walks, proofs. -/
set_option linter.all false
set_option maxRecDepth 100000
set_option maxHeartbeats 4000000
namespace Go.VK
open Go.RowKit Go.Proofs
noncomputable section
open EV (bU)
def aJz (k:D.aAV):aI9 k=some (Ub k):=rfl
end
end Go.VK
