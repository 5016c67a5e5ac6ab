import Derived.Test.YtaaefkcjgkpckaaGreatDoorXoPb
import Derived.Test.YtaaefkcjgkpckaaGreatDoorXoQ
/- Printed by wip/tools: models, walks, proofs. -/
set_option linter.unusedVariables false
set_option linter.unusedSimpArgs false
set_option maxRecDepth 100000
set_option maxHeartbeats 4000000
namespace Go.VK
open Go.RowKit Go.Proofs
noncomputable section
open EV (bM)
end
end Go.VK
