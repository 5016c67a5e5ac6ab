import Derived.Test.YtjmlamaddedhlaaGreatDoorXrPx
import Derived.Test.YtjmlamaddedhlaaGreatDoorXrM
import Derived.Test.YtjmlamaddedhlaaGreatDoorLKatop
/- Printed by wip/tools: models, walks, proofs. -/
set_option linter.all false
set_option maxRecDepth 100000
set_option maxHeartbeats 4000000
namespace Go.VK
open Go.RowKit Go.Proofs
noncomputable section
open EV (bO)
def aUg (l:List Int):aT6 l=some (bBd l):=rfl
end
end Go.VK
