import Derived.Test.YtjmlamaddedhlaaGreatDoorXrPj
import Derived.Test.YtjmlamaddedhlaaGreatDoorXrM
/- Printed by wip/tools: models, walks, proofs. -/
set_option linter.all false
set_option maxRecDepth 100000
set_option maxHeartbeats 4000000
namespace Go.VK
open Go.RowKit Go.Proofs
noncomputable section
open EV (bO)
def aH8 (k:D.aAP):aHn k=some (qM k):=rfl
def aDn (k:D.aAP):aDd k=some (qM k):=rfl
end
end Go.VK
