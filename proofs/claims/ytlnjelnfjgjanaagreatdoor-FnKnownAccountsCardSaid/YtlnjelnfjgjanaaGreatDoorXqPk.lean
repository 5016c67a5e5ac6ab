import Derived.Test.YtlnjelnfjgjanaaGreatDoorXqPj
import Derived.Test.YtlnjelnfjgjanaaGreatDoorXqM
/- Printed by wip/tools: models, walks, proofs. -/
set_option linter.all false
set_option maxRecDepth 100000
set_option maxHeartbeats 4000000
namespace Go.VK
open Go.RowKit Go.Proofs
noncomputable section
open EV (cB)
def aJf (k:D.aAR):aIo k=some (Ky k):=rfl
end
end Go.VK
