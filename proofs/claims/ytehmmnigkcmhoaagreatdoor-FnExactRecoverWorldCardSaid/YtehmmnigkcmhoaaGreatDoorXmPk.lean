import Derived.Test.YtehmmnigkcmhoaaGreatDoorXmPj
import Derived.Test.YtehmmnigkcmhoaaGreatDoorXmQ
/- Printed by wip/tools: models, walks, proofs. -/
set_option linter.unusedVariables false
set_option linter.unusedSimpArgs false
set_option maxRecDepth 100000
set_option maxHeartbeats 4000000
namespace Go.VK
open Go.RowKit Go.Proofs
noncomputable section
open EV (cB)
theorem aH5 (k:D.aAL):aGt k=some (vB k):=rfl
theorem aC8 (k:D.aAL):aCg k=some (vB k):=rfl
theorem Ko (k:D.aAL):oM k=some (gZ k):=by
 unfold oM gZ
 rw[aG (by simp),bd_s]
 cases aGh [k.aAN]<;>cases cZ k.Epoch 0 1000000<;>cases cZ k.Limit 1 10<;>rfl
theorem Kq (k:D.aAL):oO k=some (gZ k):=by
 unfold oO gZ
 cases aGh [k.aAN]<;>cases cZ k.Epoch 0 1000000<;>cases cZ k.Limit 1 10<;>rfl
end
end Go.VK
