import Derived.Test.YtehmmnigkcmhoaaGreatDoorXmPj
import Derived.Test.YtehmmnigkcmhoaaGreatDoorXmQ
/- Printed by wip/tools: models, walks, proofs. -/
set_option linter.unusedVariables false
set_option linter.unusedSimpArgs false
set_option maxRecDepth 100000
set_option maxHeartbeats 4000000
namespace Go.VK
open Go.RowKit Go.Proofs
noncomputable section
open EV (cB)
theorem aIe (k:D.aAL):aG2 k=some (uY k):=rfl
theorem aDf (k:D.aAL):aCn k=some (uY k):=rfl
theorem Kr (k:D.aAL):oM k=some (gY k):=by
 unfold oM gY
 rw[aG (by simp),bd_s]
 cases aGp [k.aAN]<;>cases cZ k.Epoch 0 1000000<;>cases cZ k.Limit 1 10<;>rfl
theorem Kt (k:D.aAL):oO k=some (gY k):=by
 unfold oO gY
 cases aGp [k.aAN]<;>cases cZ k.Epoch 0 1000000<;>cases cZ k.Limit 1 10<;>rfl
end
end Go.VK
