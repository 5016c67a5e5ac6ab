import Derived.Test.YtlnjelnfjgjanaaGreatXpPyb
import Derived.Test.YtlnjelnfjgjanaaGreatXpM
import Derived.Test.YtlnjelnfjgjanaaGreatLKatoq
/- Printed by wip/tools: models, walks, proofs. -/
set_option linter.unusedVariables false
set_option linter.unusedSimpArgs false
set_option maxRecDepth 100000
set_option maxHeartbeats 4000000
namespace Go.VK
open Go.RowKit Go.Proofs
noncomputable section
open EV (bT)
theorem aTl (l:List Int):aS6 l=some (bAx l):=rfl
end
end Go.VK
