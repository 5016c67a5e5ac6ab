import Derived.Test.YtlnjelnfjgjanaaGreatXpPy
import Derived.Test.YtlnjelnfjgjanaaGreatXpM
/- Printed by wip/tools: models, walks, proofs. -/
set_option linter.unusedVariables false
set_option linter.unusedSimpArgs false
set_option maxRecDepth 100000
set_option maxHeartbeats 4000000
namespace Go.VK
open Go.RowKit Go.Proofs
noncomputable section
open EV (bT)
theorem Uz (w:D.World)(d:Int)(h:w.sz≤34359738368):wQ w d=some (qU w d):=by
 unfold wQ qU
 simp only[aB h,bd_s]
 cases ht:dU w d 0 with
 |false=>rfl
 |true=>
  simp only[Bool.not_true,cond_false,Oh ht,bd_s,Bool.true_and]
  cases dV w d<;>rfl
end
end Go.VK
