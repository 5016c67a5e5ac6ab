import Derived.Test.YtfllllgehgablaaGreatDoorXsPx
import Derived.Test.YtfllllgehgablaaGreatDoorXsM
/- Printed by wip/tools: models, walks, proofs. -/
set_option linter.all false
set_option maxRecDepth 100000
set_option maxHeartbeats 4000000
namespace Go.VK
open Go.RowKit Go.Proofs
noncomputable section
open EV (bU)
def Xm (w:D.World)(d:Int)(h:w.sz<=34359738368):xH w d=some (mY w d):=by
 unfold xH mY
 simp only[aB h,bd_s]
 cases ht:eD w d 0 with
 |false=>rfl
 |true=>
  simp only[bf,ab,aQg ht,bd_s,da]
  cases dU w d<;>rfl
end
end Go.VK
