import Derived.Test.YtaaefkcjgkpckaaGreatDoorXoPyb
import Derived.Test.YtaaefkcjgkpckaaGreatDoorXoM
import Derived.Test.YtaaefkcjgkpckaaGreatDoorLKatob
/- Printed by wip/tools: models, walks, proofs. -/
set_option linter.unusedVariables false
set_option linter.unusedSimpArgs false
set_option maxRecDepth 100000
set_option maxHeartbeats 4000000
namespace Go.VK
open Go.RowKit Go.Proofs
noncomputable section
open EV (dL)
theorem aTu (l:List Int):aTg l=some (bA2 l):=rfl
theorem aYj (l:List Int)(i:Int)(h:0≤i):aMg l i=some (atF l i):=by
 unfold aMg atF
 by_cases hi:i<(l.length:Int)
 ·rw[decide_eq_true hi,cond_true,cond_true,rQ h (by omega)];rfl
 ·rw[decide_eq_false hi];rfl
end
end Go.VK
