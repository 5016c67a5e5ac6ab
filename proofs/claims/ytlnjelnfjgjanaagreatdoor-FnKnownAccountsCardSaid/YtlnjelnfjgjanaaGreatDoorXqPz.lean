import Derived.Test.YtlnjelnfjgjanaaGreatDoorXqPx
import Derived.Test.YtlnjelnfjgjanaaGreatDoorXqM
import Derived.Test.YtlnjelnfjgjanaaGreatDoorLKatoi
import Derived.Test.YtlnjelnfjgjanaaGreatDoorLMjtop
/- Printed by wip/tools: models, walks, proofs. -/
set_option linter.all false
set_option maxRecDepth 100000
set_option maxHeartbeats 4000000
namespace Go.VK
open Go.RowKit Go.Proofs
noncomputable section
open EV (cB)
def aWw (l:List Int):aWh l=some (bD7 l):=rfl
def bBk (l:List Int)(i:Int)(h:0<=i):aO9 l i=some (atF l i):=by
 unfold aO9 atF
 by_cases hi:i<(l.length:Int)
 ·rw[ao hi,ac,ac,sN h (by omega)];rfl
 ·rw[ap hi];rfl
end
end Go.VK
