import Derived.Test.YtaaefkcjgkpckaaGreatDoorXoPu
import Derived.Test.YtaaefkcjgkpckaaGreatDoorXoQ
/- Printed by wip/tools: models, walks, proofs. -/
set_option linter.unusedVariables false
set_option linter.unusedSimpArgs false
set_option maxRecDepth 100000
set_option maxHeartbeats 4000000
namespace Go.VK
open Go.RowKit Go.Proofs
noncomputable section
open EV (bM)
theorem aDm (s e:Int):Ed s e=some (bI s e):=by unfold Ed;rw[aA (by simp)];rfl
theorem Zt (d:D.Device)(l:List D.aAB)(k:Int)(h:d.sz≤34359738368∧l.length≤34359738368):xA d l k=some (pV d l k):=by
 unfold xA pV
 simp only[aA h.1,aA h.2,bd_s]
 cases aT l<;>cases dI l d.Log<;>cases decide (aN l<d.Epoch)<;>cases bJ k<;>rfl
end
end Go.VK
