import Derived.Test.YtefkjglmpmakcaaGreatDoorXlPu
import Derived.Test.YtefkjglmpmakcaaGreatDoorXlQ
/- Printed by wip/tools: models, walks, proofs. -/
set_option linter.unusedVariables false
set_option linter.unusedSimpArgs false
set_option maxRecDepth 100000
set_option maxHeartbeats 4000000
namespace Go.VK
open Go.RowKit Go.Proofs
noncomputable section
open EV (bS)
theorem aHp (s e:Int):Gd s e=some (gH s e):=by unfold Gd;rw[aB (by simp)];rfl
theorem aHq (s e:Int):Gq s e=some (gH s e):=by unfold Gq;rw[aB (by simp)];rfl
theorem Q8 (d:D.Device)(l:List D.aAB)(k:Int)(h:d.sz≤34359738368∧l.length≤34359738368):xQ d l k=some (qE d l k):=by
 unfold xQ qE
 simp only[aB h.1,aB h.2,bd_s]
 cases cO l<;>cases fJ l d.Log<;>cases decide (bC l<d.Epoch)<;>cases dG k<;>rfl
theorem Q9 (d:D.Device)(l:List D.aAB)(k:Int)(h:d.sz≤34359738368∧l.length≤34359738368):yH d l k=some (qE d l k):=by
 unfold yH qE
 simp only[aB h.1,aB h.2,bd_s]
 cases cO l<;>cases fJ l d.Log<;>cases decide (bC l<d.Epoch)<;>cases dG k<;>rfl
end
end Go.VK
