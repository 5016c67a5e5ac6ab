import Derived.Test.YtehmmnigkcmhoaaGreatDoorXmPa
import Derived.Test.YtehmmnigkcmhoaaGreatDoorXmQ
/- Printed by wip/tools: models, walks, proofs. -/
set_option linter.unusedVariables false
set_option linter.unusedSimpArgs false
set_option maxRecDepth 100000
set_option maxHeartbeats 4000000
namespace Go.VK
open Go.RowKit Go.Proofs
noncomputable section
open EV (cB)
theorem aHt (b:D.aAH)(h:b.sz≤34359738368):Ja b=some (b):=by
 simp only[D.aAH.sz] at h
 unfold Ja
 rw[aG (by unfold bL;simp only[List.length_nil];omega)];rfl
theorem Ya (b:D.aAH)(h:b.sz≤34359738368):vL b=some (b):=by
 simp only[D.aAH.sz] at h
 unfold vL
 rw[aG (by unfold bL;simp only[List.length_nil];omega)];rfl
end
end Go.VK
