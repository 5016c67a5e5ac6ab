import Derived.Test.YtajiimgjfnnjlaaGreatDoorXkPb
import Derived.Test.YtajiimgjfnnjlaaGreatDoorXkQ
/- Printed by wip/tools: models, walks, proofs. -/
set_option linter.unusedVariables false
set_option linter.unusedSimpArgs false
set_option maxRecDepth 100000
set_option maxHeartbeats 4000000
namespace Go.VK
open Go.RowKit Go.Proofs
noncomputable section
open EV (bK)
theorem aC2 (b:D.aAN)(h:b.sz≤34359738368):Ej b=some (b):=by
 simp only[D.aAN.sz] at h
 unfold Ej
 rw[aC (by unfold aU;simp only[List.length_nil];omega)];rfl
theorem Uv (b:D.aAN)(h:b.sz≤34359738368):tL b=some (b):=by
 simp only[D.aAN.sz] at h
 unfold tL
 rw[aC (by unfold aU;simp only[List.length_nil];omega)];rfl
end
end Go.VK
