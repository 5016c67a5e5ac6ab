import Derived.Test.YtajiimgjfnnjlaaGreatDoorXkPu
import Derived.Test.YtajiimgjfnnjlaaGreatDoorXkQ
/- Printed by wip/tools: models, walks, proofs. -/
set_option linter.unusedVariables false
set_option linter.unusedSimpArgs false
set_option maxRecDepth 100000
set_option maxHeartbeats 4000000
namespace Go.VK
open Go.RowKit Go.Proofs
noncomputable section
open EV (bK)
theorem Aw (s:D.aAD)(i:Int)(h:s.Credentials.length≤34359738368):kM s i=some (aR s i):=by
 unfold kM
 exact uQ (l:=s.Credentials) (fun a=>a.Handle==i) (by omega) (fun rec j hj=>by simp only[bB hj,cond_true,aD hj,bd_s]) (fun rec=>by simp only[bC,cond_false])
theorem Ay (s:D.aAD)(i:Int)(h:s.Credentials.length≤34359738368):kT s i=some (aR s i):=by
 unfold kT
 exact uQ (l:=s.Credentials) (fun a=>a.Handle==i) (by omega) (fun rec j hj=>by simp only[bB hj,cond_true,aD hj,bd_s]) (fun rec=>by simp only[bC,cond_false])
end
end Go.VK
