import Derived.Test.YtajiimgjfnnjlaaGreatDoorXkPg
import Derived.Test.YtajiimgjfnnjlaaGreatDoorXkQ
/- Printed by wip/tools: models, walks, proofs. -/
set_option linter.unusedVariables false
set_option linter.unusedSimpArgs false
set_option maxRecDepth 100000
set_option maxHeartbeats 4000000
namespace Go.VK
open Go.RowKit Go.Proofs
noncomputable section
open EV (bK)
theorem Ps (b:List Int)(h:b.length≤34359738360):qM b=some (aB1 b):=by
 unfold qM aB1
 rw[aT3 (l:=b) IntKind.i64.wrap (by simp;omega) (fun rec i s hi hs=>by simp only[bB hi,cond_true,aD hi,bd_s,iA hs]) (fun rec s=>by simp only[bC,cond_false])];rfl
theorem Pt (b:List Int)(h:b.length≤34359738360):rA b=some (aB1 b):=by
 unfold rA aB1
 rw[aT3 (l:=b) IntKind.i64.wrap (by simp;omega) (fun rec i s hi hs=>by simp only[bB hi,cond_true,aD hi,bd_s,iA hs]) (fun rec s=>by simp only[bC,cond_false])];rfl
theorem vY (k:Int)(s:ByteArray)(h:s.size≤34359738300):iX k s=some (fB k s):=by
 have hb:=dH s
 unfold iX fB
 rw[aOy,aC (by omega),bd_s,aC (by rw[aOx];omega),bd_s,aLw (Tw _ _).1]
theorem vZ (k:Int)(s:ByteArray)(h:s.size≤34359738300):jA k s=some (fB k s):=by
 have hb:=dH s
 unfold jA fB
 rw[aOy,aC (by omega),bd_s,aC (by rw[aOx];omega),bd_s]
theorem T9 (s:ByteArray)(h:s.size≤34359738300):zK s=some (fF s):=by unfold zK;rw[aC h];rfl
theorem U0 (s:ByteArray)(h:s.size≤34359738300):zT s=some (fF s):=by unfold zT;rw[aC h];rfl
end
end Go.VK
