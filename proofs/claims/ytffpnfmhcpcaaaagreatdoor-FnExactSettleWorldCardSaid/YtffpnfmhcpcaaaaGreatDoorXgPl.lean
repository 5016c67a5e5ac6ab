import Derived.Test.YtffpnfmhcpcaaaaGreatDoorXgPi
import Derived.Test.YtffpnfmhcpcaaaaGreatDoorXgQ
/-
  Printed by wip/tools (own work of this part): models of functions, walks over the value kit, and proofs.
-/
set_option linter.unusedVariables false
set_option linter.unusedSimpArgs false
set_option maxRecDepth 100000
set_option maxHeartbeats 4000000
namespace Go.VK
open Go.RowKit Go.Proofs
noncomputable section
open EV (bW)
theorem Vn (b:List Int)(h:b.length≤34359738360):sW b=some (xS b):=by
 unfold sW xS
 rw[bB1 (l:=b) IntKind.i64.wrap (by simp;omega) (fun rec i s hi hs=>by simp only[bD hi,cond_true,aG hi,bd_s,fM hs]) (fun rec s=>by simp only[bE,cond_false])];rfl
theorem Vo (b:List Int)(h:b.length≤34359738360):tQ b=some (xS b):=by
 unfold tQ xS
 rw[bB1 (l:=b) IntKind.i64.wrap (by simp;omega) (fun rec i s hi hs=>by simp only[bD hi,cond_true,aG hi,bd_s,fM hs]) (fun rec s=>by simp only[bE,cond_false])];rfl
end
end Go.VK
