import Derived.Test.YtffpnfmhcpcaaaaGreatDoorXgPi
import Derived.Test.YtffpnfmhcpcaaaaGreatDoorXgQ
/-
  Printed by wip/tools (own work of this part): models of functions, walks over the value kit, and proofs.
-/
set_option linter.unusedVariables false
set_option linter.unusedSimpArgs false
set_option maxRecDepth 100000
set_option maxHeartbeats 4000000
namespace Go.VK
open Go.RowKit Go.Proofs
noncomputable section
open EV (itr)
theorem t_spec_BytesToInts (b:List Int)(h:b.length≤34359738360):m_spec_BytesToInts b=some (b2iF b):=by
 unfold m_spec_BytesToInts b2iF
 rw[mapR1 (l:=b) IntKind.i64.wrap (by simp;omega) (fun rec i s hi hs=>by simp only[lt_i hi,cond_true,atq_nat hi,bd_s,gd_ap1 hs]) (fun rec s=>by simp only[ge_i,cond_false])];rfl
theorem t_impl_BytesToInts (b:List Int)(h:b.length≤34359738360):m_impl_BytesToInts b=some (b2iF b):=by
 unfold m_impl_BytesToInts b2iF
 rw[mapR1 (l:=b) IntKind.i64.wrap (by simp;omega) (fun rec i s hi hs=>by simp only[lt_i hi,cond_true,atq_nat hi,bd_s,gd_ap1 hs]) (fun rec s=>by simp only[ge_i,cond_false])];rfl
end
end Go.VK
