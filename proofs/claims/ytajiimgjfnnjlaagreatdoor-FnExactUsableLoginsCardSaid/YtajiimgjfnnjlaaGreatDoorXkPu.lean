import Derived.Test.YtajiimgjfnnjlaaGreatDoorXkPl
import Derived.Test.YtajiimgjfnnjlaaGreatDoorXkQ
/- Printed by wip/tools: models, walks, proofs. -/
set_option linter.unusedVariables false
set_option linter.unusedSimpArgs false
set_option maxRecDepth 100000
set_option maxHeartbeats 4000000
namespace Go.VK
open Go.RowKit Go.Proofs
noncomputable section
open EV (bK)
theorem Pv (s:D.aAL)(n:ByteArray)(k:Int)(h:n.size≤34359738300):qN s n k=some (dM s n k):=by unfold qN;rw[aC h,bd_s,aC (by simp)];rfl
theorem Pw (s:D.aAL)(n:ByteArray)(k:Int)(h:n.size≤34359738300):rC s n k=some (dM s n k):=by unfold rC;rw[aC h,bd_s,aC (by simp)];rfl
theorem Px (s:D.Site)(i:Int)(h:s.Accounts.length≤34359738368):qL s i=some (aH s i):=by
 unfold qL
 exact uQ (l:=s.Accounts) (fun a=>a.Id==i) (by omega) (fun rec j hj=>by simp only[bB hj,cond_true,aD hj,bd_s]) (fun rec=>by simp only[bC,cond_false])
theorem Py (s:D.Site)(i:Int)(h:s.Accounts.length≤34359738368):qY s i=some (aH s i):=by
 unfold qY
 exact uQ (l:=s.Accounts) (fun a=>a.Id==i) (by omega) (fun rec j hj=>by simp only[bB hj,cond_true,aD hj,bd_s]) (fun rec=>by simp only[bC,cond_false])
theorem aI0 {L:List D.aAM}(h30:30<L.length)(hL:L.length≤34359738301):gd (fU L ((lV L:Nat):Int)) (gd (fU L (IntKind.i64.wrap (((lV L:Nat):Int)+1))) (gd (aU [] (List.take (Int.toNat ((lV L:Nat):Int)) L)) (gd (aU ([]++List.take (Int.toNat ((lV L:Nat):Int)) L) (List.drop (Int.toNat (IntKind.i64.wrap (((lV L:Nat):Int)+1))) L)) (some ([]++List.take (Int.toNat ((lV L:Nat):Int)) L++List.drop (Int.toNat (IntKind.i64.wrap (((lV L:Nat):Int)+1))) L)))))=some (Dk L):=by
 have hs:=aL2 (l:=L) (by omega)
 have e:IntKind.i64.wrap (((lV L:Nat):Int)+1)=((lV L+1:Nat):Int):=by rw[bA (by omega) (by omega)];rfl
 rw[e,aC ⟨by omega,by omega⟩,aC ⟨by omega,by omega⟩,aC (by unfold aU;simp;omega),aC (by unfold aU;simp;omega),Int.toNat_natCast,Int.toNat_natCast]
 unfold Dk
 rw[decide_eq_true (show(L.length:Int)>30 by omega)];rfl
theorem aO0 (l:List D.aAM)(x:D.aAM)(h:l.length≤34359738300):(D.aAI.mk (Dk (l++[x]))).sz≤34359738368:=by
 have:=aQd (l++[x])
 simp only[List.length_append,List.length_singleton] at this
 simp only[D.aAI.sz];omega
theorem aL7 {L:List D.aAM}(h:¬30<L.length):Dk L=L:=by
 unfold Dk
 rw[decide_eq_false (show ¬(L.length:Int)>30 by omega)];rfl
theorem Vb (m:D.aAI)(k a t:Int)(hz:m.sz≤34359738300):tT m k a t=some (Ub m k a t):=by
 have h1:m.sz≤34359738368:=by omega
 have hm:m.Notices.length≤34359738300:=hz
 have hL:(m.Notices++[(⟨k,a,t,false⟩:D.aAM)]).length=m.Notices.length+1:=by simp
 have hn:=aO0 m.Notices ⟨k,a,t,false⟩ hm
 unfold tT Ub
 simp only[aC h1,bd_s,iA (show m.Notices.length≤34359738368 by omega)]
 generalize hg:m.Notices++[(⟨k,a,t,false⟩:D.aAM)]=L at*
 by_cases h30:30<L.length
 ·rw[decide_eq_true (show(L.length:Int)>30 by omega),aTm (l:=L) (fun i=>some i) (fun i=>((0:Int),i)) (by omega) (fun rec i hi=>by simp only[bB hi,cond_true,aD hi,bd_s]) (fun rec=>by simp only[bC,cond_false]),cond_true,bd_s,aI0 h30 (by omega),bd_s,aC hn,bd_s]
  cases bR m<;>cases bR ⟨Dk L⟩<;>rfl
 ·rw[decide_eq_false (show ¬(L.length:Int)>30 by omega),cond_false,bd_s]
  rw[aL7 h30] at hn ⊢
  rw[aC hn,bd_s]
  cases bR m<;>cases bR ⟨L⟩<;>rfl
theorem Vd (m:D.aAI)(k a t:Int)(hz:m.sz≤34359738300):tF m k a t=some (Ub m k a t):=by
 have h1:m.sz≤34359738368:=by omega
 have hm:m.Notices.length≤34359738300:=hz
 have hL:(m.Notices++[(⟨k,a,t,false⟩:D.aAM)]).length=m.Notices.length+1:=by simp
 have hn:=aO0 m.Notices ⟨k,a,t,false⟩ hm
 unfold tF Ub
 rw[aC (by unfold aU;simp;omega),List.nil_append,iA (show m.Notices.length≤34359738368 by omega)]
 simp only[aC h1,bd_s]
 generalize hg:m.Notices++[(⟨k,a,t,false⟩:D.aAM)]=L at*
 by_cases h30:30<L.length
 ·have e:=aIv (l:=L) (F:=fun rec (i2:Int×Int)=>bif (decide (i2.2≥(0:Int))) then(bd (bd (aW L (i2.2)) fun z4=>bif (z4.Seen) then(some (i2.2)) else(some (i2.1))) fun z3=>rec ((z3,IntKind.i64.wrap (i2.2-(1:Int))))) else(some (i2.1))) (fun rec q i hi=>by
   simp only[decide_eq_true (show((i:Int)≥0) by omega),cond_true,aD hi,bd_s,xO,bA (show(-9223372036854775808:Int)≤(i:Int)-1 by omega) (show(i:Int)-1≤9223372036854775807 by omega)]) (fun rec q=>rfl) L.length FUEL 0 (Nat.le_refl _) (by have:=sI;omega)
  rw[List.take_length] at e
  rw[decide_eq_true (show(L.length:Int)>30 by omega),cond_true,bA (by omega) (by omega),e,←aL1,bd_s,aI0 h30 (by omega),bd_s,aC hn,bd_s]
  cases bR m<;>cases bR ⟨Dk L⟩<;>rfl
 ·rw[decide_eq_false (show ¬(L.length:Int)>30 by omega),cond_false,bd_s]
  rw[aL7 h30] at hn ⊢
  rw[aC hn,bd_s]
  cases bR m<;>cases bR ⟨L⟩<;>rfl
end
end Go.VK
