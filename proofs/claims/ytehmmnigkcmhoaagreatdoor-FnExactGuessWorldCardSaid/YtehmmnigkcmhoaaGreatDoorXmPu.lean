import Derived.Test.YtehmmnigkcmhoaaGreatDoorXmPk
import Derived.Test.YtehmmnigkcmhoaaGreatDoorXmQ
/- Printed by wip/tools: models, walks, proofs. -/
set_option linter.unusedVariables false
set_option linter.unusedSimpArgs false
set_option maxRecDepth 100000
set_option maxHeartbeats 4000000
namespace Go.VK
open Go.RowKit Go.Proofs
noncomputable section
open EV (cB)
theorem aN2 {L:List D.aAM}(h30:30<L.length)(hL:L.length≤34359738301):gd (kY L ((oG L:Nat):Int)) (gd (kY L (IntKind.i64.wrap (((oG L:Nat):Int)+1))) (gd (bL [] (List.take (Int.toNat ((oG L:Nat):Int)) L)) (gd (bL ([]++List.take (Int.toNat ((oG L:Nat):Int)) L) (List.drop (Int.toNat (IntKind.i64.wrap (((oG L:Nat):Int)+1))) L)) (some ([]++List.take (Int.toNat ((oG L:Nat):Int)) L++List.drop (Int.toNat (IntKind.i64.wrap (((oG L:Nat):Int)+1))) L)))))=some (Cw L):=by
 have hs:=aRj (l:=L) (by omega)
 have e:IntKind.i64.wrap (((oG L:Nat):Int)+1)=((oG L+1:Nat):Int):=by rw[bN (by omega) (by omega)];rfl
 rw[e,aG ⟨by omega,by omega⟩,aG ⟨by omega,by omega⟩,aG (by unfold bL;simp;omega),aG (by unfold bL;simp;omega),Int.toNat_natCast,Int.toNat_natCast]
 unfold Cw
 rw[decide_eq_true (show(L.length:Int)>30 by omega)];rfl
theorem aUf (l:List D.aAM)(x:D.aAM)(h:l.length≤34359738300):(D.aAI.mk (Cw (l++[x]))).sz≤34359738368:=by
 have:=aNs (l++[x])
 simp only[List.length_append,List.length_singleton] at this
 simp only[D.aAI.sz];omega
theorem aRr {L:List D.aAM}(h:¬30<L.length):Cw L=L:=by
 unfold Cw
 rw[decide_eq_false (show ¬(L.length:Int)>30 by omega)];rfl
theorem Yh (m:D.aAI)(k a t:Int)(hz:m.sz≤34359738300):vT m k a t=some (Ib m k a t):=by
 have h1:m.sz≤34359738368:=by omega
 have hm:m.Notices.length≤34359738300:=hz
 have hL:(m.Notices++[(⟨k,a,t,false⟩:D.aAM)]).length=m.Notices.length+1:=by simp
 have hn:=aUf m.Notices ⟨k,a,t,false⟩ hm
 unfold vT Ib
 simp only[aG h1,bd_s,lJ (show m.Notices.length≤34359738368 by omega)]
 generalize hg:m.Notices++[(⟨k,a,t,false⟩:D.aAM)]=L at*
 by_cases h30:30<L.length
 ·rw[decide_eq_true (show(L.length:Int)>30 by omega),aZq (l:=L) (fun i=>some i) (fun i=>((0:Int),i)) (by omega) (fun rec i hi=>by simp only[bG hi,cond_true,aD hi,bd_s]) (fun rec=>by simp only[bH,cond_false]),cond_true,bd_s,aN2 h30 (by omega),bd_s,aG hn,bd_s]
  cases dU m<;>cases dU ⟨Cw L⟩<;>rfl
 ·rw[decide_eq_false (show ¬(L.length:Int)>30 by omega),cond_false,bd_s]
  rw[aRr h30] at hn ⊢
  rw[aG hn,bd_s]
  cases dU m<;>cases dU ⟨L⟩<;>rfl
theorem Yi (m:D.aAI)(k a t:Int)(hz:m.sz≤34359738300):vJ m k a t=some (Ib m k a t):=by
 have h1:m.sz≤34359738368:=by omega
 have hm:m.Notices.length≤34359738300:=hz
 have hL:(m.Notices++[(⟨k,a,t,false⟩:D.aAM)]).length=m.Notices.length+1:=by simp
 have hn:=aUf m.Notices ⟨k,a,t,false⟩ hm
 unfold vJ Ib
 rw[aG (by unfold bL;simp;omega),List.nil_append,lJ (show m.Notices.length≤34359738368 by omega)]
 simp only[aG h1,bd_s]
 generalize hg:m.Notices++[(⟨k,a,t,false⟩:D.aAM)]=L at*
 by_cases h30:30<L.length
 ·have e:=aNv (l:=L) (F:=fun rec (i2:Int×Int)=>bif (decide (i2.2≥(0:Int))) then(bd (bd (aV L (i2.2)) fun z4=>bif (z4.Seen) then(some (i2.2)) else(some (i2.1))) fun z3=>rec ((z3,IntKind.i64.wrap (i2.2-(1:Int))))) else(some (i2.1))) (fun rec q i hi=>by
   simp only[decide_eq_true (show((i:Int)≥0) by omega),cond_true,aD hi,bd_s,kL,bN (show(-9223372036854775808:Int)≤(i:Int)-1 by omega) (show(i:Int)-1≤9223372036854775807 by omega)]) (fun rec q=>rfl) L.length FUEL 0 (Nat.le_refl _) (by have:=nQ;omega)
  rw[List.take_length] at e
  rw[decide_eq_true (show(L.length:Int)>30 by omega),cond_true,bN (by omega) (by omega),e,←aRi,bd_s,aN2 h30 (by omega),bd_s,aG hn,bd_s]
  cases dU m<;>cases dU ⟨Cw L⟩<;>rfl
 ·rw[decide_eq_false (show ¬(L.length:Int)>30 by omega),cond_false,bd_s]
  rw[aRr h30] at hn ⊢
  rw[aG hn,bd_s]
  cases dU m<;>cases dU ⟨L⟩<;>rfl
end
end Go.VK
