import Derived.Test.YtehmmnigkcmhoaaGreatDoorXmPk
import Derived.Test.YtehmmnigkcmhoaaGreatDoorXmQ
/- Printed by wip/tools: models, walks, proofs. -/
set_option linter.unusedVariables false
set_option linter.unusedSimpArgs false
set_option maxRecDepth 100000
set_option maxHeartbeats 4000000
namespace Go.VK
open Go.RowKit Go.Proofs
noncomputable section
open EV (cB)
theorem aNr {L:List D.aAM}(h30:30<L.length)(hL:L.length≤34359738301):gd (kY L ((oG L:Nat):Int)) (gd (kY L (IntKind.i64.wrap (((oG L:Nat):Int)+1))) (gd (bO [] (List.take (Int.toNat ((oG L:Nat):Int)) L)) (gd (bO ([]++List.take (Int.toNat ((oG L:Nat):Int)) L) (List.drop (Int.toNat (IntKind.i64.wrap (((oG L:Nat):Int)+1))) L)) (some ([]++List.take (Int.toNat ((oG L:Nat):Int)) L++List.drop (Int.toNat (IntKind.i64.wrap (((oG L:Nat):Int)+1))) L)))))=some (Cr L):=by
 have hs:=aQ9 (l:=L) (by omega)
 have e:IntKind.i64.wrap (((oG L:Nat):Int)+1)=((oG L+1:Nat):Int):=by rw[bT (by omega) (by omega)];rfl
 rw[e,aG ⟨by omega,by omega⟩,aG ⟨by omega,by omega⟩,aG (by unfold bO;simp;omega),aG (by unfold bO;simp;omega),Int.toNat_natCast,Int.toNat_natCast]
 unfold Cr
 rw[decide_eq_true (show(L.length:Int)>30 by omega)];rfl
theorem aT5 (l:List D.aAM)(x:D.aAM)(h:l.length≤34359738300):(D.aAI.mk (Cr (l++[x]))).sz≤34359738368:=by
 have:=aNh (l++[x])
 simp only[List.length_append,List.length_singleton] at this
 simp only[D.aAI.sz];omega
theorem aRh {L:List D.aAM}(h:¬30<L.length):Cr L=L:=by
 unfold Cr
 rw[decide_eq_false (show ¬(L.length:Int)>30 by omega)];rfl
theorem Yg (m:D.aAI)(k a t:Int)(hz:m.sz≤34359738300):vV m k a t=some (Hz m k a t):=by
 have h1:m.sz≤34359738368:=by omega
 have hm:m.Notices.length≤34359738300:=hz
 have hL:(m.Notices++[(⟨k,a,t,false⟩:D.aAM)]).length=m.Notices.length+1:=by simp
 have hn:=aT5 m.Notices ⟨k,a,t,false⟩ hm
 unfold vV Hz
 simp only[aG h1,bd_s,lJ (show m.Notices.length≤34359738368 by omega)]
 generalize hg:m.Notices++[(⟨k,a,t,false⟩:D.aAM)]=L at*
 by_cases h30:30<L.length
 ·rw[decide_eq_true (show(L.length:Int)>30 by omega),aZe (l:=L) (fun i=>some i) (fun i=>((0:Int),i)) (by omega) (fun rec i hi=>by simp only[bH hi,cond_true,aD hi,bd_s]) (fun rec=>by simp only[bI,cond_false]),cond_true,bd_s,aNr h30 (by omega),bd_s,aG hn,bd_s]
  cases dU m<;>cases dU ⟨Cr L⟩<;>rfl
 ·rw[decide_eq_false (show ¬(L.length:Int)>30 by omega),cond_false,bd_s]
  rw[aRh h30] at hn ⊢
  rw[aG hn,bd_s]
  cases dU m<;>cases dU ⟨L⟩<;>rfl
theorem Yh (m:D.aAI)(k a t:Int)(hz:m.sz≤34359738300):vL m k a t=some (Hz m k a t):=by
 have h1:m.sz≤34359738368:=by omega
 have hm:m.Notices.length≤34359738300:=hz
 have hL:(m.Notices++[(⟨k,a,t,false⟩:D.aAM)]).length=m.Notices.length+1:=by simp
 have hn:=aT5 m.Notices ⟨k,a,t,false⟩ hm
 unfold vL Hz
 rw[aG (by unfold bO;simp;omega),List.nil_append,lJ (show m.Notices.length≤34359738368 by omega)]
 simp only[aG h1,bd_s]
 generalize hg:m.Notices++[(⟨k,a,t,false⟩:D.aAM)]=L at*
 by_cases h30:30<L.length
 ·have e:=aNk (l:=L) (F:=fun rec (i2:Int×Int)=>bif (decide (i2.2≥(0:Int))) then(bd (bd (aV L (i2.2)) fun z4=>bif (z4.Seen) then(some (i2.2)) else(some (i2.1))) fun z3=>rec ((z3,IntKind.i64.wrap (i2.2-(1:Int))))) else(some (i2.1))) (fun rec q i hi=>by
   simp only[decide_eq_true (show((i:Int)≥0) by omega),cond_true,aD hi,bd_s,kL,bT (show(-9223372036854775808:Int)≤(i:Int)-1 by omega) (show(i:Int)-1≤9223372036854775807 by omega)]) (fun rec q=>rfl) L.length FUEL 0 (Nat.le_refl _) (by have:=nQ;omega)
  rw[List.take_length] at e
  rw[decide_eq_true (show(L.length:Int)>30 by omega),cond_true,bT (by omega) (by omega),e,←aQ8,bd_s,aNr h30 (by omega),bd_s,aG hn,bd_s]
  cases dU m<;>cases dU ⟨Cr L⟩<;>rfl
 ·rw[decide_eq_false (show ¬(L.length:Int)>30 by omega),cond_false,bd_s]
  rw[aRh h30] at hn ⊢
  rw[aG hn,bd_s]
  cases dU m<;>cases dU ⟨L⟩<;>rfl
end
end Go.VK
