import Derived.Test.YtaaefkcjgkpckaaGreatDoorXoPr
import Derived.Test.YtaaefkcjgkpckaaGreatDoorXoQ
/- Printed by wip/tools: models, walks, proofs. -/
set_option linter.unusedVariables false
set_option linter.unusedSimpArgs false
set_option maxRecDepth 100000
set_option maxHeartbeats 4000000
namespace Go.VK
open Go.RowKit Go.Proofs
noncomputable section
open EV (bM)
theorem bEa {k:Int}{b:List Int}(hl:b.length≤34359738368){F:(List Int×Nat→Option (List Int))→List Int×Nat→Option (List Int)}
  (hF:∀rec i s (hi:i<b.length),s.length≤34359738368→F rec (s,i)=rec (s++[aXk k i b[i]],i+1)) (hE:∀rec s,F rec (s,b.length)=some s):EV.bM FUEL F ([],0)=some (oG k b):=by
 refine yM (fun i s=>i≤b.length∧s=(Fj (fun i z=>[aXk k i z]) 0 (b.take i),i)) b.length _ (by omega) ⟨by omega,by simp[Fj]⟩ (fun i s rec hi hv=> ?_) (fun s rec hv=> ?_)
 ·obtain⟨_,rfl⟩:=hv
  refine .inl ⟨_,⟨hi,rfl⟩,?_⟩
  rw[hF rec i _ hi (by rw[zF,List.length_take];omega),Y3 hi,Nat.zero_add]
 ·obtain⟨_,rfl⟩:=hv
  rw[hE,List.take_length];rfl
theorem aH8 (k:Int)(b:List Int)(h:aR b):Jh k b=some (oG k b):=by
 unfold Jh
 rw[bEa (k:=k) h.1 (fun rec i s hi hs=>by
  have e:=bAv (k:=k) i (Ie h hi)
  have h4:((256:Int)≠0)=True:=by simp
  simp only[bU hi,cond_true,aH hi,bd_s,aA (show([(i:Int)]:List Int).length≤34359738368 by simp),h4,gd_T,e,eZ hs]) (fun rec s=>by simp only[bX,cond_false])]
 rfl
theorem bHl (k:Int)(b:D.aAE):(oG k (wN b)).length≤34359738200:=by have:=R8 b;rw[zL];omega
theorem Zm (k e v:Int)(b:D.aAE)(h:b.sz≤34359738368):xB k e v b=some (wO k e v b):=by
 unfold xB wO Ye
 simp only[aA h,bd_s,aA (aQ3 b),aA (bHl (nI k e v) b)]
 cases bJ k<;>cases aW e 0 1000000<;>cases aW v 0 1000000<;>cases aP b<;>rfl
theorem Y5 (a b:D.aAC):Af a b=some (Iq a b):=by
 unfold Af Iq
 cases decide (a.Epoch>b.Epoch)<;>cases(a.Epoch==b.Epoch)<;>rfl
theorem bEb {d:D.Device}(h:d.sz≤34359738368):d.aAE.sz≤34359738368:=by simp only[D.Device.sz,D.aAE.sz] at*;omega
theorem Ti (d:D.Device)(h:d.sz≤34359738368):uY d=some (fA d):=by
 unfold uY fA
 simp only[aA h,aA (bEb h),bd_s]
 cases(wO d.Key d.Epoch (IntKind.i64.wrap (d.Version+1)) d.aAE).2<;>rfl
theorem aYd (c:D.aAH)(s:D.aAC)(h:c.sz≤34359738300∧s.sz≤34359738300):(bd (gd (c.sz≤34359738368) (some c)) fun z0=>bd (gd (c.Log.length≤34359738368) (some (aN c.Log))) fun z1=>bd (bif (s.Epoch !=z1) then some true else(bif decide ((c.History.length:Int)>0) then(bd (bA c.History (IntKind.i64.wrap ((c.History.length:Int)-1))) fun z3=>bd (some (Iq s z3)) fun z4=>bif !z4 then some true else some (decide ((c.History.length:Int)≥60))) else some (decide ((c.History.length:Int)≥60)))) fun z2=>bif z2 then some (z0,false) else bd (gd (s.sz≤34359738368) (some s)) fun z3=>gd (aO z0.History [z3]) (some (D.aAH.mk z0.Log z0.Boxes (z0.History++[z3]),true)))=some (dR c s):=by
 obtain⟨h1,h2⟩:=h
 have hz:=h1
 simp only[D.aAH.sz] at hz
 unfold dR
 simp only[aA (show c.sz≤34359738368 by omega),aA (show c.Log.length≤34359738368 by omega),aA (show s.sz≤34359738368 by omega),bd_s,eZ (show c.History.length≤34359738368 by omega)]
 by_cases h0:0<c.History.length
 ·have e2:bA c.History (IntKind.i64.wrap ((c.History.length:Int)-1))=some (c.History.getD (c.History.length-1) default):=by
   rw[aG (by omega) (by omega),zJ (by omega) (by omega)];congr 2;omega
  rw[decide_eq_true (show(c.History.length:Int)>0 by omega),e2]
  generalize c.History.getD (c.History.length-1) default=x
  simp only[bd_s,cond_true,Bool.true_and]
  cases(s.Epoch !=aN c.Log)<;>cases Iq s x<;>cases decide ((c.History.length:Int)≥60)<;>rfl
 ·rw[decide_eq_false (show ¬(c.History.length:Int)>0 by omega)]
  cases(s.Epoch !=aN c.Log)<;>cases decide ((c.History.length:Int)≥60)<;>rfl
theorem Oi (c:D.aAH)(s:D.aAC)(h:c.sz≤34359738300∧s.sz≤34359738300):Nt c s=some (dR c s):=aYd c s h
end
end Go.VK
