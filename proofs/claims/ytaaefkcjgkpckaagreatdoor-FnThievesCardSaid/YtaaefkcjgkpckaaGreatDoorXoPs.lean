import Derived.Test.YtaaefkcjgkpckaaGreatDoorXoPq
import Derived.Test.YtaaefkcjgkpckaaGreatDoorXoM
/- Printed by wip/tools: models, walks, proofs. -/
set_option linter.unusedVariables false
set_option linter.unusedSimpArgs false
set_option maxRecDepth 100000
set_option maxHeartbeats 4000000
namespace Go.VK
open Go.RowKit Go.Proofs
noncomputable section
open EV (dL)
theorem bD7 {k:Int}{b:List Int}(hl:b.length≤34359738368){F:(List Int×Nat→Option (List Int))→List Int×Nat→Option (List Int)}
  (hF:∀rec i s (hi:i<b.length),s.length≤34359738368→F rec (s,i)=rec (s++[aQb k i b[i]],i+1)) (hE:∀rec s,F rec (s,b.length)=some s):EV.dL FUEL F ([],0)=some (lT k b):=by
 refine aPv (fun i s=>i≤b.length∧s=(Gj (fun i z=>[aQb k i z]) 0 (b.take i),i)) b.length _ (by omega) ⟨by omega,by simp[Gj]⟩ (fun i s rec hi hv=> ?_) (fun s rec hv=> ?_)
 ·obtain⟨_,rfl⟩:=hv
  refine .inl ⟨_,⟨hi,rfl⟩,?_⟩
  rw[hF rec i _ hi (by rw[oM,List.length_take];omega),U4 hi,Nat.zero_add]
 ·obtain⟨_,rfl⟩:=hv
  rw[hE,List.take_length];rfl
theorem aHo (k:Int)(b:List Int)(h:bF b):Ke k b=some (lT k b):=by
 unfold Ke
 rw[bD7 (k:=k) h.1 (fun rec i s hi hs=>by
  have e:=bAv (k:=k) i (Jh h hi)
  have h4:((256:Int)≠0)=True:=by simp
  simp only[dZ hi,cond_true,aR hi,bd_s,aG (show([(i:Int)]:List Int).length≤34359738368 by simp),h4,gd_T,e,iC hs]) (fun rec s=>by simp only[eD,cond_false])]
 rfl
theorem bGw (k:Int)(b:D.aAE):(lT k (nT b)).length≤34359738200:=by have:=aLw b;rw[Jp];omega
theorem Zp (k e v:Int)(b:D.aAE)(h:b.sz≤34359738368):yG k e v b=some (tJ k e v b):=by
 unfold yG tJ eU
 simp only[aG h,bd_s,aG (aFl b),aG (bGw (lQ k e v) b)]
 cases bE k<;>cases bR e 0 1000000<;>cases bR v 0 1000000<;>cases aP b<;>rfl
theorem U6 (a b:D.aAC):Au a b=some (sJ a b):=by
 unfold Au sJ
 cases decide (a.Epoch>b.Epoch)<;>cases(a.Epoch==b.Epoch)<;>rfl
theorem bD8 {d:D.Device}(h:d.sz≤34359738368):d.aAE.sz≤34359738368:=by simp only[D.Device.sz,D.aAE.sz] at*;omega
theorem Tz (d:D.Device)(h:d.sz≤34359738368):wC d=some (dF d):=by
 unfold wC dF
 simp only[aG h,aG (bD8 h),bd_s]
 cases(tJ d.Key d.Epoch (IntKind.i64.wrap (d.Version+1)) d.aAE).2<;>rfl
theorem aYb (c:D.aAB)(s:D.aAC)(h:c.sz≤34359738300∧s.sz≤34359738300):(bd (gd (c.sz≤34359738368) (some c)) fun z0=>bd (gd (c.Log.length≤34359738368) (some (aD c.Log))) fun z1=>bd (bif (s.Epoch !=z1) then some true else(bif decide ((c.History.length:Int)>0) then(bd (bT c.History (IntKind.i64.wrap ((c.History.length:Int)-1))) fun z3=>bd (some (sJ s z3)) fun z4=>bif !z4 then some true else some (decide ((c.History.length:Int)≥60))) else some (decide ((c.History.length:Int)≥60)))) fun z2=>bif z2 then some (z0,false) else bd (gd (s.sz≤34359738368) (some s)) fun z3=>gd (aX z0.History [z3]) (some (D.aAB.mk z0.Log z0.Boxes (z0.History++[z3]),true)))=some (cZ c s):=by
 obtain⟨h1,h2⟩:=h
 have hz:=h1
 simp only[D.aAB.sz] at hz
 unfold cZ
 simp only[aG (show c.sz≤34359738368 by omega),aG (show c.Log.length≤34359738368 by omega),aG (show s.sz≤34359738368 by omega),bd_s,iC (show c.History.length≤34359738368 by omega)]
 by_cases h0:0<c.History.length
 ·have e2:bT c.History (IntKind.i64.wrap ((c.History.length:Int)-1))=some (c.History.getD (c.History.length-1) default):=by
   rw[aK (by omega) (by omega),rQ (by omega) (by omega)];congr 2;omega
  rw[decide_eq_true (show(c.History.length:Int)>0 by omega),e2]
  generalize c.History.getD (c.History.length-1) default=x
  simp only[bd_s,cond_true,Bool.true_and]
  cases(s.Epoch !=aD c.Log)<;>cases sJ s x<;>cases decide ((c.History.length:Int)≥60)<;>rfl
 ·rw[decide_eq_false (show ¬(c.History.length:Int)>0 by omega)]
  cases(s.Epoch !=aD c.Log)<;>cases decide ((c.History.length:Int)≥60)<;>rfl
theorem Pn (c:D.aAB)(s:D.aAC)(h:c.sz≤34359738300∧s.sz≤34359738300):Pb c s=some (cZ c s):=aYb c s h
end
end Go.VK
