import Derived.Test.YtlnjelnfjgjanaaGreatXpPq
import Derived.Test.YtlnjelnfjgjanaaGreatXpM
/- Printed by wip/tools: models, walks, proofs. -/
set_option linter.unusedVariables false
set_option linter.unusedSimpArgs false
set_option maxRecDepth 100000
set_option maxHeartbeats 4000000
namespace Go.VK
open Go.RowKit Go.Proofs
noncomputable section
open EV (bT)
theorem bD6 {k:Int}{b:List Int}(hl:b.length≤34359738368){F:(List Int×Nat→Option (List Int))→List Int×Nat→Option (List Int)}
  (hF:∀rec i s (hi:i<b.length),s.length≤34359738368→F rec (s,i)=rec (s++[aWo k i b[i]],i+1)) (hE:∀rec s,F rec (s,b.length)=some s):EV.bT FUEL F ([],0)=some (xS k b):=by
 refine Om (fun i s=>i≤b.length∧s=(Oj (fun i z=>[aWo k i z]) 0 (b.take i),i)) b.length _ (by omega) ⟨by omega,by simp[Oj]⟩ (fun i s rec hi hv=> ?_) (fun s rec hv=> ?_)
 ·obtain⟨_,rfl⟩:=hv
  refine .inl ⟨_,⟨hi,rfl⟩,?_⟩
  rw[hF rec i _ hi (by rw[Ij,List.length_take];omega),U1 hi,Nat.zero_add]
 ·obtain⟨_,rfl⟩:=hv
  rw[hE,List.take_length];rfl
theorem aHf (k:Int)(b:List Int)(h:bB b):Jp k b=some (xS k b):=by
 unfold Jp
 rw[bD6 (k:=k) h.1 (fun rec i s hi hs=>by
  have e:=bAh (k:=k) i (Ik h hi)
  have h4:((256:Int)≠0)=True:=by simp
  simp only[dQ hi,cond_true,aM hi,bd_s,aB (show([(i:Int)]:List Int).length≤34359738368 by simp),h4,gd_T,e,gT hs]) (fun rec s=>by simp only[dS,cond_false])]
 rfl
theorem bG4 (k:Int)(b:D.aAG):(xS k (xR b)).length≤34359738200:=by have:=aL9 b;rw[Yd];omega
theorem Zj (k e v:Int)(b:D.aAG)(h:b.sz≤34359738368):yG k e v b=some (Au k e v b):=by
 unfold yG Au bAg
 simp only[aB h,bd_s,aB (aQa b),aB (bG4 (oF k e v) b)]
 cases bM k<;>cases bF e 0 1000000<;>cases bF v 0 1000000<;>cases aT b<;>rfl
theorem U3 (a b:D.aAD):Bj a b=some (Iw a b):=by
 unfold Bj Iw
 cases decide (a.Epoch>b.Epoch)<;>cases(a.Epoch==b.Epoch)<;>rfl
theorem bD7 {d:D.Device}(h:d.sz≤34359738368):d.aAG.sz≤34359738368:=by simp only[D.Device.sz,D.aAG.sz] at*;omega
theorem Uj (d:D.Device)(h:d.sz≤34359738368):wI d=some (bW d):=by
 unfold wI bW
 simp only[aB h,aB (bD7 h),bd_s]
 cases(Au d.Key d.Epoch (IntKind.i64.wrap (d.Version+1)) d.aAG).2<;>rfl
theorem aXw (c:D.aAE)(s:D.aAD)(h:c.sz≤34359738300∧s.sz≤34359738300):(bd (gd (c.sz≤34359738368) (some c)) fun z0=>bd (gd (c.Log.length≤34359738368) (some (aQ c.Log))) fun z1=>bd (bif (s.Epoch !=z1) then some true else(bif decide ((c.History.length:Int)>0) then(bd (bA c.History (IntKind.i64.wrap ((c.History.length:Int)-1))) fun z3=>bd (some (Iw s z3)) fun z4=>bif !z4 then some true else some (decide ((c.History.length:Int)≥60))) else some (decide ((c.History.length:Int)≥60)))) fun z2=>bif z2 then some (z0,false) else bd (gd (s.sz≤34359738368) (some s)) fun z3=>gd (aS z0.History [z3]) (some (D.aAE.mk z0.Log z0.Boxes (z0.History++[z3]),true)))=some (dF c s):=by
 obtain⟨h1,h2⟩:=h
 have hz:=h1
 simp only[D.aAE.sz] at hz
 unfold dF
 simp only[aB (show c.sz≤34359738368 by omega),aB (show c.Log.length≤34359738368 by omega),aB (show s.sz≤34359738368 by omega),bd_s,gT (show c.History.length≤34359738368 by omega)]
 by_cases h0:0<c.History.length
 ·have e2:bA c.History (IntKind.i64.wrap ((c.History.length:Int)-1))=some (c.History.getD (c.History.length-1) default):=by
   rw[aG (by omega) (by omega),oC (by omega) (by omega)];congr 2;omega
  rw[decide_eq_true (show(c.History.length:Int)>0 by omega),e2]
  generalize c.History.getD (c.History.length-1) default=x
  simp only[bd_s,cond_true,Bool.true_and]
  cases(s.Epoch !=aQ c.Log)<;>cases Iw s x<;>cases decide ((c.History.length:Int)≥60)<;>rfl
 ·rw[decide_eq_false (show ¬(c.History.length:Int)>0 by omega)]
  cases(s.Epoch !=aQ c.Log)<;>cases decide ((c.History.length:Int)≥60)<;>rfl
theorem Pi (c:D.aAE)(s:D.aAD)(h:c.sz≤34359738300∧s.sz≤34359738300):Ot c s=some (dF c s):=aXw c s h
theorem bD8 {w:D.World}{d:Int}(hz:w.sz≤10000000000)(h:((aI w d 0).2==0)=true):(aK (aI w d 0).1 d=true∧(aO (aI w d 0).1 d).sz≤34359738368)∧((aI w d 0).1.aAE.sz≤34359738300∧(bW (aO (aI w d 0).1 d)).2.1.sz≤34359738300):=by
 obtain⟨⟨k1,k2⟩,k3,k4,k5⟩:=lK h
 have hd:aK (aI w d 0).1 d=true:=by simp only[aK] at*;rw[k4];exact k2
 have h1:=(aHd hd).2.2.1
 have h2:=Zi (aI w d 0).1
 have h3:=(uZ (aO (aI w d 0).1 d)).2
 have h4:w.aAE.Log.length≤w.sz:=by simp only[D.World.sz,D.aAE.sz];omega
 exact⟨⟨hd,by omega⟩,by omega,by simp only[D.aAD.sz];omega⟩
theorem Zk (w:D.World)(d:Int)(hz:w.sz≤10000000000):yR w d=some (fQ w d):=by
 unfold yR fQ
 have hw:w.sz≤34359738368:=by omega
 simp only[aB (show w.sz≤34359738100 by omega),aB hw,bd_s,bne]
 cases hs:((aI w d 0).2==0) with
 |false=>rfl
 |true=>
  obtain⟨⟨k1,k2⟩,k3⟩:=bD8 hz hs
  generalize(aI w d 0).1=x at*
  simp only[Bool.not_true,cond_false,uR k1,bd_s,aB k2,aB k3,Ap]
  unfold Rl
  cases(bW (aO x d)).2.2<;>cases(dF x.aAE (bW (aO x d)).2.1).2<;>rfl
end
end Go.VK
