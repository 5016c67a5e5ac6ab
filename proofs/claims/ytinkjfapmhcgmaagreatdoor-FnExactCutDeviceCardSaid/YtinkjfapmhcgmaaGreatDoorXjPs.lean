import Derived.Test.YtinkjfapmhcgmaaGreatDoorXjPq
import Derived.Test.YtinkjfapmhcgmaaGreatDoorXjQ
/- Printed by wip/tools: models, walks, proofs. -/
set_option linter.unusedVariables false
set_option linter.unusedSimpArgs false
set_option maxRecDepth 100000
set_option maxHeartbeats 4000000
namespace Go.VK
open Go.RowKit Go.Proofs
noncomputable section
open EV (bU)
theorem bDo {k:Int}{b:List Int}(hl:b.length≤34359738368){F:(List Int×Nat→Option (List Int))→List Int×Nat→Option (List Int)}
  (hF:∀rec i s (hi:i<b.length),s.length≤34359738368→F rec (s,i)=rec (s++[bE4 k i b[i]],i+1)) (hE:∀rec s,F rec (s,b.length)=some s):EV.bU FUEL F ([],0)=some (pG k b):=by
 refine Zt (fun i s=>i≤b.length∧s=(Tz (fun i z=>[bE4 k i z]) 0 (b.take i),i)) b.length _ (by omega) ⟨by omega,by simp[Tz]⟩ (fun i s rec hi hv=> ?_) (fun s rec hv=> ?_)
 ·obtain⟨_,rfl⟩:=hv
  refine .inl ⟨_,⟨hi,rfl⟩,?_⟩
  rw[hF rec i _ hi (by rw[Ns,List.length_take];omega),aE3 hi,Nat.zero_add]
 ·obtain⟨_,rfl⟩:=hv
  rw[hE,List.take_length];rfl
theorem aPz (k:Int)(b:List Int)(h:aW b):Ql k b=some (pG k b):=by
 unfold Ql
 rw[bDo (k:=k) h.1 (fun rec i s hi hs=>by
  have e:=bHd (k:=k) i (rO h hi)
  have h4:((256:Int)≠0)=True:=by simp
  simp only[bE hi,cond_true,aF hi,bd_s,aC (show([(i:Int)]:List Int).length≤34359738368 by simp),h4,gd_T,e,fF hs]) (fun rec s=>by simp only[bF,cond_false])]
 rfl
theorem aP0 (k:Int)(b:List Int)(h:aW b):Qc k b=some (pG k b):=by
 unfold Qc
 rw[bDo (k:=k) h.1 (fun rec i s hi hs=>by
  have e:=bHe (k:=k) i (rO h hi)
  have h4:((256:Int)≠0)=True:=by simp
  simp only[bE hi,cond_true,aF hi,bd_s,aC (show([(i:Int)]:List Int).length≤34359738368 by simp),h4,gd_T,e,fF hs]) (fun rec s=>by simp only[bF,cond_false])]
 rfl
theorem Rh (b:List Int)(n:Int)(h:b.length≤34359738300):sF b n=some (nW b n):=by
 unfold sF nW enc1
 have e:(decide (n<0)||decide (n>1000000000000))= !dG n 0 1000000000000:=by
  unfold dG;rw[Bool.eq_iff_iff];simp<;>omega
 rw[aC (show b.length≤34359738368 by omega),bd_s,Ay,bd_s,e]
 cases hr:dG n 0 1000000000000 with
 |false=>simp
 |true=>
  rw[Bool.not_true,cond_false,cond_true]
  exact bDn (aMn hr) h (fun rec n s h0 h1 h2=>by
   have h4:((128:Int)≠0)=True:=by simp
   have e1:decide (n≥128)=decide (n>127):=decide_eq_decide.2 (by omega)
   have e2:IntKind.u8.wrap (IntKind.i64.wrap (n.tmod 128+128))=n%128+128:=by rw[Int.tmod_eq_emod_of_nonneg h0,aP (by omega) (by omega),aNr (by omega) (by omega)]
   have e3:IntKind.i64.wrap (n.tdiv 128)=n/128:=by rw[Int.tdiv_eq_ediv_of_nonneg h0,aP (by omega) (by omega)]
   simp only[h4,gd_T,e1,e2,e3,fF (s:=s) h2])
theorem aAs (l:List Int)(h:l.length≤5000000000):zC l=some (kY l):=by
 unfold zC
 rw[fK (l:=l) nW (fun i s=>s.length≤6*i) (fun s=>some s) (by omega) (by simp) (fun i s hi hv=>by have:=aNs l[i];simp only[nW,List.length_append];omega) (fun rec i s hi hv=>by
  simp only[bE hi,cond_true,aF hi,bd_s,aC (show s.length≤34359738300 by omega)]) (fun rec s _=>by simp only[bF,cond_false]),aE6]
 rfl
theorem Vi (b:D.aAD)(h:b.sz≤34359738368):uG b=some (pF b):=by
 unfold uG pF
 rw[aC h,bd_s]
 cases hb:aJ b with
 |false=>rfl
 |true=>
  have hl:=qO hb
  have hv:(rR b).length=1+4*b.Entries.length:=by simp[rR,uZ];omega
  rw[Bool.not_true,cond_false,cond_true,fK (l:=b.Entries) (fun s e=>s++aZ5 e) (fun i s=>s.length≤1+4*i) (fun s=>some s) (by omega) (by simp) (fun i s hi hv=>by simp only[aZ5,List.length_append,List.length_cons,List.length_nil];omega) (fun rec i s hi hv=>by
   have e:∀x y z w:Int,gd (bJ s [x,y,z,w]) (rec (s++[x,y,z,w],i+1))=rec (s++[x,y,z,w],i+1):=fun _ _ _ _=>aC (by unfold bJ;simp only[List.length_cons,List.length_nil];omega)
   simp only[bE hi,cond_true,aF hi,bd_s,o6,kF,e];rfl) (fun rec s _=>by simp only[bF,cond_false]),G6,bd_s]
  rw[aC (show([(b.Entries.length:Int)]++rQ b.Entries).length≤5000000000 by show(rR b).length≤_;omega),bd_s]
  rfl
theorem bHk (k:Int)(b:D.aAD):(pG k (pF b)).length≤34359738200:=by have:=aVx b;rw[X8];omega
theorem aAt (k e v:Int)(b:D.aAD)(h:b.sz≤34359738368):zG k e v b=some (vP k e v b):=by
 unfold zG vP bDg lJ
 simp only[aC h,bd_s,aC (show[(223:Int),e,v].length≤34359738300 by simp),aC (aNx b),aC (bHk (eU k [223,e,v]) b)]
 cases dP k<;>cases dG e 0 1000000<;>cases dG v 0 1000000<;>cases aJ b<;>rfl
theorem aAu (k e v:Int)(b:D.aAD)(h:b.sz≤34359738368):yP k e v b=some (vP k e v b):=by
 unfold yP vP bDg
 simp only[aC h,bd_s,aC (aNx b),aC (bHk (lJ k e v) b)]
 cases dP k<;>cases dG e 0 1000000<;>cases dG v 0 1000000<;>cases aJ b<;>rfl
theorem aE7 (a b:D.aAA):Da a b=some (sU a b):=by
 unfold Da sU
 cases decide (a.Epoch>b.Epoch)<;>cases(a.Epoch==b.Epoch)<;>rfl
theorem aE8 (a b:D.aAA):Ce a b=some (sU a b):=by
 unfold Ce sU
 cases decide (a.Epoch>b.Epoch)<;>cases(a.Epoch==b.Epoch)<;>rfl
theorem bDp {d:D.Device}(h:d.sz≤34359738368):d.aAD.sz≤34359738368:=by simp only[D.Device.sz,D.aAD.sz] at*;omega
theorem G7 (d:D.Device)(h:d.sz≤34359738368):wT d=some (fB d):=by
 unfold wT fB
 simp only[aC h,aC (bDp h),bd_s]
 cases(vP d.Key d.Epoch (IntKind.i64.wrap (d.Version+1)) d.aAD).2<;>rfl
theorem G8 (d:D.Device)(h:d.sz≤34359738368):wE d=some (fB d):=by
 unfold wE fB
 simp only[aC h,aC (bDp h),bd_s]
 cases(vP d.Key d.Epoch (IntKind.i64.wrap (d.Version+1)) d.aAD).2<;>rfl
theorem aWb (c:D.aAH)(s:D.aAA)(h:c.sz≤34359738300∧s.sz≤34359738300):(bd (gd (c.sz≤34359738368) (some c)) fun z0=>bd (gd (c.Log.length≤34359738368) (some (bC c.Log))) fun z1=>bd (bif (s.Epoch !=z1) then some true else(bif decide ((c.History.length:Int)>0) then(bd (aL c.History (IntKind.i64.wrap ((c.History.length:Int)-1))) fun z3=>bd (some (sU s z3)) fun z4=>bif !z4 then some true else some (decide ((c.History.length:Int)≥60))) else some (decide ((c.History.length:Int)≥60)))) fun z2=>bif z2 then some (z0,false) else bd (gd (s.sz≤34359738368) (some s)) fun z3=>gd (bJ z0.History [z3]) (some (D.aAH.mk z0.Log z0.Boxes (z0.History++[z3]),true)))=some (gX c s):=by
 obtain⟨h1,h2⟩:=h
 have hz:=h1
 simp only[D.aAH.sz] at hz
 unfold gX
 simp only[aC (show c.sz≤34359738368 by omega),aC (show c.Log.length≤34359738368 by omega),aC (show s.sz≤34359738368 by omega),bd_s,fF (show c.History.length≤34359738368 by omega)]
 by_cases h0:0<c.History.length
 ·have e2:aL c.History (IntKind.i64.wrap ((c.History.length:Int)-1))=some (c.History.getD (c.History.length-1) default):=by
   rw[aP (by omega) (by omega),X5 (by omega) (by omega)];congr 2;omega
  rw[decide_eq_true (show(c.History.length:Int)>0 by omega),e2]
  generalize c.History.getD (c.History.length-1) default=x
  simp only[bd_s,cond_true,Bool.true_and]
  cases(s.Epoch !=bC c.Log)<;>cases sU s x<;>cases decide ((c.History.length:Int)≥60)<;>rfl
 ·rw[decide_eq_false (show ¬(c.History.length:Int)>0 by omega)]
  cases(s.Epoch !=bC c.Log)<;>cases decide ((c.History.length:Int)≥60)<;>rfl
theorem Vj (c:D.aAH)(s:D.aAA)(h:c.sz≤34359738300∧s.sz≤34359738300):Uf c s=some (gX c s):=aWb c s h
theorem Vk (c:D.aAH)(s:D.aAA)(h:c.sz≤34359738300∧s.sz≤34359738300):Ue c s=some (gX c s):=aWb c s h
end
end Go.VK
