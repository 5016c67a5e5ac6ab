import Derived.Test.YtefkjglmpmakcaaGreatDoorXlPq
import Derived.Test.YtefkjglmpmakcaaGreatDoorXlQ
/- Printed by wip/tools: models, walks, proofs. -/
set_option linter.unusedVariables false
set_option linter.unusedSimpArgs false
set_option maxRecDepth 100000
set_option maxHeartbeats 4000000
namespace Go.VK
open Go.RowKit Go.Proofs
noncomputable section
open EV (bS)
theorem aZg {k:Int}{b:List Int}(hl:b.length≤34359738368){F:(List Int×Nat→Option (List Int))→List Int×Nat→Option (List Int)}
  (hF:∀rec i s (hi:i<b.length),s.length≤34359738368→F rec (s,i)=rec (s++[bAu k i b[i]],i+1)) (hE:∀rec s,F rec (s,b.length)=some s):EV.bS FUEL F ([],0)=some (oP k b):=by
 refine aBa (fun i s=>i≤b.length∧s=(Ps (fun i z=>[bAu k i z]) 0 (b.take i),i)) b.length _ (by omega) ⟨by omega,by simp[Ps]⟩ (fun i s rec hi hv=> ?_) (fun s rec hv=> ?_)
 ·obtain⟨_,rfl⟩:=hv
  refine .inl ⟨_,⟨hi,rfl⟩,?_⟩
  rw[hF rec i _ hi (by rw[Ko,List.length_take];omega),aCt hi,Nat.zero_add]
 ·obtain⟨_,rfl⟩:=hv
  rw[hE,List.take_length];rfl
theorem aM0 (k:Int)(b:List Int)(h:aW b):Mq k b=some (oP k b):=by
 unfold Mq
 rw[aZg (k:=k) h.1 (fun rec i s hi hs=>by
  have e:=bC8 (k:=k) i (qW h hi)
  have h4:((256:Int)≠0)=True:=by simp
  simp only[bJ hi,cond_true,aF hi,bd_s,aB (show([(i:Int)]:List Int).length≤34359738368 by simp),h4,gd_T,e,gM hs]) (fun rec s=>by simp only[bM,cond_false])]
 rfl
theorem aM1 (k:Int)(b:List Int)(h:aW b):Ll k b=some (oP k b):=by
 unfold Ll
 rw[aZg (k:=k) h.1 (fun rec i s hi hs=>by
  have e:=bC9 (k:=k) i (qW h hi)
  have h4:((256:Int)≠0)=True:=by simp
  simp only[bJ hi,cond_true,aF hi,bd_s,aB (show([(i:Int)]:List Int).length≤34359738368 by simp),h4,gd_T,e,gM hs]) (fun rec s=>by simp only[bM,cond_false])]
 rfl
theorem Ns (b:List Int)(n:Int)(h:b.length≤34359738300):rE b n=some (nP b n):=by
 unfold rE nP enc1
 have e:(decide (n<0)||decide (n>1000000000000))= !cK n 0 1000000000000:=by
  unfold cK;rw[Bool.eq_iff_iff];simp<;>omega
 rw[aB (show b.length≤34359738368 by omega),bd_s,Ai,bd_s,e]
 cases hr:cK n 0 1000000000000 with
 |false=>simp
 |true=>
  rw[Bool.not_true,cond_false,cond_true]
  exact aZf (nE hr) h (fun rec n s h0 h1 h2=>by
   have h4:((128:Int)≠0)=True:=by simp
   have e1:decide (n≥128)=decide (n>127):=decide_eq_decide.2 (by omega)
   have e2:IntKind.u8.wrap (IntKind.i64.wrap (n.tmod 128+128))=n%128+128:=by rw[Int.tmod_eq_emod_of_nonneg h0,aK (by omega) (by omega),aK8 (by omega) (by omega)]
   have e3:IntKind.i64.wrap (n.tdiv 128)=n/128:=by rw[Int.tdiv_eq_ediv_of_nonneg h0,aK (by omega) (by omega)]
   simp only[h4,gd_T,e1,e2,e3,gM (s:=s) h2])
theorem P7 (l:List Int)(h:l.length≤5000000000):yB l=some (kF l):=by
 unfold yB
 rw[fB (l:=l) nP (fun i s=>s.length≤6*i) (fun s=>some s) (by omega) (by simp) (fun i s hi hv=>by have:=aK9 l[i];simp only[nP,List.length_append];omega) (fun rec i s hi hv=>by
  simp only[bJ hi,cond_true,aF hi,bd_s,aB (show s.length≤34359738300 by omega)]) (fun rec s _=>by simp only[bM,cond_false]),aCw]
 rfl
theorem Qt (b:D.aAC)(h:b.sz≤34359738368):sN b=some (oO b):=by
 unfold sN oO
 rw[aB h,bd_s]
 cases hb:aI b with
 |false=>rfl
 |true=>
  have hl:=qC hb
  have hv:(qZ b).length=1+4*b.Entries.length:=by simp[qZ,uB];omega
  rw[Bool.not_true,cond_false,cond_true,fB (l:=b.Entries) (fun s e=>s++aVw e) (fun i s=>s.length≤1+4*i) (fun s=>some s) (by omega) (by simp) (fun i s hi hv=>by simp only[aVw,List.length_append,List.length_cons,List.length_nil];omega) (fun rec i s hi hv=>by
   have e:∀x y z w:Int,gd (bD s [x,y,z,w]) (rec (s++[x,y,z,w],i+1))=rec (s++[x,y,z,w],i+1):=fun _ _ _ _=>aB (by unfold bD;simp only[List.length_cons,List.length_nil];omega)
   simp only[bJ hi,cond_true,aF hi,bd_s,Vq,jC,e];rfl) (fun rec s _=>by simp only[bM,cond_false]),Xc,bd_s]
  rw[aB (show([(b.Entries.length:Int)]++qY b.Entries).length≤5000000000 by show(qZ b).length≤_;omega),bd_s]
  rfl
theorem bDg (k:Int)(b:D.aAC):(oP k (oO b)).length≤34359738200:=by have:=aRp b;rw[J9];omega
theorem P8 (k e v:Int)(b:D.aAC)(h:b.sz≤34359738368):yI k e v b=some (rA k e v b):=by
 unfold yI rA aZa kY
 simp only[aB h,bd_s,aB (show[(223:Int),e,v].length≤34359738300 by simp),aB (aLe b),aB (bDg (aY k [223,e,v]) b)]
 cases dG k<;>cases cK e 0 1000000<;>cases cK v 0 1000000<;>cases aI b<;>rfl
theorem P9 (k e v:Int)(b:D.aAC)(h:b.sz≤34359738368):xR k e v b=some (rA k e v b):=by
 unfold xR rA aZa
 simp only[aB h,bd_s,aB (aLe b),aB (bDg (kY k e v) b)]
 cases dG k<;>cases cK e 0 1000000<;>cases cK v 0 1000000<;>cases aI b<;>rfl
theorem aCx (a b:D.aAA):Bt a b=some (rV a b):=by
 unfold Bt rV
 cases decide (a.Epoch>b.Epoch)<;>cases(a.Epoch==b.Epoch)<;>rfl
theorem aCy (a b:D.aAA):Az a b=some (rV a b):=by
 unfold Az rV
 cases decide (a.Epoch>b.Epoch)<;>cases(a.Epoch==b.Epoch)<;>rfl
theorem aZh {d:D.Device}(h:d.sz≤34359738368):d.aAC.sz≤34359738368:=by simp only[D.Device.sz,D.aAC.sz] at*;omega
theorem Xd (d:D.Device)(h:d.sz≤34359738368):vV d=some (mP d):=by
 unfold vV mP
 simp only[aB h,aB (aZh h),bd_s]
 cases(rA d.Key d.Epoch (IntKind.i64.wrap (d.Version+1)) d.aAC).2<;>rfl
theorem Xe (d:D.Device)(h:d.sz≤34359738368):vC d=some (mP d):=by
 unfold vC mP
 simp only[aB h,aB (aZh h),bd_s]
 cases(rA d.Key d.Epoch (IntKind.i64.wrap (d.Version+1)) d.aAC).2<;>rfl
theorem aR0 (c:D.aAJ)(s:D.aAA)(h:c.sz≤34359738300∧s.sz≤34359738300):(bd (gd (c.sz≤34359738368) (some c)) fun z0=>bd (gd (c.Log.length≤34359738368) (some (bC c.Log))) fun z1=>bd (bif (s.Epoch !=z1) then some true else(bif decide ((c.History.length:Int)>0) then(bd (aT c.History (IntKind.i64.wrap ((c.History.length:Int)-1))) fun z3=>bd (some (rV s z3)) fun z4=>bif !z4 then some true else some (decide ((c.History.length:Int)≥60))) else some (decide ((c.History.length:Int)≥60)))) fun z2=>bif z2 then some (z0,false) else bd (gd (s.sz≤34359738368) (some s)) fun z3=>gd (bD z0.History [z3]) (some (D.aAJ.mk z0.Log z0.Boxes (z0.History++[z3]),true)))=some (gJ c s):=by
 obtain⟨h1,h2⟩:=h
 have hz:=h1
 simp only[D.aAJ.sz] at hz
 unfold gJ
 simp only[aB (show c.sz≤34359738368 by omega),aB (show c.Log.length≤34359738368 by omega),aB (show s.sz≤34359738368 by omega),bd_s,gM (show c.History.length≤34359738368 by omega)]
 by_cases h0:0<c.History.length
 ·have e2:aT c.History (IntKind.i64.wrap ((c.History.length:Int)-1))=some (c.History.getD (c.History.length-1) default):=by
   rw[aK (by omega) (by omega),aK6 (by omega) (by omega)];congr 2;omega
  rw[decide_eq_true (show(c.History.length:Int)>0 by omega),e2]
  generalize c.History.getD (c.History.length-1) default=x
  simp only[bd_s,cond_true,Bool.true_and]
  cases(s.Epoch !=bC c.Log)<;>cases rV s x<;>cases decide ((c.History.length:Int)≥60)<;>rfl
 ·rw[decide_eq_false (show ¬(c.History.length:Int)>0 by omega)]
  cases(s.Epoch !=bC c.Log)<;>cases decide ((c.History.length:Int)≥60)<;>rfl
theorem Qu (c:D.aAJ)(s:D.aAA)(h:c.sz≤34359738300∧s.sz≤34359738300):Qc c s=some (gJ c s):=aR0 c s h
theorem Qv (c:D.aAJ)(s:D.aAA)(h:c.sz≤34359738300∧s.sz≤34359738300):Qa c s=some (gJ c s):=aR0 c s h
end
end Go.VK
