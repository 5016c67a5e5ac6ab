import Derived.Test.YthecajfmhdediaaGreatDoorXhPq
import Derived.Test.YthecajfmhdediaaGreatDoorXhQ
/- Printed by wip/tools: models, walks, proofs. -/
set_option linter.unusedVariables false
set_option linter.unusedSimpArgs false
set_option maxRecDepth 100000
set_option maxHeartbeats 4000000
namespace Go.VK
open Go.RowKit Go.Proofs
noncomputable section
open EV (bX)
theorem bDs {k:Int}{b:List Int}(hl:b.length≤34359738368){F:(List Int×Nat→Option (List Int))→List Int×Nat→Option (List Int)}
  (hF:∀rec i s (hi:i<b.length),s.length≤34359738368→F rec (s,i)=rec (s++[bFb k i b[i]],i+1)) (hE:∀rec s,F rec (s,b.length)=some s):EV.bX FUEL F ([],0)=some (oW k b):=by
 refine Zv (fun i s=>i≤b.length∧s=(Ua (fun i z=>[bFb k i z]) 0 (b.take i),i)) b.length _ (by omega) ⟨by omega,by simp[Ua]⟩ (fun i s rec hi hv=> ?_) (fun s rec hv=> ?_)
 ·obtain⟨_,rfl⟩:=hv
  refine .inl ⟨_,⟨hi,rfl⟩,?_⟩
  rw[hF rec i _ hi (by rw[Nq,List.length_take];omega),aFz hi,Nat.zero_add]
 ·obtain⟨_,rfl⟩:=hv
  rw[hE,List.take_length];rfl
theorem aQt (k:Int)(b:List Int)(h:bA b):Qh k b=some (oW k b):=by
 unfold Qh
 rw[bDs (k:=k) h.1 (fun rec i s hi hs=>by
  have e:=bHj (k:=k) i (rF h hi)
  have h4:((256:Int)≠0)=True:=by simp
  simp only[bH hi,cond_true,aH hi,bd_s,aD (show([(i:Int)]:List Int).length≤34359738368 by simp),h4,gd_T,e,eT hs]) (fun rec s=>by simp only[bJ,cond_false])]
 rfl
theorem aQu (k:Int)(b:List Int)(h:bA b):Py k b=some (oW k b):=by
 unfold Py
 rw[bDs (k:=k) h.1 (fun rec i s hi hs=>by
  have e:=bHk (k:=k) i (rF h hi)
  have h4:((256:Int)≠0)=True:=by simp
  simp only[bH hi,cond_true,aH hi,bd_s,aD (show([(i:Int)]:List Int).length≤34359738368 by simp),h4,gd_T,e,eT hs]) (fun rec s=>by simp only[bJ,cond_false])]
 rfl
theorem Rc (b:List Int)(n:Int)(h:b.length≤34359738300):rV b n=some (nT b n):=by
 unfold rV nT enc1
 have e:(decide (n<0)||decide (n>1000000000000))= !dI n 0 1000000000000:=by
  unfold dI;rw[Bool.eq_iff_iff];simp<;>omega
 rw[aD (show b.length≤34359738368 by omega),bd_s,sS,bd_s,e]
 cases hr:dI n 0 1000000000000 with
 |false=>simp
 |true=>
  rw[Bool.not_true,cond_false,cond_true]
  exact bDr (aNc hr) h (fun rec n s h0 h1 h2=>by
   have h4:((128:Int)≠0)=True:=by simp
   have e1:decide (n≥128)=decide (n>127):=decide_eq_decide.2 (by omega)
   have e2:IntKind.u8.wrap (IntKind.i64.wrap (n.tmod 128+128))=n%128+128:=by rw[Int.tmod_eq_emod_of_nonneg h0,aR (by omega) (by omega),aOk (by omega) (by omega)]
   have e3:IntKind.i64.wrap (n.tdiv 128)=n/128:=by rw[Int.tdiv_eq_ediv_of_nonneg h0,aR (by omega) (by omega)]
   simp only[h4,gd_T,e1,e2,e3,eT (s:=s) h2])
theorem aBc (l:List Int)(h:l.length≤5000000000):zT l=some (kT l):=by
 unfold zT
 rw[fJ (l:=l) nT (fun i s=>s.length≤6*i) (fun s=>some s) (by omega) (by simp) (fun i s hi hv=>by have:=aOl l[i];simp only[nT,List.length_append];omega) (fun rec i s hi hv=>by
  simp only[bH hi,cond_true,aH hi,bd_s,aD (show s.length≤34359738300 by omega)]) (fun rec s _=>by simp only[bJ,cond_false]),aF2]
 rfl
theorem Vh (b:D.aAC)(h:b.sz≤34359738368):uD b=some (oV b):=by
 unfold uD oV
 rw[aD h,bd_s]
 cases hb:aK b with
 |false=>rfl
 |true=>
  have hl:=qI hb
  have hv:(rJ b).length=1+4*b.Entries.length:=by simp[rJ,vB];omega
  rw[Bool.not_true,cond_false,cond_true,fJ (l:=b.Entries) (fun s e=>s++aZ7 e) (fun i s=>s.length≤1+4*i) (fun s=>some s) (by omega) (by simp) (fun i s hi hv=>by simp only[aZ7,List.length_append,List.length_cons,List.length_nil];omega) (fun rec i s hi hv=>by
   have e:∀x y z w:Int,gd (bI s [x,y,z,w]) (rec (s++[x,y,z,w],i+1))=rec (s++[x,y,z,w],i+1):=fun _ _ _ _=>aD (by unfold bI;simp only[List.length_cons,List.length_nil];omega)
   simp only[bH hi,cond_true,aH hi,bd_s,p9,jZ,e];rfl) (fun rec s _=>by simp only[bJ,cond_false]),H5,bd_s]
  rw[aD (show([(b.Entries.length:Int)]++rH b.Entries).length≤5000000000 by show(rJ b).length≤_;omega),bd_s]
  rfl
theorem bHs (k:Int)(b:D.aAC):(oW k (oV b)).length≤34359738200:=by have:=aV9 b;rw[Z9];omega
theorem aBd (k e v:Int)(b:D.aAC)(h:b.sz≤34359738368):zX k e v b=some (vR k e v b):=by
 unfold zX vR bDm lC
 simp only[aD h,bd_s,aD (show[(223:Int),e,v].length≤34359738300 by simp),aD (aOq b),aD (bHs (dD k [223,e,v]) b)]
 cases dY k<;>cases dI e 0 1000000<;>cases dI v 0 1000000<;>cases aK b<;>rfl
theorem aBe (k e v:Int)(b:D.aAC)(h:b.sz≤34359738368):zG k e v b=some (vR k e v b):=by
 unfold zG vR bDm
 simp only[aD h,bd_s,aD (aOq b),aD (bHs (lC k e v) b)]
 cases dY k<;>cases dI e 0 1000000<;>cases dI v 0 1000000<;>cases aK b<;>rfl
theorem aF3 (a b:D.aAA):Dp a b=some (sM a b):=by
 unfold Dp sM
 cases decide (a.Epoch>b.Epoch)<;>cases(a.Epoch==b.Epoch)<;>rfl
theorem aF4 (a b:D.aAA):Cs a b=some (sM a b):=by
 unfold Cs sM
 cases decide (a.Epoch>b.Epoch)<;>cases(a.Epoch==b.Epoch)<;>rfl
theorem bDt {d:D.Device}(h:d.sz≤34359738368):d.aAC.sz≤34359738368:=by simp only[D.Device.sz,D.aAC.sz] at*;omega
theorem H6 (d:D.Device)(h:d.sz≤34359738368):wZ d=some (gG d):=by
 unfold wZ gG
 simp only[aD h,aD (bDt h),bd_s]
 cases(vR d.Key d.Epoch (IntKind.i64.wrap (d.Version+1)) d.aAC).2<;>rfl
theorem H7 (d:D.Device)(h:d.sz≤34359738368):wI d=some (gG d):=by
 unfold wI gG
 simp only[aD h,aD (bDt h),bd_s]
 cases(vR d.Key d.Epoch (IntKind.i64.wrap (d.Version+1)) d.aAC).2<;>rfl
theorem aWp (c:D.aAH)(s:D.aAA)(h:c.sz≤34359738300∧s.sz≤34359738300):(bd (gd (c.sz≤34359738368) (some c)) fun z0=>bd (gd (c.Log.length≤34359738368) (some (bR c.Log))) fun z1=>bd (bif (s.Epoch !=z1) then some true else(bif decide ((c.History.length:Int)>0) then(bd (aP c.History (IntKind.i64.wrap ((c.History.length:Int)-1))) fun z3=>bd (some (sM s z3)) fun z4=>bif !z4 then some true else some (decide ((c.History.length:Int)≥60))) else some (decide ((c.History.length:Int)≥60)))) fun z2=>bif z2 then some (z0,false) else bd (gd (s.sz≤34359738368) (some s)) fun z3=>gd (bI z0.History [z3]) (some (D.aAH.mk z0.Log z0.Boxes (z0.History++[z3]),true)))=some (iU c s):=by
 obtain⟨h1,h2⟩:=h
 have hz:=h1
 simp only[D.aAH.sz] at hz
 unfold iU
 simp only[aD (show c.sz≤34359738368 by omega),aD (show c.Log.length≤34359738368 by omega),aD (show s.sz≤34359738368 by omega),bd_s,eT (show c.History.length≤34359738368 by omega)]
 by_cases h0:0<c.History.length
 ·have e2:aP c.History (IntKind.i64.wrap ((c.History.length:Int)-1))=some (c.History.getD (c.History.length-1) default):=by
   rw[aR (by omega) (by omega),aOi (by omega) (by omega)];congr 2;omega
  rw[decide_eq_true (show(c.History.length:Int)>0 by omega),e2]
  generalize c.History.getD (c.History.length-1) default=x
  simp only[bd_s,cond_true,Bool.true_and]
  cases(s.Epoch !=bR c.Log)<;>cases sM s x<;>cases decide ((c.History.length:Int)≥60)<;>rfl
 ·rw[decide_eq_false (show ¬(c.History.length:Int)>0 by omega)]
  cases(s.Epoch !=bR c.Log)<;>cases decide ((c.History.length:Int)≥60)<;>rfl
theorem Vi (c:D.aAH)(s:D.aAA)(h:c.sz≤34359738300∧s.sz≤34359738300):Ue c s=some (iU c s):=aWp c s h
theorem Vj (c:D.aAH)(s:D.aAA)(h:c.sz≤34359738300∧s.sz≤34359738300):Ud c s=some (iU c s):=aWp c s h
theorem bDu {w:D.World}{d:Int}(hz:w.sz≤10000000000)(h:((aN w d 0).2==0)=true):(bK (aN w d 0).1 d=true∧(dC (aN w d 0).1 d).sz≤34359738368)∧((aN w d 0).1.aAH.sz≤34359738300∧(gG (dC (aN w d 0).1 d)).2.1.sz≤34359738300):=by
 obtain⟨⟨k1,k2⟩,k3,k4,k5⟩:=yN h
 have hd:bK (aN w d 0).1 d=true:=by simp only[bK] at*;rw[k4];exact k2
 have h1:=(aQq hd).2.2.1
 have h2:=Rb (aN w d 0).1
 have h3:=(aWa (dC (aN w d 0).1 d)).2
 have h4:w.aAH.Log.length≤w.sz:=by simp only[D.World.sz,D.aAH.sz];omega
 exact⟨⟨hd,by omega⟩,by omega,by simp only[D.aAA.sz];omega⟩
theorem aBf (w:D.World)(d:Int)(hz:w.sz≤10000000000):zH w d=some (kE w d):=by
 unfold zH kE
 have hw:w.sz≤34359738368:=by omega
 simp only[aD (show w.sz≤34359738100 by omega),aD hw,bd_s,bne]
 cases hs:((aN w d 0).2==0) with
 |false=>rfl
 |true=>
  obtain⟨⟨k1,k2⟩,k3⟩:=bDu hz hs
  generalize(aN w d 0).1=x at*
  simp only[Bool.not_true,cond_false,Tu k1,bd_s,aD k2,aD k3,sS]
  unfold upF
  cases(gG (dC x d)).2.2<;>cases(iU x.aAH (gG (dC x d)).2.1).2<;>rfl
theorem aBg (w:D.World)(d:Int)(hz:w.sz≤10000000000):zY w d=some (kE w d):=by
 unfold zY kE
 have hw:w.sz≤34359738368:=by omega
 simp only[aD (show w.sz≤34359738100 by omega),aD hw,bd_s,bne]
 cases hs:((aN w d 0).2==0) with
 |false=>rfl
 |true=>
  obtain⟨⟨k1,k2⟩,k3⟩:=bDu hz hs
  generalize(aN w d 0).1=x at*
  simp only[Bool.not_true,cond_false,Tu k1,bd_s,aD k2,aD k3]
  unfold upF
  cases(gG (dC x d)).2.2<;>cases(iU x.aAH (gG (dC x d)).2.1).2<;>rfl
end
end Go.VK
