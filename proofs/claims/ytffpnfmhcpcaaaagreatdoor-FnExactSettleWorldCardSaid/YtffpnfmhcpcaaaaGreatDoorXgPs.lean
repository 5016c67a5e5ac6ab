import Derived.Test.YtffpnfmhcpcaaaaGreatDoorXgPq
import Derived.Test.YtffpnfmhcpcaaaaGreatDoorXgQ
/-
  Printed by wip/tools (own work of this part): models of functions, walks over the value kit, and proofs.
-/
set_option linter.unusedVariables false
set_option linter.unusedSimpArgs false
set_option maxRecDepth 100000
set_option maxHeartbeats 4000000
namespace Go.VK
open Go.RowKit Go.Proofs
noncomputable section
open EV (bW)
theorem aWr {k:Int}{b:List Int}(hl:b.length≤34359738368){F:(List Int×Nat→Option (List Int))→List Int×Nat→Option (List Int)}
  (hF:∀rec i s (hi:i<b.length),s.length≤34359738368→F rec (s,i)=rec (s++[aX8 k i b[i]],i+1)) (hE:∀rec s,F rec (s,b.length)=some s):EV.bW FUEL F ([],0)=some (Dy k b):=by
 refine Oq (fun i s=>i≤b.length∧s=(Oo (fun i z=>[aX8 k i z]) 0 (b.take i),i)) b.length _ (by omega) ⟨by omega,by simp[Oo]⟩ (fun i s rec hi hv=> ?_) (fun s rec hv=> ?_)
 ·obtain⟨_,rfl⟩:=hv
  refine .inl ⟨_,⟨hi,rfl⟩,?_⟩
  rw[hF rec i _ hi (by rw[Ir,List.length_take];omega),aAm hi,Nat.zero_add]
 ·obtain⟨_,rfl⟩:=hv
  rw[hE,List.take_length];rfl
theorem aJ5 (k:Int)(b:List Int)(h:bF b):Lg k b=some (Dy k b):=by
 unfold Lg
 rw[aWr (k:=k) h.1 (fun rec i s hi hs=>by
  have e:=bAa (k:=k) i (oJ h hi)
  have h4:((256:Int)≠0)=True:=by simp
  simp only[bD hi,cond_true,aG hi,bd_s,aH (show([(i:Int)]:List Int).length≤34359738368 by simp),h4,gd_T,e,fM hs]) (fun rec s=>by simp only[bE,cond_false])]
 rfl
theorem aJ6 (k:Int)(b:List Int)(h:bF b):Kt k b=some (Dy k b):=by
 unfold Kt
 rw[aWr (k:=k) h.1 (fun rec i s hi hs=>by
  have e:=bAb (k:=k) i (oJ h hi)
  have h4:((256:Int)≠0)=True:=by simp
  simp only[bD hi,cond_true,aG hi,bd_s,aH (show([(i:Int)]:List Int).length≤34359738368 by simp),h4,gd_T,e,fM hs]) (fun rec s=>by simp only[bE,cond_false])]
 rfl
theorem Mi (b:List Int)(n:Int)(h:b.length≤34359738300):oV b n=some (lN b n):=by
 unfold oV lN enc1
 have e:(decide (n<0)||decide (n>1000000000000))= !dD n 0 1000000000000:=by
  unfold dD;rw[Bool.eq_iff_iff];simp<;>omega
 rw[aH (show b.length≤34359738368 by omega),bd_s,Dx,bd_s,e]
 cases hr:dD n 0 1000000000000 with
 |false=>simp
 |true=>
  rw[Bool.not_true,cond_false,cond_true]
  exact aWq (aGx hr) h (fun rec n s h0 h1 h2=>by
   have h4:((128:Int)≠0)=True:=by simp
   have e1:decide (n≥128)=decide (n>127):=decide_eq_decide.2 (by omega)
   have e2:IntKind.u8.wrap (IntKind.i64.wrap (n.tmod 128+128))=n%128+128:=by rw[Int.tmod_eq_emod_of_nonneg h0,aS (by omega) (by omega),aH1 (by omega) (by omega)]
   have e3:IntKind.i64.wrap (n.tdiv 128)=n/128:=by rw[Int.tdiv_eq_ediv_of_nonneg h0,aS (by omega) (by omega)]
   simp only[h4,gd_T,e1,e2,e3,fM (s:=s) h2])
theorem F6 (l:List Int)(h:l.length≤5000000000):wO l=some (rF l):=by
 unfold wO
 rw[fH (l:=l) lN (fun i s=>s.length≤6*i) (fun s=>some s) (by omega) (by simp) (fun i s hi hv=>by have:=aH2 l[i];simp only[lN,List.length_append];omega) (fun rec i s hi hv=>by
  simp only[bD hi,cond_true,aG hi,bd_s,aH (show s.length≤34359738300 by omega)]) (fun rec s _=>by simp only[bE,cond_false]),aAp]
 rfl
theorem Py (b:D.Bundle)(h:b.sz≤34359738368):qK b=some (mO b):=by
 unfold qK mO
 rw[aH h,bd_s]
 cases hb:bB b with
 |false=>rfl
 |true=>
  have hl:=nM hb
  have hv:(oM b).length=1+4*b.Entries.length:=by simp[oM,rO];omega
  rw[Bool.not_true,cond_false,cond_true,fH (l:=b.Entries) (fun s e=>s++aTj e) (fun i s=>s.length≤1+4*i) (fun s=>some s) (by omega) (by simp) (fun i s hi hv=>by simp only[aTj,List.length_append,List.length_cons,List.length_nil];omega) (fun rec i s hi hv=>by
   have e:∀x y z w:Int,gd (bO s [x,y,z,w]) (rec (s++[x,y,z,w],i+1))=rec (s++[x,y,z,w],i+1):=fun _ _ _ _=>aH (by unfold bO;simp only[List.length_cons,List.length_nil];omega)
   simp only[bD hi,cond_true,aG hi,bd_s,Uj,kQ,e];rfl) (fun rec s _=>by simp only[bE,cond_false]),Vt,bd_s]
  rw[aH (show([(b.Entries.length:Int)]++oL b.Entries).length≤5000000000 by show(oM b).length≤_;omega),bd_s]
  rfl
theorem bAc (k:Int)(b:D.Bundle):(Dy k (mO b)).length≤34359738200:=by have:=aPx b;rw[aTl];omega
theorem F7 (k e v:Int)(b:D.Bundle)(h:b.sz≤34359738368):wP k e v b=some (sK k e v b):=by
 unfold wP sK aWk jQ
 simp only[aH h,bd_s,aH (show[(223:Int),e,v].length≤34359738300 by simp),aH (aH6 b),aH (bAc (gD k [223,e,v]) b)]
 cases eG k<;>cases dD e 0 1000000<;>cases dD v 0 1000000<;>cases bB b<;>rfl
theorem F8 (k e v:Int)(b:D.Bundle)(h:b.sz≤34359738368):wD k e v b=some (sK k e v b):=by
 unfold wD sK aWk
 simp only[aH h,bd_s,aH (aH6 b),aH (bAc (jQ k e v) b)]
 cases eG k<;>cases dD e 0 1000000<;>cases dD v 0 1000000<;>cases bB b<;>rfl
theorem aAq (a b:D.SealedBundle):zF a b=some (pO a b):=by
 unfold zF pO
 cases decide (a.Epoch>b.Epoch)<;>cases(a.Epoch==b.Epoch)<;>rfl
theorem aAr (a b:D.SealedBundle):yO a b=some (pO a b):=by
 unfold yO pO
 cases decide (a.Epoch>b.Epoch)<;>cases(a.Epoch==b.Epoch)<;>rfl
theorem aWs {d:D.Device}(h:d.sz≤34359738368):d.Bundle.sz≤34359738368:=by simp only[D.Device.sz,D.Bundle.sz] at*;omega
theorem Vu (d:D.Device)(h:d.sz≤34359738368):tX d=some (fP d):=by
 unfold tX fP
 simp only[aH h,aH (aWs h),bd_s]
 cases(sK d.Key d.Epoch (IntKind.i64.wrap (d.Version+1)) d.Bundle).2<;>rfl
theorem Vv (d:D.Device)(h:d.sz≤34359738368):tC d=some (fP d):=by
 unfold tC fP
 simp only[aH h,aH (aWs h),bd_s]
 cases(sK d.Key d.Epoch (IntKind.i64.wrap (d.Version+1)) d.Bundle).2<;>rfl
theorem aP6 (c:D.Cloud)(s:D.SealedBundle)(h:c.sz≤34359738300∧s.sz≤34359738300):(bd (gd (c.sz≤34359738368) (some c)) fun z0=>bd (gd (c.Log.length≤34359738368) (some (eO c.Log))) fun z1=>bd (bif (s.Epoch !=z1) then some true else(bif decide ((c.History.length:Int)>0) then(bd (aT c.History (IntKind.i64.wrap ((c.History.length:Int)-1))) fun z3=>bd (some (pO s z3)) fun z4=>bif !z4 then some true else some (decide ((c.History.length:Int)≥60))) else some (decide ((c.History.length:Int)≥60)))) fun z2=>bif z2 then some (z0,false) else bd (gd (s.sz≤34359738368) (some s)) fun z3=>gd (bO z0.History [z3]) (some (D.Cloud.mk z0.Log z0.Boxes (z0.History++[z3]),true)))=some (gZ c s):=by
 obtain⟨h1,h2⟩:=h
 have hz:=h1
 simp only[D.Cloud.sz] at hz
 unfold gZ
 simp only[aH (show c.sz≤34359738368 by omega),aH (show c.Log.length≤34359738368 by omega),aH (show s.sz≤34359738368 by omega),bd_s,fM (show c.History.length≤34359738368 by omega)]
 by_cases h0:0<c.History.length
 ·have e2:aT c.History (IntKind.i64.wrap ((c.History.length:Int)-1))=some (c.History.getD (c.History.length-1) default):=by
   rw[aS (by omega) (by omega),aTf (by omega) (by omega)];congr 2;omega
  rw[decide_eq_true (show(c.History.length:Int)>0 by omega),e2]
  generalize c.History.getD (c.History.length-1) default=x
  simp only[bd_s,cond_true,Bool.true_and]
  cases(s.Epoch !=eO c.Log)<;>cases pO s x<;>cases decide ((c.History.length:Int)≥60)<;>rfl
 ·rw[decide_eq_false (show ¬(c.History.length:Int)>0 by omega)]
  cases(s.Epoch !=eO c.Log)<;>cases decide ((c.History.length:Int)≥60)<;>rfl
theorem Pz (c:D.Cloud)(s:D.SealedBundle)(h:c.sz≤34359738300∧s.sz≤34359738300):Ov c s=some (gZ c s):=aP6 c s h
theorem Qa (c:D.Cloud)(s:D.SealedBundle)(h:c.sz≤34359738300∧s.sz≤34359738300):Ou c s=some (gZ c s):=aP6 c s h
theorem aWt {w:D.World}{d:Int}(hz:w.sz≤10000000000)(h:((eD w d 0).2==0)=true):(dO (eD w d 0).1 d=true∧(fJ (eD w d 0).1 d).sz≤34359738368)∧((eD w d 0).1.Cloud.sz≤34359738300∧(fP (fJ (eD w d 0).1 d)).2.1.sz≤34359738300):=by
 obtain⟨⟨k1,k2⟩,k3,k4,k5⟩:=Zu h
 have hd:dO (eD w d 0).1 d=true:=by simp only[dO] at*;rw[k4];exact k2
 have h1:=(aVf hd).2.2.1
 have h2:=aJ2 (eD w d 0).1
 have h3:=(aPy (fJ (eD w d 0).1 d)).2
 have h4:w.Cloud.Log.length≤w.sz:=by simp only[D.World.sz,D.Cloud.sz];omega
 exact⟨⟨hd,by omega⟩,by omega,by simp only[D.SealedBundle.sz];omega⟩
theorem F9 (w:D.World)(d:Int)(hz:w.sz≤10000000000):wE w d=some (kY w d):=by
 unfold wE kY
 have hw:w.sz≤34359738368:=by omega
 simp only[aH (show w.sz≤34359738100 by omega),aH hw,bd_s,bne]
 cases hs:((eD w d 0).2==0) with
 |false=>rfl
 |true=>
  obtain⟨⟨k1,k2⟩,k3⟩:=aWt hz hs
  generalize(eD w d 0).1=x at*
  simp only[Bool.not_true,cond_false,Oj k1,bd_s,aH k2,aH k3,Dx]
  unfold upF
  cases(fP (fJ x d)).2.2<;>cases(gZ x.Cloud (fP (fJ x d)).2.1).2<;>rfl
theorem G5 (w:D.World)(d:Int)(hz:w.sz≤10000000000):wQ w d=some (kY w d):=by
 unfold wQ kY
 have hw:w.sz≤34359738368:=by omega
 simp only[aH (show w.sz≤34359738100 by omega),aH hw,bd_s,bne]
 cases hs:((eD w d 0).2==0) with
 |false=>rfl
 |true=>
  obtain⟨⟨k1,k2⟩,k3⟩:=aWt hz hs
  generalize(eD w d 0).1=x at*
  simp only[Bool.not_true,cond_false,Oj k1,bd_s,aH k2,aH k3]
  unfold upF
  cases(fP (fJ x d)).2.2<;>cases(gZ x.Cloud (fP (fJ x d)).2.1).2<;>rfl
abbrev WT:=Int×Int×List D.Device×List Bool×List D.LogEntry×Int×List D.Box×List D.SealedBundle×List D.Site×Int×Int×Int×Int×List D.KeeperHost×Int×List D.Notice
abbrev aEx (w:D.World):WT:=(w.Now,w.Seed,w.Devices,w.Stolen,w.Cloud.Log,w.Cloud.Boxes.Epoch,w.Cloud.Boxes.Boxes,w.Cloud.History,w.Sites,w.Vault.Salt,w.Vault.Threshold,w.Vault.Check,w.Vault.Masked,w.Hosts,w.Pin,w.Mail.Notices)
theorem Mj {τ:Type}{x:τ}{l:List Int}{g:D.World→Int→D.World×Bool}{A:List Int→D.World→D.World×Bool}(hA0:∀w,A [] w=(w,true))(hA1:∀i l w,A (i::l) w=bif (g w i).2 then A l (g w i).1 else(w,false))(Inv:Nat→D.World→Prop)(hI:∀i w (hi:i<l.length),Inv i w→(g w l[i]).2=true→Inv (i+1) (g w l[i]).1)
  {F:(Nat×WT→Option (τ⊕WT))→Nat×WT→Option (τ⊕WT)} (hF:∀rec i w (hi:i<l.length),Inv i w→F rec (i,aEx w)=bif !(g w l[i]).2 then some (.inl x) else rec (i+1,aEx (g w l[i]).1)) (hE:∀rec t,F rec (l.length,t)=some (.inr t)):
  ∀(k i n:Nat) (w:D.World),i+k=l.length→k<n→Inv i w→EV.bW n F (i,aEx w)=some (bif (A (l.drop i) w).2 then .inr (aEx (A (l.drop i) w).1) else .inl x)
 |0,i,n+1,w,h,_,_=>by
  have:i=l.length:=by omega
  subst this
  rw[kJ,hE,List.drop_length,hA0];rfl
 |k+1,i,n+1,w,h,hn,hv=>by
  have hi:i<l.length:=by omega
  rw[kJ,hF _ i w hi hv,List.drop_eq_getElem_cons hi,hA1]
  cases hg:(g w l[i]).2 with
  |false=>rfl
  |true=>exact Mj hA0 hA1 Inv hI hF hE k (i+1) n _ (by omega) (by omega) (hI i w hi hv hg)
theorem aVg {w:D.World}(h:dS w=true):(cZ w).length≤6:=by
 have h1:(cZ w).length≤w.Devices.length:=by unfold cZ;exact aAb
 simp only[dS,Bool.and_eq_true] at h
 have:=aGx h.1.1.1.1.1.1.2
 omega
def bD6 (i:Nat)(w:D.World):Prop:=w.Cloud.Log.length≤1000000000∧w.sz≤1000000000+i*1000000521
def bD7 (i:Nat)(w:D.World):Prop:=w.Cloud.Log.length≤1000000000∧w.sz≤7000003126+i*1000000020
theorem Vw (w:D.World)(hz:w.sz≤1000000000):uJ w=some (kR w):=by
 unfold uJ kR
 have hw:w.sz≤34359738368:=by omega
 simp only[aH hw,bd_s,aH (WOk.of' hw)]
 cases hc:dS w with
 |false=>rfl
 |true=>
  have h6:=aVg hc
  have hL:w.Cloud.Log.length≤w.sz:=by simp only[D.World.sz,D.Cloud.sz];omega
  rw[Bool.not_true,cond_false,Bool.true_and]
  rw[Mj (x:=(w,false)) (l:=cZ w) (g:=kY) (A:=iA) (fun _=>rfl) (fun _ _ _=>rfl) bD6 (fun i u hi hv hg=>by
   obtain⟨h1,h2⟩:=aQ9 hg
   obtain⟨h3,h4⟩:=hv
   exact⟨by rw[h1];exact h3,by simp only[Nat.add_mul];omega⟩) (fun rec i u hi hv=>by
   show(bif decide ((i:Int)<((cZ w).length:Int)) then(bd (aT (cZ w) (i:Int)) fun z5=>bd (gd (u.sz≤10000000000) (some (kY u z5))) fun z6=>bif !z6.snd then some (Sum.inl (w,false)) else rec (i+1,aEx z6.fst)) else some (Sum.inr (aEx u)))=_
   obtain⟨h3,h4⟩:=hv
   have:i*1000000521≤6*1000000521:=Nat.mul_le_mul_right _ (by omega)
   rw[bD hi,cond_true,aG hi,bd_s,aH (show u.sz≤10000000000 by omega),bd_s]) (fun rec t=>by simp only[bE,cond_false]) (cZ w).length 0 FUEL w (by omega) (by have:=gT;omega) ⟨by omega,by omega⟩,List.drop_zero]
  obtain⟨q1,q2⟩:=Bu (cZ w) w
  have q3:=Nat.mul_le_mul_right (w.Cloud.Log.length+521) h6
  cases hp:(iA (cZ w) w).2 with
  |false=>rfl
  |true=>
   generalize(iA (cZ w) w).1=v at q1 q2 ⊢
   rw[cond_true,nx_r,Mj (x:=(w,false)) (l:=cZ w) (g:=fun u i=>((eD u i 0).1,(eD u i 0).2==0)) (A:=lQ) (fun _=>rfl) (fun _ _ _=>rfl) bD7 (fun i u hi hv hg=>by
    obtain⟨_,h1,_,h2⟩:=Zu hg
    obtain⟨h3,h4⟩:=hv
    exact⟨by show(eD u _ 0).1.Cloud.Log.length≤_;rw[h1];exact h3,by simp only[Nat.add_mul];omega⟩) (fun rec i u hi hv=>by
    show(bif decide ((i:Int)<((cZ w).length:Int)) then(bd (aT (cZ w) (i:Int)) fun z5=>bd (gd (u.sz≤34359738100) (some (eD u z5 0))) fun z6=>bif z6.snd !=0 then some (Sum.inl (w,false)) else rec (i+1,aEx z6.fst)) else some (Sum.inr (aEx u)))=_
    obtain⟨h3,h4⟩:=hv
    have:i*1000000020≤6*1000000020:=Nat.mul_le_mul_right _ (by omega)
    rw[bD hi,cond_true,aG hi,bd_s,aH (show u.sz≤34359738100 by omega),bd_s];rfl) (fun rec t=>by simp only[bE,cond_false]) (cZ w).length 0 FUEL v (by omega) (by have:=gT;omega) ⟨by rw[q2];omega,by omega⟩,List.drop_zero]
   cases(lQ (cZ w) v).2<;>rfl
theorem Vx (w:D.World)(hz:w.sz≤1000000000):uK w=some (kR w):=by
 unfold uK kR
 have hw:w.sz≤34359738368:=by omega
 simp only[aH hw,bd_s,aH (WOk.of' hw)]
 cases hc:dS w with
 |false=>rfl
 |true=>
  have h6:=aVg hc
  have hL:w.Cloud.Log.length≤w.sz:=by simp only[D.World.sz,D.Cloud.sz];omega
  rw[Bool.not_true,cond_false,Bool.true_and]
  rw[Mj (x:=(w,false)) (l:=cZ w) (g:=kY) (A:=iA) (fun _=>rfl) (fun _ _ _=>rfl) bD6 (fun i u hi hv hg=>by
   obtain⟨h1,h2⟩:=aQ9 hg
   obtain⟨h3,h4⟩:=hv
   exact⟨by rw[h1];exact h3,by simp only[Nat.add_mul];omega⟩) (fun rec i u hi hv=>by
   show(bif decide ((i:Int)<((cZ w).length:Int)) then(bd (aT (cZ w) (i:Int)) fun z5=>bd (gd (u.sz≤10000000000) (some (kY u z5))) fun z6=>bif !z6.snd then some (Sum.inl (w,false)) else rec (i+1,aEx z6.fst)) else some (Sum.inr (aEx u)))=_
   obtain⟨h3,h4⟩:=hv
   have:i*1000000521≤6*1000000521:=Nat.mul_le_mul_right _ (by omega)
   rw[bD hi,cond_true,aG hi,bd_s,aH (show u.sz≤10000000000 by omega),bd_s]) (fun rec t=>by simp only[bE,cond_false]) (cZ w).length 0 FUEL w (by omega) (by have:=gT;omega) ⟨by omega,by omega⟩,List.drop_zero]
  obtain⟨q1,q2⟩:=Bu (cZ w) w
  have q3:=Nat.mul_le_mul_right (w.Cloud.Log.length+521) h6
  cases hp:(iA (cZ w) w).2 with
  |false=>rfl
  |true=>
   generalize(iA (cZ w) w).1=v at q1 q2 ⊢
   rw[cond_true,nx_r,Mj (x:=(w,false)) (l:=cZ w) (g:=fun u i=>((eD u i 0).1,(eD u i 0).2==0)) (A:=lQ) (fun _=>rfl) (fun _ _ _=>rfl) bD7 (fun i u hi hv hg=>by
    obtain⟨_,h1,_,h2⟩:=Zu hg
    obtain⟨h3,h4⟩:=hv
    exact⟨by show(eD u _ 0).1.Cloud.Log.length≤_;rw[h1];exact h3,by simp only[Nat.add_mul];omega⟩) (fun rec i u hi hv=>by
    show(bif decide ((i:Int)<((cZ w).length:Int)) then(bd (aT (cZ w) (i:Int)) fun z5=>bd (gd (u.sz≤34359738100) (some (eD u z5 0))) fun z6=>bif z6.snd !=0 then some (Sum.inl (w,false)) else rec (i+1,aEx z6.fst)) else some (Sum.inr (aEx u)))=_
    obtain⟨h3,h4⟩:=hv
    have:i*1000000020≤6*1000000020:=Nat.mul_le_mul_right _ (by omega)
    rw[bD hi,cond_true,aG hi,bd_s,aH (show u.sz≤34359738100 by omega),bd_s];rfl) (fun rec t=>by simp only[bE,cond_false]) (cZ w).length 0 FUEL v (by omega) (by have:=gT;omega) ⟨by rw[q2];omega,by omega⟩,List.drop_zero]
   cases(lQ (cZ w) v).2<;>rfl
end
end Go.VK
