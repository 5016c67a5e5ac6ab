import Derived.Test.YtlnjelnfjgjanaaGreatDoorXqPq
import Derived.Test.YtlnjelnfjgjanaaGreatDoorXqM
/- Printed by wip/tools: models, walks, proofs. -/
set_option linter.all false
set_option maxRecDepth 100000
set_option maxHeartbeats 4000000
namespace Go.VK
open Go.RowKit Go.Proofs
noncomputable section
open EV (cB)
def aYu {k:Int}{b:List Int}(hl:b.length<=34359738368){F:(List Int×Nat->Option (List Int))->List Int×Nat->Option (List Int)}
  (hF:∀rec i s (hi:i<b.length),s.length<=34359738368->F rec (s,i)=rec (s++[aTa k i b[i]],i+1)) (hE:∀rec s,F rec (s,b.length)=some s):EV.cB FUEL F ([],0)=some (jY k b):=by
 refine aHf (λi s=>i<=b.length/\s=(Im (λi z=>[aTa k i z]) 0 (b.take i),i)) b.length _ (by omega) ⟨by omega,by simp[Im]⟩ (λi s rec hi hv=> ?_) (λs rec hv=> ?_)
 ·obtain⟨_,rfl⟩:=hv
  refine .inl ⟨_,⟨hi,rfl⟩,?_⟩
  rw[hF rec i _ hi (by rw[oW,ca];omega),aBo hi,ce]
 ·obtain⟨_,rfl⟩:=hv
  rw[hE,fk];rfl
def aJs (k:Int)(b:List Int)(h:aT b):Nw k b=some (jY k b):=by
 unfold Nw
 rw[aYu (k:=k) h.1 (λrec i s hi hs=>by
  have e:=bDv (k:=k) i (sJ h hi)
  have h4:((256:Int)≠0)=True:=by simp
  simp only[dB hi,ac,aN hi,bd_s,aB (show([(i:Int)]:List Int).length<=34359738368 by simp),h4,gd_T,e,fK hs]) (λrec s=>by simp only[dF,ab])]
 rfl
def aJt (k:Int)(b:List Int)(h:aT b):Mj k b=some (jY k b):=by
 unfold Mj
 rw[aYu (k:=k) h.1 (λrec i s hi hs=>by
  have e:=bDw (k:=k) i (sJ h hi)
  have h4:((256:Int)≠0)=True:=by simp
  simp only[dB hi,ac,aN hi,bd_s,aB (show([(i:Int)]:List Int).length<=34359738368 by simp),h4,gd_T,e,fK hs]) (λrec s=>by simp only[dF,ab])]
 rfl
def Od (b:List Int)(n:Int)(h:b.length<=34359738300):tF b n=some (oZ b n):=by
 unfold tF oZ enc1
 have e:(decide (n<0)||decide (n>1000000000000))= !bH n 0 1000000000000:=by
  unfold bH;rw[eL];simp<;>omega
 rw[aB (show b.length<=34359738368 by omega),bd_s,wJ,bd_s,e]
 cases hr:bH n 0 1000000000000 with
 |false=>simp
 |true=>
  rw[ay,ab,ac]
  exact aYt (iE hr) h (λrec n s h0 h1 h2=>by
   have h4:((128:Int)≠0)=True:=by simp
   have e1:decide (n>=128)=decide (n>127):=cw.2 (by omega)
   have e2:IntKind.u8.wrap (IntKind.i64.wrap (n.tmod 128+128))=n%128+128:=by rw[co h0,aJ (by omega) (by omega),aHo (by omega) (by omega)]
   have e3:IntKind.i64.wrap (n.tdiv 128)=n/128:=by rw[jv h0,aJ (by omega) (by omega)]
   simp only[h4,gd_T,e1,e2,e3,fK (s:=s) h2])
def M7 (l:List Int)(h:l.length<=5000000000):zZ l=some (gG l):=by
 unfold zZ
 rw[eT (l:=l) oZ (λi s=>s.length<=6*i) (λs=>some s) (by omega) (by simp) (λi s hi hv=>by have:=Lj l[i];simp only[oZ,av];omega) (λrec i s hi hv=>by
  simp only[dB hi,ac,aN hi,bd_s,aB (show s.length<=34359738300 by omega)]) (λrec s _=>by simp only[dF,ab]),aBr]
 rfl
def Rq (b:D.aAC)(h:b.sz<=34359738368):uX b=some (lC b):=by
 unfold uX lC
 rw[aB h,bd_s]
 cases hb:aM b with
 |false=>rfl
 |true=>
  have hl:=lW hb
  have hv:(nA b).length=1+4*b.Entries.length:=by simp[nA,rD];omega
  rw[ay,ab,ac,eT (l:=b.Entries) (λs e=>s++aL1 e) (λi s=>s.length<=1+4*i) (λs=>some s) (by omega) (by simp) (λi s hi hv=>by simp only[aL1,av,au,bn];omega) (λrec i s hi hv=>by
   have e:∀x y z w:Int,gd (aS s [x,y,z,w]) (rec (s++[x,y,z,w],i+1))=rec (s++[x,y,z,w],i+1):=λ_ _ _ _=>aB (by unfold aS;simp only[au,bn];omega)
   simp only[dB hi,ac,aN hi,bd_s,xQ,kZ,e];rfl) (λrec s _=>by simp only[dF,ab]),Xh,bd_s]
  rw[aB (show([(b.Entries.length:Int)]++iJ b.Entries).length<=5000000000 by show(nA b).length<=_;omega),bd_s]
  rfl
def bE5 (k:Int)(b:D.aAC):(jY k (lC b)).length<=34359738200:=by have:=aOr b;rw[Lp];omega
def M8 (k e v:Int)(b:D.aAC)(h:b.sz<=34359738368):Aa k e v b=some (nC k e v b):=by
 unfold Aa nC gI jA
 simp only[aB h,bd_s,aB (show[(223:Int),e,v].length<=34359738300 by simp),aB (H5 b),aB (bE5 (aW k [223,e,v]) b)]
 cases bG k<;>cases bH e 0 1000000<;>cases bH v 0 1000000<;>cases aM b<;>rfl
def M9 (k e v:Int)(b:D.aAC)(h:b.sz<=34359738368):zI k e v b=some (nC k e v b):=by
 unfold zI nC gI
 simp only[aB h,bd_s,aB (H5 b),aB (bE5 (jA k e v) b)]
 cases bG k<;>cases bH e 0 1000000<;>cases bH v 0 1000000<;>cases aM b<;>rfl
def aBs (a b:D.aAA):De a b=some (mW a b):=by
 unfold De mW
 cases decide (a.Epoch>b.Epoch)<;>cases(a.Epoch==b.Epoch)<;>rfl
def aBt (a b:D.aAA):Ck a b=some (mW a b):=by
 unfold Ck mW
 cases decide (a.Epoch>b.Epoch)<;>cases(a.Epoch==b.Epoch)<;>rfl
def aYv {d:D.Device}(h:d.sz<=34359738368):d.aAC.sz<=34359738368:=by simp only[D.Device.sz,D.aAC.sz] at*;omega
def Xi (d:D.Device)(h:d.sz<=34359738368):xR d=some (dK d):=by
 unfold xR dK
 simp only[aB h,aB (aYv h),bd_s]
 cases(nC d.Key d.Epoch (IntKind.i64.wrap (d.Version+1)) d.aAC).2<;>rfl
def Xj (d:D.Device)(h:d.sz<=34359738368):xA d=some (dK d):=by
 unfold xA dK
 simp only[aB h,aB (aYv h),bd_s]
 cases(nC d.Key d.Epoch (IntKind.i64.wrap (d.Version+1)) d.aAC).2<;>rfl
def aPi (c:D.aAE)(s:D.aAA)(h:c.sz<=34359738300/\s.sz<=34359738300):(bd (gd (c.sz<=34359738368) (some c)) λz0=>bd (gd (c.Log.length<=34359738368) (some (aF c.Log))) λz1=>bd (bif (s.Epoch !=z1) then some true else(bif decide ((c.History.length:Int)>0) then(bd (bD c.History (IntKind.i64.wrap ((c.History.length:Int)-1))) λz3=>bd (some (mW s z3)) λz4=>bif !z4 then some true else some (decide ((c.History.length:Int)>=60))) else some (decide ((c.History.length:Int)>=60)))) λz2=>bif z2 then some (z0,false) else bd (gd (s.sz<=34359738368) (some s)) λz3=>gd (aS z0.History [z3]) (some (D.aAE.mk z0.Log z0.Boxes (z0.History++[z3]),true)))=some (dD c s):=by
 obtain⟨h1,h2⟩:=h
 have hz:=h1
 simp only[D.aAE.sz] at hz
 unfold dD
 simp only[aB (show c.sz<=34359738368 by omega),aB (show c.Log.length<=34359738368 by omega),aB (show s.sz<=34359738368 by omega),bd_s,fK (show c.History.length<=34359738368 by omega)]
 by_cases h0:0<c.History.length
 ·have e2:bD c.History (IntKind.i64.wrap ((c.History.length:Int)-1))=some (c.History.getD (c.History.length-1) default):=by
   rw[aJ (by omega) (by omega),sN (by omega) (by omega)];congr 2;omega
  rw[ao (show(c.History.length:Int)>0 by omega),e2]
  generalize c.History.getD (c.History.length-1) default=x
  simp only[bd_s,ac,cA]
  cases(s.Epoch !=aF c.Log)<;>cases mW s x<;>cases decide ((c.History.length:Int)>=60)<;>rfl
 ·rw[ap (show ¬(c.History.length:Int)>0 by omega)]
  cases(s.Epoch !=aF c.Log)<;>cases decide ((c.History.length:Int)>=60)<;>rfl
def Rt (c:D.aAE)(s:D.aAA)(h:c.sz<=34359738300/\s.sz<=34359738300):Rb c s=some (dD c s):=aPi c s h
def Ru (c:D.aAE)(s:D.aAA)(h:c.sz<=34359738300/\s.sz<=34359738300):Qz c s=some (dD c s):=aPi c s h
def aBM {w:D.World}{d:Int}(hz:w.sz<=10000000000)(h:((bY w d 0).2==0)=true):(aL (bY w d 0).1 d=true/\(aK (bY w d 0).1 d).sz<=34359738368)/\((bY w d 0).1.aAE.sz<=34359738300/\(dK (aK (bY w d 0).1 d)).2.1.sz<=34359738300):=by
 obtain⟨⟨k1,k2⟩,k3,k4,k5⟩:=Qj h
 have hd:aL (bY w d 0).1 d=true:=by simp only[aL] at*;rw[k4];exact k2
 have h1:=(aWn hd).2.2.1
 have h2:=aJq (bY w d 0).1
 have h3:=(Bn (aK (bY w d 0).1 d)).2
 have h4:w.aAE.Log.length<=w.sz:=by simp only[D.World.sz,D.aAE.sz];omega
 exact⟨⟨hd,by omega⟩,by omega,by simp only[D.aAA.sz];omega⟩
def aYw (w:D.World)(d:Int)(hz:w.sz<=10000000000):Ah w d=some (kK w d):=by
 unfold Ah kK
 have hw:w.sz<=34359738368:=by omega
 simp only[aB (show w.sz<=34359738100 by omega),aB hw,bd_s,bne]
 cases hs:((bY w d 0).2==0) with
 |false=>rfl
 |true=>
  obtain⟨⟨k1,k2⟩,k3⟩:=aBM hz hs
  generalize(bY w d 0).1=x at*
  simp only[ay,ab,rV k1,bd_s,aB k2,aB k3,wJ]
  unfold upF
  cases(dK (aK x d)).2.2<;>cases(dD x.aAE (dK (aK x d)).2.1).2<;>rfl
def N7 (w:D.World)(d:Int)(hz:w.sz<=10000000000):Ab w d=some (kK w d):=by
 unfold Ab kK
 have hw:w.sz<=34359738368:=by omega
 simp only[aB (show w.sz<=34359738100 by omega),aB hw,bd_s,bne]
 cases hs:((bY w d 0).2==0) with
 |false=>rfl
 |true=>
  obtain⟨⟨k1,k2⟩,k3⟩:=aBM hz hs
  generalize(bY w d 0).1=x at*
  simp only[ay,ab,rV k1,bd_s,aB k2,aB k3]
  unfold upF
  cases(dK (aK x d)).2.2<;>cases(dD x.aAE (dK (aK x d)).2.1).2<;>rfl
abbrev WT:=Int×Int×List D.Device×List Bool×List D.aAD×Int×List D.Box×List D.aAA×List D.Site×Int×Int×Int×Int×List D.aAF×Int×List D.aAO
abbrev aUa (w:D.World):WT:=(w.Now,w.Seed,w.Devices,w.Stolen,w.aAE.Log,w.aAE.Boxes.Epoch,w.aAE.Boxes.Boxes,w.aAE.History,w.Sites,w.aAP.Salt,w.aAP.Threshold,w.aAP.Check,w.aAP.Masked,w.Hosts,w.Pin,w.Mail.Notices)
def aJu {τ:Type}{x:τ}{l:List Int}{g:D.World->Int->D.World×Bool}{A:List Int->D.World->D.World×Bool}(hA0:∀w,A [] w=(w,true))(hA1:∀i l w,A (i::l) w=bif (g w i).2 then A l (g w i).1 else(w,false))(Inv:Nat->D.World->Prop)(hI:∀i w (hi:i<l.length),Inv i w->(g w l[i]).2=true->Inv (i+1) (g w l[i]).1)
  {F:(Nat×WT->Option (τ⊕WT))->Nat×WT->Option (τ⊕WT)} (hF:∀rec i w (hi:i<l.length),Inv i w->F rec (i,aUa w)=bif !(g w l[i]).2 then some (.inl x) else rec (i+1,aUa (g w l[i]).1)) (hE:∀rec t,F rec (l.length,t)=some (.inr t)):
  ∀(k i n:Nat) (w:D.World),i+k=l.length->k<n->Inv i w->EV.cB n F (i,aUa w)=some (bif (A (l.drop i) w).2 then .inr (aUa (A (l.drop i) w).1) else .inl x)
 |0,i,n+1,w,h,_,_=>by
  have:i=l.length:=by omega
  subst this
  rw[iP,hE,dl,hA0];rfl
 |k+1,i,n+1,w,h,hn,hv=>by
  have hi:i<l.length:=by omega
  rw[iP,hF _ i w hi hv,cn hi,hA1]
  cases hg:(g w l[i]).2 with
  |false=>rfl
  |true=>exact aJu hA0 hA1 Inv hI hF hE k (i+1) n _ (by omega) (by omega) (hI i w hi hv hg)
def bE6 {w:D.World}(h:aU w=true):(bX w).length<=6:=by
 have h1:(bX w).length<=w.Devices.length:=by unfold bX;exact aBc
 simp only[aU,aa] at h
 have:=iE h.1.1.1.1.1.1.2
 omega
def bOl (i:Nat)(w:D.World):Prop:=w.aAE.Log.length<=1000000000/\w.sz<=1000000000+i*1000000521
def bOm (i:Nat)(w:D.World):Prop:=w.aAE.Log.length<=1000000000/\w.sz<=7000003126+i*1000000020
def Xk (w:D.World)(hz:w.sz<=1000000000):xS w=some (iA w):=by
 unfold xS iA
 have hw:w.sz<=34359738368:=by omega
 simp only[aB hw,bd_s,aB (WOk.of' hw)]
 cases hc:aU w with
 |false=>rfl
 |true=>
  have h6:=bE6 hc
  have hL:w.aAE.Log.length<=w.sz:=by simp only[D.World.sz,D.aAE.sz];omega
  rw[ay,ab,cA]
  rw[aJu (x:=(w,false)) (l:=bX w) (g:=kK) (A:=gP) (λ_=>rfl) (λ_ _ _=>rfl) bOl (λi u hi hv hg=>by
   obtain⟨h1,h2⟩:=aX9 hg
   obtain⟨h3,h4⟩:=hv
   exact⟨by rw[h1];exact h3,by simp only[cX];omega⟩) (λrec i u hi hv=>by
   show(bif decide ((i:Int)<((bX w).length:Int)) then(bd (bD (bX w) (i:Int)) λz5=>bd (gd (u.sz<=10000000000) (some (kK u z5))) λz6=>bif !z6.2 then some (Sum.inl (w,false)) else rec (i+1,aUa z6.1)) else some (Sum.inr (aUa u)))=_
   obtain⟨h3,h4⟩:=hv
   have:i*1000000521<=6*1000000521:=db _ (by omega)
   rw[dB hi,ac,aN hi,bd_s,aB (show u.sz<=10000000000 by omega),bd_s]) (λrec t=>by simp only[dF,ab]) (bX w).length 0 FUEL w (by omega) (by have:=gL;omega) ⟨by omega,by omega⟩,fh]
  obtain⟨q1,q2⟩:=Vz (bX w) w
  have q3:=db (w.aAE.Log.length+521) h6
  cases hp:(gP (bX w) w).2 with
  |false=>rfl
  |true=>
   generalize(gP (bX w) w).1=v at q1 q2 ⊢
   rw[ac,nx_r,aJu (x:=(w,false)) (l:=bX w) (g:=λu i=>((bY u i 0).1,(bY u i 0).2==0)) (A:=lD) (λ_=>rfl) (λ_ _ _=>rfl) bOm (λi u hi hv hg=>by
    obtain⟨_,h1,_,h2⟩:=Qj hg
    obtain⟨h3,h4⟩:=hv
    exact⟨by show(bY u _ 0).1.aAE.Log.length<=_;rw[h1];exact h3,by simp only[cX];omega⟩) (λrec i u hi hv=>by
    show(bif decide ((i:Int)<((bX w).length:Int)) then(bd (bD (bX w) (i:Int)) λz5=>bd (gd (u.sz<=34359738100) (some (bY u z5 0))) λz6=>bif z6.2 !=0 then some (Sum.inl (w,false)) else rec (i+1,aUa z6.1)) else some (Sum.inr (aUa u)))=_
    obtain⟨h3,h4⟩:=hv
    have:i*1000000020<=6*1000000020:=db _ (by omega)
    rw[dB hi,ac,aN hi,bd_s,aB (show u.sz<=34359738100 by omega),bd_s];rfl) (λrec t=>by simp only[dF,ab]) (bX w).length 0 FUEL v (by omega) (by have:=gL;omega) ⟨by rw[q2];omega,by omega⟩,fh]
   cases(lD (bX w) v).2<;>rfl
end
end Go.VK
