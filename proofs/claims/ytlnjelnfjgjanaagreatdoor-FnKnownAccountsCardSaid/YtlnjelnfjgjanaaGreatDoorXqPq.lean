import Derived.Test.YtlnjelnfjgjanaaGreatDoorXqPp
import Derived.Test.YtlnjelnfjgjanaaGreatDoorXqM
/- Printed by wip/tools: models, walks, proofs. -/
set_option linter.all false
set_option maxRecDepth 100000
set_option maxHeartbeats 4000000
namespace Go.VK
open Go.RowKit Go.Proofs
noncomputable section
open EV (cB)
def aYt {F:(Int×List Int->Option (Int×List Int))->Int×List Int->Option (Int×List Int)}{n:Int}{b:List Int}(hk:0<=n/\n<=1000000000000)(hb:b.length<=34359738300)
  (hF:∀rec (n:Int) (s:List Int),0<=n->n<9223372036854775807->s.length<=34359738368->F rec (n,s)=bif decide (n>127) then rec (n/128,s++[n%128+128]) else some (n,s)):
  (bd (EV.cB FUEL F (n,b)) λz=>gd (aS z.2 [IntKind.u8.wrap z.1]) (some (z.2++[IntKind.u8.wrap z.1])))=some (b++Y9 5 n):=by
 have h7:(128:Int)^(5+1)=4398046511104:=by decide
 obtain⟨m,q,e1,e2,e3,e4⟩:=aS6 hF 5 n b FUEL (by have:=gL;omega) hk.1 (by omega) (by omega) (by omega)
 have hq:q.length<=34359738368:=by
  have h1:=congrArg List.length e2
  have h2:=(aQl 5 n).2
  simp only[av,cW] at h1;omega
 rw[e1,bd_s]
 simp only[aHo e3 (show m<=255 by omega)]
 rw[fK (s:=q) hq,e2]
def Oc (b:List Int)(n:Int)(h:b.length<=34359738300):sZ b n=some (oZ b n):=by
 unfold sZ oZ enc1
 rw[lV (by omega)]
 cases hr:bH n 0 1000000000000 with
 |false=>simp
 |true=>
  rw[ay,ab,ac,bm]
  exact aYt (iE hr) h (λrec n s h0 h1 h2=>by
   show(bif decide (n>127) then gd (aS s [IntKind.u8.wrap (orI .i64 (sF .i64 n 127) 128)]) (gd ((0:Int)<=7) (rec (Kj .i64 n 7,s++[IntKind.u8.wrap (orI .i64 (sF .i64 n 127) 128)]))) else some (n,s))=_
   rw[bGq h0 (by omega),bJ8 (jo _ (by decide)) (iv _ (by decide)),bLo h0,aHo (by omega) (by omega),fK (s:=s) h2,aB (show(0:Int)<=7 by decide)])
def aBr:∀(l s:List Int),l.foldl oZ s=s++gG l
 |[],s=>by simp[gG]
 |x::l,s=>by rw[cV,aBr l,rC,oZ,ck]
def L9 (l:List Int)(h:l.length<=5000000000):zC l=some (gG l):=by
 unfold zC
 rw[eT (l:=l) oZ (λi s=>s.length<=6*i) (λs=>some s) (by omega) (by simp) (λi s hi hv=>by have:=Lj l[i];simp only[oZ,av];omega) (λrec i s hi hv=>by
  simp only[dB hi,ac,aN hi,bd_s,aB (show s.length<=34359738300 by omega)]) (λrec s _=>by simp only[dF,ab]),aBr]
 rfl
def Xh:∀(l:List D.Entry) (s:List Int),l.foldl (λs e=>s++aL1 e) s=s++iJ l
 |[],s=>by simp[iJ]
 |x::l,s=>by rw[cV,Xh l];simp[iJ]
def Rn (b:D.aAC)(h:b.sz<=34359738368):uP b=some (lC b):=by
 unfold uP lC
 rw[aB h,bd_s]
 cases hb:aM b with
 |false=>rfl
 |true=>
  have hl:=lW hb
  have hv:(nA b).length=1+4*b.Entries.length:=by simp[nA,rD];omega
  rw[ay,ab,ac,eT (l:=b.Entries) (λs e=>s++aL1 e) (λi s=>s.length<=1+4*i) (λs=>some s) (by omega) (by simp) (λi s hi hv=>by simp only[aL1,av,au,bn];omega) (λrec i s hi hv=>by
   have e:∀x y z w:Int,gd (aS s [x,y,z,w]) (some (s++[x,y,z,w]))=some (s++[x,y,z,w]):=λ_ _ _ _=>aB (by unfold aS;simp only[au,bn];omega)
   simp only[dB hi,ac,aN hi,bd_s,kZ,e];rfl) (λrec s _=>by simp only[dF,ab]),Xh,bd_s]
  rw[aB (show([(b.Entries.length:Int)]++iJ b.Entries).length<=5000000000 by show(nA b).length<=_;omega),bd_s]
  rfl
def M0 (a b:List Int)(h:aT a/\aT b):zK a b=some (a==b):=by
 obtain⟨ha,hb⟩:=h
 have h1:=ha.1
 have h2:=hb.1
 unfold zK
 rw[aB (by omega),aB (by omega),aF8,aF8,ByteArray.toList_eq,ByteArray.toList_eq,aOn,aOn]
 congr 1
 rw[eL,cN,cN]
 exact⟨λh=>bytes_inj (Lm ha) (Lm hb) h,λh=>by rw[h]⟩
def bMk {v:List Int}{i:Nat}(h:4*i+3<v.length):v.drop (4*i)=v[4*i]::v[4*i+1]::v[4*i+2]::v[4*i+3]::v.drop (4*(i+1)):=by
 rw[cn (show 4*i<v.length by omega),cn (show 4*i+1<v.length by omega),cn (show 4*i+1+1<v.length by omega),cn (show 4*i+1+1+1<v.length by omega)];rfl
def aT7 {v:List Int}{k:Nat}(hv:v.length=4*k)(hk:k<=20){τ:Type}{x:τ}{F:(Nat×List D.Entry->Option (τ⊕List D.Entry))->Nat×List D.Entry->Option (τ⊕List D.Entry)}
  (hF:∀rec i s (hi:i<k) (h:4*i+3<v.length),s.length<=100->F rec (i,s)=bif decide (v[4*i+3]>1) then some (.inl x) else rec (i+1,s++[⟨v[4*i],v[4*i+1],v[4*i+2],v[4*i+3]==1⟩])) (hE:∀rec s,F rec (k,s)=some (.inr s)):
  ∀(m i n:Nat) (s:List D.Entry),i+m=k->m<n->s.length<=i->EV.cB n F (i,s)=some (bif jK (v.drop (4*i)) then .inr (s++jW (v.drop (4*i))) else .inl x)
 |0,i,n+1,s,h,_,_=>by
  have:i=k:=by omega
  subst this
  rw[iP,hE,fN (by omega)];simp[jK,jW]
 |m+1,i,n+1,s,h,hn,hs=>by
  have h4:4*i+3<v.length:=by omega
  rw[iP,hF _ i s (by omega) h4 (by omega),bMk h4]
  simp only[jK,jW]
  by_cases hg:v[4*i+3]>1
  ·rw[ao hg,ap (show ¬v[4*i+3]<=1 by omega)];rfl
  ·rw[ap hg,ao (show v[4*i+3]<=1 by omega),ab,cA,aT7 hv hk hF hE m (i+1) n _ (by omega) (by omega) (by simp;omega)]
   simp
def aT8 {a:List Int}(hb:aT a)(hc:(!(vN a 0).2.2||decide ((vN a 0).1>20))=false):∃(n:Int) (q:Nat),vN a 0=(n,(q:Int),true)/\0<=n/\n<=20/\q<=a.length:=by
 simp only[cl,dw,dh] at hc
 cases hu:vN a 0 with
 |mk n r=>
  obtain⟨e,ok⟩:=r
  rw[hu] at hc
  obtain⟨rfl,hc2⟩:=hc
  obtain⟨q,⟨_,g1,g2,g3,g4⟩,_⟩:=aQm hb hu
  exact⟨n,q,by rw[g3],g1,by simp only at hc2;omega,g4⟩
def aT9 {a:List Int}{e c:Int}(h0:0<=c)(h1:c<=100)(h2:0<=e)(h3:e<=a.length):gN a e c=iZ a c.toNat e []:=by
 unfold gN bH
 rw[ao h0,ao h1,ao h2,ao h3];rfl
def aQ7 {v:List Int}{i j:Nat}{q:Int}(hq:q=(j:Int))(h:i+j<v.length):bD (v.drop i) q=some v[i+j]:=by
 subst hq
 rw[aN (by rw[ci];omega),List.getElem_drop]
def Ro (a:List Int)(hb:aT a):uV a=some (wK a):=by
 unfold uV wK
 rw[aB hb,bd_s,wJ,bd_s]
 cases hc:(!(vN a 0).2.2||decide ((vN a 0).1>20)) with
 |true=>rfl
 |false=>
  obtain⟨n,q,hu,h0,h1,h2⟩:=aT8 hb hc
  rw[hu,ab,ab]
  dsimp only
  rw[aJ (n:=4*n) (by omega) (by omega),aB hb,bd_s,aT9 (by omega) (by omega) (by omega) (by omega)]
  cases hd:iZ a (4*n).toNat (q:Int) [] with
  |mk v r=>
   obtain⟨e,ok⟩:=r
   dsimp only
   rw[wJ,bd_s]
   unfold aS9
   cases ok with
   |false=>rfl
   |true=>
    dsimp only
    rw[ay,cC,cC]
    cases he:(e !=(a.length:Int)) with
    |true=>rfl
    |false=>
     obtain⟨t,q',⟨k1,k2,k3,k4,k5⟩,_⟩:=Ll hb _ _ _ _ _ (by omega) (by omega) hd
     rw[bm] at k1
     subst k1
     have hv:v.length=4*n.toNat:=by omega
     rw[ab,cC,aT7 (x:=((D.aAC.mk [],false):D.aAC×Bool)) hv (by omega) (λrec i s hi h4 hs=>by
      have e1:decide ((i:Int)<n)=true:=ao (by omega)
      have e2:IntKind.i64.wrap (4*(i:Int))=((4*i:Nat):Int):=by rw[aJ (by omega) (by omega)];omega
      have g0:bD (v.drop (4*i)) 0=some (v[4*i]'(by omega)):=aQ7 (j:=0) rfl (by omega)
      have g1:bD (v.drop (4*i)) 1=some (v[4*i+1]'(by omega)):=aQ7 (j:=1) rfl (by omega)
      have g2:bD (v.drop (4*i)) 2=some (v[4*i+2]'(by omega)):=aQ7 (j:=2) rfl (by omega)
      have g3:bD (v.drop (4*i)) 3=some v[4*i+3]:=aQ7 (j:=3) rfl h4
      simp only[e1,e2,bv,ac,aB (show iQ v ((4*i:Nat):Int) from⟨by omega,by omega⟩),g0,g1,g2,g3,bd_s,fK (show s.length<=34359738368 by omega)]) (λrec s=>by
      rw[show decide (((n.toNat:Nat):Int)<n)=false from ap (by omega)];rfl) n.toNat 0 FUEL [] (by omega) (by have:=gL;omega) (by simp)]
     simp only[Nat.mul_zero,fh,bm]
     cases hf:jK v with
     |false=>rfl
     |true=>
      have hl:=G9 n.toNat v hv
      simp only[ac,nx_r]
      rw[aB (show(D.aAC.mk (jW v)).sz<=34359738368 by simp only[D.aAC.sz];omega),bd_s]
      cases aM ⟨jW v⟩<;>rfl
def aPg {a:List Int}(hb:aT a){k:Nat}(hk:k<=20){τ:Type}{x:τ}{F:(Int×Nat×List D.Entry->Option (τ⊕List D.Entry))->Int×Nat×List D.Entry->Option (τ⊕List D.Entry)}
  (hF:∀rec (q:Nat) i s (hi:i<k),q<=a.length->s.length<=100->F rec ((q:Int),i,s)=bif !(iZ a 4 q []).2.2 then some (.inl x) else rec ((iZ a 4 q []).2.1,i+1,s++jW (iZ a 4 q []).1)) (hE:∀rec e s,F rec (e,k,s)=some (.inr s)):
  ∀(m i n q:Nat) (s:List D.Entry),i+m=k->m<n->q<=a.length->s.length<=i->EV.cB n F ((q:Int),i,s)=some (bif (iZ a (4*m) q []).2.2 then .inr (s++jW (iZ a (4*m) q []).1) else .inl x)
 |0,i,n+1,q,s,h,_,_,_=>by
  have:i=k:=by omega
  subst this
  rw[iP,hE];simp[iZ,jW]
 |m+1,i,n+1,q,s,h,hn,hq,hs=>by
  rw[iP,hF _ q i s (by omega) hq (by omega),show 4*(m+1)=4+4*m by omega,aHp 4 (4*m)]
  cases hd:iZ a 4 (q:Int) [] with
  |mk l r=>
   obtain⟨e,ok⟩:=r
   cases ok with
   |false=>rfl
   |true=>
    obtain⟨t,q',⟨k1,k2,k3,k4,k5⟩,_⟩:=Ll hb _ _ _ _ _ (by omega) (by omega) hd
    rw[bm] at k1
    subst k1;subst k3
    have hl:(jW l).length=1:=G9 1 l (by omega)
    simp only[ay,ab,ac]
    rw[aPg hb hk hF hE m (i+1) n q' _ (by omega) (by omega) k4 (by simp[hl];omega),aHq (4*m) (q':Int) l]
    cases(iZ a (4*m) (q':Int) []).2.2 with
    |false=>rfl
    |true=>simp[aS8 1 l _ (by omega)]
def four {l:List Int}(h:l.length=4):∃w x y z,l=[w,x,y,z]:=by
 match l,h with
 |[w,x,y,z],_=>exact⟨w,x,y,z,rfl⟩
def Rp (a:List Int)(hb:aT a):uQ a=some (wK a):=by
 unfold uQ wK
 rw[aB hb,bd_s,wJ,bd_s]
 cases hc:(!(vN a 0).2.2||decide ((vN a 0).1>20)) with
 |true=>rfl
 |false=>
  obtain⟨n,q,hu,h0,h1,h2⟩:=aT8 hb hc
  rw[hu,ab,ab]
  dsimp only
  rw[aPg (x:=((D.aAC.mk [],false):D.aAC×Bool)) hb (k:=n.toNat) (by omega) (λrec q i s hi hq hs=>by
   have e1:decide ((i:Int)<n)=true:=ao (by omega)
   simp only[e1,ac,aB hb,bd_s,aT9 (a:=a) (e:=(q:Int)) (c:=4) (by omega) (by omega) (by omega) (by omega),show Int.toNat 4=4 from rfl]
   cases hd:iZ a 4 (q:Int) [] with
   |mk l r=>
    obtain⟨e,ok⟩:=r
    cases ok with
    |false=>rfl
    |true=>
     obtain⟨t,q',⟨k1,k2,_⟩,_⟩:=Ll hb _ _ _ _ _ (by omega) (by omega) hd
     rw[bm] at k1
     subst k1
     obtain⟨w,x,y,z,rfl⟩:=four k2
     simp only[ay,ab,show bD [w,x,y,z] 0=some w from rfl,show bD [w,x,y,z] 1=some x from rfl,show bD [w,x,y,z] 2=some y from rfl,show bD [w,x,y,z] 3=some z from rfl,bd_s,fK (show s.length<=34359738368 by omega)]
     rfl) (λrec e s=>by
   rw[show decide (((n.toNat:Nat):Int)<n)=false from ap (by omega)];rfl) n.toNat 0 FUEL q [] (by omega) (by have:=gL;omega) h2 (by simp)]
  rw[show(4*n).toNat=4*n.toNat by omega]
  unfold aS9
  cases hd:iZ a (4*n.toNat) (q:Int) [] with
  |mk v r=>
   obtain⟨e,ok⟩:=r
   cases ok with
   |false=>rfl
   |true=>
    obtain⟨b1,b2,b3,b4⟩:=bDt hb hu h1 (show iZ a (4*n).toNat (q:Int) []=(v,e,true) by rw[show(4*n).toNat=4*n.toNat by omega];exact hd)
    have hz:(D.aAC.mk (jW v)).sz<=34359738368:=by simp only[D.aAC.sz];omega
    simp only[ac,nx_r,bm,aB hz,bd_s,aB (show aT (lC ⟨jW v⟩)/\aT a from⟨H5 _,hb⟩),wJ]
    unfold lC
    cases hbo:aM ⟨jW v⟩ with
    |false=>simp
    |true=>
     rw[ac]
     by_cases hq:gG (nA ⟨jW v⟩)=a
     ·obtain⟨c1,c2⟩:=b1.1 hq
      rw[hq,c1,c2];simp
     ·have:(e !=(a.length:Int)|| !jK v)=true:=by
       cases h3:(e !=(a.length:Int)) with
       |true=>rfl
       |false=>
        cases h4:jK v with
        |false=>rfl
        |true=>exact absurd (b1.2 ⟨by simpa using h3,h4⟩) hq
      rw[show(gG (nA ⟨jW v⟩)==a)=false by simpa using hq]
      simp only[ay,dr,ac,cC,gu,this]
def M3 (k:Int)(s:D.aAA)(h:s.Data.length<=34359738200):zX k s=some (eH k s):=by
 unfold zX eH
 rw[aB h,aB (by simp)]
 simp only[bd_s,aB (show s.Data.length<=34359738368 by omega),aB (aQj (k:=aW k [223,s.Epoch,s.Version]) (show s.Data.length<=34359738368 by omega))]
 unfold jA
 cases bG k<;>cases bH s.Epoch 0 1000000<;>cases bH s.Version 0 1000000<;>cases(s.MAC !=fV k s)<;>rfl
def M4 (k:Int)(s:D.aAA)(h:s.Data.length<=34359738200):zL k s=some (eH k s):=by
 unfold zL eH
 rw[aB h,aB (show s.Data.length<=34359738368 by omega)]
 simp only[bd_s,aB (aQj (k:=jA k s.Epoch s.Version) (show s.Data.length<=34359738368 by omega))]
 cases bG k<;>cases bH s.Epoch 0 1000000<;>cases bH s.Version 0 1000000<;>cases(s.MAC !=fV k s)<;>rfl
def M5 (d:D.Device)(l:List D.aAD)(bx:D.aAG)(s:D.aAA)(h:d.sz<=34359738368/\l.length<=34359738368/\bx.sz<=34359738368/\s.Data.length<=34359738200):zY d l bx s=some (bQ d l bx s):=by
 obtain⟨h1,h2,h3,h4⟩:=h
 have hdl:=gD l
 have hb:d.aAC.sz<=34359738368:=by simp only[D.Device.sz,D.aAC.sz] at*;omega
 unfold zY bQ gZ
 simp only[aB h1,aB h2,aB h3,aB h4,aB (show(aD l).length<=1099511627776 by omega),bd_s,wJ,bif_and,bif_or,kZ]
 have ho:=aOp (bA d.Store bx).1 s
 generalize eH (bA d.Store bx).1 s=o at ho ⊢
 simp only[aB (show d.aAC.sz<=34359738368/\o.1.sz<=34359738368 from⟨hb,by omega⟩),bd_s]
 cases !bL l|| !dG l d.Log with
 |true=>rfl
 |false=>
  cases !gH (aD l) (bJ d.Store) with
  |true=>rfl
  |false=>
   cases bx.Epoch !=aF l|| !(bA d.Store bx).2 with
   |true=>rfl
   |false=>
    cases decide (s.Epoch<aF l)||(decide (s.Epoch<d.Epoch)||(s.Epoch==d.Epoch&&decide (s.Version<d.Version))) with
    |true=>rfl
    |false=>cases !o.2<;>cases !(fB d.aAC o.1).2<;>rfl
def M6 (d:D.Device)(l:List D.aAD)(bx:D.aAG)(s:D.aAA)(h:d.sz<=34359738368/\l.length<=34359738368/\bx.sz<=34359738368/\s.Data.length<=34359738200):zM d l bx s=some (bQ d l bx s):=by
 obtain⟨h1,h2,h3,h4⟩:=h
 have hdl:=gD l
 have hb:d.aAC.sz<=34359738368:=by simp only[D.Device.sz,D.aAC.sz] at*;omega
 unfold zM bQ gZ
 simp only[aB h1,aB h2,aB h3,aB h4,aB (show(aD l).length<=1099511627776 by omega),bd_s,wJ,bif_and,bif_or,kZ]
 have ho:=aOp (bA d.Store bx).1 s
 generalize eH (bA d.Store bx).1 s=o at ho ⊢
 simp only[aB (show d.aAC.sz<=34359738368/\o.1.sz<=34359738368 from⟨hb,by omega⟩),bd_s]
 cases !bL l|| !dG l d.Log with
 |true=>rfl
 |false=>
  cases !gH (aD l) (bJ d.Store) with
  |true=>rfl
  |false=>
   cases bx.Epoch !=aF l|| !(bA d.Store bx).2 with
   |true=>rfl
   |false=>
    cases decide (s.Epoch<aF l)||(decide (s.Epoch<d.Epoch)||(s.Epoch==d.Epoch&&decide (s.Version<d.Version))) with
    |true=>rfl
    |false=>cases !o.2<;>cases !(fB d.aAC o.1).2<;>rfl
def aPh {c:D.aAE}(h:c.sz<=34359738100)(b:Int):c.Log.length<=34359738100/\c.Boxes.sz<=34359738100/\(dW c b).1.Data.length<=34359738100:=by
 have hz:=h
 simp only[D.aAE.sz] at h
 refine⟨by omega,by simp only[D.aAG.sz] at*;omega,?_⟩
 unfold dW
 cases e:(decide (b<0)||decide (b>=(c.History.length:Int))) with
 |true=>simp
 |false=>
  have:=(aJo (b:=b) (show c.sz<=34359738368 by omega) (aQk e)).2
  have h1:=Fu (f:=D.aAA.sz) (l:=c.History) (i:=c.History.length-1-b.toNat) (by have:=aQk e;omega)
  simp only[ab]
  simp only[D.aAA.sz] at h1
  omega
def aJp (d:D.Device)(c:D.aAE)(b:Int)(h:d.sz<=34359738100/\c.sz<=34359738100):Nh d c b=some (bQ d c.Log c.Boxes (dW c b).1):=by
 obtain⟨h1,h2⟩:=h
 obtain⟨k1,k2,k3⟩:=aPh h2 b
 unfold Nh
 rw[aB (show c.sz<=34359738368 by omega),bd_s,aB ⟨by omega,by omega,by omega,by omega⟩,bd_s]
def aWn {w:D.World}{d:Int}(h:aL w d=true):0<=d/\d.toNat<w.Devices.length/\(aK w d).sz<=w.sz/\aK w d=w.Devices.getD d.toNat default:=by
 simp only[aL,aa,cb] at h
 have hi:d.toNat<w.Devices.length:=by omega
 have:=Fu (f:=D.Device.sz) hi
 refine⟨h.1,hi,?_,rfl⟩
 show(w.Devices.getD d.toNat default).sz<=_
 simp only[D.World.sz];omega
def aJq (w:D.World):w.aAE.sz<=w.sz:=by simp only[D.World.sz,D.aAE.sz,D.aAG.sz];omega
def bE4 (w:D.World)(d b:Int)(hz:w.sz<=34359738100):Oa w d b=some (bY w d b):=by
 have hcl:=aJq w
 unfold Oa bY
 rw[aB (show w.sz<=34359738368 by omega),bd_s,aB (show w.sz<=34359738368 by omega),bd_s]
 cases hc:(aU w&&aL w d) with
 |false=>rfl
 |true=>
  have hd:=(im.1 hc).2
  obtain⟨k1,k2,k3,k4⟩:=aWn hd
  rw[ay,ab,ac,rV hd,bd_s,aB ⟨by omega,by omega⟩,bd_s,bd_s]
def aJr (w:D.World)(d b:Int)(hz:w.sz<=34359738100):Nv w d b=some (bY w d b):=by
 have hcl:=aJq w
 unfold Nv bY
 rw[aB (show w.sz<=34359738368 by omega),bd_s,aB (show w.sz<=34359738368 by omega),bd_s,wJ,bd_s,<-Bool.not_and]
 cases hc:(aU w&&aL w d) with
 |false=>rfl
 |true=>
  have hd:=(im.1 hc).2
  obtain⟨k1,k2,k3,k4⟩:=aWn hd
  obtain⟨l1,l2,l3⟩:=aPh (show w.aAE.sz<=34359738100 by omega) b
  rw[ay,ab,ac,aB (show w.aAE.sz<=34359738368 by omega),bd_s,rV hd,bd_s,aB ⟨by omega,by omega,by omega,by omega⟩,bd_s,bd_s]
end
end Go.VK
