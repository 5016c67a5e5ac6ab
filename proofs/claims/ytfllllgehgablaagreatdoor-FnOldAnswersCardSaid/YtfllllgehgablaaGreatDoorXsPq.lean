import Derived.Test.YtfllllgehgablaaGreatDoorXsPp
import Derived.Test.YtfllllgehgablaaGreatDoorXsM
/- Printed by wip/tools: models, walks, proofs. -/
set_option linter.all false
set_option maxRecDepth 100000
set_option maxHeartbeats 4000000
namespace Go.VK
open Go.RowKit Go.Proofs
noncomputable section
open EV (bU)
def bIs {F:(Int×List Int->Option (Int×List Int))->Int×List Int->Option (Int×List Int)}{n:Int}{b:List Int}(hk:0<=n/\n<=1000000000000)(hb:b.length<=34359738300)
  (hF:∀rec (n:Int) (s:List Int),0<=n->n<9223372036854775807->s.length<=34359738368->F rec (n,s)=bif decide (n>127) then rec (n/128,s++[n%128+128]) else some (n,s)):
  (bd (EV.bU FUEL F (n,b)) λz=>gd (aW z.2 [IntKind.u8.wrap z.1]) (some (z.2++[IntKind.u8.wrap z.1])))=some (b++uvE 5 n):=by
 have h7:(128:Int)^(5+1)=4398046511104:=by decide
 obtain⟨m,q,e1,e2,e3,e4⟩:=aUe hF 5 n b FUEL (by have:=fO;omega) hk.1 (by omega) (by omega) (by omega)
 have hq:q.length<=34359738368:=by
  have h1:=congrArg List.length e2
  have h2:=(aRm 5 n).2
  simp only[aw,ct] at h1;omega
 rw[e1,bd_s]
 simp only[aUf e3 (show m<=255 by omega)]
 rw[fF (s:=q) hq,e2]
def Oa (b:List Int)(n:Int)(h:b.length<=34359738300):sQ b n=some (Lm b n):=by
 unfold sQ Lm enc1
 rw[lU (by omega)]
 cases hr:bI n 0 1000000000000 with
 |false=>simp
 |true=>
  rw[bf,ab,ae,bn]
  exact bIs (jS hr) h (λrec n s h0 h1 h2=>by
   show(bif decide (n>127) then gd (aW s [IntKind.u8.wrap (orI .i64 (mF .i64 n 127) 128)]) (gd ((0:Int)<=7) (rec (Bf .i64 n 7,s++[IntKind.u8.wrap (orI .i64 (mF .i64 n 127) 128)]))) else some (n,s))=_
   rw[bH8 h0 (by omega),bL2 (jl _ (by decide)) (io _ (by decide)),bNp h0,aUf (by omega) (by omega),fF (s:=s) h2,aB (show(0:Int)<=7 by decide)])
def aQc:∀(l s:List Int),l.foldl Lm s=s++gN l
 |[],s=>by simp[gN]
 |x::l,s=>by rw[dc,aQc l,rF,Lm,ce]
def N7 (l:List Int)(h:l.length<=5000000000):zH l=some (gN l):=by
 unfold zH
 rw[fV (l:=l) Lm (λi s=>s.length<=6*i) (λs=>some s) (by omega) (by simp) (λi s hi hv=>by have:=G7 l[i];simp only[Lm,aw];omega) (λrec i s hi hv=>by
  simp only[dL hi,ae,aM hi,bd_s,aB (show s.length<=34359738300 by omega)]) (λrec s _=>by simp only[dP,ab]),aQc]
 rfl
def aJ9:∀(l:List D.Entry) (s:List Int),l.foldl (λs e=>s++aUh e) s=s++iR l
 |[],s=>by simp[iR]
 |x::l,s=>by rw[dc,aJ9 l];simp[iR]
def Ri (b:D.aAF)(h:b.sz<=34359738368):uG b=some (oC b):=by
 unfold uG oC
 rw[aB h,bd_s]
 cases hb:aP b with
 |false=>rfl
 |true=>
  have hl:=nJ hb
  have hv:(qF b).length=1+4*b.Entries.length:=by simp[qF,vP];omega
  rw[bf,ab,ae,fV (l:=b.Entries) (λs e=>s++aUh e) (λi s=>s.length<=1+4*i) (λs=>some s) (by omega) (by simp) (λi s hi hv=>by simp only[aUh,aw,av,bo];omega) (λrec i s hi hv=>by
   have e:∀x y z w:Int,gd (aW s [x,y,z,w]) (some (s++[x,y,z,w]))=some (s++[x,y,z,w]):=λ_ _ _ _=>aB (by unfold aW;simp only[av,bo];omega)
   simp only[dL hi,ae,aM hi,bd_s,lF,e];rfl) (λrec s _=>by simp only[dP,ab]),aJ9,bd_s]
  rw[aB (show([(b.Entries.length:Int)]++iR b.Entries).length<=5000000000 by show(qF b).length<=_;omega),bd_s]
  rfl
def N8 (a b:List Int)(h:aQ a/\aQ b):zO a b=some (a==b):=by
 obtain⟨ha,hb⟩:=h
 have h1:=ha.1
 have h2:=hb.1
 unfold zO
 rw[aB (by omega),aB (by omega),aRl,aRl,ByteArray.toList_eq,ByteArray.toList_eq,aPf,aPf]
 congr 1
 rw[eR,cI,cI]
 exact⟨λh=>bytes_inj (Lr ha) (Lr hb) h,λh=>by rw[h]⟩
def bN1 {v:List Int}{i:Nat}(h:4*i+3<v.length):v.drop (4*i)=v[4*i]::v[4*i+1]::v[4*i+2]::v[4*i+3]::v.drop (4*(i+1)):=by
 rw[co (show 4*i<v.length by omega),co (show 4*i+1<v.length by omega),co (show 4*i+1+1<v.length by omega),co (show 4*i+1+1+1<v.length by omega)];rfl
def aVh {v:List Int}{k:Nat}(hv:v.length=4*k)(hk:k<=20){τ:Type}{x:τ}{F:(Nat×List D.Entry->Option (τ⊕List D.Entry))->Nat×List D.Entry->Option (τ⊕List D.Entry)}
  (hF:∀rec i s (hi:i<k) (h:4*i+3<v.length),s.length<=100->F rec (i,s)=bif decide (v[4*i+3]>1) then some (.inl x) else rec (i+1,s++[⟨v[4*i],v[4*i+1],v[4*i+2],v[4*i+3]==1⟩])) (hE:∀rec s,F rec (k,s)=some (.inr s)):
  ∀(m i n:Nat) (s:List D.Entry),i+m=k->m<n->s.length<=i->EV.bU n F (i,s)=some (bif jO (v.drop (4*i)) then .inr (s++kC (v.drop (4*i))) else .inl x)
 |0,i,n+1,s,h,_,_=>by
  have:i=k:=by omega
  subst this
  rw[gX,hE,fR (by omega)];simp[jO,kC]
 |m+1,i,n+1,s,h,hn,hs=>by
  have h4:4*i+3<v.length:=by omega
  rw[gX,hF _ i s (by omega) h4 (by omega),bN1 h4]
  simp only[jO,kC]
  by_cases hg:v[4*i+3]>1
  ·rw[ao hg,au (show ¬v[4*i+3]<=1 by omega)];rfl
  ·rw[au hg,ao (show v[4*i+3]<=1 by omega),ab,da,aVh hv hk hF hE m (i+1) n _ (by omega) (by omega) (by simp;omega)]
   simp
def aVi {a:List Int}(hb:aQ a)(hc:(!(vF a 0).2.2||decide ((vF a 0).1>20))=false):∃(n:Int) (q:Nat),vF a 0=(n,(q:Int),true)/\0<=n/\n<=20/\q<=a.length:=by
 simp only[cn,eh,di] at hc
 cases hu:vF a 0 with
 |mk n r=>
  obtain⟨e,ok⟩:=r
  rw[hu] at hc
  obtain⟨rfl,hc2⟩:=hc
  obtain⟨q,⟨_,g1,g2,g3,g4⟩,_⟩:=aRn hb hu
  exact⟨n,q,by rw[g3],g1,by simp only at hc2;omega,g4⟩
def aVj {a:List Int}{e c:Int}(h0:0<=c)(h1:c<=100)(h2:0<=e)(h3:e<=a.length):gQ a e c=jB a c.toNat e []:=by
 unfold gQ bI
 rw[ao h0,ao h1,ao h2,ao h3];rfl
def aR9 {v:List Int}{i j:Nat}{q:Int}(hq:q=(j:Int))(h:i+j<v.length):bA (v.drop i) q=some v[i+j]:=by
 subst hq
 rw[aM (by rw[ck];omega),List.getElem_drop]
def Rj (a:List Int)(hb:aQ a):uP a=some (wJ a):=by
 unfold uP wJ
 rw[aB hb,bd_s,zA,bd_s]
 cases hc:(!(vF a 0).2.2||decide ((vF a 0).1>20)) with
 |true=>rfl
 |false=>
  obtain⟨n,q,hu,h0,h1,h2⟩:=aVi hb hc
  rw[hu,ab,ab]
  dsimp only
  rw[aI (n:=4*n) (by omega) (by omega),aB hb,bd_s,aVj (by omega) (by omega) (by omega) (by omega)]
  cases hd:jB a (4*n).toNat (q:Int) [] with
  |mk v r=>
   obtain⟨e,ok⟩:=r
   dsimp only
   rw[zA,bd_s]
   unfold aUj
   cases ok with
   |false=>rfl
   |true=>
    dsimp only
    rw[bf,cL,cL]
    cases he:(e !=(a.length:Int)) with
    |true=>rfl
    |false=>
     obtain⟨t,q',⟨k1,k2,k3,k4,k5⟩,_⟩:=Lp hb _ _ _ _ _ (by omega) (by omega) hd
     rw[bn] at k1
     subst k1
     have hv:v.length=4*n.toNat:=by omega
     rw[ab,cL,aVh (x:=((D.aAF.mk [],false):D.aAF×Bool)) hv (by omega) (λrec i s hi h4 hs=>by
      have e1:decide ((i:Int)<n)=true:=ao (by omega)
      have e2:IntKind.i64.wrap (4*(i:Int))=((4*i:Nat):Int):=by rw[aI (by omega) (by omega)];omega
      have g0:bA (v.drop (4*i)) 0=some (v[4*i]'(by omega)):=aR9 (j:=0) rfl (by omega)
      have g1:bA (v.drop (4*i)) 1=some (v[4*i+1]'(by omega)):=aR9 (j:=1) rfl (by omega)
      have g2:bA (v.drop (4*i)) 2=some (v[4*i+2]'(by omega)):=aR9 (j:=2) rfl (by omega)
      have g3:bA (v.drop (4*i)) 3=some v[4*i+3]:=aR9 (j:=3) rfl h4
      simp only[e1,e2,cm,ae,aB (show jH v ((4*i:Nat):Int) from⟨by omega,by omega⟩),g0,g1,g2,g3,bd_s,fF (show s.length<=34359738368 by omega)]) (λrec s=>by
      rw[show decide (((n.toNat:Nat):Int)<n)=false from au (by omega)];rfl) n.toNat 0 FUEL [] (by omega) (by have:=fO;omega) (by simp)]
     simp only[Nat.mul_zero,gk,bn]
     cases hf:jO v with
     |false=>rfl
     |true=>
      have hl:=G9 n.toNat v hv
      simp only[ae,nx_r]
      rw[aB (show(D.aAF.mk (kC v)).sz<=34359738368 by simp only[D.aAF.sz];omega),bd_s]
      cases aP ⟨kC v⟩<;>rfl
def aQd {a:List Int}(hb:aQ a){k:Nat}(hk:k<=20){τ:Type}{x:τ}{F:(Int×Nat×List D.Entry->Option (τ⊕List D.Entry))->Int×Nat×List D.Entry->Option (τ⊕List D.Entry)}
  (hF:∀rec (q:Nat) i s (hi:i<k),q<=a.length->s.length<=100->F rec ((q:Int),i,s)=bif !(jB a 4 q []).2.2 then some (.inl x) else rec ((jB a 4 q []).2.1,i+1,s++kC (jB a 4 q []).1)) (hE:∀rec e s,F rec (e,k,s)=some (.inr s)):
  ∀(m i n q:Nat) (s:List D.Entry),i+m=k->m<n->q<=a.length->s.length<=i->EV.bU n F ((q:Int),i,s)=some (bif (jB a (4*m) q []).2.2 then .inr (s++kC (jB a (4*m) q []).1) else .inl x)
 |0,i,n+1,q,s,h,_,_,_=>by
  have:i=k:=by omega
  subst this
  rw[gX,hE];simp[jB,kC]
 |m+1,i,n+1,q,s,h,hn,hq,hs=>by
  rw[gX,hF _ q i s (by omega) hq (by omega),show 4*(m+1)=4+4*m by omega,aIe 4 (4*m)]
  cases hd:jB a 4 (q:Int) [] with
  |mk l r=>
   obtain⟨e,ok⟩:=r
   cases ok with
   |false=>rfl
   |true=>
    obtain⟨t,q',⟨k1,k2,k3,k4,k5⟩,_⟩:=Lp hb _ _ _ _ _ (by omega) (by omega) hd
    rw[bn] at k1
    subst k1;subst k3
    have hl:(kC l).length=1:=G9 1 l (by omega)
    simp only[bf,ab,ae]
    rw[aQd hb hk hF hE m (i+1) n q' _ (by omega) (by omega) k4 (by simp[hl];omega),aIf (4*m) (q':Int) l]
    cases(jB a (4*m) (q':Int) []).2.2 with
    |false=>rfl
    |true=>simp[aUi 1 l _ (by omega)]
def four {l:List Int}(h:l.length=4):∃w x y z,l=[w,x,y,z]:=by
 match l,h with
 |[w,x,y,z],_=>exact⟨w,x,y,z,rfl⟩
def Rk (a:List Int)(hb:aQ a):uH a=some (wJ a):=by
 unfold uH wJ
 rw[aB hb,bd_s,zA,bd_s]
 cases hc:(!(vF a 0).2.2||decide ((vF a 0).1>20)) with
 |true=>rfl
 |false=>
  obtain⟨n,q,hu,h0,h1,h2⟩:=aVi hb hc
  rw[hu,ab,ab]
  dsimp only
  rw[aQd (x:=((D.aAF.mk [],false):D.aAF×Bool)) hb (k:=n.toNat) (by omega) (λrec q i s hi hq hs=>by
   have e1:decide ((i:Int)<n)=true:=ao (by omega)
   simp only[e1,ae,aB hb,bd_s,aVj (a:=a) (e:=(q:Int)) (c:=4) (by omega) (by omega) (by omega) (by omega),show Int.toNat 4=4 from rfl]
   cases hd:jB a 4 (q:Int) [] with
   |mk l r=>
    obtain⟨e,ok⟩:=r
    cases ok with
    |false=>rfl
    |true=>
     obtain⟨t,q',⟨k1,k2,_⟩,_⟩:=Lp hb _ _ _ _ _ (by omega) (by omega) hd
     rw[bn] at k1
     subst k1
     obtain⟨w,x,y,z,rfl⟩:=four k2
     simp only[bf,ab,show bA [w,x,y,z] 0=some w from rfl,show bA [w,x,y,z] 1=some x from rfl,show bA [w,x,y,z] 2=some y from rfl,show bA [w,x,y,z] 3=some z from rfl,bd_s,fF (show s.length<=34359738368 by omega)]
     rfl) (λrec e s=>by
   rw[show decide (((n.toNat:Nat):Int)<n)=false from au (by omega)];rfl) n.toNat 0 FUEL q [] (by omega) (by have:=fO;omega) h2 (by simp)]
  rw[show(4*n).toNat=4*n.toNat by omega]
  unfold aUj
  cases hd:jB a (4*n.toNat) (q:Int) [] with
  |mk v r=>
   obtain⟨e,ok⟩:=r
   cases ok with
   |false=>rfl
   |true=>
    obtain⟨b1,b2,b3,b4⟩:=bE7 hb hu h1 (show jB a (4*n).toNat (q:Int) []=(v,e,true) by rw[show(4*n).toNat=4*n.toNat by omega];exact hd)
    have hz:(D.aAF.mk (kC v)).sz<=34359738368:=by simp only[D.aAF.sz];omega
    simp only[ae,nx_r,bn,aB hz,bd_s,aB (show aQ (oC ⟨kC v⟩)/\aQ a from⟨aIh _,hb⟩),zA]
    unfold oC
    cases hbo:aP ⟨kC v⟩ with
    |false=>simp
    |true=>
     rw[ae]
     by_cases hq:gN (qF ⟨kC v⟩)=a
     ·obtain⟨c1,c2⟩:=b1.1 hq
      rw[hq,c1,c2];simp
     ·have:(e !=(a.length:Int)|| !jO v)=true:=by
       cases h3:(e !=(a.length:Int)) with
       |true=>rfl
       |false=>
        cases h4:jO v with
        |false=>rfl
        |true=>exact absurd (b1.2 ⟨by simpa using h3,h4⟩) hq
      rw[show(gN (qF ⟨kC v⟩)==a)=false by simpa using hq]
      simp only[bf,dv,ae,cL,gb,this]
def N9 (k:Int)(s:D.aAA)(h:s.Data.length<=34359738200):Af k s=some (eU k s):=by
 unfold Af eU
 rw[aB h,aB (by simp)]
 simp only[bd_s,aB (show s.Data.length<=34359738368 by omega),aB (aRi (k:=aT k [223,s.Epoch,s.Version]) (show s.Data.length<=34359738368 by omega))]
 unfold jU
 cases bG k<;>cases bI s.Epoch 0 1000000<;>cases bI s.Version 0 1000000<;>cases(s.MAC !=gH k s)<;>rfl
def O0 (k:Int)(s:D.aAA)(h:s.Data.length<=34359738200):zP k s=some (eU k s):=by
 unfold zP eU
 rw[aB h,aB (show s.Data.length<=34359738368 by omega)]
 simp only[bd_s,aB (aRi (k:=jU k s.Epoch s.Version) (show s.Data.length<=34359738368 by omega))]
 cases bG k<;>cases bI s.Epoch 0 1000000<;>cases bI s.Version 0 1000000<;>cases(s.MAC !=gH k s)<;>rfl
def O1 (d:D.Device)(l:List D.aAC)(bx:D.aAE)(s:D.aAA)(h:d.sz<=34359738368/\l.length<=34359738368/\bx.sz<=34359738368/\s.Data.length<=34359738200):Ah d l bx s=some (bO d l bx s):=by
 obtain⟨h1,h2,h3,h4⟩:=h
 have hdl:=iD l
 have hb:d.aAF.sz<=34359738368:=by simp only[D.Device.sz,D.aAF.sz] at*;omega
 unfold Ah bO eQ
 simp only[aB h1,aB h2,aB h3,aB h4,aB (show(aD l).length<=1099511627776 by omega),bd_s,zA,bif_and,bif_or,lF]
 have ho:=aPh (bB d.Store bx).1 s
 generalize eU (bB d.Store bx).1 s=o at ho ⊢
 simp only[aB (show d.aAF.sz<=34359738368/\o.1.sz<=34359738368 from⟨hb,by omega⟩),bd_s]
 cases !bC l|| !bZ l d.Log with
 |true=>rfl
 |false=>
  cases !gM (aD l) (aY d.Store) with
  |true=>rfl
  |false=>
   cases bx.Epoch !=aJ l|| !(bB d.Store bx).2 with
   |true=>rfl
   |false=>
    cases decide (s.Epoch<aJ l)||(decide (s.Epoch<d.Epoch)||(s.Epoch==d.Epoch&&decide (s.Version<d.Version))) with
    |true=>rfl
    |false=>cases !o.2<;>cases !(gG d.aAF o.1).2<;>rfl
def O3 (d:D.Device)(l:List D.aAC)(bx:D.aAE)(s:D.aAA)(h:d.sz<=34359738368/\l.length<=34359738368/\bx.sz<=34359738368/\s.Data.length<=34359738200):zQ d l bx s=some (bO d l bx s):=by
 obtain⟨h1,h2,h3,h4⟩:=h
 have hdl:=iD l
 have hb:d.aAF.sz<=34359738368:=by simp only[D.Device.sz,D.aAF.sz] at*;omega
 unfold zQ bO eQ
 simp only[aB h1,aB h2,aB h3,aB h4,aB (show(aD l).length<=1099511627776 by omega),bd_s,zA,bif_and,bif_or,lF]
 have ho:=aPh (bB d.Store bx).1 s
 generalize eU (bB d.Store bx).1 s=o at ho ⊢
 simp only[aB (show d.aAF.sz<=34359738368/\o.1.sz<=34359738368 from⟨hb,by omega⟩),bd_s]
 cases !bC l|| !bZ l d.Log with
 |true=>rfl
 |false=>
  cases !gM (aD l) (aY d.Store) with
  |true=>rfl
  |false=>
   cases bx.Epoch !=aJ l|| !(bB d.Store bx).2 with
   |true=>rfl
   |false=>
    cases decide (s.Epoch<aJ l)||(decide (s.Epoch<d.Epoch)||(s.Epoch==d.Epoch&&decide (s.Version<d.Version))) with
    |true=>rfl
    |false=>cases !o.2<;>cases !(gG d.aAF o.1).2<;>rfl
def aQe {c:D.aAB}(h:c.sz<=34359738100)(b:Int):c.Log.length<=34359738100/\c.Boxes.sz<=34359738100/\(bN c b).1.Data.length<=34359738100:=by
 have hz:=h
 simp only[D.aAB.sz] at h
 refine⟨by omega,by simp only[D.aAE.sz] at*;omega,?_⟩
 unfold bN
 cases e:(decide (b<0)||decide (b>=(c.History.length:Int))) with
 |true=>simp
 |false=>
  have:=(aJ8 (b:=b) (show c.sz<=34359738368 by omega) (aRk e)).2
  have h1:=Gc (f:=D.aAA.sz) (l:=c.History) (i:=c.History.length-1-b.toNat) (by have:=aRk e;omega)
  simp only[ab]
  simp only[D.aAA.sz] at h1
  omega
def aKa (d:D.Device)(c:D.aAB)(b:Int)(h:d.sz<=34359738100/\c.sz<=34359738100):Nh d c b=some (bO d c.Log c.Boxes (bN c b).1):=by
 obtain⟨h1,h2⟩:=h
 obtain⟨k1,k2,k3⟩:=aQe h2 b
 unfold Nh
 rw[aB (show c.sz<=34359738368 by omega),bd_s,aB ⟨by omega,by omega,by omega,by omega⟩,bd_s]
def aBz {w:D.World}{d:Int}(h:aN w d=true):0<=d/\d.toNat<w.Devices.length/\(aO w d).sz<=w.sz/\aO w d=w.Devices.getD d.toNat default:=by
 simp only[aN,aa,bp] at h
 have hi:d.toNat<w.Devices.length:=by omega
 have:=Gc (f:=D.Device.sz) hi
 refine⟨h.1,hi,?_,rfl⟩
 show(w.Devices.getD d.toNat default).sz<=_
 simp only[D.World.sz];omega
def Oc (w:D.World):w.aAB.sz<=w.sz:=by simp only[D.World.sz,D.aAB.sz,D.aAE.sz];omega
def aKb (w:D.World)(d b:Int)(hz:w.sz<=34359738100):Nn w d b=some (aH w d b):=by
 have hcl:=Oc w
 unfold Nn aH
 rw[aB (show w.sz<=34359738368 by omega),bd_s,aB (show w.sz<=34359738368 by omega),bd_s]
 cases hc:(aV w&&aN w d) with
 |false=>rfl
 |true=>
  have hd:=(ie.1 hc).2
  obtain⟨k1,k2,k3,k4⟩:=aBz hd
  rw[bf,ab,ae,vE hd,bd_s,aB ⟨by omega,by omega⟩,bd_s,bd_s]
def aKc (w:D.World)(d b:Int)(hz:w.sz<=34359738100):Nw w d b=some (aH w d b):=by
 have hcl:=Oc w
 unfold Nw aH
 rw[aB (show w.sz<=34359738368 by omega),bd_s,aB (show w.sz<=34359738368 by omega),bd_s,zA,bd_s,<-Bool.not_and]
 cases hc:(aV w&&aN w d) with
 |false=>rfl
 |true=>
  have hd:=(ie.1 hc).2
  obtain⟨k1,k2,k3,k4⟩:=aBz hd
  obtain⟨l1,l2,l3⟩:=aQe (show w.aAB.sz<=34359738100 by omega) b
  rw[bf,ab,ae,aB (show w.aAB.sz<=34359738368 by omega),bd_s,vE hd,bd_s,aB ⟨by omega,by omega,by omega,by omega⟩,bd_s,bd_s]
end
end Go.VK
