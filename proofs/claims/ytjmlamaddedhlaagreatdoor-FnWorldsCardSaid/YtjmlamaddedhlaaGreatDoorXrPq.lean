import Derived.Test.YtjmlamaddedhlaaGreatDoorXrPp
import Derived.Test.YtjmlamaddedhlaaGreatDoorXrM
/- Printed by wip/tools: models, walks, proofs. -/
set_option linter.all false
set_option maxRecDepth 100000
set_option maxHeartbeats 4000000
namespace Go.VK
open Go.RowKit Go.Proofs
noncomputable section
open EV (bO)
def aWe {F:(Int×List Int->Option (Int×List Int))->Int×List Int->Option (Int×List Int)}{n:Int}{b:List Int}(hk:0<=n/\n<=1000000000000)(hb:b.length<=34359738300)
  (hF:∀rec (n:Int) (s:List Int),0<=n->n<9223372036854775807->s.length<=34359738368->F rec (n,s)=bif decide (n>127) then rec (n/128,s++[n%128+128]) else some (n,s)):
  (bd (EV.bO FUEL F (n,b)) λz=>gd (aS z.2 [IntKind.u8.wrap z.1]) (some (z.2++[IntKind.u8.wrap z.1])))=some (b++N8 5 n):=by
 have h7:(128:Int)^(5+1)=4398046511104:=by decide
 obtain⟨m,q,e1,e2,e3,e4⟩:=aRe hF 5 n b FUEL (by have:=fP;omega) hk.1 (by omega) (by omega) (by omega)
 have hq:q.length<=34359738368:=by
  have h1:=congrArg List.length e2
  have h2:=(aOx 5 n).2
  simp only[aw,dw] at h1;omega
 rw[e1,bd_s]
 simp only[aGy e3 (show m<=255 by omega)]
 rw[fB (s:=q) hq,e2]
def Jv (b:List Int)(n:Int)(h:b.length<=34359738300):pW b n=some (mQ b n):=by
 unfold pW mQ enc1
 rw[mP (by omega)]
 cases hr:bE n 0 1000000000000 with
 |false=>simp
 |true=>
  rw[bl,ac,ae,bh]
  exact aWe (gX hr) h (λrec n s h0 h1 h2=>by
   show(bif decide (n>127) then gd (aS s [IntKind.u8.wrap (orI .i64 (kR .i64 n 127) 128)]) (gd ((0:Int)<=7) (rec (yB .i64 n 7,s++[IntKind.u8.wrap (orI .i64 (kR .i64 n 127) 128)]))) else some (n,s))=_
   rw[bDu h0 (by omega),bHk (iS _ (by decide)) (ib _ (by decide)),bI4 h0,aGy (by omega) (by omega),fB (s:=s) h2,aA (show(0:Int)<=7 by decide)])
def Y6:∀(l s:List Int),l.foldl mQ s=s++eU l
 |[],s=>by simp[eU]
 |x::l,s=>by rw[cM,Y6 l,oI,mQ,ca]
def Zm (l:List Int)(h:l.length<=5000000000):xA l=some (eU l):=by
 unfold xA
 rw[dP (l:=l) mQ (λi s=>s.length<=6*i) (λs=>some s) (by omega) (by simp) (λi s hi hv=>by have:=Hw l[i];simp only[mQ,aw];omega) (λrec i s hi hv=>by
  simp only[bY hi,ae,aK hi,bd_s,aA (show s.length<=34359738300 by omega)]) (λrec s _=>by simp only[cB,ac]),Y6]
 rfl
def Sy:∀(l:List D.Entry) (s:List Int),l.foldl (λs e=>s++aKq e) s=s++gJ l
 |[],s=>by simp[gJ]
 |x::l,s=>by rw[cM,Sy l];simp[gJ]
def Mt (b:D.aAC)(h:b.sz<=34359738368):rC b=some (jZ b):=by
 unfold rC jZ
 rw[aA h,bd_s]
 cases hb:aI b with
 |false=>rfl
 |true=>
  have hl:=kL hb
  have hv:(lK b).length=1+4*b.Entries.length:=by simp[lK,oJ];omega
  rw[bl,ac,ae,dP (l:=b.Entries) (λs e=>s++aKq e) (λi s=>s.length<=1+4*i) (λs=>some s) (by omega) (by simp) (λi s hi hv=>by simp only[aKq,aw,az,ce];omega) (λrec i s hi hv=>by
   have e:∀x y z w:Int,gd (aS s [x,y,z,w]) (some (s++[x,y,z,w]))=some (s++[x,y,z,w]):=λ_ _ _ _=>aA (by unfold aS;simp only[az,ce];omega)
   simp only[bY hi,ae,aK hi,bd_s,iK,e];rfl) (λrec s _=>by simp only[cB,ac]),Sy,bd_s]
  rw[aA (show([(b.Entries.length:Int)]++gJ b.Entries).length<=5000000000 by show(lK b).length<=_;omega),bd_s]
  rfl
def Zn (a b:List Int)(h:aQ a/\aQ b):xI a b=some (a==b):=by
 obtain⟨ha,hb⟩:=h
 have h1:=ha.1
 have h2:=hb.1
 unfold xI
 rw[aA (by omega),aA (by omega),aFe,aFe,ByteArray.toList_eq,ByteArray.toList_eq,aM9,aM9]
 congr 1
 rw[eu,cF,cF]
 exact⟨λh=>bytes_inj (Hz ha) (Hz hb) h,λh=>by rw[h]⟩
def bJw {v:List Int}{i:Nat}(h:4*i+3<v.length):v.drop (4*i)=v[4*i]::v[4*i+1]::v[4*i+2]::v[4*i+3]::v.drop (4*(i+1)):=by
 rw[cj (show 4*i<v.length by omega),cj (show 4*i+1<v.length by omega),cj (show 4*i+1+1<v.length by omega),cj (show 4*i+1+1+1<v.length by omega)];rfl
def aSc {v:List Int}{k:Nat}(hv:v.length=4*k)(hk:k<=20){τ:Type}{x:τ}{F:(Nat×List D.Entry->Option (τ⊕List D.Entry))->Nat×List D.Entry->Option (τ⊕List D.Entry)}
  (hF:∀rec i s (hi:i<k) (h:4*i+3<v.length),s.length<=100->F rec (i,s)=bif decide (v[4*i+3]>1) then some (.inl x) else rec (i+1,s++[⟨v[4*i],v[4*i+1],v[4*i+2],v[4*i+3]==1⟩])) (hE:∀rec s,F rec (k,s)=some (.inr s)):
  ∀(m i n:Nat) (s:List D.Entry),i+m=k->m<n->s.length<=i->EV.bO n F (i,s)=some (bif iL (v.drop (4*i)) then .inr (s++jG (v.drop (4*i))) else .inl x)
 |0,i,n+1,s,h,_,_=>by
  have:i=k:=by omega
  subst this
  rw[iT,hE,fv (by omega)];simp[iL,jG]
 |m+1,i,n+1,s,h,hn,hs=>by
  have h4:4*i+3<v.length:=by omega
  rw[iT,hF _ i s (by omega) h4 (by omega),bJw h4]
  simp only[iL,jG]
  by_cases hg:v[4*i+3]>1
  ·rw[ap hg,aq (show ¬v[4*i+3]<=1 by omega)];rfl
  ·rw[aq hg,ap (show v[4*i+3]<=1 by omega),ac,dc,aSc hv hk hF hE m (i+1) n _ (by omega) (by omega) (by simp;omega)]
   simp
def aSd {a:List Int}(hb:aQ a)(hc:(!(rR a 0).2.2||decide ((rR a 0).1>20))=false):∃(n:Int) (q:Nat),rR a 0=(n,(q:Int),true)/\0<=n/\n<=20/\q<=a.length:=by
 simp only[bv,en,eI] at hc
 cases hu:rR a 0 with
 |mk n r=>
  obtain⟨e,ok⟩:=r
  rw[hu] at hc
  obtain⟨rfl,hc2⟩:=hc
  obtain⟨q,⟨_,g1,g2,g3,g4⟩,_⟩:=aOy hb hu
  exact⟨n,q,by rw[g3],g1,by simp only at hc2;omega,g4⟩
def aSe {a:List Int}{e c:Int}(h0:0<=c)(h1:c<=100)(h2:0<=e)(h3:e<=a.length):fF a e c=iB a c.toNat e []:=by
 unfold fF bE
 rw[ap h0,ap h1,ap h2,ap h3];rfl
def aPg {v:List Int}{i j:Nat}{q:Int}(hq:q=(j:Int))(h:i+j<v.length):aZ (v.drop i) q=some v[i+j]:=by
 subst hq
 rw[aK (by rw[cp];omega),List.getElem_drop]
def Mv (a:List Int)(hb:aQ a):qW a=some (vW a):=by
 unfold qW vW
 rw[aA hb,bd_s,yX,bd_s]
 cases hc:(!(rR a 0).2.2||decide ((rR a 0).1>20)) with
 |true=>rfl
 |false=>
  obtain⟨n,q,hu,h0,h1,h2⟩:=aSd hb hc
  rw[hu,ac,ac]
  dsimp only
  rw[aH (n:=4*n) (by omega) (by omega),aA hb,bd_s,aSe (by omega) (by omega) (by omega) (by omega)]
  cases hd:iB a (4*n).toNat (q:Int) [] with
  |mk v r=>
   obtain⟨e,ok⟩:=r
   dsimp only
   rw[yX,bd_s]
   unfold aRh
   cases ok with
   |false=>rfl
   |true=>
    dsimp only
    rw[bl,cE,cE]
    cases he:(e !=(a.length:Int)) with
    |true=>rfl
    |false=>
     obtain⟨t,q',⟨k1,k2,k3,k4,k5⟩,_⟩:=Hy hb _ _ _ _ _ (by omega) (by omega) hd
     rw[bh] at k1
     subst k1
     have hv:v.length=4*n.toNat:=by omega
     rw[ac,cE,aSc (x:=((D.aAC.mk [],false):D.aAC×Bool)) hv (by omega) (λrec i s hi h4 hs=>by
      have e1:decide ((i:Int)<n)=true:=ap (by omega)
      have e2:IntKind.i64.wrap (4*(i:Int))=((4*i:Nat):Int):=by rw[aH (by omega) (by omega)];omega
      have g0:aZ (v.drop (4*i)) 0=some (v[4*i]'(by omega)):=aPg (j:=0) rfl (by omega)
      have g1:aZ (v.drop (4*i)) 1=some (v[4*i+1]'(by omega)):=aPg (j:=1) rfl (by omega)
      have g2:aZ (v.drop (4*i)) 2=some (v[4*i+2]'(by omega)):=aPg (j:=2) rfl (by omega)
      have g3:aZ (v.drop (4*i)) 3=some v[4*i+3]:=aPg (j:=3) rfl h4
      simp only[e1,e2,bp,ae,aA (show jF v ((4*i:Nat):Int) from⟨by omega,by omega⟩),g0,g1,g2,g3,bd_s,fB (show s.length<=34359738368 by omega)]) (λrec s=>by
      rw[show decide (((n.toNat:Nat):Int)<n)=false from aq (by omega)];rfl) n.toNat 0 FUEL [] (by omega) (by have:=fP;omega) (by simp)]
     simp only[Nat.mul_zero,fu,bh]
     cases hf:iL v with
     |false=>rfl
     |true=>
      have hl:=Yk n.toNat v hv
      simp only[ae,nx_r]
      rw[aA (show(D.aAC.mk (jG v)).sz<=34359738368 by simp only[D.aAC.sz];omega),bd_s]
      cases aI ⟨jG v⟩<;>rfl
def aNp {a:List Int}(hb:aQ a){k:Nat}(hk:k<=20){τ:Type}{x:τ}{F:(Int×Nat×List D.Entry->Option (τ⊕List D.Entry))->Int×Nat×List D.Entry->Option (τ⊕List D.Entry)}
  (hF:∀rec (q:Nat) i s (hi:i<k),q<=a.length->s.length<=100->F rec ((q:Int),i,s)=bif !(iB a 4 q []).2.2 then some (.inl x) else rec ((iB a 4 q []).2.1,i+1,s++jG (iB a 4 q []).1)) (hE:∀rec e s,F rec (e,k,s)=some (.inr s)):
  ∀(m i n q:Nat) (s:List D.Entry),i+m=k->m<n->q<=a.length->s.length<=i->EV.bO n F ((q:Int),i,s)=some (bif (iB a (4*m) q []).2.2 then .inr (s++jG (iB a (4*m) q []).1) else .inl x)
 |0,i,n+1,q,s,h,_,_,_=>by
  have:i=k:=by omega
  subst this
  rw[iT,hE];simp[iB,jG]
 |m+1,i,n+1,q,s,h,hn,hq,hs=>by
  rw[iT,hF _ q i s (by omega) hq (by omega),show 4*(m+1)=4+4*m by omega,aGz 4 (4*m)]
  cases hd:iB a 4 (q:Int) [] with
  |mk l r=>
   obtain⟨e,ok⟩:=r
   cases ok with
   |false=>rfl
   |true=>
    obtain⟨t,q',⟨k1,k2,k3,k4,k5⟩,_⟩:=Hy hb _ _ _ _ _ (by omega) (by omega) hd
    rw[bh] at k1
    subst k1;subst k3
    have hl:(jG l).length=1:=Yk 1 l (by omega)
    simp only[bl,ac,ae]
    rw[aNp hb hk hF hE m (i+1) n q' _ (by omega) (by omega) k4 (by simp[hl];omega),aG0 (4*m) (q':Int) l]
    cases(iB a (4*m) (q':Int) []).2.2 with
    |false=>rfl
    |true=>simp[aRg 1 l _ (by omega)]
def four {l:List Int}(h:l.length=4):∃w x y z,l=[w,x,y,z]:=by
 match l,h with
 |[w,x,y,z],_=>exact⟨w,x,y,z,rfl⟩
def Mw (a:List Int)(hb:aQ a):rD a=some (vW a):=by
 unfold rD vW
 rw[aA hb,bd_s,yX,bd_s]
 cases hc:(!(rR a 0).2.2||decide ((rR a 0).1>20)) with
 |true=>rfl
 |false=>
  obtain⟨n,q,hu,h0,h1,h2⟩:=aSd hb hc
  rw[hu,ac,ac]
  dsimp only
  rw[aNp (x:=((D.aAC.mk [],false):D.aAC×Bool)) hb (k:=n.toNat) (by omega) (λrec q i s hi hq hs=>by
   have e1:decide ((i:Int)<n)=true:=ap (by omega)
   simp only[e1,ae,aA hb,bd_s,aSe (a:=a) (e:=(q:Int)) (c:=4) (by omega) (by omega) (by omega) (by omega),show Int.toNat 4=4 from rfl]
   cases hd:iB a 4 (q:Int) [] with
   |mk l r=>
    obtain⟨e,ok⟩:=r
    cases ok with
    |false=>rfl
    |true=>
     obtain⟨t,q',⟨k1,k2,_⟩,_⟩:=Hy hb _ _ _ _ _ (by omega) (by omega) hd
     rw[bh] at k1
     subst k1
     obtain⟨w,x,y,z,rfl⟩:=four k2
     simp only[bl,ac,show aZ [w,x,y,z] 0=some w from rfl,show aZ [w,x,y,z] 1=some x from rfl,show aZ [w,x,y,z] 2=some y from rfl,show aZ [w,x,y,z] 3=some z from rfl,bd_s,fB (show s.length<=34359738368 by omega)]
     rfl) (λrec e s=>by
   rw[show decide (((n.toNat:Nat):Int)<n)=false from aq (by omega)];rfl) n.toNat 0 FUEL q [] (by omega) (by have:=fP;omega) h2 (by simp)]
  rw[show(4*n).toNat=4*n.toNat by omega]
  unfold aRh
  cases hd:iB a (4*n.toNat) (q:Int) [] with
  |mk v r=>
   obtain⟨e,ok⟩:=r
   cases ok with
   |false=>rfl
   |true=>
    obtain⟨b1,b2,b3,b4⟩:=bAv hb hu h1 (show iB a (4*n).toNat (q:Int) []=(v,e,true) by rw[show(4*n).toNat=4*n.toNat by omega];exact hd)
    have hz:(D.aAC.mk (jG v)).sz<=34359738368:=by simp only[D.aAC.sz];omega
    simp only[ae,nx_r,bh,aA hz,bd_s,aA (show aQ (jZ ⟨jG v⟩)/\aQ a from⟨Yl _,hb⟩),yX]
    unfold jZ
    cases hbo:aI ⟨jG v⟩ with
    |false=>simp
    |true=>
     rw[ae]
     by_cases hq:eU (lK ⟨jG v⟩)=a
     ·obtain⟨c1,c2⟩:=b1.1 hq
      rw[hq,c1,c2];simp
     ·have:(e !=(a.length:Int)|| !iL v)=true:=by
       cases h3:(e !=(a.length:Int)) with
       |true=>rfl
       |false=>
        cases h4:iL v with
        |false=>rfl
        |true=>exact absurd (b1.2 ⟨by simpa using h3,h4⟩) hq
      rw[show(eU (lK ⟨jG v⟩)==a)=false by simpa using hq]
      simp only[bl,eJ,ae,cE,gn,this]
def Zo (k:Int)(s:D.aAA)(h:s.Data.length<=34359738200):wU k s=some (fK k s):=by
 unfold wU fK
 rw[aA h,aA (by simp)]
 simp only[bd_s,aA (show s.Data.length<=34359738368 by omega),aA (aOt (k:=aO k [223,s.Epoch,s.Version]) (show s.Data.length<=34359738368 by omega))]
 unfold iU
 cases bB k<;>cases bE s.Epoch 0 1000000<;>cases bE s.Version 0 1000000<;>cases(s.MAC !=fC k s)<;>rfl
def Zp (k:Int)(s:D.aAA)(h:s.Data.length<=34359738200):xJ k s=some (fK k s):=by
 unfold xJ fK
 rw[aA h,aA (show s.Data.length<=34359738368 by omega)]
 simp only[bd_s,aA (aOt (k:=iU k s.Epoch s.Version) (show s.Data.length<=34359738368 by omega))]
 cases bB k<;>cases bE s.Epoch 0 1000000<;>cases bE s.Version 0 1000000<;>cases(s.MAC !=fC k s)<;>rfl
def Zq (d:D.Device)(l:List D.aAB)(bx:D.aAD)(s:D.aAA)(h:d.sz<=34359738368/\l.length<=34359738368/\bx.sz<=34359738368/\s.Data.length<=34359738200):wV d l bx s=some (bW d l bx s):=by
 obtain⟨h1,h2,h3,h4⟩:=h
 have hdl:=eD l
 have hb:d.aAC.sz<=34359738368:=by simp only[D.Device.sz,D.aAC.sz] at*;omega
 unfold wV bW jM
 simp only[aA h1,aA h2,aA h3,aA h4,aA (show(aB l).length<=1099511627776 by omega),bd_s,yX,bif_and,bif_or,iK]
 have ho:=aNb (bF d.Store bx).1 s
 generalize fK (bF d.Store bx).1 s=o at ho ⊢
 simp only[aA (show d.aAC.sz<=34359738368/\o.1.sz<=34359738368 from⟨hb,by omega⟩),bd_s]
 cases !aV l|| !bS l d.Log with
 |true=>rfl
 |false=>
  cases !fM (aB l) (bC d.Store) with
  |true=>rfl
  |false=>
   cases bx.Epoch !=aJ l|| !(bF d.Store bx).2 with
   |true=>rfl
   |false=>
    cases decide (s.Epoch<aJ l)||(decide (s.Epoch<d.Epoch)||(s.Epoch==d.Epoch&&decide (s.Version<d.Version))) with
    |true=>rfl
    |false=>cases !o.2<;>cases !(fJ d.aAC o.1).2<;>rfl
def Zr (d:D.Device)(l:List D.aAB)(bx:D.aAD)(s:D.aAA)(h:d.sz<=34359738368/\l.length<=34359738368/\bx.sz<=34359738368/\s.Data.length<=34359738200):xK d l bx s=some (bW d l bx s):=by
 obtain⟨h1,h2,h3,h4⟩:=h
 have hdl:=eD l
 have hb:d.aAC.sz<=34359738368:=by simp only[D.Device.sz,D.aAC.sz] at*;omega
 unfold xK bW jM
 simp only[aA h1,aA h2,aA h3,aA h4,aA (show(aB l).length<=1099511627776 by omega),bd_s,yX,bif_and,bif_or,iK]
 have ho:=aNb (bF d.Store bx).1 s
 generalize fK (bF d.Store bx).1 s=o at ho ⊢
 simp only[aA (show d.aAC.sz<=34359738368/\o.1.sz<=34359738368 from⟨hb,by omega⟩),bd_s]
 cases !aV l|| !bS l d.Log with
 |true=>rfl
 |false=>
  cases !fM (aB l) (bC d.Store) with
  |true=>rfl
  |false=>
   cases bx.Epoch !=aJ l|| !(bF d.Store bx).2 with
   |true=>rfl
   |false=>
    cases decide (s.Epoch<aJ l)||(decide (s.Epoch<d.Epoch)||(s.Epoch==d.Epoch&&decide (s.Version<d.Version))) with
    |true=>rfl
    |false=>cases !o.2<;>cases !(fJ d.aAC o.1).2<;>rfl
def aYj {c:D.aAI}(h:c.sz<=34359738100)(b:Int):c.Log.length<=34359738100/\c.Boxes.sz<=34359738100/\(lC c b).1.Data.length<=34359738100:=by
 have hz:=h
 simp only[D.aAI.sz] at h
 refine⟨by omega,by simp only[D.aAD.sz] at*;omega,?_⟩
 unfold lC
 cases e:(decide (b<0)||decide (b>=(c.History.length:Int))) with
 |true=>simp
 |false=>
  have:=(aSa (b:=b) (show c.sz<=34359738368 by omega) (aTk e)).2
  have h1:=aOv (f:=D.aAA.sz) (l:=c.History) (i:=c.History.length-1-b.toNat) (by have:=aTk e;omega)
  simp only[ac]
  simp only[D.aAA.sz] at h1
  omega
def aIh (d:D.Device)(c:D.aAI)(b:Int)(h:d.sz<=34359738100/\c.sz<=34359738100):Jt d c b=some (bW d c.Log c.Boxes (lC c b).1):=by
 obtain⟨h1,h2⟩:=h
 obtain⟨k1,k2,k3⟩:=aYj h2 b
 unfold Jt
 rw[aA (show c.sz<=34359738368 by omega),bd_s,aA ⟨by omega,by omega,by omega,by omega⟩,bd_s]
end
end Go.VK
