import Derived.Test.YtlnjelnfjgjanaaGreatDoorXqPo
import Derived.Test.YtlnjelnfjgjanaaGreatDoorXqM
/- Printed by wip/tools: models, walks, proofs. -/
set_option linter.all false
set_option maxRecDepth 100000
set_option maxHeartbeats 4000000
namespace Go.VK
open Go.RowKit Go.Proofs
noncomputable section
open EV (cB)
def aT6 {a b:List D.aAD}(ha:a.length<=34359738368){F:(Nat->Option (Bool⊕PUnit))->Nat->Option (Bool⊕PUnit)}
  (hF:∀rec i (hi:i<b.length) (hj:i<a.length),F rec i=bif !bAd a[i] b[i] then some (.inl false) else rec (i+1)) (hE:∀rec,F rec b.length=some (.inr ())):
  (bif decide ((a.length:Int)<(b.length:Int)) then some false else nx (cB FUEL F 0) λ_=>some true)=some (dG a b):=by
 unfold dG
 by_cases h:b.length<=a.length
 ·rw[ap (show ¬(a.length:Int)<(b.length:Int) by omega),ab,ao h,cA,
   iG (l:=b) (λi e=> !bAd (a.getD i default) e) (.inl false) (.inr ()) (by omega) (λrec i hi=>by
    rw[hF rec i hi (by omega),List.getD,ae (show i<a.length by omega)];rfl) hE]
  cases gW (λi e=> !bAd (a.getD i default) e) 0 b<;>rfl
 ·rw[ao (show(a.length:Int)<(b.length:Int) by omega),ap h];rfl
def K8 (a b:List D.aAD)(h:a.length<=34359738368):zG a b=some (dG a b):=by
 unfold zG
 exact aT6 h (λrec i hi hj=>by simp only[dB hi,ac,aN hi,aN hj,bd_s];rfl) (λrec=>by simp only[dF,ab])
def K9 (a b:List D.aAD)(h:a.length<=34359738368):zU a b=some (dG a b):=by
 unfold zU
 exact aT6 h (λrec i hi hj=>by simp only[dB hi,ac,aN hi,aN hj,bd_s];rfl) (λrec=>by simp only[dF,ab])
def aBp (k:Int)(b:D.aAA)(h:b.Data.length<=34359738200):Cj k b=some (fV k b):=by
 unfold Cj fV
 rw[aB (by omega),bd_s,aB (by simp[aS,tX];omega),aB (by simp[tX];omega)];rfl
def aBq (k:Int)(b:D.aAA)(h:b.Data.length<=34359738200):Dc k b=some (fV k b):=by
 unfold Dc fV
 rw[aB (by omega),bd_s,aB (by simp[nX,tX];omega),bd_s,aB (by simp[tX,kI];omega)]
 simp[kI]
def aEz (k e v:Int):He k e v=some (bG k&&(bH e 0 1000000&&bH v 0 1000000)):=by
 unfold He
 cases bG k<;>cases bH e 0 1000000<;>rfl
def aMi (k e v:Int):Uu k e v=some (jA k e v):=by unfold Uu;rw[aB (by simp)];rfl
def yB (b:List Int)(hb:aT b)(p:Nat)(hp:p<=34359738368){F:(Int×Int×Nat->Option ((Int×Int×Bool)⊕PUnit))->Int×Int×Nat->Option ((Int×Int×Bool)⊕PUnit)}
  (hF:∀rec (n q:Int) (i:Nat),F rec (n,q,i)=bif decide ((i:Int)<6) then(bif decide (IntKind.i64.wrap ((p:Int)+(i:Int))>=(b.length:Int)) then some (.inl (0,0,false)) else bd (bD b (IntKind.i64.wrap ((p:Int)+(i:Int)))) λz=>gd ((128:Int)≠0) (bif decide (IntKind.i64.wrap z<128) then(bd (bif decide ((i:Int)>0) then(bif IntKind.i64.wrap z==0 then some true else some (decide (IntKind.i64.wrap (n+IntKind.i64.wrap ((IntKind.i64.wrap z).tmod 128*q))>1000000000000))) else some (decide (IntKind.i64.wrap (n+IntKind.i64.wrap ((IntKind.i64.wrap z).tmod 128*q))>1000000000000))) λc=>bif c then some (.inl (0,0,false)) else some (.inl (IntKind.i64.wrap (n+IntKind.i64.wrap ((IntKind.i64.wrap z).tmod 128*q)),IntKind.i64.wrap (IntKind.i64.wrap ((p:Int)+(i:Int))+1),true))) else rec (IntKind.i64.wrap (n+IntKind.i64.wrap ((IntKind.i64.wrap z).tmod 128*q)),IntKind.i64.wrap (q*128),i+1))) else some (.inr ())):
  ∀(k i:Nat) (n:Int) (f:Nat),i+k=6->k<f->0<=n->n<128^i->nx (cB f F (n,(128:Int)^i,i)) (λ_=>some ((0:Int),(0:Int),false))=some (uvG b p k i n)
 |0,i,n,f+1,hk,hf,h0,h1=>by
  rw[iP,hF,show decide ((i:Int)<6)=false from ap (by omega)];rfl
 |k+1,i,n,f+1,hk,hf,h0,h1=>by
  have hp128:=aQh (i:=i) (by omega)
  rw[iP,hF,show decide ((i:Int)<6)=true from ao (by omega),ac]
  rw[show IntKind.i64.wrap ((p:Int)+(i:Int))=((p+i:Nat):Int) by rw[aJ (by omega) (by omega)];omega]
  unfold uvG
  by_cases hlt:p+i<b.length
  ·have hz:=sJ hb hlt
   have hg:b.getD (p+i) 0=b[p+i]:=by simp[List.getD,ae hlt]
   rw[cz hlt,hg,aN hlt]
   generalize b[p+i]=z at hz
   rw[show decide (((p+i:Nat):Int)>=(b.length:Int))=false from ap (by omega)]
   have hs:=aQi (z:=z) (n:=n) (i:=i) (by omega) hz.1 h0 h1
   have hwz:IntKind.i64.wrap z=z:=aJ (by omega) (by omega)
   have htm:z.tmod 128=z%128:=co hz.1
   have hw1:IntKind.i64.wrap (z%128*128^i)=z%128*128^i:=aJ (by omega) (by omega)
   have hp6:=aQh (i:=i+1) (by omega)
   have hw2:IntKind.i64.wrap (n+z%128*128^i)=n+z%128*128^i:=aJ (by omega) (by omega)
   have hw3:IntKind.i64.wrap (((p+i:Nat):Int)+1)=((p+i+1:Nat):Int):=by rw[aJ (by omega) (by omega)];omega
   have hw4:IntKind.i64.wrap ((128:Int)^i*128)=128^(i+1):=by rw[<-eW,aJ (by omega) (by omega)]
   have h128n:((128:Int)≠0)=True:=by simp
   simp only[ab,bd_s,hwz,htm,hw1,hw2,hw3,hw4,h128n,gd_T]
   by_cases h128:z<128
   ·simp only[h128,decide_true,ac]
    have e:(decide ((i:Int)>0))=decide (0<i):=cw.2 (by omega)
    rw[e]
    cases decide (0<i)<;>cases(z==0)<;>cases decide (n+z%128*128^i>1000000000000)<;>rfl
   ·simp only[h128,decide_false,ab]
    exact yB b hb p hp hF k (i+1) _ f (by omega) (by omega) hs.1 hs.2.1
  ·rw[cR hlt,show decide (((p+i:Nat):Int)>=(b.length:Int))=true from ao (by omega)];rfl
def Xf (b:List Int)(a:Int)(hb:aT b):xO b a=some (vN b a):=by
 unfold xO vN
 have hf:=gL
 have hlen:=hb.1
 rw[wJ,bd_s]
 by_cases h0:a<0
 ·simp[h0]
 ·rw[cR h0,ap h0,cC]
  by_cases h1:a>=b.length
  ·rw[ao h1]
   unfold uvG
   rw[cR (by omega)]
   rfl
  ·rw[ap h1,ab]
   obtain⟨p,rfl⟩:=ex (show 0<=a by omega)
   exact yB b hb p (by omega) (λrec n q i=>rfl) 6 0 0 FUEL rfl (by omega) (by omega) (by decide)
def Gf (b:List Int)(c:Int)(hc:c<=100){F:(Int×List Int×Nat->Option ((List Int×Int×Bool)⊕(Int×List Int)))->Int×List Int×Nat->Option ((List Int×Int×Bool)⊕(Int×List Int))}
  (hF:∀rec (a:Int) (s:List Int) (i:Nat),s.length<=34359738368->F rec (a,s,i)=bif decide ((i:Int)<c) then(bif !(vN b a).2.2 then some (.inl ([],0,false)) else rec ((vN b a).2.1,s++[(vN b a).1],i+1)) else some (.inr (a,s))):
  ∀(k i:Nat) (a:Int) (s:List Int) (f:Nat),((i+k:Nat):Int)=c->k<f->s.length<=i->nx (cB f F (a,s,i)) (λz=>some (z.2,z.1,true))=some (iZ b k a s)
 |0,i,a,s,f+1,hk,hf,hs=>by
  rw[iP,hF _ _ _ _ (by omega),show decide ((i:Int)<c)=false from ap (by omega)];rfl
 |k+1,i,a,s,f+1,hk,hf,hs=>by
  rw[iP,hF _ _ _ _ (by omega),show decide ((i:Int)<c)=true from ao (by omega),ac]
  unfold iZ
  cases(vN b a).2.2 with
  |false=>rfl
  |true=>
   simp only[ay,ab,ac]
   exact Gf b c hc hF k (i+1) _ _ f (by omega) (by omega) (by simp;omega)
def L6 (b:List Int)(a c:Int)(hb:aT b):zW b a c=some (gN b a c):=by
 unfold zW gN bH
 by_cases h1:c<0
 ·simp[h1,show ¬0<=c by omega]
 ·by_cases h2:c>100
  ·simp[h1,h2,show ¬c<=100 by omega]
  ·by_cases h3:a<0
   ·simp[h1,h2,h3,show ¬0<=a by omega]
   ·by_cases h4:a>b.length
    ·simp[h1,h2,h3,h4,show ¬a<=b.length by omega]
    ·simp only[h1,h2,h3,h4,decide_false,ab,bd_s,show 0<=c by omega,show c<=100 by omega,show 0<=a by omega,show a<=b.length by omega,decide_true,gb,ay,Bool.or_self,ab]
     exact Gf b c (by omega) (λrec a s i hs=>by simp only[aB hb,bd_s,fK hs]) c.toNat 0 a [] FUEL (by omega) (by have:=gL;omega) (by simp)
def L8 (b:List Int)(a c:Int)(hb:aT b):zJ b a c=some (gN b a c):=by
 unfold zJ gN
 cases h1:bH c 0 100 with
 |false=>rfl
 |true=>
  cases h2:bH a 0 b.length with
  |false=>rfl
  |true=>
   have:=iE h1
   simp only[ay,ab,bd_s,Bool.or_self]
   exact Gf b c (by omega) (λrec a s i hs=>by simp only[aB hb,bd_s,fK hs]) c.toNat 0 a [] FUEL (by omega) (by have:=gL;omega) (by simp)
def yC (b:List Int)(hb:aT b)(a:Int)(ha:0<=a){F:(Int×Nat->Option ((Int×Int×Bool)⊕PUnit))->Int×Nat->Option ((Int×Int×Bool)⊕PUnit)}
  (hF:∀rec (n:Int) (i:Nat),F rec (n,i)=bif decide ((i:Int)<6) then(bd (bif decide (a<0) then some true else some (decide (a>=IntKind.i64.wrap ((b.length:Int)-(i:Int))))) λc=>bif c then some (.inl (0,0,false)) else bd (bD b (IntKind.i64.wrap (a+(i:Int)))) λz=>gd ((0:Int)<=IntKind.i64.wrap (7*(i:Int))) (bif decide (IntKind.i64.wrap z<128) then(bd (bif IntKind.i64.wrap z==0 then(bif decide ((i:Int)>0) then some true else some (decide (orI .i64 n (w9 .i64 (sF .i64 (IntKind.i64.wrap z) 127) (IntKind.i64.wrap (7*(i:Int))))>1000000000000))) else some (decide (orI .i64 n (w9 .i64 (sF .i64 (IntKind.i64.wrap z) 127) (IntKind.i64.wrap (7*(i:Int))))>1000000000000))) λc=>bif c then some (.inl (0,0,false)) else some (.inl (orI .i64 n (w9 .i64 (sF .i64 (IntKind.i64.wrap z) 127) (IntKind.i64.wrap (7*(i:Int)))),IntKind.i64.wrap (IntKind.i64.wrap (a+(i:Int))+1),true))) else rec (orI .i64 n (w9 .i64 (sF .i64 (IntKind.i64.wrap z) 127) (IntKind.i64.wrap (7*(i:Int)))),i+1))) else some (.inr ())):
  ∀(k i:Nat) (n:Int) (f:Nat),i+k=6->k<f->0<=n->n<128^i->nx (cB f F (n,i)) (λ_=>some ((0:Int),(0:Int),false))=some (uvG b a.toNat k i n)
 |0,i,n,f+1,hk,hf,h0,h1=>by
  rw[iP,hF,show decide ((i:Int)<6)=false from ap (by omega)];rfl
 |k+1,i,n,f+1,hk,hf,h0,h1=>by
  have hlen:=hb.1
  rw[iP,hF,show decide ((i:Int)<6)=true from ao (by omega),ac,wJ,bd_s]
  rw[show IntKind.i64.wrap ((b.length:Int)-(i:Int))=(b.length:Int)-(i:Int) from aJ (by omega) (by omega),show decide (a<0)=false from ap (by omega),cC]
  unfold uvG
  by_cases hlt:a.toNat+i<b.length
  ·have hz:=sJ hb hlt
   have hg:b.getD (a.toNat+i) 0=b[a.toNat+i]:=by simp[List.getD,ae hlt]
   have hwa:IntKind.i64.wrap (a+(i:Int))=((a.toNat+i:Nat):Int):=by rw[aJ (by omega) (by omega)];omega
   rw[cz hlt,hg,hwa,aN hlt]
   generalize b[a.toNat+i]=z at hz
   rw[show decide (a>=(b.length:Int)-(i:Int))=false from ap (by omega)]
   have hs:=aQi (z:=z) (n:=n) (i:=i) (by omega) hz.1 h0 h1
   have hwz:IntKind.i64.wrap z=z:=aJ (by omega) (by omega)
   have ho:=bGj (z:=z) (n:=n) (i:=i) (by omega) hz.1 hz.2 h0 h1
   have hw3:IntKind.i64.wrap (((a.toNat+i:Nat):Int)+1)=((a.toNat+i+1:Nat):Int):=by rw[aJ (by omega) (by omega)];omega
   have h7:0<=IntKind.i64.wrap ((7:Int)*(i:Int)):=by rw[aJ (by omega) (by omega)];omega
   simp only[ab,bd_s,hwz,ho,hw3]
   rw[aB h7]
   by_cases h128:z<128
   ·simp only[h128,decide_true,ac]
    have e:(decide ((i:Int)>0))=decide (0<i):=cw.2 (by omega)
    rw[e]
    cases decide (0<i)<;>cases(z==0)<;>cases decide (n+z%128*128^i>1000000000000)<;>rfl
   ·simp only[h128,decide_false,ab]
    exact yC b hb a ha hF k (i+1) _ f (by omega) (by omega) hs.1 hs.2.1
  ·rw[cR hlt,show decide (a>=(b.length:Int)-(i:Int))=true from ao (by omega)];rfl
def Xg (b:List Int)(a:Int)(hb:aT b):xC b a=some (vN b a):=by
 unfold xC vN
 have hf:=gL
 by_cases h0:a<0
 ·rw[cz h0]
  obtain⟨f,hf'⟩:∃f,FUEL=f+1:=⟨FUEL-1,by omega⟩
  rw[hf',iP]
  simp[h0,nx]
 ·rw[cR h0]
  exact yC b hb a (by omega) (λrec n i=>rfl) 6 0 0 FUEL rfl (by omega) (by omega) (by decide)
def Ja (s:D.aAH)(e:D.aAG)(hz:e.sz<=34359738368):qG s e=some (bA s e):=by
 simp only[D.aAG.sz] at hz
 unfold qG bA
 rw[aB (by omega),bd_s,aB (Vv _ _),bd_s]
 generalize eU e.Boxes (fF s)=x
 obtain⟨x1,x2⟩:=x
 dsimp only
 cases x2 with
 |false=>rfl
 |true=>
  have hl:=λh=>decode_len (b:=x1) (a:=0) (c:=2) (by omega) h
  generalize gN x1 0 2=y at hl
  obtain⟨y1,y2,y3⟩:=y
  unfold Fq
  cases y3 with
  |false=>rfl
  |true=>
   have hl':y1.length=2:=hl rfl
   obtain⟨a,c,rfl⟩:∃a c,y1=[a,c]:=by
    match y1,hl' with
    |[a,c],_=>exact⟨a,c,rfl⟩
   have e0:bD [a,c] 0=some a:=rfl
   have e1:bD [a,c] 1=some c:=rfl
   simp only[e0,e1,bd_s,ay,ab,cC]
   cases(y2 !=(x1.length:Int))<;>cases ha:(a !=e.Epoch)<;>cases hc:bG c<;>simp[ha,hc]
def Jb (s:D.aAH)(e:D.aAG)(hz:e.sz<=34359738368):qM s e=some (bA s e):=by
 simp only[D.aAG.sz] at hz
 unfold qM bA
 rw[aB (by simp),bd_s,aB (by omega),bd_s,aB (Vv _ _),show aW s.Seed [181]=fF s from rfl]
 generalize eU e.Boxes (fF s)=x
 obtain⟨x1,x2⟩:=x
 dsimp only
 cases x2 with
 |false=>rfl
 |true=>
  have hl:=λh=>decode_len (b:=x1) (a:=0) (c:=2) (by omega) h
  generalize gN x1 0 2=y at hl
  obtain⟨y1,y2,y3⟩:=y
  unfold Fq
  cases y3 with
  |false=>rfl
  |true=>
   have hl':y1.length=2:=hl rfl
   obtain⟨a,c,rfl⟩:∃a c,y1=[a,c]:=by
    match y1,hl' with
    |[a,c],_=>exact⟨a,c,rfl⟩
   have e0:bD [a,c] 0=some a:=rfl
   have e1:bD [a,c] 1=some c:=rfl
   simp only[e0,e1,bd_s,ay,ab,cC]
   cases(y2 !=(x1.length:Int))<;>cases ha:(a !=e.Epoch)<;>cases hc:bG c<;>simp[ha,hc]
end
end Go.VK
