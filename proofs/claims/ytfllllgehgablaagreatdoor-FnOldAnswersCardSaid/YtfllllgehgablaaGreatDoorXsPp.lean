import Derived.Test.YtfllllgehgablaaGreatDoorXsPo
import Derived.Test.YtfllllgehgablaaGreatDoorXsM
/- Printed by wip/tools: models, walks, proofs. -/
set_option linter.all false
set_option maxRecDepth 100000
set_option maxHeartbeats 4000000
namespace Go.VK
open Go.RowKit Go.Proofs
noncomputable section
open EV (bU)
def aVg {a b:List D.aAC}(ha:a.length<=34359738368){F:(Nat->Option (Bool⊕PUnit))->Nat->Option (Bool⊕PUnit)}
  (hF:∀rec i (hi:i<b.length) (hj:i<a.length),F rec i=bif !aW1 a[i] b[i] then some (.inl false) else rec (i+1)) (hE:∀rec,F rec b.length=some (.inr ())):
  (bif decide ((a.length:Int)<(b.length:Int)) then some false else nx (bU FUEL F 0) λ_=>some true)=some (bZ a b):=by
 unfold bZ
 by_cases h:b.length<=a.length
 ·rw[au (show ¬(a.length:Int)<(b.length:Int) by omega),ab,ao h,da,
   iH (l:=b) (λi e=> !aW1 (a.getD i default) e) (.inl false) (.inr ()) (by omega) (λrec i hi=>by
    rw[hF rec i hi (by omega),List.getD,ac (show i<a.length by omega)];rfl) hE]
  cases gL (λi e=> !aW1 (a.getD i default) e) 0 b<;>rfl
 ·rw[ao (show(a.length:Int)<(b.length:Int) by omega),au h];rfl
def M6 (a b:List D.aAC)(h:a.length<=34359738368):zK a b=some (bZ a b):=by
 unfold zK
 exact aVg h (λrec i hi hj=>by simp only[dL hi,ae,aM hi,aM hj,bd_s];rfl) (λrec=>by simp only[dP,ab])
def M7 (a b:List D.aAC)(h:a.length<=34359738368):Ad a b=some (bZ a b):=by
 unfold Ad
 exact aVg h (λrec i hi hj=>by simp only[dL hi,ae,aM hi,aM hj,bd_s];rfl) (λrec=>by simp only[dP,ab])
def aBx (k:Int)(b:D.aAA)(h:b.Data.length<=34359738200):Dc k b=some (gH k b):=by
 unfold Dc gH
 rw[aB (by omega),bd_s,aB (by simp[aW,vD];omega),aB (by simp[vD];omega)];rfl
def aBy (k:Int)(b:D.aAA)(h:b.Data.length<=34359738200):Eb k b=some (gH k b):=by
 unfold Eb gH
 rw[aB (by omega),bd_s,aB (by simp[wG,vD];omega),bd_s,aB (by simp[vD,oQ];omega)]
 simp[oQ]
def aFe (k e v:Int):Hw k e v=some (bG k&&(bI e 0 1000000&&bI v 0 1000000)):=by
 unfold Hw
 cases bG k<;>cases bI e 0 1000000<;>rfl
def aM3 (k e v:Int):Uk k e v=some (jU k e v):=by unfold Uk;rw[aB (by simp)];rfl
def xY (b:List Int)(hb:aQ b)(p:Nat)(hp:p<=34359738368){F:(Int×Int×Nat->Option ((Int×Int×Bool)⊕PUnit))->Int×Int×Nat->Option ((Int×Int×Bool)⊕PUnit)}
  (hF:∀rec (n q:Int) (i:Nat),F rec (n,q,i)=bif decide ((i:Int)<6) then(bif decide (IntKind.i64.wrap ((p:Int)+(i:Int))>=(b.length:Int)) then some (.inl (0,0,false)) else bd (bA b (IntKind.i64.wrap ((p:Int)+(i:Int)))) λz=>gd ((128:Int)≠0) (bif decide (IntKind.i64.wrap z<128) then(bd (bif decide ((i:Int)>0) then(bif IntKind.i64.wrap z==0 then some true else some (decide (IntKind.i64.wrap (n+IntKind.i64.wrap ((IntKind.i64.wrap z).tmod 128*q))>1000000000000))) else some (decide (IntKind.i64.wrap (n+IntKind.i64.wrap ((IntKind.i64.wrap z).tmod 128*q))>1000000000000))) λc=>bif c then some (.inl (0,0,false)) else some (.inl (IntKind.i64.wrap (n+IntKind.i64.wrap ((IntKind.i64.wrap z).tmod 128*q)),IntKind.i64.wrap (IntKind.i64.wrap ((p:Int)+(i:Int))+1),true))) else rec (IntKind.i64.wrap (n+IntKind.i64.wrap ((IntKind.i64.wrap z).tmod 128*q)),IntKind.i64.wrap (q*128),i+1))) else some (.inr ())):
  ∀(k i:Nat) (n:Int) (f:Nat),i+k=6->k<f->0<=n->n<128^i->nx (bU f F (n,(128:Int)^i,i)) (λ_=>some ((0:Int),(0:Int),false))=some (uvG b p k i n)
 |0,i,n,f+1,hk,hf,h0,h1=>by
  rw[gX,hF,show decide ((i:Int)<6)=false from au (by omega)];rfl
 |k+1,i,n,f+1,hk,hf,h0,h1=>by
  have hp128:=aRg (i:=i) (by omega)
  rw[gX,hF,show decide ((i:Int)<6)=true from ao (by omega),ae]
  rw[show IntKind.i64.wrap ((p:Int)+(i:Int))=((p+i:Nat):Int) by rw[aI (by omega) (by omega)];omega]
  unfold uvG
  by_cases hlt:p+i<b.length
  ·have hz:=yY hb hlt
   have hg:b.getD (p+i) 0=b[p+i]:=by simp[List.getD,ac hlt]
   rw[cH hlt,hg,aM hlt]
   generalize b[p+i]=z at hz
   rw[show decide (((p+i:Nat):Int)>=(b.length:Int))=false from au (by omega)]
   have hs:=aRh (z:=z) (n:=n) (i:=i) (by omega) hz.1 h0 h1
   have hwz:IntKind.i64.wrap z=z:=aI (by omega) (by omega)
   have htm:z.tmod 128=z%128:=cp hz.1
   have hw1:IntKind.i64.wrap (z%128*128^i)=z%128*128^i:=aI (by omega) (by omega)
   have hp6:=aRg (i:=i+1) (by omega)
   have hw2:IntKind.i64.wrap (n+z%128*128^i)=n+z%128*128^i:=aI (by omega) (by omega)
   have hw3:IntKind.i64.wrap (((p+i:Nat):Int)+1)=((p+i+1:Nat):Int):=by rw[aI (by omega) (by omega)];omega
   have hw4:IntKind.i64.wrap ((128:Int)^i*128)=128^(i+1):=by rw[<-e8,aI (by omega) (by omega)]
   have h128n:((128:Int)≠0)=True:=by simp
   simp only[ab,bd_s,hwz,htm,hw1,hw2,hw3,hw4,h128n,gd_T]
   by_cases h128:z<128
   ·simp only[h128,decide_true,ae]
    have e:(decide ((i:Int)>0))=decide (0<i):=cD.2 (by omega)
    rw[e]
    cases decide (0<i)<;>cases(z==0)<;>cases decide (n+z%128*128^i>1000000000000)<;>rfl
   ·simp only[h128,decide_false,ab]
    exact xY b hb p hp hF k (i+1) _ f (by omega) (by omega) hs.1 hs.2.1
  ·rw[cX hlt,show decide (((p+i:Nat):Int)>=(b.length:Int))=true from ao (by omega)];rfl
def Wy (b:List Int)(a:Int)(hb:aQ b):xS b a=some (vF b a):=by
 unfold xS vF
 have hf:=fO
 have hlen:=hb.1
 rw[zA,bd_s]
 by_cases h0:a<0
 ·simp[h0]
 ·rw[cX h0,au h0,cL]
  by_cases h1:a>=b.length
  ·rw[ao h1]
   unfold uvG
   rw[cX (by omega)]
   rfl
  ·rw[au h1,ab]
   obtain⟨p,rfl⟩:=eC (show 0<=a by omega)
   exact xY b hb p (by omega) (λrec n q i=>rfl) 6 0 0 FUEL rfl (by omega) (by omega) (by decide)
def Gl (b:List Int)(c:Int)(hc:c<=100){F:(Int×List Int×Nat->Option ((List Int×Int×Bool)⊕(Int×List Int)))->Int×List Int×Nat->Option ((List Int×Int×Bool)⊕(Int×List Int))}
  (hF:∀rec (a:Int) (s:List Int) (i:Nat),s.length<=34359738368->F rec (a,s,i)=bif decide ((i:Int)<c) then(bif !(vF b a).2.2 then some (.inl ([],0,false)) else rec ((vF b a).2.1,s++[(vF b a).1],i+1)) else some (.inr (a,s))):
  ∀(k i:Nat) (a:Int) (s:List Int) (f:Nat),((i+k:Nat):Int)=c->k<f->s.length<=i->nx (bU f F (a,s,i)) (λz=>some (z.2,z.1,true))=some (jB b k a s)
 |0,i,a,s,f+1,hk,hf,hs=>by
  rw[gX,hF _ _ _ _ (by omega),show decide ((i:Int)<c)=false from au (by omega)];rfl
 |k+1,i,a,s,f+1,hk,hf,hs=>by
  rw[gX,hF _ _ _ _ (by omega),show decide ((i:Int)<c)=true from ao (by omega),ae]
  unfold jB
  cases(vF b a).2.2 with
  |false=>rfl
  |true=>
   simp only[bf,ab,ae]
   exact Gl b c hc hF k (i+1) _ _ f (by omega) (by omega) (by simp;omega)
def M8 (b:List Int)(a c:Int)(hb:aQ b):Ae b a c=some (gQ b a c):=by
 unfold Ae gQ bI
 by_cases h1:c<0
 ·simp[h1,show ¬0<=c by omega]
 ·by_cases h2:c>100
  ·simp[h1,h2,show ¬c<=100 by omega]
  ·by_cases h3:a<0
   ·simp[h1,h2,h3,show ¬0<=a by omega]
   ·by_cases h4:a>b.length
    ·simp[h1,h2,h3,h4,show ¬a<=b.length by omega]
    ·simp only[h1,h2,h3,h4,decide_false,ab,bd_s,show 0<=c by omega,show c<=100 by omega,show 0<=a by omega,show a<=b.length by omega,decide_true,fa,bf,Bool.or_self,ab]
     exact Gl b c (by omega) (λrec a s i hs=>by simp only[aB hb,bd_s,fF hs]) c.toNat 0 a [] FUEL (by omega) (by have:=fO;omega) (by simp)
def M9 (b:List Int)(a c:Int)(hb:aQ b):zN b a c=some (gQ b a c):=by
 unfold zN gQ
 cases h1:bI c 0 100 with
 |false=>rfl
 |true=>
  cases h2:bI a 0 b.length with
  |false=>rfl
  |true=>
   have:=jS h1
   simp only[bf,ab,bd_s,Bool.or_self]
   exact Gl b c (by omega) (λrec a s i hs=>by simp only[aB hb,bd_s,fF hs]) c.toNat 0 a [] FUEL (by omega) (by have:=fO;omega) (by simp)
def xZ (b:List Int)(hb:aQ b)(a:Int)(ha:0<=a){F:(Int×Nat->Option ((Int×Int×Bool)⊕PUnit))->Int×Nat->Option ((Int×Int×Bool)⊕PUnit)}
  (hF:∀rec (n:Int) (i:Nat),F rec (n,i)=bif decide ((i:Int)<6) then(bd (bif decide (a<0) then some true else some (decide (a>=IntKind.i64.wrap ((b.length:Int)-(i:Int))))) λc=>bif c then some (.inl (0,0,false)) else bd (bA b (IntKind.i64.wrap (a+(i:Int)))) λz=>gd ((0:Int)<=IntKind.i64.wrap (7*(i:Int))) (bif decide (IntKind.i64.wrap z<128) then(bd (bif IntKind.i64.wrap z==0 then(bif decide ((i:Int)>0) then some true else some (decide (orI .i64 n (p8 .i64 (mF .i64 (IntKind.i64.wrap z) 127) (IntKind.i64.wrap (7*(i:Int))))>1000000000000))) else some (decide (orI .i64 n (p8 .i64 (mF .i64 (IntKind.i64.wrap z) 127) (IntKind.i64.wrap (7*(i:Int))))>1000000000000))) λc=>bif c then some (.inl (0,0,false)) else some (.inl (orI .i64 n (p8 .i64 (mF .i64 (IntKind.i64.wrap z) 127) (IntKind.i64.wrap (7*(i:Int)))),IntKind.i64.wrap (IntKind.i64.wrap (a+(i:Int))+1),true))) else rec (orI .i64 n (p8 .i64 (mF .i64 (IntKind.i64.wrap z) 127) (IntKind.i64.wrap (7*(i:Int)))),i+1))) else some (.inr ())):
  ∀(k i:Nat) (n:Int) (f:Nat),i+k=6->k<f->0<=n->n<128^i->nx (bU f F (n,i)) (λ_=>some ((0:Int),(0:Int),false))=some (uvG b a.toNat k i n)
 |0,i,n,f+1,hk,hf,h0,h1=>by
  rw[gX,hF,show decide ((i:Int)<6)=false from au (by omega)];rfl
 |k+1,i,n,f+1,hk,hf,h0,h1=>by
  have hlen:=hb.1
  rw[gX,hF,show decide ((i:Int)<6)=true from ao (by omega),ae,zA,bd_s]
  rw[show IntKind.i64.wrap ((b.length:Int)-(i:Int))=(b.length:Int)-(i:Int) from aI (by omega) (by omega),show decide (a<0)=false from au (by omega),cL]
  unfold uvG
  by_cases hlt:a.toNat+i<b.length
  ·have hz:=yY hb hlt
   have hg:b.getD (a.toNat+i) 0=b[a.toNat+i]:=by simp[List.getD,ac hlt]
   have hwa:IntKind.i64.wrap (a+(i:Int))=((a.toNat+i:Nat):Int):=by rw[aI (by omega) (by omega)];omega
   rw[cH hlt,hg,hwa,aM hlt]
   generalize b[a.toNat+i]=z at hz
   rw[show decide (a>=(b.length:Int)-(i:Int))=false from au (by omega)]
   have hs:=aRh (z:=z) (n:=n) (i:=i) (by omega) hz.1 h0 h1
   have hwz:IntKind.i64.wrap z=z:=aI (by omega) (by omega)
   have ho:=bH0 (z:=z) (n:=n) (i:=i) (by omega) hz.1 hz.2 h0 h1
   have hw3:IntKind.i64.wrap (((a.toNat+i:Nat):Int)+1)=((a.toNat+i+1:Nat):Int):=by rw[aI (by omega) (by omega)];omega
   have h7:0<=IntKind.i64.wrap ((7:Int)*(i:Int)):=by rw[aI (by omega) (by omega)];omega
   simp only[ab,bd_s,hwz,ho,hw3]
   rw[aB h7]
   by_cases h128:z<128
   ·simp only[h128,decide_true,ae]
    have e:(decide ((i:Int)>0))=decide (0<i):=cD.2 (by omega)
    rw[e]
    cases decide (0<i)<;>cases(z==0)<;>cases decide (n+z%128*128^i>1000000000000)<;>rfl
   ·simp only[h128,decide_false,ab]
    exact xZ b hb a ha hF k (i+1) _ f (by omega) (by omega) hs.1 hs.2.1
  ·rw[cX hlt,show decide (a>=(b.length:Int)-(i:Int))=true from ao (by omega)];rfl
def Wz (b:List Int)(a:Int)(hb:aQ b):xD b a=some (vF b a):=by
 unfold xD vF
 have hf:=fO
 by_cases h0:a<0
 ·rw[cH h0]
  obtain⟨f,hf'⟩:∃f,FUEL=f+1:=⟨FUEL-1,by omega⟩
  rw[hf',gX]
  simp[h0,nx]
 ·rw[cX h0]
  exact xZ b hb a (by omega) (λrec n i=>rfl) 6 0 0 FUEL rfl (by omega) (by omega) (by decide)
def Je (s:D.aAI)(e:D.aAE)(hz:e.sz<=34359738368):qI s e=some (bB s e):=by
 simp only[D.aAE.sz] at hz
 unfold qI bB
 rw[aB (by omega),bd_s,aB (Vo _ _),bd_s]
 generalize eY e.Boxes (fP s)=x
 obtain⟨x1,x2⟩:=x
 dsimp only
 cases x2 with
 |false=>rfl
 |true=>
  have hl:=λh=>decode_len (b:=x1) (a:=0) (c:=2) (by omega) h
  generalize gQ x1 0 2=y at hl
  obtain⟨y1,y2,y3⟩:=y
  unfold Ga
  cases y3 with
  |false=>rfl
  |true=>
   have hl':y1.length=2:=hl rfl
   obtain⟨a,c,rfl⟩:∃a c,y1=[a,c]:=by
    match y1,hl' with
    |[a,c],_=>exact⟨a,c,rfl⟩
   have e0:bA [a,c] 0=some a:=rfl
   have e1:bA [a,c] 1=some c:=rfl
   simp only[e0,e1,bd_s,bf,ab,cL]
   cases(y2 !=(x1.length:Int))<;>cases ha:(a !=e.Epoch)<;>cases hc:bG c<;>simp[ha,hc]
def Jf (s:D.aAI)(e:D.aAE)(hz:e.sz<=34359738368):qR s e=some (bB s e):=by
 simp only[D.aAE.sz] at hz
 unfold qR bB
 rw[aB (by simp),bd_s,aB (by omega),bd_s,aB (Vo _ _),show aT s.Seed [181]=fP s from rfl]
 generalize eY e.Boxes (fP s)=x
 obtain⟨x1,x2⟩:=x
 dsimp only
 cases x2 with
 |false=>rfl
 |true=>
  have hl:=λh=>decode_len (b:=x1) (a:=0) (c:=2) (by omega) h
  generalize gQ x1 0 2=y at hl
  obtain⟨y1,y2,y3⟩:=y
  unfold Ga
  cases y3 with
  |false=>rfl
  |true=>
   have hl':y1.length=2:=hl rfl
   obtain⟨a,c,rfl⟩:∃a c,y1=[a,c]:=by
    match y1,hl' with
    |[a,c],_=>exact⟨a,c,rfl⟩
   have e0:bA [a,c] 0=some a:=rfl
   have e1:bA [a,c] 1=some c:=rfl
   simp only[e0,e1,bd_s,bf,ab,cL]
   cases(y2 !=(x1.length:Int))<;>cases ha:(a !=e.Epoch)<;>cases hc:bG c<;>simp[ha,hc]
end
end Go.VK
