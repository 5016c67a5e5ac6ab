import Derived.Test.YtjmlamaddedhlaaGreatDoorXrPo
import Derived.Test.YtjmlamaddedhlaaGreatDoorXrM
/- Printed by wip/tools: models, walks, proofs. -/
set_option linter.all false
set_option maxRecDepth 100000
set_option maxHeartbeats 4000000
namespace Go.VK
open Go.RowKit Go.Proofs
noncomputable section
open EV (bO)
def aSb {a b:List D.aAB}(ha:a.length<=34359738368){F:(Nat->Option (Bool⊕PUnit))->Nat->Option (Bool⊕PUnit)}
  (hF:∀rec i (hi:i<b.length) (hj:i<a.length),F rec i=bif !aOw a[i] b[i] then some (.inl false) else rec (i+1)) (hE:∀rec,F rec b.length=some (.inr ())):
  (bif decide ((a.length:Int)<(b.length:Int)) then some false else nx (bO FUEL F 0) λ_=>some true)=some (bS a b):=by
 unfold bS
 by_cases h:b.length<=a.length
 ·rw[aq (show ¬(a.length:Int)<(b.length:Int) by omega),ac,ap h,dc,
   iR (l:=b) (λi e=> !aOw (a.getD i default) e) (.inl false) (.inr ()) (by omega) (λrec i hi=>by
    rw[hF rec i hi (by omega),List.getD,ab (show i<a.length by omega)];rfl) hE]
  cases fD (λi e=> !aOw (a.getD i default) e) 0 b<;>rfl
 ·rw[ap (show(a.length:Int)<(b.length:Int) by omega),aq h];rfl
def Zi (a b:List D.aAB)(h:a.length<=34359738368):xD a b=some (bS a b):=by
 unfold xD
 exact aSb h (λrec i hi hj=>by simp only[bY hi,ae,aK hi,aK hj,bd_s];rfl) (λrec=>by simp only[cB,ac])
def Zj (a b:List D.aAB)(h:a.length<=34359738368):wO a b=some (bS a b):=by
 unfold wO
 exact aSb h (λrec i hi hj=>by simp only[bY hi,ae,aK hi,aK hj,bd_s];rfl) (λrec=>by simp only[cB,ac])
def Y4 (k:Int)(b:D.aAA)(h:b.Data.length<=34359738200):Af k b=some (fC k b):=by
 unfold Af fC
 rw[aA (by omega),bd_s,aA (by simp[aS,qD];omega),aA (by simp[qD];omega)];rfl
def Y5 (k:Int)(b:D.aAA)(h:b.Data.length<=34359738200):zN k b=some (fC k b):=by
 unfold zN fC
 rw[aA (by omega),bd_s,aA (by simp[sU,qD];omega),bd_s,aA (by simp[qD,mK];omega)]
 simp[mK]
def aDs (k e v:Int):Eh k e v=some (bB k&&(bE e 0 1000000&&bE v 0 1000000)):=by
 unfold Eh
 cases bB k<;>cases bE e 0 1000000<;>rfl
def aK6 (k e v:Int):Qe k e v=some (iU k e v):=by unfold Qe;rw[aA (by simp)];rfl
def uZ (b:List Int)(hb:aQ b)(p:Nat)(hp:p<=34359738368){F:(Int×Int×Nat->Option ((Int×Int×Bool)⊕PUnit))->Int×Int×Nat->Option ((Int×Int×Bool)⊕PUnit)}
  (hF:∀rec (n q:Int) (i:Nat),F rec (n,q,i)=bif decide ((i:Int)<6) then(bif decide (IntKind.i64.wrap ((p:Int)+(i:Int))>=(b.length:Int)) then some (.inl (0,0,false)) else bd (aZ b (IntKind.i64.wrap ((p:Int)+(i:Int)))) λz=>gd ((128:Int)≠0) (bif decide (IntKind.i64.wrap z<128) then(bd (bif decide ((i:Int)>0) then(bif IntKind.i64.wrap z==0 then some true else some (decide (IntKind.i64.wrap (n+IntKind.i64.wrap ((IntKind.i64.wrap z).tmod 128*q))>1000000000000))) else some (decide (IntKind.i64.wrap (n+IntKind.i64.wrap ((IntKind.i64.wrap z).tmod 128*q))>1000000000000))) λc=>bif c then some (.inl (0,0,false)) else some (.inl (IntKind.i64.wrap (n+IntKind.i64.wrap ((IntKind.i64.wrap z).tmod 128*q)),IntKind.i64.wrap (IntKind.i64.wrap ((p:Int)+(i:Int))+1),true))) else rec (IntKind.i64.wrap (n+IntKind.i64.wrap ((IntKind.i64.wrap z).tmod 128*q)),IntKind.i64.wrap (q*128),i+1))) else some (.inr ())):
  ∀(k i:Nat) (n:Int) (f:Nat),i+k=6->k<f->0<=n->n<128^i->nx (bO f F (n,(128:Int)^i,i)) (λ_=>some ((0:Int),(0:Int),false))=some (uvG b p k i n)
 |0,i,n,f+1,hk,hf,h0,h1=>by
  rw[iT,hF,show decide ((i:Int)<6)=false from aq (by omega)];rfl
 |k+1,i,n,f+1,hk,hf,h0,h1=>by
  have hp128:=aOr (i:=i) (by omega)
  rw[iT,hF,show decide ((i:Int)<6)=true from ap (by omega),ae]
  rw[show IntKind.i64.wrap ((p:Int)+(i:Int))=((p+i:Nat):Int) by rw[aH (by omega) (by omega)];omega]
  unfold uvG
  by_cases hlt:p+i<b.length
  ·have hz:=pQ hb hlt
   have hg:b.getD (p+i) 0=b[p+i]:=by simp[List.getD,ab hlt]
   rw[cr hlt,hg,aK hlt]
   generalize b[p+i]=z at hz
   rw[show decide (((p+i:Nat):Int)>=(b.length:Int))=false from aq (by omega)]
   have hs:=aOs (z:=z) (n:=n) (i:=i) (by omega) hz.1 h0 h1
   have hwz:IntKind.i64.wrap z=z:=aH (by omega) (by omega)
   have htm:z.tmod 128=z%128:=cb hz.1
   have hw1:IntKind.i64.wrap (z%128*128^i)=z%128*128^i:=aH (by omega) (by omega)
   have hp6:=aOr (i:=i+1) (by omega)
   have hw2:IntKind.i64.wrap (n+z%128*128^i)=n+z%128*128^i:=aH (by omega) (by omega)
   have hw3:IntKind.i64.wrap (((p+i:Nat):Int)+1)=((p+i+1:Nat):Int):=by rw[aH (by omega) (by omega)];omega
   have hw4:IntKind.i64.wrap ((128:Int)^i*128)=128^(i+1):=by rw[<-eM,aH (by omega) (by omega)]
   have h128n:((128:Int)≠0)=True:=by simp
   simp only[ac,bd_s,hwz,htm,hw1,hw2,hw3,hw4,h128n,gd_T]
   by_cases h128:z<128
   ·simp only[h128,decide_true,ae]
    have e:(decide ((i:Int)>0))=decide (0<i):=cu.2 (by omega)
    rw[e]
    cases decide (0<i)<;>cases(z==0)<;>cases decide (n+z%128*128^i>1000000000000)<;>rfl
   ·simp only[h128,decide_false,ac]
    exact uZ b hb p hp hF k (i+1) _ f (by omega) (by omega) hs.1 hs.2.1
  ·rw[cJ hlt,show decide (((p+i:Nat):Int)>=(b.length:Int))=true from ap (by omega)];rfl
def Su (b:List Int)(a:Int)(hb:aQ b):uD b a=some (rR b a):=by
 unfold uD rR
 have hf:=fP
 have hlen:=hb.1
 rw[yX,bd_s]
 by_cases h0:a<0
 ·simp[h0]
 ·rw[cJ h0,aq h0,cE]
  by_cases h1:a>=b.length
  ·rw[ap h1]
   unfold uvG
   rw[cJ (by omega)]
   rfl
  ·rw[aq h1,ac]
   obtain⟨p,rfl⟩:=d8 (show 0<=a by omega)
   exact uZ b hb p (by omega) (λrec n q i=>rfl) 6 0 0 FUEL rfl (by omega) (by omega) (by decide)
def Ck (b:List Int)(c:Int)(hc:c<=100){F:(Int×List Int×Nat->Option ((List Int×Int×Bool)⊕(Int×List Int)))->Int×List Int×Nat->Option ((List Int×Int×Bool)⊕(Int×List Int))}
  (hF:∀rec (a:Int) (s:List Int) (i:Nat),s.length<=34359738368->F rec (a,s,i)=bif decide ((i:Int)<c) then(bif !(rR b a).2.2 then some (.inl ([],0,false)) else rec ((rR b a).2.1,s++[(rR b a).1],i+1)) else some (.inr (a,s))):
  ∀(k i:Nat) (a:Int) (s:List Int) (f:Nat),((i+k:Nat):Int)=c->k<f->s.length<=i->nx (bO f F (a,s,i)) (λz=>some (z.2,z.1,true))=some (iB b k a s)
 |0,i,a,s,f+1,hk,hf,hs=>by
  rw[iT,hF _ _ _ _ (by omega),show decide ((i:Int)<c)=false from aq (by omega)];rfl
 |k+1,i,a,s,f+1,hk,hf,hs=>by
  rw[iT,hF _ _ _ _ (by omega),show decide ((i:Int)<c)=true from ap (by omega),ae]
  unfold iB
  cases(rR b a).2.2 with
  |false=>rfl
  |true=>
   simp only[bl,ac,ae]
   exact Ck b c hc hF k (i+1) _ _ f (by omega) (by omega) (by simp;omega)
def Zk (b:List Int)(a c:Int)(hb:aQ b):wT b a c=some (fF b a c):=by
 unfold wT fF bE
 by_cases h1:c<0
 ·simp[h1,show ¬0<=c by omega]
 ·by_cases h2:c>100
  ·simp[h1,h2,show ¬c<=100 by omega]
  ·by_cases h3:a<0
   ·simp[h1,h2,h3,show ¬0<=a by omega]
   ·by_cases h4:a>b.length
    ·simp[h1,h2,h3,h4,show ¬a<=b.length by omega]
    ·simp only[h1,h2,h3,h4,decide_false,ac,bd_s,show 0<=c by omega,show c<=100 by omega,show 0<=a by omega,show a<=b.length by omega,decide_true,eg,bl,Bool.or_self,ac]
     exact Ck b c (by omega) (λrec a s i hs=>by simp only[aA hb,bd_s,fB hs]) c.toNat 0 a [] FUEL (by omega) (by have:=fP;omega) (by simp)
def Zl (b:List Int)(a c:Int)(hb:aQ b):xH b a c=some (fF b a c):=by
 unfold xH fF
 cases h1:bE c 0 100 with
 |false=>rfl
 |true=>
  cases h2:bE a 0 b.length with
  |false=>rfl
  |true=>
   have:=gX h1
   simp only[bl,ac,bd_s,Bool.or_self]
   exact Ck b c (by omega) (λrec a s i hs=>by simp only[aA hb,bd_s,fB hs]) c.toNat 0 a [] FUEL (by omega) (by have:=fP;omega) (by simp)
def vB (b:List Int)(hb:aQ b)(a:Int)(ha:0<=a){F:(Int×Nat->Option ((Int×Int×Bool)⊕PUnit))->Int×Nat->Option ((Int×Int×Bool)⊕PUnit)}
  (hF:∀rec (n:Int) (i:Nat),F rec (n,i)=bif decide ((i:Int)<6) then(bd (bif decide (a<0) then some true else some (decide (a>=IntKind.i64.wrap ((b.length:Int)-(i:Int))))) λc=>bif c then some (.inl (0,0,false)) else bd (aZ b (IntKind.i64.wrap (a+(i:Int)))) λz=>gd ((0:Int)<=IntKind.i64.wrap (7*(i:Int))) (bif decide (IntKind.i64.wrap z<128) then(bd (bif IntKind.i64.wrap z==0 then(bif decide ((i:Int)>0) then some true else some (decide (orI .i64 n (Xf .i64 (kR .i64 (IntKind.i64.wrap z) 127) (IntKind.i64.wrap (7*(i:Int))))>1000000000000))) else some (decide (orI .i64 n (Xf .i64 (kR .i64 (IntKind.i64.wrap z) 127) (IntKind.i64.wrap (7*(i:Int))))>1000000000000))) λc=>bif c then some (.inl (0,0,false)) else some (.inl (orI .i64 n (Xf .i64 (kR .i64 (IntKind.i64.wrap z) 127) (IntKind.i64.wrap (7*(i:Int)))),IntKind.i64.wrap (IntKind.i64.wrap (a+(i:Int))+1),true))) else rec (orI .i64 n (Xf .i64 (kR .i64 (IntKind.i64.wrap z) 127) (IntKind.i64.wrap (7*(i:Int)))),i+1))) else some (.inr ())):
  ∀(k i:Nat) (n:Int) (f:Nat),i+k=6->k<f->0<=n->n<128^i->nx (bO f F (n,i)) (λ_=>some ((0:Int),(0:Int),false))=some (uvG b a.toNat k i n)
 |0,i,n,f+1,hk,hf,h0,h1=>by
  rw[iT,hF,show decide ((i:Int)<6)=false from aq (by omega)];rfl
 |k+1,i,n,f+1,hk,hf,h0,h1=>by
  have hlen:=hb.1
  rw[iT,hF,show decide ((i:Int)<6)=true from ap (by omega),ae,yX,bd_s]
  rw[show IntKind.i64.wrap ((b.length:Int)-(i:Int))=(b.length:Int)-(i:Int) from aH (by omega) (by omega),show decide (a<0)=false from aq (by omega),cE]
  unfold uvG
  by_cases hlt:a.toNat+i<b.length
  ·have hz:=pQ hb hlt
   have hg:b.getD (a.toNat+i) 0=b[a.toNat+i]:=by simp[List.getD,ab hlt]
   have hwa:IntKind.i64.wrap (a+(i:Int))=((a.toNat+i:Nat):Int):=by rw[aH (by omega) (by omega)];omega
   rw[cr hlt,hg,hwa,aK hlt]
   generalize b[a.toNat+i]=z at hz
   rw[show decide (a>=(b.length:Int)-(i:Int))=false from aq (by omega)]
   have hs:=aOs (z:=z) (n:=n) (i:=i) (by omega) hz.1 h0 h1
   have hwz:IntKind.i64.wrap z=z:=aH (by omega) (by omega)
   have ho:=bDm (z:=z) (n:=n) (i:=i) (by omega) hz.1 hz.2 h0 h1
   have hw3:IntKind.i64.wrap (((a.toNat+i:Nat):Int)+1)=((a.toNat+i+1:Nat):Int):=by rw[aH (by omega) (by omega)];omega
   have h7:0<=IntKind.i64.wrap ((7:Int)*(i:Int)):=by rw[aH (by omega) (by omega)];omega
   simp only[ac,bd_s,hwz,ho,hw3]
   rw[aA h7]
   by_cases h128:z<128
   ·simp only[h128,decide_true,ae]
    have e:(decide ((i:Int)>0))=decide (0<i):=cu.2 (by omega)
    rw[e]
    cases decide (0<i)<;>cases(z==0)<;>cases decide (n+z%128*128^i>1000000000000)<;>rfl
   ·simp only[h128,decide_false,ac]
    exact vB b hb a ha hF k (i+1) _ f (by omega) (by omega) hs.1 hs.2.1
  ·rw[cJ hlt,show decide (a>=(b.length:Int)-(i:Int))=true from ap (by omega)];rfl
def Sw (b:List Int)(a:Int)(hb:aQ b):uT b a=some (rR b a):=by
 unfold uT rR
 have hf:=fP
 by_cases h0:a<0
 ·rw[cr h0]
  obtain⟨f,hf'⟩:∃f,FUEL=f+1:=⟨FUEL-1,by omega⟩
  rw[hf',iT]
  simp[h0,nx]
 ·rw[cJ h0]
  exact vB b hb a (by omega) (λrec n i=>rfl) 6 0 0 FUEL rfl (by omega) (by omega) (by decide)
def Ff (s:D.aAH)(e:D.aAD)(hz:e.sz<=34359738368):nV s e=some (bF s e):=by
 simp only[D.aAD.sz] at hz
 unfold nV bF
 rw[aA (by omega),bd_s,aA (Qz _ _),bd_s]
 generalize dX e.Boxes (eX s)=x
 obtain⟨x1,x2⟩:=x
 dsimp only
 cases x2 with
 |false=>rfl
 |true=>
  have hl:=λh=>decode_len (b:=x1) (a:=0) (c:=2) (by omega) h
  generalize fF x1 0 2=y at hl
  obtain⟨y1,y2,y3⟩:=y
  unfold Cg
  cases y3 with
  |false=>rfl
  |true=>
   have hl':y1.length=2:=hl rfl
   obtain⟨a,c,rfl⟩:∃a c,y1=[a,c]:=by
    match y1,hl' with
    |[a,c],_=>exact⟨a,c,rfl⟩
   have e0:aZ [a,c] 0=some a:=rfl
   have e1:aZ [a,c] 1=some c:=rfl
   simp only[e0,e1,bd_s,bl,ac,cE]
   cases(y2 !=(x1.length:Int))<;>cases ha:(a !=e.Epoch)<;>cases hc:bB c<;>simp[ha,hc]
def Fg (s:D.aAH)(e:D.aAD)(hz:e.sz<=34359738368):nQ s e=some (bF s e):=by
 simp only[D.aAD.sz] at hz
 unfold nQ bF
 rw[aA (by simp),bd_s,aA (by omega),bd_s,aA (Qz _ _),show aO s.Seed [181]=eX s from rfl]
 generalize dX e.Boxes (eX s)=x
 obtain⟨x1,x2⟩:=x
 dsimp only
 cases x2 with
 |false=>rfl
 |true=>
  have hl:=λh=>decode_len (b:=x1) (a:=0) (c:=2) (by omega) h
  generalize fF x1 0 2=y at hl
  obtain⟨y1,y2,y3⟩:=y
  unfold Cg
  cases y3 with
  |false=>rfl
  |true=>
   have hl':y1.length=2:=hl rfl
   obtain⟨a,c,rfl⟩:∃a c,y1=[a,c]:=by
    match y1,hl' with
    |[a,c],_=>exact⟨a,c,rfl⟩
   have e0:aZ [a,c] 0=some a:=rfl
   have e1:aZ [a,c] 1=some c:=rfl
   simp only[e0,e1,bd_s,bl,ac,cE]
   cases(y2 !=(x1.length:Int))<;>cases ha:(a !=e.Epoch)<;>cases hc:bB c<;>simp[ha,hc]
end
end Go.VK
