import Derived.Test.YtmnliljalhgmiaaGreatDoorXuFF
/- Printed by wip/tools: models, walks, proofs. -/
set_option linter.all false
set_option maxRecDepth 100000
namespace Go.VK
open D
def nR {h:Int}(v:Int)(h0:0<=h/\h<2147483647):∃q,hstep h v=h*1000003+v+13-2147483647*q/\(0<=hstep h v/\hstep h v<2147483647):=by
 obtain⟨h0,h1⟩:=h0;have hm:=pI (p:=v) (q:=2147483647) (by decide);have hv:fE v 2147483647=v%2147483647:=cU (by decide);have e:hstep h v=(h*1000003+v+13)%2147483647:=by
  grind[aK,fE,Int.tmod_eq_emod_of_nonneg,hstep]
 grind
def bS5 (k a b:Int):∃q,bK k [a,b]=k*1000009000027000028+a*1000006000009+b*1000003+11000145000724001630001411-2147483647*q:=by simp only[bK,zB,cF,eW,eg,cM,bz,de,ic];obtain⟨q0,e0,f⟩:=nR k (h:=11) (by grind);generalize hstep 11 k=c at*;obtain⟨q1,l,i⟩:=nR a (h:=c) f;generalize hstep c a=d at*;obtain⟨q2,n,j⟩:=nR b (h:=d) i;generalize hstep d b=e at*;obtain⟨q3,o,p⟩:=nR k (h:=e) j;generalize hstep e k=s at*;exact⟨q0*1000009000027000027+q1*1000006000009+q2*1000003+q3*1,by omega⟩
def bS6 (k a b c:Int):∃q,bK k [a,b,c]=k*1000012000054000108000082+a*1000009000027000027+b*1000006000009+c*1000003+11000178001159003802006301004246-2147483647*q:=by simp only[bK,zB,cF,eW,eg,cM,bz,de,ic];obtain⟨q0,e0,j⟩:=nR k (h:=11) (by grind);generalize hstep 11 k=d at*;obtain⟨q1,p,l⟩:=nR a (h:=d) j;generalize hstep d a=e at*;obtain⟨q2,s,n⟩:=nR b (h:=e) l;generalize hstep e b=f at*;obtain⟨q3,u,o⟩:=nR c (h:=f) n;generalize hstep f c=i at*;obtain⟨q4,x,y⟩:=nR k (h:=i) o;generalize hstep i k=z at*;exact⟨q0*1000012000054000108000081+q1*1000009000027000027+q2*1000006000009+q3*1000003+q4*1,by omega⟩
def bS7 (k a b c d:Int):∃q,bK k [a,b,c,d]=k*1000015000090000270000405000244+a*1000012000054000108000081+b*1000009000027000027+c*1000006000009+d*1000003+11000211001693007279017707023149012751-2147483647*q:=by simp only[bK,zB,cF,eW,eg,cM,bz,de,ic];obtain⟨q0,e0,n⟩:=nR k (h:=11) (by grind);generalize hstep 11 k=e at*;obtain⟨q1,x,o⟩:=nR a (h:=e) n;generalize hstep e a=f at*;obtain⟨q2,y,p⟩:=nR b (h:=f) o;generalize hstep f b=i at*;obtain⟨q3,z,s⟩:=nR c (h:=i) p;generalize hstep i c=j at*;obtain⟨q4,A,u⟩:=nR d (h:=j) s;generalize hstep j d=l at*;obtain⟨q5,D,F⟩:=nR k (h:=l) u;generalize hstep l k=G at*;exact⟨q0*1000015000090000270000405000243+q1*1000012000054000108000081+q2*1000009000027000027+q3*1000006000009+q4*1000003+q5*1,by omega⟩
def C8 (n:Int):∃e,kD n=n+e/\0<=e/\e<=1:=by
 unfold kD;by_cases h:n=0
 ·simp[*]
 ·rw[bm.2 h];exact⟨0,by simp,by decide,by decide⟩
def bS8 (s i:Int):(aQ s i).Seed=kD (bK s [151,277,i]):=by rfl
def bS9 (s:AK):jH s=kD (bK s.Seed [151,181]):=by rfl
def bMt (s:AK)(n:ByteArray)(i:Int):cO s n i=kD (bK s.Seed [151,179,bD n,i]):=by rfl
def bG5 (s i k:Int):∃e q,(aQ s i).Seed-(aQ s k).Seed=(i-k)*1000003+e+2147483647*q/\-1<=e/\e<=1:=by have hi:(aQ s i).Seed=kD (bK s [151,277,i]):=bS8 s i;have hk:(aQ s k).Seed=kD (bK s [151,277,k]):=bS8 s k;obtain⟨a,c,j,l⟩:=C8 (bK s [151,277,i]);obtain⟨d,b1,n,o⟩:=C8 (bK s [151,277,k]);obtain⟨q1,f⟩:=bS6 s 151 277 i;obtain⟨q2,h⟩:=bS6 s 151 277 k;rw[hi,hk,c,b1,f,h];exact⟨a-d,q2-q1,by omega,by omega,by omega⟩
def dfs:List Int:=[-5,-4,-3,-2,-1,0,1,2,3,4,5]
def bPa:List Int:=[-1,0,1]
theorem bMu {d:Int}(h1: -5<=d)(h2:d<=5):d∈dfs:=by simp only[dfs,ba,gy,or_false];omega
def aFf {d:Int}(h1: -1<=d)(h2:d<=1):d∈bPa:=by grind[bPa]
def bWp:(dfs.all λd=>d==0||bPa.all λe=>bPa.all λz=> !((d*1000003+e)*1000009000027000028-z)%2147483647==0)=true:=by kernel_rfl
def bPb {s i k:Int}(hi:0<=i/\i<6)(hk:0<=k/\k<6)(h:i≠k):jH (aQ s i)≠jH (aQ s k):=by
 intro he;obtain⟨e,q,d1,d2,d3⟩:=bG5 s i k;have h1:jH (aQ s i)=kD (bK (aQ s i).Seed [151,181]):=bS9 _;have h2:jH (aQ s k)=kD (bK (aQ s k).Seed [151,181]):=bS9 _;obtain⟨a,d,l,n⟩:=C8 (bK (aQ s i).Seed [151,181]);obtain⟨c,b1,o,p⟩:=C8 (bK (aQ s k).Seed [151,181]);obtain⟨q1,f⟩:=bS5 (aQ s i).Seed 151 181;obtain⟨q2,j⟩:=bS5 (aQ s k).Seed 151 181;rw[h1,h2,d,b1,f,j] at he;have u:(((i-k)*1000003+e)*1000009000027000028-(c-a))%2147483647=0:=by omega
 have:=cC.1 bWp (i-k) (bMu (by omega) (by omega));rw[bm.2 (show i-k≠0 by omega),cN] at this;have:=cC.1 (cC.1 this e (aFf d2 d3)) (c-a) (aFf (by omega) (by omega));simp_all
def hs1:Int:=1464438180
def cCo:bD (aA 0)=1941999745:=by kernel_rfl
def cCp:bD (aA 1)=1464438180:=by kernel_rfl
def bTa:(dfs.all λd=>[0,477561565,-477561565].all λ(g:Int)=>(d==0&&g==0)||bPa.all λe=>bPa.all λz=> !((d*1000003+e)*1000015000090000270000405000244+g*1000006000009+d*1000003-z)%2147483647==0)=true:=by kernel_rfl
def bG6 {s i k j l:Int}(hi:0<=i/\i<6)(hk:0<=k/\k<6)(f:j=0\/j=1)(hl:l=0\/l=1)(h:i≠k\/j≠l):cO (aQ s i) (aA j) i≠cO (aQ s k) (aA l) k:=by
 intro he;obtain⟨e,q,d1,d2,d3⟩:=bG5 s i k;have h1:cO (aQ s i) (aA j) i=kD (bK (aQ s i).Seed [151,179,bD (aA j),i]):=bMt _ _ _;have h2:cO (aQ s k) (aA l) k=kD (bK (aQ s k).Seed [151,179,bD (aA l),k]):=bMt _ _ _;obtain⟨c,n,u,x⟩:=C8 (bK (aQ s i).Seed [151,179,bD (aA j),i]);obtain⟨d,b1,y,z⟩:=C8 (bK (aQ s k).Seed [151,179,bD (aA l),k]);obtain⟨q1,o⟩:=bS7 (aQ s i).Seed 151 179 (bD (aA j)) i;obtain⟨q2,p⟩:=bS7 (aQ s k).Seed 151 179 (bD (aA l)) k;rw[h1,h2,n,b1,o,p] at he;obtain⟨g,hg,a⟩:∃g,bD (aA j)-bD (aA l)=g/\(g∈[0,477561565,(-477561565:Int)]/\(j≠l->g≠0)):=by
  rcases f with rfl|rfl<;>rcases hl with rfl|rfl<;>simp only[cCo,cCp]
  all_goals simp
 have A:(((i-k)*1000003+e)*1000015000090000270000405000244+g*1000006000009+(i-k)*1000003-(d-c))%2147483647=0:=by omega
 have:=cC.1 (cC.1 bTa (i-k) (by grind[bMu])) g a.1;rw[show(i-k==0&&g==0)=false by
  rcases h with h|h
  ·rw[bm.2 (show i-k≠0 by omega)];rfl
  ·rw[bm.2 (a.2 h),cP],cN] at this
 have:=cC.1 (cC.1 this e (aFf d2 d3)) (d-c) (aFf (by omega) (by omega));simp_all
def bPc {n:Int}(h:0<=n/\n<2147483647):bL (kD n)=true:=by
 grind[beq_eq_false_iff_ne,decide_eq_true,kD,bL,bR]
def iH (s:Int)(l:List Int):bL (aU s l)=true:=bPc (nI _ _)
theorem aUe {k:Int}(h:bL k=true):1<=k/\k<=2147483646:=gQ h
theorem bYa {k:Int}(h:bL k=true):dW k=k*48271%2147483647:=by have:=aUe h;unfold dW;rw[h,aq,ac,aK (by omega) (by omega),cg (by omega)]
theorem bMv {k:Int}(h:bL k=true):bL (dW k)=true:=by
 grind[decide_eq_true,bL,bR,bYa,aUe]
theorem Vk {k:Int}(h:bL k=true):iC (dW k)=k:=by
 have:=aUe h
 grind[bMv,Bool.not_true,bYa,iC]
def bMw {a b:Int}(c:bL a=true)(hb:bL b=true)(h:dW a=dW b):a=b:=by rw[<-Vk c,h,Vk hb]
def bJ0 {s i k j l:Int}(hi:0<=i/\i<6)(hk:0<=k/\k<6)(a:j=0\/j=1)(hl:l=0\/l=1)(h:i≠k\/j≠l):fF (aQ s i) (aA j) i≠fF (aQ s k) (aA l) k:=
 λhe=>bG6 hi hk a hl h (bMw (iH _ _) (iH _ _) he)
def bPd {s i k:Int}(hi:0<=i/\i<6)(hk:0<=k/\k<6)(h:i≠k):aS (aQ s i)≠aS (aQ s k):=
 λhe=>bPb hi hk h (bMw (iH _ _) (iH _ _) he)
theorem Pn {α:Type}{p:Nat->α->Bool}:∀{l:List α} {i:Nat},(∀k (h:k<l.length),p (i+k) l[k]=false)->gJ p i l=false
 |[],i,_=>rfl
 |x::l,i,h=>by
  have h0:=h 0 (by simp);have a:=Pn (p:=p) (l:=l) (i:=i+1) (λk hk=>by
   have:=h (k+1) (by simpa using hk);rw[show i+1+k=i+(k+1) by omega];simpa using this)
  simp only[gJ,dx,gC] at h0 ⊢;rw[h0,a];rfl
theorem aAr {α:Type}{p:Nat->α->Bool}:∀{l:List α} {i:Nat},gJ p i l=false->∀k (h:k<l.length),p (i+k) l[k]=false
 |x::l,i,h,0,_=>by simp only[gJ,bl] at h;simpa using h.1
 |x::l,i,h,k+1,hk=>by
  simp only[gJ,bl] at h;have:=aAr h.2 k (by simpa using hk);rw[show i+(k+1)=i+1+k by omega];simpa using this
def Vl (seed j:Int)(k:Nat):Int:=fF (aQ seed (k:Int)) (aA j) (k:Int)
def Kn (seed j:Int)(l:List AV):Prop:=∀k (h:k<l.length),l[k].Handle=(k:Int)/\l[k].Public=Vl seed j k/\0<=l[k].Counter/\l[k].Counter<=1000000
theorem kF {x a b:Int}(h1:a<=x)(h2:x<=b):bR x a b=true:=by grind[decide_eq_true,bR]
theorem bMx {seed j l:Int}{i k:Nat}(hi:i<6)(hk:k<6)(a:j=0\/j=1)(hl:l=0\/l=1)(h:i≠k\/j≠l):Vl seed j i≠Vl seed l k:=
 bJ0 (by omega) (by omega) a hl (by omega)
def bPe (seed j:Int)(k:Nat):iC (Vl seed j k)=cO (aQ seed (k:Int)) (aA j) (k:Int):=by simp[Vk,cO,iH,Vl,fF]
theorem aUf {seed j m:Int}{l:List AV}(f:j=0\/j=1)(h:Kn seed j l)(hl:l.length<=6)(hm:1<=m/\m<=3):bA ⟨1,m,l⟩=true:=by
 have n:gJ (xH ⟨1,m,l⟩) 0 l=false:=Pn λk hk=>by
  obtain⟨h1,h2,c,d⟩:=h k hk;have hp:=aUe (iH (aQ seed (k:Int)).Seed [179,bD (aA j),(k:Int)]);unfold xH;rw[ct,h1,kF (by omega) (by omega),h2,bPe,bm.2 (show cO (aQ seed (k:Int)) (aA j) (k:Int)≠0 by unfold cO;omega),kF c d];have o:(decide (0<k)&&decide ((l.getD (k-1) default).Handle>=(k:Int)))=false:=by
   by_cases e:0<k
   ·have a:k-1<l.length:=by omega
    have:=(h (k-1) a).1;rw[List.getD,aa a,cr,this,au (show ¬((k-1:Nat):Int)>=(k:Int) by omega),cP]
   simp[*]
  have p:((l.take k).any λq=>q.Public==Vl seed j k)=false:=by
   rw[gq];intro q hq;obtain⟨i,hi,rfl⟩:=cI.1 hq;rw[cu] at hi;rw[jb,(h i (by omega)).2.1]
   grind[bMx]
  simp_all
 grind[kF,decide_eq_true,bR,decide,gJ,xH,bA]
structure SiteIn (seed j:Int) (n:Nat) (s:AC):Prop where
 name:s.Name=aA j
 book:eX s.Book=true
 key:bL s.Book.Seed=true
 acc:∃l,s.Accounts=[⟨1,3,l⟩]/\Kn seed j l/\l.length=n
theorem C9 {j:Int}(a:j=0\/j=1):(iX (aA j)&&decide (2<=(bO (aA j)).length))=true:=by rcases a with rfl|rfl<;>kernel_rfl
def SiteIn.ok {seed j:Int}{n:Nat}{s:AC}(a:j=0\/j=1)(hn:n<=6)(h:SiteIn seed j n s):bY s=true:=by
 obtain⟨h1,h2,c,l,d,e,f⟩:=h;unfold bY lF;rw[h1,C9 a,c,h2,d];show(true&&true&&decide (1<=8)&&true&& !(Pe [⟨1,3,l⟩] 0 ⟨1,3,l⟩||false))=true
 grind[aUf,Pe]
def SiteIn.find {seed j:Int}{n:Nat}{s:AC}(h:SiteIn seed j n s):aI s 1=0:=by obtain⟨_,_,_,l,a,_⟩:=h;unfold aI;rw[a];rfl
theorem bB6 {α:Type}{p:α->Bool}:∀{l:List α},(∀c∈l,p c=true)->l.takeWhile p=l
 |[],_=>rfl
 |x::l,h=>by rw[dl,h x (by simp),cU rfl,bB6 (λc hc=>h c (by simp[hc]))]
def bTb {l:List AV}{p:Int}(h:∀k (h:k<l.length),l[k].Handle=(k:Int)):aE7 l (l.length:Int) p=l++[⟨(l.length:Int),p,0,false⟩]:=by
 have:F6 (l.length:Int) l=l.length:=by
  grind[decide_eq_true,List.mem_iff_getElem,bB6,F6]
 unfold aE7;rw[this,di,dk,eg]
def Kn.snoc {seed j:Int}{l:List AV}(h:Kn seed j l):Kn seed j (l++[⟨(l.length:Int),Vl seed j l.length,0,false⟩]):=by
 intro k hk;by_cases a:k<l.length
 ·rw[gu a];exact h k a
 grind
def SiteIn.reg {seed j:Int}{n:Nat}{s:AC}(c:j=0\/j=1)(hn:n<6)(h:SiteIn seed j n s):
  (eH s 1 (n:Int) (Vl seed j n)).2=true/\SiteIn seed j (n+1) (eH s 1 (n:Int) (Vl seed j n)).1:=by
 have d:=h.ok c (by omega);have e:=h.find;obtain⟨h1,h2,i,l,o,f,q⟩:=h;subst q;have u:(s.Accounts.getD (aI s 1).toNat default)=⟨1,3,l⟩:=by simp[*]
 have hi:=bTb (p:=Vl seed j l.length) (λk hk=>(f k hk).1);have hs:=f.snoc;have x:=aUf (m:=3) c f (by omega) (by grind);have y:=aUf (m:=3) c hs (by simp;omega) (by grind);have a:fT ⟨1,3,l⟩ (l.length:Int) (Vl seed j l.length)=(⟨1,3,l++[⟨(l.length:Int),Vl seed j l.length,0,false⟩]⟩,true):=by
  grind[bA,aE7,Vl,fT]
 unfold eH;rw[d,e,show decide ((0:Int)<0)=false from rfl,<-e,u,a,e,o];exact⟨rfl,h1,h2,i,_,rfl,hs,by simp⟩
def bJ1 {seed j:Int}(c:j=0\/j=1):SiteIn seed j 0 (oF (iD (aA j) (aU seed [281,j])) 1 3).1:=by
 have hk:=iH seed [281,j];generalize aU seed [281,j]=q at*;have hn:iD (aA j) q=⟨aA j,[],⟨q,0,[]⟩,[]⟩:=by
  grind[C9,iD,lF]
 have hb:eX ⟨q,0,[]⟩=true:=rfl;have a:SiteIn seed j 0 (rM ⟨aA j,[],⟨q,0,[]⟩,[]⟩ 1 3):=
  ⟨rfl,hb,hk,[],rfl,λk hk=>by simp at hk,rfl⟩
 have h0:bY ⟨aA j,[],⟨q,0,[]⟩,[]⟩=true:=by unfold bY lF;rw[C9 c,hk];rfl
 unfold oF;rw[hn,h0,a.ok c (by omega)];exact a
def aUg {seed j:Int}(a:j=0\/j=1):∀(m i:Nat) (s:AC),SiteIn seed j i s->i+m<=6->
  SiteIn seed j (i+m) (qM (aA j) i ((List.range' i m).map λ(k:Nat)=>bH (aQ seed (k:Int))) s)
 |0,i,s,h,_=>h
 |m+1,i,s,h,hm=>by
  have:=aUg a m (i+1) _ (h.reg a (by omega)).2 (by omega);rw[show i+1+m=i+(m+1) by omega] at this;exact this
theorem bG7 {seed j:Int}(a:j=0\/j=1){n:Nat}(hn:n<=6):SiteIn seed j n (xV seed (dN seed n) j):=by have:=aUg a n 0 _ (bJ1 (seed:=seed) a) (by omega);rw[ct,<-List.range_eq_range'] at this;exact this
theorem bG8 {α:Type}{r:α->α->Prop}(ht:∀a b c,r a b->r b c->r a c):∀{l:List α},(∀k (h:k+1<l.length),r l[k] l[k+1])->l.Pairwise r
 |[],_=> .nil
 |[x],_=>List.pairwise_singleton r x
 |x::y::l,h=>by
  have e:=bG8 (r:=r) ht (l:=y::l) (λk hk=>by have:=h (k+1) (by simpa using hk);simpa using this);refine cj.2 ⟨λz d=> ?_,e⟩;have h0:r x y:=by simpa using h 0 (by simp)
  rcases ba.1 d with rfl|d
  ·exact h0
  ·exact ht _ _ _ h0 ((cj.1 e).1 z d)
structure BookIn (b:AQ):Prop where
 next:0<=b.Next/\b.Next<=1000000
 len:b.Open.length<=16
 ord:b.Open.Pairwise (λa c=>a.Id<c.Id)
 all:∀c∈b.Open,(0<=c.Id/\c.Id<b.Next)/\(0<=c.aAH/\c.aAH<=1000005)/\(0<=c.Until/\c.Until<=1000005)
def BookIn.ok {b:AQ}(h:BookIn b):eX b=true:=by
 obtain⟨h1,h2,a,c⟩:=h;have d:gJ (iU b) 0 b.Open=false:=(by grind[Pn,List.getElem_mem,iU,aK,kF,decide,default,List.pairwise_iff_getElem,List.getD,List.getElem?_eq_getElem,decide_eq_false])
 grind[kF,decide_eq_true,eX]
def D5 {b:AQ}(h:eX b=true):BookIn b:=by
 unfold eX at h;simp only[ab,cm,bq] at h;obtain⟨⟨h1,h2⟩,f⟩:=h;have h1:=gQ h1;have hg:∀k (hk:k<b.Open.length),((0<=b.Open[k].Id/\b.Open[k].Id<b.Next)/\(0<=b.Open[k].aAH/\b.Open[k].aAH<=1000005)/\(0<=b.Open[k].Until/\b.Open[k].Until<=1000005))/\(0<k->(b.Open.getD (k-1) default).Id<b.Open[k].Id):=λk hk=>by
  have:=aAr f k hk;unfold iU at this;rw[ct,aK (by omega) (by omega)] at this;simp only[bl,cG,Bool.and_eq_false_iff,cz] at this;obtain⟨a,i,d,e⟩:=this;have a:=gQ a;have d:=gQ d;have e:=gQ e;omega
 refine⟨⟨h1.1,h1.2⟩,h2,(by grind[bG8,Int.lt_trans]),λc hc=> ?_⟩
 all_goals grind[List.mem_iff_getElem,Nat.add_sub_cancel,List.getD,List.getElem?_eq_getElem]
def bG9 {b:AQ}(h:BookIn b)(a n:Int):BookIn (fK b a n).1/\(fK b a n).1.Seed=b.Seed/\b.Next<=(fK b a n).1.Next/\(fK b a n).1.Next<=b.Next+1:=by
 unfold fK;rw[h.ok];by_cases hn:b.Next=1000000
 ·simp[*]
 ·rw[bm.2 hn];cases hr:bR a 0 1000000&&bR n 0 1000000 with
  |false=>grind
  |true=>
   rw[ab] at hr;have f:=gQ hr.1;have i:=gQ hr.2;obtain⟨h1,h2,j,k⟩:=h;have d:IntKind.i64.wrap (b.Next+1)=b.Next+1:=(by grind[aK]);have e:IntKind.i64.wrap (n+5)=n+5:=(by grind[aK]);have key:∀l:List A4,l.length<=15->l.Pairwise (λa c=>a.Id<c.Id)->(∀c∈l,c∈b.Open)->BookIn ⟨b.Seed,IntKind.i64.wrap (b.Next+1),l++[aE9 b a n]⟩:=λl hl ho hm=>by
    rw[d];refine⟨(by grind),by simp;omega,?_,λc hc=> ?_⟩
    all_goals grind[q1,q2,q3,List.mem_singleton,aE9]
   grind
def bWq {b:AQ}(h:BookIn b)(c a n:Int):BookIn (pV b c a n).1/\(pV b c a n).1.Seed=b.Seed:=by
 unfold pV;rw[h.ok];cases decide (dR b c<0) with
 |true=>simp[*]
 |false=>
  obtain⟨h1,h2,e,f⟩:=h;have d:(b.Open.take (dR b c).toNat++b.Open.drop ((dR b c).toNat+1)).Sublist b.Open:=by
   grind[List.drop_sublist,List.drop_drop,List.Sublist.append,List.take_append_drop,dR]
  exact⟨⟨h1,bv d.length_le h2,e.sublist d,λc hc=>f c (d.subset hc)⟩,rfl⟩
def SiteIn.aBN {seed j:Int}{n:Nat}{s:AC}(h:SiteIn seed j n s){b:AQ}(hb:BookIn b)(hs:b.Seed=s.Book.Seed):SiteIn seed j n {s with Book:=b}:=
 ⟨h.name,hb.ok,by show bL b.Seed=true;rw[hs];exact h.key,h.acc⟩
def SiteIn.begin {seed j:Int}{n:Nat}{s:AC}(h:SiteIn seed j n s)(i t:Int):SiteIn seed j n (mU s i t).1:=by
 unfold mU;cases bY s&&(!decide (aI s i<0)&&(fK s.Book i t).2.2) with
 |false=>exact h
 |true=>have:=bG9 (D5 h.book) i t;exact h.aBN this.1 this.2.1
def Kn.set {seed j:Int}{l:List AV}(h:Kn seed j l){k:Nat}(hk:k<l.length){c:AV}(h1:c.Handle=l[k].Handle)(h2:c.Public=l[k].Public)(a:0<=c.Counter/\c.Counter<=1000000):Kn seed j (l.set k c):=by
 intro i hi;rw[eL];rw[aw] at hi;split
 ·rename_i e;subst e;have:=h k hk;omega
 ·exact h i hi
theorem xX {α:Type}{p:α->Bool}:∀{l:List α} {i:Nat},decide (lL p i l<0)=false->∃k,∃h:k<l.length,lL p i l=((i+k:Nat):Int)/\p l[k]=true
 |[],i,h=>by simp[lL] at h
 |x::l,i,h=>by
  unfold lL at h ⊢;cases hp:p x with
  |true=>exact⟨0,by simp,by simp,by simpa using hp⟩
  |false=>rw[hp,ac] at h;obtain⟨k,hk,a,c⟩:=xX h;exact⟨k+1,by simpa using hk,by rw[ac,a];congr 1;omega,by simpa using c⟩
def Kn.use {seed j:Int}{l:List AV}(h:Kn seed j l)(x:AZ)(z:ByteArray)(c:Int)(y:0<=x.Counter/\x.Counter<=1000000):
  ∃l',(iO ⟨1,3,l⟩ x z c).1=⟨1,3,l'⟩/\Kn seed j l'/\l'.length=l.length/\∀k (h1:k<l.length) (h2:k<l'.length),l[k].Cut=true->l'[k].Cut=true:=by
 unfold iO;cases hb: !bA ⟨1,3,l⟩||(decide (aY ⟨1,3,l⟩ x.Handle<0)||(gW ⟨1,3,l⟩ (aY ⟨1,3,l⟩ x.Handle)).Cut) with
 |true=>simp[*]
 |false=>
  simp only[bl] at hb;obtain⟨k,hk,d,A⟩:=xX (l:=l) hb.2.1;have f:aY ⟨1,3,l⟩ x.Handle=(k:Int):=d.trans (by simp);have n:gW ⟨1,3,l⟩ (k:Int)=l[k]:=by grind[List.getD,List.getElem?_eq_getElem,gW]
  rw[f,n,ac,bn];have a:∀c:AV,c.Handle=l[k].Handle->c.Public=l[k].Public->0<=c.Counter/\c.Counter<=1000000->(l[k].Cut=true->c.Cut=true)->
    ∃l',(AI.mk 1 3 (l.set k c))=⟨1,3,l'⟩/\Kn seed j l'/\l'.length=l.length/\∀i (h1:i<l.length) (h2:i<l'.length),l[i].Cut=true->l'[i].Cut=true:=λc o p s u=>
   ⟨_,rfl,h.set hk o p s,aw,λi h1 h2 e=>by
    rw[eL];split
    ·rename_i q;subst q;exact u e
    ·exact e⟩
  cases iL l[k].Public x z c l[k].Counter==0 with
  |true=>simp_all
  |false=>
   cases iL l[k].Public x z c l[k].Counter==4 with
   |true=>exact a _ rfl rfl (h k hk).2.2 (λ_=>rfl)
   |false=>simp[*]
def SiteIn.aCB {seed j:Int}{n:Nat}{s:AC}(h:SiteIn seed j n s){l:List AV}(hl:Kn seed j l)(hn:l.length=n)(g:List Int)(b:AQ)(hb:BookIn b)(hs:b.Seed=s.Book.Seed):SiteIn seed j n {s with Book:=b,Accounts:=[⟨1,3,l⟩],Logins:=g}:=
 ⟨h.name,hb.ok,by show bL b.Seed=true;rw[hs];exact h.key,l,rfl,hl,hn⟩
def SiteIn.finish {seed j:Int}{n:Nat}{s:AC}(h:SiteIn seed j n s)(c t:Int)(x:AZ)(a:0<=x.Counter/\x.Counter<=1000000):SiteIn seed j n (lX s 1 c t x).1:=by
 have d:=h.find;have hk:=bWq (D5 h.book) c 1 t;unfold lX;rw[d];cases !bY s||decide ((0:Int)<0) with
 |true=>exact h
 |false=>
  simp only[ac];cases !(pV s.Book c 1 t).2 with
  |true=>exact h.aBN hk.1 hk.2
  |false=>
   simp only[ac];cases !qL (gG s 0) 3 with
   |true=>exact h.aBN hk.1 hk.2
   |false=>
    obtain⟨l,e,hl,hn⟩:=h.acc;have f:gG s 0=⟨1,3,l⟩:=by grind[gG]
    obtain⟨l',q1,q2,q3,_⟩:=hl.use x s.Name (fB s.Book c) a;simp only[ac,f,q1];rw[show s.Accounts.set (0:Int).toNat ⟨1,3,l'⟩=[⟨1,3,l'⟩] by rw[e];rfl];cases !((iO ⟨1,3,l⟩ x s.Name (fB s.Book c)).2==0) with
    |true=>exact h.aCB q2 (q3.trans hn) s.Logins _ hk.1 hk.2
    |false=>exact h.aCB q2 (q3.trans hn) (s.Logins++[1]) _ hk.1 hk.2
def bTc (s:AK)(z:ByteArray)(i:Int)(m:List Int):(jI s z i m).1.Seed=s.Seed/\(jI s z i m).1.Vendor=s.Vendor/\(jI s z i m).1.Serial=s.Serial/\((jI s z i m).2.2=true->(jI s z i m).1.Counter=s.Counter+1/\0<=s.Counter/\s.Counter<1000000)/\((jI s z i m).2.2=false->(jI s z i m).1=s):=by
 unfold jI;cases hb:lW s&& !(s.Counter==1000000) with
 |false=>simp
 |true=>
  simp only[ab,bq,bm] at hb;have hs:=hb.1;unfold lW at hs;simp only[ab] at hs;have hc:=gQ hs.2.2.2;refine⟨rfl,rfl,rfl,⟨λ_=> ?_,λh=>by cases h⟩⟩
  have:IntKind.i64.wrap (s.Counter+1)=s.Counter+1:=(by grind[aK]);exact⟨this,by omega,by have:=hb.2;omega⟩
def bHa (s:AK)(o:AP)(z:ByteArray)(i c:Int)(p:Bool):(jJ s o z i c p).1.Seed=s.Seed/\(jJ s o z i c p).1.Vendor=s.Vendor/\(jJ s o z i c p).1.Serial=s.Serial/\(0<=s.Counter/\s.Counter<=1000000->(0<=(jJ s o z i c p).1.Counter/\(jJ s o z i c p).1.Counter<=1000000)/\(0<=(jJ s o z i c p).2.1.Counter/\(jJ s o z i c p).2.1.Counter<=1000000)):=by
 obtain⟨h1,h2,a,d,e⟩:=bTc s z i (bP (Sa s o z i c p));unfold jJ;cases hb:mK o z&&(jI s z i (bP (Sa s o z i c p))).2.2 with
 |false=>exact⟨rfl,rfl,rfl,λh=>⟨h,cL 0,show(0:Int)<=1000000 by decide⟩⟩
 |true=>
  grind
structure StIn (seed:Int) (k:Nat) (s:AK):Prop where
 ven:s.Vendor=1
 ser:s.Serial=(k:Int)
 key:s.Seed=(aQ seed (k:Int)).Seed
 cnt:0<=s.Counter/\s.Counter<=1000000
structure WIn (m:Nat) (w:AA):Prop where
 seed:bL w.Seed=true
 now:0<=w.Now/\w.Now<=999900
 dlen:1<=w.Devices.length/\w.Devices.length<=6
 slen:w.Stolen.length=w.Devices.length
 dev:∀k (h:k<w.Devices.length),StIn w.Seed k w.Devices[k].Store
 two:w.Sites.length=2
 mle:m<=6
 site:∀j (h:j<w.Sites.length),SiteIn w.Seed (j:Int) m w.Sites[j]
 mail:kL w.Mail=true
 log:aT w.aAE.Log=true
def WIn.ok {m:Nat}{w:AA}(h:WIn m w):aP w=true:=by
 have hs:gJ uD 0 w.Sites=false:=Pn λk hk=>by
  have h2:=h.two;have:=h.site k hk;unfold uD;rw[this.ok (by omega) h.mle,this.name,ct];simp
 unfold aP;have h2:=h.two;have a:=h.slen;have c:=h.dlen;rw[hs,h.log,h.mail,h.seed,kF h.now.1 h.now.2,kF (by omega) (by omega),a,h2];simp
def WIn.upd {m:Nat}{w v:AA}(h:WIn m w)(h1:v.Seed=w.Seed)(h2:v.Now=w.Now)(a:v.Devices.length=w.Devices.length)(c:v.Stolen.length=w.Stolen.length)
  (i:∀k (h:k<v.Devices.length),StIn w.Seed k v.Devices[k].Store) (d:v.Sites.length=2) (l:∀j (h:j<v.Sites.length),SiteIn w.Seed (j:Int) m v.Sites[j]) (e:kL v.Mail=true) (f:aT v.aAE.Log=true):WIn m v where
 seed:=by rw[h1];exact h.seed
 now:=by rw[h2];exact h.now
 dlen:=by rw[a];exact h.dlen
 slen:=by rw[a,c];exact h.slen
 dev:=by simp[*]
 two:=d
 mle:=h.mle
 site:=by simp[*]
 mail:=e
 log:=f
def WIn.aBR {m:Nat}{w:AA}(h:WIn m w){i:Nat}{x:AD}(hi:i<w.Devices.length)(a:StIn w.Seed i x.Store):∀k (h:k<(w.Devices.set i x).length),StIn w.Seed k (w.Devices.set i x)[k].Store:=λk hk=>by
 rw[eL];rw[aw] at hk;split
 ·simp_all
 ·exact h.dev k hk
def WIn.aDO {m:Nat}{w:AA}(h:WIn m w){i:Nat}{x:AC}(hi:i<2)(a:SiteIn w.Seed (i:Int) m x):∀k (h:k<(w.Sites.set i x).length),SiteIn w.Seed (k:Int) m (w.Sites.set i x)[k]:=λk hk=>by
 rw[eL];rw[aw] at hk;split
 ·simp_all
 ·exact h.site k hk
def qA {w:AA}{d:Int}(h:aL w d=true):0<=d/\d.toNat<w.Devices.length/\aH w d=w.Devices.getD d.toNat default:=by simp only[aL,ab,cm] at h;exact⟨h.1,by omega,rfl⟩
theorem iZ {w:AA}{d:Int}(h:aL w d=true):∃h:d.toNat<w.Devices.length,aH w d=w.Devices[d.toNat]:=by simp_all[List.getD,aa,qA]
def WIn.aCD {m:Nat}{w:AA}(h:WIn m w){d:Int}(hd:aL w d=true):StIn w.Seed d.toNat (aH w d).Store:=by obtain⟨h1,h2⟩:=iZ hd;rw[h2];exact h.dev _ h1
def bPf {m:AU}(h:kL m=true)(k a t:Int):kL (Fw m k a t).1=true:=by
 grind[kL,Qj,Bool.or_eq_false_iff,Bool.not_eq_false',Fw]
def WIn.tell {m:Nat}{w:AA}(h:WIn m w)(k:Int):WIn m (rH w k):=
 h.upd rfl rfl rfl rfl h.dev h.two h.site (bPf h.mail _ _ _) h.log
def StIn.make {seed:Int}{k:Nat}{s:AK}(h:StIn seed k s)(o:AP)(z:ByteArray)(i c:Int)(p:Bool):StIn seed k (jJ s o z i c p).1:=by obtain⟨h1,h2,a,d⟩:=bHa s o z i c p;exact⟨h2.trans h.ven,a.trans h.ser,h1.trans h.key,(d h.cnt).1⟩
def WIn.visit {m:Nat}{w:AA}(h:WIn m w)(d j:Int)(o:AP):WIn m (gN w d j o).1:=by
 unfold gN;cases ht:dL w d j with
 |false=>exact h
 |true=>
  have a:=ht;simp only[dL,ab] at a;have h2:=h.two;have hq:=a.2.2;simp only[fA,ab,cm] at hq;have k:j.toNat<w.Sites.length:=by omega
  have es:eO w j=w.Sites[j.toNat]:=by grind[List.getD,List.getElem?_eq_getElem,eO]
  have hs:=h.site _ k;rw[<-es,show((j.toNat:Nat):Int)=j by omega] at hs;have c:=h.aCD a.2.1;have hm:=bHa (aH w d).Store o (aA j) d (aAY w j).2.2.1 true;have hb:SiteIn w.Seed j m (aAY w j).1:=hs.begin 1 w.Now;have f:SiteIn w.Seed j m (vF w d j o).1:=hb.finish _ _ _ (hm.2.2.2 c.cnt).2;have i:WIn m (aPn w d j o):=by obtain⟨l,e,_⟩:=qA a.2.1;refine h.upd rfl rfl (aw ..) rfl (h.aBR e (c.make o (aA j) d (aAY w j).2.2.1 true)) (by show(w.Sites.set _ _).length=2;rw[aw,h2]) (h.aDO (by omega) (by grind)) h.mail h.log
  simp only[aq,ac];cases !(aAY w j).2.2.2 with
  |true=>exact h
  |false=>
   cases !((vF w d j o).2.1==0) with
   |true=>exact i
   |false=>exact i.tell 1
def WIn.sync {m:Nat}{w:AA}(h:WIn m w)(d b:Int):WIn m (aR w d b).1:=by
 unfold aR;cases hb:aP w&&aL w d with
 |false=>exact h
 |true=>rw[ab] at hb;obtain⟨e,a,_⟩:=qA hb.2;refine h.upd rfl rfl (aw ..) rfl (h.aBR a ?_) h.two h.site h.mail h.log;have c:=h.aCD hb.2;unfold cK;cases kM (aH w d) w.aAE.Log w.aAE.Boxes (gB w.aAE b).1==0<;>exact c
def WIn.aDP {m:Nat}{w:AA}(h:WIn m w)(d:Int)(n:ByteArray)(a:Int)(r:Bool):WIn m (sW w d n a r).1:=by
 unfold sW;cases hb:aP w&&aL w d with
 |false=>exact h
 |true=>
  rw[ab] at hb;obtain⟨f,c,_⟩:=qA hb.2;have e:=h.aCD hb.2;simp only[ae];cases(dJ (aH w d) n a r).2 with
  |false=>exact h
  |true=>refine h.upd rfl rfl (aw ..) rfl (h.aBR c ?_) h.two h.site h.mail h.log;unfold dJ;cases(Au (aH w d) n a r).2<;>exact e
theorem aOv (d:AD):(dV d).1.Store=d.Store:=by unfold dV;cases(rG d.Key d.Epoch (IntKind.i64.wrap (d.Version+1)) d.aAC).2<;>rfl
def WIn.up {m:Nat}{w:AA}(h:WIn m w){d:Int}(hd:aL w d=true):WIn m (upF w d).1:=by
 unfold upF;cases(dV (aH w d)).2.2&&(dK w.aAE (dV (aH w d)).2.1).2 with
 |false=>exact h
 |true=>obtain⟨c,a,_⟩:=qA hd;refine h.upd rfl rfl (aw ..) rfl (h.aBR a (by rw[aOv];exact h.aCD hd)) h.two h.site h.mail ?_;show aT (dK w.aAE (dV (aH w d)).2.1).1.Log=true;rw[(wM _ _).2];exact h.log
def WIn.push {m:Nat}{w:AA}(h:WIn m w)(d:Int):WIn m (iK w d).1:=by
 unfold iK;cases hb:(aR w d 0).2==0&&(upF (aR w d 0).1 d).2 with
 |false=>exact h
 |true=>
  rw[ab] at hb;have h0:=qK hb.1;exact(h.sync d 0).up (by
   grind[aL])
theorem jB (w:AA)(d b:Int):(aR w d b).1.Seed=w.Seed/\(aR w d b).1.Now=w.Now/\(aR w d b).1.Devices.length=w.Devices.length/\(aR w d b).1.Sites=w.Sites/\(aR w d b).1.Stolen=w.Stolen/\(aR w d b).1.aAE=w.aAE:=by
 grind[aP,aL,List.length_set,aR]
theorem bD2 (w:AA)(d:Int):(upF w d).1.Seed=w.Seed/\(upF w d).1.Now=w.Now/\(upF w d).1.Devices.length=w.Devices.length/\(upF w d).1.Sites=w.Sites/\(upF w d).1.Stolen=w.Stolen/\(upF w d).1.aAE.Log=w.aAE.Log:=by
 grind[dV,aH,dK,List.length_set,wM,upF]
def Bi (w:AA)(d:Int):(iK w d).1.Seed=w.Seed/\(iK w d).1.Now=w.Now/\(iK w d).1.Devices.length=w.Devices.length/\(iK w d).1.Sites=w.Sites/\(iK w d).1.Stolen=w.Stolen/\(iK w d).1.aAE.Log=w.aAE.Log:=by
 grind[aR,upF,jB,bD2,iK]
def wP (w:AA)(b k p:Int)(key:List AF->Int):(jV w b k p key).1.Seed=w.Seed/\(jV w b k p key).1.Now=w.Now/\(jV w b k p key).1.Devices=w.Devices/\(jV w b k p key).1.Sites=w.Sites/\(jV w b k p key).1.Stolen=w.Stolen/\(jV w b k p key).1.Mail=w.Mail/\(aT w.aAE.Log=true->aT (jV w b k p key).1.aAE.Log=true):=by
 unfold jV
 grind[nM,aT,cZ,iY,bI,eG,aH]
def WIn.aDH {m:Nat}{w:AA}(h:WIn m w)(b k p:Int)(key:List AF->Int):WIn m (jV w b k p key).1:=by obtain⟨d,e,a,c,f,i,j⟩:=wP w b k p key;exact h.upd d e (by rw[a]) (by rw[f]) (by rw[a];exact h.dev) (by rw[c];exact h.two) (by rw[c];exact h.site) (by rw[i];exact h.mail) (j h.log)
def bB7 {seed:Int}{m:Nat}(hm:m<6):∀(l:List AC) (j:Nat),j+l.length<=2->(∀i (h:i<l.length),SiteIn seed ((j+i:Nat):Int) m l[i])->
  (gV (aQ seed (m:Int)) (m:Int) j l).2=true/\(gV (aQ seed (m:Int)) (m:Int) j l).1.length=l.length/\∀i (h:i<(gV (aQ seed (m:Int)) (m:Int) j l).1.length),SiteIn seed ((j+i:Nat):Int) (m+1) (gV (aQ seed (m:Int)) (m:Int) j l).1[i]
 |[],j,_,_=>⟨rfl,rfl,λi h=>by simp[gV] at h⟩
 |s::l,j,a,h=>by
  have h0:SiteIn seed (j:Int) m s:=h 0 (by simp);simp only[ao] at a;obtain⟨c,d⟩:=h0.reg (by omega) hm;obtain⟨f,k,n⟩:=bB7 hm l (j+1) (by omega) (λi hi=>by
   have:=h (i+1) (by simpa using hi);rw[show j+1+i=j+(i+1) by omega];simpa using this)
  have e:fF (aQ seed (m:Int)) (aA (j:Int)) (m:Int)=Vl seed (j:Int) m:=by unfold Vl;rfl
  have o:gV (aQ seed (m:Int)) (m:Int) j (s::l)=((eH s 1 (m:Int) (Vl seed (j:Int) m)).1::(gV (aQ seed (m:Int)) (m:Int) (j+1) l).1,true):=by rw[gV,e,c,f];rfl
  rw[o];refine⟨rfl,by simp[k],λi hi=> ?_⟩;cases i with
  |zero=>simpa using d
  |succ i=>simp only[ao] at hi;have:=n i (by omega);rw[show j+1+i=j+(i+1) by omega] at this;simpa using this
def Po (d:AD)(n:ByteArray)(h:Int)(r:Bool):(dJ d n h r).1.Store=d.Store:=by unfold dJ;cases(Au d n h r).2<;>rfl
def aUh (d:AD)(h:Int)(r:Bool):(nA d h r).Store=d.Store:=by unfold nA;rw[Po,Po]
theorem yU {w v:AA}{d:Int}(h:aL w d=true)(e:v.Devices.length=w.Devices.length):aL v d=true:=by
 grind[aL]
def WIn.app {m:Nat}{w:AA}(h:WIn m w)(hl:w.Devices.length<6):WIn m (appW w (bH (aQ w.Seed (w.Devices.length:Int)))) where
 seed:=h.seed
 now:=h.now
 dlen:=by grind[List.length_append,List.length_cons,List.length_nil,appW]
 slen:=by unfold appW;simp only[ay,ao,bu,h.slen]
 dev:=λk hk=>by
  have a:k<(w.Devices++[bH (aQ w.Seed (w.Devices.length:Int))]).length:=hk;show StIn w.Seed k ((w.Devices++[bH (aQ w.Seed (w.Devices.length:Int))])[k]'a).Store;rw[List.getElem_append];split
  ·rename_i c;exact h.dev k c
  ·simp only[ay,ao,bu] at a;have e:k=w.Devices.length:=by omega
   subst e;simp only[gA,gC];exact⟨rfl,rfl,rfl,cL 0,show(0:Int)<=1000000 by decide⟩
 two:=h.two
 mle:=h.mle
 site:=h.site
 mail:=h.mail
 log:=h.log
def WIn.aCY {w:AA}(h:WIn w.Devices.length w){b:Int}(hn:w.Devices.length<6)(k2:aL w b=true):WIn (w.Devices.length+1) (aAV w b)/\(aAV w b).Seed=w.Seed/\(aAV w b).Devices.length=w.Devices.length:=by
 obtain⟨s1,s2,s3,s4,s5,s6⟩:=jB w b 0;have h0:=h.sync b 0;have h1:WIn w.Devices.length (add1 w b).1:=h0.aDH _ _ _ _;obtain⟨d,n,e,o,p,q,s⟩:=wP (aR w b 0).1 b 1 (aS (aQ w.Seed (w.Devices.length:Int))) (λ_=>(aH (aR w b 0).1 b).Key);have a:(add1 w b).1.Seed=w.Seed:=d.trans s1;have c:(add1 w b).1.Devices.length=w.Devices.length:=by show(jV _ _ _ _ _).1.Devices.length=_;rw[e,s3]
 obtain⟨u,f,k⟩:=bB7 (seed:=w.Seed) hn (add1 w b).1.Sites 0 (by rw[h1.two];omega) (λi hi=>by
  have:=h1.site i hi;simp_all)
 have hd:aL (add1 w b).1 b=true:=yU k2 c;obtain⟨d0,d1,_⟩:=qA hd;refine⟨{
  seed:=by show bL (add1 w b).1.Seed=true;exact h1.seed
  now:=h1.now
  dlen:=by show 1<=((add1 w b).1.Devices.set _ _).length/\((add1 w b).1.Devices.set _ _).length<=6;rw[aw];exact h1.dlen
  slen:=by show(add1 w b).1.Stolen.length=((add1 w b).1.Devices.set _ _).length;rw[aw];exact h1.slen
  dev:=h1.aBR d1 (by rw[aUh];exact h1.aCD hd)
  two:=by show(aAl w b).1.length=2;exact f.trans h1.two
  mle:=by omega
  site:=λj l=>by
   have:=k j l;rw[ct] at this;show SiteIn (add1 w b).1.Seed (j:Int) _ _;rw[a];exact this
  mail:=h1.mail
  log:=h1.log},a,?_⟩
 show((add1 w b).1.Devices.set _ _).length=_;rw[aw,c]
theorem WIn.add {w:AA}(h:WIn w.Devices.length w)(b:Int):WIn (fI w b).1.Devices.length (fI w b).1/\(fI w b).1.Seed=w.Seed:=by
 unfold fI;cases a:Cb w b with
 |false=>simp[*]
 |true=>
  unfold Cb at a;simp only[ab,bq,cz] at a;obtain⟨⟨k1,k2,k3,k4⟩,k5,k6,k7,k8,k9⟩:=a;have hn:w.Devices.length<6:=by omega
  obtain⟨h2,f,i⟩:=h.aCY hn k2;have j:WIn (w.Devices.length+1) (rJ w b).1:=h2.push b;obtain⟨c,o,d,p,q,s⟩:=Bi (aAV w b) b;have c:(rJ w b).1.Seed=w.Seed:=c.trans f;have d:(rJ w b).1.Devices.length=w.Devices.length:=d.trans i;have e:=j.app (by omega);rw[c,d] at e;have k:WIn (w.Devices.length+1) (Ey w b).1:=e.sync _ _;obtain⟨q1,q2,q3,q4,q5,q6⟩:=jB (appW (rJ w b).1 (bH (aQ w.Seed (w.Devices.length:Int)))) (w.Devices.length:Int) 0;have l:(rH (Ey w b).1 2).Devices.length=w.Devices.length+1:=by
   show(Ey w b).1.Devices.length=_;refine q3.trans ?_
   grind[List.length_append,List.length_cons,List.length_nil,appW]
  have n:=k.tell 2;simp only[ae];rw[l];exact⟨n,q1.trans c⟩
def bHb {k:Int}(h:bL k=true)(l:List Int):iT (dW k) l (sQ k l)=true:=by
 have:=aUe h
 grind[Vk,bne,beq_eq_false_iff_ne,iT]
def bTd {l:List AF}{e:AF}(h:l=[]\/aT l=true)(hs:lT l e=true)(hl:l.length<40):aT (l++[e])=true:=by
 grind[kF,Bool.not_eq_true',aT,gJ,lT,Pn,List.getElem_append_left,aAr]
theorem Vm (l:List AF)(e:AF):aC (l++[e])=kK (aC l) e:=by simp[ga,aC]
theorem Pp (l:List AF)(e:AF):aD (l++[e])=bif e.Kind==2 then IntKind.i64.wrap (aD l+1) else aD l:=by simp[ga,aD]
theorem Ba (l:List AF)(e:AF)(p:Int):dZ (l++[e]) p=(dZ l p||(e.Kind==2&&e.Device==p)):=by simp[List.any_append,dZ]
def nC (seed:Int)(k:Nat):Int:=aS (aQ seed (k:Int))
theorem aSd {seed:Int}{i k:Nat}(hi:i<6)(hk:k<6)(h:i≠k):nC seed i≠nC seed k:=bPd (by omega) (by omega) (by omega)
def aAs (s:AK):bL (jH s)=true:=by simp[iH,jH]
theorem lY {l:List Int}{x:Int}:iQ l x=true↔x∈l:=by
 grind[List.any_eq_true,iQ]
structure NewLog (seed:Int) (n:Nat) (l:List AF):Prop where
 len:l.length=n
 devs:aC l=(List.range n).map (nC seed)
 rem:∀p,dZ l p=false
 ep:aD l=0
 ok:n=0\/aT l=true
def tH (seed:Int):∀n,n<=6->NewLog seed n (aV seed n)
 |0,_=>⟨rfl,rfl,λ_=>rfl,rfl, .inl rfl⟩
 |n+1,hn=>by
  obtain⟨h1,h2,h,j,c⟩:=tH seed n (by omega);have a:iQ (aC (aV seed n)) (nC seed n)=false:=by rw[gr,Ne,lY,h2];intro hm;obtain⟨i,hi,e⟩:=cn.1 hm;have hi:=List.mem_range.1 hi;exact aSd (by omega) (by omega) (by omega) e
  have d:lT (aV seed n) (Kg (aV seed n) 1 (nC seed n) (aQ seed 0))=true:=by
   unfold lT;have v:iT (aS (aQ seed 0)) [dG (bGr (aV seed n) 1 (nC seed n) (aQ seed 0))] (lV (aQ seed 0) [dG (bGr (aV seed n) 1 (nC seed n) (aQ seed 0))])=true:=by unfold lV aS;exact bHb (aAs _) _
   show(((aV seed n).length:Int)==((aV seed n).length:Int)&&(iW (aV seed n)==iW (aV seed n)&&((iQ (aC (aV seed n)) (aS (aQ seed 0))||(((aV seed n).length:Int)==0&&aS (aQ seed 0)==nC seed n))&&(iT (aS (aQ seed 0)) [dG (bGr (aV seed n) 1 (nC seed n) (aQ seed 0))] (lV (aQ seed 0) [dG (bGr (aV seed n) 1 (nC seed n) (aQ seed 0))])&&
    (!dZ (aV seed n) (nC seed n)&&(true&&(!iQ (aC (aV seed n)) (nC seed n)&&decide (((aC (aV seed n)).length:Int)<6))))))))=true
   rw[v,h,a,h2,h1];have f:(iQ ((List.range n).map (nC seed)) (aS (aQ seed 0))||((n:Int)==0&&aS (aQ seed 0)==nC seed n))=true:=by
    cases n with
    |zero=>simp[nC]
    |succ n=>rw[show iQ ((List.range (n+1)).map (nC seed)) (aS (aQ seed 0))=true from lY.2 (cn.2 ⟨0,by simp,rfl⟩)];rfl
   rw[f];simp;omega
  have hl:=bTd (l:=aV seed n) (by
   rcases c with c|c
   ·subst c;exact .inl rfl
   ·exact .inr c) d (by omega)
  have e:aV seed (n+1)=aV seed n++[Kg (aV seed n) 1 (nC seed n) (aQ seed 0)]:=by
   show(eG (aV seed n) 1 (aS (aQ seed (n:Int))) (aQ seed 0)).1=_;unfold eG;have hq:(decide (((aV seed n).length:Int)>0)&& !aT (aV seed n))=false:=by
    rcases c with c|c
    ·subst c;rfl
    ·rw[c];simp
   rw[hq,show aS (aQ seed (n:Int))=nC seed n from rfl,hl];rfl
  rw[e];refine⟨by simp[h1],?_,λp=> ?_,?_, .inr hl⟩
  ·rw[Vm,dy,dp,<-h2];unfold kK;have hc:(aC (aV seed n)).contains (nC seed n)=false:=by rw[gr] at a ⊢;intro hc;exact a (lY.2 (by simpa using hc))
   show(bif (1:Int)==1 then(bif (aC (aV seed n)).contains (nC seed n) then _ else _) else _)=_;rw[hc];rfl
  ·rw[Ba,h];rfl
  ·rw[Pp,j];rfl
theorem bB8 {e:Int}{d:List Int}(hd:d.length<=200):∀(l:List Int) (i:Nat),(∀p∈l,bL p=true)->1<=e+(i:Int)->e+(i:Int)+(l.length:Int)<=2147483646->
  (gY e d i l).2=true/\(gY e d i l).1.length=l.length/\(gY e d i l).1.map (·.To)=l/\∀k (h:k<(gY e d i l).1.length) (h2:k<l.length),(gY e d i l).1[k]=nZ l[k] (e+((i+k:Nat):Int)) d
 |[],i,_,_,_=>⟨rfl,rfl,rfl,λk h _=>by simp[gY] at h⟩
 |p::l,i,hp,h1,h2=>by
  simp only[ao] at h2;obtain⟨j,n,o,s⟩:=bB8 (e:=e) hd l (i+1) (λq hq=>hp q (by simp[hq])) (by push_cast;omega) (by push_cast at h2 ⊢;omega);have hk:=hp p (by simp);have hq:=aUe hk;have u:IntKind.i64.wrap (e+(i:Int))=e+(i:Int):=aK (by omega) (by push_cast at h2;omega);have a:iC p≠0:=by unfold iC;rw[hk,aq,ac];omega
  have hb:gU p (IntKind.i64.wrap (e+(i:Int))) d=(nZ p (e+(i:Int)) d,true):=by unfold gU;rw[u,bm.2 a,show bL (e+(i:Int))=true from kF (by omega) (by push_cast at h2;omega),au (show ¬(d.length:Int)>200 by omega)];rfl
  have x:gY e d i (p::l)=(nZ p (e+(i:Int)) d::(gY e d (i+1) l).1,true):=by rw[gY,hb,j];rfl
  rw[x];refine⟨rfl,by simp[n],?_,λk c f=> ?_⟩
  ·simp only[bo,o];rfl
  ·cases k with
   |zero=>rfl
   |succ k=>simp only[ao] at c f;have:=s k (by omega) (by omega);simp only[e9];rw[this];congr 1;push_cast;omega
def bTe {l:List AN}{p:Int}:∀(n:Int),0<=n->n+(l.length:Int)<=1000000->l.foldl (λn b=>bif b.To==p then IntKind.i64.wrap (n+1) else n) n=n+((l.filter λb=>b.To==p).length:Int):=by induction l<;>grind[List.length_cons,aK]
def bPg {l:List AN}(h:(l.map (·.To)).Nodup){p:Int}(hp:p∈l.map (·.To)):(l.filter λb=>b.To==p).length=1:=by induction l<;>grind[List.nodup_cons,List.filter_eq_nil_iff,absurd,beq_eq_false_iff_ne]
def bPh {log:List AF}{bx:AM}(h1:bx.Epoch=aD log)(h2:bx.Boxes.map (·.To)=aC log)(a:(aC log).Nodup)(c:(aC log).length<=1000):iY bx log=true:=by
 have hl:bx.Boxes.length=(aC log).length:=by rw[<-h2,bg]
 unfold iY;rw[h1,hl,eV,eV,d8,cw,cC];intro p hp;unfold nL;rw[bTe 0 (by omega) (by omega),bPg (by rw[h2];exact a) (by rw[h2];exact hp)];rfl
theorem bYb (a b:Int):(jM [a,b]).length<=12:=by
 grind[List.flatten_cons,List.flatten_nil,List.length_append,jM,aE3]
def aKp {log:List AF}{key eph:Int}(h1:aT log=true)(h2:bL key=true)(a:∀p∈aC log,bL p=true)(c:(aC log).length<=1000)(d:1<=eph/\eph<=1000000):
  (bI log key eph).2=true/\(bI log key eph).1.Epoch=aD log/\(bI log key eph).1.Boxes.map (·.To)=aC log/\∀k (h:k<(bI log key eph).1.Boxes.length) (h2:k<(aC log).length),(bI log key eph).1.Boxes[k]=nZ (aC log)[k] (eph+(k:Int)) (jM [aD log,key]):=by
 grind[s4,s3,bI,aD,gY,jM,aC,s1,s2,bB8,bYb]
theorem aFg (seed:Int)(k:Nat):bL (nC seed k)=true:=by simp[bMv,aAs,nC,aS]
def bHc {seed:Int}{n:Nat}(hn:n<=6):((List.range n).map (nC seed)).Nodup:=by
 rw[jp,iS];refine(List.pairwise_lt_range).imp_of_mem ?_
 grind[aSd]
theorem aAt {seed:Int}{n:Nat}(h0:1<=n)(hn:n<=6):iY (jK seed n) (aV seed n)=true/\aT (aV seed n)=true/\(jK seed n).Epoch=0:=by
 obtain⟨h1,h2,f,c,d⟩:=tH seed n hn;have hl:aT (aV seed n)=true:=d.resolve_left (by omega);have hlen:(aC (aV seed n)).length<=1000:=by grind
 obtain⟨h,a,e,j⟩:=aKp (key:=bS seed 0) (eph:=1000) hl (by unfold bS;exact iH _ _) (λp hp=>by
  rw[h2] at hp;obtain⟨i,_,rfl⟩:=cn.1 hp;exact aFg _ _) hlen ⟨by decide,by decide⟩
 refine⟨bPh a e (by rw[h2];exact bHc hn) hlen,hl,?_⟩;unfold jK;rw[a,c]
def bHd {seed:Int}{n:Nat}(h0:1<=n)(hn:n<=6):(jS seed n).Log=aV seed n:=by
 grind[fU,wM,jS,aAt]
theorem aOw (d:AD)(l:List AF)(k:Int):(lH d l k).1.Store=d.Store:=by unfold lH;cases !aT l||(!cZ l d.Log||(decide (aD l<d.Epoch)|| !bL k))<;>rfl
theorem aYo (d:AD)(l:List AF)(b:AM)(s:AJ):(cK d l b s).1.Store=d.Store:=by unfold cK;cases kM d l b s==0<;>rfl
theorem aUi (nm:ByteArray):∀(i:Nat) (d:AD),(Pj nm i d).Store=d.Store
 |0,d=>rfl
 |i+1,d=>by
  show(dJ (Pj nm i d) nm (i:Int) false).1.Store=_;rw[Po,aUi nm i d]
def bPi {seed:Int}{n:Nat}(h0:1<=n):(kQ seed n).length=n/\∀k (h:k<(kQ seed n).length),(kQ seed n)[k].Store=aQ seed (k:Int):=by
 have hl:(kQ seed n).length=n:=by
  grind[List.length_cons,List.length_map,List.length_drop,List.length_range,kQ,dN]
 grind[nwW,aOv,mO,Aw,aUi,aOw,dN,Cc,kQ,aYo,bH]
def aOx {n k t pin seed:Int}(h:Kk n k t pin seed=true):WIn n.toNat (bN n k t pin seed)/\(bN n k t pin seed).Devices.length=n.toNat/\(bN n k t pin seed).Seed=seed:=by
 have hb:=h;unfold Kk at hb;simp only[ab] at hb;obtain⟨b1,f,i,l,d⟩:=hb;have r:=gQ b1;unfold bN;rw[h,ae];obtain⟨d1,d2⟩:=bPi (seed:=seed) (n:=n.toNat) (by omega);have a:=bHd (seed:=seed) (n:=n.toNat) (by omega) (by omega);have e:=(aAt (seed:=seed) (n:=n.toNat) (by omega) (by omega)).2.1;refine⟨{seed:=d,now:=⟨cL 0,show(0:Int)<=999900 by decide⟩,dlen:= ?_,slen:= ?_,dev:= ?_,two:=rfl,mle:=by omega,site:= ?_,mail:=rfl,log:= ?_},d1,rfl⟩
 ·grind
 ·show(List.replicate n.toNat false).length=(kQ seed n.toNat).length;rw[fh,d1]
 ·intro j c;show StIn seed j ((kQ seed n.toNat)[j]'c).Store;rw[d2 j c];exact⟨rfl,rfl,rfl,cL 0,show(0:Int)<=1000000 by decide⟩
 all_goals grind[aT,jS,xW,dN,bG7]
theorem SiteIn.cut {seed j:Int}{n:Nat}{s:AC}(h:SiteIn seed j n s)(t:Int):SiteIn seed j n (gM t s):=by
 have a:=h.find;obtain⟨l,e,hl,hn⟩:=h.acc;have c:gG s 0=⟨1,3,l⟩:=by grind[gG]
 unfold gM;rw[a,show decide ((0:Int)>=0)=true from rfl,ae,c,show(0:Int).toNat=0 from rfl,e];have key:∃l',(oC ⟨1,3,l⟩ t).1=⟨1,3,l'⟩/\Kn seed j l'/\l'.length=l.length:=by
  unfold oC;cases hb: !bA ⟨1,3,l⟩||(decide (aY ⟨1,3,l⟩ t<0)||(gW ⟨1,3,l⟩ (aY ⟨1,3,l⟩ t)).Cut) with
  |true=>simp[*]
  |false=>
   simp only[bl] at hb;obtain⟨k,hk,d,o⟩:=xX (l:=l) hb.2.1;have f:aY ⟨1,3,l⟩ t=(k:Int):=d.trans (by simp);have i:gW ⟨1,3,l⟩ (k:Int)=l[k]:=by grind[List.getD,List.getElem?_eq_getElem,gW]
   rw[f,i,ac,bn];exact⟨_,rfl,hl.set hk rfl rfl (hl k hk).2.2,aw⟩
 obtain⟨l',q1,q2,q3⟩:=key;rw[q1];have:=h.aCB q2 (q3.trans hn) s.Logins s.Book (D5 h.book) rfl;exact this
def bTf {α β:Type}{P:Nat->β->Prop}{f:α->β}{l:List α}(h:∀j (a:j<l.length),P j (f l[j])):∀j (a:j<(l.map f).length),P j (l.map f)[j]:=(by simp[*])
theorem WIn.cut {m:Nat}{w:AA}(h:WIn m w)(b t:Int):WIn m (eY w b t).1/\(eY w b t).1.Seed=w.Seed/\(eY w b t).1.Devices.length=w.Devices.length:=by
 unfold eY;cases hq:(aR w b 0).2==0&&(!bZ w b&&(!(b==t)&&bF w t)) with
 |false=>simp[*]
 |true=>
  simp only[ab] at hq;have h0:=(qK hq.1).1;simp only[ae];unfold oV;cases(mR w b t).2&&((Ph w b t).2&&(Kh w b t).2) with
  |false=>simp[*]
  |true=>
   obtain⟨s1,s2,s3,s4,s5,s6⟩:=jB w b 0;have e:WIn m (kY w b):=h.sync b 0;have h1:WIn m (mR w b t).1:=e.aDH _ _ _ _;obtain⟨f,o,i,p,q,u,x⟩:=wP (kY w b) b 2 (aS (aH w t).Store) (nN (aH (kY w b) b).Store);have d:(mR w b t).1.Devices=(kY w b).Devices:=i;have hd:aL (mR w b t).1 b=true:=yU h0.2 (by rw[d];exact s3);obtain⟨d0,d1,_⟩:=qA hd;have a:StIn (mR w b t).1.Seed b.toNat (nA (Ph w b t).1 t true).Store:=by
    rw[aUh];unfold Ph;rw[aOw];have:=h1.aCD hd
    grind[aH,mR,kY]
   have k:WIn m (aAm w b t):=by refine h1.upd rfl rfl (aw ..) rfl (h1.aBR d1 a) (by show((mR w b t).1.Sites.map (gM t)).length=2;rw[bg];exact h1.two) (bTf (P:=λj s=>SiteIn (mR w b t).1.Seed ((j:Nat):Int) m s) λj l=>(h1.site j l).cut t) h1.mail h1.log
   have c:aL (aAm w b t) b=true:=yU hd (aw ..);have n:WIn m (Kh w b t).1:=k.up c;obtain⟨u1,u2,u3,u4,u5,u6⟩:=bD2 (aAm w b t) b;refine⟨n.tell 4,?_,?_⟩
   ·show(Kh w b t).1.Seed=w.Seed;exact u1.trans (f.trans s1)
   ·show(Kh w b t).1.Devices.length=w.Devices.length;refine u3.trans ?_;show((mR w b t).1.Devices.set _ _).length=_;rw[aw,d];exact s3
def WIn.aCG {m:Nat}{w:AA}(h:WIn m w)(d:Int):WIn m (nP w d).1/\(nP w d).1.Seed=w.Seed/\(nP w d).1.Devices.length=w.Devices.length:=by
 unfold nP;cases dL w d 0&& !bZ w d with
 |false=>simp[*]
 |true=>exact⟨h.upd rfl rfl rfl (aw ..) h.dev h.two h.site h.mail h.log,rfl,rfl⟩
def bPj {b:AQ}(h:BookIn b)(now:Int):BookIn (nQ b now)/\(nQ b now).Seed=b.Seed:=by unfold nQ;rw[h.ok];have hs:(b.Open.filter λc=>decide (c.Until>=now)).Sublist b.Open:=List.filter_sublist;exact⟨⟨h.next,bv hs.length_le h.len,h.ord.sublist hs,λc hc=>h.all c (hs.subset hc)⟩,rfl⟩
def WIn.tick {m:Nat}{w:AA}(h:WIn m w):WIn m (tF w).1/\(tF w).1.Seed=w.Seed/\(tF w).1.Devices.length=w.Devices.length:=by
 unfold tF;cases a:aP (tC w) with
 |false=>simp[*]
 |true=>
  refine⟨?_,rfl,rfl⟩;have hn:0<=(tC w).Now/\(tC w).Now<=999900:=by unfold aP at a;simp only[ab] at a;have:=gQ a.1.1.1.1.1.1.1;assumption
  exact {
   seed:=h.seed
   now:=hn
   dlen:=h.dlen
   slen:=h.slen
   dev:=h.dev
   two:=by show(w.Sites.map _).length=2;rw[bg];exact h.two
   mle:=h.mle
   site:=bTf (P:=λj s=>SiteIn w.Seed ((j:Nat):Int) m s) λj c=>by
    have hs:=h.site j c;have he:=bPj (D5 hs.book) (tC w).Now;exact hs.aBN he.1 he.2
   mail:=h.mail
   log:=h.log}
def WIn.aCW {m:Nat}{w:AA}(h:WIn m w)(a:List Int)(pin:Int):WIn m (fG w a pin).1/\(fG w a pin).1.Seed=w.Seed/\(fG w a pin).1.Devices.length=w.Devices.length:=by
 unfold fG;cases !aP w with
 |true=>simp[*]
 |false=>have h1:WIn m {w with Hosts:=(zH w.aAK w.Hosts a pin (bMo w)).1}:=h.upd rfl rfl rfl rfl h.dev h.two h.site h.mail h.log;exact⟨h1.tell 5,rfl,rfl⟩
def WIn.aCT {m:Nat}{w:AA}(h:WIn m w)(pin:Int):WIn m (Az w pin).1/\(Az w pin).1.Seed=w.Seed/\(Az w pin).1.Devices.length=w.Devices.length:=h.aCW _ _
def WIn.renew {m:Nat}{w:AA}(h:WIn m w):WIn m (eF w).1/\(eF w).1.Seed=w.Seed/\(eF w).1.Devices.length=w.Devices.length:=by
 unfold eF;cases aP w&&(fD w.Hosts (aE0 w)).2 with
 |false=>simp[*]
 |true=>exact⟨h.upd rfl rfl rfl rfl h.dev h.two h.site h.mail h.log,rfl,rfl⟩
def WIn.roll {m:Nat}{w:AA}(h:WIn m w)(i b:Int):WIn m (fQ w i b).1/\(fQ w i b).1.Seed=w.Seed/\(fQ w i b).1.Devices.length=w.Devices.length:=by
 unfold fQ;cases !aP w||(decide (i<0)||decide (i>=(w.Hosts.length:Int))) with
 |true=>simp[*]
 |false=>
  simp only[ac];cases(gL (w.Hosts.getD i.toNat default) b).2 with
  |false=>simp[*]
  |true=>exact⟨h.upd rfl rfl rfl rfl h.dev h.two h.site h.mail h.log,rfl,rfl⟩
def aUj (w:AA)(d j:Int)(o:AP):(gN w d j o).1.Seed=w.Seed/\(gN w d j o).1.Devices.length=w.Devices.length:=by
 unfold gN;cases !dL w d j with
 |true=>simp
 |false=>
  cases !(aAY w j).2.2.2 with
  |true=>simp
  |false=>
   cases !((vF w d j o).2.1==0) with
   |true=>exact⟨rfl,aw ..⟩
   |false=>exact⟨rfl,aw ..⟩
def aKq (w:AA)(d:Int)(n:ByteArray)(a:Int)(r:Bool):(sW w d n a r).1.Seed=w.Seed/\(sW w d n a r).1.Devices.length=w.Devices.length:=by
 grind[aP,aL,dJ,aH,List.length_set,sW]
def Vn {α:Type}[Inhabited α]{f:α->Nat}{K:Nat}{x:α}:∀{l:List α} {i:Nat},i<l.length->f x<=f (l.getD i default)+K->((l.set i x).map f).sum<=(l.map f).sum+K
 |y::l,0,_,h=>by
  simp only[List.getD,fW,cr] at h;simp only[ip,bo,dw];omega
 |y::l,i+1,hi,h=>by
  have:=Vn (f:=f) (l:=l) (i:=i) (x:=x) (K:=K) (by simpa using hi) (by simpa[List.getD] using h);simp only[fR,bo,dw];omega
def Ko {w:AA}{d:Int}(hd:aL w d=true){x:AD}{K:Nat}(a:x.sz<=(aH w d).sz+K):({w with Devices:=w.Devices.set d.toNat x}:AA).sz<=w.sz+K:=by
 obtain⟨h0,h1,h2⟩:=qA hd;have:=Vn (f:=AD.sz) (K:=K) h1 (by assumption)
 grind[AA.sz,List.length_set]
def bJ2 {w:AA}{j:Nat}(a:j<w.Sites.length){x:AC}{K:Nat}(c:x.sz<=(w.Sites.getD j default).sz+K):({w with Sites:=w.Sites.set j x}:AA).sz<=w.sz+K:=by
 have:=Vn (f:=AC.sz) (K:=K) a c
 grind[AA.sz,List.length_set]
def WIn.aCU {m:Nat}{w:AA}(h:WIn m w):w.aAE.Log.length<=40:=by have:=h.log;unfold aT at this;rw[ab] at this;have:=gQ this.1;omega
def bHe {m:Nat}{w:AA}(h:WIn m w)(d b:Int):(aR w d b).1.sz<=w.sz+60:=by
 have hl:=h.aCU;unfold aR;cases hb:aP w&&aL w d with
 |false=>simp
 |true=>rw[ab] at hb;simp only[ae];have:=aT2 (aH w d) w.aAE.Log w.aAE.Boxes (gB w.aAE b).1;exact Ko hb.2 (by omega)
def bTg (w:AA)(d:Int)(n:ByteArray)(a:Int)(r:Bool):(sW w d n a r).1.sz<=w.sz+1:=by
 unfold sW;cases hb:aP w&&aL w d with
 |false=>simp
 |true=>
  rw[ab] at hb;simp only[ae];cases(dJ (aH w d) n a r).2 with
  |false=>simp
  |true=>simp_all[Ko,x8]
def bTh {m:Nat}{w:AA}(h:WIn m w)(d:Int):(iK w d).1.sz<=w.sz+561:=by
 have hl:=h.aCU
 grind[iK,x9,aR,upF]
def add_add {w:AA}(h:WIn w.Devices.length w)(b:Int):(fI w b).1.sz<=w.sz+2500:=by
 have hl:=h.aCU;unfold fI;cases a:Cb w b with
 |false=>simp
 |true=>
  unfold Cb at a;simp only[ab,bq,cz] at a;obtain⟨⟨k1,k2,k3,k4⟩,k5,k6,k7,k8,k9⟩:=a;obtain⟨s1,s2,s3,s4,s5,s6⟩:=jB w b 0;have a0:=bHe h b 0;have h0:=h.sync b 0;have h1:WIn w.Devices.length (add1 w b).1:=h0.aDH _ _ _ _;obtain⟨c,e,i,o⟩:=aE8 (aR w b 0).1 b 1 (aS (aQ w.Seed (w.Devices.length:Int))) (λ_=>(aH (aR w b 0).1 b).Key);rw[s6] at c e;have c:(add1 w b).1.sz<=(aR w b 0).1.sz+14*(w.aAE.Log.length+1):=c;have e:(add1 w b).1.aAE.Log.length<=w.aAE.Log.length+1:=e;have hd:aL (add1 w b).1 b=true:=yU k2 (by show(jV _ _ _ _ _).1.Devices.length=_;rw[i,s3]);obtain⟨p,s⟩:=aKc (st:=aQ w.Seed (w.Devices.length:Int)) (n:=(w.Devices.length:Int)) (j:=0) (l:=(add1 w b).1.Sites);have u:=h1.two;have k:(aAV w b).sz<=(add1 w b).1.sz+4:=by
   have q:=Ko (w:=(add1 w b).1) hd (x:=nA (aH (add1 w b).1 b) (w.Devices.length:Int) false) (K:=2) (aR7 _ _ _)
   grind[AA.sz,aAV,aAl]
  have f:=(x9 (w:=aAV w b) (d:=b) k8).2;have f:(rJ w b).1.sz<=(aAV w b).sz+(aAV w b).aAE.Log.length+521:=f;have pl:=(x9 (w:=aAV w b) (d:=b) k8).1;have pl:(rJ w b).1.aAE.Log=(aAV w b).aAE.Log:=pl;have y:(aAV w b).aAE.Log.length=(add1 w b).1.aAE.Log.length:=rfl;have ap:=bMh (rJ w b).1 (bH (aQ w.Seed (w.Devices.length:Int)));have nd:(bH (aQ w.Seed (w.Devices.length:Int))).sz=0:=rfl;have z:=(qK (w:=appW (rJ w b).1 (bH (aQ w.Seed (w.Devices.length:Int)))) k9).2.2.2
  grind[aR8,Ey,appW,rJ,bH,aQ]
def bWr {m:Nat}{w:AA}(h:WIn m w)(b t:Int):(eY w b t).1.sz<=w.sz+2500:=by
 have hl:=h.aCU;unfold eY;cases hq:(aR w b 0).2==0&&(!bZ w b&&(!(b==t)&&bF w t)) with
 |false=>simp
 |true=>
  simp only[ab] at hq;obtain⟨q1,q2,q3,q4⟩:=qK hq.1;simp only[ae];unfold oV;cases(mR w b t).2&&((Ph w b t).2&&(Kh w b t).2) with
  |false=>simp
  |true=>
   obtain⟨c,e,a,i⟩:=aE8 (kY w b) b 2 (aS (aH w t).Store) (nN (aH (kY w b) b).Store);have e0:(kY w b).aAE.Log=w.aAE.Log:=by show(aR w b 0).1.aAE.Log=_;rw[q2]
   rw[e0] at c e;have c:(mR w b t).1.sz<=(kY w b).sz+14*(w.aAE.Log.length+1):=c;have a:(mR w b t).1.Devices=(kY w b).Devices:=a;have q4:(kY w b).sz<=w.sz+w.aAE.Log.length+20:=q4;have hd:aL (mR w b t).1 b=true:=yU q1.2 (by rw[a];exact q3);have j:(aKf w b t).length<=w.aAE.Log.length+1:=by
    grind[wO,kY,aS,aH,aKf]
   have d:aH (mR w b t).1 b=aH (kY w b) b:=by unfold aH;rw[a]
   have f:(nA (Ph w b t).1 t true).sz<=(aH (mR w b t).1 b).sz+(w.aAE.Log.length+3):=by
    grind[Ph,aH,kY,aKf,aT4,nN,aR7]
   have k:(aAm w b t).sz<=(mR w b t).1.sz+(w.aAE.Log.length+3):=by
    have q:=Ko (w:=(mR w b t).1) hd f
    grind[AA.sz,List.length_map,aAm,bGy,mR]
   grind[aR8,Kh,aAm,bX5,aL,yU,List.length_set]
structure Kept (w v:AA):Prop where
 wi:WIn v.Devices.length v
 seed:v.Seed=w.Seed
 sz:v.sz<=w.sz+3000
def Kept.of {w v:AA}(h:WIn w.Devices.length v/\v.Seed=w.Seed/\v.Devices.length=w.Devices.length)(a:v.sz<=w.sz+3000):Kept w v:=⟨by rw[h.2.2];exact h.1,h.2.1,a⟩
def bPk (s:AC)(c t:Int)(x:AZ)(h:aI s 1=0)(h0:0<s.Accounts.length):(lX s 1 c t x).1.sz<=s.sz+1:=by
 have hb:(pV s.Book c 1 t).1.Open.length<=s.Book.Open.length:=by
  unfold pV;cases !eX s.Book||decide (dR s.Book c<0) with
  |true=>exact aj _
  |false=>simp only[ac,ay,cu,cA];omega
 have d:∀a x z q,(iO a x z q).1.sz=a.sz:=λa x z q=>by
  unfold iO;cases !bA a||(decide (aY a x.Handle<0)||(gW a (aY a x.Handle)).Cut) with
  |true=>rfl
  |false=>simp only[ac,AI.sz];cases iL (gW a (aY a x.Handle)).Public x z q (gW a (aY a x.Handle)).Counter==0<;>cases iL (gW a (aY a x.Handle)).Public x z q (gW a (aY a x.Handle)).Counter==4<;>simp
 have hs:=Vn (f:=AI.sz) (K:=0) (l:=s.Accounts) (i:=0) (x:=(iO (gG s 0) x s.Name (fB s.Book c)).1) h0 (by rw[d];exact aj _);unfold lX;rw[h];cases !bY s||decide ((0:Int)<0) with
 |true=>exact eu _
 |false=>
  simp only[ac];cases !(pV s.Book c 1 t).2 with
  |true=>simp only[ae,AC.sz];omega
  |false=>
   simp only[ac];cases !qL (gG s 0) 3 with
   |true=>simp only[ae,AC.sz];omega
   |false=>
    simp only[ac];cases !((iO (gG s 0) x s.Name (fB s.Book c)).2==0) with
    |true=>simp only[ae,AC.sz,show(0:Int).toNat=0 from rfl,aw];omega
    |false=>simp only[ac,AC.sz,show(0:Int).toNat=0 from rfl,aw,ay,ao,bu];omega
def bPl (s:AC)(i n:Int):(mU s i n).1.sz<=s.sz+1:=by
 unfold mU;cases bY s&&(!decide (aI s i<0)&&(fK s.Book i n).2.2) with
 |false=>exact eu _
 |true=>
  have hb:(fK s.Book i n).1.Open.length<=s.Book.Open.length+1:=by
   unfold fK;cases eX s.Book&&(!(s.Book.Next==1000000)&&(bR i 0 1000000&&bR n 0 1000000)) with
   |false=>simp only[ac];omega
   |true=>
    simp only[ae];cases decide ((s.Book.Open.length:Int)>=16) with
    |true=>simp only[ae,ay,cA,ao,bu];omega
    |false=>simp only[ac,ay,ao,bu];omega
  simp only[ae,AC.sz];omega
def bPm {m:Nat}{w:AA}(h:WIn m w)(d j:Int)(o:AP):(gN w d j o).1.sz<=w.sz+3:=by
 unfold gN;cases ht:dL w d j with
 |false=>simp only[da,ae];omega
 |true=>
  have a:=ht;simp only[dL,ab] at a;have h2:=h.two;have hq:=a.2.2;simp only[fA,ab,cm] at hq;have c:j.toNat<w.Sites.length:=by omega
  have es:eO w j=w.Sites[j.toNat]:=by unfold eO;simp[List.getD,aa c]
  have hs:=h.site _ c;rw[<-es,show((j.toNat:Nat):Int)=j by omega] at hs;have hb:SiteIn w.Seed j m (aAY w j).1:=hs.begin 1 w.Now;have f:(aAY w j).1.sz<=(eO w j).sz+1:=bPl _ _ _;obtain⟨l,e,_⟩:=hb.acc;have i:(vF w d j o).1.sz<=(aAY w j).1.sz+1:=bPk _ _ _ _ hb.find (by rw[e];simp);have k:(aPn w d j o).sz<=w.sz+2:=by have q1:=Ko (w:=w) a.2.1 (x:={aH w d with Store:=(Ki w d j o).1}) (K:=0) (aj _);have q2:=bJ2 (w:=w) c (x:=(vF w d j o).1) (K:=2) (by show _<=(eO w j).sz+2;omega);unfold aPn;simp only[AA.sz] at q1 q2 ⊢;omega
  simp only[aq,ac];cases !(aAY w j).2.2.2 with
  |true=>simp only[ae];omega
  |false=>
   simp only[ac];cases !((vF w d j o).2.1==0) with
   |true=>simp only[ae];omega
   |false=>have:=aR8 (aPn w d j o) 1;simp only[ac];omega
def bJ3 {w:AA}(h:WIn w.Devices.length w)(d j:Int)(o:AP):Kept w (gN w d j o).1:=by obtain⟨k1,k2⟩:=aUj w d j o;have:=bPm h d j o;exact .of ⟨h.visit d j o,k1,k2⟩ (by omega)
def Kept.refl {w:AA}(h:WIn w.Devices.length w):Kept w w:=⟨h,rfl,cV _ _⟩
def bTi {w:AA}(h:WIn w.Devices.length w)(b:Bool)(d j:Int)(o:AP):Kept w (bif b then mM w d j o else(w,1)).1:=by
 cases b with
 |true=>exact bJ3 h d j o
 |false=>exact .refl h
def bTj (w:AA)(i b:Int):(fQ w i b).1.sz<=w.sz:=by
 unfold fQ;cases hc: !aP w||(decide (i<0)||decide (i>=(w.Hosts.length:Int))) with
 |true=>exact aj _
 |false=>
  have hi:=Ve (bl.1 hc).2;simp only[ac];cases(gL (w.Hosts.getD i.toNat default) b).2 with
  |false=>exact aj _
  |true=>have:=Vn (f:=AH.sz) (K:=0) (l:=w.Hosts) (i:=i.toNat) (x:=(gL (w.Hosts.getD i.toNat default) b).1) (by omega) (by rw[bGh];exact aj _);simp only[ae,AA.sz,aw];omega
def bWs (w:AA):(tF w).1.sz<=w.sz:=by
 unfold tF;cases aP (tC w) with
 |false=>exact aj _
 |true=>
  have he:∀b n,(nQ b n).Open.length<=b.Open.length:=λb n=>by
   unfold nQ;cases eX b with
   |false=>exact aj _
   |true=>exact fi _ _
  have hs:∀(l:List AC) n,((l.map λs=>({s with Book:=nQ s.Book n}:AC)).map AC.sz).sum<=(l.map AC.sz).sum:=λl n=>by
   induction l with
   |nil=>exact aj _
   |cons s l a=>have:=he s.Book n;simp only[bo,dw,AC.sz] at a ⊢;omega
  have:=hs w.Sites (tC w).Now;simp only[ae,AA.sz,tC,bg] at this ⊢;omega
def aKr {b:List Int}{p:Nat}{h:Int}{t:List Int}(e:b.drop p=h::t):p<b.length/\b.getD p 0=h/\b.drop (p+1)=t:=by
 grind[List.getD,List.getElem?_eq_getElem,List.drop_eq_getElem_cons,List.length,List.length_drop,List.length_cons]
def split_mul (r P:Int):r*P=r/128*(P*128)+r%128*P:=by
 have h:128*(r/128)+r%128=r:=Int.mul_ediv_add_emod r 128
 conv=>lhs;rw[<-h]
 rw[Int.add_mul,jc 128,Int.mul_assoc,jc 128 P]
def bMy {b y:List Int}{p:Nat}:∀(k i:Nat) (n r:Int),b.drop (p+i)=uvE k r++y->0<=r->r<128^(k+1)->(0<i->r≠0)->0<=n->n+r*128^i<=1000000000000->
  uvG b p (k+1) i n=(n+r*128^i,((p+i+(uvE k r).length:Nat):Int),true)
 |0,i,n,r,hd,h0,h1,hi,hn,hm=>by
  obtain⟨d1,d2,d3⟩:=aKr (show b.drop (p+i)=r::y from hd);have hr:r<128:=by simpa using h1
  unfold uvG;rw[cU d1,d2,ax hr,ae,show r%128=r by omega,au (show ¬n+r*128^i>1000000000000 by omega),io];have:(decide (0<i)&&r==0)=false:=by
   by_cases c:0<i
   ·rw[bm.2 (hi c),cP]
   ·rw[au c,gh]
  rw[this];rfl
 |k+1,i,n,r,hd,h0,h1,hi,hn,hm=>by
  have hp:(0:Int)<=128^i:=Int.pow_nonneg (by decide);have hs:=split_mul r (128^i);have a:(128:Int)^(i+1)=128^i*128:=fp ..;unfold uvE at hd ⊢;by_cases hb:r>127
  ·rw[ax hb,ae] at hd ⊢;obtain⟨d1,d2,d3⟩:=aKr (show b.drop (p+i)=(r%128+128)::(uvE k (r/128)++y) from hd);have hq:(r/128)<128^(k+1):=by have:(128:Int)^(k+1+1)=128^(k+1)*128:=fp ..;omega
   have e:0<=r%128*128^i:=jt (by omega) hp;have d:=bMy k (i+1) (n+r%128*128^i) (r/128) (by rw[show p+(i+1)=p+i+1 by omega];exact d3) (by omega) hq (λ_=>by omega) (by omega) (by rw[a];omega);rw[uvG,cU d1,d2,au (show ¬r%128+128<128 by omega),ac,show(r%128+128)%128=r%128 by omega,d,a];simp only[ao,cR,and_true];constructor
   ·omega
   ·congr 1;omega
  ·rw[au hb,ac] at hd ⊢;obtain⟨d1,d2,d3⟩:=aKr (show b.drop (p+i)=r::y from hd);unfold uvG;rw[cU d1,d2,ax (show r<128 by omega),ae,show r%128=r by omega,au (show ¬n+r*128^i>1000000000000 by omega),io];have:(decide (0<i)&&r==0)=false:=by
    by_cases c:0<i
    ·rw[bm.2 (hi c),cP]
    ·rw[au c,gh]
   rw[this];rfl
def bMz {x y:List Int}{n:Int}(h:0<=n/\n<=1000000000000):Ew (x++(enc1 n++y)) (x.length:Int)=(n,((x.length+(enc1 n).length:Nat):Int),true):=by
 have e:=aR6 h;unfold Ew;rw[dh (by omega),bn,e];have hp:(128:Int)^(5+1)=4398046511104:=by decide
 have:=bMy (b:=x++(uvE 5 n++y)) (y:=y) (p:=x.length) 5 0 0 n (by simp) h.1 (by omega) (λh=>by omega) (by decide) (by simp;omega);simp[*]
def aUk:∀(t x y s:List Int),aYk t->lS (x++(jM t++y)) t.length (x.length:Int) s=(s++t,((x.length+(jM t).length:Nat):Int),true)
 |[],x,y,s,_=>by simp[lS,jM]
 |n::t,x,y,s,h=>by
  have hn:=h n (by simp);have c:=bMz (x:=x) (y:=jM t++y) hn;rw[wK,ck];show lS _ (t.length+1) _ _=_;rw[lS,c];simp only[ae];have a:=aUk t (x++enc1 n) y (s++[n]) (λv hv=>h v (by simp[hv]));rw[ay,ck] at a;rw[a];simp[gt]
def aUl:∀l:List AG,nX (kX l)=l/\nJ (kX l)=true
 |[]=>⟨rfl,rfl⟩
 |e::l=>by
  obtain⟨h1,h2⟩:=aUl l;have a:kX (e::l)=aYl e++kX l:=by simp[kX]
  rw[a];obtain⟨s,h,v,d⟩:=e;cases d with
  |true=>exact⟨by show(⟨s,h,v,(1:Int)==1⟩:AG)::nX (kX l)=_;rw[h1];rfl,by show(decide ((1:Int)<=1)&&nJ (kX l))=true;rw[h2];rfl⟩
  |false=>exact⟨by show(⟨s,h,v,(0:Int)==1⟩:AG)::nX (kX l)=_;rw[h1];rfl,by show(decide ((0:Int)<=1)&&nJ (kX l))=true;rw[h2];rfl⟩
def bPn {b:AB}(h:aO b=true):∀e∈b.Entries,(0<=e.Site/\e.Site<=2147483646)/\(0<=e.Handle/\e.Handle<=1000000)/\(1<=e.Version/\e.Version<=1000000):=λe he=>by
 unfold aO at h;rw[ab,bq] at h;obtain⟨i,hi,rfl⟩:=cI.1 he;have:=aAr h.2 i hi;unfold Vb at this;simp only[bl,cG] at this;have h1:=gQ this.1;have h2:=gQ this.2.1;have a:=gQ this.2.2.1;omega
def bWt {b:AB}(h:aO b=true):aYk (vH b):=λv hv=>by
 have hl:=nK h;unfold vH at hv;rcases ca.1 hv with hv|hv
 ·grind
 ·unfold kX at hv;obtain⟨e,he,hv⟩:=List.mem_flatMap.1 hv;obtain⟨h1,h2,a⟩:=bPn h e he
  grind[aYl]
def bPo {b:AB}(h:aO b=true):Fv (oU b)=(b,true):=by
 have hl:=nK h;have hv:=bWt h;have he:oU b=enc1 (b.Entries.length:Int)++jM (kX b.Entries):=by unfold oU vH;rw[h,ae];rfl
 have c:Ew (oU b) 0=((b.Entries.length:Int),(((enc1 (b.Entries.length:Int)).length:Nat):Int),true):=by have:=bMz (x:=[]) (y:=jM (kX b.Entries)) (n:=(b.Entries.length:Int)) (by omega);simp_all
 have hd:=aUk (kX b.Entries) (enc1 (b.Entries.length:Int)) [] [] (λv d=>hv v (by grind[vH]));rw[eg,<-he,wL,bz] at hd;have a:(((enc1 (b.Entries.length:Int)).length+(jM (kX b.Entries)).length:Nat):Int)=((oU b).length:Int):=by rw[he,ay]
 obtain⟨e,f⟩:=aUl b.Entries;unfold Fv;rw[c,show(4*(b.Entries.length:Int)).toNat=4*b.Entries.length by omega,hd,au (show ¬(b.Entries.length:Int)>20 by omega)];simp_all[bGq]
theorem bM0 {α β:Type}{y:Nat->α->β}:∀{l:List α} {i k:Nat} (h:k<l.length) (h2:k<(Rx (λi x=>[y i x]) i l).length),(Rx (λi x=>[y i x]) i l)[k]=y (i+k) l[k]
 |x::l,i,0,_,_=>rfl
 |x::l,i,k+1,h,h2=>by
  have:=bM0 (y:=y) (l:=l) (i:=i+1) (k:=k) (by simpa using h) (by rw[uC];simpa using h);rw[show i+1+k=i+(k+1) by omega] at this;exact this
theorem bHf {k:Int}{d:List Int}(h:∀z∈d,0<=z/\z<=255):Uv k (nY k d)=d:=by
 apply List.ext_getElem
 ·unfold Uv nY;rw[uC,uC]
 ·intro i h1 h2;have a:i<(nY k d).length:=by simp_all[uC,nY]
  grind[IntKind.wrap_u8,bK,bDq,bJp,List.getElem_mem,nY,bM0,Uv]
def bB9 {k e v:Int}{b:AB}(hk:bL k=true)(he:0<=e/\e<=1000000)(hv:0<=v/\v<=1000000)(hb:aO b=true):jQ k (gI k e v b)=(b,true):=by
 have hm:(gI k e v b).MAC=jL k (gI k e v b):=by simp[gI,jL]
 unfold jQ;rw[hm,du,hk,show(gI k e v b).Epoch=e from rfl,show(gI k e v b).Version=v from rfl,kF he.1 he.2,kF hv.1 hv.2];show Fv (Uv (mQ k e v) (nY (mQ k e v) (oU b)))=(b,true);rw[bHf (Vg (aE6 b)),bPo hb]
def bTk {p e:Int}{d:List Int}(hp:bL p=true)(he:bL e=true)(hl:d.length<=200)(hd:∀z∈d,0<=z/\z<=255):gT p (nZ (dW p) e d)=(d,true):=by
 grind[Vh,bne_self_eq_false,decide_eq_false,bHf,gT,nZ,dW,Uw,iN,Vk,nY]
def bJ4 {p:Int}{b:AN}(h:b.To≠dW p):(gT p b).2=false:=by unfold gT;rw[bne,bm.2 h];cases bL p<;>rfl
def aUm {p:Int}{d:List Int}(hp:bL p=true)(hl:d.length<=200)(hd:∀z∈d,0<=z/\z<=255):∀{bs:List AN} {k:Nat} (hk:k<bs.length),(∀j (a:j<bs.length),j<k->bs[j].To≠dW p)->(∃e,bL e=true/\bs[k]=nZ (dW p) e d)->iJ bs p=(d,true)
 |b::bs,0,_,_,⟨e,he,hb⟩=>by
  have hb:b=nZ (dW p) e d:=hb;rw[iJ,hb,bTk hp he hl hd];rfl
 |b::bs,k+1,hk,hn,⟨e,he,hb⟩=>by
  have h0:b.To≠dW p:=hn 0 (by simp) (by omega);rw[iJ,bJ4 h0,ac];exact aUm hp hl hd (by simpa using hk) (λj a c=>hn (j+1) (by simpa using a) (by omega)) ⟨e,he,hb⟩
structure BoxIn (log:List AF) (bx:AM) (key:Int):Prop where
 ep:bx.Epoch=aD log
 to:bx.Boxes.map (·.To)=aC log
 nd:(aC log).Nodup
 kok:bL key=true
 box:∀k (h:k<bx.Boxes.length),∃e,bL e=true/\bx.Boxes[k]=nZ bx.Boxes[k].To e (jM [aD log,key])
 eps:0<=aD log/\aD log<=40
def cAr {k:Int}(h:bL k=true):0<=k/\k<=1000000000000:=by have:=aUe h;omega
def Pq {log:List AF}{bx:AM}{key:Int}(h:BoxIn log bx key){s:AK}(hs:aS s∈aC log):dM s bx=(key,true):=by
 obtain⟨h1,h2,f,i,l,p⟩:=h;rw[<-h2] at hs f;obtain⟨k,hk,e⟩:=cI.1 hs;have a:k<bx.Boxes.length:=by simpa using hk
 have e:bx.Boxes[k].To=dW (jH s):=by rw[jk] at e;rw[e];rfl
 have hd:(jM [aD log,key]).length<=12:=bYb _ _;have n:iJ bx.Boxes (jH s)=(jM [aD log,key],true):=by
  refine aUm (aAs s) (by omega) (aAj _) a (λj o d he=> ?_) ?_
  ·have:=eh.1 f j k (by simpa using o) (by simpa using a) d;rw[jk,jk] at this;exact this (by rw[he,e])
  ·obtain⟨q,hq,hb⟩:=l k a;rw[e] at hb;exact⟨q,hq,hb⟩
 have c:jZ (jM [aD log,key]) 0 2=([aD log,key],((jM [aD log,key]).length:Int),true):=by
  have:=aUk [aD log,key] [] [] [] (λv hv=>by
   simp only[ba,gy,or_false] at hv;rcases hv with rfl|rfl
   ·omega
   ·exact cAr i)
  simp only[bz,eg,bu,ct] at this;unfold jZ;rw[show bR 2 0 100=true from rfl,kF (by omega) (by omega)];exact this
 unfold dM Pd;rw[n,c];show(bif !true||(!true||(((jM [aD log,key]).length:Int) !=((jM [aD log,key]).length:Int)||(aD log !=bx.Epoch|| !bL key))) then(0,false) else(key,true))=(key,true);rw[du,h1,du,i];rfl
def aUn {log:List AF}{bx:AM}{key:Int}(h:BoxIn log bx key)(hl:aT log=true){d:AD}(he:cZ log d.Log=true)(hs:aS d.Store∈aC log)
  {e v:Int} {b:AB} (hv:0<=v/\v<=1000000) (hb:aO b=true) (i:e=aD log) (ho:d.Epoch<e\/(d.Epoch=e/\d.Version<=v)) (hm:(dY d.aAC b).2=true):
  cK d log bx (gI key e v b)=(⟨d.Store,log,key,e,v,(dY d.aAC b).1⟩,0):=by
 have a:=Pq h hs;have j:=h.eps;have c:jQ key (gI key e v b)=(b,true):=bB9 h.kok (by omega) hv hb;have f:kM d log bx (gI key e v b)=0:=by
  unfold kM;rw[hl,he,lY.2 hs,a,h.ep,c,hm,du,show(gI key e v b).Epoch=e from rfl,show(gI key e v b).Version=v from rfl];have:(decide (e<aD log)||(decide (e<d.Epoch)||(e==d.Epoch&&decide (v<d.Version))))=false:=by
   rw[au (show ¬e<aD log by omega),au (show ¬e<d.Epoch by omega),cN,cN];rcases ho with ho|ho
   ·rw[bm.2 (show e≠d.Epoch by omega),gh]
   ·rw[au (show ¬v<d.Version by omega),cP]
  rw[this];rfl
 unfold cK;rw[f,a,c];rfl
def bHg (log:List AF):cZ log []=true:=by unfold cZ;simp[gJ]
def bTl (a:AF):bO0 a a=true:=by unfold bO0;simp
theorem aOy (log r:List AF):cZ (log++r) log=true:=by
 unfold cZ;rw[ax (by simp),cw,bq];exact Pn λk hk=>by
  rw[ct,cG];have:(log++r).getD k default=log[k]:=by simp[List.getD,av hk,aa hk]
  rw[this];exact bTl _
def bHh (log:List AF):cZ log log=true:=by simpa using aOy log []
theorem bHi {seed:Int}{n:Nat}(h0:1<=n)(hn:n<=6):BoxIn (aV seed n) (jK seed n) (bS seed 0):=by
 obtain⟨h1,h2,s,h,j⟩:=tH seed n hn;have hl:aT (aV seed n)=true:=j.resolve_left (by omega);have hlen:(aC (aV seed n)).length<=1000:=by rw[h2,bg,ez];omega
 have hk:bL (bS seed 0)=true:=by unfold bS;exact iH _ _
 obtain⟨u,l,f,o⟩:=aKp (key:=bS seed 0) (eph:=1000) hl hk (λp hp=>by
  rw[h2] at hp;obtain⟨i,_,rfl⟩:=cn.1 hp;exact aFg _ _) hlen ⟨by decide,by decide⟩
 have a:(aC (aV seed n)).Nodup:=by rw[h2];exact bHc hn
 refine⟨l,f,a,hk,λk c=> ?_,by rw[h];exact⟨by decide,by decide⟩⟩;have q:(jK seed n).Boxes.length=(aC (aV seed n)).length:=by have:=congrArg List.length f;rw[bg] at this;exact this
 have d:k<(aC (aV seed n)).length:=by omega
 have hb:=o k c d;have e:(jK seed n).Boxes[k].To=(aC (aV seed n))[k]:=by show(bI (aV seed n) (bS seed 0) 1000).1.Boxes[k].To=_;rw[hb];rfl
 refine⟨1000+(k:Int),kF (by omega) (by omega),?_⟩;rw[e];exact hb
def nwB:Nat->AB
 |1=>⟨[⟨1464438180,0,1,false⟩,⟨1941999745,0,1,false⟩]⟩
 |2=>⟨[⟨1464438180,0,1,false⟩,⟨1464438180,1,1,false⟩,⟨1941999745,0,1,false⟩,⟨1941999745,1,1,false⟩]⟩
 |3=>⟨[⟨1464438180,0,1,false⟩,⟨1464438180,1,1,false⟩,⟨1464438180,2,1,false⟩,⟨1941999745,0,1,false⟩,⟨1941999745,1,1,false⟩,⟨1941999745,2,1,false⟩]⟩
 |_=>⟨[]⟩
def Vo (seed:Int)(n k:Nat)(v:Int)(b:AB):AD:=⟨aQ seed (k:Int),aV seed n,bS seed 0,0,v,b⟩
def bTm {seed:Int}{n:Nat}(h0:1<=n)(hn:n<=6)(k:Nat):Aw seed n (bH (aQ seed (k:Int)))=Vo seed n k 0 ⟨[]⟩:=by
 obtain⟨h1,h2,d,a,c⟩:=tH seed n hn;have hl:aT (aV seed n)=true:=c.resolve_left (by omega);have hk:bL (bS seed 0)=true:=by unfold bS;exact iH _ _
 unfold Aw lH bH;rw[hl,bHg,hk,a];rfl
def cCq {n:Nat}(h:n=1\/n=2\/n=3)(s:AK)(l:List AF)(k e v:Int):Pj (aA 1) n (Pj (aA 0) n ⟨s,l,k,e,v,⟨[]⟩⟩)=⟨s,l,k,e,v,nwB n⟩:=by rcases h with rfl|rfl|rfl<;>kernel_rfl
def bJ5 {n:Nat}(h:n=1\/n=2\/n=3):aO (nwB n)=true/\dY ⟨[]⟩ (nwB n)=(nwB n,true)/\dY (nwB n) (nwB n)=(nwB n,true):=by rcases h with rfl|rfl|rfl<;>exact⟨by kernel_rfl,by kernel_rfl,by kernel_rfl⟩
def bPp {seed:Int}{n:Nat}(h:n=1\/n=2\/n=3):mO seed n=Vo seed n 0 0 (nwB n):=by unfold mO;rw[show(0:Int)=((0:Nat):Int) from rfl,bTm (by omega) (by omega)];exact cCq h _ _ _ _ _
def bTn {seed:Int}{n:Nat}(h:n=1\/n=2\/n=3):nwW seed n=(Vo seed n 0 1 (nwB n),gI (bS seed 0) 0 1 (nwB n),true):=by
 have hk:bL (bS seed 0)=true:=by unfold bS;exact iH _ _
 unfold nwW;rw[bPp h];unfold dV rG Vo;simp only[];rw[show IntKind.i64.wrap (0+1)=1 from by decide,hk,(bJ5 h).1];rfl
def aUo {seed:Int}{n k:Nat}(h:n=1\/n=2\/n=3)(hk:k<n):Cc seed n (bH (aQ seed (k:Int)))=Vo seed n k 1 (nwB n):=by
 obtain⟨h1,h2,f,c,e⟩:=tH seed n (by omega);obtain⟨b1,a,i⟩:=bJ5 h;unfold Cc;rw[bTm (by omega) (by omega),bTn h];rw[aUn (bHi (by omega) (by omega)) (e.resolve_left (by omega)) (d:=Vo seed n k 0 ⟨[]⟩) (bHh _) (by
  rw[h2];exact cn.2 ⟨k,List.mem_range.2 hk,rfl⟩) ⟨by decide,by decide⟩ b1 c.symm (.inr ⟨rfl,by show(0:Int)<=1;decide⟩) (by show(dY ⟨[]⟩ (nwB n)).2=true;rw[a])]
 show(AD.mk (aQ seed (k:Int)) (aV seed n) (bS seed 0) 0 1 (dY ⟨[]⟩ (nwB n)).1)=_;rw[a];rfl
theorem aOz {seed:Int}{n:Nat}(h:n=1\/n=2\/n=3):kQ seed n=(List.range n).map λk=>Vo seed n k 1 (nwB n):=by
 unfold kQ dN;rw[bTn h];rcases h with rfl|rfl|rfl
 ·rfl
 ·show[_,Cc seed 2 (bH (aQ seed ((1:Nat):Int)))]=_;rw[aUo (.inr (.inl rfl)) (by decide)];rfl
 ·show[_,Cc seed 3 (bH (aQ seed ((1:Nat):Int))),Cc seed 3 (bH (aQ seed ((2:Nat):Int)))]=_;rw[aUo (.inr (.inr rfl)) (by decide),aUo (.inr (.inr rfl)) (by decide)];rfl
theorem bCa {seed:Int}{n:Nat}(h:n=1\/n=2\/n=3):jS seed n=⟨aV seed n,jK seed n,[gI (bS seed 0) 0 1 (nwB n)]⟩:=by
 obtain⟨h1,h2,_⟩:=aAt (seed:=seed) (n:=n) (by omega) (by omega);have a:=(tH seed n (by omega)).ep;have e:fU (aV seed n) (jK seed n)=(⟨aV seed n,jK seed n,[]⟩,true):=by unfold fU;rw[h1,h2];rfl
 unfold jS;rw[e,bTn h];show(dK ⟨aV seed n,jK seed n,[]⟩ (gI (bS seed 0) 0 1 (nwB n))).1=_;unfold dK;rw[show(gI (bS seed 0) 0 1 (nwB n)).Epoch=0 from rfl,a];rfl
def aO0 (w:AA)(d j:Int)(o:AP):(gN w d j o).1.Hosts=w.Hosts:=by
 unfold gN;cases !dL w d j with
 |true=>rfl
 |false=>
  cases !(aAY w j).2.2.2 with
  |true=>rfl
  |false=>cases !((vF w d j o).2.1==0)<;>rfl
def wQ (w:AA)(d b:Int):(aR w d b).1.Hosts=w.Hosts:=by unfold aR;cases aP w&&aL w d<;>rfl
def bHj (w:AA)(d:Int):(upF w d).1.Hosts=w.Hosts:=by unfold upF;cases(dV (aH w d)).2.2&&(dK w.aAE (dV (aH w d)).2.1).2<;>rfl
def aAu (w:AA)(d:Int):(iK w d).1.Hosts=w.Hosts:=by
 unfold iK;cases(aR w d 0).2==0&&(upF (aR w d 0).1 d).2 with
 |false=>rfl
 |true=>exact(bHj _ _).trans (wQ _ _ _)
def aUp (w:AA)(d:Int)(n:ByteArray)(a:Int)(r:Bool):(sW w d n a r).1.Hosts=w.Hosts:=by
 unfold sW;cases aP w&&aL w d with
 |false=>rfl
 |true=>cases(dJ (aH w d) n a r).2<;>rfl
def aO1 (w:AA)(b k p:Int)(key:List AF->Int):(jV w b k p key).1.Hosts=w.Hosts:=by unfold jV;simp only[];generalize eG w.aAE.Log k p (aH w b).Store=l;generalize bI l.1 (key l.1) (IntKind.i64.wrap (1000+IntKind.i64.wrap (10*(l.1.length:Int))))=e;cases l.2&&(e.2&&(nM w.aAE l.1 e.1).2)<;>rfl
def bCb (w:AA)(b:Int):(fI w b).1.Hosts=w.Hosts:=by
 unfold fI;cases Cb w b with
 |false=>rfl
 |true=>
  show(Ey w b).1.Hosts=w.Hosts;have a:(rJ w b).1.Hosts=w.Hosts:=by unfold rJ;rw[aAu];exact(aO1 _ _ _ _ _).trans (wQ _ _ _)
  unfold Ey
  first
   |exact a
   |exact(wQ _ _ _).trans a
def aO2 (w:AA)(d:Int):(nP w d).1.Hosts=w.Hosts:=by unfold nP;cases dL w d 0&& !bZ w d<;>rfl
def aUq (w:AA):(tF w).1.Hosts=w.Hosts:=by unfold tF;cases aP (tC w)<;>rfl
def bCc (w:AA)(b t:Int):(eY w b t).1.Hosts=w.Hosts:=by
 unfold eY;generalize((aR w b 0).2==0&&(!bZ w b&&(!(b==t)&&bF w t)))=q;cases q with
 |false=>rfl
 |true=>
  show(oV w b t).1.Hosts=w.Hosts;have h1:(mR w b t).1.Hosts=w.Hosts:=(aO1 _ _ _ _ _).trans (wQ _ _ _);have a:(Kh w b t).1.Hosts=w.Hosts:=(bHj _ _).trans h1;unfold oV;cases(mR w b t).2&&((Ph w b t).2&&(Kh w b t).2) with
  |false=>rfl
  |true=>exact a
def bHk (w:AA)(pin:Int):(Az w pin).1.Hosts.length=w.Hosts.length:=by
 show(fG w (yS w) pin).1.Hosts.length=_;unfold fG;cases aP w with
 |false=>rfl
 |true=>exact(bMr ..).1
def bHl (w:AA):(eF w).1.Hosts.length<=w.Hosts.length:=by
 unfold eF;cases aP w&&(fD w.Hosts (aE0 w)).2 with
 |false=>exact aj _
 |true=>exact(U4 ..).1
def bJ6 (w:AA)(i b:Int):(fQ w i b).1.Hosts.length=w.Hosts.length:=by
 unfold fQ;cases !aP w||(decide (i<0)||decide (i>=(w.Hosts.length:Int))) with
 |true=>rfl
 |false=>cases(gL (w.Hosts.getD i.toNat default) b).2 with
  |false=>rfl
  |true=>exact aw ..
def bTo (w:AA)(d:Int):(nP w d).1.sz=w.sz:=by
 unfold nP;cases dL w d 0&& !bZ w d with
 |false=>rfl
 |true=>simp only[ae,AA.sz,aw]
structure KeptH (w v:AA):Prop where
 kept:Kept w v
 hosts:v.Hosts.length<=w.Hosts.length
def KeptH.of {w v:AA}(h:Kept w v)(e:v.Hosts=w.Hosts):KeptH w v:=⟨h,by rw[e];exact aj _⟩
def bJ7 {w:AA}(h:WIn w.Devices.length w)(a:w.Hosts.length<=400)(k d o v:Int)(f:Bool):KeptH w (yT w k d o v f).1:=by
 have tr:∀b d j o,KeptH w (bif b then mM w d j o else(w,1)).1:=λb d j o=>by
  refine .of (bTi h b d j o) ?_;cases b with
  |true=>exact aO0 _ _ _ _
  |false=>rfl
 unfold yT;rw[h.ok];simp only[aq,ac];cases k==1 with
 |true=>exact .of (.of h.tick (bv (bWs w) (cV _ _))) (aUq w)
 |false=>
 simp only[ac];cases k==2 with
 |true=>exact tr _ _ _ _
 |false=>
 simp only[ac];cases k==3 with
 |true=>exact tr _ _ _ _
 |false=>
 simp only[ac];cases k==4 with
 |true=>exact .of (.of (h.aCG d) (by rw[ae,bTo];omega)) (aO2 w d)
 |false=>
 simp only[ac];cases k==5 with
 |true=>exact tr _ _ _ _
 |false=>
 simp only[ac];cases k==6 with
 |true=>exact .of ⟨(h.add d).1,(h.add d).2,by have:=add_add h d;rw[ae];omega⟩ (bCb w d)
 |false=>
 simp only[ac];cases k==7 with
 |true=>exact .of (.of (h.cut d o) (by have:=bWr h d o;rw[ae];omega)) (bCc w d o)
 |false=>
 simp only[ac];cases k==8 with
 |true=>exact .of (.of ⟨h.aDP d aKm v f,aKq w d aKm v f⟩ (by have:=bTg w d aKm v f;rw[ae];omega)) (aUp w d aKm v f)
 |false=>
 simp only[ac];cases k==9 with
 |true=>exact .of (.of ⟨h.push d,(Bi w d).1,(Bi w d).2.2.1⟩ (by have:=bTh h d;rw[ae];omega)) (aAu w d)
 |false=>
 simp only[ac];cases k==10 with
 |true=>exact .of (.of ⟨h.sync d v,(jB w d v).1,(jB w d v).2.2.1⟩ (by have:=bHe h d v;rw[ae];show(aR w d v).1.sz<=_;omega)) (wQ w d v)
 |false=>
 simp only[ac];cases k==11 with
 |true=>exact⟨.of (h.aCT v) (by
   have h1:=bWn w (yS w) v;have h2:=aUd w;show(fG w (yS w) v).1.sz<=_;omega),Nat.le_of_eq (bHk w v)⟩
 |false=>
 simp only[ac];cases k==12 with
 |true=>exact⟨.of h.renew (bv (aYj w) (cV _ _)),bHl w⟩
 |false=>
 simp only[ac];cases k==13 with
 |true=>exact⟨.of (h.roll o v) (bv (bTj w o v) (cV _ _)),Nat.le_of_eq (bJ6 w o v)⟩
 |false=>exact⟨.refl h,aj _⟩
def same (s h:Int)(e:AG):Bool:=e.Site==s&&e.Handle==h
def lk (l:List AG)(s h:Int):Option AG:=l.find? (same s h)
def bTp:Option AG->Option AG->Option AG
 |none,y=>y
 |some e,none=>some e
 |some e,some x=>some (qR e x)
theorem same_iff {s h:Int}{e:AG}:same s h e=true↔e.Site=s/\e.Handle=h:=by simp[same]
theorem Bj (e:AG):same e.Site e.Handle e=true:=same_iff.2 ⟨rfl,rfl⟩
theorem D6 {a b:AG}(h:dX a b=true):¬(a.Site=b.Site/\a.Handle=b.Handle):=by grind[Bd]
def bJ8 {a b:AG}(h:dX a b=true):dX b a=false:=by
 grind[Bd]
def oL:∀(n:Nat) {a b:List AG} {e:AG},a.length+b.length<=n->e∈bG a b->e∈a\/e∈b
 |_,[],b,e,_,h=>by rw[kE] at h;exact .inr h
 |_,a::xs,[],e,_,h=>by rw[fO] at h;exact .inl h
 |0,a::xs,b::bs,e,h,_=>by simp at h
 |n+1,a::xs,b::bs,e,hn,h=>by
  simp only[ao] at hn;rw[wJ] at h;cases h1:dX a b with
  |true=>
   rw[h1,ae] at h;rcases ba.1 h with rfl|h
   ·exact .inl (cl ..)
   ·rcases oL n (by simp only[ao];omega) h with h|h
    ·exact .inl (cb _ h)
    ·exact .inr h
  |false=>
   rw[h1,ac] at h;cases h2:dX b a with
   |true=>
    rw[h2,ae] at h;rcases ba.1 h with rfl|h
    ·exact .inr (cl ..)
    ·rcases oL n (by simp only[ao];omega) h with h|h
     ·exact .inl h
     ·exact .inr (cb _ h)
   |false=>
    rw[h2,ac] at h;rcases ba.1 h with rfl|h
    ·rcases bL8 a b with e|e
     ·rw[e];exact .inl (cl ..)
     ·rw[e];exact .inr (cl ..)
    ·rcases oL n (by omega) h with h|h
     ·exact .inl (cb _ h)
     ·exact .inr (cb _ h)
def D7:∀(n:Nat) {a b:List AG},a.length+b.length<=n->r9 a->r9 b->r9 (bG a b)
 |_,[],b,_,_,h=>by rw[kE];exact h
 |_,a::xs,[],_,h,_=>by rw[fO];exact h
 |0,a::xs,b::bs,h,_,_=>by simp at h
 |n+1,a::xs,b::bs,hn,e,hb=>by
  simp only[ao] at hn;obtain⟨d,f⟩:=cj.1 e;obtain⟨b1,i⟩:=cj.1 hb;rw[wJ];cases h1:dX a b with
  |true=>
   rw[ae];refine cj.2 ⟨λy c=> ?_,D7 n (by simp only[ao];omega) f hb⟩;rcases oL _ (aj _) c with c|c
   ·exact d y c
   ·rcases ba.1 c with rfl|c
    ·exact h1
    ·exact pR h1 (b1 y c)
  |false=>
   rw[ac];cases h2:dX b a with
   |true=>
    rw[ae];refine cj.2 ⟨λy c=> ?_,D7 n (by simp only[ao];omega) e i⟩;rcases oL _ (aj _) c with c|c
    ·rcases ba.1 c with rfl|c
     ·exact h2
     ·exact pR h2 (d y c)
    ·exact b1 y c
   |false=>
    rw[ac];have hk:=Ca h1 h2;have hp:=aEz hk;refine cj.2 ⟨λy c=> ?_,D7 n (by omega) f i⟩;rw[Be hp];rcases oL _ (aj _) c with c|c
    ·rw[<-Be hk];exact d y c
    ·exact b1 y c
def oW (a:AG)(l:List AG)(s h:Int):lk (a::l) s h=bif same s h a then some a else lk l s h:=by unfold lk;rw[List.find?_cons];cases same s h a<;>rfl
theorem aFh {l:List AG}{s h:Int}(hl:∀e∈l,same s h e=false):lk l s h=none:=by
 grind[List.find?_eq_none,lk]
def yX {l:List AG}{s h:Int}{e:AG}(hl:lk l s h=some e):e∈l/\e.Site=s/\e.Handle=h:=by
 grind[List.mem_of_find?_eq_some,same_iff,lk]
theorem bD3 {a:AG}{l:List AG}(hs:r9 (a::l)){s h:Int}(c:same s h a=true):∀e∈l,same s h e=false:=λe he=>by
 have:=D6 ((cj.1 hs).1 e he)
 grind[trans,same_iff]
theorem bHm {l:List AG}(hs:r9 l){e:AG}(he:e∈l):lk l e.Site e.Handle=some e:=by
 induction l with
 |nil=>simp at he
 |cons a l c=>
  rw[oW];rcases ba.1 he with rfl|he
  ·rw[Bj];rfl
  ·cases hq:same e.Site e.Handle a with
   |true=>grind[Bj,bD3]
   |false=>exact c (cj.1 hs).2 he
def bJ9:∀{a b:List AG},r9 a->r9 b->(∀s h,lk a s h=lk b s h)->a=b
 |[],[],_,_,_=>rfl
 |[],b::bs,_,_,h=>by have:=h b.Site b.Handle;rw[oW,Bj] at this;cases this
 |a::xs,[],_,_,h=>by have:=h a.Site a.Handle;rw[oW,Bj] at this;cases this
 |a::xs,b::bs,c,hb,h=>by
  have d:a=b:=by
   have h1:=h a.Site a.Handle;have h2:=h b.Site b.Handle;rw[oW,Bj,ae] at h1;rw[oW b,Bj,ae] at h2;have f:=(yX h1.symm).1;have i:=(yX h2).1;rcases ba.1 f with e|f
   ·exact e
   ·rcases ba.1 i with e|i
    ·exact e.symm
    ·have q1:=(cj.1 hb).1 a f;have q2:=(cj.1 c).1 b i;rw[bJ8 q1] at q2;cases q2
  subst d;congr 1;refine bJ9 (cj.1 c).2 (cj.1 hb).2 λs j=> ?_
  have:=h s j;rw[oW,oW] at this;cases hq:same s j a with
  |true=>rw[aFh (bD3 c hq),aFh (bD3 hb hq)]
  |false=>rw[hq] at this;exact this
def bPq {a b:AG}(hk:a.Site=b.Site/\a.Handle=b.Handle)(s h:Int):same s h (qR a b)=same s h b:=by have:=aEz hk;unfold same;rw[this.1,this.2]
def aFi:∀(n:Nat) {a b:List AG},a.length+b.length<=n->r9 a->r9 b->∀s h,lk (bG a b) s h=bTp (lk a s h) (lk b s h)
 |_,[],b,_,_,_,s,h=>by rw[kE];rfl
 |_,a::xs,[],_,_,_,s,h=>by
  rw[fO];show _=bTp (lk (a::xs) s h) none;cases lk (a::xs) s h<;>rfl
 |0,a::xs,b::bs,h,_,_,_,_=>by simp at h
 |n+1,a::xs,b::bs,hn,d,hb,s,h=>by
  simp only[ao] at hn;obtain⟨i,e⟩:=cj.1 d;obtain⟨b1,f⟩:=cj.1 hb;rw[wJ];cases h1:dX a b with
  |true=>
   rw[ae,oW,oW a xs,aFi n (by grind) e hb];cases hq:same s h a with
   |false=>rfl
   |true=>have c:lk (b::bs) s h=none:=(by grind[aFh,dX,pR,D6,same_iff,trans]);rw[c];rfl
  |false=>
   rw[ac];cases h2:dX b a with
   |true=>
    rw[ae,oW,oW b bs,aFi n (by grind) d f];cases hq:same s h b with
    |false=>rfl
    |true=>have c:lk (a::xs) s h=none:=(by grind[aFh,dX,pR,D6,same_iff,trans]);rw[c];rfl
   |false=>
    have hk:=Ca h1 h2;rw[ac,oW,oW a xs,oW b bs,aFi n (by omega) e f,bPq hk];have:same s h a=same s h b:=by unfold same;rw[hk.1,hk.2]
    rw[this];cases same s h b<;>rfl
def lkM {a b:List AG}(c:r9 a)(hb:r9 b)(s h:Int):lk (bG a b) s h=bTp (lk a s h) (lk b s h):=aFi _ (aj _) c hb s h
def cAs {a b:List AG}(c:r9 a)(hb:r9 b):r9 (bG a b):=D7 _ (aj _) c hb
def rk (e:AG):Int:=2*e.Version+(bif e.Deleted then 1 else 0)
theorem bYc {x e:AG}(hk:x.Site=e.Site/\x.Handle=e.Handle)(h:rk x=rk e):x=e:=by obtain⟨s,a,v,d⟩:=x;obtain⟨s2,h2,c,d2⟩:=e;simp only[rk] at h hk;obtain⟨rfl,rfl⟩:=hk;cases d<;>cases d2<;>simp at h ⊢<;>omega
theorem bTq {x e:AG}:qW x e=true↔rk e<rk x\/(rk e=rk x/\x.Deleted=true):=by unfold qW rk;simp only[co,ab,cm,cW];cases x.Deleted<;>cases e.Deleted<;>simp only[ae,ac,ir,and_false,and_true,or_false]<;>omega
theorem aSf {e x:AG}(hk:x.Site=e.Site/\x.Handle=e.Handle):qR e x=if rk e<rk x then x else e:=by
 grind[qW,bTq,absurd,bYc,rk,qR]
def Vp (a b:List AG):Prop:=∀e∈a,∃x∈b,x.Site=e.Site/\x.Handle=e.Handle/\rk e<=rk x
def Vp.refl (a:List AG):Vp a a:=λe he=>(by grind)
theorem Vp.trans {a b c:List AG}(h:Vp a b)(k:Vp b c):Vp a c:=λe he=>by
 obtain⟨x,d,x1,x2,f⟩:=h e he;obtain⟨y,i,j,l,n⟩:=k x d
 grind
def Vp.nil (b:List AG):Vp [] b:=λe he=>by simp at he
def Vp.merge {a b:List AG}(f:r9 a)(hb:r9 b)(h:Vp a b):bG b a=b:=by
 refine bJ9 (cAs hb f) hb λs c=> ?_;rw[lkM hb f];cases hq:lk a s c with
 |none=>cases lk b s c<;>rfl
 |some e=>
  obtain⟨i,j,k⟩:=yX hq;obtain⟨x,l,x1,x2,n⟩:=h e i;have d:lk b s c=some x:=by
   grind[bHm]
  rw[d];show some (qR x e)=some x;rw[aSf ⟨x1.symm,x2.symm⟩,dh (by omega)]
def Vp.left {a b:List AG}(c:r9 a)(hb:r9 b):Vp a (bG a b):=λe he=>by
 have h1:=lkM c hb e.Site e.Handle;rw[bHm c he] at h1;cases hq:lk b e.Site e.Handle with
 |none=>rw[hq] at h1;exact⟨e,(yX h1).1,rfl,rfl,cL _⟩
 |some x=>rw[hq] at h1;obtain⟨d,f,h⟩:=yX h1;obtain⟨_,q2,q3⟩:=yX hq;refine⟨_,d,f,h,?_⟩;rw[aSf ⟨q2,q3⟩];split<;>omega
def Vp.right {a b:List AG}(c:r9 a)(hb:r9 b):Vp b (bG a b):=λe he=>by
 have h1:=lkM c hb e.Site e.Handle;rw[bHm hb he] at h1;cases hq:lk a e.Site e.Handle with
 |none=>rw[hq] at h1;exact⟨e,(yX h1).1,rfl,rfl,cL _⟩
 |some x=>rw[hq] at h1;obtain⟨d,f,h⟩:=yX h1;obtain⟨_,q2,q3⟩:=yX hq;refine⟨_,d,f,h,?_⟩;rw[aSf ⟨q2.symm,q3.symm⟩];split<;>omega
def Vp.lub {a b c:List AG}(h1:Vp a c)(h2:Vp b c):Vp (bG a b) c:=λe he=>by
 rcases oL _ (aj _) he with he|he
 ·exact h1 e he
 ·exact h2 e he
def Vp.merge' {a b:List AG}(d:r9 a)(hb:r9 b)(h:Vp a b):bG a b=b:=by
 refine bJ9 (cAs d hb) hb λs f=> ?_;rw[lkM d hb];cases hq:lk a s f with
 |none=>rfl
 |some e=>
  obtain⟨i,j,k⟩:=yX hq;obtain⟨x,l,x1,x2,n⟩:=h e i;have c:lk b s f=some x:=by
   grind[bHm]
  rw[c];show some (qR e x)=some x
  grind[bYc,aSf]
def bTr {α:Type}[BEq α][LawfulBEq α]:∀{l S:List α},l.Nodup->(∀x∈l,x∈S)->l.length<=S.length
 |[],S,_,_=>by simp
 |x::l,S,hn,hs=>by
  obtain⟨h1,h2⟩:=cx.1 hn;have c:=hs x (cl ..);have:=bTr (l:=l) (S:=S.erase x) h2 λy d=>by
   have a:y≠x:=λe=>h1 (e▸d);exact(List.mem_erase_of_ne a).2 (hs y (cb _ d))
  rw[List.length_erase_of_mem c] at this;have:0<S.length:=List.length_pos_of_mem c;simp only[ao];omega
structure KeyS (S:List (Int×Int)):Prop where
 len:S.length<=20
 rg:∀p∈S,(0<=p.1/\p.1<=2147483646)/\(0<=p.2/\p.2<=1000000)
structure BunIn (S:List (Int×Int)) (V:Int) (b:List AG):Prop where
 st:r9 b
 key:∀e∈b,(e.Site,e.Handle)∈S
 ver:∀e∈b,1<=e.Version/\e.Version<=V
def BunIn.mono {S:List (Int×Int)}{V W:Int}{b:List AG}(h:BunIn S V b)(hv:V<=W):BunIn S W b:=⟨h.st,h.key,λe he=>⟨(h.ver e he).1,fc (h.ver e he).2 hv⟩⟩
def BunIn.nil (S:List (Int×Int))(V:Int):BunIn S V []:=⟨List.Pairwise.nil,(by simp),(by simp)⟩
theorem BunIn.len {S:List (Int×Int)}{V:Int}{b:List AG}(h:BunIn S V b):b.length<=S.length:=by
 have hn:(b.map λe=>(e.Site,e.Handle)).Nodup:=by rw[jp,iS];exact h.st.imp (by grind[D6])
 have:=bTr hn λp hp=>by
  obtain⟨e,he,rfl⟩:=cn.1 hp;exact h.key e he
 rwa [bg] at this
def BunIn.ok {S:List (Int×Int)}{V:Int}{b:List AG}(a:KeyS S)(c:V<=1000000)(h:BunIn S V b):aO ⟨b⟩=true:=by
 have hl:=h.len;have:=a.len;unfold aO;rw[ax (show((⟨b⟩:AB).Entries.length:Int)<=20 by show(b.length:Int)<=20;omega),cw,bq];refine Pn λk hk=> ?_;have hk:k<b.length:=hk;show Vb b (0+k) b[k]=false;have hm:=bw hk;have r:=a.rg _ (h.key _ hm);have v:=h.ver _ hm;unfold Vb;rw[kF r.1.1 r.1.2,kF r.2.1 r.2.2,kF v.1 (by omega)];simp only[aq,cN,ct];by_cases h0:0<k
 ·have:b.getD (k-1) default=b[k-1]'(by omega):=by rw[List.getD,aa (by omega),cr]
  rw[this,eh.1 h.st (k-1) k (by omega) hk (by omega)];simp
 simp[*]
def BunIn.merge {S:List (Int×Int)}{V:Int}{a b:List AG}(c:BunIn S V a)(hb:BunIn S V b):BunIn S V (bG a b):=
 ⟨cAs c.st hb.st,λe he=>(oL _ (aj _) he).elim (c.key e) (hb.key e),λe he=>(oL _ (aj _) he).elim (c.ver e) (hb.ver e)⟩
def D8 {S:List (Int×Int)}{V:Int}{a b:AB}(c:KeyS S)(d:V<=1000000)(e:BunIn S V a.Entries)(hb:BunIn S V b.Entries):dY a b=(⟨bG a.Entries b.Entries⟩,true):=by unfold dY;rw[show aO a=true from e.ok c d,show aO b=true from hb.ok c d,(e.merge hb).ok c d];rfl
theorem aSg {l:List AG}(hs:r9 l)(s h:Int):(aM ⟨l⟩ s h<0/\lk l s h=none)\/(0<=aM ⟨l⟩ s h/\∃e,lk l s h=some e/\l.getD (aM ⟨l⟩ s h).toNat default=e/\(aM ⟨l⟩ s h).toNat<l.length):=by
 by_cases a:aM ⟨l⟩ s h<0
 ·exact .inl ⟨a,aFh λe he=>Vd (p:=same s h) a e he⟩
 ·refine .inr ⟨by omega,?_⟩;obtain⟨l1,e,l2,d,f,c⟩:=w9 (p:=same s h) (l:=l) (i:=0) (by show 0<=aM ⟨l⟩ s h;omega);have c:aM ⟨l⟩ s h=((0+l1.length:Nat):Int):=c
  grind[same_iff,bHm]
theorem bTs {x e:AG}(h:x.Version>e.Version):qW x e=true:=by
 grind[decide_eq_true,qW]
def bCd {l:List AG}(hs:r9 l){x:AG}(h:∀e,lk l x.Site x.Handle=some e->x.Version>e.Version):(qJ ⟨l⟩ x).Entries=bG l [x]:=by
 rw[<-bGf hs]
 grind[bTs,decide_eq_true,aSg]
def cAt (x:AG):r9 [x]:=cj.2 ⟨λy a=>by simp at a,List.Pairwise.nil⟩
def BunIn.one {S:List (Int×Int)}{V:Int}{x:AG}(hk:(x.Site,x.Handle)∈S)(hv:1<=x.Version/\x.Version<=V):BunIn S V [x]:=
 ⟨cAt x,(by simp[*]),(by simp[*])⟩
def aFj (l:List AG)(s h:Int):Bool:=match lk l s h with|some e=> !e.Deleted|none=>false
def aBO (l:List AG)(s h:Int):Int:=match lk l s h with|some e=>e.Version|none=>0
theorem BunIn.aBO {S:List (Int×Int)}{V:Int}{l:List AG}(h:BunIn S V l)(a:0<=V)(s q:Int):0<=aBO l s q/\aBO l s q<=V:=by
 unfold VK.aBO;cases hq:lk l s q with
 |none=>simp[*]
 |some e=>have:=h.ver e (yX hq).1;grind
def cAu {S:List (Int×Int)}{V:Int}(f:KeyS S)(i:0<=V/\V<1000000){b:AB}(h:BunIn S V b.Entries){s q:Int}(hk:(s,q)∈S):
  aE1 b s q=bif aFj b.Entries s q then(b,false) else(⟨bG b.Entries [⟨s,q,aBO b.Entries s q+1,false⟩]⟩,true):=by
 obtain⟨l⟩:=b;have h:BunIn S V l:=h;have hv:=h.aBO i.1 s q;have c:(aM ⟨l⟩ s q<0->lk l s q=none)/\sD ⟨l⟩ s q=⟨s,q,aBO l s q+1,false⟩:=by
  unfold sD bOy;rcases aSg h.st s q with⟨h1,h2⟩|⟨h1,e,h2,j,k⟩
  all_goals grind[aBO,decide,aM,default,decide_eq_true,aK,decide_eq_false]
 have a:(qJ ⟨l⟩ (sD ⟨l⟩ s q))=⟨bG l [⟨s,q,aBO l s q+1,false⟩]⟩:=by rw[c.2];have:(qJ ⟨l⟩ ⟨s,q,aBO l s q+1,false⟩).Entries=bG l [⟨s,q,aBO l s q+1,false⟩]:=bCd h.st (by grind[aBO,lk]);rw[<-this]
 have d:aO ⟨bG l [⟨s,q,aBO l s q+1,false⟩]⟩=true:=((h.mono (W:=V+1) (by omega)).merge (.one (x:=⟨s,q,aBO l s q+1,false⟩) hk (by grind))).ok f (by omega);unfold aE1;rw[a,d,h.ok f (by omega)];rcases aSg h.st s q with⟨h1,h2⟩|⟨h1,e,h2,j,k⟩
 all_goals grind[decide_eq_true,aM,default,aFj,decide_eq_false]
def cAv {S:List (Int×Int)}{V:Int}(f:KeyS S)(i:0<=V/\V<1000000){b:AB}(h:BunIn S V b.Entries){s q:Int}:
  aE2 b s q=bif aFj b.Entries s q then(⟨bG b.Entries [⟨s,q,aBO b.Entries s q+1,true⟩]⟩,true) else(b,false):=by
 obtain⟨l⟩:=b;have h:BunIn S V l:=h;have hv:=h.aBO i.1 s q;unfold aE2;rw[h.ok f (by omega)];rcases aSg h.st s q with⟨h1,h2⟩|⟨h1,e,h2,d,j⟩
 ·grind[aFj,decide_eq_true,aM]
 ·have c:aBO l s q=e.Version:=by unfold aBO;rw[h2]
  have he:=h.ver e (yX h2).1;have hd:aTx ⟨l⟩ s q=⟨s,q,aBO l s q+1,true⟩:=by unfold aTx;show(⟨s,q,IntKind.i64.wrap ((l.getD (aM ⟨l⟩ s q).toNat default).Version+1),true⟩:AG)=_;rw[d,c,aK (by omega) (by omega)]
  have a:(qJ ⟨l⟩ (aTx ⟨l⟩ s q))=⟨bG l [⟨s,q,aBO l s q+1,true⟩]⟩:=by rw[hd];have:(qJ ⟨l⟩ ⟨s,q,aBO l s q+1,true⟩).Entries=bG l [⟨s,q,aBO l s q+1,true⟩]:=bCd h.st (by grind);rw[<-this]
  rw[a,au (show ¬aM ⟨l⟩ s q<0 by omega)];show(bif !true||(false||((l.getD (aM ⟨l⟩ s q).toNat default).Deleted||(l.getD (aM ⟨l⟩ s q).toNat default).Version==1000000)) then _ else _)=_;have hl:aFj l s q= !e.Deleted:=by unfold aFj;rw[h2]
  show _=bif aFj l s q then _ else _;rw[d,bm.2 (show e.Version≠1000000 by omega),hl];cases e.Deleted<;>rfl
structure ChgIn (S:List (Int×Int)) (V:Int) (d x:AD):Prop where
 store:x.Store=d.Store
 log:x.Log=d.Log
 key:x.Key=d.Key
 ep:x.Epoch=d.Epoch
 ver:x.Version=d.Version
 bun:BunIn S V x.aAC.Entries
 sub:Vp d.aAC.Entries x.aAC.Entries
def ChgIn.rfl' {S:List (Int×Int)}{V W:Int}{d:AD}(h:BunIn S V d.aAC.Entries)(hv:V<=W):ChgIn S W d d:=⟨rfl,rfl,rfl,rfl,rfl,h.mono hv, .refl _⟩
theorem ChgIn.trans {S:List (Int×Int)}{V W:Int}{a b c:AD}(h:ChgIn S V a b)(k:ChgIn S W b c):ChgIn S W a c:=
 ⟨k.store.trans h.store,k.log.trans h.log,k.key.trans h.key,k.ep.trans h.ep,k.ver.trans h.ver,k.bun,h.sub.trans k.sub⟩
def aKs {S:List (Int×Int)}{V:Int}(c:KeyS S)(a:0<=V/\V<1000000){d:AD}(h:BunIn S V d.aAC.Entries){n:ByteArray}{q:Int}(hk:(bD n,q)∈S)(rm:Bool):ChgIn S (V+1) d (dJ d n q rm).1:=by
 have hv:=h.aBO a.1 (bD n) q;unfold dJ Au;have one:∀f,BunIn S (V+1) (bG d.aAC.Entries [⟨bD n,q,aBO d.aAC.Entries (bD n) q+1,f⟩]):=λf=>(h.mono (by omega)).merge (.one hk (by grind));cases rm with
 |true=>
  rw[ae,cAv c a h];cases aFj d.aAC.Entries (bD n) q with
  |true=>exact⟨rfl,rfl,rfl,rfl,rfl,one _, .left h.st (cAt _)⟩
  |false=>exact .rfl' h (by omega)
 |false=>
  rw[ac,cAu c a h hk];cases aFj d.aAC.Entries (bD n) q with
  |false=>exact⟨rfl,rfl,rfl,rfl,rfl,one _, .left h.st (cAt _)⟩
  |true=>exact .rfl' h (by omega)
def bTt {S:List (Int×Int)}{V:Int}(a:KeyS S)(e:0<=V/\V+1<1000000){d:AD}(h:BunIn S V d.aAC.Entries){q:Int}(h0:(bD (aA 0),q)∈S)(h1:(bD (aA 1),q)∈S)(rm:Bool):ChgIn S (V+2) d (nA d q rm):=by unfold nA;have c:=aKs a (by omega) h h0 rm;exact c.trans (by have:=aKs a (V:=V+1) (by omega) c.bun h1 rm;rwa [show V+1+1=V+2 by omega] at this)
end Go.VK
set_option maxRecDepth 100000
namespace Go.VK
open D
structure Dv (S:List (Int×Int)) (T:Int) (log:List AF) (K ep v:Int) (d:AD):Prop where
 pre:∃r,log=d.Log++r
 at_:d.Epoch<ep\/(d.Epoch=ep/\d.Version<=v)
 key:d.Epoch=ep->d.Key=K
 bun:BunIn S T d.aAC.Entries
structure Hs (S:List (Int×Int)) (T:Int) (K ep v:Int) (s:AJ):Prop where
 low:s.Epoch<=ep
 own:s.Epoch=ep->∃v' b',s=gI K ep v' b'/\0<=v'/\v'<=v/\BunIn S T b'.Entries
structure Net (S:List (Int×Int)) (t m:Nat) (w:AA) (K v:Int) (r:List AJ) (b:AB):Prop where
 wi:WIn m w
 bx:BoxIn w.aAE.Log w.aAE.Boxes K
 devs:∀p∈aC w.aAE.Log,∃k,k<m/\p=nC w.Seed k
 rem:∀p,dZ w.aAE.Log p=true->∃k,k<m/\p=nC w.Seed k
 hist:w.aAE.History=r++[gI K (aD w.aAE.Log) v b]
 old:∀s∈r,Hs S (t:Int) K (aD w.aAE.Log) v s
 bun:BunIn S (t:Int) b.Entries
 ver:0<=v/\v<=(t:Int)
 dev:∀k (h:k<w.Devices.length),Dv S (t:Int) w.aAE.Log K (aD w.aAE.Log) v w.Devices[k]
def Dv.mono {S:List (Int×Int)}{T U:Int}{log:List AF}{K ep v u:Int}{d:AD}(h:Dv S T log K ep v d)(a:T<=U)(hv:v<=u):Dv S U log K ep u d:=
 ⟨h.pre,h.at_.imp id (by omega),h.key,h.bun.mono a⟩
def Hs.mono {S:List (Int×Int)}{T U:Int}{K ep v u:Int}{s:AJ}(h:Hs S T K ep v s)(a:T<=U)(hv:v<=u):Hs S U K ep u s:=
 ⟨h.low,λe=>let ⟨v',b',h1,h2,c,d⟩:=h.own e;⟨v',b',h1,h2,fc c hv,d.mono a⟩⟩
section
variable {S:List (Int×Int)} {t m:Nat} {w:AA} {K v:Int} {r:List AJ} {b:AB}
def Net.last (h:Net S t m w K v r b):Hs S (t:Int) K (aD w.aAE.Log) v (gI K (aD w.aAE.Log) v b):=
 ⟨cL _,λ_=>⟨v,b,rfl,h.ver.1,cL _,h.bun⟩⟩
theorem Net.hs (h:Net S t m w K v r b){s:AJ}(hs:s∈w.aAE.History):Hs S (t:Int) K (aD w.aAE.Log) v s:=by
 rw[h.hist] at hs;rcases ca.1 hs with hs|hs
 ·exact h.old s hs
 ·rw[cp.1 hs];exact h.last
def Net.pub (h:Net S t m w K v r b){k:Nat}(hk:k<w.Devices.length):aS w.Devices[k].Store=nC w.Seed k:=by unfold nC aS jH;rw[(h.wi.dev k hk).key]
theorem bPr (K:Int):(jQ K ⟨0,0,[],0⟩).2=false:=by
 unfold jQ;cases !(bL K&&(bR (AJ.mk 0 0 [] 0).Epoch 0 1000000&&bR (AJ.mk 0 0 [] 0).Version 0 1000000))||(AJ.mk 0 0 [] 0).MAC !=jL K ⟨0,0,[],0⟩ with
 |true=>rfl
 |false=>rfl
theorem bYd {d:AD}{log:List AF}{bx:AM}{s:AJ}(h:(kM d log bx s==0)=true):
  cZ log d.Log=true/\aS d.Store∈aC log/\aD log<=s.Epoch/\(jQ (dM d.Store bx).1 s).2=true/\(dY d.aAC (jQ (dM d.Store bx).1 s).1).2=true:=by
 have h:=eq_of_beq h;unfold kM at h
 grind[aT,cZ,iQ,aC,aS,aD,dM,bx,decide,jQ,dY,Bool.or_eq_false_iff,Bool.not_eq_false',decide_eq_false_iff_not,lY]
def Net.set (h:Net S t m w K v r b){i:Nat}{x:AD}(hi:i<w.Devices.length)(a:Dv S (t:Int) w.aAE.Log K (aD w.aAE.Log) v x):∀k (hk:k<(w.Devices.set i x).length),Dv S (t:Int) w.aAE.Log K (aD w.aAE.Log) v (w.Devices.set i x)[k]:=λk hk=>by
 rw[eL];rw[aw] at hk;split
 ·exact a
 ·exact h.dev k hk
def Net.upd (h:Net S t m w K v r b){u:AA}(h1:u.Seed=w.Seed)(h2:u.aAE=w.aAE)(c:u.Devices.length=w.Devices.length)(a:WIn m u)
  (d:∀k (hk:k<u.Devices.length),Dv S (t:Int) w.aAE.Log K (aD w.aAE.Log) v u.Devices[k]):Net S t m u K v r b where
 wi:=a
 bx:=by rw[h2];exact h.bx
 devs:=by rw[h1,h2];exact h.devs
 rem:=by rw[h1,h2];exact h.rem
 hist:=by rw[h2];exact h.hist
 old:=by rw[h2];exact h.old
 bun:=h.bun
 ver:=h.ver
 dev:=by simp[*]
def Net.mono (h:Net S t m w K v r b){u:Nat}(a:t<=u):Net S u m w K v r b where
 wi:=h.wi
 bx:=h.bx
 devs:=h.devs
 rem:=h.rem
 hist:=h.hist
 old:=λs hs=>(h.old s hs).mono (by omega) (cL _)
 bun:=h.bun.mono (by omega)
 ver:=by have:=h.ver;omega
 dev:=λk hk=>(h.dev k hk).mono (by omega) (cL _)
def Net.aDX (h:Net S t m w K v r b)(j:KeyS S)(ht:t<=900000){d:AD}(hd:Dv S (t:Int) w.aAE.Log K (aD w.aAE.Log) v d)(c:Int):Dv S (t:Int) w.aAE.Log K (aD w.aAE.Log) v (cK d w.aAE.Log w.aAE.Boxes (gB w.aAE c).1).1:=by
 unfold cK;cases h0:kM d w.aAE.Log w.aAE.Boxes (gB w.aAE c).1==0 with
 |false=>exact hd
 |true=>
  obtain⟨q1,q2,q3,q4,q5⟩:=bYd h0;have ho:=Pq h.bx q2;rw[ho] at q4 q5;rw[ae,ho];have k:=h.bx.eps;have a:(gB w.aAE c).1=⟨0,0,[],0⟩\/(gB w.aAE c).1∈w.aAE.History:=by
   grind[decide,Bool.or_eq_false_iff,decide_eq_false_iff_not,default,List.getD,List.getElem?_eq_getElem,List.getElem_mem,gB]
  rcases a with a|a
  ·grind[q4,bPr]
  ·obtain⟨l1,l2⟩:=h.hs a;obtain⟨v',b',e,n,l,f⟩:=l2 (by omega);have hv:=h.ver;have i:jQ K (gI K (aD w.aAE.Log) v' b')=(b',true):=bB9 h.bx.kok (by omega) (by omega) (f.ok j (by omega));rw[e,i,D8 j (by omega) hd.bun f];exact⟨⟨[],by simp⟩, .inr ⟨rfl,l⟩,λ_=>rfl,hd.bun.merge f⟩
def Net.sync (h:Net S t m w K v r b)(f:KeyS S)(ht:t<=900000)(d c:Int):Net S t m (aR w d c).1 K v r b:=by
 have a:=h.wi.sync d c;unfold aR at a ⊢;cases hb:aP w&&aL w d with
 |false=>exact h
 |true=>rw[hb] at a;rw[ab] at hb;obtain⟨hd,e⟩:=iZ hb.2;exact h.upd rfl rfl (aw ..) a (h.set hd (h.aDX f ht (by rw[e];exact h.dev _ hd) c))
def cAw (h:Net S t m w K v r b):(gB w.aAE 0).1=gI K (aD w.aAE.Log) v b:=by unfold gB;rw[au (show ¬(0:Int)<0 by decide),au (show ¬(0:Int)>=(w.aAE.History.length:Int) by rw[h.hist,ay,cq];omega)];show w.aAE.History.getD _ default=_;rw[h.hist];simp
def Net.aDQ (h:Net S t m w K v r b){d:Int}(hd:aL w d=true):bF w d=iQ (aC w.aAE.Log) (nC w.Seed d.toNat):=by obtain⟨hl,e⟩:=iZ hd;unfold bF;rw[hd,e,h.pub hl];rfl
def oG (w:AA)(K v:Int)(b:AB)(d:AD):AD:=⟨d.Store,w.aAE.Log,K,aD w.aAE.Log,v,⟨bG d.aAC.Entries b.Entries⟩⟩
def Net.aBS (h:Net S t m w K v r b)(a:KeyS S)(ht:t<=900000){d:AD}(h1:∃r',w.aAE.Log=d.Log++r')(h2:d.Epoch<aD w.aAE.Log\/(d.Epoch=aD w.aAE.Log/\d.Version<=v))(c:BunIn S (t:Int) d.aAC.Entries)(e:aS d.Store∈aC w.aAE.Log):
  cK d w.aAE.Log w.aAE.Boxes (gB w.aAE 0).1=(oG w K v b d,0):=by
 have hm:=D8 a (by omega) c h.bun;have hv:=h.ver;obtain⟨r',hr⟩:=h1;have hs:cK d w.aAE.Log w.aAE.Boxes (gI K (aD w.aAE.Log) v b)=(⟨d.Store,w.aAE.Log,K,aD w.aAE.Log,v,(dY d.aAC b).1⟩,0):=
  aUn h.bx h.wi.log (by grind[aOy]) e (by omega) (h.bun.ok a (by omega)) rfl h2 (by rw[hm])
 rw[cAw h,hs,hm];rfl
def Net.aBX (h:Net S t m w K v r b)(f:KeyS S)(ht:t<=900000){d:Int}(hd:bF w d=true):
  aR w d 0=({w with Devices:=w.Devices.set d.toNat (oG w K v b (aH w d))},0):=by
 have a:aL w d=true:=by grind[bF]
 obtain⟨hl,e⟩:=iZ a;have c:=h.dev _ hl;rw[<-e] at c;have hs:=h.aBS f ht c.pre c.at_ c.bun (by
  grind[lY,bF])
 unfold aR;rw[h.wi.ok,a,hs];rfl
def Net.aCJ (h:Net S t m w K v r b){d:Int}(hd:bF w d=false)(c:Int):((aR w d c).2==0)=false:=by
 grind[aP,aL,cK,kM,aH,gB,bYd,bF,lY,aR]
def aO3 (w:AA)(K v:Int)(b:AB)(d:AD):AD:={oG w K v b d with Version:=v+1}
def aBK (w:AA)(K v:Int)(b:AB)(d:Int):AA:=
 {w with Devices:=w.Devices.set d.toNat (aO3 w K v b (aH w d)),aAE:={w.aAE with History:=w.aAE.History++[gI K (aD w.aAE.Log) (v+1) ⟨bG (aH w d).aAC.Entries b.Entries⟩]}}
def bHn {S:List (Int×Int)}{d:AD}(a:KeyS S){T:Int}(c:T<=1000000)(h1:bL d.Key=true)(h2:0<=d.Epoch/\d.Epoch<=1000000)(f: -1<=d.Version/\d.Version<1000000)(e:BunIn S T d.aAC.Entries):
  dV d=({d with Version:=d.Version+1},gI d.Key d.Epoch (d.Version+1) d.aAC,true):=by
 have hs:rG d.Key d.Epoch (IntKind.i64.wrap (d.Version+1)) d.aAC=(gI d.Key d.Epoch (d.Version+1) d.aAC,true):=by rw[aK (by omega) (by omega)];unfold rG;rw[h1,kF h2.1 h2.2,kF (by omega) (by omega),show aO d.aAC=true from e.ok a c];rfl
 grind[aK,dV]
def bCe {c:AO}{s:AJ}(h1:s.Epoch=aD c.Log)(h2:c.History.length<60)(a:∀l,c.History.getLast? =some l->qX s l=true):dK c s=({c with History:=c.History++[s]},true):=by
 grind[bne_self_eq_false,decide_eq_false,dK,decide,qX,default,List.getD,List.getElem?_eq_getElem]
theorem Net.aBJ (h:Net S t m w K v r b)(i:KeyS S)(ht:t<=900000)(hr:r.length<=58){d:Int}(hd:bF w d=true):iK w d=(aBK w K v b d,true):=by
 have a:aL w d=true:=by grind[bF]
 obtain⟨hl,e⟩:=iZ a;have hs:=h.aBX i (by omega) hd;have hv:=h.ver;have k:=h.bx.eps;have j:=h.dev _ hl;rw[<-e] at j;have c:aH (aR w d 0).1 d=oG w K v b (aH w d):=by
  grind[List.getD,List.getElem?_set_self,default,aH,hs]
 have n:dV (oG w K v b (aH w d))=(aO3 w K v b (aH w d),gI K (aD w.aAE.Log) (v+1) ⟨bG (aH w d).aAC.Entries b.Entries⟩,true):=
  bHn i (T:=(t:Int)) (by omega) h.bx.kok (show 0<=aD w.aAE.Log/\aD w.aAE.Log<=1000000 by omega) (show-1<=v/\v<1000000 by omega) (j.bun.merge h.bun)
 have f:dK w.aAE (gI K (aD w.aAE.Log) (v+1) ⟨bG (aH w d).aAC.Entries b.Entries⟩)=({w.aAE with History:=w.aAE.History++[gI K (aD w.aAE.Log) (v+1) ⟨bG (aH w d).aAC.Entries b.Entries⟩]},true):=by
  refine bCe rfl ?_ λl hl=> ?_
  ·rw[h.hist];simp;omega
  ·rw[h.hist,List.getLast?_append] at hl
   grind[decide_eq_true,decide,aD,qX,gI]
 unfold iK upF;rw[c,n];rw[show(aR w d 0).1.aAE=w.aAE by rw[hs]];rw[f,hs];show(bif (0:Int)==0&&(bif true&&true then _ else _:AA×Bool).2 then _ else _)=_;simp only[d8,ae,eV,et];rfl
def Net.aCV (h:Net S t m w K v r b){d:Int}(hd:bF w d=false):iK w d=(w,false):=by unfold iK;rw[h.aCJ hd 0];rfl
def Net.aBK (h:Net S t m w K v r b)(i:KeyS S)(ht:t<=900000)(hr:r.length<=58){d:Int}(hd:bF w d=true):
  Net S (t+1) m (VK.aBK w K v b d) K (v+1) (r++[gI K (aD w.aAE.Log) v b]) ⟨bG (aH w d).aAC.Entries b.Entries⟩:=by
 have c:aL w d=true:=by grind[bF]
 obtain⟨hl,e⟩:=iZ c;have a:=h.wi.push d;rw[h.aBJ i ht hr hd] at a;have hv:=h.ver;have hlen:(VK.aBK w K v b d).Devices.length=w.Devices.length:=aw ..;have f:=h.dev _ hl;rw[<-e] at f;refine⟨a,h.bx,h.devs,h.rem,?_,λs hs=> ?_,(f.bun.merge h.bun).mono (by omega),by omega,λk hk=> ?_⟩
 ·show w.aAE.History++[_]=_;rw[h.hist];rfl
 ·rcases ca.1 hs with hs|hs
  ·exact(h.old s hs).mono (by omega) (by omega)
  ·rw[cp.1 hs];exact h.last.mono (by omega) (by omega)
 ·have:∀k (hk:k<(w.Devices.set d.toNat (aO3 w K v b (aH w d))).length),Dv S ((t+1:Nat):Int) w.aAE.Log K (aD w.aAE.Log) (v+1) (w.Devices.set d.toNat (aO3 w K v b (aH w d)))[k]:=λk hk=>by
   rw[eL];rw[aw] at hk;split
   ·exact⟨⟨[],by show w.aAE.Log=w.aAE.Log++[];simp⟩, .inr ⟨rfl,cL _⟩,λ_=>rfl,(f.bun.merge h.bun).mono (by omega)⟩
   ·exact(h.dev k hk).mono (by omega) (by omega)
  exact this k hk
def Net.aDP (h:Net S t m w K v r b)(l:KeyS S)(ht:t<=900000)(d:Int){n:ByteArray}{a:Int}(hk:(bD n,a)∈S)(f:Bool):Net S (t+1) m (sW w d n a f).1 K v r b:=by
 have j:=h.wi.aDP d n a f;unfold sW at j ⊢;cases hb:aP w&&aL w d with
 |false=>exact h.mono (by omega)
 |true=>
  rw[hb] at j;rw[ab] at hb;obtain⟨hd,e⟩:=iZ hb.2;have i:=h.dev _ hd;rw[<-e] at i;have c:=aKs l (by omega) i.bun hk f;cases hc:(dJ (aH w d) n a f).2 with
  |false=>exact h.mono (by omega)
  |true=>rw[hc] at j;have k:=h.mono (u:=t+1) (by omega);exact k.upd rfl rfl (aw ..) j (k.set hd ⟨by rw[c.log];exact i.pre,by rw[c.ep,c.ver];exact i.at_,by rw[c.ep,c.key];exact i.key,c.bun.mono (by omega)⟩)
end
end Go.VK
set_option maxRecDepth 100000
namespace Go.VK
open D
def aUr {l:List AF}{e:AF}(h:aT (l++[e])=true):lT l e=true/\(l=[]\/aT l=true)/\l.length<40:=by
 unfold aT at h;rw[ab,bq] at h;have hr:=gQ h.1;have hlen:(l++[e]).length=l.length+1:=by simp
 rw[hlen] at hr;have h1:=aAr h.2 l.length (by simp)
 grind[List.length_pos_iff,aT,kF,Bool.not_eq_true',Pn,aAr,List.getElem_append_left]
def aFk {α:Type}{P:List α->Prop}(h0:P [])(hs:∀l a,P l->P (l++[a])):∀(n:Nat) (l:List α),l.length=n->P l
 |0,l,h=>by rw[gz.1 h];exact h0
 |n+1,l,h=>by
  have c:l≠[]:=by rintro rfl;simp at h
  rw[<-List.dropLast_concat_getLast c];exact hs _ _ (aFk h0 hs n _ (by rw[List.length_dropLast];omega))
def cAx (l:List AF):(aC l).Nodup:=
 aFk (P:=λl=>(aC l).Nodup) gn (by grind[Vm,aT5]) l.length l rfl
def bHo (l:List AF):l.length<=1000->0<=aD l/\aD l<=(l.length:Int):=
 aFk (P:=λl=>l.length<=1000->0<=aD l/\aD l<=(l.length:Int)) (λ_=>⟨cL 0,cL 0⟩) (by grind[List.length_append,Pp,aK]) l.length l rfl
theorem bTu (l:List AF)(e:AF)(h:l.length<=999)(hk:e.Kind=2):aD (l++[e])=aD l+1:=by have:=bHo l (by omega);rw[Pp,hk,show((2:Int)==2)=true from rfl,ae,aK (by omega) (by omega)]
def bWu {l:List AF}:(l=[]\/aT l=true)->∀p,dZ l p=true->p∉aC l:=
 aFk (P:=λl=>(l=[]\/aT l=true)->∀p,dZ l p=true->p∉aC l) (by simp[dZ]) (λl e a h p hp=>by
  have hl:aT (l++[e])=true:=h.resolve_left (by simp);obtain⟨h1,h2,_⟩:=aUr hl;rw[Ba,co] at hp
  grind[aC,bne_self_eq_false,Bool.not_eq_true',Bool.false_eq_true,List.mem_singleton,kK,lT,Vm]) l.length l rfl
theorem cAy {log:List AF}{key eph:Int}(hl:aT log=true)(hk:bL key=true)(hp:∀p∈aC log,bL p=true)(d:(aC log).length<=1000)(h:1<=eph/\eph<=1000000):(bI log key eph).2=true/\BoxIn log (bI log key eph).1 key:=by
 obtain⟨i,j,e,l⟩:=aKp hl hk hp d h;have f:log.length<=40:=by unfold aT at hl;rw[ab] at hl;have:=gQ hl.1;omega
 refine⟨i,j,e,cAx log,hk,λk a=> ?_,by have:=bHo log (by omega);omega⟩;have n:(bI log key eph).1.Boxes.length=(aC log).length:=by have:=congrArg List.length e;rwa [bg] at this
 have c:k<(aC log).length:=by omega
 have o:(aC log).length<=1000:=d;have hb:=l k a c;refine⟨eph+(k:Int),kF (by omega) (by omega),?_⟩
 grind
theorem bTv (l:List AF):(aC l).length<=l.length:=iB l
def bTw {log:List AF}{k d:Int}{s:AK}(h:(eG log k d s).2=true):eG log k d s=(log++[Kg log k d s],true)/\aT (log++[Kg log k d s])=true:=by
 grind[decide,aT,Kg,Bool.or_eq_false_iff,Bool.not_eq_false',eG]
theorem bTx {log:List AF}{key e:Int}(h:(bI log key e).2=true):bL key=true:=by
 grind[aT,bL,gY,jM,aD,aC,Bool.or_eq_false_iff,Bool.not_eq_false',bI]
def bWv {c:AO}{log:List AF}{e:AM}(h:(nM c log e).2=true):nM c log e=({c with Log:=log,Boxes:=e},true):=by
 grind[aT,cZ,iY,nM]
def bM1 {w:AA}{b k p:Int}{key:List AF->Int}{l:List AF}(hl:l=w.aAE.Log++[Kg w.aAE.Log k p (aH w b).Store])(h:(jV w b k p key).2=true):
  ∃bx,jV w b k p key=({w with aAE:={w.aAE with Log:=l,Boxes:=bx}},true)/\aT l=true/\bL (key l)=true/\((∀q∈aC l,bL q=true)->BoxIn l bx (key l))/\(eG w.aAE.Log k p (aH w b).Store).1=l:=by
 have h0:(eG w.aAE.Log k p (aH w b).Store).2=true/\(bI (eG w.aAE.Log k p (aH w b).Store).1 (key (eG w.aAE.Log k p (aH w b).Store).1) (IntKind.i64.wrap (1000+IntKind.i64.wrap (10*((eG w.aAE.Log k p (aH w b).Store).1.length:Int))))).2=true/\(nM w.aAE (eG w.aAE.Log k p (aH w b).Store).1 (bI (eG w.aAE.Log k p (aH w b).Store).1 (key (eG w.aAE.Log k p (aH w b).Store).1) (IntKind.i64.wrap (1000+IntKind.i64.wrap (10*((eG w.aAE.Log k p (aH w b).Store).1.length:Int))))).1).2=true:=by
  grind[eG,aH,bI,nM,jV]
 obtain⟨h1,h2,a⟩:=h0;obtain⟨c,d⟩:=bTw h1;rw[c,<-hl] at h2 a;rw[<-hl] at c d;have e:=bWv a;have hlen:l.length<=40:=by have:=d;unfold aT at this;rw[ab] at this;have:=gQ this.1;omega
 grind[jV,aK,cAy,bTx,bTv,bI]
end Go.VK
set_option maxRecDepth 100000
namespace Go.VK
open D
structure KeyD (S:List (Int×Int)):Prop where
 ks:KeyS S
 dv:∀q:Nat,q<6->(bD (aA 0),(q:Int))∈S/\(bD (aA 1),(q:Int))∈S
section
variable {S:List (Int×Int)} {t m:Nat} {w:AA} {K v:Int} {r:List AJ} {b:AB}
def Net.keys (h:Net S t m w K v r b):∀q∈aC w.aAE.Log,bL q=true:=λq hq=>by
 obtain⟨k,_,rfl⟩:=h.devs q hq;exact aFg _ _
theorem iE {w:AA}{c:Int}(h:bF w c=true):aL w c=true:=by
 grind[bF]
theorem Net.inl (h:Net S t m w K v r b){c:Int}(hc:((aR w c 0).2==0)=true):bF w c=true:=by
 cases hl:bF w c with
 |true=>rfl
 |false=>rw[h.aCJ hl 0] at hc;cases hc
def wR (w:AA)(c:Int):List AF:=w.aAE.Log++[Kg w.aAE.Log 1 (nC w.Seed w.Devices.length) (aH w c).Store]
def bD4 {w:AA}{c:Int}(hl:aT (wR w c)=true):
  aC (wR w c)=aC w.aAE.Log++[nC w.Seed w.Devices.length]/\(∀p,dZ (wR w c) p=dZ w.aAE.Log p)/\aD (wR w c)=aD w.aAE.Log:=by
 obtain⟨h1,_,_⟩:=aUr hl;have hk:(Kg w.aAE.Log 1 (nC w.Seed w.Devices.length) (aH w c).Store).Kind=1:=rfl;have hd:(Kg w.aAE.Log 1 (nC w.Seed w.Devices.length) (aH w c).Store).Device=nC w.Seed w.Devices.length:=rfl
 grind[wR,Pp,Ba,Vm,kK,aC,nC,lY,iQ,Bool.not_eq_true',lT]
theorem Net.aAV (h:Net S t w.Devices.length w K v r b)(o:KeyD S)(ht:t<=900000){c:Int}(h0:((aR w c 0).2==0)=true)(h1:(add1 w c).2=true)(hn:w.Devices.length<6):
  Net S (t+2) (w.Devices.length+1) (VK.aAV w c) K v r b/\(VK.aAV w c).Devices=w.Devices.set c.toNat (nA (oG w K v b (aH w c)) (w.Devices.length:Int) false)/\(VK.aAV w c).aAE.Log=wR w c/\(VK.aAV w c).Seed=w.Seed:=by
 have f:=h.inl h0;have a:=iE f;obtain⟨hl,e⟩:=iZ a;have hs:=h.aBX o.ks ht f;have A:=h.dev _ hl;rw[<-e] at A;have i:aH (aR w c 0).1 c=oG w K v b (aH w c):=by
  grind[List.getD,List.getElem?_set_self,default,aH,hs]
 obtain⟨bx,x,F,J,u,_⟩:=bM1 (w:=(aR w c 0).1) (b:=c) (k:=1) (p:=aS (aQ w.Seed (w.Devices.length:Int))) (key:=λ_=>(aH (aR w c 0).1 c).Key) (l:=wR w c) (by rw[i,hs];rfl) h1;obtain⟨D,G,y⟩:=bD4 F;have x:add1 w c=({(aR w c 0).1 with aAE:={(aR w c 0).1.aAE with Log:=wR w c,Boxes:=bx}},true):=x;have u:(∀q∈aC (wR w c),bL q=true)->BoxIn (wR w c) bx (aH (aR w c 0).1 c).Key:=u;rw[i] at u;have j:=u λq hq=>by
  rw[D] at hq;rcases ca.1 hq with hq|hq
  ·exact h.keys q hq
  grind[List.mem_singleton,aFg]
 have H:(VK.aAV w c).Devices=w.Devices.set c.toNat (nA (oG w K v b (aH w c)) (w.Devices.length:Int) false):=by
  show(add1 w c).1.Devices.set c.toNat (nA (aH (add1 w c).1 c) (w.Devices.length:Int) false)=_
  grind[List.set_set,hs,aR,aH,add1,oG]
 have d:(VK.aAV w c).aAE={w.aAE with Log:=wR w c,Boxes:=bx}:=by show(add1 w c).1.aAE=_;rw[x];show({(aR w c 0).1.aAE with Log:=wR w c,Boxes:=bx}:AO)=_;rw[hs]
 obtain⟨I,z,L⟩:=h.wi.aCY hn a;have n:ChgIn S ((t:Int)+2) (oG w K v b (aH w c)) (nA (oG w K v b (aH w c)) (w.Devices.length:Int) false):=bTt o.ks (by omega) (A.bun.merge h.bun) (o.dv _ hn).1 (o.dv _ hn).2 false;have hv:=h.ver;refine⟨⟨I,by rw[d];exact j,λp hp=> ?_,λp hp=> ?_,?_,λs hs=> ?_,h.bun.mono (by omega),by omega,?_⟩,H,by rw[d],z⟩
 ·rw[d] at hp;rw[z];have hp:p∈aC (wR w c):=hp;rw[D] at hp;rcases ca.1 hp with hp|hp
  ·obtain⟨k,hk,e⟩:=h.devs p hp;grind
  grind
 ·rw[d] at hp;rw[z];have hp:dZ (wR w c) p=true:=hp;rw[G] at hp;obtain⟨k,hk,e⟩:=h.rem p hp;grind
 ·rw[d];show w.aAE.History=r++[gI K (aD (wR w c)) v b];rw[y];exact h.hist
 ·rw[d];show Hs S _ K (aD (wR w c)) v s;rw[y];exact(h.old s hs).mono (by omega) (cL _)
 ·rw[d];show ∀k (hk:k<(VK.aAV w c).Devices.length),Dv S _ (wR w c) K (aD (wR w c)) v (VK.aAV w c).Devices[k];rw[y];have:∀k (hk:k<(w.Devices.set c.toNat (nA (oG w K v b (aH w c)) (w.Devices.length:Int) false)).length),Dv S ((t+2:Nat):Int) (wR w c) K (aD w.aAE.Log) v (w.Devices.set c.toNat (nA (oG w K v b (aH w c)) (w.Devices.length:Int) false))[k]:=λk hk=>by
   rw[eL];rw[aw] at hk;split
   ·refine⟨⟨[Kg w.aAE.Log 1 (nC w.Seed w.Devices.length) (aH w c).Store],?_⟩, .inr ⟨?_,?_⟩,λ_=> ?_,n.bun.mono (by omega)⟩
    ·rw[n.log];rfl
    ·rw[n.ep];rfl
    ·rw[n.ver];exact cL _
    ·rw[n.key];rfl
   ·have q:=(h.dev k hk).mono (U:=((t+2:Nat):Int)) (by omega) (cL v);obtain⟨r',hr⟩:=q.pre;exact⟨⟨r'++[Kg w.aAE.Log 1 (nC w.Seed w.Devices.length) (aH w c).Store],by unfold wR;rw[<-ck,<-hr]⟩,q.at_,q.key,q.bun⟩
  simp_all
def cAz (U:AA)(K v:Int)(B:AB)(n:Nat):AD:=⟨aQ U.Seed (n:Int),U.aAE.Log,K,aD U.aAE.Log,v,⟨bG [] B.Entries⟩⟩
def bPs (U:AA)(K v:Int)(B:AB):AA:={U with Devices:=U.Devices++[cAz U K v B U.Devices.length],Stolen:=U.Stolen++[false]}
def Net.app (h:Net S t (w.Devices.length+1) w K v r b)(o:KeyS S)(ht:t<=900000)(hn:w.Devices.length<6)(i:nC w.Seed w.Devices.length∈aC w.aAE.Log):
  aR (appW w (bH (aQ w.Seed (w.Devices.length:Int)))) (w.Devices.length:Int) 0=(bPs w K v b,0)/\Net S t (w.Devices.length+1) (bPs w K v b) K v r b:=by
 have hv:=h.ver;have p:=h.bx.eps;have a:=h.wi.app hn;have hs:=h.aBS o ht (d:=bH (aQ w.Seed (w.Devices.length:Int))) ⟨w.aAE.Log,rfl⟩ (by
  show(0:Int)<_\/((0:Int)=_/\(0:Int)<=v);omega) (BunIn.nil S _) i
 have c:aL (appW w (bH (aQ w.Seed (w.Devices.length:Int)))) (w.Devices.length:Int)=true:=by
  grind[aL,appW]
 have j:aH (appW w (bH (aQ w.Seed (w.Devices.length:Int)))) (w.Devices.length:Int)=bH (aQ w.Seed (w.Devices.length:Int)):=by simp[aH,appW]
 have e:∀x,(w.Devices++[bH (aQ w.Seed (w.Devices.length:Int))]).set w.Devices.length x=w.Devices++[x]:=(by simp);have he:aR (appW w (bH (aQ w.Seed (w.Devices.length:Int)))) (w.Devices.length:Int) 0=(bPs w K v b,0):=by unfold aR;rw[a.ok,c,j];show(({appW w (bH (aQ w.Seed (w.Devices.length:Int))) with Devices:=(w.Devices++[bH (aQ w.Seed (w.Devices.length:Int))]).set ((w.Devices.length:Int)).toNat (cK (bH (aQ w.Seed (w.Devices.length:Int))) w.aAE.Log w.aAE.Boxes (gB w.aAE 0).1).1}:AA),(cK (bH (aQ w.Seed (w.Devices.length:Int))) w.aAE.Log w.aAE.Boxes (gB w.aAE 0).1).2)=_;rw[hs,bn,e];rfl
 have f:=a.sync (w.Devices.length:Int) 0;rw[he] at f;refine⟨he,⟨f,h.bx,h.devs,h.rem,h.hist,h.old,h.bun,h.ver,λk hk=> ?_⟩⟩;have l:k<(w.Devices++[cAz w K v b w.Devices.length]).length:=hk;show Dv S _ w.aAE.Log K (aD w.aAE.Log) v ((w.Devices++[cAz w K v b w.Devices.length])[k]'l);rw[List.getElem_append];split
 ·rename_i n;exact h.dev k n
 ·rw[List.getElem_singleton];exact⟨⟨[],by show w.aAE.Log=w.aAE.Log++[];simp⟩, .inr ⟨rfl,cL _⟩,λ_=>rfl,(BunIn.nil S _).merge h.bun⟩
def Net.tell (h:Net S t m w K v r b)(k:Int):Net S t m (rH w k) K v r b:=h.upd rfl rfl rfl (h.wi.tell k) h.dev
def Vq (w:AA)(K v:Int)(b:AB)(c:Int):AA:=VK.aBK (VK.aAV w c) K v b c
def bKa (w:AA)(K v:Int)(b:AB)(c:Int):AB:=⟨bG (nA (oG w K v b (aH w c)) (w.Devices.length:Int) false).aAC.Entries b.Entries⟩
theorem Net.add (h:Net S t w.Devices.length w K v r b)(p:KeyD S)(ht:t<=800000)(hr:r.length<=58){c:Int}(d:Cb w c=true):
  Net S (t+3) (w.Devices.length+1) (Vq w K v b c) K (v+1) (r++[gI K (aD w.aAE.Log) v b]) (bKa w K v b c)/\(Vq w K v b c).Devices.length=w.Devices.length/\(Vq w K v b c).Seed=w.Seed/\
  Net S (t+3) (w.Devices.length+1) (fI w c).1 K (v+1) (r++[gI K (aD w.aAE.Log) v b]) (bKa w K v b c)/\(fI w c).1=rH (bPs (Vq w K v b c) K (v+1) (bKa w K v b c)) 2/\(Vq w K v b c).aAE.Log=wR w c/\bF w c=true/\
  (Vq w K v b c).Devices=w.Devices.set c.toNat (aO3 (VK.aAV w c) K v b (nA (oG w K v b (aH w c)) (w.Devices.length:Int) false)):=by
 have j:=d;unfold Cb at d;simp only[ab,bq,cz] at d;obtain⟨⟨k1,k2,k3,k4⟩,k5,k6,k7,k8,k9⟩:=d;have hn:w.Devices.length<6:=by omega
 obtain⟨n1,n2,n3,n4⟩:=h.aAV p (by omega) k5 k6 hn;have a:=h.inl k5;obtain⟨hl,e⟩:=iZ (iE a);have n5:(VK.aAV w c).Devices.length=w.Devices.length:=by rw[n2,aw]
 have q:c.toNat<(VK.aAV w c).Devices.length:=by omega
 have k:aT (wR w c)=true:=by rw[<-n3];exact n1.wi.log
 obtain⟨s,y,u⟩:=bD4 k;have i:aL (VK.aAV w c) c=true:=yU (iE a) n5;have f:bF (VK.aAV w c) c=true:=by rw[n1.aDQ i,n3,n4,s,lY];rw[h.aDQ (iE a),lY] at a;simp[*]
 have l:aH (VK.aAV w c) c=nA (oG w K v b (aH w c)) (w.Devices.length:Int) false:=by
  grind[n2,List.getD,List.getElem?_set_self,aH]
 have hp:=n1.aBJ p.ks (by omega) hr f;have n:=n1.aBK p.ks (by omega) hr f;rw[l,n3,u] at n;have z:rJ w c=(Vq w K v b c,true):=hp;have u1:(Vq w K v b c).Devices.length=w.Devices.length:=by show((VK.aAV w c).Devices.set _ _).length=_;rw[aw,n5]
 have u2:(Vq w K v b c).Seed=w.Seed:=n4;have u3:(Vq w K v b c).aAE.Log=wR w c:=n3;have u4:(Vq w K v b c).Devices=w.Devices.set c.toNat (aO3 (VK.aAV w c) K v b (nA (oG w K v b (aH w c)) (w.Devices.length:Int) false)):=by show(VK.aAV w c).Devices.set c.toNat (aO3 (VK.aAV w c) K v b (aH (VK.aAV w c) c))=_;rw[l,n2,et]
 have n:Net S (t+3) (w.Devices.length+1) (Vq w K v b c) K (v+1) (r++[gI K (aD w.aAE.Log) v b]) (bKa w K v b c):=n;have o:=n;rw[<-u1] at o;obtain⟨s1,s2⟩:=o.app p.ks (by omega) (by omega) (by simp[*]);have x:Ey w c=(bPs (Vq w K v b c) K (v+1) (bKa w K v b c),0):=by
  grind[s1,u2,u1,Ey]
 have eA:(fI w c).1=rH (bPs (Vq w K v b c) K (v+1) (bKa w K v b c)) 2:=by unfold fI;rw[j,ae,x]
 rw[u1] at s2;exact⟨n,u1,u2,by rw[eA];exact s2.tell 2,eA,u3,a,u4⟩
end
end Go.VK
set_option maxRecDepth 100000
namespace Go.VK
open D
def nS (w:AA)(c x:Int):List AF:=w.aAE.Log++[Kg w.aAE.Log 2 (aS (aH w x).Store) (aH w c).Store]
def aKt (w:AA)(c x:Int):Int:=nN (aH w c).Store (nS w c x)
def bM2 {w:AA}{c x:Int}(hl:aT (nS w c x)=true):
  aC (nS w c x)=(aC w.aAE.Log).filter (λd=>d !=aS (aH w x).Store)/\(∀p,dZ (nS w c x) p=(dZ w.aAE.Log p||aS (aH w x).Store==p))/\aD (nS w c x)=aD w.aAE.Log+1:=by
 obtain⟨_,_,h1⟩:=aUr hl;have hk:(Kg w.aAE.Log 2 (aS (aH w x).Store) (aH w c).Store).Kind=2:=rfl;have hd:(Kg w.aAE.Log 2 (aS (aH w x).Store) (aH w c).Store).Device=aS (aH w x).Store:=rfl;refine⟨?_,λp=> ?_,?_⟩
 all_goals grind[nS,bTu,Ba,Vm,kK]
def bWw {d:AD}{log:List AF}{key:Int}(h:(lH d log key).2=true):(lH d log key).1={d with Log:=log,Key:=key,Epoch:=aD log,Version:=0}:=by
 grind[aT,cZ,decide,aD,bL,lH]
section
variable {S:List (Int×Int)} {t m:Nat} {w:AA} {K v:Int} {r:List AJ} {b:AB}
def Jk (w:AA)(K v:Int)(b:AB)(c x:Int):AD:=nA {oG w K v b (aH w c) with Log:=nS w c x,Key:=aKt w c x,Epoch:=aD (nS w c x),Version:=0} x true
def bPt (w:AA)(K v:Int)(b:AB)(bx:AM)(c x:Int):AA:=
 {w with Devices:=w.Devices.set c.toNat {Jk w K v b c x with Version:=1},Sites:=w.Sites.map (gM x),aAE:=⟨nS w c x,bx,w.aAE.History++[gI (aKt w c x) (aD (nS w c x)) 1 (Jk w K v b c x).aAC]⟩}
theorem bTy {w:AA}{c x:Int}(h:(eY w c x).2=false):eY w c x=(w,false):=by
 grind[aR,bZ,bF,oV,mR,Ph,Kh,eY]
def bM3 {w:AA}{c x:Int}(h:(eY w c x).2=true):((aR w c 0).2==0)=true/\bZ w c=false/\(c==x)=false/\bF w x=true/\(mR w c x).2=true/\(Ph w c x).2=true/\(Kh w c x).2=true/\eY w c x=(rH (Kh w c x).1 4,true):=by
 unfold eY at h ⊢
 grind[aR,bZ,bF,oV,mR,Ph,Kh,Bool.not_eq_true']
def Net.cutAt (h:Net S t m w K v r b)(d:KeyD S)(ht:t<=900000){c:Int}(a:bF w c=true):aR w c 0=({w with Devices:=w.Devices.set c.toNat (oG w K v b (aH w c))},0)/\aH (kY w c) c=oG w K v b (aH w c):=by
 have hs:=h.aBX d.ks ht a
 grind[List.getD,List.getElem?_set_self,default,aH,hs,kY,iZ,iE]
def Net.aEB (h:Net S t m w K v r b)(d:KeyD S){T:Int}(l:0<=T/\T<=900000)(ht:(t:Int)<=T){c x:Int}(a:bF w c=true)(f:bF w x=true):
  ChgIn S (T+2) {oG w K v b (aH w c) with Log:=nS w c x,Key:=aKt w c x,Epoch:=aD (nS w c x),Version:=0} (Jk w K v b c x):=by
 obtain⟨hl,e⟩:=iZ (iE a);obtain⟨j,n⟩:=iZ (iE f);have i:=h.dev _ hl;rw[<-e] at i;obtain⟨k,_,_⟩:=qA (iE f);have hd:=h.wi.dlen;have hk:=d.dv x.toNat (by omega);rw[fv k] at hk;exact bTt d.ks (by omega) ((i.bun.merge h.bun).mono (by omega)) hk.1 hk.2 true
def Net.aEA (h:Net S t m w K v r b)(y:KeyD S)(ht:t<=800000)(hr:r.length<=58){c x:Int}(j:bF w c=true)(k2:bZ w c=false)(k3:(c==x)=false)(k4:bF w x=true)(k5:(mR w c x).2=true)(k6:(Ph w c x).2=true):
  ∃bx,eY w c x=(rH (bPt w K v b bx c x) 4,true)/\Net S (t+3) m (rH (bPt w K v b bx c x) 4) (aKt w c x) 1 (r++[gI K (aD w.aAE.Log) v b]) (Jk w K v b c x).aAC:=by
 obtain⟨hl,e⟩:=iZ (iE j);obtain⟨z,J⟩:=iZ (iE k4);obtain⟨hs,n⟩:=h.cutAt y (by omega) j;have o:kY w c={w with Devices:=w.Devices.set c.toNat (oG w K v b (aH w c))}:=by unfold kY;rw[hs]
 obtain⟨bx,A,L,Z,M,N⟩:=bM1 (w:=kY w c) (b:=c) (k:=2) (p:=aS (aH w x).Store) (key:=nN (aH (kY w c) c).Store) (l:=nS w c x) (by rw[n,o];rfl) k5;obtain⟨g1,O,g3⟩:=bM2 L;have i:∀q∈aC (nS w c x),q∈aC w.aAE.Log:=(by simp_all);have f:BoxIn (nS w c x) bx (aKt w c x):=by have:=M λq hq=>h.keys q (i q hq);rw[n] at this;exact this
 have D:aKf w c x=nS w c x:=N;have h2:(Ph w c x).1={oG w K v b (aH w c) with Log:=nS w c x,Key:=aKt w c x,Epoch:=aD (nS w c x),Version:=0}:=by have:=bWw k6;unfold Ph;rw[this,D,n];rfl
 have a:=h.aEB y (T:=(t:Int)) (by omega) (cL _) j k4;have Q:=f.eps;have hv:=h.ver;have R:dV (Jk w K v b c x)=({Jk w K v b c x with Version:=1},gI (aKt w c x) (aD (nS w c x)) 1 (Jk w K v b c x).aAC,true):=by
  have:=bHn (d:=Jk w K v b c x) y.ks (T:=(t:Int)+2) (by omega) (by rw[a.key];exact f.kok) (by rw[a.ep];grind) (by rw[a.ver];simp) a.bun;have V:(Jk w K v b c x).Key=aKt w c x:=a.key;have W:(Jk w K v b c x).Epoch=aD (nS w c x):=a.ep;have f3:(Jk w K v b c x).Version+1=1:=by rw[show(Jk w K v b c x).Version=0 from a.ver];rfl
  refine this.trans ?_;rw[f3,<-V,<-W]
 have F:dK {w.aAE with Log:=nS w c x,Boxes:=bx} (gI (aKt w c x) (aD (nS w c x)) 1 (Jk w K v b c x).aAC)=({w.aAE with Log:=nS w c x,Boxes:=bx,History:=w.aAE.History++[gI (aKt w c x) (aD (nS w c x)) 1 (Jk w K v b c x).aAC]},true):=by
  refine bCe rfl ?_ λl hl=> ?_
  ·show w.aAE.History.length<60;rw[h.hist];simp;omega
  ·have hl:w.aAE.History.getLast? =some l:=hl;rw[h.hist,List.getLast?_append] at hl
   grind[decide_eq_true,decide,aD,nS,qX,gI]
 have G:aAm w c x={w with Devices:=w.Devices.set c.toNat (Jk w K v b c x),Sites:=w.Sites.map (gM x),aAE:={w.aAE with Log:=nS w c x,Boxes:=bx}}:=by unfold aAm;rw[h2];have A:mR w c x=({kY w c with aAE:={(kY w c).aAE with Log:=nS w c x,Boxes:=bx}},true):=A;rw[A,o];show(AA.mk _ _ ((w.Devices.set c.toNat _).set c.toNat _) _ _ _ _ _ _ _)=_;rw[et];rfl
 have h3:Kh w c x=(bPt w K v b bx c x,true):=by
  unfold Kh upF;have:aH (aAm w c x) c=Jk w K v b c x:=by
   grind[List.getD,List.getElem?_set_self,default,aH]
  rw[this,R,G];show(bif true&&(dK {w.aAE with Log:=nS w c x,Boxes:=bx} _).2 then(({w with Devices:=(w.Devices.set c.toNat _).set c.toNat _,Sites:=_,aAE:=(dK {w.aAE with Log:=nS w c x,Boxes:=bx} _).1}:AA),true) else _)=_;rw[F,et];rfl
 have I:eY w c x=(rH (bPt w K v b bx c x) 4,true):=by
  grind[aR,hs,k2,k3,k4,k5,k6,eY,oV]
 have u:=(h.wi.cut c x).1;rw[I] at u;refine⟨bx,I,u,f,λp hp=>h.devs p (i p hp),λp hp=> ?_,?_,λs hs=> ?_,a.bun.mono (by omega),by omega,?_⟩
 ·have hp:dZ (nS w c x) p=true:=hp;rw[O,co] at hp;rcases hp with hp|hp
  ·exact h.rem p hp
  ·rw[<-eq_of_beq hp];have:=(h.aDQ (iE k4)).symm.trans k4;rw[lY] at this;rw[J,h.pub z];exact h.devs _ this
 ·show w.aAE.History++[_]=_;rw[h.hist];rfl
 ·have X:s.Epoch<=aD w.aAE.Log:=by
   rcases ca.1 hs with hs|hs
   ·exact(h.old s hs).low
   ·rw[cp.1 hs];exact cL _
  refine⟨?_,λhe=> ?_⟩
  ·show s.Epoch<=aD (nS w c x);omega
  ·have he:s.Epoch=aD (nS w c x):=he;omega
 ·have:∀k (hk:k<(w.Devices.set c.toNat {Jk w K v b c x with Version:=1}).length),Dv S ((t+3:Nat):Int) (nS w c x) (aKt w c x) (aD (nS w c x)) 1 (w.Devices.set c.toNat {Jk w K v b c x with Version:=1})[k]:=λk hk=>by
   rw[eL];rw[aw] at hk;split
   ·exact⟨⟨[],by show nS w c x=(Jk w K v b c x).Log++[];rw[a.log];simp⟩, .inr ⟨a.ep,cL 1⟩,λ_=>a.key,a.bun.mono (by omega)⟩
   ·have q:=h.dev k hk;obtain⟨r',hr⟩:=q.pre;have H:w.Devices[k].Epoch<aD (nS w c x):=by rcases q.at_ with q|q<;>omega
    exact⟨⟨r'++[Kg w.aAE.Log 2 (aS (aH w x).Store) (aH w c).Store],by unfold nS;rw[<-ck,<-hr]⟩, .inl H,λhe=>by omega,q.bun.mono (by omega)⟩
  exact this
theorem Net.cut (h:Net S t m w K v r b)(d:KeyD S)(ht:t<=800000)(hr:r.length<=58){c x:Int}(a:(eY w c x).2=true):
  ∃bx,eY w c x=(rH (bPt w K v b bx c x) 4,true)/\Net S (t+3) m (rH (bPt w K v b bx c x) 4) (aKt w c x) 1 (r++[gI K (aD w.aAE.Log) v b]) (Jk w K v b c x).aAC:=by
 obtain⟨k1,k2,k3,k4,k5,k6,k7,k8⟩:=bM3 a;exact h.aEA d ht hr (h.inl k1) k2 k3 k4 k5 k6
end
end Go.VK
set_option maxRecDepth 100000
namespace Go.VK
open D
def Gc (w:AA)(d j:Int)(o:AP):((gN w d j o).1=w/\(gN w d j o).2.2=1)\/(dL w d j=true/\(aAY w j).2.2.2=true/\(gN w d j o).1=aPn w d j o/\(gN w d j o).2.2=2/\((vF w d j o).2.1==0)=false)\/
  (dL w d j=true/\(aAY w j).2.2.2=true/\(gN w d j o).1=rH (aPn w d j o) 1/\(gN w d j o).2.2=0/\((vF w d j o).2.1==0)=true):=by
 grind[dL,aAY,vF,gN]
def tJ {w:AA}{d j:Int}(h:dL w d j=true):aP w=true/\aL w d=true/\fA w j=true:=by
 grind[dL]
section
variable {S:List (Int×Int)} {t m:Nat} {w:AA} {K v:Int} {r:List AJ} {b:AB}
def Net.visit (h:Net S t m w K v r b)(d j:Int)(o:AP):Net S t m (gN w d j o).1 K v r b:=by
 have c:=h.wi.visit d j o;have key:∀u,WIn m u->dL w d j=true->u.Seed=w.Seed->u.aAE=w.aAE->u.Devices=(aPn w d j o).Devices->Net S t m u K v r b:=λu i ht k l f=>by
  obtain⟨hl,e⟩:=iZ (tJ ht).2.1;have a:=h.dev _ hl;rw[<-e] at a;refine h.upd k l (by rw[f];exact aw ..) i (by rw[f];exact h.set hl ⟨a.pre,a.at_,a.key,a.bun⟩)
 rcases Gc w d j o with⟨e,_⟩|⟨ht,_,e,_,_⟩|⟨ht,_,e,_,_⟩
 ·simp[*]
 ·rw[e] at c ⊢;exact key _ c ht rfl rfl rfl
 ·rw[e] at c ⊢;exact key _ c ht rfl rfl rfl
def Net.same (h:Net S t m w K v r b){u:AA}(c:WIn m u)(d:u.Seed=w.Seed)(e:u.aAE=w.aAE)(a:u.Devices=w.Devices):Net S t m u K v r b:=
 h.upd d e (by rw[a]) c (by rw[a];exact h.dev)
def Net.aCG (h:Net S t m w K v r b)(d:Int):Net S t m (nP w d).1 K v r b:=by
 have:=(h.wi.aCG d).1;unfold nP at this ⊢;cases hb:dL w d 0&& !bZ w d with
 |false=>exact h
 |true=>rw[hb] at this;exact h.same this rfl rfl rfl
def Net.tick (h:Net S t m w K v r b):Net S t m (tF w).1 K v r b:=by
 have:=h.wi.tick.1;unfold tF at this ⊢;cases hb:aP (tC w) with
 |false=>exact h
 |true=>rw[hb] at this;exact h.same this rfl rfl rfl
def Net.aCW (h:Net S t m w K v r b)(a:List Int)(pin:Int):Net S t m (fG w a pin).1 K v r b:=by
 have:=(h.wi.aCW a pin).1;unfold fG at this ⊢;cases hb:aP w with
 |false=>exact h
 |true=>rw[hb] at this;exact h.same this rfl rfl rfl
def Net.renew (h:Net S t m w K v r b):Net S t m (eF w).1 K v r b:=by
 have:=h.wi.renew.1;unfold eF at this ⊢;cases hb:aP w&&(fD w.Hosts (aE0 w)).2 with
 |false=>exact h
 |true=>rw[hb] at this;exact h.same this rfl rfl rfl
def Net.roll (h:Net S t m w K v r b)(i c:Int):Net S t m (fQ w i c).1 K v r b:=by
 have:=(h.wi.roll i c).1;unfold fQ at this ⊢;cases hb: !aP w||(decide (i<0)||decide (i>=(w.Hosts.length:Int))) with
 |true=>exact h
 |false=>
  rw[hb] at this;cases hc:(gL (w.Hosts.getD i.toNat default) c).2 with
  |false=>exact h
  |true=>simp only[hc,ac,ae] at this ⊢;exact h.same this rfl rfl rfl
end
def U6 (Q:AV->Prop)(s:AC):Prop:=∀a∈s.Accounts,∀c∈a.Credentials,Q c
def bD5 (P:Int->Prop)(s:AC):Prop:=U6 (λc=>P c.Handle->c.Cut=true) s
def aFl (log:List AF)(seed q:Int):Prop:=dZ log (nC seed q.toNat)=true
def xY (w:AA):Prop:=∀s∈w.Sites,bD5 (aFl w.aAE.Log w.Seed) s
def bWx {a:AI}{x:AZ}{z:ByteArray}{q:Int}{d:AV}(h:d∈(iO a x z q).1.Credentials):∃c∈a.Credentials,c.Handle=d.Handle/\(c.Cut=true->d.Cut=true):=by
 unfold iO at h
 grind[bA,decide,aY,gW,id,Bool.or_eq_false_iff,xX,List.getD,List.getElem?_eq_getElem,Int.toNat_natCast,List.mem_or_eq_of_mem_set,List.getElem_mem,iL]
def bD5.finish {P:Int->Prop}{seed j:Int}{n:Nat}{s:AC}(hs:SiteIn seed j n s)(h:bD5 P s)(c t:Int)(x:AZ):bD5 P (lX s 1 c t x).1:=by
 have k:=hs.find;obtain⟨l,e,hl,hn⟩:=hs.acc;have o:gG s 0=⟨1,3,l⟩:=by grind[gG]
 have d:bD5 P {s with Accounts:=s.Accounts.set (0:Int).toNat (iO ⟨1,3,l⟩ x s.Name (fB s.Book c)).1}:=λa f y i hp=>by
  have f:a∈s.Accounts.set (0:Int).toNat (iO ⟨1,3,l⟩ x s.Name (fB s.Book c)).1:=f;rw[e] at f;have f:a=(iO ⟨1,3,l⟩ x s.Name (fB s.Book c)).1:=by simp_all
  subst f;obtain⟨p,q,z,u⟩:=bWx i;exact u (h ⟨1,3,l⟩ (by grind) p q (by simp[*]))
 unfold lX;rw[k];cases !bY s||decide ((0:Int)<0) with
 |true=>exact h
 |false=>
  simp only[ac];cases !(pV s.Book c 1 t).2 with
  |true=>exact h
  |false=>
   simp only[ac];cases !qL (gG s 0) 3 with
   |true=>exact h
   |false=>
    simp only[ac,o];cases !((iO ⟨1,3,l⟩ x s.Name (fB s.Book c)).2==0) with
    |true=>exact d
    |false=>exact d
def bKb (s:AC)(id c t:Int)(x:AZ):(lX s id c t x).1.Logins=bif (lX s id c t x).2.1==0 then s.Logins++[id] else s.Logins:=by
 grind[bY,decide,aI,id,pV,qL,gG,iO,fB,lX]
theorem aAv (s:AC)(i n:Int):(mU s i n).1.Accounts=s.Accounts/\(mU s i n).1.Logins=s.Logins/\(mU s i n).1.Name=s.Name:=by unfold mU;cases bY s&&(!decide (aI s i<0)&&(fK s.Book i n).2.2)<;>exact⟨rfl,rfl,rfl⟩
section
variable {m:Nat} {w:AA}
def Ps (h:WIn m w){j:Int}(a:fA w j=true):∃hl:j.toNat<w.Sites.length,eO w j=w.Sites[j.toNat]/\(j=0\/j=1)/\SiteIn w.Seed j m (eO w j):=by
 simp only[fA,ab,cm] at a;have h2:=h.two;have hl:j.toNat<w.Sites.length:=by omega
 have e:eO w j=w.Sites[j.toNat]:=by unfold eO;rw[List.getD,aa hl,cr]
 refine⟨hl,e,by omega,?_⟩;have:=h.site _ hl
 grind
def xY.visit (h:WIn m w)(hc:xY w)(d j:Int)(o:AP):xY (gN w d j o).1:=by
 have key:dL w d j=true->xY (aPn w d j o):=λht=>by
  obtain⟨hl,e,f,hs⟩:=Ps h (tJ ht).2.2;intro s hm;have hm:s∈w.Sites.set j.toNat (vF w d j o).1:=hm;show bD5 (aFl w.aAE.Log w.Seed) s;rcases en hm with hm|rfl
  ·exact hc s hm
  ·have hb:=hs.begin 1 w.Now;refine bD5.finish hb (λa c=> ?_) _ _ _;have c:a∈(mU (eO w j) 1 w.Now).1.Accounts:=c;rw[(aAv _ _ _).1] at c;exact hc (eO w j) (by simp[*]) a c
 rcases Gc w d j o with⟨e,_⟩|⟨ht,_,e,_,_⟩|⟨ht,_,e,_,_⟩
 ·simp[*]
 ·simp[*]
 ·rw[e];exact key ht
def xY.same (hc:xY w){u:AA}(d:u.Seed=w.Seed)(f:u.aAE.Log=w.aAE.Log)(h:∀s∈u.Sites,∃s'∈w.Sites,s.Accounts=s'.Accounts):xY u:=λs hs=>by
 obtain⟨s',hm,e⟩:=h s hs;rw[d,f];intro a c;rw[e] at c;exact hc s' hm a c
def xY.keep (hc:xY w){u:AA}(a:u.Seed=w.Seed)(c:u.aAE.Log=w.aAE.Log)(d:u.Sites=w.Sites):xY u:=hc.same a c λs hs=>(by grind)
def xY.tick (hc:xY w):xY (tF w).1:=by
 unfold tF;cases aP (tC w) with
 |false=>exact hc
 |true=>
  refine hc.same rfl rfl λs hs=> ?_
  grind
def bM4 {Q:AV->Prop}{s:AC}(h:U6 Q s){id q p:Int}(hq:Q ⟨q,p,0,false⟩):U6 Q (eH s id q p).1:=by
 unfold eH;cases hb: !bY s||decide (aI s id<0) with
 |true=>exact h
 |false=>
  rw[ac];cases h2:(fT (s.Accounts.getD (aI s id).toNat default) q p).2 with
  |false=>exact h
  |true=>
   intro a d c hc;rw[bl] at hb;obtain⟨k,hk,e,j⟩:=xX (l:=s.Accounts) hb.2;have f:aI s id=(k:Int):=e.trans (by simp);have i:s.Accounts.getD (aI s id).toNat default=s.Accounts[k]:=by rw[f,bn,List.getD,aa hk,cr]
   have d:a∈s.Accounts.set (aI s id).toNat (fT (s.Accounts.getD (aI s id).toNat default) q p).1:=d;rcases en d with d|d
   ·exact h a d c hc
   ·rw[i] at d;have hm:c∈s.Accounts[k].Credentials\/c=⟨q,p,0,false⟩:=by
     grind[bA,aE7,F6,List.mem_singleton,List.mem_of_mem_take,List.mem_of_mem_drop,fT]
    rcases hm with hm|rfl
    ·exact h _ (bw hk) c hm
    ·exact hq
def aUs {Q:AV->Prop}{st:AK}{q:Int}(hq:∀p,Q ⟨q,p,0,false⟩):∀{l:List AC} {j:Nat},(∀s∈l,U6 Q s)->∀s∈(gV st q j l).1,U6 Q s
 |[],j,_,s,hs=>by simp[gV] at hs
 |x::l,j,h,s,hs=>by
  unfold gV at hs;cases hb:(eH x 1 q (fF st (aA (j:Int)) q)).2&&(gV st q (j+1) l).2 with
  |false=>rw[hb] at hs;simp at hs
  |true=>
   rw[hb,ae] at hs;rcases ba.1 hs with rfl|hs
   ·exact bM4 (h x (cl ..)) (hq _)
   ·exact aUs hq (λs hs=>h s (cb _ hs)) s hs
def bM5 {seed j:Int}{l:List AV}(h:Kn seed j l){k:Nat}(hk:k<l.length):aY ⟨1,3,l⟩ (k:Int)=(k:Int):=by
 have hd:decide (aY ⟨1,3,l⟩ (k:Int)<0)=false:=by rw[cz];intro hn;have:=Vd (p:=λc:AV=>c.Handle==(k:Int)) hn l[k] (bw hk);rw[(h k hk).1,eV] at this;cases this
 obtain⟨i,hi,a,d⟩:=xX (l:=l) hd;have:=(h i hi).1
 grind[aY]
def bTz {seed j:Int}{n:Nat}{s:AC}(x:j=0\/j=1)(hn:n<=6)(hs:SiteIn seed j n s){k:Nat}(hk:k<n):∃l l',s.Accounts=[⟨1,3,l⟩]/\(gM (k:Int) s).Accounts=[⟨1,3,l'⟩]/\l'.length=l.length/\Kn seed j l/\Kn seed j l'/\
  (∀c∈l',c.Handle=(k:Int)->c.Cut=true)/\(∀i (h1:i<l.length) (h2:i<l'.length),i≠k->l'[i]=l[i])/\(∀d∈l',∃c∈l,c.Handle=d.Handle/\c.Counter=d.Counter/\(c.Cut=true->d.Cut=true))/\(gM (k:Int) s).Logins=s.Logins/\(gM (k:Int) s).Book=s.Book:=by
 have A:=hs.find;obtain⟨l,e,hl,f⟩:=hs.acc;subst f;have D:gG s 0=⟨1,3,l⟩:=by grind[gG]
 have o:=bM5 hl hk;have p:gW ⟨1,3,l⟩ (k:Int)=l[k]:=by grind[List.getD,List.getElem?_eq_getElem,gW]
 have q:=aUf (m:=3) x hl hn (by grind);have y:gM (k:Int) s={s with Accounts:=[(oC ⟨1,3,l⟩ (k:Int)).1]}:=by unfold gM;simp[*]
 have z:∀{l':List AV},Kn seed j l'->∀c∈l',c.Handle=(k:Int)->∃h:k<l'.length,c=l'[k]:=λa c hc F=>by
  obtain⟨i,hi,e⟩:=cI.1 hc;have:=(a i hi).1
  grind
 rw[y];unfold oC;rw[q,o,p,au (show ¬(k:Int)<0 by omega)];cases u:l[k].Cut with
 |true=>
  grind
 |false=>
  have a:Kn seed j (l.set k {l[k] with Cut:=true}):=hl.set hk rfl rfl (hl k hk).2.2
  grind
end
end Go.VK
set_option maxRecDepth 100000
namespace Go.VK
open D
def aPp:List (Int×Int):=[(1941999745,0),(1941999745,1),(1941999745,2),(1941999745,3),(1941999745,4),(1941999745,5),(1464438180,0),(1464438180,1),(1464438180,2),(1464438180,3),(1464438180,4),(1464438180,5)]
def bWy {x:List (Int×Int)}(h:x.length<=8)(a:∀p∈x,(0<=p.1/\p.1<=2147483646)/\(0<=p.2/\p.2<=1000000)):KeyD (aPp++x):=by
 refine⟨⟨by rw[ay];show 12+x.length<=20;omega,λp hp=> ?_⟩,λq hq=> ?_⟩
 ·rcases ca.1 hp with hp|hp
  ·have:∀p∈aPp,(0<=p.1/\p.1<=2147483646)/\(0<=p.2/\p.2<=1000000):=by decide
   simp[*]
  simp[*]
 simp_all[cCo,cCp,aPp,List.mem_append_left];omega
def bT0 {x:List (Int×Int)}{n:Nat}(h:n=1\/n=2\/n=3):BunIn (aPp++x) 3 (nwB n).Entries:=by
 refine⟨(aKa (bJ5 h).1).2,λe he=>List.mem_append_left _ ?_,λe he=> ?_⟩
 ·rcases h with rfl|rfl|rfl<;>revert e<;>decide
 ·rcases h with rfl|rfl|rfl<;>revert e<;>decide
def bWz {x:List (Int×Int)}{n k t pin seed:Int}(h:Kk n k t pin seed=true):Net (aPp++x) 3 (bN n k t pin seed).Devices.length (bN n k t pin seed) (bS seed 0) 1 [] (nwB n.toNat):=by
 obtain⟨a,c,l⟩:=aOx h;have hn:n.toNat=1\/n.toNat=2\/n.toNat=3:=by unfold Kk at h;simp only[ab] at h;have:=gQ h.1;omega
 obtain⟨h1,h2,o,d,q⟩:=tH seed n.toNat (by omega);have f:(bN n k t pin seed).aAE=⟨aV seed n.toNat,jK seed n.toNat,[gI (bS seed 0) 0 1 (nwB n.toNat)]⟩:=by
  grind[bCa,bN]
 have s:(bN n k t pin seed).Devices=(List.range n.toNat).map λk=>Vo seed n.toNat k 1 (nwB n.toNat):=by
  grind[aOz,bN]
 rw[c];refine⟨a,by grind[bHi],λp hp=> ?_,λp hp=> ?_,?_,(by simp),bT0 hn,by decide,λi hi=> ?_⟩
 ·grind
 ·simp_all
 ·simp[*]
 ·rw[f];show Dv _ _ (aV seed n.toNat) _ (aD (aV seed n.toNat)) 1 (bN n k t pin seed).Devices[i];have j:i<((List.range n.toNat).map λk=>Vo seed n.toNat k 1 (nwB n.toNat)).length:=by simp_all
  have e:(bN n k t pin seed).Devices[i]=Vo seed n.toNat i 1 (nwB n.toNat):=by simp[*]
  rw[e,d];exact⟨⟨[],by show _=aV seed n.toNat++[];simp⟩, .inr ⟨rfl,cL _⟩,λ_=>rfl,bT0 hn⟩
def bW0 {n k t pin seed:Int}(h:Kk n k t pin seed=true):xY (bN n k t pin seed):=λs hs a e c hc hp=>by
 have hn:n.toNat=1\/n.toNat=2\/n.toNat=3:=by unfold Kk at h;simp only[ab] at h;have:=gQ h.1;omega
 have d:(bN n k t pin seed).aAE.Log=aV seed n.toNat:=by unfold bN;rw[h];show(jS seed n.toNat).Log=_;rw[bCa hn]
 unfold aFl at hp;rw[d,(tH seed n.toNat (by omega)).rem] at hp;cases hp
section
variable {S:List (Int×Int)} {t m:Nat} {w:AA} {K v:Int} {r:List AJ} {b:AB}
theorem bM6 {w:AA}{c:Int}(h:(fI w c).2=false):fI w c=(w,false):=by
 grind[Cb,fI]
def aUt {w:AA}{c:Int}(h:(fI w c).2=true):Cb w c=true:=by
 grind[Cb,fI]
theorem xY.add (h:Net S t w.Devices.length w K v r b)(f:KeyD S)(ht:t<=800000)(hr:r.length<=58)(hc:xY w)(a:Int):xY (fI w a).1:=by
 cases hk:(fI w a).2 with
 |false=>grind[bM6]
 |true=>
  obtain⟨n1,u1,u2,n2,eA,u3,i,u4⟩:=h.add f ht hr (aUt hk);have d:aT (wR w a)=true:=by rw[<-u3];exact n1.wi.log
  obtain⟨p,j,u⟩:=bD4 d;have hd:=h.wi.dlen;have l:=n1.wi.mle;have eP:aFl (wR w a) w.Seed=aFl w.aAE.Log w.Seed:=by funext q;unfold aFl;rw[j]
  have n:¬aFl (wR w a) w.Seed (w.Devices.length:Int):=λhq=>by
   rw[eP] at hq;obtain⟨k,hk,e⟩:=h.rem _ hq
   grind[aSd,Int.toNat_natCast]
  rw[eA];intro s hs;show bD5 (aFl (Vq w K v b a).aAE.Log (Vq w K v b a).Seed) s;rw[u3,u2];have hs:s∈(aAl w a).1:=hs;have es:(add1 w a).1.Sites=w.Sites:=by obtain⟨x,y,z,o,_⟩:=wP (aR w a 0).1 a 1 (aS (aQ w.Seed (w.Devices.length:Int))) (λ_=>(aH (aR w a 0).1 a).Key);exact o.trans (jB w a 0).2.2.2.1
  unfold aAl at hs;rw[es] at hs;exact aUs (Q:=λc=>aFl (wR w a) w.Seed c.Handle->c.Cut=true) (by simp[*]) (λs hs=>by rw[eP];exact hc s hs) s hs
theorem xY.cut (h:Net S t m w K v r b)(hm:m=w.Devices.length)(z:KeyD S)(ht:t<=800000)(hr:r.length<=58)(hc:xY w)(c x:Int):xY (eY w c x).1:=by
 cases hk:(eY w c x).2 with
 |false=>grind[bTy]
 |true=>
  obtain⟨bx,e,n1⟩:=h.cut z ht hr hk;obtain⟨k1,k2,k3,k4,_⟩:=bM3 hk;obtain⟨p,A⟩:=iZ (iE k4);obtain⟨D,_,_⟩:=qA (iE k4);have n:aT (nS w c x)=true:=n1.wi.log;obtain⟨N,F,O⟩:=bM2 n;have hd:=h.wi.dlen;have u:=h.wi.mle;rw[e];intro s hs;have hs:s∈w.Sites.map (gM x):=hs;obtain⟨s',o,rfl⟩:=cn.1 hs;obtain⟨j,G,es⟩:=cI.1 o;have h2:=h.wi.two;have f:=h.wi.site j G;rw[es] at f;obtain⟨l,l',q1,q2,q3,q4,q5,q6,q7,q8,_⟩:=bTz (j:=(j:Int)) (by omega) h.wi.mle f (k:=x.toNat) (by omega);rw[fv D] at q2 q6;show bD5 (aFl (nS w c x) w.Seed) _;intro a q y d hp;rw[q2] at q;have q:a=⟨1,3,l'⟩:=by simp_all
  subst q;have d:y∈l':=d;unfold aFl at hp;rw[F,co] at hp;rcases hp with hp|hp
  ·obtain⟨H,I,Q,_,J⟩:=q8 y d;exact J (hc s' o ⟨1,3,l⟩ (by simp[*]) H I (by grind[aFl]))
  ·have hp:=eq_of_beq hp;rw[A,h.pub p] at hp;obtain⟨i,hi,L⟩:=cI.1 d;have M:=(q5 i hi).1;rw[L] at M;have hl:=f.acc
   grind[q6,aSd,Int.toNat_natCast,q1]
end
def bKc (M:Int)(k:A3):Prop:=k.Guesses<=k.Limit/\kT k<=M
def Pt (h:AH):Prop:=bKc h.Monotonic h.State/\∀k∈h.Saved,bKc h.Monotonic k
def bKc.mono {M N:Int}{k:A3}(h:bKc M k)(hm:M<=N):bKc N k:=⟨h.1,fc h.2 hm⟩
def aKu {k:A3}(h:kP k=true):(0<=k.Epoch/\k.Epoch<=1000000)/\(1<=k.Limit/\k.Limit<=10)/\(0<=k.Guesses/\k.Guesses<=k.Limit)/\kT k=k.Epoch*1000+k.Guesses:=by unfold kP at h;simp only[ab] at h;have h1:=gQ h.2.1;have h2:=gQ h.2.2.1;have a:=gQ h.2.2.2;refine⟨h1,h2,a,?_⟩;unfold kT;rw[aK (show-9223372036854775808<=k.Epoch*1000 by omega) (by omega),aK (by omega) (by omega)]
def Pt.ask {h:AH}(c:Pt h)(e:Int):Pt (pW h e).1:=by
 unfold pW;cases hb:decide (kT h.State<h.Monotonic)|| !(zG h.State e).2.2 with
 |true=>exact c
 |false=>
  rw[bl,cz,cG] at hb;have hk:zG h.State e=({h.State with Guesses:=h.State.Guesses+1},A8 h.State.aAQ e,true)/\kP h.State=true/\h.State.Guesses≠h.State.Limit:=by
   have d:=hb.2;unfold zG at d ⊢;cases hq:kP h.State&&(!(h.State.Guesses==h.State.Limit)&&(oD e&& !(e==1))) with
   |false=>simp_all
   |true=>simp only[ab,bq,bm] at hq;obtain⟨i,j,l,_⟩:=aKu hq.1;refine⟨?_,hq.1,hq.2.1⟩;rw[ae,aK (by omega) (by omega)]
  obtain⟨k1,k2,k3⟩:=hk;obtain⟨i,j,l,n⟩:=aKu k2;have hm:kT {h.State with Guesses:=h.State.Guesses+1}=h.State.Epoch*1000+h.State.Guesses+1:=by
   grind[aK,kT]
  rw[ac,k1,hm];have f:=c.1;refine⟨⟨by show h.State.Guesses+1<=h.State.Limit;omega,by rw[hm];exact cL _⟩,λk hk=> ?_⟩;have hk:k∈bS1 (h.Saved++[h.State]):=hk;have hk:k∈h.Saved++[h.State]:=by
   grind[decide,List.mem_of_mem_drop,bS1]
  have a:h.Monotonic<=h.State.Epoch*1000+h.State.Guesses+1:=by omega
  rcases ca.1 hk with hk|hk
  ·exact(c.2 k hk).mono a
  ·rw[cp.1 hk];exact f.mono a
def iG (l:List AH):Prop:=∀h∈l,Pt h
def bHp {l:List AH}(h:iG l){i:Nat}{x:AH}(c:i<l.length->Pt x):iG (l.set i x):=λy a=>by
 by_cases hi:i<l.length
 ·rcases en a with a|rfl
  ·exact h y a
  simp[*]
 ·rw[jv (by omega)] at a;exact h y a
def iG.ask {e:Int}:∀(a:List Int) (s:List AH×List Int×List Int),iG s.1->iG (a.foldl (bDy e) s).1
 |[],s,h=>h
 |c::a,s,h=>by
  rw[de];refine iG.ask a _ (bHp h λhi=> ?_);have:s.1.getD c.toNat default=s.1[c.toNat]:=by rw[List.getD,aa hi,cr]
  rw[this];exact(h _ (bw hi)).ask e
def iG.aEJ {hs:List AH}(h:iG hs)(v:A0)(a:List Int)(pin b:Int):iG (zH v hs a pin b).1:=by
 unfold zH;cases !aUc hs a pin b with
 |true=>exact h
 |false=>have:iG (jW v hs a pin b).1:=iG.ask a _ h;simp only[ac];cases decide ((a.length:Int)<v.Threshold)||(decide ((jW v hs a pin b).2.2.length<a.length)|| !(pX (jW v hs a pin b).2.1 (jW v hs a pin b).2.2).2)<;>exact this
def Pt.reset {h:AH}(a:Pt h){s:AS}(hb:jU h s=false):Pt (rZ h s):=by
 unfold jU at hb;simp only[bl,cG,cz,bm] at hb;obtain⟨b1,c,d,_⟩:=hb;obtain⟨e,f,i,j⟩:=aKu b1;have l:IntKind.i64.wrap (h.State.Epoch+1)=h.State.Epoch+1:=(by grind[aK]);have hm:kT ⟨s,IntKind.i64.wrap (h.State.Epoch+1),0,h.State.Limit⟩=(h.State.Epoch+1)*1000:=by
  grind[aK,kT]
 unfold rZ;refine⟨⟨by show(0:Int)<=h.State.Limit;omega,cL _⟩,λk hk=> ?_⟩
 show bKc (kT ⟨s,IntKind.i64.wrap (h.State.Epoch+1),0,h.State.Limit⟩) k;rw[hm];refine(a.2 k hk).mono ?_;omega
def iG.renew {hs:List AH}(h:iG hs)(c:List Int):iG (fD hs c).1:=by
 unfold fD bDu;generalize lU (hs.map λh=>h.State.aAQ) c=e;cases hb:((e.length:Int)==0)||(hs.zip e).any (λp=>jU p.1 p.2) with
 |true=>exact h
 |false=>rw[bl] at hb;intro y d;have d:y∈List.zipWith rZ hs e:=d;rw[<-List.map_uncurry_zip_eq_zipWith] at d;obtain⟨⟨a,s⟩,hp,rfl⟩:=cn.1 d;have f:=gq.1 hb.2 (a,s) hp;exact(h a (List.of_mem_zip hp).1).reset (by simp[*])
def iG.roll {hs:List AH}(h:iG hs){i:Nat}(b:Int):iG (hs.set i (gL (hs.getD i default) b).1):=by
 refine bHp h λhi=> ?_;have:hs.getD i default=hs[i]:=by rw[List.getD,aa hi,cr]
 rw[this];have a:=h _ (bw hi);unfold gL;cases hb:decide (b<0)||decide (b>=(hs[i].Saved.length:Int)) with
 |true=>exact a
 |false=>
  rw[bl,cz,cz] at hb;have hl:hs[i].Saved.length-1-b.toNat<hs[i].Saved.length:=by omega
  refine⟨?_,a.2⟩;show bKc _ (hs[i].Saved.getD (hs[i].Saved.length-1-b.toNat) default);rw[List.getD,aa hl,cr];exact a.2 _ (bw hl)
def iG.within {w:AA}(h:iG w.Hosts):jT w=true:=by unfold jT;rw[bq,gq];intro x a;obtain⟨h1,h2⟩:=(h x a).1;simp[*]
theorem bPu {k:A3}(h:k.Guesses<=k.Limit):Pt (Fy k):=⟨⟨h,cL _⟩,λk hk=>by simp[Fy] at hk⟩
end Go.VK
set_option maxRecDepth 100000
namespace Go.VK
open D
structure All (S:List (Int×Int)) (t:Nat) (w:AA):Prop where
 net:∃K v r b,Net S (3+3*t) w.Devices.length w K v r b/\r.length<=t
 cut:xY w
 hosts:iG w.Hosts
def All.wi {S:List (Int×Int)}{t:Nat}{w:AA}(h:All S t w):WIn w.Devices.length w:=let ⟨_,_,_,_,n,_⟩:=h.net;n.wi
def All.mono {S:List (Int×Int)}{t u:Nat}{w:AA}(h:All S t w)(a:t<=u):All S u w:=
 let ⟨K,v,r,b,n,hr⟩:=h.net;⟨⟨K,v,r,b,n.mono (by omega),by omega⟩,h.cut,h.hosts⟩
def bPv {n k t pin seed:Int}:iG (bN n k t pin seed).Hosts:=by
 unfold bN;cases Kk n k t pin seed with
 |false=>intro h a;grind[bMk]
 |true=>
  intro h a
  grind[aR9,aU,yR,aAn,Fy,bPu,aFb,Pi]
def bW1 {x:List (Int×Int)}{n k t pin seed:Int}(h:Kk n k t pin seed=true):All (aPp++x) 0 (bN n k t pin seed):=
 ⟨⟨_,_,_,_,bWz (x:=x) h,aj _⟩,bW0 h,bPv⟩
section
variable {S:List (Int×Int)} {t:Nat} {w:AA}
def All.of (h:All S t w){u:AA}{t':Nat}(ht:t<=t')(hn:∀K v r b,Net S (3+3*t) w.Devices.length w K v r b->Net S (3+3*t') w.Devices.length u K v r b)(hl:u.Devices.length=w.Devices.length)(hc:xY u)(a:iG u.Hosts):All S t' u:=
 let ⟨K,v,r,b,n,hr⟩:=h.net;⟨(by grind),hc,a⟩
def All.visit (h:All S t w)(d j:Int)(o:AP):All S t (gN w d j o).1:=
 h.of (aj _) (λK v r b n=>n.visit d j o) (aUj w d j o).2 (h.cut.visit h.wi d j o) (by rw[aO0];exact h.hosts)
theorem All.aAY (h:All S t w)(q:Bool)(d j:Int)(o:AP):All S t (bif q then mM w d j o else(w,1)).1:=by
 cases q with
 |true=>exact h.visit d j o
 |false=>exact h
def All.aCG (h:All S t w)(d:Int):All S t (nP w d).1:=
 h.of (aj _) (λK v r b n=>n.aCG d) (h.wi.aCG d).2.2 (by
  unfold nP;cases dL w d 0&& !bZ w d with
  |false=>exact h.cut
  |true=>exact h.cut.keep rfl rfl rfl) (by rw[aO2];exact h.hosts)
def All.tick (h:All S t w):All S t (tF w).1:=
 h.of (aj _) (λK v r b n=>n.tick) h.wi.tick.2.2 h.cut.tick (by rw[aUq];exact h.hosts)
def All.sync (h:All S t w)(a:KeyD S)(ht:t<=58)(d c:Int):All S t (aR w d c).1:=
 h.of (aj _) (λK v r b n=>n.sync a.ks (by omega) d c) (jB w d c).2.2.1 (h.cut.keep (jB w d c).1 (by rw[(jB w d c).2.2.2.2.2]) (jB w d c).2.2.2.1) (by rw[wQ];exact h.hosts)
def aAw (w:AA)(d:Int)(n:ByteArray)(a:Int)(f:Bool):(sW w d n a f).1.aAE=w.aAE/\(sW w d n a f).1.Sites=w.Sites:=by
 grind[aP,aL,dJ,aH,sW]
def All.aDP (h:All S t w)(c:KeyD S)(ht:t<=58)(d:Int){n:ByteArray}{a:Int}(hk:(bD n,a)∈S)(f:Bool):All S (t+1) (sW w d n a f).1:=
 h.of (eu _) (λK v r b q=>(q.aDP c.ks (by omega) d hk f).mono (by omega)) (aKq w d n a f).2 (h.cut.keep (aKq w d n a f).1 (by rw[(aAw w d n a f).1]) (aAw w d n a f).2) (by rw[aUp];exact h.hosts)
def All.push (h:All S t w)(a:KeyD S)(ht:t<=58)(d:Int):All S (t+1) (iK w d).1:=by
 obtain⟨K,v,r,b,n,hr⟩:=h.net;obtain⟨c,k,e,f,l,i⟩:=Bi w d;have hc:xY (iK w d).1:=h.cut.keep c i f;have j:iG (iK w d).1.Hosts:=by rw[aAu];exact h.hosts
 cases hl:bF w d with
 |false=>rw[n.aCV hl];exact h.mono (by omega)
 |true=>
  have:=n.aBK a.ks (by omega) (by omega) hl;refine⟨⟨K,v+1,r++[gI K (aD w.aAE.Log) v b],⟨bG (aH w d).aAC.Entries b.Entries⟩,?_,by simp;omega⟩,hc,j⟩
  ·rw[e,n.aBJ a.ks (by omega) (by omega) hl];exact this.mono (by omega)
theorem All.add (h:All S t w)(a:KeyD S)(ht:t<=58)(d:Int):All S (t+1) (fI w d).1:=by
 obtain⟨K,v,r,b,n,hr⟩:=h.net;cases hk:(fI w d).2 with
 |false=>rw[bM6 hk];exact h.mono (by omega)
 |true=>
  obtain⟨n1,u1,u2,n2,eA,u3,c,u4⟩:=n.add a (by omega) (by omega) (aUt hk);refine⟨⟨K,v+1,r++[gI K (aD w.aAE.Log) v b],bKa w K v b d,?_,by simp;omega⟩,xY.add n a (by omega) (by omega) h.cut d,by rw[bCb];exact h.hosts⟩
  ·have hl:(fI w d).1.Devices.length=w.Devices.length+1:=by rw[eA];show((Vq w K v b d).Devices++[_]).length=_;simp[*]
   grind
def All.aEH (h:All S t w)(a:KeyD S)(ht:t<=58)(d x:Int):All S (t+1) (eY w d x).1:=by
 obtain⟨K,v,r,b,n,hr⟩:=h.net;cases hk:(eY w d x).2 with
 |false=>rw[bTy hk];exact h.mono (by omega)
 |true=>obtain⟨bx,e,n1⟩:=n.cut a (by omega) (by omega) hk;refine⟨⟨aKt w d x,1,r++[gI K (aD w.aAE.Log) v b],(Jk w K v b d x).aAC,?_,by simp;omega⟩,xY.cut n rfl a (by omega) (by omega) h.cut d x,by rw[bCc];exact h.hosts⟩;rw[(h.wi.cut d x).2.2,e];assumption
def All.aCT (h:All S t w)(g:Int):All S t (Az w g).1:=by
 have hk:=h.wi.aCT g;refine h.of (aj _) (λK v r b n=>n.aCW (yS w) g) hk.2.2 ?_ ?_
 ·show xY (fG w (yS w) g).1;unfold fG;cases aP w with
  |false=>exact h.cut
  |true=>exact h.cut.keep rfl rfl rfl
 ·show iG (fG w (yS w) g).1.Hosts;unfold fG;cases aP w with
  |false=>exact h.hosts
  |true=>exact h.hosts.aEJ _ _ _ _
def All.renew (h:All S t w):All S t (eF w).1:=by
 refine h.of (aj _) (λK v r b n=>n.renew) h.wi.renew.2.2 ?_ ?_<;>unfold eF<;>cases aP w&&(fD w.Hosts (aE0 w)).2
 ·exact h.cut
 ·exact h.cut.keep rfl rfl rfl
 ·exact h.hosts
 ·exact h.hosts.renew _
def All.roll (h:All S t w)(i c:Int):All S t (fQ w i c).1:=by
 refine h.of (aj _) (λK v r b n=>n.roll i c) (h.wi.roll i c).2.2 ?_ ?_<;>unfold fQ<;>cases !aP w||(decide (i<0)||decide (i>=(w.Hosts.length:Int)))
 ·simp only[ac];cases(gL (w.Hosts.getD i.toNat default) c).2
  ·exact h.cut
  ·exact h.cut.keep rfl rfl rfl
 ·exact h.cut
 ·simp only[ac];cases(gL (w.Hosts.getD i.toNat default) c).2
  ·exact h.hosts
  ·exact h.hosts.roll c
 ·exact h.hosts
def All.apply (h:All S t w)(a:KeyD S)(ht:t<=58)(k d o v:Int)(f:Bool)(hk:k=8->(bD aKm,v)∈S):All S (t+1) (yT w k d o v f).1:=by
 unfold yT;rw[h.wi.ok];simp only[aq,ac];cases k==1 with
 |true=>exact h.tick.mono (by omega)
 |false=>
 simp only[ac];cases k==2 with
 |true=>exact(h.aAY _ _ _ _).mono (by omega)
 |false=>
 simp only[ac];cases k==3 with
 |true=>exact(h.aAY _ _ _ _).mono (by omega)
 |false=>
 simp only[ac];cases k==4 with
 |true=>exact(h.aCG d).mono (by omega)
 |false=>
 simp only[ac];cases k==5 with
 |true=>exact(h.aAY _ _ _ _).mono (by omega)
 |false=>
 simp only[ac];cases k==6 with
 |true=>exact h.add a ht d
 |false=>
 simp only[ac];cases k==7 with
 |true=>exact h.aEH a ht d o
 |false=>
 simp only[ac];cases c:k==8 with
 |true=>exact h.aDP a ht d (hk (eq_of_beq c)) f
 |false=>
 simp only[ac];cases k==9 with
 |true=>exact h.push a ht d
 |false=>
 simp only[ac];cases k==10 with
 |true=>exact(h.sync a (by omega) d v).mono (by omega)
 |false=>
 simp only[ac];cases k==11 with
 |true=>exact(h.aCT v).mono (by omega)
 |false=>
 simp only[ac];cases k==12 with
 |true=>exact h.renew.mono (by omega)
 |false=>
 simp only[ac];cases k==13 with
 |true=>exact(h.roll o v).mono (by omega)
 |false=>exact h.mono (by omega)
def All.final (h:All S t w){d:Int}(hd:aL w d=true):wI w d=true->bF w d=false/\(w.Sites.take 2).any (p8 d)=false:=λhc=>by
 obtain⟨K,v,r,b,n,hr⟩:=h.net;obtain⟨hl,e⟩:=iZ hd;obtain⟨d0,_,_⟩:=qA hd;have hr:dZ w.aAE.Log (nC w.Seed d.toNat)=true:=by unfold wI at hc;rw[hd,e,n.pub hl] at hc;exact hc
 refine⟨?_,?_⟩
 ·rw[n.aDQ hd,gr,Ne,lY];exact bWu (.inr n.wi.log) _ hr
 ·rw[gq];intro s hs hb;have hs:=gk hs;obtain⟨j,i,es⟩:=cI.1 hs;have a:=n.wi.site j i;rw[es] at a;obtain⟨l,f,k,o⟩:=a.acc;unfold p8 at hb;rw[a.find,f,ab] at hb;obtain⟨c,hc1,hc2⟩:=eM.1 hb.2;rw[ab,bq] at hc2;have hc1:c∈l:=hc1;have:=h.cut s hs ⟨1,3,l⟩ (by rw[f];simp) c hc1 (by unfold aFl;rw[eq_of_beq hc2.1];exact hr);simp_all
def All.aCS (h:All S t w){d:Int}(hd:aL w d=true):sP w d=true:=by
 unfold sP;cases hc:wI w d with
 |false=>rfl
 |true=>obtain⟨h1,h2⟩:=h.final hd hc;simp[*]
def All.aCO (h:All S t w){d:Int}(hd:aL w d=true):rY w d=true:=by
 obtain⟨K,v,r,b,n,hr⟩:=h.net;obtain⟨hl,e⟩:=iZ hd;unfold rY;rw[hd];cases hi:bF w d with
 |false=>rfl
 |true=>
  have a:=hi;unfold bF at hi;rw[hd,cw,lY] at hi;rw[Pq n.bx hi];cases he:(aH w d).Epoch !=aD w.aAE.Log with
  |true=>rfl
  |false=>rw[bne_eq_false_iff_eq] at he;have:=(n.dev _ hl).key (by rw[<-e];exact he);simp_all
def bD6 {k:Nat}(h:k<w.Devices.length):aL w (k:Int)=true:=by
 grind[decide_eq_true,aL]
def All.aDT (h:All S t w):aAf w=true:=by
 unfold aAf;rw[h.wi.ok,h.hosts.within,cw,cw,bq];exact Pn λk hk=>by
  rw[ct];unfold aTs;rw[h.aCS (bD6 hk),h.aCO (bD6 hk)];rfl
end
end Go.VK
set_option maxRecDepth 100000
namespace Go.VK
open D
section
variable {S:List (Int×Int)} {t m:Nat} {w:AA} {K v:Int} {r:List AJ} {b:AB}
def at_set {l:List AD}{x:AD}{c d:Int}(hc:0<=c)(hd:0<=d)(h:d≠c):(l.set c.toNat x).getD d.toNat default=l.getD d.toNat default:=by rw[List.getD,List.getD,bj (by omega)]
def bM7 {l:List AD}{x:AD}{c:Nat}(hc:c<l.length):(l.set c x).getD c default=x:=by simp[*]
def bT1 {w:AA}{K v:Int}{b:AB}{d:Int}(hd:aL w d=true):aH (aBK w K v b d) d=aO3 w K v b (aH w d)/\∀c,aL w c=true->c≠d->aH (aBK w K v b d) c=aH w c:=by obtain⟨d0,d1,_⟩:=qA hd;refine⟨bM7 d1,λc hc a=> ?_⟩;obtain⟨e,_,_⟩:=qA hc;exact at_set d0 e a
def Net.aBT (h:Net S t m w K v r b){t':Nat}{u:AA}{a v':Int}{r':List AJ}{b':AB}(d:Net S t' m u a v' r' b')(e:u.Devices.length=w.Devices.length)(f:u.Seed=w.Seed)(i:u.aAE.Log=w.aAE.Log)(c:Int):bF u c=bF w c:=by
 have j:aL u c=aL w c:=by unfold aL;rw[e]
 cases hd:aL w c with
 |false=>grind[bF]
 |true=>rw[h.aDQ hd,d.aDQ (j.trans hd),f,i]
def aUu (s:KeyS S):∀(l:List Int) (t:Nat) (w:AA) (v:Int) (r:List AJ) (b:AB),Net S t m w K v r b->(∀d∈l,bF w d=true)->t+l.length<=900000->r.length+l.length<=58->
  ∃u v' r' b',mJ l w=(u,true)/\(Net S (t+l.length) m u K v' r' b'/\r'.length=r.length+l.length)/\u.aAE.Log=w.aAE.Log/\u.Seed=w.Seed/\u.Stolen=w.Stolen/\u.Devices.length=w.Devices.length/\u.Sites=w.Sites/\u.Hosts=w.Hosts/\Vp b.Entries b'.Entries/\
   (∀d,aL w d=true->(d∈l\/Vp (aH w d).aAC.Entries b.Entries)->Vp (aH u d).aAC.Entries b'.Entries)/\(∀d∈l,Vp (aH w d).aAC.Entries b'.Entries)/\
   (∀e∈b'.Entries,e∈b.Entries\/∃d∈l,e∈(aH w d).aAC.Entries)/\(∀d,aL w d=true->(aH u d).Store=(aH w d).Store/\(d∉l->aH u d=aH w d))
 |[],t,w,v,r,b,h,_,_,_=>⟨w,v,r,b,rfl,⟨h,rfl⟩,rfl,rfl,rfl,rfl,rfl,rfl, .refl _,λd _ hd=>hd.resolve_left (by simp),λd hd=>by simp at hd,λe he=> .inl he,λd _=>⟨rfl,λ_=>rfl⟩⟩
 |d::l,t,w,v,r,b,h,hl,ht,y=>by
  simp only[ao] at ht y;have k:=hl d (cl ..);have hd:=iE k;obtain⟨A,e⟩:=iZ hd;have D:=h.dev _ A;rw[<-e] at D;have J:=h.aBK s (by omega) (by omega) k;have hlen:(aBK w K v b d).Devices.length=w.Devices.length:=aw ..;obtain⟨F,p⟩:=bT1 (K:=K) (v:=v) (b:=b) hd;obtain⟨u,v',r',b',N,L,O,Q,R,i6,T,i8,M,n,G,H,I⟩:=aUu s l (t+1) _ _ _ _ J (λc hc=>by
   rw[h.aBT J hlen rfl rfl];exact hl c (cb _ hc)) (by omega) (by simp;omega)
  have i:Vp b.Entries (bG (aH w d).aAC.Entries b.Entries):= .right D.bun.st h.bun.st;refine⟨u,v',r',b',?_,⟨by rw[ao,show t+(l.length+1)=t+1+l.length by omega];exact L.1,by rw[L.2];simp;omega⟩,O,Q,R,i6.trans hlen,T,i8,i.trans M,λc hc f=> ?_,λc hc=> ?_,λx j=> ?_,λc hc=> ?_⟩
  ·rw[mJ,h.aBJ s (by omega) (by omega) k];exact N
  ·have o:aL (aBK w K v b d) c=true:=yU hc hlen;by_cases a:c=d
   ·subst a;exact n c o (.inr (by rw[F];exact .refl _))
   ·refine n c o ?_;rw[p c hc a];rcases f with f|f
    ·exact .inl ((ba.1 f).resolve_left a)
    ·exact .inr (f.trans i)
  ·by_cases a:c=d
   ·subst a;exact(Vp.left D.bun.st h.bun.st).trans M
   ·have f:=(ba.1 hc).resolve_left a;have:=G c f;rw[p c (iE (hl c hc)) a] at this;exact this
  ·have dec:∀e∈bG (aH w d).aAC.Entries b.Entries,e∈b.Entries\/∃c∈d::l,e∈(aH w c).aAC.Entries:=λe he=>
    (oL _ (aj _) he).elim (λq=> .inr ⟨d,cl ..,q⟩) .inl
   rcases H x j with j|⟨c,hc,j⟩
   ·exact dec x j
   ·by_cases a:c=d
    ·subst a;rw[F] at j;exact dec x j
    ·rw[p c (iE (hl c (cb _ hc))) a] at j;exact .inr ⟨c,cb _ hc,j⟩
  ·obtain⟨q1,q2⟩:=I c (yU hc hlen);by_cases a:c=d
   ·subst a;rw[F] at q1;exact⟨q1,λq=>absurd (cl ..) q⟩
   ·rw[p c hc a] at q1 q2;exact⟨q1,λq=>q2 λz=>q (cb _ z)⟩
def aUv (p:KeyS S):∀(l:List Int) (w:AA),Net S t m w K v r b->(∀d∈l,bF w d=true)->t<=900000->(∀d∈l,Vp (aH w d).aAC.Entries b.Entries)->
  ∃u,uH l w=(u,true)/\Net S t m u K v r b/\u.aAE=w.aAE/\u.Seed=w.Seed/\u.Stolen=w.Stolen/\u.Devices.length=w.Devices.length/\u.Sites=w.Sites/\u.Hosts=w.Hosts/\
   (∀d,aL w d=true->d∉l->aH u d=aH w d)/\(∀d∈l,aH u d=⟨(aH w d).Store,w.aAE.Log,K,aD w.aAE.Log,v,b⟩)
 |[],w,h,_,_,_=>⟨w,rfl,h,rfl,rfl,rfl,rfl,rfl,rfl,λd _ _=>rfl,λd hd=>by simp at hd⟩
 |d::l,w,h,hl,ht,hs=>by
  have k:=hl d (cl ..);have hd:=iE k;obtain⟨n,e⟩:=iZ hd;obtain⟨d0,_,_⟩:=qA hd;have z:=h.dev _ n;rw[<-e] at z;have hX:oG w K v b (aH w d)=⟨(aH w d).Store,w.aAE.Log,K,aD w.aAE.Log,v,b⟩:=by unfold oG;rw[(hs d (cl ..)).merge' z.bun.st h.bun.st]
  have i:=h.aBX p ht k;rw[hX] at i;have s:=h.sync p ht d 0;rw[i] at s;have hlen:(w.Devices.set d.toNat (⟨(aH w d).Store,w.aAE.Log,K,aD w.aAE.Log,v,b⟩:AD)).length=w.Devices.length:=aw;have x:aH ({w with Devices:=w.Devices.set d.toNat ⟨(aH w d).Store,w.aAE.Log,K,aD w.aAE.Log,v,b⟩}:AA) d=⟨(aH w d).Store,w.aAE.Log,K,aD w.aAE.Log,v,b⟩:=bM7 n;have y:∀c,aL w c=true->c≠d->aH ({w with Devices:=w.Devices.set d.toNat ⟨(aH w d).Store,w.aAE.Log,K,aD w.aAE.Log,v,b⟩}:AA) c=aH w c:=λc hc j=>by
   obtain⟨D,_,_⟩:=qA hc;exact at_set d0 D j
  obtain⟨u,F,G,H,I,J,i6,L,i8,A,o⟩:=aUv p l _ s (λc hc=>by
   rw[h.aBT s hlen rfl rfl];exact hl c (cb _ hc)) ht (λc hc=>by
   by_cases f:c=d
   ·subst f;rw[x];exact .refl _
   ·rw[y c (iE (hl c (cb _ hc))) f];exact hs c (cb _ hc))
  refine⟨u,?_,G,H,I,J,i6.trans hlen,L,i8,λc hc a=> ?_,λc hc=> ?_⟩
  ·rw[uH,i];exact F
  ·have j:c≠d:=λq=>a (q▸cl ..);rw[A c (yU hc hlen) (λq=>a (cb _ q)),y c hc j]
  ·by_cases f:c=d
   ·subst f;by_cases a:c∈l
    ·rw[o c a,x]
    ·rw[A c (yU hd hlen) a,x]
   ·have a:=(ba.1 hc).resolve_left f;rw[o c a,y c (iE (hl c hc)) f]
theorem Pv {w:AA}{d:Int}(h:d∈bB w):bF w d=true:=by
 grind[Uu,bB]
def bT2 (w:AA):(bB w).length<=w.Devices.length:=by
 grind[Nat.le_trans,List.length_filter_le,List.length_map,bB]
theorem bT3 {w u:AA}(h1:u.Devices.length=w.Devices.length)(h2:u.Stolen=w.Stolen)(a:∀c,bF u c=bF w c):bB u=bB w:=by
 unfold bB;rw[h1];have:Uu u=Uu w:=by funext i;unfold Uu;rw[a,h2]
 rw[this]
def bYe (f:KeyS S){T:Int}(i:T<=1000000){w:AA}{c:List AG}:∀(l:List Int) (e:List AG),(∀d∈l,BunIn S T (aH w d).aAC.Entries/\Vp (aH w d).aAC.Entries c)->BunIn S T e->Vp e c->∃o,uS w l e= .inr o/\BunIn S T o/\Vp o c
 |[],e,_,h1,h2=>⟨e,rfl,h1,h2⟩
 |d::l,e,h,h1,h2=>by
  obtain⟨b1,j⟩:=h d (cl ..);have hm:=D8 (a:=⟨e⟩) (b:=(aH w d).aAC) f i h1 b1;obtain⟨o,k,n,p⟩:=bYe f i l (bG e (aH w d).aAC.Entries) (λc hc=>h c (cb _ hc)) (h1.merge b1) (Vp.lub h2 j);refine⟨o,?_,n,p⟩;rw[uS,hm];exact k
def bW2 (a:AG):AG.eqB a a=true:=by simp[AG.eqB]
theorem bW3 (b:AB):kU b b=true:=by simp[List.zipWith_cons_cons,ba,bW2,List.zipWith,AG.eqB,eV,cw,cC,kU]
def bT4 {w:AA}(h:bB w≠[]):(bB w).getD 0 0∈bB w:=by
 grind
structure Settled (S:List (Int×Int)) (t:Nat) (w:AA) (K:Int) (r:List AJ) (b:AB) (y:AA) (v':Int) (r':List AJ) (b':AB):Prop where
 eq:lG w=(y,true)
 net:Net S (t+w.Devices.length) w.Devices.length y K v' r' b'
 rlen:r'.length<=r.length+w.Devices.length
 log:y.aAE.Log=w.aAE.Log
 seed:y.Seed=w.Seed
 stolen:y.Stolen=w.Stolen
 len:y.Devices.length=w.Devices.length
 sites:y.Sites=w.Sites
 hosts:y.Hosts=w.Hosts
 reach:bB y=bB w
 own:∀d∈bB w,(aH y d).aAC=b'/\(aH y d).Epoch=aD w.aAE.Log/\(aH y d).Version=v'/\(aH y d).Key=K
 other:∀d,aL w d=true->(aH y d).Store=(aH w d).Store/\(d∉bB w->aH y d=aH w d)
 sub:∀d∈bB w,Vp (aH w d).aAC.Entries b'.Entries
 last:Vp b.Entries b'.Entries
 mem:∀e∈b'.Entries,e∈b.Entries\/∃d∈bB w,e∈(aH w d).aAC.Entries
def bHq (j:KeyS S)(n:Net S t w.Devices.length w K v r b)(ht:t<=800000)(hr:r.length+w.Devices.length<=58):∃y v' r' b',Settled S t w K r b y v' r' b':=by
 have x:=bT2 w;have z:=n.wi.dlen;obtain⟨u,v',r',b',A,⟨f,i2r⟩,k,l,D,i6,F,i8,G,H,h,i,I⟩:=aUu j (bB w) t w v r b n (λd hd=>Pv hd) (by omega) (by omega);have a:∀c,bF u c=bF w c:=n.aBT f i6 l k;obtain⟨y,J,o,p,q,L,s,M,N,Q,O⟩:=aUv j (bB w) u f (by grind[Pv]) (by omega) (by grind[iE,Pv]);have e:∀c,bF y c=bF w c:=λc=>(f.aBT o s q (by rw[p]) c).trans (a c);refine⟨y,v',r',b',⟨?_,o.mono (by omega),by omega,by rw[p,k],q.trans l,L.trans D,s.trans i6,M.trans F,N.trans i8,(by grind[bT3]),λd hd=> ?_,λd hd=> ?_,h,G,i⟩⟩
 ·unfold lG;rw[n.wi.ok,A,J];rfl
 all_goals grind[q1,q2,aL,yU,bB,absurd]
def bPw (f:KeyD S)(h:All S t w)(ht:t<=52):(Ji w).2=true/\(lG w).2=true/\All S (t+w.Devices.length) (lG w).1/\bBp (lG w).1=true/\bB (lG w).1=bB w/\(lG w).1.Devices.length=w.Devices.length/\(lG w).1.aAE.Log=w.aAE.Log/\(lG w).1.Sites=w.Sites/\
  ∀d∈bB w,(dY (aH (lG w).1 d).aAC (Ji w).1)=((aH (lG w).1 d).aAC,true):=by
 obtain⟨K,v,r,b,n,hr⟩:=h.net;have k:=n.wi.dlen;obtain⟨y,v',r',b',s⟩:=bHq f.ks n (by omega) (by omega);have hb':=s.net.bun;obtain⟨o,l,j,p⟩:=bYe (w:=w) (c:=b'.Entries) (T:=((3+3*t:Nat):Int)) f.ks (by omega) (bB w) [] (λd hd=>by
  obtain⟨hl,e⟩:=iZ (iE (Pv hd));rw[e];refine⟨(n.dev _ hl).bun,?_⟩;rw[<-e];exact s.sub d hd) (BunIn.nil ..) (Vp.nil _)
 have i:Ji w=(⟨o⟩,true):=by unfold Ji;rw[l]
 rw[s.eq,i];refine⟨rfl,rfl,⟨⟨K,v',r',b',?_,by have:=s.rlen;omega⟩,?_,?_⟩,?_,s.reach,s.len,s.log,s.sites,λd hd=> ?_⟩
 ·rw[show y.Devices.length=w.Devices.length from s.len];exact s.net.mono (by omega)
 ·exact h.cut.keep s.seed s.log s.sites
 ·show iG y.Hosts;rw[s.hosts];exact h.hosts
 ·unfold bBp;rw[s.reach,cC];intro d hd;have h0:=bT4 (w:=w) (λe=>by rw[e] at hd;simp at hd);obtain⟨q,u,x,z⟩:=s.own d hd;obtain⟨A,D,F,G⟩:=s.own _ h0
  grind[bW3,aTp]
 ·show dY (aH y d).aAC ⟨o⟩=((aH y d).aAC,true);rw[(s.own d hd).1];have:=D8 (a:=b') (b:=⟨o⟩) f.ks (V:=((3+3*t+w.Devices.length:Nat):Int)) (by omega) hb' (j.mono (by omega));rw[this,p.merge j.st hb'.st]
end
end Go.VK
set_option maxRecDepth 100000
namespace Go.VK
open D
theorem bHr (s:AK)(o:AP)(z:ByteArray)(i c:Int)(p:Bool):jJ s o z i c p=(s,aYm,false)\/(mK o z=true/\lW s=true/\s.Counter<1000000/\jJ s o z i c p=({s with Counter:=s.Counter+1},{Sa s o z i c p with Counter:=s.Counter+1,Signature:=sQ (cO s z i) (bP (Sa s o z i c p)++[s.Counter+1])},true)):=by
 unfold jJ;cases hm:mK o z with
 |false=>simp
 |true=>
  unfold jI;cases hs:lW s&& !(s.Counter==1000000) with
  |false=>simp
  |true=>
   simp only[ab,bq,bm] at hs;have hc:=hs.1;unfold lW at hc;simp only[ab] at hc;have hr:=gQ hc.2.2.2
   grind[bSy,aK]
def bW4 {s:AK}{o:AP}{z:ByteArray}{i c:Int}{p:Bool}(h1:mK o z=true)(h2:lW s=true)(a:s.Counter<1000000):jJ s o z i c p=({s with Counter:=s.Counter+1},{Sa s o z i c p with Counter:=s.Counter+1,Signature:=sQ (cO s z i) (bP (Sa s o z i c p)++[s.Counter+1])},true):=by
 grind[jJ,jI,beq_eq_false_iff_ne,bHr]
def cCr {seed:Int}{k:Nat}{s:AK}(h:StIn seed k s)(hk:k<6):lW s=true:=by unfold lW;rw[h.ven,h.ser,h.key,kF (show(0:Int)<=(k:Int) by omega) (by omega),kF h.cnt.1 h.cnt.2];show(true&&(true&&(bL (aU seed [277,(k:Int)])&&true)))=true;rw[iH];rfl
theorem bT5 (pub:Int){z:ByteArray}(a:0<z.size)(c n:Int):iL pub aYm z c n=1:=by
 unfold iL;have:((aYm.Site.toList==z.toList):Bool)=false:=by rw[bm];intro e;have:=congrArg List.length e;simp only[ByteArray.toList_eq] at this;have h1:(aYm.Site.data.toList).length=0:=rfl;simp_all
 simp[*]
theorem bT6 {j:Int}(a:j=0\/j=1):0<(aA j).size:=by rcases a with rfl|rfl<;>decide
def bT7 {a:AI}{x:AZ}{z:ByteArray}{c:Int}:((iO a x z c).1=a/\(iO a x z c).2≠0)\/(∃k,∃h:k<a.Credentials.length,aY a x.Handle=(k:Int)/\a.Credentials[k].Handle=x.Handle/\a.Credentials[k].Cut=false/\(iO a x z c).2=iL a.Credentials[k].Public x z c a.Credentials[k].Counter/\
  (iO a x z c).1={a with Credentials:=bif iL a.Credentials[k].Public x z c a.Credentials[k].Counter==0 then a.Credentials.set k {a.Credentials[k] with Counter:=x.Counter} else bif iL a.Credentials[k].Public x z c a.Credentials[k].Counter==4 then a.Credentials.set k {a.Credentials[k] with Cut:=true} else a.Credentials}):=by
 grind[bA,decide,aY,gW,Bool.or_eq_false_iff,xX,List.getD,List.getElem?_eq_getElem,Int.toNat_natCast,iO]
def bKd {b:AQ}(h:BookIn b)(hn:b.Next<1000000){now:Int}(ht:0<=now/\now<=999900):fK b 1 now=((fK b 1 now).1,⟨b.Next,1,now+5⟩,true)/\(fK b 1 now).1.Next=b.Next+1/\(pV (fK b 1 now).1 b.Next 1 now).2=true:=by
 have o:=D5 h.ok;have hq:=(bG9 h 1 now).1;have q:IntKind.i64.wrap (now+5)=now+5:=(by grind[aK]);have s:0<=b.Next:=by have:=h.ok;unfold eX at this;simp only[ab] at this;exact(gQ this.1.1).1
 have f:fK b 1 now=(⟨b.Seed,b.Next+1,(bif decide ((b.Open.length:Int)>=16) then b.Open.drop 1 else b.Open)++[⟨b.Next,1,now+5⟩]⟩,⟨b.Next,1,now+5⟩,true):=by unfold fK aE9;rw[h.ok,bm.2 (show b.Next≠1000000 by omega),kF (show(0:Int)<=1 by decide) (by decide),kF ht.1 (by omega),q,aK (by omega) (by omega)];rfl
 refine⟨by rw[f],by rw[f],?_⟩;have j:∀c∈b.Open,c.Id<=b.Next-1:=λc hc=>by
  have:=h.ok;unfold eX at this;simp only[ab,bq] at this;obtain⟨i,hi,e⟩:=cI.1 hc;have h2:=aAr this.2 i hi;unfold iU at h2;simp only[bl,cG] at h2;have:=(gQ h2.1).2
  grind[aK]
 have hm:∀c∈(fK b 1 now).1.Open,c.Id=b.Next->c=⟨b.Next,1,now+5⟩:=(by grind[decide,List.mem_of_mem_drop,List.mem_singleton]);have d:(⟨b.Next,1,now+5⟩:A4)∈(fK b 1 now).1.Open:=by simp[*]
 have n:decide (dR (fK b 1 now).1 b.Next<0)=false:=by
  rw[cz];intro a;have:=Vd (p:=λc:A4=>c.Id==b.Next) a _ d
  grind
 obtain⟨k,hk,x,y⟩:=xX (l:=(fK b 1 now).1.Open) n;have u:aKg (fK b 1 now).1 (dR (fK b 1 now).1 b.Next)=⟨b.Next,1,now+5⟩:=by
  grind[List.getElem_mem,Int.toNat_natCast,List.getD,List.getElem?_eq_getElem,aKg,dR,fK]
 unfold pV;rw[hq.ok,n,u]
 grind
section
variable {m:Nat} {w:AA}
def bPx (h:WIn m w){d j:Int}(ht:dL w d j=true)(o:AP):SiteIn w.Seed j m (aAY w j).1/\(aAY w j).1.Name=aA j/\(j=0\/j=1):=by obtain⟨hl,e,a,hs⟩:=Ps h (tJ ht).2.2;have hb:=hs.begin 1 w.Now;exact⟨hb,hb.name,a⟩
def bT8 (h:WIn m w){d j:Int}{o:AP}(ht:dL w d j=true)(hm:d.toNat<m)(ho:mK o (aA j)=true)(hn:(eO w j).Book.Next<1000000)(hc:(aH w d).Store.Counter<1000000)
  (z:∀a∈(eO w j).Accounts,∀(hk:d.toNat<a.Credentials.length),a.Credentials[d.toNat].Cut=false/\a.Credentials[d.toNat].Counter<=(aH w d).Store.Counter):(gN w d j o).2.2=0:=by
 obtain⟨O,t2,A⟩:=tJ ht;obtain⟨hl,es,p,hs⟩:=Ps h A;obtain⟨d0,d1,_⟩:=qA t2;have u:=h.mle;have hb:=D5 hs.book;obtain⟨D,Q,R⟩:=bKd hb hn h.now;have F:aAY w j=({eO w j with Book:=(fK (eO w j).Book 1 w.Now).1},(eO w j).Book.Next,fB (fK (eO w j).Book 1 w.Now).1 (eO w j).Book.Next,true):=by unfold aAY mU;rw[hs.ok p h.mle,hs.find,D];rfl
 have i:=h.aCD t2;have k:=cCr i (by omega);have x:Ki w d j o=({(aH w d).Store with Counter:=(aH w d).Store.Counter+1},{Sa (aH w d).Store o (aA j) d (aAY w j).2.2.1 true with Counter:=(aH w d).Store.Counter+1,Signature:=sQ (cO (aH w d).Store (aA j) d) (bP (Sa (aH w d).Store o (aA j) d (aAY w j).2.2.1 true)++[(aH w d).Store.Counter+1])},true):=bW4 ho k hc;have c:=hs.begin 1 w.Now;rw[show(mU (eO w j) 1 w.Now)=aAY w j from rfl] at c;obtain⟨l,e,f,q⟩:=hs.acc;subst q;have s:=f d.toNat hm;obtain⟨u1,u2⟩:=z ⟨1,3,l⟩ (by grind) hm;have u2:l[d.toNat].Counter<=(aH w d).Store.Counter:=u2;have u1:l[d.toNat].Cut=false:=u1;have G:gG (aAY w j).1 0=⟨1,3,l⟩:=by grind[eO,gG]
 have H:=aUf (m:=3) p f h.mle (by grind);have I:aY ⟨1,3,l⟩ d=(d.toNat:Int):=by have:=bM5 f hm;rwa [fv d0] at this ⊢
 have J:gW ⟨1,3,l⟩ (d.toNat:Int)=l[d.toNat]:=by unfold gW;rw[bn];show l.getD d.toNat default=_;rw[List.getD,aa hm,cr]
 have n:cO (aH w d).Store (aA j) d=cO (aQ w.Seed (d.toNat:Int)) (aA j) (d.toNat:Int):=by rw[cO,cO,i.key,fv d0]
 have hv:∀M,iT (dW (cO (aQ w.Seed (d.toNat:Int)) (aA j) (d.toNat:Int))) M (sQ (cO (aQ w.Seed (d.toNat:Int)) (aA j) (d.toNat:Int)) M)=true:=(by simp[bHb,cO,iH]);have y:iL l[d.toNat].Public (Ki w d j o).2.1 (aAY w j).1.Name (fB (aAY w j).1.Book (aAY w j).2.1) l[d.toNat].Counter=0:=by rw[c.name,x,F];unfold iL;show(bif !((aA j).toList==(aA j).toList) then(1:Int) else bif !true then 2 else bif !(fB (fK (eO w j).Book 1 w.Now).1 (eO w j).Book.Next==fB (fK (eO w j).Book 1 w.Now).1 (eO w j).Book.Next) then 3 else bif !iT l[d.toNat].Public (bP (Sa (aH w d).Store o (aA j) d (fB (fK (eO w j).Book 1 w.Now).1 (eO w j).Book.Next) true)++[(aH w d).Store.Counter+1]) (sQ (cO (aH w d).Store (aA j) d) (bP (Sa (aH w d).Store o (aA j) d (fB (fK (eO w j).Book 1 w.Now).1 (eO w j).Book.Next) true)++[(aH w d).Store.Counter+1])) then 5 else bif decide ((aH w d).Store.Counter+1<=l[d.toNat].Counter) then 4 else 0)=0;rw[s.2.1,n,show Vl w.Seed j d.toNat=dW (cO (aQ w.Seed (d.toNat:Int)) (aA j) (d.toNat:Int)) from rfl,hv,au (show ¬(aH w d).Store.Counter+1<=l[d.toNat].Counter by omega)];simp
 have T:(vF w d j o).2.1=0:=by
  unfold vF lX;rw[c.ok p h.mle,c.find];have L:(pV (aAY w j).1.Book (aAY w j).2.1 1 w.Now).2=true:=by grind
  have N:qL (gG (aAY w j).1 0) 3=true:=by
   grind[List.any_eq_true,List.getElem_mem,u1,qL]
  have V:(Ki w d j o).2.1.Handle=d:=by rw[x];rfl
  grind[iO,gG,aAY,Ki,fB,u1,decide_eq_false]
 grind[gN]
def bHs (h:WIn m w){d j:Int}{o:AP}(hq:mK o (aA j)=false\/∀a∈(eO w j).Accounts,∀c∈a.Credentials,c.Handle=d->c.Cut=true):(gN w d j o).2.2≠0:=by
 rcases Gc w d j o with⟨_,e⟩|⟨_,_,_,e,_⟩|⟨ht,_,_,e,f⟩
 ·rw[e];decide
 ·rw[e];decide
 ·exfalso;obtain⟨hb,i,A⟩:=bPx h ht o;have f:=eq_of_beq f;unfold vF lX at f;rw[hb.find] at f;cases h1: !bY (aAY w j).1||decide ((0:Int)<0) with
  |true=>simp_all
  |false=>
  rw[h1] at f;simp only[ac] at f;cases h2: !(pV (aAY w j).1.Book (aAY w j).2.1 1 w.Now).2 with
  |true=>simp_all
  |false=>
  rw[h2] at f;simp only[ac] at f;cases n: !qL (gG (aAY w j).1 0) 3 with
  |true=>simp_all
  |false=>
  rw[n] at f;simp only[ac] at f;have p:(iO (gG (aAY w j).1 0) (Ki w d j o).2.1 (aAY w j).1.Name (fB (aAY w j).1.Book (aAY w j).2.1)).2≠0:=by
   rcases bT7 (a:=gG (aAY w j).1 0) (x:=(Ki w d j o).2.1) (z:=(aAY w j).1.Name) (c:=fB (aAY w j).1.Book (aAY w j).2.1) with⟨_,q⟩|⟨k,hk,D,s,F,u,_⟩
   ·exact q
   ·rw[u];rcases bHr (aH w d).Store o (aA j) d (aAY w j).2.2.1 true with e|⟨G,_,_,e⟩
    ·grind[bT5,bT6,Ki,aYm]
    ·rcases hq with hq|hq
     ·simp_all
     ·exfalso;have y:(Ki w d j o).2.1.Handle=d:=by unfold Ki;rw[e];rfl
      rw[y] at s;obtain⟨l,el,_,_⟩:=hb.acc
      grind[List.getElem_mem,gG,aAY,eO,aAv]
  grind
end
end Go.VK
set_option maxRecDepth 100000
namespace Go.VK
open D
def bHt (w:AA)(k:Nat):Int:=(w.Devices.getD k default).Store.Counter
def bYf (w:AA)(k:Nat):Prop:=dZ w.aAE.Log (nC w.Seed k)=true
def CrU (cnt:Nat->Int)(rem:Nat->Prop)(c:AV):Prop:=c.Counter<=cnt c.Handle.toNat/\(c.Cut=true->rem c.Handle.toNat)
structure Us (B:Int) (w:AA):Prop where
 cnt:∀k,k<w.Devices.length->bHt w k<=B
 next:∀s∈w.Sites,s.Book.Next<=B
 cred:∀s∈w.Sites,U6 (CrU (bHt w) (bYf w)) s
def CrU.mono {cnt cnt':Nat->Int}{rem rem':Nat->Prop}(hc:∀k,cnt k<=cnt' k)(hr:∀k,rem k->rem' k){c:AV}(h:CrU cnt rem c):CrU cnt' rem' c:=⟨fc h.1 (hc _),λq=>hr _ (h.2 q)⟩
section
variable {m:Nat} {w:AA} {B:Int}
end
section
variable {S:List (Int×Int)} {t m:Nat} {w:AA} {K v:Int} {r:List AJ} {b:AB} {B:Int}
end
def bPy {n k t pin seed:Int}(h:Kk n k t pin seed=true):(∀i,bHt (bN n k t pin seed) i=0)/\∀s∈(bN n k t pin seed).Sites,s.Book.Next=0/\s.Logins=[]/\U6 (λc=>c.Counter=0/\c.Cut=false) s:=by
 have hn:n.toNat=1\/n.toNat=2\/n.toNat=3:=by unfold Kk at h;simp only[ab] at h;have:=gQ h.1;omega
 have f:(bN n k t pin seed).Devices=(List.range n.toNat).map λk=>Vo seed n.toNat k 1 (nwB n.toNat):=by
  grind[aOz,bN]
 refine⟨λi=> ?_,λs hs=> ?_⟩
 ·unfold bHt;rw[f,List.getD,bp];cases hq:(List.range n.toNat)[i]? with
  |none=>rfl
  |some q=>rfl
 ·have reg:∀(nm:ByteArray) (l:List AD) (i:Nat) (s:AC),(s.Book.Next=0/\s.Logins=[]/\U6 (λc=>c.Counter=0/\c.Cut=false) s)->((qM nm i l s).Book.Next=0/\(qM nm i l s).Logins=[]/\U6 (λc=>c.Counter=0/\c.Cut=false) (qM nm i l s)):=by
   intro nm l;induction l with
   |nil=>intro i s hs;exact hs
   |cons d l o=>
    intro i s hs;refine o _ _ ⟨?_,?_,bM4 hs.2.2 ⟨rfl,rfl⟩⟩
    all_goals grind[eH,bY,decide,aI,fT,default]
  have one:∀j:Int,j=0\/j=1->((xV seed (dN seed n.toNat) j).Book.Next=0/\(xV seed (dN seed n.toNat) j).Logins=[]/\U6 (λc=>c.Counter=0/\c.Cut=false) (xV seed (dN seed n.toNat) j)):=λj u=>by
   refine reg _ _ _ _ ?_;have hk:=iH seed [281,j];generalize aU seed [281,j]=q at*;have p:iD (aA j) q=⟨aA j,[],⟨q,0,[]⟩,[]⟩:=by
    grind[C9,iD,lF]
   rw[p];unfold oF;cases bY ⟨aA j,[],⟨q,0,[]⟩,[]⟩&&bY (rM ⟨aA j,[],⟨q,0,[]⟩,[]⟩ 1 3) with
   |false=>exact⟨rfl,rfl,λa e=>by simp at e⟩
   |true=>refine⟨rfl,rfl,λa e c hc=> ?_⟩;have e:a∈[(⟨1,3,[]⟩:AI)]:=e;simp_all
  grind[List.mem_singleton,xW,dN,bN]
section
variable {m:Nat} {w:AA} {B:Int}
def Us.ok (n:WIn m w)(h:Us B w)(q:B<1000000){d j:Int}{o:AP}(ht:dL w d j=true)(hm:d.toNat<m)(ho:mK o (aA j)=true)(hr:¬bYf w d.toNat):(gN w d j o).2.2=0:=by
 obtain⟨s,t2,p⟩:=tJ ht;obtain⟨hl,es,u,hs⟩:=Ps n p;obtain⟨f,x⟩:=iZ t2;have i:bHt w d.toNat=(aH w d).Store.Counter:=rfl;have c:eO w j∈w.Sites:=by simp[*]
 have hn:=h.next _ c;have hc:=h.cnt _ f;rw[i] at hc;refine bT8 n ht hm ho (by omega) (by omega) λa e hk=> ?_;have hq:=h.cred _ c a e _ (bw hk);obtain⟨l,el,k,_⟩:=hs.acc;rw[el] at e;have e:a=⟨1,3,l⟩:=by simp_all
 subst e;have y:(AI.mk 1 3 l).Credentials[d.toNat].Handle=(d.toNat:Int):=(k d.toNat hk).1
 grind[absurd,Int.toNat_natCast,CrU]
end
end Go.VK
set_option maxRecDepth 100000
namespace Go.VK
open D
abbrev Evt:=Int×Int×Int×Int×Bool
def bHu (w:AA)(e:Evt):AA×Bool:=yT w e.1 e.2.1 e.2.2.1 e.2.2.2.1 e.2.2.2.2
def cEf (w:AA)(l:List Evt):AA:=l.foldl (λu e=>(bHu u e).1) w
def cCt (S:List (Int×Int))(e:Evt):Prop:=e.1=8->(bD aKm,e.2.2.2.1)∈S
def iF (w:AA):Nat:=(w.Sites.map λs=>s.Logins.length).sum
def aUw {α:Type}{f:α->Nat}{x:α}:∀{l:List α} {i:Nat} (h:i<l.length),((l.set i x).map f).sum+f l[i]=(l.map f).sum+f x
 |[],i,h=>by simp at h
 |y::l,0,h=>by simp;omega
 |y::l,i+1,h=>by
  have:=aUw (f:=f) (x:=x) (l:=l) (i:=i) (by simpa using h);simp only[fR,bo,dw,e9];omega
section
variable {S:List (Int×Int)} {t m:Nat} {w:AA}
def bPz (h:WIn m w)(d j:Int)(o:AP):iF (gN w d j o).1=iF w+(bif (gN w d j o).2.2==0 then 1 else 0):=by
 have key:dL w d j=true->iF (aPn w d j o)=iF w+(bif (vF w d j o).2.1==0 then 1 else 0):=λht=>by
  obtain⟨hl,es,i,hs⟩:=Ps h (tJ ht).2.2;have h1:=aUw (f:=λs:AC=>s.Logins.length) (x:=(vF w d j o).1) hl;have h2:(vF w d j o).1.Logins=_:=bKb (aAY w j).1 1 (aAY w j).2.1 w.Now (Ki w d j o).2.1;rw[show(aAY w j).1.Logins=(eO w j).Logins from(aAv _ _ _).2.1,es] at h2;have h2:(vF w d j o).1.Logins.length=w.Sites[j.toNat].Logins.length+(bif (vF w d j o).2.1==0 then 1 else 0):=by rw[h2];show(bif (vF w d j o).2.1==0 then _ else _:List Int).length=_;cases(vF w d j o).2.1==0<;>simp
  show((w.Sites.set j.toNat (vF w d j o).1).map λs=>s.Logins.length).sum=(w.Sites.map λs=>s.Logins.length).sum+_;have h1:((w.Sites.set j.toNat (vF w d j o).1).map λs=>s.Logins.length).sum+w.Sites[j.toNat].Logins.length=(w.Sites.map λs=>s.Logins.length).sum+(vF w d j o).1.Logins.length:=h1;omega
 rcases Gc w d j o with⟨e,a⟩|⟨ht,_,e,a,c⟩|⟨ht,_,e,a,c⟩
 ·rw[e,a];rfl
 ·rw[e,a,key ht,c];rfl
 ·rw[e,a];show iF (aPn w d j o)=_;rw[key ht,c];rfl
def wT {u v:AA}(h:u.Sites=v.Sites):iF u=iF v:=by unfold iF;rw[h]
def bM8 {u v:AA}(f:AC->AC)(h:u.Sites=v.Sites.map f)(a:∀s,(f s).Logins=s.Logins):iF u=iF v:=by unfold iF;rw[h,gm];congr 1;exact fu λs _=>by show(f s).Logins.length=_;rw[a]
def bP0 (w:AA)(c x:Int):iF (eY w c x).1=iF w:=by
 unfold eY;cases(aR w c 0).2==0&&(!bZ w c&&(!(c==x)&&bF w x)) with
 |false=>rfl
 |true=>
  simp only[ae];unfold oV;cases(mR w c x).2&&((Ph w c x).2&&(Kh w c x).2) with
  |false=>rfl
  |true=>
   refine bM8 (gM x) ?_ λs=>by unfold gM;cases decide (aI s 1>=0)<;>rfl
   show(Kh w c x).1.Sites=_;obtain⟨u1,u2,u3,u4,_⟩:=bD2 (aAm w c x) c;obtain⟨d,e,f,a,_⟩:=wP (kY w c) c 2 (aS (aH w x).Store) (nN (aH (kY w c) c).Store);refine u4.trans ?_;show(mR w c x).1.Sites.map (gM x)=_;rw[show(mR w c x).1.Sites=w.Sites from a.trans (jB w c 0).2.2.2.1]
def bKe (s:AC)(id h p:Int):(eH s id h p).1.Logins=s.Logins:=by
 unfold eH;cases !bY s||decide (aI s id<0) with
 |true=>rfl
 |false=>simp only[ac];cases(fT (s.Accounts.getD (aI s id).toNat default) h p).2<;>rfl
def U7 {st:AK}{n:Int}:∀{l:List AC} {j:Nat},(gV st n j l).2=true->(gV st n j l).1.map (λs=>s.Logins.length)=l.map λs=>s.Logins.length
 |[],j,_=>rfl
 |s::l,j,h=>by
  unfold gV at h ⊢;cases hc:(eH s 1 n (fF st (aA (j:Int)) n)).2&&(gV st n (j+1) l).2 with
  |false=>rw[hc] at h;cases h
  |true=>rw[ab] at hc;simp only[ae,bo,bKe,U7 hc.2]
def bP1 (w:AA)(c:Int):iF (fI w c).1=iF w:=by
 unfold fI;cases a:Cb w c with
 |false=>rfl
 |true=>unfold Cb at a;simp only[ab] at a;have h2:=a.2.2.2.1;obtain⟨h,i,j,d,_⟩:=wP (aR w c 0).1 c 1 (aS (aQ w.Seed (w.Devices.length:Int))) (λ_=>(aH (aR w c 0).1 c).Key);have es:(add1 w c).1.Sites=w.Sites:=d.trans (jB w c 0).2.2.2.1;have e:(rJ w c).1.Sites=(aAl w c).1:=(Bi (aAV w c) c).2.2.2.1;have f:(Ey w c).1.Sites=(rJ w c).1.Sites:=(jB (appW (rJ w c).1 (bH (aQ w.Seed (w.Devices.length:Int)))) (w.Devices.length:Int) 0).2.2.2.1;show((Ey w c).1.Sites.map λs=>s.Logins.length).sum=(w.Sites.map λs=>s.Logins.length).sum;rw[f,e];unfold aAl at h2 ⊢;rw[U7 h2,es]
def bT9 (h:WIn m w)(d j:Int):((aAq w d j).2==0)=false:=by
 unfold aAq;cases ht:dL w d j&& !bZ w d with
 |false=>rfl
 |true=>rw[ab] at ht;obtain⟨_,_,a,_⟩:=Ps h (tJ ht.1).2.2;rw[ae,bm];refine bHs h (.inl ?_);rcases a with rfl|rfl<;>decide
def bUa (h:All S t w)(e:Evt):iF (bHu w e).1=iF w+(bif (bHu w e).2&&(e.1==2||e.1==5) then 1 else 0)/\(((bHu w e).2&&e.1==3)=false):=by
 obtain⟨k,d,o,v,f⟩:=e;show iF (yT w k d o v f).1=iF w+(bif (yT w k d o v f).2&&(k==2||k==5) then 1 else 0)/\((yT w k d o v f).2&&k==3)=false;have tr:∀(q:Bool) (a:AP),iF (bif q then mM w d o a else(w,1)).1=iF w+(bif (bif q then mM w d o a else(w,1)).2==0 then 1 else 0):=λq a=>by
  cases q with
  |true=>exact bPz h.wi d o a
  |false=>rfl
 unfold yT;rw[h.wi.ok];simp only[aq,ac];by_cases k1:k=1
 ·subst k1;refine⟨?_,by simp⟩;show iF (tF w).1=_;rw[show((1:Int)==2||(1:Int)==5)=false from rfl,cP];unfold tF;cases aP (tC w) with
  |false=>rfl
  |true=>exact bM8 (λs=>{s with Book:=nQ s.Book (tC w).Now}) rfl λs=>rfl
 ·rw[bm.2 k1];simp only[ac];by_cases k2:k=2
  ·subst k2;refine⟨?_,by simp⟩;rw[show((2:Int)==2||(2:Int)==5)=true from rfl,gj];exact tr _ _
  ·rw[bm.2 k2];simp only[ac,cN];by_cases k3:k=3
   ·subst k3;have hp:=bT9 h.wi d o;refine⟨?_,by show(((aAq w d o).2==0)&&_)=false;rw[hp];rfl⟩;rw[show((3:Int)==5)=false from rfl,cP];have:=tr (dL w d o&& !bZ w d) (aKh o);show iF (aAq w d o).1=_;unfold aAq at hp ⊢;rw[this,hp]
   ·rw[bm.2 k3];simp only[ac,cP,and_true];by_cases k4:k=4
    ·subst k4;rw[show((4:Int)==5)=false from rfl,cP];show iF (nP w d).1=_;refine wT ?_;unfold nP;cases dL w d 0&& !bZ w d<;>rfl
    ·rw[bm.2 k4];simp only[ac];by_cases k5:k=5
     ·subst k5;rw[show((5:Int)==5)=true from rfl,gj];exact tr _ _
     ·rw[bm.2 k5];simp only[ac,cP,dx];cases k==6 with
      |true=>exact bP1 w d
      |false=>
      simp only[ac];cases k==7 with
      |true=>exact bP0 w d o
      |false=>
      simp only[ac];cases k==8 with
      |true=>exact wT (aAw w d aKm v f).2
      |false=>
      simp only[ac];cases k==9 with
      |true=>exact wT (Bi w d).2.2.2.1
      |false=>
      simp only[ac];cases k==10 with
      |true=>exact wT (jB w d v).2.2.2.1
      |false=>
      simp only[ac];cases k==11 with
      |true=>refine wT ?_;show(fG w (yS w) v).1.Sites=_;unfold fG;cases aP w<;>rfl
      |false=>
      simp only[ac];cases k==12 with
      |true=>refine wT ?_;show(eF w).1.Sites=_;unfold eF;cases aP w&&(fD w.Hosts (aE0 w)).2<;>rfl
      |false=>
      simp only[ac];cases k==13 with
      |true=>
       refine wT ?_;show(fQ w o v).1.Sites=_;unfold fQ;cases !aP w||(decide (o<0)||decide (o>=(w.Hosts.length:Int))) with
       |true=>rfl
       |false=>simp only[ac];cases(gL (w.Hosts.getD o.toNat default) v).2<;>rfl
      |false=>rfl
def All.step (h:All S t w)(a:KeyD S)(ht:t<=58){e:Evt}(he:cCt S e):All S (t+1) (bHu w e).1:=h.apply a ht _ _ _ _ _ he
def All.run (a:KeyD S):∀(l:List Evt) (t:Nat) (w:AA),All S t w->t+l.length<=59->(∀e∈l,cCt S e)->All S (t+l.length) (cEf w l)
 |[],t,w,h,_,_=>h
 |e::l,t,w,h,ht,he=>by
  simp only[ao] at ht;have:=All.run a l (t+1) _ (h.step a (by omega) (he e (cl ..))) (by omega) λx c=>he x (cb _ c);rw[ao,show t+(l.length+1)=t+1+l.length by omega];exact this
def bW5 {n k t pin seed:Int}(h:Kk n k t pin seed=true):iF (bN n k t pin seed)=0:=by
 obtain⟨_,h2⟩:=bPy (k:=k) h;unfold iF;have:∀l:List AC,(∀s∈l,s.Logins=[])->(l.map λs=>s.Logins.length).sum=0:=by
  intro l;induction l with
  |nil=>intro _;rfl
  |cons s l a=>intro hl;rw[bo,dw,hl s (cl ..),a λx c=>hl x (cb _ c)];rfl
 exact this _ λs hs=>(h2 s hs).2.1
def All.no (h:All S t w){d j:Int}(hd:aL w d=true)(hc:wI w d=true)(o:AP):(gN w d j o).2.2≠0:=by
 by_cases ht:dL w d j=true
 ·obtain⟨hl,es,l,hs⟩:=Ps h.wi (tJ ht).2.2;obtain⟨d0,_,_⟩:=qA hd;obtain⟨K,v,r,b,n,_⟩:=h.net;obtain⟨f,e⟩:=iZ hd;refine bHs h.wi (.inr λa k c i he=> ?_);refine h.cut (eO w j) (by rw[es];exact bw hl) a k c i ?_;unfold aFl;unfold wI at hc;rw[hd,e,n.pub f] at hc;rw[he];exact hc
 ·unfold gN;rw[Bool.not_eq_true] at ht;rw[ht];exact(show(1:Int)≠0 by decide)
end
end Go.VK
