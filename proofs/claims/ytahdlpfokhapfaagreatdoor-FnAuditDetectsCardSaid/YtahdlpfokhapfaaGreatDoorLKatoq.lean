import Derived.Test.YtahdlpfokhapfaaGreatDoorXvFF
/- Printed by wip/tools: models, walks, proofs. -/
set_option linter.all false
set_option maxRecDepth 100000
namespace Go.VK
open D
def kD {h:Int}(v:Int)(h0:0<=h/\h<2147483647):∃q,hstep h v=h*1000003+v+13-2147483647*q/\(0<=hstep h v/\hstep h v<2147483647):=by
 obtain⟨h0,h1⟩:=h0;have hm:=sI (p:=v) (q:=2147483647) (by decide);have hv:fQ v 2147483647=v%2147483647:=cA (by decide);have e:hstep h v=(h*1000003+v+13)%2147483647:=by
  grind[aH,fQ,Int.tmod_eq_emod_of_nonneg,hstep]
 grind
def aW9 (k a b:Int):∃q,bI k [a,b]=k*1000009000027000028+a*1000006000009+b*1000003+11000145000724001630001411-2147483647*q:=by simp only[bI,qM,cE,fw,dq,cF,bz,df,gA];obtain⟨q0,e0,f⟩:=kD k (h:=11) (by grind);generalize hstep 11 k=c at*;obtain⟨q1,l,i⟩:=kD a (h:=c) f;generalize hstep c a=d at*;obtain⟨q2,n,j⟩:=kD b (h:=d) i;generalize hstep d b=e at*;obtain⟨q3,o,p⟩:=kD k (h:=e) j;generalize hstep e k=s at*;exact⟨q0*1000009000027000027+q1*1000006000009+q2*1000003+q3*1,by omega⟩
def aXa (k a b c:Int):∃q,bI k [a,b,c]=k*1000012000054000108000082+a*1000009000027000027+b*1000006000009+c*1000003+11000178001159003802006301004246-2147483647*q:=by simp only[bI,qM,cE,fw,dq,cF,bz,df,gA];obtain⟨q0,e0,j⟩:=kD k (h:=11) (by grind);generalize hstep 11 k=d at*;obtain⟨q1,p,l⟩:=kD a (h:=d) j;generalize hstep d a=e at*;obtain⟨q2,s,n⟩:=kD b (h:=e) l;generalize hstep e b=f at*;obtain⟨q3,u,o⟩:=kD c (h:=f) n;generalize hstep f c=i at*;obtain⟨q4,x,y⟩:=kD k (h:=i) o;generalize hstep i k=z at*;exact⟨q0*1000012000054000108000081+q1*1000009000027000027+q2*1000006000009+q3*1000003+q4*1,by omega⟩
def aXb (k a b c d:Int):∃q,bI k [a,b,c,d]=k*1000015000090000270000405000244+a*1000012000054000108000081+b*1000009000027000027+c*1000006000009+d*1000003+11000211001693007279017707023149012751-2147483647*q:=by simp only[bI,qM,cE,fw,dq,cF,bz,df,gA];obtain⟨q0,e0,n⟩:=kD k (h:=11) (by grind);generalize hstep 11 k=e at*;obtain⟨q1,x,o⟩:=kD a (h:=e) n;generalize hstep e a=f at*;obtain⟨q2,y,p⟩:=kD b (h:=f) o;generalize hstep f b=i at*;obtain⟨q3,z,s⟩:=kD c (h:=i) p;generalize hstep i c=j at*;obtain⟨q4,A,u⟩:=kD d (h:=j) s;generalize hstep j d=l at*;obtain⟨q5,D,F⟩:=kD k (h:=l) u;generalize hstep l k=G at*;exact⟨q0*1000015000090000270000405000243+q1*1000012000054000108000081+q2*1000009000027000027+q3*1000006000009+q4*1000003+q5*1,by omega⟩
def Ju (n:Int):∃e,iK n=n+e/\0<=e/\e<=1:=by
 unfold iK;by_cases h:n=0
 ·simp[*]
 ·rw[cb.2 h];exact⟨0,by simp,by decide,by decide⟩
def aXc (s i:Int):(aL s i).Seed=iK (bI s [151,277,i]):=by rfl
def aXd (s:AK):fH s=iK (bI s.Seed [151,181]):=by rfl
def aRh (s:AK)(n:ByteArray)(i:Int):dB s n i=iK (bI s.Seed [151,179,bN n,i]):=by rfl
def aM2 (s i k:Int):∃e q,(aL s i).Seed-(aL s k).Seed=(i-k)*1000003+e+2147483647*q/\-1<=e/\e<=1:=by have hi:(aL s i).Seed=iK (bI s [151,277,i]):=aXc s i;have hk:(aL s k).Seed=iK (bI s [151,277,k]):=aXc s k;obtain⟨a,c,j,l⟩:=Ju (bI s [151,277,i]);obtain⟨d,b1,n,o⟩:=Ju (bI s [151,277,k]);obtain⟨q1,f⟩:=aXa s 151 277 i;obtain⟨q2,h⟩:=aXa s 151 277 k;rw[hi,hk,c,b1,f,h];exact⟨a-d,q2-q1,by omega,by omega,by omega⟩
def dfs:List Int:=[-5,-4,-3,-2,-1,0,1,2,3,4,5]
def aTm:List Int:=[-1,0,1]
theorem aRi {d:Int}(h1: -5<=d)(h2:d<=5):d∈dfs:=by simp only[dfs,ba,gk,or_false];omega
def Tq {d:Int}(h1: -1<=d)(h2:d<=1):d∈aTm:=by grind[aTm]
def aZ9:(dfs.all λd=>d==0||aTm.all λe=>aTm.all λz=> !((d*1000003+e)*1000009000027000028-z)%2147483647==0)=true:=by kernel_rfl
def aTn {s i k:Int}(hi:0<=i/\i<6)(hk:0<=k/\k<6)(h:i≠k):fH (aL s i)≠fH (aL s k):=by
 intro he;obtain⟨e,q,d1,d2,d3⟩:=aM2 s i k;have h1:fH (aL s i)=iK (bI (aL s i).Seed [151,181]):=aXd _;have h2:fH (aL s k)=iK (bI (aL s k).Seed [151,181]):=aXd _;obtain⟨a,d,l,n⟩:=Ju (bI (aL s i).Seed [151,181]);obtain⟨c,b1,o,p⟩:=Ju (bI (aL s k).Seed [151,181]);obtain⟨q1,f⟩:=aW9 (aL s i).Seed 151 181;obtain⟨q2,j⟩:=aW9 (aL s k).Seed 151 181;rw[h1,h2,d,b1,f,j] at he;have u:(((i-k)*1000003+e)*1000009000027000028-(c-a))%2147483647=0:=by omega
 have:=cm.1 aZ9 (i-k) (aRi (by omega) (by omega));rw[cb.2 (show i-k≠0 by omega),dg] at this;have:=cm.1 (cm.1 this e (Tq d2 d3)) (c-a) (Tq (by omega) (by omega));simp_all
def hs1:Int:=1464438180
def bFl:bN (aC 0)=1941999745:=by kernel_rfl
def bFm:bN (aC 1)=1464438180:=by kernel_rfl
def aXe:(dfs.all λd=>[0,477561565,-477561565].all λ(g:Int)=>(d==0&&g==0)||aTm.all λe=>aTm.all λz=> !((d*1000003+e)*1000015000090000270000405000244+g*1000006000009+d*1000003-z)%2147483647==0)=true:=by kernel_rfl
def aM3 {s i k j l:Int}(hi:0<=i/\i<6)(hk:0<=k/\k<6)(hj:j=0\/j=1)(hl:l=0\/l=1)(h:i≠k\/j≠l):dB (aL s i) (aC j) i≠dB (aL s k) (aC l) k:=by
 intro he;obtain⟨e,q,d1,d2,d3⟩:=aM2 s i k;have h1:dB (aL s i) (aC j) i=iK (bI (aL s i).Seed [151,179,bN (aC j),i]):=aRh _ _ _;have h2:dB (aL s k) (aC l) k=iK (bI (aL s k).Seed [151,179,bN (aC l),k]):=aRh _ _ _;obtain⟨c,f,p,u⟩:=Ju (bI (aL s i).Seed [151,179,bN (aC j),i]);obtain⟨d,b1,x,y⟩:=Ju (bI (aL s k).Seed [151,179,bN (aC l),k]);obtain⟨q1,n⟩:=aXb (aL s i).Seed 151 179 (bN (aC j)) i;obtain⟨q2,o⟩:=aXb (aL s k).Seed 151 179 (bN (aC l)) k;rw[h1,h2,f,b1,n,o] at he;obtain⟨g,hg,a⟩:∃g,bN (aC j)-bN (aC l)=g/\(g∈[0,477561565,(-477561565:Int)]/\(j≠l->g≠0)):=by
  rcases hj with rfl|rfl<;>rcases hl with rfl|rfl<;>simp only[bFl,bFm]
  all_goals simp
 have z:(((i-k)*1000003+e)*1000015000090000270000405000244+g*1000006000009+(i-k)*1000003-(d-c))%2147483647=0:=by omega
 have:=cm.1 (cm.1 aXe (i-k) (by grind[aRi])) g a.1;rw[show(i-k==0&&g==0)=false by
  rcases h with h|h
  ·rw[cb.2 (show i-k≠0 by omega)];rfl
  ·rw[cb.2 (a.2 h),da],dg] at this
 have:=cm.1 (cm.1 this e (Tq d2 d3)) (d-c) (Tq (by omega) (by omega));simp_all
def aTo {n:Int}(h:0<=n/\n<2147483647):bA (iK n)=true:=by
 grind[beq_eq_false_iff_ne,decide_eq_true,iK,bA,bX]
def dR (s:Int)(l:List Int):bA (aW s l)=true:=aTo (lL _ _)
theorem J8 {k:Int}(h:bA k=true):1<=k/\k<=2147483646:=gN h
theorem bBu {k:Int}(h:bA k=true):dC k=k*48271%2147483647:=by have:=J8 h;unfold dC;rw[h,bl,aj,aH (by omega) (by omega),cn (by omega)]
theorem aRj {k:Int}(h:bA k=true):bA (dC k)=true:=by
 grind[decide_eq_true,bA,bX,bBu,J8]
theorem Gb {k:Int}(h:bA k=true):eU (dC k)=k:=by
 have:=J8 h
 grind[aRj,Bool.not_true,bBu,eU]
def aRk {a b:Int}(c:bA a=true)(hb:bA b=true)(h:dC a=dC b):a=b:=by rw[<-Gb c,h,Gb hb]
def aPh {s i k j l:Int}(hi:0<=i/\i<6)(hk:0<=k/\k<6)(hj:j=0\/j=1)(hl:l=0\/l=1)(h:i≠k\/j≠l):gH (aL s i) (aC j) i≠gH (aL s k) (aC l) k:=
 λhe=>aM3 hi hk hj hl h (aRk (dR _ _) (dR _ _) he)
def aTp {s i k:Int}(hi:0<=i/\i<6)(hk:0<=k/\k<6)(h:i≠k):aM (aL s i)≠aM (aL s k):=
 λhe=>aTn hi hk h (aRk (dR _ _) (dR _ _) he)
theorem Ah {α:Type}{p:Nat->α->Bool}:∀{l:List α} {i:Nat},(∀k (h:k<l.length),p (i+k) l[k]=false)->gX p i l=false
 |[],i,_=>rfl
 |x::l,i,h=>by
  have h0:=h 0 (by simp);have a:=Ah (p:=p) (l:=l) (i:=i+1) (λk hk=>by
   have:=h (k+1) (by simpa using hk);rw[show i+1+k=i+(k+1) by omega];simpa using this)
  simp only[gX,dt,gr] at h0 ⊢;rw[h0,a];rfl
theorem Gc {α:Type}{p:Nat->α->Bool}:∀{l:List α} {i:Nat},gX p i l=false->∀k (h:k<l.length),p (i+k) l[k]=false
 |x::l,i,h,0,_=>by simp only[gX,cg] at h;simpa using h.1
 |x::l,i,h,k+1,hk=>by
  simp only[gX,cg] at h;have:=Gc h.2 k (by simpa using hk);rw[show i+(k+1)=i+1+k by omega];simpa using this
def Gd (seed j:Int)(k:Nat):Int:=gH (aL seed (k:Int)) (aC j) (k:Int)
def Od (seed j:Int)(l:List AP):Prop:=∀k (h:k<l.length),l[k].Handle=(k:Int)/\l[k].Public=Gd seed j k/\0<=l[k].Counter/\l[k].Counter<=1000000
theorem fU {x a b:Int}(h1:a<=x)(h2:x<=b):bX x a b=true:=by grind[decide_eq_true,bX]
theorem bAa {seed j l:Int}{i k:Nat}(hi:i<6)(hk:k<6)(hj:j=0\/j=1)(hl:l=0\/l=1)(h:i≠k\/j≠l):Gd seed j i≠Gd seed l k:=
 aPh (by omega) (by omega) hj hl (by omega)
def aTq (seed j:Int)(k:Nat):eU (Gd seed j k)=dB (aL seed (k:Int)) (aC j) (k:Int):=by simp[Gb,dB,dR,Gd,gH]
theorem aBw {seed j m:Int}{l:List AP}(hj:j=0\/j=1)(h:Od seed j l)(hl:l.length<=6)(hm:1<=m/\m<=3):bD ⟨1,m,l⟩=true:=by
 have f:gX (pK ⟨1,m,l⟩) 0 l=false:=Ah λk hk=>by
  obtain⟨h1,h2,c,d⟩:=h k hk;have hp:=J8 (dR (aL seed (k:Int)).Seed [179,bN (aC j),(k:Int)]);unfold pK;rw[ck,h1,fU (by omega) (by omega),h2,aTq,cb.2 (show dB (aL seed (k:Int)) (aC j) (k:Int)≠0 by unfold dB;omega),fU c d];have n:(decide (0<k)&&decide ((l.getD (k-1) default).Handle>=(k:Int)))=false:=by
   by_cases e:0<k
   ·have a:k-1<l.length:=by omega
    have:=(h (k-1) a).1;rw[List.getD,ab a,cw,this,aq (show ¬((k-1:Nat):Int)>=(k:Int) by omega),da]
   simp[*]
  have o:((l.take k).any λq=>q.Public==Gd seed j k)=false:=by
   rw[ip];intro q hq;obtain⟨i,hi,rfl⟩:=cL.1 hq;rw[cx] at hi;rw[List.getElem_take,(h i (by omega)).2.1]
   grind[bAa]
  simp_all
 grind[fU,decide_eq_true,bX,decide,gX,pK,bD]
structure SiteIn (seed j:Int) (n:Nat) (s:AD):Prop where
 name:s.Name=aC j
 book:fJ s.Book=true
 key:bA s.Book.Seed=true
 acc:∃l,s.Accounts=[⟨1,3,l⟩]/\Od seed j l/\l.length=n
theorem Yf {j:Int}(hj:j=0\/j=1):(iB (aC j)&&decide (2<=(bC (aC j)).length))=true:=by rcases hj with rfl|rfl<;>kernel_rfl
def SiteIn.ok {seed j:Int}{n:Nat}{s:AD}(hj:j=0\/j=1)(hn:n<=6)(h:SiteIn seed j n s):dK s=true:=by
 obtain⟨h1,h2,a,l,c,d,e⟩:=h;unfold dK iX;rw[h1,Yf hj,a,h2,c];show(true&&true&&decide (1<=8)&&true&& !(Ab [⟨1,3,l⟩] 0 ⟨1,3,l⟩||false))=true
 grind[aBw,Ab]
def SiteIn.find {seed j:Int}{n:Nat}{s:AD}(h:SiteIn seed j n s):aF s 1=0:=by obtain⟨_,_,_,l,a,_⟩:=h;unfold aF;rw[a];rfl
theorem aIk {α:Type}{p:α->Bool}:∀{l:List α},(∀c∈l,p c=true)->l.takeWhile p=l
 |[],_=>rfl
 |x::l,h=>by rw[cR,h x (by simp),cA rfl,aIk (λc hc=>h c (by simp[hc]))]
def aXf {l:List AP}{p:Int}(h:∀k (h:k<l.length),l[k].Handle=(k:Int)):Ya l (l.length:Int) p=l++[⟨(l.length:Int),p,0,false⟩]:=by
 have:Kg (l.length:Int) l=l.length:=by
  grind[decide_eq_true,List.mem_iff_getElem,aIk,Kg]
 unfold Ya;rw[this,eC,gn,dq]
def Od.snoc {seed j:Int}{l:List AP}(h:Od seed j l):Od seed j (l++[⟨(l.length:Int),Gd seed j l.length,0,false⟩]):=by
 intro k hk;by_cases a:k<l.length
 ·rw[gb a];exact h k a
 grind
def SiteIn.reg {seed j:Int}{n:Nat}{s:AD}(hj:j=0\/j=1)(hn:n<6)(h:SiteIn seed j n s):
  (gG s 1 (n:Int) (Gd seed j n)).2=true/\SiteIn seed j (n+1) (gG s 1 (n:Int) (Gd seed j n)).1:=by
 have c:=h.ok hj (by omega);have d:=h.find;obtain⟨h1,h2,f,l,i,e,o⟩:=h;subst o;have q:(s.Accounts.getD (aF s 1).toNat default)=⟨1,3,l⟩:=by simp[*]
 have hi:=aXf (p:=Gd seed j l.length) (λk hk=>(e k hk).1);have hs:=e.snoc;have u:=aBw (m:=3) hj e (by omega) (by grind);have x:=aBw (m:=3) hj hs (by simp;omega) (by grind);have a:fO ⟨1,3,l⟩ (l.length:Int) (Gd seed j l.length)=(⟨1,3,l++[⟨(l.length:Int),Gd seed j l.length,0,false⟩]⟩,true):=by
  grind[bD,Ya,Gd,fO]
 unfold gG;rw[c,d,show decide ((0:Int)<0)=false from rfl,<-d,q,a,d,i];exact⟨rfl,h1,h2,f,_,rfl,hs,by simp⟩
def aPi {seed j:Int}(hj:j=0\/j=1):SiteIn seed j 0 (lC (fB (aC j) (aW seed [281,j])) 1 3).1:=by
 have hk:=dR seed [281,j];generalize aW seed [281,j]=q at*;have hn:fB (aC j) q=⟨aC j,[],⟨q,0,[]⟩,[]⟩:=by
  grind[Yf,fB,iX]
 have hb:fJ ⟨q,0,[]⟩=true:=rfl;have a:SiteIn seed j 0 (nH ⟨aC j,[],⟨q,0,[]⟩,[]⟩ 1 3):=
  ⟨rfl,hb,hk,[],rfl,λk hk=>by simp at hk,rfl⟩
 have h0:dK ⟨aC j,[],⟨q,0,[]⟩,[]⟩=true:=by unfold dK iX;rw[Yf hj,hk];rfl
 unfold lC;rw[hn,h0,a.ok hj (by omega)];exact a
def aBx {seed j:Int}(hj:j=0\/j=1):∀(m i:Nat) (s:AD),SiteIn seed j i s->i+m<=6->
  SiteIn seed j (i+m) (pO (aC j) i ((List.range' i m).map λ(k:Nat)=>bE (aL seed (k:Int))) s)
 |0,i,s,h,_=>h
 |m+1,i,s,h,hm=>by
  have:=aBx hj m (i+1) _ (h.reg hj (by omega)).2 (by omega);rw[show i+1+m=i+(m+1) by omega] at this;exact this
theorem aM4 {seed j:Int}(hj:j=0\/j=1){n:Nat}(hn:n<=6):SiteIn seed j n (Fy seed (cK seed n) j):=by have:=aBx hj n 0 _ (aPi (seed:=seed) hj) (by omega);rw[ck,<-List.range_eq_range'] at this;exact this
theorem aM5 {α:Type}{r:α->α->Prop}(ht:∀a b c,r a b->r b c->r a c):∀{l:List α},(∀k (h:k+1<l.length),r l[k] l[k+1])->l.Pairwise r
 |[],_=> .nil
 |[x],_=>List.pairwise_singleton r x
 |x::y::l,h=>by
  have e:=aM5 (r:=r) ht (l:=y::l) (λk hk=>by have:=h (k+1) (by simpa using hk);simpa using this);refine cl.2 ⟨λz d=> ?_,e⟩;have h0:r x y:=by simpa using h 0 (by simp)
  rcases ba.1 d with rfl|d
  ·exact h0
  ·exact ht _ _ _ h0 ((cl.1 e).1 z d)
structure BookIn (b:AQ):Prop where
 next:0<=b.Next/\b.Next<=1000000
 len:b.Open.length<=16
 ord:b.Open.Pairwise (λa c=>a.Id<c.Id)
 all:∀c∈b.Open,(0<=c.Id/\c.Id<b.Next)/\(0<=c.aAH/\c.aAH<=1000005)/\(0<=c.Until/\c.Until<=1000005)
def BookIn.ok {b:AQ}(h:BookIn b):fJ b=true:=by
 obtain⟨h1,h2,a,c⟩:=h;have d:gX (fA b) 0 b.Open=false:=(by grind[Ah,List.getElem_mem,fA,aH,fU,decide,default,List.pairwise_iff_getElem,List.getD,List.getElem?_eq_getElem,decide_eq_false])
 grind[fU,decide_eq_true,fJ]
def X9 {b:AQ}(h:fJ b=true):BookIn b:=by
 unfold fJ at h;simp only[aa,cD,bp] at h;obtain⟨⟨h1,h2⟩,f⟩:=h;have h1:=gN h1;have hg:∀k (hk:k<b.Open.length),((0<=b.Open[k].Id/\b.Open[k].Id<b.Next)/\(0<=b.Open[k].aAH/\b.Open[k].aAH<=1000005)/\(0<=b.Open[k].Until/\b.Open[k].Until<=1000005))/\(0<k->(b.Open.getD (k-1) default).Id<b.Open[k].Id):=λk hk=>by
  have:=Gc f k hk;unfold fA at this;rw[ck,aH (by omega) (by omega)] at this;simp only[cg,cY,Bool.and_eq_false_iff,cT] at this;obtain⟨a,i,d,e⟩:=this;have a:=gN a;have d:=gN d;have e:=gN e;omega
 refine⟨⟨h1.1,h1.2⟩,h2,(by grind[aM5,Int.lt_trans]),λc hc=> ?_⟩
 all_goals grind[List.mem_iff_getElem,Nat.add_sub_cancel,List.getD,List.getElem?_eq_getElem]
def aM6 {b:AQ}(h:BookIn b)(a n:Int):BookIn (eT b a n).1/\(eT b a n).1.Seed=b.Seed/\b.Next<=(eT b a n).1.Next/\(eT b a n).1.Next<=b.Next+1:=by
 unfold eT;rw[h.ok];by_cases hn:b.Next=1000000
 ·simp[*]
 ·rw[cb.2 hn];cases hr:bX a 0 1000000&&bX n 0 1000000 with
  |false=>grind
  |true=>
   rw[aa] at hr;have f:=gN hr.1;have i:=gN hr.2;obtain⟨h1,h2,j,k⟩:=h;have d:IntKind.i64.wrap (b.Next+1)=b.Next+1:=(by grind[aH]);have e:IntKind.i64.wrap (n+5)=n+5:=(by grind[aH]);have key:∀l:List AY,l.length<=15->l.Pairwise (λa c=>a.Id<c.Id)->(∀c∈l,c∈b.Open)->BookIn ⟨b.Seed,IntKind.i64.wrap (b.Next+1),l++[Ti b a n]⟩:=λl hl ho hm=>by
    rw[d];refine⟨(by grind),by simp;omega,?_,λc hc=> ?_⟩
    all_goals grind[q1,q2,q3,List.mem_singleton,Ti]
   grind
def SiteIn.aCM {seed j:Int}{n:Nat}{s:AD}(h:SiteIn seed j n s){b:AQ}(hb:BookIn b)(hs:b.Seed=s.Book.Seed):SiteIn seed j n {s with Book:=b}:=
 ⟨h.name,hb.ok,by show bA b.Seed=true;rw[hs];exact h.key,h.acc⟩
def SiteIn.begin {seed j:Int}{n:Nat}{s:AD}(h:SiteIn seed j n s)(i t:Int):SiteIn seed j n (aBm s i t).1:=by
 unfold aBm;cases dK s&&(!decide (aF s i<0)&&(eT s.Book i t).2.2) with
 |false=>exact h
 |true=>have:=aM6 (X9 h.book) i t;exact h.aCM this.1 this.2.1
def Od.set {seed j:Int}{l:List AP}(h:Od seed j l){k:Nat}(hk:k<l.length){c:AP}(h1:c.Handle=l[k].Handle)(h2:c.Public=l[k].Public)(a:0<=c.Counter/\c.Counter<=1000000):Od seed j (l.set k c):=by
 intro i hi;rw[fa];rw[au] at hi;split
 ·rename_i e;subst e;have:=h k hk;omega
 ·exact h i hi
def Gf {α:Type}{p:α->Bool}:∀{l:List α} {i:Nat},decide (iU p i l<0)=false->∃k,∃h:k<l.length,iU p i l=((i+k:Nat):Int)/\p l[k]=true
 |[],i,h=>by simp[iU] at h
 |x::l,i,h=>by
  unfold iU at h ⊢;cases hp:p x with
  |true=>exact⟨0,by simp,by simp,by simpa using hp⟩
  |false=>rw[hp,aj] at h;obtain⟨k,hk,a,c⟩:=Gf h;exact⟨k+1,by simpa using hk,by rw[aj,a];congr 1;omega,by simpa using c⟩
def SiteIn.aCU {seed j:Int}{n:Nat}{s:AD}(h:SiteIn seed j n s){l:List AP}(hl:Od seed j l)(hn:l.length=n)(g:List Int)(b:AQ)(hb:BookIn b)(hs:b.Seed=s.Book.Seed):SiteIn seed j n {s with Book:=b,Accounts:=[⟨1,3,l⟩],Logins:=g}:=
 ⟨h.name,hb.ok,by show bA b.Seed=true;rw[hs];exact h.key,l,rfl,hl,hn⟩
structure StIn (seed:Int) (k:Nat) (s:AK):Prop where
 ven:s.Vendor=1
 ser:s.Serial=(k:Int)
 key:s.Seed=(aL seed (k:Int)).Seed
 cnt:0<=s.Counter/\s.Counter<=1000000
structure WIn (m:Nat) (w:AA):Prop where
 seed:bA w.Seed=true
 now:0<=w.Now/\w.Now<=999900
 dlen:1<=w.Devices.length/\w.Devices.length<=6
 slen:w.Stolen.length=w.Devices.length
 dev:∀k (h:k<w.Devices.length),StIn w.Seed k w.Devices[k].Store
 two:w.Sites.length=2
 mle:m<=6
 site:∀j (h:j<w.Sites.length),SiteIn w.Seed (j:Int) m w.Sites[j]
 mail:eF w.Mail=true
 log:aT w.aAB.Log=true
def WIn.ok {m:Nat}{w:AA}(h:WIn m w):bL w=true:=by
 have hs:gX nE 0 w.Sites=false:=Ah λk hk=>by
  have h2:=h.two;have:=h.site k hk;unfold nE;rw[this.ok (by omega) h.mle,this.name,ck];simp
 unfold bL;have h2:=h.two;have a:=h.slen;have c:=h.dlen;rw[hs,h.log,h.mail,h.seed,fU h.now.1 h.now.2,fU (by omega) (by omega),a,h2];simp
def WIn.upd {m:Nat}{w v:AA}(h:WIn m w)(h1:v.Seed=w.Seed)(h2:v.Now=w.Now)(a:v.Devices.length=w.Devices.length)(c:v.Stolen.length=w.Stolen.length)
  (i:∀k (h:k<v.Devices.length),StIn w.Seed k v.Devices[k].Store) (d:v.Sites.length=2) (l:∀j (h:j<v.Sites.length),SiteIn w.Seed (j:Int) m v.Sites[j]) (e:eF v.Mail=true) (f:aT v.aAB.Log=true):WIn m v where
 seed:=by rw[h1];exact h.seed
 now:=by rw[h2];exact h.now
 dlen:=by rw[a];exact h.dlen
 slen:=by rw[a,c];exact h.slen
 dev:=by simp[*]
 two:=d
 mle:=h.mle
 site:=by simp[*]
 mail:=e
 log:=f
def WIn.aBY {m:Nat}{w:AA}(h:WIn m w){i:Nat}{x:AB}(hi:i<w.Devices.length)(a:StIn w.Seed i x.Store):∀k (h:k<(w.Devices.set i x).length),StIn w.Seed k (w.Devices.set i x)[k].Store:=λk hk=>by
 rw[fa];rw[au] at hk;split
 ·simp_all
 ·exact h.dev k hk
def qK {w:AA}{d:Int}(h:aO w d=true):0<=d/\d.toNat<w.Devices.length/\aD w d=w.Devices.getD d.toNat default:=by simp only[aO,aa,cD] at h;exact⟨h.1,by omega,rfl⟩
theorem iP {w:AA}{d:Int}(h:aO w d=true):∃h:d.toNat<w.Devices.length,aD w d=w.Devices[d.toNat]:=by simp_all[List.getD,ab,qK]
def WIn.aCD {m:Nat}{w:AA}(h:WIn m w){d:Int}(hd:aO w d=true):StIn w.Seed d.toNat (aD w d).Store:=by obtain⟨h1,h2⟩:=iP hd;rw[h2];exact h.dev _ h1
def aTr {m:AR}(h:eF m=true)(k a t:Int):eF (Me m k a t).1=true:=by
 grind[eF,Bj,Bool.or_eq_false_iff,Bool.not_eq_false',Me]
def WIn.tell {m:Nat}{w:AA}(h:WIn m w)(k:Int):WIn m (nR w k):=
 h.upd rfl rfl rfl rfl h.dev h.two h.site (aTr h.mail _ _ _) h.log
def WIn.sync {m:Nat}{w:AA}(h:WIn m w)(d b:Int):WIn m (aU w d b).1:=by
 unfold aU;cases hb:bL w&&aO w d with
 |false=>exact h
 |true=>rw[aa] at hb;obtain⟨e,a,_⟩:=qK hb.2;refine h.upd rfl rfl (au ..) rfl (h.aBY a ?_) h.two h.site h.mail h.log;have c:=h.aCD hb.2;unfold bU;cases iZ (aD w d) w.aAB.Log w.aAB.Boxes (fC w.aAB b).1==0<;>exact c
theorem J9 (d:AB):(dI d).1.Store=d.Store:=by unfold dI;cases(qQ d.Key d.Epoch (IntKind.i64.wrap (d.Version+1)) d.aAD).2<;>rfl
def WIn.up {m:Nat}{w:AA}(h:WIn m w){d:Int}(hd:aO w d=true):WIn m (X5 w d).1:=by
 unfold X5;cases(dI (aD w d)).2.2&&(bZ w.aAB (dI (aD w d)).2.1).2 with
 |false=>exact h
 |true=>obtain⟨c,a,_⟩:=qK hd;refine h.upd rfl rfl (au ..) rfl (h.aBY a (by rw[J9];exact h.aCD hd)) h.two h.site h.mail ?_;show aT (bZ w.aAB (dI (aD w d)).2.1).1.Log=true;rw[(oQ _ _).2];exact h.log
def WIn.push {m:Nat}{w:AA}(h:WIn m w)(d:Int):WIn m (vN w d).1:=by
 unfold vN;cases hb:(aU w d 0).2==0&&(X5 (aU w d 0).1 d).2 with
 |false=>exact h
 |true=>
  rw[aa] at hb;have h0:=vO hb.1;exact(h.sync d 0).up (by
   grind[aO])
def Jv (w:AA)(d b:Int):(aU w d b).1.Seed=w.Seed/\(aU w d b).1.Now=w.Now/\(aU w d b).1.Devices.length=w.Devices.length/\(aU w d b).1.Sites=w.Sites/\(aU w d b).1.Stolen=w.Stolen/\(aU w d b).1.aAB=w.aAB:=by
 grind[bL,aO,List.length_set,aU]
def bAb (w:AA)(d:Int):(X5 w d).1.Seed=w.Seed/\(X5 w d).1.Now=w.Now/\(X5 w d).1.Devices.length=w.Devices.length/\(X5 w d).1.Sites=w.Sites/\(X5 w d).1.Stolen=w.Stolen/\(X5 w d).1.aAB.Log=w.aAB.Log:=by
 grind[dI,aD,bZ,List.length_set,oQ,X5]
def Ai (w:AA)(b k p:Int)(key:List AC->Int):(gI w b k p key).1.Seed=w.Seed/\(gI w b k p key).1.Now=w.Now/\(gI w b k p key).1.Devices=w.Devices/\(gI w b k p key).1.Sites=w.Sites/\(gI w b k p key).1.Stolen=w.Stolen/\(gI w b k p key).1.Mail=w.Mail/\(aT w.aAB.Log=true->aT (gI w b k p key).1.aAB.Log=true):=by
 unfold gI
 grind[jZ,aT,bT,gL,bB,dG,aD]
def WIn.aCW {m:Nat}{w:AA}(h:WIn m w)(b k p:Int)(key:List AC->Int):WIn m (gI w b k p key).1:=by obtain⟨d,e,a,c,f,i,j⟩:=Ai w b k p key;exact h.upd d e (by rw[a]) (by rw[f]) (by rw[a];exact h.dev) (by rw[c];exact h.two) (by rw[c];exact h.site) (by rw[i];exact h.mail) (j h.log)
def aIl {seed:Int}{m:Nat}(hm:m<6):∀(l:List AD) (j:Nat),j+l.length<=2->(∀i (h:i<l.length),SiteIn seed ((j+i:Nat):Int) m l[i])->
  (kC (aL seed (m:Int)) (m:Int) j l).2=true/\(kC (aL seed (m:Int)) (m:Int) j l).1.length=l.length/\∀i (h:i<(kC (aL seed (m:Int)) (m:Int) j l).1.length),SiteIn seed ((j+i:Nat):Int) (m+1) (kC (aL seed (m:Int)) (m:Int) j l).1[i]
 |[],j,_,_=>⟨rfl,rfl,λi h=>by simp[kC] at h⟩
 |s::l,j,hj,h=>by
  have h0:SiteIn seed (j:Int) m s:=h 0 (by simp);simp only[ay] at hj;obtain⟨a,c⟩:=h0.reg (by omega) hm;obtain⟨d,f,k⟩:=aIl hm l (j+1) (by omega) (λi hi=>by
   have:=h (i+1) (by simpa using hi);rw[show j+1+i=j+(i+1) by omega];simpa using this)
  have e:gH (aL seed (m:Int)) (aC (j:Int)) (m:Int)=Gd seed (j:Int) m:=by unfold Gd;rfl
  have n:kC (aL seed (m:Int)) (m:Int) j (s::l)=((gG s 1 (m:Int) (Gd seed (j:Int) m)).1::(kC (aL seed (m:Int)) (m:Int) (j+1) l).1,true):=by rw[kC,e,a,d];rfl
  rw[n];refine⟨rfl,by simp[f],λi hi=> ?_⟩;cases i with
  |zero=>simpa using c
  |succ i=>simp only[ay] at hi;have:=k i (by omega);rw[show j+1+i=j+(i+1) by omega] at this;simpa using this
def Aj (d:AB)(n:ByteArray)(h:Int)(r:Bool):(dP d n h r).1.Store=d.Store:=by unfold dP;cases(Ac d n h r).2<;>rfl
def aBy (d:AB)(h:Int)(r:Bool):(jU d h r).Store=d.Store:=by unfold jU;rw[Aj,Aj]
theorem Oe {w v:AA}{d:Int}(h:aO w d=true)(e:v.Devices.length=w.Devices.length):aO v d=true:=by
 grind[aO]
def WIn.app {m:Nat}{w:AA}(h:WIn m w)(hl:w.Devices.length<6):WIn m (appW w (bE (aL w.Seed (w.Devices.length:Int)))) where
 seed:=h.seed
 now:=h.now
 dlen:=by grind[List.length_append,List.length_cons,List.length_nil,appW]
 slen:=by unfold appW;simp only[bc,ay,cy,h.slen]
 dev:=λk hk=>by
  have a:k<(w.Devices++[bE (aL w.Seed (w.Devices.length:Int))]).length:=hk;show StIn w.Seed k ((w.Devices++[bE (aL w.Seed (w.Devices.length:Int))])[k]'a).Store;rw[List.getElem_append];split
  ·rename_i c;exact h.dev k c
  ·simp only[bc,ay,cy] at a;have e:k=w.Devices.length:=by omega
   subst e;simp only[gp,gr];exact⟨rfl,rfl,rfl,cQ 0,show(0:Int)<=1000000 by decide⟩
 two:=h.two
 mle:=h.mle
 site:=h.site
 mail:=h.mail
 log:=h.log
def WIn.aDG {w:AA}(h:WIn w.Devices.length w){b:Int}(hn:w.Devices.length<6)(k2:aO w b=true):WIn (w.Devices.length+1) (aAW w b)/\(aAW w b).Seed=w.Seed/\(aAW w b).Devices.length=w.Devices.length:=by
 obtain⟨s1,s2,s3,s4,s5,s6⟩:=Jv w b 0;have h0:=h.sync b 0;have h1:WIn w.Devices.length (add1 w b).1:=h0.aCW _ _ _ _;obtain⟨d,l,e,n,o,p,q⟩:=Ai (aU w b 0).1 b 1 (aM (aL w.Seed (w.Devices.length:Int))) (λ_=>(aD (aU w b 0).1 b).Key);have a:(add1 w b).1.Seed=w.Seed:=d.trans s1;have c:(add1 w b).1.Devices.length=w.Devices.length:=by show(gI _ _ _ _ _).1.Devices.length=_;rw[e,s3]
 obtain⟨s,f,k⟩:=aIl (seed:=w.Seed) hn (add1 w b).1.Sites 0 (by rw[h1.two];omega) (λi hi=>by
  have:=h1.site i hi;simp_all)
 have hd:aO (add1 w b).1 b=true:=Oe k2 c;obtain⟨d0,d1,_⟩:=qK hd;refine⟨{
  seed:=by show bA (add1 w b).1.Seed=true;exact h1.seed
  now:=h1.now
  dlen:=by show 1<=((add1 w b).1.Devices.set _ _).length/\((add1 w b).1.Devices.set _ _).length<=6;rw[au];exact h1.dlen
  slen:=by show(add1 w b).1.Stolen.length=((add1 w b).1.Devices.set _ _).length;rw[au];exact h1.slen
  dev:=h1.aBY d1 (by rw[aBy];exact h1.aCD hd)
  two:=by show(aO3 w b).1.length=2;exact f.trans h1.two
  mle:=by omega
  site:=λj hj=>by
   have:=k j hj;rw[ck] at this;show SiteIn (add1 w b).1.Seed (j:Int) _ _;rw[a];exact this
  mail:=h1.mail
  log:=h1.log},a,?_⟩
 show((add1 w b).1.Devices.set _ _).length=_;rw[au,c]
def aBz {k:Int}(h:bA k=true)(l:List Int):eX (dC k) l (nQ k l)=true:=by
 have:=J8 h
 grind[Gb,bne,beq_eq_false_iff_ne,eX]
def aM7 {l:List AC}{e:AC}(h:l=[]\/aT l=true)(hs:iA l e=true)(hl:l.length<40):aT (l++[e])=true:=by
 grind[fU,Bool.not_eq_true',aT,gX,iA,Ah,List.getElem_append_left,Gc]
theorem Gg (l:List AC)(e:AC):aA (l++[e])=gY (aA l) e:=by simp[ga,aA]
theorem Ak (l:List AC)(e:AC):aB (l++[e])=bif e.Kind==2 then IntKind.i64.wrap (aB l+1) else aB l:=by simp[ga,aB]
theorem rV (l:List AC)(e:AC)(p:Int):dD (l++[e]) p=(dD l p||(e.Kind==2&&e.Device==p)):=by simp[jf,dD]
def iH (seed:Int)(k:Nat):Int:=aM (aL seed (k:Int))
theorem Al {seed:Int}{i k:Nat}(hi:i<6)(hk:k<6)(h:i≠k):iH seed i≠iH seed k:=aTp (by omega) (by omega) (by omega)
def Ao (s:AK):bA (fH s)=true:=by simp[dR,fH]
theorem eO {l:List Int}{x:Int}:gB l x=true↔x∈l:=by
 grind[List.any_eq_true,gB]
structure NewLog (seed:Int) (n:Nat) (l:List AC):Prop where
 len:l.length=n
 devs:aA l=(List.range n).map (iH seed)
 rem:∀p,dD l p=false
 ep:aB l=0
 ok:n=0\/aT l=true
def jO (seed:Int):∀n,n<=6->NewLog seed n (aQ seed n)
 |0,_=>⟨rfl,rfl,λ_=>rfl,rfl, .inl rfl⟩
 |n+1,hn=>by
  obtain⟨h1,h2,h,j,c⟩:=jO seed n (by omega);have a:gB (aA (aQ seed n)) (iH seed n)=false:=by rw[ir,Ne,eO,h2];intro hm;obtain⟨i,hi,e⟩:=ci.1 hm;have hi:=jl.1 hi;exact Al (by omega) (by omega) (by omega) e
  have d:iA (aQ seed n) (xC (aQ seed n) 1 (iH seed n) (aL seed 0))=true:=by
   unfold iA;have v:eX (aM (aL seed 0)) [bJ (aBj (aQ seed n) 1 (iH seed n) (aL seed 0))] (kH (aL seed 0) [bJ (aBj (aQ seed n) 1 (iH seed n) (aL seed 0))])=true:=by unfold kH aM;exact aBz (Ao _) _
   show(((aQ seed n).length:Int)==((aQ seed n).length:Int)&&(eH (aQ seed n)==eH (aQ seed n)&&((gB (aA (aQ seed n)) (aM (aL seed 0))||(((aQ seed n).length:Int)==0&&aM (aL seed 0)==iH seed n))&&(eX (aM (aL seed 0)) [bJ (aBj (aQ seed n) 1 (iH seed n) (aL seed 0))] (kH (aL seed 0) [bJ (aBj (aQ seed n) 1 (iH seed n) (aL seed 0))])&&
    (!dD (aQ seed n) (iH seed n)&&(true&&(!gB (aA (aQ seed n)) (iH seed n)&&decide (((aA (aQ seed n)).length:Int)<6))))))))=true
   rw[v,h,a,h2,h1];have f:(gB ((List.range n).map (iH seed)) (aM (aL seed 0))||((n:Int)==0&&aM (aL seed 0)==iH seed n))=true:=by
    cases n with
    |zero=>simp[iH]
    |succ n=>rw[show gB ((List.range (n+1)).map (iH seed)) (aM (aL seed 0))=true from eO.2 (ci.2 ⟨0,by simp,rfl⟩)];rfl
   rw[f];simp;omega
  have hl:=aM7 (l:=aQ seed n) (by
   rcases c with c|c
   ·subst c;exact .inl rfl
   ·exact .inr c) d (by omega)
  have e:aQ seed (n+1)=aQ seed n++[xC (aQ seed n) 1 (iH seed n) (aL seed 0)]:=by
   show(dG (aQ seed n) 1 (aM (aL seed (n:Int))) (aL seed 0)).1=_;unfold dG;have hq:(decide (((aQ seed n).length:Int)>0)&& !aT (aQ seed n))=false:=by
    rcases c with c|c
    ·subst c;rfl
    ·rw[c];simp
   rw[hq,show aM (aL seed (n:Int))=iH seed n from rfl,hl];rfl
  rw[e];refine⟨by simp[h1],?_,λp=> ?_,?_, .inr hl⟩
  ·rw[Gg,gv,eL,<-h2];unfold gY;have hc:(aA (aQ seed n)).contains (iH seed n)=false:=by rw[ir] at a ⊢;intro hc;exact a (eO.2 (by simpa using hc))
   show(bif (1:Int)==1 then(bif (aA (aQ seed n)).contains (iH seed n) then _ else _) else _)=_;rw[hc];rfl
  ·rw[rV,h];rfl
  ·rw[Ak,j];rfl
theorem aIm {e:Int}{d:List Int}(hd:d.length<=200):∀(l:List Int) (i:Nat),(∀p∈l,bA p=true)->1<=e+(i:Int)->e+(i:Int)+(l.length:Int)<=2147483646->
  (fE e d i l).2=true/\(fE e d i l).1.length=l.length/\(fE e d i l).1.map (·.To)=l/\∀k (h:k<(fE e d i l).1.length) (h2:k<l.length),(fE e d i l).1[k]=kI l[k] (e+((i+k:Nat):Int)) d
 |[],i,_,_,_=>⟨rfl,rfl,rfl,λk h _=>by simp[fE] at h⟩
 |p::l,i,hp,h1,h2=>by
  simp only[ay] at h2;obtain⟨j,n,o,s⟩:=aIm (e:=e) hd l (i+1) (λq hq=>hp q (by simp[hq])) (by push_cast;omega) (by push_cast at h2 ⊢;omega);have hk:=hp p (by simp);have hq:=J8 hk;have u:IntKind.i64.wrap (e+(i:Int))=e+(i:Int):=aH (by omega) (by push_cast at h2;omega);have a:eU p≠0:=by unfold eU;rw[hk,bl,aj];omega
  have hb:fD p (IntKind.i64.wrap (e+(i:Int))) d=(kI p (e+(i:Int)) d,true):=by unfold fD;rw[u,cb.2 a,show bA (e+(i:Int))=true from fU (by omega) (by push_cast at h2;omega),aq (show ¬(d.length:Int)>200 by omega)];rfl
  have x:fE e d i (p::l)=(kI p (e+(i:Int)) d::(fE e d (i+1) l).1,true):=by rw[fE,hb,j];rfl
  rw[x];refine⟨rfl,by simp[n],?_,λk c f=> ?_⟩
  ·simp only[bm,o];rfl
  ·cases k with
   |zero=>rfl
   |succ k=>simp only[ay] at c f;have:=s k (by omega) (by omega);simp only[fu];rw[this];congr 1;push_cast;omega
def aXg {l:List AN}{p:Int}:∀(n:Int),0<=n->n+(l.length:Int)<=1000000->l.foldl (λn b=>bif b.To==p then IntKind.i64.wrap (n+1) else n) n=n+((l.filter λb=>b.To==p).length:Int):=by induction l<;>grind[List.length_cons,aH]
def aTs {l:List AN}(h:(l.map (·.To)).Nodup){p:Int}(hp:p∈l.map (·.To)):(l.filter λb=>b.To==p).length=1:=by induction l<;>grind[List.nodup_cons,List.filter_eq_nil_iff,absurd,beq_eq_false_iff_ne]
def aIn {log:List AC}{bx:AM}(h1:bx.Epoch=aB log)(h2:bx.Boxes.map (·.To)=aA log)(a:(aA log).Nodup)(c:(aA log).length<=1000):gL bx log=true:=by
 have hl:bx.Boxes.length=(aA log).length:=by rw[<-h2,bh]
 unfold gL;rw[h1,hl,gi,gi,en,cM,cm];intro p hp;unfold pM;rw[aXg 0 (by omega) (by omega),aTs (by rw[h2];exact a) (by rw[h2];exact hp)];rfl
theorem bBv (a b:Int):(gQ [a,b]).length<=12:=by
 grind[List.flatten_cons,List.flatten_nil,List.length_append,gQ,aBc]
def Yg {log:List AC}{key eph:Int}(h1:aT log=true)(h2:bA key=true)(a:∀p∈aA log,bA p=true)(c:(aA log).length<=1000)(d:1<=eph/\eph<=1000000):
  (bB log key eph).2=true/\(bB log key eph).1.Epoch=aB log/\(bB log key eph).1.Boxes.map (·.To)=aA log/\∀k (h:k<(bB log key eph).1.Boxes.length) (h2:k<(aA log).length),(bB log key eph).1.Boxes[k]=kI (aA log)[k] (eph+(k:Int)) (gQ [aB log,key]):=by
 grind[s4,s3,bB,aB,fE,gQ,aA,s1,s2,aIm,bBv]
theorem Tt (seed:Int)(k:Nat):bA (iH seed k)=true:=by simp[aRj,Ao,iH,aM]
def aM8 {seed:Int}{n:Nat}(hn:n<=6):((List.range n).map (iH seed)).Nodup:=by
 rw[jk,io];refine(List.pairwise_lt_range).imp_of_mem ?_
 grind[Al]
theorem Og {seed:Int}{n:Nat}(h0:1<=n)(hn:n<=6):gL (fK seed n) (aQ seed n)=true/\aT (aQ seed n)=true/\(fK seed n).Epoch=0:=by
 obtain⟨h1,h2,f,c,d⟩:=jO seed n hn;have hl:aT (aQ seed n)=true:=d.resolve_left (by omega);have hlen:(aA (aQ seed n)).length<=1000:=by grind
 obtain⟨h,a,e,j⟩:=Yg (key:=bM seed 0) (eph:=1000) hl (by unfold bM;exact dR _ _) (λp hp=>by
  rw[h2] at hp;obtain⟨i,_,rfl⟩:=ci.1 hp;exact Tt _ _) hlen ⟨by decide,by decide⟩
 refine⟨aIn a e (by rw[h2];exact aM8 hn) hlen,hl,?_⟩;unfold fK;rw[a,c]
def aM9 {seed:Int}{n:Nat}(h0:1<=n)(hn:n<=6):(fM seed n).Log=aQ seed n:=by
 grind[dN,oQ,fM,Og]
theorem K3 (d:AB)(l:List AC)(k:Int):(jN d l k).1.Store=d.Store:=by unfold jN;cases !aT l||(!bT l d.Log||(decide (aB l<d.Epoch)|| !bA k))<;>rfl
theorem aFo (d:AB)(l:List AC)(b:AM)(s:AI):(bU d l b s).1.Store=d.Store:=by unfold bU;cases iZ d l b s==0<;>rfl
theorem aB0 (nm:ByteArray):∀(i:Nat) (d:AB),(Ae nm i d).Store=d.Store
 |0,d=>rfl
 |i+1,d=>by
  show(dP (Ae nm i d) nm (i:Int) false).1.Store=_;rw[Aj,aB0 nm i d]
def aTt {seed:Int}{n:Nat}(h0:1<=n):(iG seed n).length=n/\∀k (h:k<(iG seed n).length),(iG seed n)[k].Store=aL seed (k:Int):=by
 have hl:(iG seed n).length=n:=by
  grind[List.length_cons,List.length_map,List.length_drop,List.length_range,iG,cK]
 grind[nwW,J9,jK,rU,aB0,K3,cK,tN,iG,aFo,bE]
def K4 {n k t pin seed:Int}(h:Af n k t pin seed=true):WIn n.toNat (aZ n k t pin seed)/\(aZ n k t pin seed).Devices.length=n.toNat/\(aZ n k t pin seed).Seed=seed:=by
 have hb:=h;unfold Af at hb;simp only[aa] at hb;obtain⟨b1,e,f,i,c⟩:=hb;have r:=gN b1;unfold aZ;rw[h,ae];obtain⟨d1,d2⟩:=aTt (seed:=seed) (n:=n.toNat) (by omega);have a:=aM9 (seed:=seed) (n:=n.toNat) (by omega) (by omega);have d:=(Og (seed:=seed) (n:=n.toNat) (by omega) (by omega)).2.1;refine⟨{seed:=c,now:=⟨cQ 0,show(0:Int)<=999900 by decide⟩,dlen:= ?_,slen:= ?_,dev:= ?_,two:=rfl,mle:=by omega,site:= ?_,mail:=rfl,log:= ?_},d1,rfl⟩
 ·grind
 ·show(List.replicate n.toNat false).length=(iG seed n.toNat).length;rw[eS,d1]
 ·intro j hj;show StIn seed j ((iG seed n.toNat)[j]'hj).Store;rw[d2 j hj];exact⟨rfl,rfl,rfl,cQ 0,show(0:Int)<=1000000 by decide⟩
 all_goals grind[aT,fM,tL,cK,aM4]
theorem SiteIn.cut {seed j:Int}{n:Nat}{s:AD}(h:SiteIn seed j n s)(t:Int):SiteIn seed j n (eQ t s):=by
 have a:=h.find;obtain⟨l,e,hl,hn⟩:=h.acc;have c:kP s 0=⟨1,3,l⟩:=by grind[kP]
 unfold eQ;rw[a,show decide ((0:Int)>=0)=true from rfl,ae,c,show(0:Int).toNat=0 from rfl,e];have key:∃l',(kJ ⟨1,3,l⟩ t).1=⟨1,3,l'⟩/\Od seed j l'/\l'.length=l.length:=by
  unfold kJ;cases hb: !bD ⟨1,3,l⟩||(decide (bF ⟨1,3,l⟩ t<0)||(jH ⟨1,3,l⟩ (bF ⟨1,3,l⟩ t)).Cut) with
  |true=>simp[*]
  |false=>
   simp only[cg] at hb;obtain⟨k,hk,d,o⟩:=Gf (l:=l) hb.2.1;have f:bF ⟨1,3,l⟩ t=(k:Int):=d.trans (by simp);have i:jH ⟨1,3,l⟩ (k:Int)=l[k]:=by grind[List.getD,List.getElem?_eq_getElem,jH]
   rw[f,i,aj,bj];exact⟨_,rfl,hl.set hk rfl rfl (hl k hk).2.2,au⟩
 obtain⟨l',q1,q2,q3⟩:=key;rw[q1];have:=h.aCU q2 (q3.trans hn) s.Logins s.Book (X9 h.book) rfl;exact this
def bDt {α β:Type}{P:Nat->β->Prop}{f:α->β}{l:List α}(h:∀j (hj:j<l.length),P j (f l[j])):∀j (hj:j<(l.map f).length),P j (l.map f)[j]:=(by simp[*])
theorem WIn.cut {m:Nat}{w:AA}(h:WIn m w)(b t:Int):WIn m (dA w b t).1/\(dA w b t).1.Seed=w.Seed/\(dA w b t).1.Devices.length=w.Devices.length:=by
 unfold dA;cases hq:(aU w b 0).2==0&&(!gF w b&&(!(b==t)&&aV w t)) with
 |false=>simp[*]
 |true=>
  simp only[aa] at hq;have h0:=(vO hq.1).1;simp only[ae];unfold lM;cases(jV w b t).2&&((cut2 w b t).2&&(Ct w b t).2) with
  |false=>simp[*]
  |true=>
   obtain⟨s1,s2,s3,s4,s5,s6⟩:=Jv w b 0;have e:WIn m (iM w b):=h.sync b 0;have h1:WIn m (jV w b t).1:=e.aCW _ _ _ _;obtain⟨f,n,i,o,p,q,u⟩:=Ai (iM w b) b 2 (aM (aD w t).Store) (jA (aD (iM w b) b).Store);have d:(jV w b t).1.Devices=(iM w b).Devices:=i;have hd:aO (jV w b t).1 b=true:=Oe h0.2 (by rw[d];exact s3);obtain⟨d0,d1,_⟩:=qK hd;have a:StIn (jV w b t).1.Seed b.toNat (jU (cut2 w b t).1 t true).Store:=by
    rw[aBy];unfold cut2;rw[K3];have:=h1.aCD hd
    grind[aD,jV,iM]
   have k:WIn m (Tg w b t):=by refine h1.upd rfl rfl (au ..) rfl (h1.aBY d1 a) (by show((jV w b t).1.Sites.map (eQ t)).length=2;rw[bh];exact h1.two) (bDt (P:=λj s=>SiteIn (jV w b t).1.Seed ((j:Nat):Int) m s) λj hj=>(h1.site j hj).cut t) h1.mail h1.log
   have c:aO (Tg w b t) b=true:=Oe hd (au ..);have l:WIn m (Ct w b t).1:=k.up c;obtain⟨u1,u2,u3,u4,u5,u6⟩:=bAb (Tg w b t) b;refine⟨l.tell 4,?_,?_⟩
   ·show(Ct w b t).1.Seed=w.Seed;exact u1.trans (f.trans s1)
   ·show(Ct w b t).1.Devices.length=w.Devices.length;refine u3.trans ?_;show((jV w b t).1.Devices.set _ _).length=_;rw[au,d];exact s3
def aNa {α:Type}[Inhabited α]{f:α->Nat}{K:Nat}{x:α}:∀{l:List α} {i:Nat},i<l.length->f x<=f (l.getD i default)+K->((l.set i x).map f).sum<=(l.map f).sum+K
 |y::l,0,_,h=>by
  simp only[List.getD,gm,cw] at h;simp only[ia,bm,eg];omega
 |y::l,i+1,hi,h=>by
  have:=aNa (f:=f) (l:=l) (i:=i) (x:=x) (K:=K) (by simpa using hi) (by simpa[List.getD] using h);simp only[fN,bm,eg];omega
def Yh {w:AA}{d:Int}(hd:aO w d=true){x:AB}{K:Nat}(a:x.sz<=(aD w d).sz+K):({w with Devices:=w.Devices.set d.toNat x}:AA).sz<=w.sz+K:=by
 obtain⟨h0,h1,h2⟩:=qK hd;have:=aNa (f:=AB.sz) (K:=K) h1 (by assumption)
 grind[AA.sz,List.length_set]
def WIn.aDC {m:Nat}{w:AA}(h:WIn m w):w.aAB.Log.length<=40:=by have:=h.log;unfold aT at this;rw[aa] at this;have:=gN this.1;omega
def aXh {m:Nat}{w:AA}(h:WIn m w)(d b:Int):(aU w d b).1.sz<=w.sz+60:=by
 have hl:=h.aDC;unfold aU;cases hb:bL w&&aO w d with
 |false=>simp
 |true=>rw[aa] at hb;simp only[ae];have:=aBi (aD w d) w.aAB.Log w.aAB.Boxes (fC w.aAB b).1;exact Yh hb.2 (by omega)
def add_add {w:AA}(h:WIn w.Devices.length w)(b:Int):(iD w b).1.sz<=w.sz+2500:=by
 have hl:=h.aDC;unfold iD;cases a:Te w b with
 |false=>simp
 |true=>
  unfold Te at a;simp only[aa,bp,cT] at a;obtain⟨⟨k1,k2,k3,k4⟩,k5,k6,k7,k8,k9⟩:=a;obtain⟨s1,s2,s3,s4,s5,s6⟩:=Jv w b 0;have a0:=aXh h b 0;have h0:=h.sync b 0;have h1:WIn w.Devices.length (add1 w b).1:=h0.aCW _ _ _ _;obtain⟨c,z2,f,k⟩:=aBk (aU w b 0).1 b 1 (aM (aL w.Seed (w.Devices.length:Int))) (λ_=>(aD (aU w b 0).1 b).Key);rw[s6] at c z2;have c:(add1 w b).1.sz<=(aU w b 0).1.sz+14*(w.aAB.Log.length+1):=c;have z2:(add1 w b).1.aAB.Log.length<=w.aAB.Log.length+1:=z2;have hd:aO (add1 w b).1 b=true:=Oe k2 (by show(gI _ _ _ _ _).1.Devices.length=_;rw[f,s3]);obtain⟨o,p⟩:=aH9 (st:=aL w.Seed (w.Devices.length:Int)) (n:=(w.Devices.length:Int)) (j:=0) (l:=(add1 w b).1.Sites);have s:=h1.two;have i:(aAW w b).sz<=(add1 w b).1.sz+4:=by
   have q:=Yh (w:=(add1 w b).1) hd (x:=jU (aD (add1 w b).1 b) (w.Devices.length:Int) false) (K:=2) (aKd _ _ _)
   grind[AA.sz,aAW,aO3]
  have e:=(aRa (w:=aAW w b) (d:=b) k8).2;have e:(aFm w b).1.sz<=(aAW w b).sz+(aAW w b).aAB.Log.length+521:=e;have pl:=(aRa (w:=aAW w b) (d:=b) k8).1;have pl:(aFm w b).1.aAB.Log=(aAW w b).aAB.Log:=pl;have u:(aAW w b).aAB.Log.length=(add1 w b).1.aAB.Log.length:=rfl;have ap:=aZy (aFm w b).1 (bE (aL w.Seed (w.Devices.length:Int)));have nd:(bE (aL w.Seed (w.Devices.length:Int))).sz=0:=rfl;have y:=(vO (w:=appW (aFm w b).1 (bE (aL w.Seed (w.Devices.length:Int)))) k9).2.2.2
  grind[aRb,aO4,appW,aFm,bE,aL]
def bAc {m:Nat}{w:AA}(h:WIn m w)(b t:Int):(dA w b t).1.sz<=w.sz+2500:=by
 have hl:=h.aDC;unfold dA;cases hq:(aU w b 0).2==0&&(!gF w b&&(!(b==t)&&aV w t)) with
 |false=>simp
 |true=>
  simp only[aa] at hq;obtain⟨q1,q2,q3,q4⟩:=vO hq.1;simp only[ae];unfold lM;cases(jV w b t).2&&((cut2 w b t).2&&(Ct w b t).2) with
  |false=>simp
  |true=>
   obtain⟨c,z2,a,f⟩:=aBk (iM w b) b 2 (aM (aD w t).Store) (jA (aD (iM w b) b).Store);have e0:(iM w b).aAB.Log=w.aAB.Log:=by show(aU w b 0).1.aAB.Log=_;rw[q2]
   rw[e0] at c z2;have c:(jV w b t).1.sz<=(iM w b).sz+14*(w.aAB.Log.length+1):=c;have a:(jV w b t).1.Devices=(iM w b).Devices:=a;have q4:(iM w b).sz<=w.sz+w.aAB.Log.length+20:=q4;have hd:aO (jV w b t).1 b=true:=Oe q1.2 (by rw[a];exact q3);have i:(Tf w b t).length<=w.aAB.Log.length+1:=by
    grind[tH,iM,aM,aD,Tf]
   have d:aD (jV w b t).1 b=aD (iM w b) b:=by unfold aD;rw[a]
   have e:(jU (cut2 w b t).1 t true).sz<=(aD (jV w b t).1 b).sz+(w.aAB.Log.length+3):=by
    grind[cut2,aD,iM,Tf,aBl,jA,aKd]
   have j:(Tg w b t).sz<=(jV w b t).1.sz+(w.aAB.Log.length+3):=by
    have q:=Yh (w:=(jV w b t).1) hd e
    grind[AA.sz,List.length_map,Tg,aMx,jV]
   grind[aRb,Ct,Tg,bBi,aO,Oe,List.length_set]
structure Kept (w v:AA):Prop where
 wi:WIn v.Devices.length v
 seed:v.Seed=w.Seed
 sz:v.sz<=w.sz+3000
def Kept.of {w v:AA}(h:WIn w.Devices.length v/\v.Seed=w.Seed/\v.Devices.length=w.Devices.length)(a:v.sz<=w.sz+3000):Kept w v:=⟨by rw[h.2.2];exact h.1,h.2.1,a⟩
def Yi {b:List Int}{p:Nat}{h:Int}{t:List Int}(e:b.drop p=h::t):p<b.length/\b.getD p 0=h/\b.drop (p+1)=t:=by
 grind[List.getD,List.getElem?_eq_getElem,List.drop_eq_getElem_cons,List.length,List.length_drop,List.length_cons]
def split_mul (r P:Int):r*P=r/128*(P*128)+r%128*P:=by
 have h:128*(r/128)+r%128=r:=Int.mul_ediv_add_emod r 128
 conv=>lhs;rw[<-h]
 rw[Int.add_mul,iq 128,Int.mul_assoc,iq 128 P]
def aRl {b y:List Int}{p:Nat}:∀(k i:Nat) (n r:Int),b.drop (p+i)=Xd k r++y->0<=r->r<128^(k+1)->(0<i->r≠0)->0<=n->n+r*128^i<=1000000000000->
  uvG b p (k+1) i n=(n+r*128^i,((p+i+(Xd k r).length:Nat):Int),true)
 |0,i,n,r,hd,h0,h1,hi,hn,hm=>by
  obtain⟨d1,d2,d3⟩:=Yi (show b.drop (p+i)=r::y from hd);have hr:r<128:=by simpa using h1
  unfold uvG;rw[cA d1,d2,av hr,ae,show r%128=r by omega,aq (show ¬n+r*128^i>1000000000000 by omega),gf];have:(decide (0<i)&&r==0)=false:=by
   by_cases c:0<i
   ·rw[cb.2 (hi c),da]
   ·rw[aq c,fW]
  rw[this];rfl
 |k+1,i,n,r,hd,h0,h1,hi,hn,hm=>by
  have hp:(0:Int)<=128^i:=Int.pow_nonneg (by decide);have hs:=split_mul r (128^i);have a:(128:Int)^(i+1)=128^i*128:=fb ..;unfold Xd at hd ⊢;by_cases hb:r>127
  ·rw[av hb,ae] at hd ⊢;obtain⟨d1,d2,d3⟩:=Yi (show b.drop (p+i)=(r%128+128)::(Xd k (r/128)++y) from hd);have hq:(r/128)<128^(k+1):=by have:(128:Int)^(k+1+1)=128^(k+1)*128:=fb ..;omega
   have e:0<=r%128*128^i:=jo (by omega) hp;have d:=aRl k (i+1) (n+r%128*128^i) (r/128) (by rw[show p+(i+1)=p+i+1 by omega];exact d3) (by omega) hq (λ_=>by omega) (by omega) (by rw[a];omega);rw[uvG,cA d1,d2,aq (show ¬r%128+128<128 by omega),aj,show(r%128+128)%128=r%128 by omega,d,a];simp only[ay,cG,and_true];constructor
   ·omega
   ·congr 1;omega
  ·rw[aq hb,aj] at hd ⊢;obtain⟨d1,d2,d3⟩:=Yi (show b.drop (p+i)=r::y from hd);unfold uvG;rw[cA d1,d2,av (show r<128 by omega),ae,show r%128=r by omega,aq (show ¬n+r*128^i>1000000000000 by omega),gf];have:(decide (0<i)&&r==0)=false:=by
    by_cases c:0<i
    ·rw[cb.2 (hi c),da]
    ·rw[aq c,fW]
   rw[this];rfl
def aRm {x y:List Int}{n:Int}(h:0<=n/\n<=1000000000000):xA (x++(enc1 n++y)) (x.length:Int)=(n,((x.length+(enc1 n).length:Nat):Int),true):=by
 have e:=X4 h;unfold xA;rw[dc (by omega),bj,e];have hp:(128:Int)^(5+1)=4398046511104:=by decide
 have:=aRl (b:=x++(Xd 5 n++y)) (y:=y) (p:=x.length) 5 0 0 n (by simp) h.1 (by omega) (λh=>by omega) (by decide) (by simp;omega);simp[*]
def aB1:∀(t x y s:List Int),aFl t->jE (x++(gQ t++y)) t.length (x.length:Int) s=(s++t,((x.length+(gQ t).length:Nat):Int),true)
 |[],x,y,s,_=>by simp[jE,gQ]
 |n::t,x,y,s,h=>by
  have hn:=h n (by simp);have c:=aRm (x:=x) (y:=gQ t++y) hn;rw[oO,ce];show jE _ (t.length+1) _ _=_;rw[jE,c];simp only[ae];have a:=aB1 t (x++enc1 n) y (s++[n]) (λv hv=>h v (by simp[hv]));rw[bc,ce] at a;rw[a];simp[eM]
def aB2:∀l:List AG,lV (iQ l)=l/\nG (iQ l)=true
 |[]=>⟨rfl,rfl⟩
 |e::l=>by
  obtain⟨h1,h2⟩:=aB2 l;have a:iQ (e::l)=aMs e++iQ l:=by simp[iQ]
  rw[a];obtain⟨s,h,v,d⟩:=e;cases d with
  |true=>exact⟨by show(⟨s,h,v,(1:Int)==1⟩:AG)::lV (iQ l)=_;rw[h1];rfl,by show(decide ((1:Int)<=1)&&nG (iQ l))=true;rw[h2];rfl⟩
  |false=>exact⟨by show(⟨s,h,v,(0:Int)==1⟩:AG)::lV (iQ l)=_;rw[h1];rfl,by show(decide ((0:Int)<=1)&&nG (iQ l))=true;rw[h2];rfl⟩
def aTu {b:AF}(h:aP b=true):∀e∈b.Entries,(0<=e.Site/\e.Site<=2147483646)/\(0<=e.Handle/\e.Handle<=1000000)/\(1<=e.Version/\e.Version<=1000000):=λe he=>by
 unfold aP at h;rw[aa,bp] at h;obtain⟨i,hi,rfl⟩:=cL.1 he;have:=Gc h.2 i hi;unfold aJ8 at this;simp only[cg,cY] at this;have h1:=gN this.1;have h2:=gN this.2.1;have a:=gN this.2.2.1;omega
def bAd {b:AF}(h:aP b=true):aFl (sW b):=λv hv=>by
 have hl:=mI h;unfold sW at hv;rcases bo.1 hv with hv|hv
 ·grind
 ·unfold iQ at hv;obtain⟨e,he,hv⟩:=List.mem_flatMap.1 hv;obtain⟨h1,h2,a⟩:=aTu h e he
  grind[aMs]
def aTv {b:AF}(h:aP b=true):Md (mU b)=(b,true):=by
 have hl:=mI h;have hv:=bAd h;have he:mU b=enc1 (b.Entries.length:Int)++gQ (iQ b.Entries):=by unfold mU sW;rw[h,ae];rfl
 have c:xA (mU b) 0=((b.Entries.length:Int),(((enc1 (b.Entries.length:Int)).length:Nat):Int),true):=by have:=aRm (x:=[]) (y:=gQ (iQ b.Entries)) (n:=(b.Entries.length:Int)) (by omega);simp_all
 have hd:=aB1 (iQ b.Entries) (enc1 (b.Entries.length:Int)) [] [] (λv d=>hv v (by grind[sW]));rw[dq,<-he,sF,bz] at hd;have a:(((enc1 (b.Entries.length:Int)).length+(gQ (iQ b.Entries)).length:Nat):Int)=((mU b).length:Int):=by rw[he,bc]
 obtain⟨e,f⟩:=aB2 b.Entries;unfold Md;rw[c,show(4*(b.Entries.length:Int)).toNat=4*b.Entries.length by omega,hd,aq (show ¬(b.Entries.length:Int)>20 by omega)];simp_all[aQ9]
theorem aRn {α β:Type}{y:Nat->α->β}:∀{l:List α} {i k:Nat} (h:k<l.length) (h2:k<(Co (λi x=>[y i x]) i l).length),(Co (λi x=>[y i x]) i l)[k]=y (i+k) l[k]
 |x::l,i,0,_,_=>rfl
 |x::l,i,k+1,h,h2=>by
  have:=aRn (y:=y) (l:=l) (i:=i+1) (k:=k) (by simpa using h) (by rw[nD];simpa using h);rw[show i+1+k=i+(k+1) by omega] at this;exact this
theorem aNb {k:Int}{d:List Int}(h:∀z∈d,0<=z/\z<=255):Kc k (lZ k d)=d:=by
 apply List.ext_getElem
 ·unfold Kc lZ;rw[nD,nD]
 ·intro i h1 h2;have a:i<(lZ k d).length:=by simp_all[nD,lZ]
  grind[IntKind.wrap_u8,bI,aJ5,aTd,List.getElem_mem,lZ,aRn,Kc]
def aTw {k e v:Int}{b:AF}(hk:bA k=true)(he:0<=e/\e<=1000000)(hv:0<=v/\v<=1000000)(hb:aP b=true):jY k (dZ k e v b)=(b,true):=by
 have hm:(dZ k e v b).MAC=kY k (dZ k e v b):=by simp[dZ,kY]
 unfold jY;rw[hm,dk,hk,show(dZ k e v b).Epoch=e from rfl,show(dZ k e v b).Version=v from rfl,fU he.1 he.2,fU hv.1 hv.2];show Md (Kc (kZ k e v) (lZ (kZ k e v) (mU b)))=(b,true);rw[aNb (Fs (aBh b)),aTv hb]
def aXi {p e:Int}{d:List Int}(hp:bA p=true)(he:bA e=true)(hl:d.length<=200)(hd:∀z∈d,0<=z/\z<=255):dY p (kI (dC p) e d)=(d,true):=by
 grind[Fu,bne_self_eq_false,decide_eq_false,aNb,dY,kI,dC,Ke,fI,Gb,lZ]
def aPj {p:Int}{b:AN}(h:b.To≠dC p):(dY p b).2=false:=by unfold dY;rw[bne,cb.2 h];cases bA p<;>rfl
def aB3 {p:Int}{d:List Int}(hp:bA p=true)(hl:d.length<=200)(hd:∀z∈d,0<=z/\z<=255):∀{bs:List AN} {k:Nat} (hk:k<bs.length),(∀j (hj:j<bs.length),j<k->bs[j].To≠dC p)->(∃e,bA e=true/\bs[k]=kI (dC p) e d)->eG bs p=(d,true)
 |b::bs,0,_,_,⟨e,he,hb⟩=>by
  have hb:b=kI (dC p) e d:=hb;rw[eG,hb,aXi hp he hl hd];rfl
 |b::bs,k+1,hk,hn,⟨e,he,hb⟩=>by
  have h0:b.To≠dC p:=hn 0 (by simp) (by omega);rw[eG,aPj h0,aj];exact aB3 hp hl hd (by simpa using hk) (λj hj a=>hn (j+1) (by simpa using hj) (by omega)) ⟨e,he,hb⟩
structure BoxIn (log:List AC) (bx:AM) (key:Int):Prop where
 ep:bx.Epoch=aB log
 to:bx.Boxes.map (·.To)=aA log
 nd:(aA log).Nodup
 kok:bA key=true
 box:∀k (h:k<bx.Boxes.length),∃e,bA e=true/\bx.Boxes[k]=kI bx.Boxes[k].To e (gQ [aB log,key])
 eps:0<=aB log/\aB log<=40
def bDu {k:Int}(h:bA k=true):0<=k/\k<=1000000000000:=by have:=J8 h;omega
def Ap {log:List AC}{bx:AM}{key:Int}(h:BoxIn log bx key){s:AK}(hs:aM s∈aA log):bS s bx=(key,true):=by
 obtain⟨h1,h2,f,i,l,o⟩:=h;rw[<-h2] at hs f;obtain⟨k,hk,e⟩:=cL.1 hs;have a:k<bx.Boxes.length:=by simpa using hk
 have e:bx.Boxes[k].To=dC (fH s):=by rw[jb] at e;rw[e];rfl
 have hd:(gQ [aB log,key]).length<=12:=bBv _ _;have n:eG bx.Boxes (fH s)=(gQ [aB log,key],true):=by
  refine aB3 (Ao s) (by omega) (Nw _) a (λj hj d he=> ?_) ?_
  ·have:=dr.1 f j k (by simpa using hj) (by simpa using a) d;rw[jb,jb] at this;exact this (by rw[he,e])
  ·obtain⟨q,hq,hb⟩:=l k a;rw[e] at hb;exact⟨q,hq,hb⟩
 have c:gZ (gQ [aB log,key]) 0 2=([aB log,key],((gQ [aB log,key]).length:Int),true):=by
  have:=aB1 [aB log,key] [] [] [] (λv hv=>by
   simp only[ba,gk,or_false] at hv;rcases hv with rfl|rfl
   ·omega
   ·exact bDu i)
  simp only[bz,dq,cy,ck] at this;unfold gZ;rw[show bX 2 0 100=true from rfl,fU (by omega) (by omega)];exact this
 unfold bS Aa;rw[n,c];show(bif !true||(!true||(((gQ [aB log,key]).length:Int) !=((gQ [aB log,key]).length:Int)||(aB log !=bx.Epoch|| !bA key))) then(0,false) else(key,true))=(key,true);rw[dk,h1,dk,i];rfl
def aB4 {log:List AC}{bx:AM}{key:Int}(h:BoxIn log bx key)(hl:aT log=true){d:AB}(he:bT log d.Log=true)(hs:aM d.Store∈aA log)
  {e v:Int} {b:AF} (hv:0<=v/\v<=1000000) (hb:aP b=true) (i:e=aB log) (ho:d.Epoch<e\/(d.Epoch=e/\d.Version<=v)) (hm:(iC d.aAD b).2=true):
  bU d log bx (dZ key e v b)=(⟨d.Store,log,key,e,v,(iC d.aAD b).1⟩,0):=by
 have a:=Ap h hs;have j:=h.eps;have c:jY key (dZ key e v b)=(b,true):=aTw h.kok (by omega) hv hb;have f:iZ d log bx (dZ key e v b)=0:=by
  unfold iZ;rw[hl,he,eO.2 hs,a,h.ep,c,hm,dk,show(dZ key e v b).Epoch=e from rfl,show(dZ key e v b).Version=v from rfl];have:(decide (e<aB log)||(decide (e<d.Epoch)||(e==d.Epoch&&decide (v<d.Version))))=false:=by
   rw[aq (show ¬e<aB log by omega),aq (show ¬e<d.Epoch by omega),dg,dg];rcases ho with ho|ho
   ·rw[cb.2 (show e≠d.Epoch by omega),fW]
   ·rw[aq (show ¬v<d.Version by omega),da]
  rw[this];rfl
 unfold bU;rw[f,a,c];rfl
def aNc (log:List AC):bT log []=true:=by unfold bT;simp[gX]
def aXj (a:AC):aTb a a=true:=by unfold aTb;simp
theorem vT (log r:List AC):bT (log++r) log=true:=by
 unfold bT;rw[av (by simp),cM,bp];exact Ah λk hk=>by
  rw[ck,cY];have:(log++r).getD k default=log[k]:=by simp[List.getD,ao hk,ab hk]
  rw[this];exact aXj _
def aNd (log:List AC):bT log log=true:=by simpa using vT log []
theorem aNe {seed:Int}{n:Nat}(h0:1<=n)(hn:n<=6):BoxIn (aQ seed n) (fK seed n) (bM seed 0):=by
 obtain⟨h1,h2,s,h,j⟩:=jO seed n hn;have hl:aT (aQ seed n)=true:=j.resolve_left (by omega);have hlen:(aA (aQ seed n)).length<=1000:=by rw[h2,bh,fY];omega
 have hk:bA (bM seed 0)=true:=by unfold bM;exact dR _ _
 obtain⟨u,l,f,o⟩:=Yg (key:=bM seed 0) (eph:=1000) hl hk (λp hp=>by
  rw[h2] at hp;obtain⟨i,_,rfl⟩:=ci.1 hp;exact Tt _ _) hlen ⟨by decide,by decide⟩
 have a:(aA (aQ seed n)).Nodup:=by rw[h2];exact aM8 hn
 refine⟨l,f,a,hk,λk c=> ?_,by rw[h];exact⟨by decide,by decide⟩⟩;have q:(fK seed n).Boxes.length=(aA (aQ seed n)).length:=by have:=congrArg List.length f;rw[bh] at this;exact this
 have d:k<(aA (aQ seed n)).length:=by omega
 have hb:=o k c d;have e:(fK seed n).Boxes[k].To=(aA (aQ seed n))[k]:=by show(bB (aQ seed n) (bM seed 0) 1000).1.Boxes[k].To=_;rw[hb];rfl
 refine⟨1000+(k:Int),fU (by omega) (by omega),?_⟩;rw[e];exact hb
def Y1:Nat->AF
 |1=>⟨[⟨1464438180,0,1,false⟩,⟨1941999745,0,1,false⟩]⟩
 |2=>⟨[⟨1464438180,0,1,false⟩,⟨1464438180,1,1,false⟩,⟨1941999745,0,1,false⟩,⟨1941999745,1,1,false⟩]⟩
 |3=>⟨[⟨1464438180,0,1,false⟩,⟨1464438180,1,1,false⟩,⟨1464438180,2,1,false⟩,⟨1941999745,0,1,false⟩,⟨1941999745,1,1,false⟩,⟨1941999745,2,1,false⟩]⟩
 |_=>⟨[]⟩
def Gh (seed:Int)(n k:Nat)(v:Int)(b:AF):AB:=⟨aL seed (k:Int),aQ seed n,bM seed 0,0,v,b⟩
def aXk {seed:Int}{n:Nat}(h0:1<=n)(hn:n<=6)(k:Nat):rU seed n (bE (aL seed (k:Int)))=Gh seed n k 0 ⟨[]⟩:=by
 obtain⟨h1,h2,d,a,c⟩:=jO seed n hn;have hl:aT (aQ seed n)=true:=c.resolve_left (by omega);have hk:bA (bM seed 0)=true:=by unfold bM;exact dR _ _
 unfold rU jN bE;rw[hl,aNc,hk,a];rfl
def bFn {n:Nat}(h:n=1\/n=2\/n=3)(s:AK)(l:List AC)(k e v:Int):Ae (aC 1) n (Ae (aC 0) n ⟨s,l,k,e,v,⟨[]⟩⟩)=⟨s,l,k,e,v,Y1 n⟩:=by rcases h with rfl|rfl|rfl<;>kernel_rfl
def aPk {n:Nat}(h:n=1\/n=2\/n=3):aP (Y1 n)=true/\iC ⟨[]⟩ (Y1 n)=(Y1 n,true)/\iC (Y1 n) (Y1 n)=(Y1 n,true):=by rcases h with rfl|rfl|rfl<;>exact⟨by kernel_rfl,by kernel_rfl,by kernel_rfl⟩
def aTx {seed:Int}{n:Nat}(h:n=1\/n=2\/n=3):jK seed n=Gh seed n 0 0 (Y1 n):=by unfold jK;rw[show(0:Int)=((0:Nat):Int) from rfl,aXk (by omega) (by omega)];exact bFn h _ _ _ _ _
def aXl {seed:Int}{n:Nat}(h:n=1\/n=2\/n=3):nwW seed n=(Gh seed n 0 1 (Y1 n),dZ (bM seed 0) 0 1 (Y1 n),true):=by
 have hk:bA (bM seed 0)=true:=by unfold bM;exact dR _ _
 unfold nwW;rw[aTx h];unfold dI qQ Gh;simp only[];rw[show IntKind.i64.wrap (0+1)=1 from by decide,hk,(aPk h).1];rfl
def aB5 {seed:Int}{n k:Nat}(h:n=1\/n=2\/n=3)(hk:k<n):tN seed n (bE (aL seed (k:Int)))=Gh seed n k 1 (Y1 n):=by
 obtain⟨h1,h2,f,c,e⟩:=jO seed n (by omega);obtain⟨b1,a,i⟩:=aPk h;unfold tN;rw[aXk (by omega) (by omega),aXl h];rw[aB4 (aNe (by omega) (by omega)) (e.resolve_left (by omega)) (d:=Gh seed n k 0 ⟨[]⟩) (aNd _) (by
  rw[h2];exact ci.2 ⟨k,jl.2 hk,rfl⟩) ⟨by decide,by decide⟩ b1 c.symm (.inr ⟨rfl,by show(0:Int)<=1;decide⟩) (by show(iC ⟨[]⟩ (Y1 n)).2=true;rw[a])]
 show(AB.mk (aL seed (k:Int)) (aQ seed n) (bM seed 0) 0 1 (iC ⟨[]⟩ (Y1 n)).1)=_;rw[a];rfl
theorem aNf {seed:Int}{n:Nat}(h:n=1\/n=2\/n=3):iG seed n=(List.range n).map λk=>Gh seed n k 1 (Y1 n):=by
 unfold iG cK;rw[aXl h];rcases h with rfl|rfl|rfl
 ·rfl
 ·show[_,tN seed 2 (bE (aL seed ((1:Nat):Int)))]=_;rw[aB5 (.inr (.inl rfl)) (by decide)];rfl
 ·show[_,tN seed 3 (bE (aL seed ((1:Nat):Int))),tN seed 3 (bE (aL seed ((2:Nat):Int)))]=_;rw[aB5 (.inr (.inr rfl)) (by decide),aB5 (.inr (.inr rfl)) (by decide)];rfl
theorem Yj {seed:Int}{n:Nat}(h:n=1\/n=2\/n=3):fM seed n=⟨aQ seed n,fK seed n,[dZ (bM seed 0) 0 1 (Y1 n)]⟩:=by
 obtain⟨h1,h2,_⟩:=Og (seed:=seed) (n:=n) (by omega) (by omega);have a:=(jO seed n (by omega)).ep;have e:dN (aQ seed n) (fK seed n)=(⟨aQ seed n,fK seed n,[]⟩,true):=by unfold dN;rw[h1,h2];rfl
 unfold fM;rw[e,aXl h];show(bZ ⟨aQ seed n,fK seed n,[]⟩ (dZ (bM seed 0) 0 1 (Y1 n))).1=_;unfold bZ;rw[show(dZ (bM seed 0) 0 1 (Y1 n)).Epoch=0 from rfl,a];rfl
def Aq (w:AA)(d b:Int):(aU w d b).1.Hosts=w.Hosts:=by unfold aU;cases bL w&&aO w d<;>rfl
def aNg (w:AA)(d:Int):(X5 w d).1.Hosts=w.Hosts:=by unfold X5;cases(dI (aD w d)).2.2&&(bZ w.aAB (dI (aD w d)).2.1).2<;>rfl
def aPl (w:AA)(d:Int):(vN w d).1.Hosts=w.Hosts:=by
 unfold vN;cases(aU w d 0).2==0&&(X5 (aU w d 0).1 d).2 with
 |false=>rfl
 |true=>exact(aNg _ _).trans (Aq _ _ _)
def K5 (w:AA)(b k p:Int)(key:List AC->Int):(gI w b k p key).1.Hosts=w.Hosts:=by unfold gI;simp only[];generalize dG w.aAB.Log k p (aD w b).Store=l;generalize bB l.1 (key l.1) (IntKind.i64.wrap (1000+IntKind.i64.wrap (10*(l.1.length:Int))))=e;cases l.2&&(e.2&&(jZ w.aAB l.1 e.1).2)<;>rfl
def aTy (w:AA)(b:Int):(iD w b).1.Hosts=w.Hosts:=by
 unfold iD;cases Te w b with
 |false=>rfl
 |true=>
  show(aO4 w b).1.Hosts=w.Hosts;have a:(aFm w b).1.Hosts=w.Hosts:=by unfold aFm;rw[aPl];exact(K5 _ _ _ _ _).trans (Aq _ _ _)
  unfold aO4
  first
   |exact a
   |exact(Aq _ _ _).trans a
def aTz (w:AA)(b t:Int):(dA w b t).1.Hosts=w.Hosts:=by
 unfold dA;generalize((aU w b 0).2==0&&(!gF w b&&(!(b==t)&&aV w t)))=q;cases q with
 |false=>rfl
 |true=>
  show(lM w b t).1.Hosts=w.Hosts;have h1:(jV w b t).1.Hosts=w.Hosts:=(K5 _ _ _ _ _).trans (Aq _ _ _);have a:(Ct w b t).1.Hosts=w.Hosts:=(aNg _ _).trans h1;unfold lM;cases(jV w b t).2&&((cut2 w b t).2&&(Ct w b t).2) with
  |false=>rfl
  |true=>exact a
structure KeptH (w v:AA):Prop where
 kept:Kept w v
 hosts:v.Hosts.length<=w.Hosts.length
def KeptH.of {w v:AA}(h:Kept w v)(e:v.Hosts=w.Hosts):KeptH w v:=⟨h,by rw[e];exact ak _⟩
def bDv {k:Int}(h:0<=k):¬fQ (IntKind.i64.wrap (1+k.tmod 1018)) 1019=0:=by have h1:0<=k.tmod 1018/\k.tmod 1018<1018:=⟨fh _ h,fk _ (by decide)⟩;rw[aH (by omega) (by omega),bDp];omega
def gV (seed:Int):A3:=(vS seed 2 500 3).1
def bHp (seed:Int):Int:=IntKind.i64.wrap (1+(aW seed [293]).tmod 1018)
def gSh (seed x:Int):AV:=⟨x,Fp (bHp seed) (Ny seed 2) x⟩
def gK (s:AV)(i:Nat):AU:=⟨s,0,(i:Int),5⟩
def aXm (s:AV)(i:Nat):AJ:=⟨gK s i,(List.range i).map (gK s),(i:Int)⟩
def gHs (seed:Int)(i:Nat):List AJ:=[aXm (gSh seed 1) i,aXm (gSh seed 2) i,aXm (gSh seed 3) 0]
structure GS (seed:Int) (i:Nat) (w:AA):Prop where
 wi:WIn 1 w
 len:w.Devices.length=1
 sd:w.Seed=seed
 now:w.Now=0
 vault:w.aAP=gV seed
 hosts:w.Hosts=gHs seed i
 le:i<=5
def same (s h:Int)(e:AG):Bool:=e.Site==s&&e.Handle==h
def lk (l:List AG)(s h:Int):Option AG:=l.find? (same s h)
def aXn:Option AG->Option AG->Option AG
 |none,y=>y
 |some e,none=>some e
 |some e,some x=>some (vM e x)
theorem same_iff {s h:Int}{e:AG}:same s h e=true↔e.Site=s/\e.Handle=h:=by simp[same]
theorem aIo (e:AG):same e.Site e.Handle e=true:=same_iff.2 ⟨rfl,rfl⟩
theorem Jw {a b:AG}(h:dQ a b=true):¬(a.Site=b.Site/\a.Handle=b.Handle):=by grind[xS]
def mW:∀(n:Nat) {a b:List AG} {e:AG},a.length+b.length<=n->e∈bG a b->e∈a\/e∈b
 |_,[],b,e,_,h=>by rw[jG] at h;exact .inr h
 |_,a::xs,[],e,_,h=>by rw[dU] at h;exact .inl h
 |0,a::xs,b::bs,e,h,_=>by simp at h
 |n+1,a::xs,b::bs,e,hn,h=>by
  simp only[ay] at hn;rw[sU] at h;cases h1:dQ a b with
  |true=>
   rw[h1,ae] at h;rcases ba.1 h with rfl|h
   ·exact .inl (cI ..)
   ·rcases mW n (by simp only[ay];omega) h with h|h
    ·exact .inl (cC _ h)
    ·exact .inr h
  |false=>
   rw[h1,aj] at h;cases h2:dQ b a with
   |true=>
    rw[h2,ae] at h;rcases ba.1 h with rfl|h
    ·exact .inr (cI ..)
    ·rcases mW n (by simp only[ay];omega) h with h|h
     ·exact .inl h
     ·exact .inr (cC _ h)
   |false=>
    rw[h2,aj] at h;rcases ba.1 h with rfl|h
    ·rcases aQ1 a b with e|e
     ·rw[e];exact .inl (cI ..)
     ·rw[e];exact .inr (cI ..)
    ·rcases mW n (by omega) h with h|h
     ·exact .inl (cC _ h)
     ·exact .inr (cC _ h)
def Jy:∀(n:Nat) {a b:List AG},a.length+b.length<=n->J2 a->J2 b->J2 (bG a b)
 |_,[],b,_,_,h=>by rw[jG];exact h
 |_,a::xs,[],_,h,_=>by rw[dU];exact h
 |0,a::xs,b::bs,h,_,_=>by simp at h
 |n+1,a::xs,b::bs,hn,e,hb=>by
  simp only[ay] at hn;obtain⟨d,f⟩:=cl.1 e;obtain⟨b1,i⟩:=cl.1 hb;rw[sU];cases h1:dQ a b with
  |true=>
   rw[ae];refine cl.2 ⟨λy c=> ?_,Jy n (by simp only[ay];omega) f hb⟩;rcases mW _ (ak _) c with c|c
   ·exact d y c
   ·rcases ba.1 c with rfl|c
    ·exact h1
    ·exact kX h1 (b1 y c)
  |false=>
   rw[aj];cases h2:dQ b a with
   |true=>
    rw[ae];refine cl.2 ⟨λy c=> ?_,Jy n (by simp only[ay];omega) e i⟩;rcases mW _ (ak _) c with c|c
    ·rcases ba.1 c with rfl|c
     ·exact h2
     ·exact kX h2 (d y c)
    ·exact b1 y c
   |false=>
    rw[aj];have hk:=sS h1 h2;have hp:=Sy hk;refine cl.2 ⟨λy c=> ?_,Jy n (by omega) f i⟩;rw[xU hp];rcases mW _ (ak _) c with c|c
    ·rw[<-xU hk];exact d y c
    ·exact b1 y c
def vU (a:AG)(l:List AG)(s h:Int):lk (a::l) s h=bif same s h a then some a else lk l s h:=by unfold lk;rw[List.find?_cons];cases same s h a<;>rfl
theorem aKj {l:List AG}{s h:Int}(hl:∀e∈l,same s h e=false):lk l s h=none:=by
 grind[List.find?_eq_none,lk]
def aB6 {l:List AG}{s h:Int}{e:AG}(hl:lk l s h=some e):e∈l/\e.Site=s/\e.Handle=h:=by
 grind[List.mem_of_find?_eq_some,same_iff,lk]
theorem bAe {a:AG}{l:List AG}(hs:J2 (a::l)){s h:Int}(c:same s h a=true):∀e∈l,same s h e=false:=λe he=>by
 have:=Jw ((cl.1 hs).1 e he)
 grind[trans,same_iff]
theorem bBw {l:List AG}(hs:J2 l){e:AG}(he:e∈l):lk l e.Site e.Handle=some e:=by
 induction l with
 |nil=>simp at he
 |cons a l c=>
  rw[vU];rcases ba.1 he with rfl|he
  ·rw[aIo];rfl
  ·cases hq:same e.Site e.Handle a with
   |true=>grind[aIo,bAe]
   |false=>exact c (cl.1 hs).2 he
def aT0 {a b:AG}(hk:a.Site=b.Site/\a.Handle=b.Handle)(s h:Int):same s h (vM a b)=same s h b:=by have:=Sy hk;unfold same;rw[this.1,this.2]
def Tu:∀(n:Nat) {a b:List AG},a.length+b.length<=n->J2 a->J2 b->∀s h,lk (bG a b) s h=aXn (lk a s h) (lk b s h)
 |_,[],b,_,_,_,s,h=>by rw[jG];rfl
 |_,a::xs,[],_,_,_,s,h=>by
  rw[dU];show _=aXn (lk (a::xs) s h) none;cases lk (a::xs) s h<;>rfl
 |0,a::xs,b::bs,h,_,_,_,_=>by simp at h
 |n+1,a::xs,b::bs,hn,d,hb,s,h=>by
  simp only[ay] at hn;obtain⟨i,e⟩:=cl.1 d;obtain⟨b1,f⟩:=cl.1 hb;rw[sU];cases h1:dQ a b with
  |true=>
   rw[ae,vU,vU a xs,Tu n (by grind) e hb];cases hq:same s h a with
   |false=>rfl
   |true=>have c:lk (b::bs) s h=none:=(by grind[aKj,dQ,kX,Jw,same_iff,trans]);rw[c];rfl
  |false=>
   rw[aj];cases h2:dQ b a with
   |true=>
    rw[ae,vU,vU b bs,Tu n (by grind) d f];cases hq:same s h b with
    |false=>rfl
    |true=>have c:lk (a::xs) s h=none:=(by grind[aKj,dQ,kX,Jw,same_iff,trans]);rw[c];rfl
   |false=>
    have hk:=sS h1 h2;rw[aj,vU,vU a xs,vU b bs,Tu n (by omega) e f,aT0 hk];have:same s h a=same s h b:=by unfold same;rw[hk.1,hk.2]
    rw[this];cases same s h b<;>rfl
def lkM {a b:List AG}(c:J2 a)(hb:J2 b)(s h:Int):lk (bG a b) s h=aXn (lk a s h) (lk b s h):=Tu _ (ak _) c hb s h
def bHr {a b:List AG}(c:J2 a)(hb:J2 b):J2 (bG a b):=Jy _ (ak _) c hb
def rk (e:AG):Int:=2*e.Version+(bif e.Deleted then 1 else 0)
theorem bFo {x e:AG}(hk:x.Site=e.Site/\x.Handle=e.Handle)(h:rk x=rk e):x=e:=by obtain⟨s,a,v,d⟩:=x;obtain⟨s2,h2,c,d2⟩:=e;simp only[rk] at h hk;obtain⟨rfl,rfl⟩:=hk;cases d<;>cases d2<;>simp at h ⊢<;>omega
theorem aXo {x e:AG}:mH x e=true↔rk e<rk x\/(rk e=rk x/\x.Deleted=true):=by unfold mH rk;simp only[cf,aa,cD,cU];cases x.Deleted<;>cases e.Deleted<;>simp only[ae,aj,ic,and_false,and_true,or_false]<;>omega
def bAf {e x:AG}(hk:x.Site=e.Site/\x.Handle=e.Handle):vM e x=if rk e<rk x then x else e:=by
 grind[mH,aXo,absurd,bFo,rk,vM]
def Sub (a b:List AG):Prop:=∀e∈a,∃x∈b,x.Site=e.Site/\x.Handle=e.Handle/\rk e<=rk x
def Sub.refl (a:List AG):Sub a a:=λe he=>(by grind)
theorem Sub.trans {a b c:List AG}(h:Sub a b)(k:Sub b c):Sub a c:=λe he=>by
 obtain⟨x,d,x1,x2,f⟩:=h e he;obtain⟨y,i,j,l,n⟩:=k x d
 grind
def Sub.left {a b:List AG}(c:J2 a)(hb:J2 b):Sub a (bG a b):=λe he=>by
 have h1:=lkM c hb e.Site e.Handle;rw[bBw c he] at h1;cases hq:lk b e.Site e.Handle with
 |none=>rw[hq] at h1;exact⟨e,(aB6 h1).1,rfl,rfl,cQ _⟩
 |some x=>rw[hq] at h1;obtain⟨d,f,h⟩:=aB6 h1;obtain⟨_,q2,q3⟩:=aB6 hq;refine⟨_,d,f,h,?_⟩;rw[bAf ⟨q2,q3⟩];split<;>omega
def aXq {α:Type}[BEq α][LawfulBEq α]:∀{l S:List α},l.Nodup->(∀x∈l,x∈S)->l.length<=S.length
 |[],S,_,_=>by simp
 |x::l,S,hn,hs=>by
  obtain⟨h1,h2⟩:=cj.1 hn;have c:=hs x (cI ..);have:=aXq (l:=l) (S:=S.erase x) h2 λy d=>by
   have a:y≠x:=λe=>h1 (e▸d);exact(List.mem_erase_of_ne a).2 (hs y (cC _ d))
  rw[List.length_erase_of_mem c] at this;have:0<S.length:=List.length_pos_of_mem c;simp only[ay];omega
structure KeyS (S:List (Int×Int)):Prop where
 len:S.length<=20
 rg:∀p∈S,(0<=p.1/\p.1<=2147483646)/\(0<=p.2/\p.2<=1000000)
structure BunIn (S:List (Int×Int)) (V:Int) (b:List AG):Prop where
 st:J2 b
 key:∀e∈b,(e.Site,e.Handle)∈S
 ver:∀e∈b,1<=e.Version/\e.Version<=V
def BunIn.mono {S:List (Int×Int)}{V W:Int}{b:List AG}(h:BunIn S V b)(hv:V<=W):BunIn S W b:=⟨h.st,h.key,λe he=>⟨(h.ver e he).1,eJ (h.ver e he).2 hv⟩⟩
def BunIn.nil (S:List (Int×Int))(V:Int):BunIn S V []:=⟨List.Pairwise.nil,(by simp),(by simp)⟩
theorem BunIn.len {S:List (Int×Int)}{V:Int}{b:List AG}(h:BunIn S V b):b.length<=S.length:=by
 have hn:(b.map λe=>(e.Site,e.Handle)).Nodup:=by rw[jk,io];exact h.st.imp (by grind[Jw])
 have:=aXq hn λp hp=>by
  obtain⟨e,he,rfl⟩:=ci.1 hp;exact h.key e he
 rwa [bh] at this
def BunIn.ok {S:List (Int×Int)}{V:Int}{b:List AG}(a:KeyS S)(c:V<=1000000)(h:BunIn S V b):aP ⟨b⟩=true:=by
 have hl:=h.len;have:=a.len;unfold aP;rw[av (show((⟨b⟩:AF).Entries.length:Int)<=20 by show(b.length:Int)<=20;omega),cM,bp];refine Ah λk hk=> ?_;have hk:k<b.length:=hk;show aJ8 b (0+k) b[k]=false;have hm:=cr hk;have r:=a.rg _ (h.key _ hm);have v:=h.ver _ hm;unfold aJ8;rw[fU r.1.1 r.1.2,fU r.2.1 r.2.2,fU v.1 (by omega)];simp only[bl,dg,ck];by_cases h0:0<k
 ·have:b.getD (k-1) default=b[k-1]'(by omega):=by rw[List.getD,ab (by omega),cw]
  rw[this,dr.1 h.st (k-1) k (by omega) hk (by omega)];simp
 simp[*]
def BunIn.merge {S:List (Int×Int)}{V:Int}{a b:List AG}(c:BunIn S V a)(hb:BunIn S V b):BunIn S V (bG a b):=
 ⟨bHr c.st hb.st,λe he=>(mW _ (ak _) he).elim (c.key e) (hb.key e),λe he=>(mW _ (ak _) he).elim (c.ver e) (hb.ver e)⟩
def aT1 {S:List (Int×Int)}{V:Int}{a b:AF}(c:KeyS S)(d:V<=1000000)(e:BunIn S V a.Entries)(hb:BunIn S V b.Entries):iC a b=(⟨bG a.Entries b.Entries⟩,true):=by unfold iC;rw[show aP a=true from e.ok c d,show aP b=true from hb.ok c d,(e.merge hb).ok c d];rfl
theorem Y2 {l:List AG}(hs:J2 l)(s h:Int):(aJ ⟨l⟩ s h<0/\lk l s h=none)\/(0<=aJ ⟨l⟩ s h/\∃e,lk l s h=some e/\l.getD (aJ ⟨l⟩ s h).toNat default=e/\(aJ ⟨l⟩ s h).toNat<l.length):=by
 by_cases a:aJ ⟨l⟩ s h<0
 ·exact .inl ⟨a,aKj λe he=>Fh (p:=same s h) a e he⟩
 ·refine .inr ⟨by omega,?_⟩;obtain⟨l1,e,l2,d,f,c⟩:=Jn (p:=same s h) (l:=l) (i:=0) (by show 0<=aJ ⟨l⟩ s h;omega);have c:aJ ⟨l⟩ s h=((0+l1.length:Nat):Int):=c
  grind[same_iff,bBw]
theorem aXr {x e:AG}(h:x.Version>e.Version):mH x e=true:=by
 grind[decide_eq_true,mH]
def aIp {l:List AG}(hs:J2 l){x:AG}(h:∀e,lk l x.Site x.Handle=some e->x.Version>e.Version):(rT ⟨l⟩ x).Entries=bG l [x]:=by
 rw[<-aMj hs]
 grind[aXr,decide_eq_true,Y2]
def bDw (x:AG):J2 [x]:=cl.2 ⟨λy a=>by simp at a,List.Pairwise.nil⟩
def BunIn.one {S:List (Int×Int)}{V:Int}{x:AG}(hk:(x.Site,x.Handle)∈S)(hv:1<=x.Version/\x.Version<=V):BunIn S V [x]:=
 ⟨bDw x,(by simp[*]),(by simp[*])⟩
def Tv (l:List AG)(s h:Int):Bool:=match lk l s h with|some e=> !e.Deleted|none=>false
def aBK (l:List AG)(s h:Int):Int:=match lk l s h with|some e=>e.Version|none=>0
theorem BunIn.aBK {S:List (Int×Int)}{V:Int}{l:List AG}(h:BunIn S V l)(a:0<=V)(s q:Int):0<=aBK l s q/\aBK l s q<=V:=by
 unfold VK.aBK;cases hq:lk l s q with
 |none=>simp[*]
 |some e=>have:=h.ver e (aB6 hq).1;grind
def bDx {S:List (Int×Int)}{V:Int}(f:KeyS S)(i:0<=V/\V<1000000){b:AF}(h:BunIn S V b.Entries){s q:Int}(hk:(s,q)∈S):
  aFj b s q=bif Tv b.Entries s q then(b,false) else(⟨bG b.Entries [⟨s,q,aBK b.Entries s q+1,false⟩]⟩,true):=by
 obtain⟨l⟩:=b;have h:BunIn S V l:=h;have hv:=h.aBK i.1 s q;have c:(aJ ⟨l⟩ s q<0->lk l s q=none)/\Ta ⟨l⟩ s q=⟨s,q,aBK l s q+1,false⟩:=by
  unfold Ta aZq;rcases Y2 h.st s q with⟨h1,h2⟩|⟨h1,e,h2,j,k⟩
  all_goals grind[aBK,decide,aJ,default,decide_eq_true,aH,decide_eq_false]
 have a:(rT ⟨l⟩ (Ta ⟨l⟩ s q))=⟨bG l [⟨s,q,aBK l s q+1,false⟩]⟩:=by rw[c.2];have:(rT ⟨l⟩ ⟨s,q,aBK l s q+1,false⟩).Entries=bG l [⟨s,q,aBK l s q+1,false⟩]:=aIp h.st (by grind[aBK,lk]);rw[<-this]
 have d:aP ⟨bG l [⟨s,q,aBK l s q+1,false⟩]⟩=true:=((h.mono (W:=V+1) (by omega)).merge (.one (x:=⟨s,q,aBK l s q+1,false⟩) hk (by grind))).ok f (by omega);unfold aFj;rw[a,d,h.ok f (by omega)];rcases Y2 h.st s q with⟨h1,h2⟩|⟨h1,e,h2,j,k⟩
 all_goals grind[decide_eq_true,aJ,default,Tv,decide_eq_false]
def bDy {S:List (Int×Int)}{V:Int}(f:KeyS S)(i:0<=V/\V<1000000){b:AF}(h:BunIn S V b.Entries){s q:Int}:
  aFk b s q=bif Tv b.Entries s q then(⟨bG b.Entries [⟨s,q,aBK b.Entries s q+1,true⟩]⟩,true) else(b,false):=by
 obtain⟨l⟩:=b;have h:BunIn S V l:=h;have hv:=h.aBK i.1 s q;unfold aFk;rw[h.ok f (by omega)];rcases Y2 h.st s q with⟨h1,h2⟩|⟨h1,e,h2,d,j⟩
 ·grind[Tv,decide_eq_true,aJ]
 ·have c:aBK l s q=e.Version:=by unfold aBK;rw[h2]
  have he:=h.ver e (aB6 h2).1;have hd:aTa ⟨l⟩ s q=⟨s,q,aBK l s q+1,true⟩:=by unfold aTa;show(⟨s,q,IntKind.i64.wrap ((l.getD (aJ ⟨l⟩ s q).toNat default).Version+1),true⟩:AG)=_;rw[d,c,aH (by omega) (by omega)]
  have a:(rT ⟨l⟩ (aTa ⟨l⟩ s q))=⟨bG l [⟨s,q,aBK l s q+1,true⟩]⟩:=by rw[hd];have:(rT ⟨l⟩ ⟨s,q,aBK l s q+1,true⟩).Entries=bG l [⟨s,q,aBK l s q+1,true⟩]:=aIp h.st (by grind);rw[<-this]
  rw[a,aq (show ¬aJ ⟨l⟩ s q<0 by omega)];show(bif !true||(false||((l.getD (aJ ⟨l⟩ s q).toNat default).Deleted||(l.getD (aJ ⟨l⟩ s q).toNat default).Version==1000000)) then _ else _)=_;have hl:Tv l s q= !e.Deleted:=by unfold Tv;rw[h2]
  show _=bif Tv l s q then _ else _;rw[d,cb.2 (show e.Version≠1000000 by omega),hl];cases e.Deleted<;>rfl
structure ChgIn (S:List (Int×Int)) (V:Int) (d x:AB):Prop where
 store:x.Store=d.Store
 log:x.Log=d.Log
 key:x.Key=d.Key
 ep:x.Epoch=d.Epoch
 ver:x.Version=d.Version
 bun:BunIn S V x.aAD.Entries
 sub:Sub d.aAD.Entries x.aAD.Entries
def ChgIn.rfl' {S:List (Int×Int)}{V W:Int}{d:AB}(h:BunIn S V d.aAD.Entries)(hv:V<=W):ChgIn S W d d:=⟨rfl,rfl,rfl,rfl,rfl,h.mono hv, .refl _⟩
theorem ChgIn.trans {S:List (Int×Int)}{V W:Int}{a b c:AB}(h:ChgIn S V a b)(k:ChgIn S W b c):ChgIn S W a c:=
 ⟨k.store.trans h.store,k.log.trans h.log,k.key.trans h.key,k.ep.trans h.ep,k.ver.trans h.ver,k.bun,h.sub.trans k.sub⟩
def aIq {S:List (Int×Int)}{V:Int}(c:KeyS S)(a:0<=V/\V<1000000){d:AB}(h:BunIn S V d.aAD.Entries){n:ByteArray}{q:Int}(hk:(bN n,q)∈S)(rm:Bool):ChgIn S (V+1) d (dP d n q rm).1:=by
 have hv:=h.aBK a.1 (bN n) q;unfold dP Ac;have one:∀f,BunIn S (V+1) (bG d.aAD.Entries [⟨bN n,q,aBK d.aAD.Entries (bN n) q+1,f⟩]):=λf=>(h.mono (by omega)).merge (.one hk (by grind));cases rm with
 |true=>
  rw[ae,bDy c a h];cases Tv d.aAD.Entries (bN n) q with
  |true=>exact⟨rfl,rfl,rfl,rfl,rfl,one _, .left h.st (bDw _)⟩
  |false=>exact .rfl' h (by omega)
 |false=>
  rw[aj,bDx c a h hk];cases Tv d.aAD.Entries (bN n) q with
  |false=>exact⟨rfl,rfl,rfl,rfl,rfl,one _, .left h.st (bDw _)⟩
  |true=>exact .rfl' h (by omega)
def aXs {S:List (Int×Int)}{V:Int}(a:KeyS S)(e:0<=V/\V+1<1000000){d:AB}(h:BunIn S V d.aAD.Entries){q:Int}(h0:(bN (aC 0),q)∈S)(h1:(bN (aC 1),q)∈S)(rm:Bool):ChgIn S (V+2) d (jU d q rm):=by unfold jU;have c:=aIq a (by omega) h h0 rm;exact c.trans (by have:=aIq a (V:=V+1) (by omega) c.bun h1 rm;rwa [show V+1+1=V+2 by omega] at this)
end Go.VK
set_option maxRecDepth 100000
namespace Go.VK
open D
structure Dv (S:List (Int×Int)) (T:Int) (log:List AC) (K ep v:Int) (d:AB):Prop where
 pre:∃r,log=d.Log++r
 at_:d.Epoch<ep\/(d.Epoch=ep/\d.Version<=v)
 key:d.Epoch=ep->d.Key=K
 bun:BunIn S T d.aAD.Entries
structure Hs (S:List (Int×Int)) (T:Int) (K ep v:Int) (s:AI):Prop where
 low:s.Epoch<=ep
 own:s.Epoch=ep->∃v' b',s=dZ K ep v' b'/\0<=v'/\v'<=v/\BunIn S T b'.Entries
structure Net (S:List (Int×Int)) (t m:Nat) (w:AA) (K v:Int) (r:List AI) (b:AF):Prop where
 wi:WIn m w
 bx:BoxIn w.aAB.Log w.aAB.Boxes K
 devs:∀p∈aA w.aAB.Log,∃k,k<m/\p=iH w.Seed k
 rem:∀p,dD w.aAB.Log p=true->∃k,k<m/\p=iH w.Seed k
 hist:w.aAB.History=r++[dZ K (aB w.aAB.Log) v b]
 old:∀s∈r,Hs S (t:Int) K (aB w.aAB.Log) v s
 bun:BunIn S (t:Int) b.Entries
 ver:0<=v/\v<=(t:Int)
 dev:∀k (h:k<w.Devices.length),Dv S (t:Int) w.aAB.Log K (aB w.aAB.Log) v w.Devices[k]
def Dv.mono {S:List (Int×Int)}{T U:Int}{log:List AC}{K ep v u:Int}{d:AB}(h:Dv S T log K ep v d)(a:T<=U)(hv:v<=u):Dv S U log K ep u d:=
 ⟨h.pre,h.at_.imp id (by omega),h.key,h.bun.mono a⟩
def Hs.mono {S:List (Int×Int)}{T U:Int}{K ep v u:Int}{s:AI}(h:Hs S T K ep v s)(a:T<=U)(hv:v<=u):Hs S U K ep u s:=
 ⟨h.low,λe=>let ⟨v',b',h1,h2,c,d⟩:=h.own e;⟨v',b',h1,h2,eJ c hv,d.mono a⟩⟩
section
variable {S:List (Int×Int)} {t m:Nat} {w:AA} {K v:Int} {r:List AI} {b:AF}
def Net.last (h:Net S t m w K v r b):Hs S (t:Int) K (aB w.aAB.Log) v (dZ K (aB w.aAB.Log) v b):=
 ⟨cQ _,λ_=>⟨v,b,rfl,h.ver.1,cQ _,h.bun⟩⟩
theorem Net.hs (h:Net S t m w K v r b){s:AI}(hs:s∈w.aAB.History):Hs S (t:Int) K (aB w.aAB.Log) v s:=by
 rw[h.hist] at hs;rcases bo.1 hs with hs|hs
 ·exact h.old s hs
 ·rw[cp.1 hs];exact h.last
def Net.pub (h:Net S t m w K v r b){k:Nat}(hk:k<w.Devices.length):aM w.Devices[k].Store=iH w.Seed k:=by unfold iH aM fH;rw[(h.wi.dev k hk).key]
theorem bFp {d:AB}{log:List AC}{bx:AM}{s:AI}(h:(iZ d log bx s==0)=true):
  bT log d.Log=true/\aM d.Store∈aA log/\aB log<=s.Epoch/\(jY (bS d.Store bx).1 s).2=true/\(iC d.aAD (jY (bS d.Store bx).1 s).1).2=true:=by
 have h:=eq_of_beq h;unfold iZ at h
 grind[aT,bT,gB,aA,aM,aB,bS,bx,decide,jY,iC,Bool.or_eq_false_iff,Bool.not_eq_false',decide_eq_false_iff_not,eO]
def Net.set (h:Net S t m w K v r b){i:Nat}{x:AB}(hi:i<w.Devices.length)(a:Dv S (t:Int) w.aAB.Log K (aB w.aAB.Log) v x):∀k (hk:k<(w.Devices.set i x).length),Dv S (t:Int) w.aAB.Log K (aB w.aAB.Log) v (w.Devices.set i x)[k]:=λk hk=>by
 rw[fa];rw[au] at hk;split
 ·exact a
 ·exact h.dev k hk
def Net.upd (h:Net S t m w K v r b){u:AA}(h1:u.Seed=w.Seed)(h2:u.aAB=w.aAB)(c:u.Devices.length=w.Devices.length)(a:WIn m u)
  (d:∀k (hk:k<u.Devices.length),Dv S (t:Int) w.aAB.Log K (aB w.aAB.Log) v u.Devices[k]):Net S t m u K v r b where
 wi:=a
 bx:=by rw[h2];exact h.bx
 devs:=by rw[h1,h2];exact h.devs
 rem:=by rw[h1,h2];exact h.rem
 hist:=by rw[h2];exact h.hist
 old:=by rw[h2];exact h.old
 bun:=h.bun
 ver:=h.ver
 dev:=by simp[*]
def Net.mono (h:Net S t m w K v r b){u:Nat}(a:t<=u):Net S u m w K v r b where
 wi:=h.wi
 bx:=h.bx
 devs:=h.devs
 rem:=h.rem
 hist:=h.hist
 old:=λs hs=>(h.old s hs).mono (by omega) (cQ _)
 bun:=h.bun.mono (by omega)
 ver:=by have:=h.ver;omega
 dev:=λk hk=>(h.dev k hk).mono (by omega) (cQ _)
def bDz (h:Net S t m w K v r b):(fC w.aAB 0).1=dZ K (aB w.aAB.Log) v b:=by unfold fC;rw[aq (show ¬(0:Int)<0 by decide),aq (show ¬(0:Int)>=(w.aAB.History.length:Int) by rw[h.hist,bc,cH];omega)];show w.aAB.History.getD _ default=_;rw[h.hist];simp
def Net.aCY (h:Net S t m w K v r b){d:Int}(hd:aO w d=true):aV w d=gB (aA w.aAB.Log) (iH w.Seed d.toNat):=by obtain⟨hl,e⟩:=iP hd;unfold aV;rw[hd,e,h.pub hl];rfl
def jP (w:AA)(K v:Int)(b:AF)(d:AB):AB:=⟨d.Store,w.aAB.Log,K,aB w.aAB.Log,v,⟨bG d.aAD.Entries b.Entries⟩⟩
def Net.aBO (h:Net S t m w K v r b)(a:KeyS S)(ht:t<=900000){d:AB}(h1:∃r',w.aAB.Log=d.Log++r')(h2:d.Epoch<aB w.aAB.Log\/(d.Epoch=aB w.aAB.Log/\d.Version<=v))(c:BunIn S (t:Int) d.aAD.Entries)(e:aM d.Store∈aA w.aAB.Log):
  bU d w.aAB.Log w.aAB.Boxes (fC w.aAB 0).1=(jP w K v b d,0):=by
 have hm:=aT1 a (by omega) c h.bun;have hv:=h.ver;obtain⟨r',hr⟩:=h1;have hs:bU d w.aAB.Log w.aAB.Boxes (dZ K (aB w.aAB.Log) v b)=(⟨d.Store,w.aAB.Log,K,aB w.aAB.Log,v,(iC d.aAD b).1⟩,0):=
  aB4 h.bx h.wi.log (by grind[vT]) e (by omega) (h.bun.ok a (by omega)) rfl h2 (by rw[hm])
 rw[bDz h,hs,hm];rfl
def Net.aBV (h:Net S t m w K v r b)(f:KeyS S)(ht:t<=900000){d:Int}(hd:aV w d=true):
  aU w d 0=({w with Devices:=w.Devices.set d.toNat (jP w K v b (aD w d))},0):=by
 have a:aO w d=true:=by grind[aV]
 obtain⟨hl,e⟩:=iP a;have c:=h.dev _ hl;rw[<-e] at c;have hs:=h.aBO f ht c.pre c.at_ c.bun (by
  grind[eO,aV])
 unfold aU;rw[h.wi.ok,a,hs];rfl
def Net.aCO (h:Net S t m w K v r b){d:Int}(hd:aV w d=false)(c:Int):((aU w d c).2==0)=false:=by
 grind[bL,aO,bU,iZ,aD,fC,bFp,aV,eO,aU]
def aB7 (w:AA)(K v:Int)(b:AF)(d:AB):AB:={jP w K v b d with Version:=v+1}
def aBZ (w:AA)(K v:Int)(b:AF)(d:Int):AA:=
 {w with Devices:=w.Devices.set d.toNat (aB7 w K v b (aD w d)),aAB:={w.aAB with History:=w.aAB.History++[dZ K (aB w.aAB.Log) (v+1) ⟨bG (aD w d).aAD.Entries b.Entries⟩]}}
def aNh {S:List (Int×Int)}{d:AB}(a:KeyS S){T:Int}(c:T<=1000000)(h1:bA d.Key=true)(h2:0<=d.Epoch/\d.Epoch<=1000000)(f: -1<=d.Version/\d.Version<1000000)(e:BunIn S T d.aAD.Entries):
  dI d=({d with Version:=d.Version+1},dZ d.Key d.Epoch (d.Version+1) d.aAD,true):=by
 have hs:qQ d.Key d.Epoch (IntKind.i64.wrap (d.Version+1)) d.aAD=(dZ d.Key d.Epoch (d.Version+1) d.aAD,true):=by rw[aH (by omega) (by omega)];unfold qQ;rw[h1,fU h2.1 h2.2,fU (by omega) (by omega),show aP d.aAD=true from e.ok a c];rfl
 grind[aH,dI]
def aIr {c:AO}{s:AI}(h1:s.Epoch=aB c.Log)(h2:c.History.length<60)(a:∀l,c.History.getLast? =some l->oP s l=true):bZ c s=({c with History:=c.History++[s]},true):=by
 grind[bne_self_eq_false,decide_eq_false,bZ,decide,oP,default,List.getD,List.getElem?_eq_getElem]
def Net.aCH (h:Net S t m w K v r b)(i:KeyS S)(ht:t<=900000)(hr:r.length<=58){d:Int}(hd:aV w d=true):vN w d=(aBZ w K v b d,true):=by
 have a:aO w d=true:=by grind[aV]
 obtain⟨hl,e⟩:=iP a;have hs:=h.aBV i (by omega) hd;have hv:=h.ver;have k:=h.bx.eps;have j:=h.dev _ hl;rw[<-e] at j;have c:aD (aU w d 0).1 d=jP w K v b (aD w d):=by
  grind[List.getD,List.getElem?_set_self,default,aD,hs]
 have n:dI (jP w K v b (aD w d))=(aB7 w K v b (aD w d),dZ K (aB w.aAB.Log) (v+1) ⟨bG (aD w d).aAD.Entries b.Entries⟩,true):=
  aNh i (T:=(t:Int)) (by omega) h.bx.kok (show 0<=aB w.aAB.Log/\aB w.aAB.Log<=1000000 by omega) (show-1<=v/\v<1000000 by omega) (j.bun.merge h.bun)
 have f:bZ w.aAB (dZ K (aB w.aAB.Log) (v+1) ⟨bG (aD w d).aAD.Entries b.Entries⟩)=({w.aAB with History:=w.aAB.History++[dZ K (aB w.aAB.Log) (v+1) ⟨bG (aD w d).aAD.Entries b.Entries⟩]},true):=by
  refine aIr rfl ?_ λl hl=> ?_
  ·rw[h.hist];simp;omega
  ·rw[h.hist,List.getLast?_append] at hl
   grind[decide_eq_true,decide,aB,oP,dZ]
 unfold vN X5;rw[c,n];rw[show(aU w d 0).1.aAB=w.aAB by rw[hs]];rw[f,hs];show(bif (0:Int)==0&&(bif true&&true then _ else _:AA×Bool).2 then _ else _)=_;simp only[en,ae,gi,fq];rfl
def Net.aBZ (h:Net S t m w K v r b)(i:KeyS S)(ht:t<=900000)(hr:r.length<=58){d:Int}(hd:aV w d=true):
  Net S (t+1) m (VK.aBZ w K v b d) K (v+1) (r++[dZ K (aB w.aAB.Log) v b]) ⟨bG (aD w d).aAD.Entries b.Entries⟩:=by
 have c:aO w d=true:=by grind[aV]
 obtain⟨hl,e⟩:=iP c;have a:=h.wi.push d;rw[h.aCH i ht hr hd] at a;have hv:=h.ver;have hlen:(VK.aBZ w K v b d).Devices.length=w.Devices.length:=au ..;have f:=h.dev _ hl;rw[<-e] at f;refine⟨a,h.bx,h.devs,h.rem,?_,λs hs=> ?_,(f.bun.merge h.bun).mono (by omega),by omega,λk hk=> ?_⟩
 ·show w.aAB.History++[_]=_;rw[h.hist];rfl
 ·rcases bo.1 hs with hs|hs
  ·exact(h.old s hs).mono (by omega) (by omega)
  ·rw[cp.1 hs];exact h.last.mono (by omega) (by omega)
 ·have:∀k (hk:k<(w.Devices.set d.toNat (aB7 w K v b (aD w d))).length),Dv S ((t+1:Nat):Int) w.aAB.Log K (aB w.aAB.Log) (v+1) (w.Devices.set d.toNat (aB7 w K v b (aD w d)))[k]:=λk hk=>by
   rw[fa];rw[au] at hk;split
   ·exact⟨⟨[],by show w.aAB.Log=w.aAB.Log++[];simp⟩, .inr ⟨rfl,cQ _⟩,λ_=>rfl,(f.bun.merge h.bun).mono (by omega)⟩
   ·exact(h.dev k hk).mono (by omega) (by omega)
  exact this k hk
end
end Go.VK
set_option maxRecDepth 100000
namespace Go.VK
open D
def aB8 {l:List AC}{e:AC}(h:aT (l++[e])=true):iA l e=true/\(l=[]\/aT l=true)/\l.length<40:=by
 unfold aT at h;rw[aa,bp] at h;have hr:=gN h.1;have hlen:(l++[e]).length=l.length+1:=by simp
 rw[hlen] at hr;have h1:=Gc h.2 l.length (by simp)
 grind[List.length_pos_iff,aT,fU,Bool.not_eq_true',Ah,Gc,List.getElem_append_left]
def Tw {α:Type}{P:List α->Prop}(h0:P [])(hs:∀l a,P l->P (l++[a])):∀(n:Nat) (l:List α),l.length=n->P l
 |0,l,h=>by rw[gl.1 h];exact h0
 |n+1,l,h=>by
  have c:l≠[]:=by rintro rfl;simp at h
  rw[<-List.dropLast_concat_getLast c];exact hs _ _ (Tw h0 hs n _ (by rw[List.length_dropLast];omega))
def bD0 (l:List AC):(aA l).Nodup:=
 Tw (P:=λl=>(aA l).Nodup) fR (by grind[Gg,aBq]) l.length l rfl
def aNi (l:List AC):l.length<=1000->0<=aB l/\aB l<=(l.length:Int):=
 Tw (P:=λl=>l.length<=1000->0<=aB l/\aB l<=(l.length:Int)) (λ_=>⟨cQ 0,cQ 0⟩) (by grind[List.length_append,Ak,aH]) l.length l rfl
theorem aXt (l:List AC)(e:AC)(h:l.length<=999)(hk:e.Kind=2):aB (l++[e])=aB l+1:=by have:=aNi l (by omega);rw[Ak,hk,show((2:Int)==2)=true from rfl,ae,aH (by omega) (by omega)]
def bAg {l:List AC}:(l=[]\/aT l=true)->∀p,dD l p=true->p∉aA l:=
 Tw (P:=λl=>(l=[]\/aT l=true)->∀p,dD l p=true->p∉aA l) (by simp[dD]) (λl e a h p hp=>by
  have hl:aT (l++[e])=true:=h.resolve_left (by simp);obtain⟨h1,h2,_⟩:=aB8 hl;rw[rV,cf] at hp
  grind[aA,bne_self_eq_false,Bool.not_eq_true',Bool.false_eq_true,List.mem_singleton,gY,iA,Gg]) l.length l rfl
theorem aXu {log:List AC}{key eph:Int}(hl:aT log=true)(hk:bA key=true)(hp:∀p∈aA log,bA p=true)(d:(aA log).length<=1000)(h:1<=eph/\eph<=1000000):(bB log key eph).2=true/\BoxIn log (bB log key eph).1 key:=by
 obtain⟨i,j,e,l⟩:=Yg hl hk hp d h;have f:log.length<=40:=by unfold aT at hl;rw[aa] at hl;have:=gN hl.1;omega
 refine⟨i,j,e,bD0 log,hk,λk a=> ?_,by have:=aNi log (by omega);omega⟩;have n:(bB log key eph).1.Boxes.length=(aA log).length:=by have:=congrArg List.length e;rwa [bh] at this
 have c:k<(aA log).length:=by omega
 have o:(aA log).length<=1000:=d;have hb:=l k a c;refine⟨eph+(k:Int),fU (by omega) (by omega),?_⟩
 grind
theorem aB9 (l:List AC):(aA l).length<=l.length:=gD l
def aXv {log:List AC}{k d:Int}{s:AK}(h:(dG log k d s).2=true):dG log k d s=(log++[xC log k d s],true)/\aT (log++[xC log k d s])=true:=by
 grind[decide,aT,xC,Bool.or_eq_false_iff,Bool.not_eq_false',dG]
theorem aXw {log:List AC}{key e:Int}(h:(bB log key e).2=true):bA key=true:=by
 grind[aT,bA,fE,gQ,aB,aA,Bool.or_eq_false_iff,Bool.not_eq_false',bB]
def bAh {c:AO}{log:List AC}{e:AM}(h:(jZ c log e).2=true):jZ c log e=({c with Log:=log,Boxes:=e},true):=by
 grind[aT,bT,gL,jZ]
def aRo {w:AA}{b k p:Int}{key:List AC->Int}{l:List AC}(hl:l=w.aAB.Log++[xC w.aAB.Log k p (aD w b).Store])(h:(gI w b k p key).2=true):
  ∃bx,gI w b k p key=({w with aAB:={w.aAB with Log:=l,Boxes:=bx}},true)/\aT l=true/\bA (key l)=true/\((∀q∈aA l,bA q=true)->BoxIn l bx (key l))/\(dG w.aAB.Log k p (aD w b).Store).1=l:=by
 have h0:(dG w.aAB.Log k p (aD w b).Store).2=true/\(bB (dG w.aAB.Log k p (aD w b).Store).1 (key (dG w.aAB.Log k p (aD w b).Store).1) (IntKind.i64.wrap (1000+IntKind.i64.wrap (10*((dG w.aAB.Log k p (aD w b).Store).1.length:Int))))).2=true/\(jZ w.aAB (dG w.aAB.Log k p (aD w b).Store).1 (bB (dG w.aAB.Log k p (aD w b).Store).1 (key (dG w.aAB.Log k p (aD w b).Store).1) (IntKind.i64.wrap (1000+IntKind.i64.wrap (10*((dG w.aAB.Log k p (aD w b).Store).1.length:Int))))).1).2=true:=by
  grind[dG,aD,bB,jZ,gI]
 obtain⟨h1,h2,a⟩:=h0;obtain⟨c,d⟩:=aXv h1;rw[c,<-hl] at h2 a;rw[<-hl] at c d;have e:=bAh a;have hlen:l.length<=40:=by have:=d;unfold aT at this;rw[aa] at this;have:=gN this.1;omega
 grind[gI,aH,aXu,aXw,aB9,bB]
end Go.VK
set_option maxRecDepth 100000
namespace Go.VK
open D
structure KeyD (S:List (Int×Int)):Prop where
 ks:KeyS S
 dv:∀q:Nat,q<6->(bN (aC 0),(q:Int))∈S/\(bN (aC 1),(q:Int))∈S
section
variable {S:List (Int×Int)} {t m:Nat} {w:AA} {K v:Int} {r:List AI} {b:AF}
def Net.keys (h:Net S t m w K v r b):∀q∈aA w.aAB.Log,bA q=true:=λq hq=>by
 obtain⟨k,_,rfl⟩:=h.devs q hq;exact Tt _ _
theorem gJ {w:AA}{c:Int}(h:aV w c=true):aO w c=true:=by
 grind[aV]
theorem Net.inl (h:Net S t m w K v r b){c:Int}(hc:((aU w c 0).2==0)=true):aV w c=true:=by
 cases hl:aV w c with
 |true=>rfl
 |false=>rw[h.aCO hl 0] at hc;cases hc
def oU (w:AA)(c:Int):List AC:=w.aAB.Log++[xC w.aAB.Log 1 (iH w.Seed w.Devices.length) (aD w c).Store]
def aKk {w:AA}{c:Int}(hl:aT (oU w c)=true):
  aA (oU w c)=aA w.aAB.Log++[iH w.Seed w.Devices.length]/\(∀p,dD (oU w c) p=dD w.aAB.Log p)/\aB (oU w c)=aB w.aAB.Log:=by
 obtain⟨h1,_,_⟩:=aB8 hl;have hk:(xC w.aAB.Log 1 (iH w.Seed w.Devices.length) (aD w c).Store).Kind=1:=rfl;have hd:(xC w.aAB.Log 1 (iH w.Seed w.Devices.length) (aD w c).Store).Device=iH w.Seed w.Devices.length:=rfl
 grind[oU,Ak,rV,Gg,gY,aA,iH,eO,gB,Bool.not_eq_true',iA]
theorem Net.aAW (h:Net S t w.Devices.length w K v r b)(o:KeyD S)(ht:t<=900000){c:Int}(h0:((aU w c 0).2==0)=true)(h1:(add1 w c).2=true)(hn:w.Devices.length<6):
  Net S (t+2) (w.Devices.length+1) (VK.aAW w c) K v r b/\(VK.aAW w c).Devices=w.Devices.set c.toNat (jU (jP w K v b (aD w c)) (w.Devices.length:Int) false)/\(VK.aAW w c).aAB.Log=oU w c/\(VK.aAW w c).Seed=w.Seed:=by
 have f:=h.inl h0;have a:=gJ f;obtain⟨hl,e⟩:=iP a;have hs:=h.aBV o.ks ht f;have A:=h.dev _ hl;rw[<-e] at A;have i:aD (aU w c 0).1 c=jP w K v b (aD w c):=by
  grind[List.getD,List.getElem?_set_self,default,aD,hs]
 obtain⟨bx,x,F,J,u,_⟩:=aRo (w:=(aU w c 0).1) (b:=c) (k:=1) (p:=aM (aL w.Seed (w.Devices.length:Int))) (key:=λ_=>(aD (aU w c 0).1 c).Key) (l:=oU w c) (by rw[i,hs];rfl) h1;obtain⟨D,G,y⟩:=aKk F;have x:add1 w c=({(aU w c 0).1 with aAB:={(aU w c 0).1.aAB with Log:=oU w c,Boxes:=bx}},true):=x;have u:(∀q∈aA (oU w c),bA q=true)->BoxIn (oU w c) bx (aD (aU w c 0).1 c).Key:=u;rw[i] at u;have j:=u λq hq=>by
  rw[D] at hq;rcases bo.1 hq with hq|hq
  ·exact h.keys q hq
  grind[List.mem_singleton,Tt]
 have H:(VK.aAW w c).Devices=w.Devices.set c.toNat (jU (jP w K v b (aD w c)) (w.Devices.length:Int) false):=by
  show(add1 w c).1.Devices.set c.toNat (jU (aD (add1 w c).1 c) (w.Devices.length:Int) false)=_
  grind[List.set_set,hs,aU,aD,add1,jP]
 have d:(VK.aAW w c).aAB={w.aAB with Log:=oU w c,Boxes:=bx}:=by show(add1 w c).1.aAB=_;rw[x];show({(aU w c 0).1.aAB with Log:=oU w c,Boxes:=bx}:AO)=_;rw[hs]
 obtain⟨I,z,L⟩:=h.wi.aDG hn a;have n:ChgIn S ((t:Int)+2) (jP w K v b (aD w c)) (jU (jP w K v b (aD w c)) (w.Devices.length:Int) false):=aXs o.ks (by omega) (A.bun.merge h.bun) (o.dv _ hn).1 (o.dv _ hn).2 false;have hv:=h.ver;refine⟨⟨I,by rw[d];exact j,λp hp=> ?_,λp hp=> ?_,?_,λs hs=> ?_,h.bun.mono (by omega),by omega,?_⟩,H,by rw[d],z⟩
 ·rw[d] at hp;rw[z];have hp:p∈aA (oU w c):=hp;rw[D] at hp;rcases bo.1 hp with hp|hp
  ·obtain⟨k,hk,e⟩:=h.devs p hp;grind
  grind
 ·rw[d] at hp;rw[z];have hp:dD (oU w c) p=true:=hp;rw[G] at hp;obtain⟨k,hk,e⟩:=h.rem p hp;grind
 ·rw[d];show w.aAB.History=r++[dZ K (aB (oU w c)) v b];rw[y];exact h.hist
 ·rw[d];show Hs S _ K (aB (oU w c)) v s;rw[y];exact(h.old s hs).mono (by omega) (cQ _)
 ·rw[d];show ∀k (hk:k<(VK.aAW w c).Devices.length),Dv S _ (oU w c) K (aB (oU w c)) v (VK.aAW w c).Devices[k];rw[y];have:∀k (hk:k<(w.Devices.set c.toNat (jU (jP w K v b (aD w c)) (w.Devices.length:Int) false)).length),Dv S ((t+2:Nat):Int) (oU w c) K (aB w.aAB.Log) v (w.Devices.set c.toNat (jU (jP w K v b (aD w c)) (w.Devices.length:Int) false))[k]:=λk hk=>by
   rw[fa];rw[au] at hk;split
   ·refine⟨⟨[xC w.aAB.Log 1 (iH w.Seed w.Devices.length) (aD w c).Store],?_⟩, .inr ⟨?_,?_⟩,λ_=> ?_,n.bun.mono (by omega)⟩
    ·rw[n.log];rfl
    ·rw[n.ep];rfl
    ·rw[n.ver];exact cQ _
    ·rw[n.key];rfl
   ·have q:=(h.dev k hk).mono (U:=((t+2:Nat):Int)) (by omega) (cQ v);obtain⟨r',hr⟩:=q.pre;exact⟨⟨r'++[xC w.aAB.Log 1 (iH w.Seed w.Devices.length) (aD w c).Store],by unfold oU;rw[<-ce,<-hr]⟩,q.at_,q.key,q.bun⟩
  simp_all
def bD1 (U:AA)(K v:Int)(B:AF)(n:Nat):AB:=⟨aL U.Seed (n:Int),U.aAB.Log,K,aB U.aAB.Log,v,⟨bG [] B.Entries⟩⟩
def aT2 (U:AA)(K v:Int)(B:AF):AA:={U with Devices:=U.Devices++[bD1 U K v B U.Devices.length],Stolen:=U.Stolen++[false]}
def Net.app (h:Net S t (w.Devices.length+1) w K v r b)(o:KeyS S)(ht:t<=900000)(hn:w.Devices.length<6)(i:iH w.Seed w.Devices.length∈aA w.aAB.Log):
  aU (appW w (bE (aL w.Seed (w.Devices.length:Int)))) (w.Devices.length:Int) 0=(aT2 w K v b,0)/\Net S t (w.Devices.length+1) (aT2 w K v b) K v r b:=by
 have hv:=h.ver;have p:=h.bx.eps;have a:=h.wi.app hn;have hs:=h.aBO o ht (d:=bE (aL w.Seed (w.Devices.length:Int))) ⟨w.aAB.Log,rfl⟩ (by
  show(0:Int)<_\/((0:Int)=_/\(0:Int)<=v);omega) (BunIn.nil S _) i
 have c:aO (appW w (bE (aL w.Seed (w.Devices.length:Int)))) (w.Devices.length:Int)=true:=by
  grind[aO,appW]
 have j:aD (appW w (bE (aL w.Seed (w.Devices.length:Int)))) (w.Devices.length:Int)=bE (aL w.Seed (w.Devices.length:Int)):=by simp[aD,appW]
 have e:∀x,(w.Devices++[bE (aL w.Seed (w.Devices.length:Int))]).set w.Devices.length x=w.Devices++[x]:=(by simp);have he:aU (appW w (bE (aL w.Seed (w.Devices.length:Int)))) (w.Devices.length:Int) 0=(aT2 w K v b,0):=by unfold aU;rw[a.ok,c,j];show(({appW w (bE (aL w.Seed (w.Devices.length:Int))) with Devices:=(w.Devices++[bE (aL w.Seed (w.Devices.length:Int))]).set ((w.Devices.length:Int)).toNat (bU (bE (aL w.Seed (w.Devices.length:Int))) w.aAB.Log w.aAB.Boxes (fC w.aAB 0).1).1}:AA),(bU (bE (aL w.Seed (w.Devices.length:Int))) w.aAB.Log w.aAB.Boxes (fC w.aAB 0).1).2)=_;rw[hs,bj,e];rfl
 have f:=a.sync (w.Devices.length:Int) 0;rw[he] at f;refine⟨he,⟨f,h.bx,h.devs,h.rem,h.hist,h.old,h.bun,h.ver,λk hk=> ?_⟩⟩;have l:k<(w.Devices++[bD1 w K v b w.Devices.length]).length:=hk;show Dv S _ w.aAB.Log K (aB w.aAB.Log) v ((w.Devices++[bD1 w K v b w.Devices.length])[k]'l);rw[List.getElem_append];split
 ·rename_i n;exact h.dev k n
 ·rw[List.getElem_singleton];exact⟨⟨[],by show w.aAB.Log=w.aAB.Log++[];simp⟩, .inr ⟨rfl,cQ _⟩,λ_=>rfl,(BunIn.nil S _).merge h.bun⟩
def Net.tell (h:Net S t m w K v r b)(k:Int):Net S t m (nR w k) K v r b:=h.upd rfl rfl rfl (h.wi.tell k) h.dev
def Gi (w:AA)(K v:Int)(b:AF)(c:Int):AA:=VK.aBZ (VK.aAW w c) K v b c
def aPm (w:AA)(K v:Int)(b:AF)(c:Int):AF:=⟨bG (jU (jP w K v b (aD w c)) (w.Devices.length:Int) false).aAD.Entries b.Entries⟩
theorem Net.add (h:Net S t w.Devices.length w K v r b)(p:KeyD S)(ht:t<=800000)(hr:r.length<=58){c:Int}(d:Te w c=true):
  Net S (t+3) (w.Devices.length+1) (Gi w K v b c) K (v+1) (r++[dZ K (aB w.aAB.Log) v b]) (aPm w K v b c)/\(Gi w K v b c).Devices.length=w.Devices.length/\(Gi w K v b c).Seed=w.Seed/\
  Net S (t+3) (w.Devices.length+1) (iD w c).1 K (v+1) (r++[dZ K (aB w.aAB.Log) v b]) (aPm w K v b c)/\(iD w c).1=nR (aT2 (Gi w K v b c) K (v+1) (aPm w K v b c)) 2/\(Gi w K v b c).aAB.Log=oU w c/\aV w c=true/\
  (Gi w K v b c).Devices=w.Devices.set c.toNat (aB7 (VK.aAW w c) K v b (jU (jP w K v b (aD w c)) (w.Devices.length:Int) false)):=by
 have j:=d;unfold Te at d;simp only[aa,bp,cT] at d;obtain⟨⟨k1,k2,k3,k4⟩,k5,k6,k7,k8,k9⟩:=d;have hn:w.Devices.length<6:=by omega
 obtain⟨n1,n2,n3,n4⟩:=h.aAW p (by omega) k5 k6 hn;have a:=h.inl k5;obtain⟨hl,e⟩:=iP (gJ a);have n5:(VK.aAW w c).Devices.length=w.Devices.length:=by rw[n2,au]
 have q:c.toNat<(VK.aAW w c).Devices.length:=by omega
 have k:aT (oU w c)=true:=by rw[<-n3];exact n1.wi.log
 obtain⟨s,y,u⟩:=aKk k;have i:aO (VK.aAW w c) c=true:=Oe (gJ a) n5;have f:aV (VK.aAW w c) c=true:=by rw[n1.aCY i,n3,n4,s,eO];rw[h.aCY (gJ a),eO] at a;simp[*]
 have l:aD (VK.aAW w c) c=jU (jP w K v b (aD w c)) (w.Devices.length:Int) false:=by
  grind[n2,List.getD,List.getElem?_set_self,aD]
 have hp:=n1.aCH p.ks (by omega) hr f;have n:=n1.aBZ p.ks (by omega) hr f;rw[l,n3,u] at n;have z:aFm w c=(Gi w K v b c,true):=hp;have u1:(Gi w K v b c).Devices.length=w.Devices.length:=by show((VK.aAW w c).Devices.set _ _).length=_;rw[au,n5]
 have u2:(Gi w K v b c).Seed=w.Seed:=n4;have u3:(Gi w K v b c).aAB.Log=oU w c:=n3;have u4:(Gi w K v b c).Devices=w.Devices.set c.toNat (aB7 (VK.aAW w c) K v b (jU (jP w K v b (aD w c)) (w.Devices.length:Int) false)):=by show(VK.aAW w c).Devices.set c.toNat (aB7 (VK.aAW w c) K v b (aD (VK.aAW w c) c))=_;rw[l,n2,fq]
 have n:Net S (t+3) (w.Devices.length+1) (Gi w K v b c) K (v+1) (r++[dZ K (aB w.aAB.Log) v b]) (aPm w K v b c):=n;have o:=n;rw[<-u1] at o;obtain⟨s1,s2⟩:=o.app p.ks (by omega) (by omega) (by simp[*]);have x:aO4 w c=(aT2 (Gi w K v b c) K (v+1) (aPm w K v b c),0):=by
  grind[s1,u2,u1,aO4]
 have eA:(iD w c).1=nR (aT2 (Gi w K v b c) K (v+1) (aPm w K v b c)) 2:=by unfold iD;rw[j,ae,x]
 rw[u1] at s2;exact⟨n,u1,u2,by rw[eA];exact s2.tell 2,eA,u3,a,u4⟩
end
end Go.VK
set_option maxRecDepth 100000
namespace Go.VK
open D
def eD (w:AA)(c x:Int):List AC:=w.aAB.Log++[xC w.aAB.Log 2 (aM (aD w x).Store) (aD w c).Store]
def Ar (w:AA)(c x:Int):Int:=jA (aD w c).Store (eD w c x)
def Y3 {w:AA}{c x:Int}(hl:aT (eD w c x)=true):
  aA (eD w c x)=(aA w.aAB.Log).filter (λd=>d !=aM (aD w x).Store)/\(∀p,dD (eD w c x) p=(dD w.aAB.Log p||aM (aD w x).Store==p))/\aB (eD w c x)=aB w.aAB.Log+1:=by
 obtain⟨_,_,h1⟩:=aB8 hl;have hk:(xC w.aAB.Log 2 (aM (aD w x).Store) (aD w c).Store).Kind=2:=rfl;have hd:(xC w.aAB.Log 2 (aM (aD w x).Store) (aD w c).Store).Device=aM (aD w x).Store:=rfl;refine⟨?_,λp=> ?_,?_⟩
 all_goals grind[eD,aXt,rV,Gg,gY]
def bAi {d:AB}{log:List AC}{key:Int}(h:(jN d log key).2=true):(jN d log key).1={d with Log:=log,Key:=key,Epoch:=aB log,Version:=0}:=by
 grind[aT,bT,decide,aB,bA,jN]
section
variable {S:List (Int×Int)} {t m:Nat} {w:AA} {K v:Int} {r:List AI} {b:AF}
def rW (w:AA)(K v:Int)(b:AF)(c x:Int):AB:=jU {jP w K v b (aD w c) with Log:=eD w c x,Key:=Ar w c x,Epoch:=aB (eD w c x),Version:=0} x true
def aPn (w:AA)(K v:Int)(b:AF)(bx:AM)(c x:Int):AA:=
 {w with Devices:=w.Devices.set c.toNat {rW w K v b c x with Version:=1},Sites:=w.Sites.map (eQ x),aAB:=⟨eD w c x,bx,w.aAB.History++[dZ (Ar w c x) (aB (eD w c x)) 1 (rW w K v b c x).aAD]⟩}
theorem aXx {w:AA}{c x:Int}(h:(dA w c x).2=false):dA w c x=(w,false):=by
 grind[aU,gF,aV,lM,jV,cut2,Ct,dA]
def aRp {w:AA}{c x:Int}(h:(dA w c x).2=true):((aU w c 0).2==0)=true/\gF w c=false/\(c==x)=false/\aV w x=true/\(jV w c x).2=true/\(cut2 w c x).2=true/\(Ct w c x).2=true/\dA w c x=(nR (Ct w c x).1 4,true):=by
 unfold dA at h ⊢
 grind[aU,gF,aV,lM,jV,cut2,Ct,Bool.not_eq_true']
def Net.cutAt (h:Net S t m w K v r b)(d:KeyD S)(ht:t<=900000){c:Int}(a:aV w c=true):aU w c 0=({w with Devices:=w.Devices.set c.toNat (jP w K v b (aD w c))},0)/\aD (iM w c) c=jP w K v b (aD w c):=by
 have hs:=h.aBV d.ks ht a
 grind[List.getD,List.getElem?_set_self,default,aD,hs,iM,iP,gJ]
def Net.aDK (h:Net S t m w K v r b)(d:KeyD S){T:Int}(l:0<=T/\T<=900000)(ht:(t:Int)<=T){c x:Int}(a:aV w c=true)(f:aV w x=true):
  ChgIn S (T+2) {jP w K v b (aD w c) with Log:=eD w c x,Key:=Ar w c x,Epoch:=aB (eD w c x),Version:=0} (rW w K v b c x):=by
 obtain⟨hl,e⟩:=iP (gJ a);obtain⟨j,n⟩:=iP (gJ f);have i:=h.dev _ hl;rw[<-e] at i;obtain⟨k,_,_⟩:=qK (gJ f);have hd:=h.wi.dlen;have hk:=d.dv x.toNat (by omega);rw[dT k] at hk;exact aXs d.ks (by omega) ((i.bun.merge h.bun).mono (by omega)) hk.1 hk.2 true
def Net.aDJ (h:Net S t m w K v r b)(y:KeyD S)(ht:t<=800000)(hr:r.length<=58){c x:Int}(j:aV w c=true)(k2:gF w c=false)(k3:(c==x)=false)(k4:aV w x=true)(k5:(jV w c x).2=true)(k6:(cut2 w c x).2=true):
  ∃bx,dA w c x=(nR (aPn w K v b bx c x) 4,true)/\Net S (t+3) m (nR (aPn w K v b bx c x) 4) (Ar w c x) 1 (r++[dZ K (aB w.aAB.Log) v b]) (rW w K v b c x).aAD:=by
 obtain⟨hl,e⟩:=iP (gJ j);obtain⟨z,J⟩:=iP (gJ k4);obtain⟨hs,n⟩:=h.cutAt y (by omega) j;have o:iM w c={w with Devices:=w.Devices.set c.toNat (jP w K v b (aD w c))}:=by unfold iM;rw[hs]
 obtain⟨bx,A,L,e4,M,N⟩:=aRo (w:=iM w c) (b:=c) (k:=2) (p:=aM (aD w x).Store) (key:=jA (aD (iM w c) c).Store) (l:=eD w c x) (by rw[n,o];rfl) k5;obtain⟨g1,O,g3⟩:=Y3 L;have i:∀q∈aA (eD w c x),q∈aA w.aAB.Log:=(by simp_all);have f:BoxIn (eD w c x) bx (Ar w c x):=by have:=M λq hq=>h.keys q (i q hq);rw[n] at this;exact this
 have D:Tf w c x=eD w c x:=N;have h2:(cut2 w c x).1={jP w K v b (aD w c) with Log:=eD w c x,Key:=Ar w c x,Epoch:=aB (eD w c x),Version:=0}:=by have:=bAi k6;unfold cut2;rw[this,D,n];rfl
 have a:=h.aDK y (T:=(t:Int)) (by omega) (cQ _) j k4;have Q:=f.eps;have hv:=h.ver;have R:dI (rW w K v b c x)=({rW w K v b c x with Version:=1},dZ (Ar w c x) (aB (eD w c x)) 1 (rW w K v b c x).aAD,true):=by
  have:=aNh (d:=rW w K v b c x) y.ks (T:=(t:Int)+2) (by omega) (by rw[a.key];exact f.kok) (by rw[a.ep];grind) (by rw[a.ver];simp) a.bun;have V:(rW w K v b c x).Key=Ar w c x:=a.key;have W:(rW w K v b c x).Epoch=aB (eD w c x):=a.ep;have X:(rW w K v b c x).Version+1=1:=by rw[show(rW w K v b c x).Version=0 from a.ver];rfl
  refine this.trans ?_;rw[X,<-V,<-W]
 have F:bZ {w.aAB with Log:=eD w c x,Boxes:=bx} (dZ (Ar w c x) (aB (eD w c x)) 1 (rW w K v b c x).aAD)=({w.aAB with Log:=eD w c x,Boxes:=bx,History:=w.aAB.History++[dZ (Ar w c x) (aB (eD w c x)) 1 (rW w K v b c x).aAD]},true):=by
  refine aIr rfl ?_ λl hl=> ?_
  ·show w.aAB.History.length<60;rw[h.hist];simp;omega
  ·have hl:w.aAB.History.getLast? =some l:=hl;rw[h.hist,List.getLast?_append] at hl
   grind[decide_eq_true,decide,aB,eD,oP,dZ]
 have G:Tg w c x={w with Devices:=w.Devices.set c.toNat (rW w K v b c x),Sites:=w.Sites.map (eQ x),aAB:={w.aAB with Log:=eD w c x,Boxes:=bx}}:=by unfold Tg;rw[h2];have A:jV w c x=({iM w c with aAB:={(iM w c).aAB with Log:=eD w c x,Boxes:=bx}},true):=A;rw[A,o];show(AA.mk _ _ ((w.Devices.set c.toNat _).set c.toNat _) _ _ _ _ _ _ _)=_;rw[fq];rfl
 have h3:Ct w c x=(aPn w K v b bx c x,true):=by
  unfold Ct X5;have:aD (Tg w c x) c=rW w K v b c x:=by
   grind[List.getD,List.getElem?_set_self,default,aD]
  rw[this,R,G];show(bif true&&(bZ {w.aAB with Log:=eD w c x,Boxes:=bx} _).2 then(({w with Devices:=(w.Devices.set c.toNat _).set c.toNat _,Sites:=_,aAB:=(bZ {w.aAB with Log:=eD w c x,Boxes:=bx} _).1}:AA),true) else _)=_;rw[F,fq];rfl
 have I:dA w c x=(nR (aPn w K v b bx c x) 4,true):=by
  grind[aU,hs,k2,k3,k4,k5,k6,dA,lM]
 have u:=(h.wi.cut c x).1;rw[I] at u;refine⟨bx,I,u,f,λp hp=>h.devs p (i p hp),λp hp=> ?_,?_,λs hs=> ?_,a.bun.mono (by omega),by omega,?_⟩
 ·have hp:dD (eD w c x) p=true:=hp;rw[O,cf] at hp;rcases hp with hp|hp
  ·exact h.rem p hp
  ·rw[<-eq_of_beq hp];have:=(h.aCY (gJ k4)).symm.trans k4;rw[eO] at this;rw[J,h.pub z];exact h.devs _ this
 ·show w.aAB.History++[_]=_;rw[h.hist];rfl
 ·have Z:s.Epoch<=aB w.aAB.Log:=by
   rcases bo.1 hs with hs|hs
   ·exact(h.old s hs).low
   ·rw[cp.1 hs];exact cQ _
  refine⟨?_,λhe=> ?_⟩
  ·show s.Epoch<=aB (eD w c x);omega
  ·have he:s.Epoch=aB (eD w c x):=he;omega
 ·have:∀k (hk:k<(w.Devices.set c.toNat {rW w K v b c x with Version:=1}).length),Dv S ((t+3:Nat):Int) (eD w c x) (Ar w c x) (aB (eD w c x)) 1 (w.Devices.set c.toNat {rW w K v b c x with Version:=1})[k]:=λk hk=>by
   rw[fa];rw[au] at hk;split
   ·exact⟨⟨[],by show eD w c x=(rW w K v b c x).Log++[];rw[a.log];simp⟩, .inr ⟨a.ep,cQ 1⟩,λ_=>a.key,a.bun.mono (by omega)⟩
   ·have q:=h.dev k hk;obtain⟨r',hr⟩:=q.pre;have H:w.Devices[k].Epoch<aB (eD w c x):=by rcases q.at_ with q|q<;>omega
    exact⟨⟨r'++[xC w.aAB.Log 2 (aM (aD w x).Store) (aD w c).Store],by unfold eD;rw[<-ce,<-hr]⟩, .inl H,λhe=>by omega,q.bun.mono (by omega)⟩
  exact this
theorem Net.cut (h:Net S t m w K v r b)(d:KeyD S)(ht:t<=800000)(hr:r.length<=58){c x:Int}(a:(dA w c x).2=true):
  ∃bx,dA w c x=(nR (aPn w K v b bx c x) 4,true)/\Net S (t+3) m (nR (aPn w K v b bx c x) 4) (Ar w c x) 1 (r++[dZ K (aB w.aAB.Log) v b]) (rW w K v b c x).aAD:=by
 obtain⟨k1,k2,k3,k4,k5,k6,k7,k8⟩:=aRp a;exact h.aDJ d ht hr (h.inl k1) k2 k3 k4 k5 k6
def Net.aDL (h:Net S t m w K v r b)(F:KeyD S)(ht:t<=800000)(hr:r.length<=58){c x:Int}(a:aV w c=true)(k2:gF w c=false)(k3:(c==x)=false)(k4:aV w x=true)(f:w.aAB.Log.length<40):(dA w c x).2=true:=by
 obtain⟨hl,e⟩:=iP (gJ a);obtain⟨o,G⟩:=iP (gJ k4);obtain⟨L,_,_⟩:=qK (gJ a);obtain⟨M,_,_⟩:=qK (gJ k4);obtain⟨hs,i⟩:=h.cutAt F (by omega) a;have p:iM w c={w with Devices:=w.Devices.set c.toNat (jP w K v b (aD w c))}:=by unfold iM;rw[hs]
 have s:=h.pub hl;have u:=h.pub o;rw[<-e] at s;rw[<-G] at u;have N:aM (aD w c).Store∈aA w.aAB.Log:=by
  grind[eO,aV]
 have O:aM (aD w x).Store∈aA w.aAB.Log:=by
  grind[eO,k4,aV]
 have hd:=h.wi.dlen;have H:aM (aD w c).Store≠aM (aD w x).Store:=by
  grind[Al,k3]
 have h2:1<(aA w.aAB.Log).length:=by
  grind[List.mem_iff_getElem]
 have y:iA w.aAB.Log (xC w.aAB.Log 2 (aM (aD w x).Store) (aD w c).Store)=true:=by
  unfold iA;have hv:eX (aM (aD w c).Store) [bJ (aBj w.aAB.Log 2 (aM (aD w x).Store) (aD w c).Store)] (kH (aD w c).Store [bJ (aBj w.aAB.Log 2 (aM (aD w x).Store) (aD w c).Store)])=true:=by simp[aBz,Ao,kH,aM]
  show((w.aAB.Log.length:Int)==(w.aAB.Log.length:Int)&&(eH w.aAB.Log==eH w.aAB.Log&&((gB (aA w.aAB.Log) (aM (aD w c).Store)||((w.aAB.Log.length:Int)==0&&aM (aD w c).Store==aM (aD w x).Store))&&(eX (aM (aD w c).Store) [bJ (aBj w.aAB.Log 2 (aM (aD w x).Store) (aD w c).Store)] (kH (aD w c).Store [bJ (aBj w.aAB.Log 2 (aM (aD w x).Store) (aD w c).Store)])&&
   (gB (aA w.aAB.Log) (aM (aD w x).Store)&&decide (((aA w.aAB.Log).length:Int)>1))))))=true
  grind[eO,decide_eq_true,aA]
 have j:aT (eD w c x)=true:=aM7 (.inr h.wi.log) y f;obtain⟨I,Q,R⟩:=Y3 j;have d:∀q∈aA (eD w c x),bA q=true:=λq hq=>by
  rw[I] at hq;exact h.keys q (je.1 hq).1
 have k:bA (Ar w c x)=true:=by simp[dR,Ar,jA,bM]
 have hlen:(eD w c x).length<=40:=by grind[List.length_append,List.length_singleton,eD]
 have T:IntKind.i64.wrap (1000+IntKind.i64.wrap (10*((eD w c x).length:Int)))=1000+10*((eD w c x).length:Int):=by
  grind[aH,eD]
 obtain⟨b1,z⟩:=aXu (eph:=IntKind.i64.wrap (1000+IntKind.i64.wrap (10*((eD w c x).length:Int)))) j k d (by grind[aB9,eD]) (by omega);have l:dG w.aAB.Log 2 (aM (aD w x).Store) (aD w c).Store=(eD w c x,true):=by unfold dG;rw[h.wi.log,show aT (w.aAB.Log++[xC w.aAB.Log 2 (aM (aD w x).Store) (aD w c).Store])=true from j];simp;rfl
 have J:jZ w.aAB (eD w c x) (bB (eD w c x) (Ar w c x) (IntKind.i64.wrap (1000+IntKind.i64.wrap (10*((eD w c x).length:Int))))).1=({w.aAB with Log:=eD w c x,Boxes:=(bB (eD w c x) (Ar w c x) (IntKind.i64.wrap (1000+IntKind.i64.wrap (10*((eD w c x).length:Int))))).1},true):=by unfold jZ;rw[j,show bT (eD w c x) w.aAB.Log=true from vT _ _,aIn z.ep z.to z.nd (by grind[aB9,eD])];rfl
 have A:(iM w c).aAB=w.aAB:=by rw[p]
 have n:(aD (iM w c) c).Store=(aD w c).Store:=by rw[i];rfl
 have D:Tf w c x=eD w c x:=by unfold Tf;rw[A,n,l]
 have k5:(jV w c x).2=true:=by
  grind[jA,aD,eD,Ar,jV,gI]
 have k6:(cut2 w c x).2=true:=by unfold cut2;rw[D,i];unfold jN;rw[j,show bT (eD w c x) (jP w K v b (aD w c)).Log=true from vT _ _,show bA (jA (jP w K v b (aD w c)).Store (eD w c x))=true from k,aq (show ¬aB (eD w c x)<(jP w K v b (aD w c)).Epoch by show ¬aB (eD w c x)<aB w.aAB.Log;omega)];rfl
 obtain⟨bx,e,_⟩:=h.aDJ F ht hr a k2 k3 k4 k5 k6;rw[e]
end
end Go.VK
set_option maxRecDepth 100000
namespace Go.VK
open D
def aIs {w:AA}{d j:Int}(h:Ad w d j=true):bL w=true/\aO w d=true/\Fg w j=true:=by
 grind[Ad]
section
variable {S:List (Int×Int)} {t m:Nat} {w:AA} {K v:Int} {r:List AI} {b:AF}
end
def aIt (Q:AP->Prop)(s:AD):Prop:=∀a∈s.Accounts,∀c∈a.Credentials,Q c
def bD2 (P:Int->Prop)(s:AD):Prop:=aIt (λc=>P c.Handle->c.Cut=true) s
def M8 (log:List AC)(seed q:Int):Prop:=dD log (iH seed q.toNat)=true
def aCa (w:AA):Prop:=∀s∈w.Sites,bD2 (M8 w.aAB.Log w.Seed) s
section
variable {m:Nat} {w:AA}
def aRq (h:WIn m w){j:Int}(hj:Fg w j=true):∃hl:j.toNat<w.Sites.length,iN w j=w.Sites[j.toNat]/\(j=0\/j=1)/\SiteIn w.Seed j m (iN w j):=by
 simp only[Fg,aa,cD] at hj;have h2:=h.two;have hl:j.toNat<w.Sites.length:=by omega
 have e:iN w j=w.Sites[j.toNat]:=by unfold iN;rw[List.getD,ab hl,cw]
 refine⟨hl,e,by omega,?_⟩;have:=h.site _ hl
 grind
def bAj {Q:AP->Prop}{s:AD}(h:aIt Q s){id q p:Int}(hq:Q ⟨q,p,0,false⟩):aIt Q (gG s id q p).1:=by
 unfold gG;cases hb: !dK s||decide (aF s id<0) with
 |true=>exact h
 |false=>
  rw[aj];cases h2:(fO (s.Accounts.getD (aF s id).toNat default) q p).2 with
  |false=>exact h
  |true=>
   intro a d c hc;rw[cg] at hb;obtain⟨k,hk,e,j⟩:=Gf (l:=s.Accounts) hb.2;have f:aF s id=(k:Int):=e.trans (by simp);have i:s.Accounts.getD (aF s id).toNat default=s.Accounts[k]:=by rw[f,bj,List.getD,ab hk,cw]
   have d:a∈s.Accounts.set (aF s id).toNat (fO (s.Accounts.getD (aF s id).toNat default) q p).1:=d;rcases jp d with d|d
   ·exact h a d c hc
   ·rw[i] at d;have hm:c∈s.Accounts[k].Credentials\/c=⟨q,p,0,false⟩:=by
     grind[bD,Ya,Kg,List.mem_singleton,List.mem_of_mem_take,List.mem_of_mem_drop,fO]
    rcases hm with hm|rfl
    ·exact h _ (cr hk) c hm
    ·exact hq
def aCb {Q:AP->Prop}{st:AK}{q:Int}(hq:∀p,Q ⟨q,p,0,false⟩):∀{l:List AD} {j:Nat},(∀s∈l,aIt Q s)->∀s∈(kC st q j l).1,aIt Q s
 |[],j,_,s,hs=>by simp[kC] at hs
 |x::l,j,h,s,hs=>by
  unfold kC at hs;cases hb:(gG x 1 q (gH st (aC (j:Int)) q)).2&&(kC st q (j+1) l).2 with
  |false=>rw[hb] at hs;simp at hs
  |true=>
   rw[hb,ae] at hs;rcases ba.1 hs with rfl|hs
   ·exact bAj (h x (cI ..)) (hq _)
   ·exact aCb hq (λs hs=>h s (cC _ hs)) s hs
def aKl {seed j:Int}{l:List AP}(h:Od seed j l){k:Nat}(hk:k<l.length):bF ⟨1,3,l⟩ (k:Int)=(k:Int):=by
 have hd:decide (bF ⟨1,3,l⟩ (k:Int)<0)=false:=by rw[cT];intro hn;have:=Fh (p:=λc:AP=>c.Handle==(k:Int)) hn l[k] (cr hk);rw[(h k hk).1,gi] at this;cases this
 obtain⟨i,hi,a,d⟩:=Gf (l:=l) hd;have:=(h i hi).1
 grind[bF]
def aXy {seed j:Int}{n:Nat}{s:AD}(hj:j=0\/j=1)(hn:n<=6)(hs:SiteIn seed j n s){k:Nat}(hk:k<n):∃l l',s.Accounts=[⟨1,3,l⟩]/\(eQ (k:Int) s).Accounts=[⟨1,3,l'⟩]/\l'.length=l.length/\Od seed j l/\Od seed j l'/\
  (∀c∈l',c.Handle=(k:Int)->c.Cut=true)/\(∀i (h1:i<l.length) (h2:i<l'.length),i≠k->l'[i]=l[i])/\(∀d∈l',∃c∈l,c.Handle=d.Handle/\c.Counter=d.Counter/\(c.Cut=true->d.Cut=true))/\(eQ (k:Int) s).Logins=s.Logins/\(eQ (k:Int) s).Book=s.Book:=by
 have z:=hs.find;obtain⟨l,e,hl,f⟩:=hs.acc;subst f;have A:kP s 0=⟨1,3,l⟩:=by grind[kP]
 have o:=aKl hl hk;have p:jH ⟨1,3,l⟩ (k:Int)=l[k]:=by grind[List.getD,List.getElem?_eq_getElem,jH]
 have q:=aBw (m:=3) hj hl hn (by grind);have x:eQ (k:Int) s={s with Accounts:=[(kJ ⟨1,3,l⟩ (k:Int)).1]}:=by unfold eQ;simp[*]
 have y:∀{l':List AP},Od seed j l'->∀c∈l',c.Handle=(k:Int)->∃h:k<l'.length,c=l'[k]:=λa c hc D=>by
  obtain⟨i,hi,e⟩:=cL.1 hc;have:=(a i hi).1
  grind
 rw[x];unfold kJ;rw[q,o,p,aq (show ¬(k:Int)<0 by omega)];cases u:l[k].Cut with
 |true=>
  grind
 |false=>
  have a:Od seed j (l.set k {l[k] with Cut:=true}):=hl.set hk rfl rfl (hl k hk).2.2
  grind
end
end Go.VK
set_option maxRecDepth 100000
namespace Go.VK
open D
def M9:List (Int×Int):=[(1941999745,0),(1941999745,1),(1941999745,2),(1941999745,3),(1941999745,4),(1941999745,5),(1464438180,0),(1464438180,1),(1464438180,2),(1464438180,3),(1464438180,4),(1464438180,5)]
def bAk {x:List (Int×Int)}(h:x.length<=8)(a:∀p∈x,(0<=p.1/\p.1<=2147483646)/\(0<=p.2/\p.2<=1000000)):KeyD (M9++x):=by
 refine⟨⟨by rw[bc];show 12+x.length<=20;omega,λp hp=> ?_⟩,λq hq=> ?_⟩
 ·rcases bo.1 hp with hp|hp
  ·have:∀p∈M9,(0<=p.1/\p.1<=2147483646)/\(0<=p.2/\p.2<=1000000):=by decide
   simp[*]
  simp[*]
 simp_all[bFl,bFm,M9,List.mem_append_left];omega
def aXz {x:List (Int×Int)}{n:Nat}(h:n=1\/n=2\/n=3):BunIn (M9++x) 3 (Y1 n).Entries:=by
 refine⟨(aOy (aPk h).1).2,λe he=>List.mem_append_left _ ?_,λe he=> ?_⟩
 ·rcases h with rfl|rfl|rfl<;>revert e<;>decide
 ·rcases h with rfl|rfl|rfl<;>revert e<;>decide
def bAl {x:List (Int×Int)}{n k t pin seed:Int}(h:Af n k t pin seed=true):Net (M9++x) 3 (aZ n k t pin seed).Devices.length (aZ n k t pin seed) (bM seed 0) 1 [] (Y1 n.toNat):=by
 obtain⟨a,c,l⟩:=K4 h;have hn:n.toNat=1\/n.toNat=2\/n.toNat=3:=by unfold Af at h;simp only[aa] at h;have:=gN h.1;omega
 obtain⟨h1,h2,o,d,q⟩:=jO seed n.toNat (by omega);have f:(aZ n k t pin seed).aAB=⟨aQ seed n.toNat,fK seed n.toNat,[dZ (bM seed 0) 0 1 (Y1 n.toNat)]⟩:=by
  grind[Yj,aZ]
 have s:(aZ n k t pin seed).Devices=(List.range n.toNat).map λk=>Gh seed n.toNat k 1 (Y1 n.toNat):=by
  grind[aNf,aZ]
 rw[c];refine⟨a,by grind[aNe],λp hp=> ?_,λp hp=> ?_,?_,(by simp),aXz hn,by decide,λi hi=> ?_⟩
 ·grind
 ·simp_all
 ·simp[*]
 ·rw[f];show Dv _ _ (aQ seed n.toNat) _ (aB (aQ seed n.toNat)) 1 (aZ n k t pin seed).Devices[i];have j:i<((List.range n.toNat).map λk=>Gh seed n.toNat k 1 (Y1 n.toNat)).length:=by simp_all
  have e:(aZ n k t pin seed).Devices[i]=Gh seed n.toNat i 1 (Y1 n.toNat):=by simp[*]
  rw[e,d];exact⟨⟨[],by show _=aQ seed n.toNat++[];simp⟩, .inr ⟨rfl,cQ _⟩,λ_=>rfl,aXz hn⟩
def bAm {n k t pin seed:Int}(h:Af n k t pin seed=true):aCa (aZ n k t pin seed):=λs hs a e c hc hp=>by
 have hn:n.toNat=1\/n.toNat=2\/n.toNat=3:=by unfold Af at h;simp only[aa] at h;have:=gN h.1;omega
 have d:(aZ n k t pin seed).aAB.Log=aQ seed n.toNat:=by unfold aZ;rw[h];show(fM seed n.toNat).Log=_;rw[Yj hn]
 unfold M8 at hp;rw[d,(jO seed n.toNat (by omega)).rem] at hp;cases hp
section
variable {S:List (Int×Int)} {t m:Nat} {w:AA} {K v:Int} {r:List AI} {b:AF}
theorem aRr {w:AA}{c:Int}(h:(iD w c).2=false):iD w c=(w,false):=by
 grind[Te,iD]
def aCc {w:AA}{c:Int}(h:(iD w c).2=true):Te w c=true:=by
 grind[Te,iD]
theorem aCa.add (h:Net S t w.Devices.length w K v r b)(f:KeyD S)(ht:t<=800000)(hr:r.length<=58)(hc:aCa w)(a:Int):aCa (iD w a).1:=by
 cases hk:(iD w a).2 with
 |false=>grind[aRr]
 |true=>
  obtain⟨n1,u1,u2,n2,eA,u3,i,u4⟩:=h.add f ht hr (aCc hk);have d:aT (oU w a)=true:=by rw[<-u3];exact n1.wi.log
  obtain⟨p,j,u⟩:=aKk d;have hd:=h.wi.dlen;have l:=n1.wi.mle;have eP:M8 (oU w a) w.Seed=M8 w.aAB.Log w.Seed:=by funext q;unfold M8;rw[j]
  have n:¬M8 (oU w a) w.Seed (w.Devices.length:Int):=λhq=>by
   rw[eP] at hq;obtain⟨k,hk,e⟩:=h.rem _ hq
   grind[Al,Int.toNat_natCast]
  rw[eA];intro s hs;show bD2 (M8 (Gi w K v b a).aAB.Log (Gi w K v b a).Seed) s;rw[u3,u2];have hs:s∈(aO3 w a).1:=hs;have es:(add1 w a).1.Sites=w.Sites:=by obtain⟨x,y,z,o,_⟩:=Ai (aU w a 0).1 a 1 (aM (aL w.Seed (w.Devices.length:Int))) (λ_=>(aD (aU w a 0).1 a).Key);exact o.trans (Jv w a 0).2.2.2.1
  unfold aO3 at hs;rw[es] at hs;exact aCb (Q:=λc=>M8 (oU w a) w.Seed c.Handle->c.Cut=true) (by simp[*]) (λs hs=>by rw[eP];exact hc s hs) s hs
theorem aCa.cut (h:Net S t m w K v r b)(hm:m=w.Devices.length)(z:KeyD S)(ht:t<=800000)(hr:r.length<=58)(hc:aCa w)(c x:Int):aCa (dA w c x).1:=by
 cases hk:(dA w c x).2 with
 |false=>grind[aXx]
 |true=>
  obtain⟨bx,e,n1⟩:=h.cut z ht hr hk;obtain⟨k1,k2,k3,k4,_⟩:=aRp hk;obtain⟨p,A⟩:=iP (gJ k4);obtain⟨D,_,_⟩:=qK (gJ k4);have n:aT (eD w c x)=true:=n1.wi.log;obtain⟨M,F,N⟩:=Y3 n;have hd:=h.wi.dlen;have u:=h.wi.mle;rw[e];intro s hs;have hs:s∈w.Sites.map (eQ x):=hs;obtain⟨s',o,rfl⟩:=ci.1 hs;obtain⟨j,hj,es⟩:=cL.1 o;have h2:=h.wi.two;have f:=h.wi.site j hj;rw[es] at f;obtain⟨l,l',q1,q2,q3,q4,q5,q6,q7,q8,_⟩:=aXy (j:=(j:Int)) (by omega) h.wi.mle f (k:=x.toNat) (by omega);rw[dT D] at q2 q6;show bD2 (M8 (eD w c x) w.Seed) _;intro a q y d hp;rw[q2] at q;have q:a=⟨1,3,l'⟩:=by simp_all
  subst q;have d:y∈l':=d;unfold M8 at hp;rw[F,cf] at hp;rcases hp with hp|hp
  ·obtain⟨G,H,O,_,I⟩:=q8 y d;exact I (hc s' o ⟨1,3,l⟩ (by simp[*]) G H (by grind[M8]))
  ·have hp:=eq_of_beq hp;rw[A,h.pub p] at hp;obtain⟨i,hi,J⟩:=cL.1 d;have L:=(q5 i hi).1;rw[J] at L;have hl:=f.acc
   grind[q6,Al,Int.toNat_natCast,q1]
end
def aX0 (M:Int)(k:AU):Prop:=k.Guesses<=k.Limit/\qP k<=M
def aX1 (h:AJ):Prop:=aX0 h.Monotonic h.State/\∀k∈h.Saved,aX0 h.Monotonic k
def aX0.mono {M N:Int}{k:AU}(h:aX0 M k)(hm:M<=N):aX0 N k:=⟨h.1,eJ h.2 hm⟩
def Tx (l:List AJ):Prop:=∀h∈l,aX1 h
def Tx.within {w:AA}(h:Tx w.Hosts):dM w=true:=by unfold dM;rw[bp,ip];intro x a;obtain⟨h1,h2⟩:=(h x a).1;simp[*]
theorem aT3 {k:AU}(h:k.Guesses<=k.Limit):aX1 (vR k):=⟨⟨h,cQ _⟩,λk hk=>by simp[vR] at hk⟩
end Go.VK
set_option maxRecDepth 100000
namespace Go.VK
open D
structure All (S:List (Int×Int)) (t:Nat) (w:AA):Prop where
 net:∃K v r b,Net S (3+3*t) w.Devices.length w K v r b/\r.length<=t
 cut:aCa w
 hosts:Tx w.Hosts
def All.wi {S:List (Int×Int)}{t:Nat}{w:AA}(h:All S t w):WIn w.Devices.length w:=let ⟨_,_,_,_,n,_⟩:=h.net;n.wi
def All.mono {S:List (Int×Int)}{t u:Nat}{w:AA}(h:All S t w)(a:t<=u):All S u w:=
 let ⟨K,v,r,b,n,hr⟩:=h.net;⟨⟨K,v,r,b,n.mono (by omega),by omega⟩,h.cut,h.hosts⟩
def aT4 {n k t pin seed:Int}:Tx (aZ n k t pin seed).Hosts:=by
 unfold aZ;cases Af n k t pin seed with
 |false=>intro h a;grind[aRf]
 |true=>
  intro h a
  grind[Jt,aW,qJ,Ny,vR,aT3,vS,xD]
def aRs {x:List (Int×Int)}{n k t pin seed:Int}(h:Af n k t pin seed=true):All (M9++x) 0 (aZ n k t pin seed):=
 ⟨⟨_,_,_,_,bAl (x:=x) h,ak _⟩,bAm h,aT4⟩
section
variable {S:List (Int×Int)} {t:Nat} {w:AA}
def All.of (h:All S t w){u:AA}{t':Nat}(ht:t<=t')(hn:∀K v r b,Net S (3+3*t) w.Devices.length w K v r b->Net S (3+3*t') w.Devices.length u K v r b)(hl:u.Devices.length=w.Devices.length)(hc:aCa u)(a:Tx u.Hosts):All S t' u:=
 let ⟨K,v,r,b,n,hr⟩:=h.net;⟨(by grind),hc,a⟩
theorem All.add (h:All S t w)(a:KeyD S)(ht:t<=58)(d:Int):All S (t+1) (iD w d).1:=by
 obtain⟨K,v,r,b,n,hr⟩:=h.net;cases hk:(iD w d).2 with
 |false=>rw[aRr hk];exact h.mono (by omega)
 |true=>
  obtain⟨n1,u1,u2,n2,eA,u3,c,u4⟩:=n.add a (by omega) (by omega) (aCc hk);refine⟨⟨K,v+1,r++[dZ K (aB w.aAB.Log) v b],aPm w K v b d,?_,by simp;omega⟩,aCa.add n a (by omega) (by omega) h.cut d,by rw[aTy];exact h.hosts⟩
  ·have hl:(iD w d).1.Devices.length=w.Devices.length+1:=by rw[eA];show((Gi w K v b d).Devices++[_]).length=_;simp[*]
   grind
def All.aDV (h:All S t w)(a:KeyD S)(ht:t<=58)(d x:Int):All S (t+1) (dA w d x).1:=by
 obtain⟨K,v,r,b,n,hr⟩:=h.net;cases hk:(dA w d x).2 with
 |false=>rw[aXx hk];exact h.mono (by omega)
 |true=>obtain⟨bx,e,n1⟩:=n.cut a (by omega) (by omega) hk;refine⟨⟨Ar w d x,1,r++[dZ K (aB w.aAB.Log) v b],(rW w K v b d x).aAD,?_,by simp;omega⟩,aCa.cut n rfl a (by omega) (by omega) h.cut d x,by rw[aTz];exact h.hosts⟩;rw[(h.wi.cut d x).2.2,e];assumption
def All.final (h:All S t w){d:Int}(hd:aO w d=true):jX w d=true->aV w d=false/\(w.Sites.take 2).any (rP d)=false:=λhc=>by
 obtain⟨K,v,r,b,n,hr⟩:=h.net;obtain⟨hl,e⟩:=iP hd;obtain⟨d0,_,_⟩:=qK hd;have hr:dD w.aAB.Log (iH w.Seed d.toNat)=true:=by unfold jX at hc;rw[hd,e,n.pub hl] at hc;exact hc
 refine⟨?_,?_⟩
 ·rw[n.aCY hd,ir,Ne,eO];exact bAg (.inr n.wi.log) _ hr
 ·rw[ip];intro s hs hb;have hs:=e9 hs;obtain⟨j,hj,es⟩:=cL.1 hs;have a:=n.wi.site j hj;rw[es] at a;obtain⟨l,f,i,k⟩:=a.acc;unfold rP at hb;rw[a.find,f,aa] at hb;obtain⟨c,hc1,hc2⟩:=et.1 hb.2;rw[aa,bp] at hc2;have hc1:c∈l:=hc1;have:=h.cut s hs ⟨1,3,l⟩ (by rw[f];simp) c hc1 (by unfold M8;rw[eq_of_beq hc2.1];exact hr);simp_all
def All.aCN (h:All S t w){d:Int}(hd:aO w d=true):iF w d=true:=by
 unfold iF;cases hc:jX w d with
 |false=>rfl
 |true=>obtain⟨h1,h2⟩:=h.final hd hc;simp[*]
def All.aCF (h:All S t w){d:Int}(hd:aO w d=true):gM w d=true:=by
 obtain⟨K,v,r,b,n,hr⟩:=h.net;obtain⟨hl,e⟩:=iP hd;unfold gM;rw[hd];cases hi:aV w d with
 |false=>rfl
 |true=>
  have a:=hi;unfold aV at hi;rw[hd,cM,eO] at hi;rw[Ap n.bx hi];cases he:(aD w d).Epoch !=aB w.aAB.Log with
  |true=>rfl
  |false=>rw[bne_eq_false_iff_eq] at he;have:=(n.dev _ hl).key (by rw[<-e];exact he);simp_all
def Au {k:Nat}(h:k<w.Devices.length):aO w (k:Int)=true:=by
 grind[decide_eq_true,aO]
def All.aDR (h:All S t w):mG w=true:=by
 unfold mG;rw[h.wi.ok,h.hosts.within,cM,cM,bp];exact Ah λk hk=>by
  rw[ck];unfold Nv;rw[h.aCN (Au hk),h.aCF (Au hk)];rfl
end
end Go.VK
set_option maxRecDepth 100000
namespace Go.VK
open D
section
variable {S:List (Int×Int)} {t m:Nat} {w:AA} {K v:Int} {r:List AI} {b:AF}
def aRt {l:List AB}{x:AB}{c:Nat}(hc:c<l.length):(l.set c x).getD c default=x:=by simp[*]
structure Settled (S:List (Int×Int)) (t:Nat) (w:AA) (K:Int) (r:List AI) (b:AF) (y:AA) (v':Int) (r':List AI) (b':AF):Prop where
 eq:aZw w=(y,true)
 net:Net S (t+w.Devices.length) w.Devices.length y K v' r' b'
 rlen:r'.length<=r.length+w.Devices.length
 log:y.aAB.Log=w.aAB.Log
 seed:y.Seed=w.Seed
 stolen:y.Stolen=w.Stolen
 len:y.Devices.length=w.Devices.length
 sites:y.Sites=w.Sites
 hosts:y.Hosts=w.Hosts
 reach:sQ y=sQ w
 own:∀d∈sQ w,(aD y d).aAD=b'/\(aD y d).Epoch=aB w.aAB.Log/\(aD y d).Version=v'/\(aD y d).Key=K
 other:∀d,aO w d=true->(aD y d).Store=(aD w d).Store/\(d∉sQ w->aD y d=aD w d)
 sub:∀d∈sQ w,Sub (aD w d).aAD.Entries b'.Entries
 last:Sub b.Entries b'.Entries
 mem:∀e∈b'.Entries,e∈b.Entries\/∃d∈sQ w,e∈(aD w d).aAD.Entries
end
end Go.VK
set_option maxRecDepth 100000
namespace Go.VK
open D
theorem aX2 (s:AK)(o:AX)(z:ByteArray)(i c:Int)(p:Bool):Jr s o z i c p=(s,aZz,false)\/(Jq o z=true/\tJ s=true/\s.Counter<1000000/\Jr s o z i c p=({s with Counter:=s.Counter+1},{Yd s o z i c p with Counter:=s.Counter+1,Signature:=nQ (dB s z i) (jI (Yd s o z i c p)++[s.Counter+1])},true)):=by
 unfold Jr;cases hm:Jq o z with
 |false=>simp
 |true=>
  unfold Jp;cases hs:tJ s&& !(s.Counter==1000000) with
  |false=>simp
  |true=>
   simp only[aa,bp,cb] at hs;have hc:=hs.1;unfold tJ at hc;simp only[aa] at hc;have hr:=gN hc.2.2.2
   grind[aW0,aH]
def bAn {s:AK}{o:AX}{z:ByteArray}{i c:Int}{p:Bool}(h1:Jq o z=true)(h2:tJ s=true)(a:s.Counter<1000000):Jr s o z i c p=({s with Counter:=s.Counter+1},{Yd s o z i c p with Counter:=s.Counter+1,Signature:=nQ (dB s z i) (jI (Yd s o z i c p)++[s.Counter+1])},true):=by
 grind[Jr,Jp,beq_eq_false_iff_ne,aX2]
def bFq {seed:Int}{k:Nat}{s:AK}(h:StIn seed k s)(hk:k<6):tJ s=true:=by unfold tJ;rw[h.ven,h.ser,h.key,fU (show(0:Int)<=(k:Int) by omega) (by omega),fU h.cnt.1 h.cnt.2];show(true&&(true&&(bA (aW seed [277,(k:Int)])&&true)))=true;rw[dR];rfl
def aPo {b:AQ}(h:BookIn b)(hn:b.Next<1000000){now:Int}(ht:0<=now/\now<=999900):eT b 1 now=((eT b 1 now).1,⟨b.Next,1,now+5⟩,true)/\(eT b 1 now).1.Next=b.Next+1/\(J4 (eT b 1 now).1 b.Next 1 now).2=true:=by
 have o:=X9 h.ok;have hq:=(aM6 h 1 now).1;have q:IntKind.i64.wrap (now+5)=now+5:=(by grind[aH]);have s:0<=b.Next:=by have:=h.ok;unfold fJ at this;simp only[aa] at this;exact(gN this.1.1).1
 have f:eT b 1 now=(⟨b.Seed,b.Next+1,(bif decide ((b.Open.length:Int)>=16) then b.Open.drop 1 else b.Open)++[⟨b.Next,1,now+5⟩]⟩,⟨b.Next,1,now+5⟩,true):=by unfold eT Ti;rw[h.ok,cb.2 (show b.Next≠1000000 by omega),fU (show(0:Int)<=1 by decide) (by decide),fU ht.1 (by omega),q,aH (by omega) (by omega)];rfl
 refine⟨by rw[f],by rw[f],?_⟩;have j:∀c∈b.Open,c.Id<=b.Next-1:=λc hc=>by
  have:=h.ok;unfold fJ at this;simp only[aa,bp] at this;obtain⟨i,hi,e⟩:=cL.1 hc;have h2:=Gc this.2 i hi;unfold fA at h2;simp only[cg,cY] at h2;have:=(gN h2.1).2
  grind[aH]
 have hm:∀c∈(eT b 1 now).1.Open,c.Id=b.Next->c=⟨b.Next,1,now+5⟩:=(by grind[decide,List.mem_of_mem_drop,List.mem_singleton]);have d:(⟨b.Next,1,now+5⟩:AY)∈(eT b 1 now).1.Open:=by simp[*]
 have n:decide (mV (eT b 1 now).1 b.Next<0)=false:=by
  rw[cT];intro a;have:=Fh (p:=λc:AY=>c.Id==b.Next) a _ d
  grind
 obtain⟨k,hk,x,y⟩:=Gf (l:=(eT b 1 now).1.Open) n;have u:aKe (eT b 1 now).1 (mV (eT b 1 now).1 b.Next)=⟨b.Next,1,now+5⟩:=by
  grind[List.getElem_mem,Int.toNat_natCast,List.getD,List.getElem?_eq_getElem,aKe,mV,eT]
 unfold J4;rw[hq.ok,n,u]
 grind
section
variable {m:Nat} {w:AA}
def aX3 (h:WIn m w){d j:Int}{o:AX}(ht:Ad w d j=true)(hm:d.toNat<m)(ho:Jq o (aC j)=true)(hn:(iN w j).Book.Next<1000000)(hc:(aD w d).Store.Counter<1000000)
  (y:∀a∈(iN w j).Accounts,∀(hk:d.toNat<a.Credentials.length),a.Credentials[d.toNat].Cut=false/\a.Credentials[d.toNat].Counter<=(aD w d).Store.Counter):(aBo w d j o).2.2=0:=by
 obtain⟨N,t2,z⟩:=aIs ht;obtain⟨hl,es,hj,hs⟩:=aRq h z;obtain⟨d0,d1,_⟩:=qK t2;have s:=h.mle;have hb:=X9 hs.book;obtain⟨A,O,Q⟩:=aPo hb hn h.now;have D:Fx w j=({iN w j with Book:=(eT (iN w j).Book 1 w.Now).1},(iN w j).Book.Next,kK (eT (iN w j).Book 1 w.Now).1 (iN w j).Book.Next,true):=by unfold Fx aBm;rw[hs.ok hj h.mle,hs.find,A];rfl
 have i:=h.aCD t2;have k:=bFq i (by omega);have u:aMy w d j o=({(aD w d).Store with Counter:=(aD w d).Store.Counter+1},{Yd (aD w d).Store o (aC j) d (Fx w j).2.2.1 true with Counter:=(aD w d).Store.Counter+1,Signature:=nQ (dB (aD w d).Store (aC j) d) (jI (Yd (aD w d).Store o (aC j) d (Fx w j).2.2.1 true)++[(aD w d).Store.Counter+1])},true):=bAn ho k hc;have c:=hs.begin 1 w.Now;rw[show(aBm (iN w j) 1 w.Now)=Fx w j from rfl] at c;obtain⟨l,e,f,p⟩:=hs.acc;subst p;have q:=f d.toNat hm;obtain⟨u1,u2⟩:=y ⟨1,3,l⟩ (by grind) hm;have u2:l[d.toNat].Counter<=(aD w d).Store.Counter:=u2;have u1:l[d.toNat].Cut=false:=u1;have F:kP (Fx w j).1 0=⟨1,3,l⟩:=by grind[iN,kP]
 have G:=aBw (m:=3) hj f h.mle (by grind);have H:bF ⟨1,3,l⟩ d=(d.toNat:Int):=by have:=aKl f hm;rwa [dT d0] at this ⊢
 have I:jH ⟨1,3,l⟩ (d.toNat:Int)=l[d.toNat]:=by unfold jH;rw[bj];show l.getD d.toNat default=_;rw[List.getD,ab hm,cw]
 have n:dB (aD w d).Store (aC j) d=dB (aL w.Seed (d.toNat:Int)) (aC j) (d.toNat:Int):=by rw[dB,dB,i.key,dT d0]
 have hv:∀M,eX (dC (dB (aL w.Seed (d.toNat:Int)) (aC j) (d.toNat:Int))) M (nQ (dB (aL w.Seed (d.toNat:Int)) (aC j) (d.toNat:Int)) M)=true:=(by simp[aBz,dB,dR]);have x:Fw l[d.toNat].Public (aMy w d j o).2.1 (Fx w j).1.Name (kK (Fx w j).1.Book (Fx w j).2.1) l[d.toNat].Counter=0:=by rw[c.name,u,D];unfold Fw;show(bif !((aC j).toList==(aC j).toList) then(1:Int) else bif !true then 2 else bif !(kK (eT (iN w j).Book 1 w.Now).1 (iN w j).Book.Next==kK (eT (iN w j).Book 1 w.Now).1 (iN w j).Book.Next) then 3 else bif !eX l[d.toNat].Public (jI (Yd (aD w d).Store o (aC j) d (kK (eT (iN w j).Book 1 w.Now).1 (iN w j).Book.Next) true)++[(aD w d).Store.Counter+1]) (nQ (dB (aD w d).Store (aC j) d) (jI (Yd (aD w d).Store o (aC j) d (kK (eT (iN w j).Book 1 w.Now).1 (iN w j).Book.Next) true)++[(aD w d).Store.Counter+1])) then 5 else bif decide ((aD w d).Store.Counter+1<=l[d.toNat].Counter) then 4 else 0)=0;rw[q.2.1,n,show Gd w.Seed j d.toNat=dC (dB (aL w.Seed (d.toNat:Int)) (aC j) (d.toNat:Int)) from rfl,hv,aq (show ¬(aD w d).Store.Counter+1<=l[d.toNat].Counter by omega)];simp
 have R:(aZ0 w d j o).2.1=0:=by
  unfold aZ0 aRd;rw[c.ok hj h.mle,c.find];have J:(J4 (Fx w j).1.Book (Fx w j).2.1 1 w.Now).2=true:=by grind
  have L:aKf (kP (Fx w j).1 0) 3=true:=by
   grind[List.any_eq_true,List.getElem_mem,u1,aKf]
  have T:(aMy w d j o).2.1.Handle=d:=by rw[u];rfl
  grind[aBn,kP,Fx,aMy,kK,u1,decide_eq_false]
 grind[aBo]
end
end Go.VK
set_option maxRecDepth 100000
namespace Go.VK
open D
def aX4 (w:AA)(k:Nat):Int:=(w.Devices.getD k default).Store.Counter
def bBx (w:AA)(k:Nat):Prop:=dD w.aAB.Log (iH w.Seed k)=true
def CrU (cnt:Nat->Int)(rem:Nat->Prop)(c:AP):Prop:=c.Counter<=cnt c.Handle.toNat/\(c.Cut=true->rem c.Handle.toNat)
structure Us (B:Int) (w:AA):Prop where
 cnt:∀k,k<w.Devices.length->aX4 w k<=B
 next:∀s∈w.Sites,s.Book.Next<=B
 cred:∀s∈w.Sites,aIt (CrU (aX4 w) (bBx w)) s
def CrU.mono {cnt cnt':Nat->Int}{rem rem':Nat->Prop}(hc:∀k,cnt k<=cnt' k)(hr:∀k,rem k->rem' k){c:AP}(h:CrU cnt rem c):CrU cnt' rem' c:=⟨eJ h.1 (hc _),λq=>hr _ (h.2 q)⟩
section
variable {m:Nat} {w:AA} {B:Int}
end
section
variable {S:List (Int×Int)} {t m:Nat} {w:AA} {K v:Int} {r:List AI} {b:AF} {B:Int}
end
section
variable {m:Nat} {w:AA} {B:Int}
def Us.ok (n:WIn m w)(h:Us B w)(q:B<1000000){d j:Int}{o:AX}(ht:Ad w d j=true)(hm:d.toNat<m)(ho:Jq o (aC j)=true)(hr:¬bBx w d.toNat):(aBo w d j o).2.2=0:=by
 obtain⟨s,t2,p⟩:=aIs ht;obtain⟨hl,es,hj,hs⟩:=aRq n p;obtain⟨f,u⟩:=iP t2;have i:aX4 w d.toNat=(aD w d).Store.Counter:=rfl;have c:iN w j∈w.Sites:=by simp[*]
 have hn:=h.next _ c;have hc:=h.cnt _ f;rw[i] at hc;refine aX3 n ht hm ho (by omega) (by omega) λa e hk=> ?_;have hq:=h.cred _ c a e _ (cr hk);obtain⟨l,el,k,_⟩:=hs.acc;rw[el] at e;have e:a=⟨1,3,l⟩:=by simp_all
 subst e;have x:(AH.mk 1 3 l).Credentials[d.toNat].Handle=(d.toNat:Int):=(k d.toNat hk).1
 grind[absurd,Int.toNat_natCast,CrU]
end
end Go.VK
set_option maxRecDepth 100000
namespace Go.VK
open D
def aT5 {n k t pin seed:Int}(h:Af n k t pin seed=true):(aZ n k t pin seed).Stolen=List.replicate n.toNat false/\(aZ n k t pin seed).aAB.Log=aQ seed n.toNat/\(aZ n k t pin seed).Devices.length=n.toNat/\(aZ n k t pin seed).Seed=seed:=by
 have hn:n.toNat=1\/n.toNat=2\/n.toNat=3:=by unfold Af at h;simp only[aa] at h;have:=gN h.1;omega
 obtain⟨_,h2,a⟩:=K4 h;refine⟨by unfold aZ;rw[h];rfl,?_,h2,a⟩;unfold aZ;rw[h];show(fM seed n.toNat).Log=_;rw[Yj hn]
end Go.VK
set_option maxRecDepth 100000
namespace Go.VK
open D
def bAo (l:List AI):Prop:=l.Pairwise λa b=>oP b a=true
structure CldOk (c:AO):Prop where
 bytes:aW7 c
 inc:bAo c.History
section
variable {w:AA}
end
end Go.VK
set_option maxRecDepth 100000
namespace Go.VK
open D
structure Cut1 (s b:Int) (x:AA):Prop where
 all:All (M9++[]) 1 x
 len:x.Devices.length=3
 cut2:jX x 2=true
 cut0:jX x 0=false
 inl:aV x b=true
 ep:(aD x b).Epoch=aB x.aAB.Log
 key:∃K,bA K=true/\(aD x b).Key=K/\(bS (aD x b).Store x.aAB.Boxes).1=K
 hosts:x.Hosts=(aZ 3 2 1 5 s).Hosts
def bAp {s:Int}(hs:1<=s/\s<=256){b:Int}(hb:b=0\/b=1){w x:AA}(F:w=aZ 3 2 1 5 s)(G:x=(dA w b 2).1):(dA w b 2).2=true/\Cut1 s b x:=by
 have A:KeyD (M9++[]):=bAk (x:=[]) (by decide) (λp hp=>by simp at hp);have hk:bA s=true:=fU (by omega) (by omega);have ho:Af 3 2 1 5 s=true:=by unfold Af;rw[hk];decide
 obtain⟨Q,n,D,R⟩:=aT5 ho;have o:All (M9++[]) 0 w:=by rw[F];exact aRs ho
 rw[<-F] at Q n D R;have D:w.Devices.length=3:=D;have n:w.aAB.Log=aQ s 3:=n;have a:∀k:Nat,k<3->aV w (k:Int)=true:=λk hk=>by
  obtain⟨K,v,r,b,nt,hr⟩:=o.net;rw[nt.aCY (Au (by omega)),n,R,(jO s 3 (by omega)).devs,eO];exact ci.2 ⟨k,jl.2 hk,rfl⟩
 have q:aV w b=true:=by
  rcases hb with rfl|rfl
  ·exact a 0 (by omega)
  ·exact a 1 (by omega)
 have H:gF w b=false:=by unfold gF;rw[Q];rcases hb with rfl|rfl<;>rfl
 have i:(dA w b 2).2=true:=by obtain⟨K,v,r,b',nt,hr⟩:=o.net;refine nt.aDL A (by decide) (by omega) q H (by rcases hb with rfl|rfl<;>decide) (a 2 (by omega)) ?_;rw[n,(jO s 3 (by omega)).len];omega
 have I:All (M9++[]) 1 x:=by rw[G];exact o.aDV A (by decide) b 2
 have J:x.Devices.length=3:=by rw[G,(o.wi.cut b 2).2.2];exact D
 have j:∀k:Nat,k<3->aM (aD w (k:Int)).Store=iH w.Seed k:=λk hk=>by
  obtain⟨K,v,r,b,nt,hr⟩:=o.net;have c:k<w.Devices.length:=by omega
  have:aD w (k:Int)=w.Devices[k]:=by unfold aD;rw[bj,List.getD,ab c,cw]
  rw[this];exact nt.pub c
 obtain⟨K,v,r,b',nt,hr⟩:=o.net;obtain⟨bx,e,n1⟩:=nt.cut A (by decide) (by omega) i;have ex:x=nR (aPn w K v b' bx b 2) 4:=by rw[G,e]
 rw[<-ex] at n1;have d:x.aAB.Log=eD w b 2:=by rw[ex];rfl
 have f:x.Seed=w.Seed:=by rw[ex];rfl
 have hl:aT (eD w b 2)=true:=by rw[<-d];exact n1.wi.log
 obtain⟨W,X,g3⟩:=Y3 hl;have L:∀k:Nat,k<3->aM (aD x (k:Int)).Store=iH w.Seed k:=λk hk=>by
  have c:k<x.Devices.length:=by omega
  have:aD x (k:Int)=x.Devices[k]:=by unfold aD;rw[bj,List.getD,ab c,cw]
  rw[this,n1.pub c,f]
 have l:∀k:Nat,k<3->jX x (k:Int)=(iH w.Seed 2==iH w.Seed k):=λk hk=>by
  unfold jX;rw[Au (by omega),cM,L k hk,d,X,show aM (aD w 2).Store=iH w.Seed 2 from j 2 (by omega),n,(jO s 3 (by omega)).rem,dg]
 have M:∀k:Nat,k<2->(iH w.Seed k==iH w.Seed 2)=false:=λk hk=>by
  rw[cb];exact Al (by omega) (by omega) (by omega)
 have N:∃k:Nat,k<2/\b=(k:Int):=by
  rcases hb with rfl|rfl
  ·exact⟨0,by omega,rfl⟩
  ·exact⟨1,by omega,rfl⟩
 obtain⟨kb,O,rfl⟩:=N;have u:aV x (kb:Int)=true:=by
  rw[n1.aCY (Au (by omega)),d,W,f,eO,je];refine⟨?_,?_⟩
  ·have:=a kb (by omega);rw[nt.aCY (Au (by omega)),eO] at this;exact this
  ·rw[show aM (aD w 2).Store=iH w.Seed 2 from j 2 (by omega),bj,bne,M kb O];rfl
 have hd:aD x (kb:Int)={rW w K v b' (kb:Int) 2 with Version:=1}:=by rw[ex];unfold aD;show(w.Devices.set (kb:Int).toNat {rW w K v b' (kb:Int) 2 with Version:=1}).getD (kb:Int).toNat default=_;exact aRt (by rw[bj];omega)
 have Z:(rW w K v b' (kb:Int) 2).Epoch=aB (eD w (kb:Int) 2):=(nt.aDK A (T:=3) (by omega) (by omega) q (a 2 (by omega))).ep;have y:(aD x (kb:Int)).Epoch=aB x.aAB.Log:=by rw[hd,d];exact Z
 have z:(aD x (kb:Int)).Key=Ar w (kb:Int) 2:=by
  have c:kb<x.Devices.length:=by omega
  have V:aD x (kb:Int)=x.Devices[kb]:=by unfold aD;rw[bj,List.getD,ab c,cw]
  have:=(n1.dev kb c).key (by rw[<-V];exact y);rw[<-V] at this;exact this
 refine⟨i,I,J,?_,?_,u,y,⟨_,n1.bx.kok,z,?_⟩,?_⟩
 ·rw[show(2:Int)=((2:Nat):Int) from rfl,l 2 (by omega)];simp
 ·rw[show(0:Int)=((0:Nat):Int) from rfl,l 0 (by omega),cb];exact Al (by omega) (by omega) (by omega)
 ·have h:=u;unfold aV at h;rw[Au (by omega),cM,eO] at h;rw[Ap n1.bx h]
 ·rw[ex,F];rfl
def aIu {w:AA}{d:Nat}(hd:d<w.Devices.length)(h:iF w (d:Int)=false\/gM w (d:Int)=false):mG w=false:=by
 unfold mG;cases a:gX (Nv w) 0 w.Devices with
 |true=>simp
 |false=>have:=Gc a d hd;rw[ck] at this;unfold Nv at this;rcases h with h|h<;>rw[h] at this<;>simp at this
def aKm (x:AA)(s:AD)(a:AH)(c:AP):AA:=AA.mk x.Now x.Seed x.Devices x.Stolen x.aAB (x.Sites.set (1:Int).toNat (AD.mk s.Name (s.Accounts.set (0:Int).toNat (AH.mk a.Id a.Minimum (a.Credentials.set (2:Int).toNat (AP.mk c.Handle c.Public c.Counter false)))) s.Book s.Logins)) x.aAP x.Hosts x.Pin x.Mail
def Yk (x:AA)(b:Int)(d:AB)(k:Int):AA:=AA.mk x.Now x.Seed (x.Devices.set b.toNat (AB.mk d.Store d.Log (IntKind.i64.wrap (k+1)) d.Epoch d.Version d.aAD)) x.Stolen x.aAB x.Sites x.aAP x.Hosts x.Pin x.Mail
def aKn (x:AA)(h:AJ):AA:=AA.mk x.Now x.Seed x.Devices x.Stolen x.aAB x.Sites x.aAP (x.Hosts.set (1:Int).toNat (AJ.mk (AU.mk h.State.aAQ h.State.Epoch 6 h.State.Limit) h.Saved h.Monotonic)) x.Pin x.Mail
def Ty {α:Type}{f:α->Nat}{x:α}:∀{l:List α} {i:Nat},((l.set i x).map f).sum<=(l.map f).sum+f x
 |[],_=>by simp
 |y::l,0=>by simp only[ia,bm,eg];omega
 |y::l,i+1=>by
  have:=Ty (f:=f) (x:=x) (l:=l) (i:=i);simp only[fN,bm,eg];omega
def bAq (x:AA){s:AD}{a:AH}(c:AP)(hs:s∈x.Sites)(d:a.Credentials.length=3):(aKm x s a c).sz<=2*x.sz+10:=by
 have h1:=Ty (f:=AD.sz) (l:=x.Sites) (i:=(1:Int).toNat) (x:=AD.mk s.Name (s.Accounts.set (0:Int).toNat (AH.mk a.Id a.Minimum (a.Credentials.set (2:Int).toNat (AP.mk c.Handle c.Public c.Counter false)))) s.Book s.Logins);have h2:=Ty (f:=AH.sz) (l:=s.Accounts) (i:=(0:Int).toNat) (x:=AH.mk a.Id a.Minimum (a.Credentials.set (2:Int).toNat (AP.mk c.Handle c.Public c.Counter false)));have h:=Nu (g:=AD.sz) hs;have e:(AH.mk a.Id a.Minimum (a.Credentials.set (2:Int).toNat (AP.mk c.Handle c.Public c.Counter false))).sz=3:=by simp only[AH.sz,au];exact d
 rw[e] at h2;have j:(AD.mk s.Name (s.Accounts.set (0:Int).toNat (AH.mk a.Id a.Minimum (a.Credentials.set (2:Int).toNat (AP.mk c.Handle c.Public c.Counter false)))) s.Book s.Logins).sz<=s.sz+3:=by simp only[AD.sz,au];omega
 simp only[AA.sz,aKm,au];omega
def bAr (x:AA){d:AB}(b k:Int)(hd:d∈x.Devices):(Yk x b d k).sz<=2*x.sz+10:=by have h1:=Ty (f:=AB.sz) (l:=x.Devices) (i:=b.toNat) (x:=AB.mk d.Store d.Log (IntKind.i64.wrap (k+1)) d.Epoch d.Version d.aAD);have a:=Nu (g:=AB.sz) hd;have c:(AB.mk d.Store d.Log (IntKind.i64.wrap (k+1)) d.Epoch d.Version d.aAD).sz=d.sz:=rfl;simp only[AA.sz,Yk,au];omega
def bAs (x:AA){h:AJ}(a:h∈x.Hosts):(aKn x h).sz<=2*x.sz+10:=by have h1:=Ty (f:=AJ.sz) (l:=x.Hosts) (i:=(1:Int).toNat) (x:=AJ.mk (AU.mk h.State.aAQ h.State.Epoch 6 h.State.Limit) h.Saved h.Monotonic);have c:=Nu (g:=AJ.sz) a;have d:(AJ.mk (AU.mk h.State.aAQ h.State.Epoch 6 h.State.Limit) h.Saved h.Monotonic).sz=h.sz:=rfl;simp only[AA.sz,aKn,au];omega
def bFs {s b:Int}{x:AA}(h:Cut1 s b x):∃(st:AD) (a:AH) (c:AP),x.Sites[1]? =some st/\st.Accounts[0]? =some a/\bF a 2=2/\a.Credentials[2]? =some c/\a.Credentials.length=3/\
  iF (aKm x st a c) 2=false/\mG (aKm x st a c)=false:=by
 have hl:1<x.Sites.length:=by rw[h.all.wi.two];omega
 have e:=h.all.wi.site 1 hl;obtain⟨l,i,j,n⟩:=e.acc;have f:l.length=3:=by rw[n];exact h.len
 have hk:2<l.length:=by omega
 have k:iF (aKm x x.Sites[1] ⟨1,3,l⟩ l[2]) 2=false:=by
  have hc:jX (aKm x x.Sites[1] ⟨1,3,l⟩ l[2]) 2=true:=h.cut2;have hb:((aKm x x.Sites[1] ⟨1,3,l⟩ l[2]).Sites.take 2).any (rP 2)=true:=by
   rw[et];refine⟨AD.mk x.Sites[1].Name (x.Sites[1].Accounts.set (0:Int).toNat (AH.mk 1 3 (l.set (2:Int).toNat (AP.mk l[2].Handle l[2].Public l[2].Counter false)))) x.Sites[1].Book x.Sites[1].Logins,?_,?_⟩
   ·rw[cu];refine⟨1,?_⟩;show((x.Sites.set 1 _).take 2)[1]? =_;rw[List.getElem?_take_of_lt (by omega),aE hl]
   ·have o:∀(z:AD) (q:List AP),z.Accounts=[⟨1,3,q⟩]->rP 2 z=q.any λc=>c.Handle==2&& !c.Cut:=λz q p=>by
     unfold rP aF;rw[p];rfl
    rw[o _ (l.set 2 (AP.mk l[2].Handle l[2].Public l[2].Counter false)) (by rw[i];rfl),et];refine⟨AP.mk l[2].Handle l[2].Public l[2].Counter false,cu.2 ⟨2,aE hk⟩,?_⟩;rw[(j 2 hk).1];rfl
  unfold iF;rw[hc,hb];simp
 refine⟨x.Sites[1],⟨1,3,l⟩,l[2],ab hl,by rw[i];rfl,?_,ab hk,f,k,?_⟩
 ·exact aKl j hk
 ·exact aIu (d:=2) (by show 2<x.Devices.length;rw[h.len];omega) (.inl k)
def bFt {s b:Int}(hb:b=0\/b=1){x:AA}(h:Cut1 s b x):x.Devices[b.toNat]? =some (aD x b)/\gM (Yk x b (aD x b) (aD x b).Key) b=false/\mG (Yk x b (aD x b) (aD x b).Key)=false:=by
 obtain⟨K,k1,k2,k3⟩:=h.key;have hl:=h.len;have a:b.toNat<x.Devices.length:=by omega
 have hd:aD (Yk x b (aD x b) (aD x b).Key) b={aD x b with Key:=IntKind.i64.wrap ((aD x b).Key+1)}:=by show(x.Devices.set b.toNat _).getD b.toNat default=_;exact aRt a
 have c:aO (Yk x b (aD x b) (aD x b).Key) b=true:=by unfold aO Yk;simp only[au];rw[av (show 0<=b by omega),av (show b<(x.Devices.length:Int) by omega)];rfl
 have hi:aV (Yk x b (aD x b) (aD x b).Key) b=true:=by have:=h.inl;unfold aV at this ⊢;rw[c,hd];rw[aa] at this;rw[cM];exact this.2
 have hr:=J8 k1;have e:gM (Yk x b (aD x b) (aD x b).Key) b=false:=by unfold gM;rw[c,hi,hd];show(true&&(!true||((aD x b).Epoch !=aB x.aAB.Log||IntKind.i64.wrap ((aD x b).Key+1)==(bS (aD x b).Store x.aAB.Boxes).1)))=false;rw[h.ep,dk,k3,k2,aH (by omega) (by omega),show(K+1==K)=false by rw[cb];omega];rfl
 refine⟨by unfold aD;rw[List.getD,ab a];rfl,e,?_⟩;refine aIu (d:=b.toNat) (by show b.toNat<(x.Devices.set b.toNat _).length;rw[au];exact a) (.inr ?_);rw[dT (by omega)];exact e
def bFu {s:Int}(hs:1<=s/\s<=256):∃h0 h1,(aZ 3 2 1 5 s).Hosts=[h0,h1]/\h1.State.Limit=5:=by
 have hk:bA s=true:=fU (by omega) (by omega);have ho:Af 3 2 1 5 s=true:=by unfold Af;rw[hk];decide
 have hv:Jt 5 7 (aW s [283]) (IntKind.i64.wrap (1+(aW s [293]).tmod 1018)) 5=true:=by
  have hd:=dR s [283];have hs:(fQ (IntKind.i64.wrap (1+(aW s [293]).tmod 1018)) 1019==0)=false:=by rw[cb];refine bDv ?_;have:=dR s [293];have:=(gN this).1;omega
  unfold Jt;rw[hd,hs];decide
 unfold aZ;rw[ho,ae];show ∃h0 h1,(vS s 1 5 2).2.1=[h0,h1]/\_;unfold vS xD;rw[hv];exact⟨_,_,rfl,rfl⟩
def bFv {s b:Int}(hs:1<=s/\s<=256){x:AA}(h:Cut1 s b x):∃h1,x.Hosts[1]? =some h1/\dM (aKn x h1)=false/\mG (aKn x h1)=false:=by
 obtain⟨h0,h1,c,d⟩:=bFu hs;have a:x.Hosts=[h0,h1]:=by rw[h.hosts,c]
 have hg:dM (aKn x h1)=false:=by
  unfold dM;have:(aKn x h1).Hosts=[h0,{h1 with State:={h1.State with Guesses:=6}}]:=by unfold aKn;simp only[a];rfl
  rw[this,jr,jr];have:decide ((6:Int)>h1.State.Limit)=true:=by rw[d];rfl
  show(!(_||((decide ((6:Int)>h1.State.Limit)||_)||_)))=false;rw[this];simp
 refine⟨h1,by rw[a];rfl,hg,?_⟩;unfold mG;rw[hg];simp
end Go.VK
