import Derived.Test.YtbaeclcknbiehaaGreatDoorXyFF
/- Printed by wip/tools: models, walks, proofs. -/
set_option linter.all false
set_option maxRecDepth 100000
namespace Go.VK
open D
def nW {h:Int}(v:Int)(h0:0<=h/\h<2147483647):∃q,hstep h v=h*1000003+v+13-2147483647*q/\(0<=hstep h v/\hstep h v<2147483647):=by
 obtain⟨h0,h1⟩:=h0;have hm:=nP (p:=v) (q:=2147483647) (by decide);have hv:cO v 2147483647=v%2147483647:=cR (by decide);have e:hstep h v=(h*1000003+v+13)%2147483647:=by
  grind[aJ,cO,Int.tmod_eq_emod_of_nonneg,hstep]
 grind
def bT6 (k a b:Int):∃q,bO k [a,b]=k*1000009000027000028+a*1000006000009+b*1000003+11000145000724001630001411-2147483647*q:=by simp only[bO,Rx,cM,gb,eM,cI,bo,cU,fW];obtain⟨q0,e0,f⟩:=nW k (h:=11) (by grind);generalize hstep 11 k=c at*;obtain⟨q1,l,i⟩:=nW a (h:=c) f;generalize hstep c a=d at*;obtain⟨q2,n,j⟩:=nW b (h:=d) i;generalize hstep d b=e at*;obtain⟨q3,o,p⟩:=nW k (h:=e) j;generalize hstep e k=s at*;exact⟨q0*1000009000027000027+q1*1000006000009+q2*1000003+q3*1,by omega⟩
def bT7 (k a b c:Int):∃q,bO k [a,b,c]=k*1000012000054000108000082+a*1000009000027000027+b*1000006000009+c*1000003+11000178001159003802006301004246-2147483647*q:=by simp only[bO,Rx,cM,gb,eM,cI,bo,cU,fW];obtain⟨q0,e0,j⟩:=nW k (h:=11) (by grind);generalize hstep 11 k=d at*;obtain⟨q1,p,l⟩:=nW a (h:=d) j;generalize hstep d a=e at*;obtain⟨q2,s,n⟩:=nW b (h:=e) l;generalize hstep e b=f at*;obtain⟨q3,u,o⟩:=nW c (h:=f) n;generalize hstep f c=i at*;obtain⟨q4,x,y⟩:=nW k (h:=i) o;generalize hstep i k=z at*;exact⟨q0*1000012000054000108000081+q1*1000009000027000027+q2*1000006000009+q3*1000003+q4*1,by omega⟩
def bT8 (k a b c d:Int):∃q,bO k [a,b,c,d]=k*1000015000090000270000405000244+a*1000012000054000108000081+b*1000009000027000027+c*1000006000009+d*1000003+11000211001693007279017707023149012751-2147483647*q:=by simp only[bO,Rx,cM,gb,eM,cI,bo,cU,fW];obtain⟨q0,e0,n⟩:=nW k (h:=11) (by grind);generalize hstep 11 k=e at*;obtain⟨q1,x,o⟩:=nW a (h:=e) n;generalize hstep e a=f at*;obtain⟨q2,y,p⟩:=nW b (h:=f) o;generalize hstep f b=i at*;obtain⟨q3,z,s⟩:=nW c (h:=i) p;generalize hstep i c=j at*;obtain⟨q4,A,u⟩:=nW d (h:=j) s;generalize hstep j d=l at*;obtain⟨q5,B,D⟩:=nW k (h:=l) u;generalize hstep l k=F at*;exact⟨q0*1000015000090000270000405000243+q1*1000012000054000108000081+q2*1000009000027000027+q3*1000006000009+q4*1000003+q5*1,by omega⟩
def aCr (n:Int):∃e,jF n=n+e/\0<=e/\e<=1:=by
 unfold jF;by_cases h:n=0
 ·simp[*]
 ·rw[cf.2 h];exact⟨0,by simp,by decide,by decide⟩
def bT9 (s i:Int):(aN s i).Seed=jF (bO s [151,277,i]):=by rfl
def bUa (s:AJ):jQ s=jF (bO s.Seed [151,181]):=by rfl
def bNx (s:AJ)(n:ByteArray)(i:Int):eU s n i=jF (bO s.Seed [151,179,dL n,i]):=by rfl
def bIj (s i k:Int):∃e q,(aN s i).Seed-(aN s k).Seed=(i-k)*1000003+e+2147483647*q/\-1<=e/\e<=1:=by have hi:(aN s i).Seed=jF (bO s [151,277,i]):=bT9 s i;have hk:(aN s k).Seed=jF (bO s [151,277,k]):=bT9 s k;obtain⟨a,c,j,l⟩:=aCr (bO s [151,277,i]);obtain⟨d,b1,n,o⟩:=aCr (bO s [151,277,k]);obtain⟨q1,f⟩:=bT7 s 151 277 i;obtain⟨q2,h⟩:=bT7 s 151 277 k;rw[hi,hk,c,b1,f,h];exact⟨a-d,q2-q1,by omega,by omega,by omega⟩
def dfs:List Int:=[-5,-4,-3,-2,-1,0,1,2,3,4,5]
def bQm:List Int:=[-1,0,1]
theorem bNy {d:Int}(h1: -5<=d)(h2:d<=5):d∈dfs:=by simp only[dfs,bg,eW,or_false];omega
def aKh {d:Int}(h1: -1<=d)(h2:d<=1):d∈bQm:=by grind[bQm]
def bXf:(dfs.all λd=>d==0||bQm.all λe=>bQm.all λz=> !((d*1000003+e)*1000009000027000028-z)%2147483647==0)=true:=by kernel_rfl
def bQn {s i k:Int}(hi:0<=i/\i<6)(hk:0<=k/\k<6)(h:i≠k):jQ (aN s i)≠jQ (aN s k):=by
 intro he;obtain⟨e,q,d1,d2,d3⟩:=bIj s i k;have h1:jQ (aN s i)=jF (bO (aN s i).Seed [151,181]):=bUa _;have h2:jQ (aN s k)=jF (bO (aN s k).Seed [151,181]):=bUa _;obtain⟨a,d,l,n⟩:=aCr (bO (aN s i).Seed [151,181]);obtain⟨c,b1,o,p⟩:=aCr (bO (aN s k).Seed [151,181]);obtain⟨q1,f⟩:=bT6 (aN s i).Seed 151 181;obtain⟨q2,j⟩:=bT6 (aN s k).Seed 151 181;rw[h1,h2,d,b1,f,j] at he;have u:(((i-k)*1000003+e)*1000009000027000028-(c-a))%2147483647=0:=by omega
 have:=cx.1 bXf (i-k) (bNy (by omega) (by omega));rw[cf.2 (show i-k≠0 by omega),cC] at this;have:=cx.1 (cx.1 this e (aKh d2 d3)) (c-a) (aKh (by omega) (by omega));simp_all
def hs1:Int:=1464438180
def cEt:dL (aB 0)=1941999745:=by kernel_rfl
def cEu:dL (aB 1)=1464438180:=by kernel_rfl
def bUb:(dfs.all λd=>[0,477561565,-477561565].all λ(g:Int)=>(d==0&&g==0)||bQm.all λe=>bQm.all λz=> !((d*1000003+e)*1000015000090000270000405000244+g*1000006000009+d*1000003-z)%2147483647==0)=true:=by kernel_rfl
def bIk {s i k j l:Int}(hi:0<=i/\i<6)(hk:0<=k/\k<6)(hj:j=0\/j=1)(hl:l=0\/l=1)(h:i≠k\/j≠l):eU (aN s i) (aB j) i≠eU (aN s k) (aB l) k:=by
 intro he;obtain⟨e,q,d1,d2,d3⟩:=bIj s i k;have h1:eU (aN s i) (aB j) i=jF (bO (aN s i).Seed [151,179,dL (aB j),i]):=bNx _ _ _;have h2:eU (aN s k) (aB l) k=jF (bO (aN s k).Seed [151,179,dL (aB l),k]):=bNx _ _ _;obtain⟨c,f,p,u⟩:=aCr (bO (aN s i).Seed [151,179,dL (aB j),i]);obtain⟨d,b1,x,y⟩:=aCr (bO (aN s k).Seed [151,179,dL (aB l),k]);obtain⟨q1,n⟩:=bT8 (aN s i).Seed 151 179 (dL (aB j)) i;obtain⟨q2,o⟩:=bT8 (aN s k).Seed 151 179 (dL (aB l)) k;rw[h1,h2,f,b1,n,o] at he;obtain⟨g,hg,a⟩:∃g,dL (aB j)-dL (aB l)=g/\(g∈[0,477561565,(-477561565:Int)]/\(j≠l->g≠0)):=by
  rcases hj with rfl|rfl<;>rcases hl with rfl|rfl<;>simp only[cEt,cEu]
  all_goals simp
 have z:(((i-k)*1000003+e)*1000015000090000270000405000244+g*1000006000009+(i-k)*1000003-(d-c))%2147483647=0:=by omega
 have:=cx.1 (cx.1 bUb (i-k) (by grind[bNy])) g a.1;rw[show(i-k==0&&g==0)=false by
  rcases h with h|h
  ·rw[cf.2 (show i-k≠0 by omega)];rfl
  ·rw[cf.2 (a.2 h),ee],cC] at this
 have:=cx.1 (cx.1 this e (aKh d2 d3)) (d-c) (aKh (by omega) (by omega));simp_all
def bQo {n:Int}(h:0<=n/\n<2147483647):bZ (jF n)=true:=by
 grind[beq_eq_false_iff_ne,decide_eq_true,jF,bZ,bG]
def jI (s:Int)(l:List Int):bZ (aV s l)=true:=bQo (nS _ _)
theorem bC3 {k:Int}(h:bZ k=true):1<=k/\k<=2147483646:=jK h
theorem bYh {k:Int}(h:bZ k=true):iR k=k*48271%2147483647:=by have:=bC3 h;unfold iR;rw[h,aj,aa,aJ (by omega) (by omega),bv (by omega)]
theorem bNz {k:Int}(h:bZ k=true):bZ (iR k)=true:=by
 grind[decide_eq_true,bZ,bG,bYh,bC3]
theorem aKi {k:Int}(h:bZ k=true):iJ (iR k)=k:=by
 have:=bC3 h
 grind[bNz,Bool.not_true,bYh,iJ]
def bN0 {a b:Int}(c:bZ a=true)(hb:bZ b=true)(h:iR a=iR b):a=b:=by rw[<-aKi c,h,aKi hb]
def bLf {s i k j l:Int}(hi:0<=i/\i<6)(hk:0<=k/\k<6)(hj:j=0\/j=1)(hl:l=0\/l=1)(h:i≠k\/j≠l):eQ (aN s i) (aB j) i≠eQ (aN s k) (aB l) k:=
 λhe=>bIk hi hk hj hl h (bN0 (jI _ _) (jI _ _) he)
def bQp {s i k:Int}(hi:0<=i/\i<6)(hk:0<=k/\k<6)(h:i≠k):aZ (aN s i)≠aZ (aN s k):=
 λhe=>bQn hi hk h (bN0 (jI _ _) (jI _ _) he)
theorem aOy {α:Type}{p:Nat->α->Bool}:∀{l:List α} {i:Nat},(∀k (h:k<l.length),p (i+k) l[k]=false)->eF p i l=false
 |[],i,_=>rfl
 |x::l,i,h=>by
  have h0:=h 0 (by simp);have a:=aOy (p:=p) (l:=l) (i:=i+1) (λk hk=>by
   have:=h (k+1) (by simpa using hk);rw[show i+1+k=i+(k+1) by omega];simpa using this)
  simp only[eF,dz,gv] at h0 ⊢;rw[h0,a];rfl
theorem bLg {α:Type}{p:Nat->α->Bool}:∀{l:List α} {i:Nat},eF p i l=false->∀k (h:k<l.length),p (i+k) l[k]=false
 |x::l,i,h,0,_=>by simp only[eF,bp] at h;simpa using h.1
 |x::l,i,h,k+1,hk=>by
  simp only[eF,bp] at h;have:=bLg h.2 k (by simpa using hk);rw[show i+(k+1)=i+1+k by omega];simpa using this
def aCx (seed j:Int)(k:Nat):Int:=eQ (aN seed (k:Int)) (aB j) (k:Int)
def aKj (seed j:Int)(l:List AZ):Prop:=∀k (h:k<l.length),l[k].Handle=(k:Int)/\l[k].Public=aCx seed j k/\0<=l[k].Counter/\l[k].Counter<=1000000
theorem pG {x a b:Int}(h1:a<=x)(h2:x<=b):bG x a b=true:=by grind[decide_eq_true,bG]
theorem bXg {seed j l:Int}{i k:Nat}(hi:i<6)(hk:k<6)(hj:j=0\/j=1)(hl:l=0\/l=1)(h:i≠k\/j≠l):aCx seed j i≠aCx seed l k:=
 bLf (by omega) (by omega) hj hl (by omega)
def bQq (seed j:Int)(k:Nat):iJ (aCx seed j k)=eU (aN seed (k:Int)) (aB j) (k:Int):=by simp[aKi,eU,jI,aCx,eQ]
theorem bLh {seed j m:Int}{l:List AZ}(hj:j=0\/j=1)(h:aKj seed j l)(hl:l.length<=6)(hm:1<=m/\m<=3):bC ⟨1,m,l⟩=true:=by
 have f:eF (zA ⟨1,m,l⟩) 0 l=false:=aOy λk hk=>by
  obtain⟨h1,h2,c,d⟩:=h k hk;have hp:=bC3 (jI (aN seed (k:Int)).Seed [179,dL (aB j),(k:Int)]);unfold zA;rw[co,h1,pG (by omega) (by omega),h2,bQq,cf.2 (show eU (aN seed (k:Int)) (aB j) (k:Int)≠0 by unfold eU;omega),pG c d];have n:(decide (0<k)&&decide ((l.getD (k-1) default).Handle>=(k:Int)))=false:=by
   by_cases e:0<k
   ·have a:k-1<l.length:=by omega
    have:=(h (k-1) a).1;rw[List.getD,ab a,cJ,this,ay (show ¬((k-1:Nat):Int)>=(k:Int) by omega),ee]
   simp[*]
  have o:((l.take k).any λq=>q.Public==aCx seed j k)=false:=by
   rw[List.any_eq_false];intro q hq;obtain⟨i,hi,rfl⟩:=de.1 hq;rw[bu] at hi;rw[fS,(h i (by omega)).2.1]
   grind[bXg]
  simp_all
 grind[pG,decide_eq_true,bG,decide,eF,zA,bC]
structure SiteIn (seed j:Int) (n:Nat) (s:AB):Prop where
 name:s.Name=aB j
 book:dK s.Book=true
 key:bZ s.Book.Seed=true
 acc:∃l,s.Accounts=[⟨1,3,l⟩]/\aKj seed j l/\l.length=n
theorem aOz {j:Int}(hj:j=0\/j=1):(fV (aB j)&&decide (2<=(bM (aB j)).length))=true:=by rcases hj with rfl|rfl<;>kernel_rfl
def SiteIn.ok {seed j:Int}{n:Nat}{s:AB}(hj:j=0\/j=1)(hn:n<=6)(h:SiteIn seed j n s):cZ s=true:=by
 obtain⟨h1,h2,a,l,c,d,e⟩:=h;unfold cZ lJ;rw[h1,aOz hj,a,h2,c];show(true&&true&&decide (1<=8)&&true&& !(Yc [⟨1,3,l⟩] 0 ⟨1,3,l⟩||false))=true
 grind[bLh,Yc]
def SiteIn.find {seed j:Int}{n:Nat}{s:AB}(h:SiteIn seed j n s):aI s 1=0:=by obtain⟨_,_,_,l,a,_⟩:=h;unfold aI;rw[a];rfl
theorem bC4 {α:Type}{p:α->Bool}:∀{l:List α},(∀c∈l,p c=true)->l.takeWhile p=l
 |[],_=>rfl
 |x::l,h=>by rw[cX,h x (by simp),cR rfl,bC4 (λc hc=>h c (by simp[hc]))]
def bUc {l:List AZ}{p:Int}(h:∀k (h:k<l.length),l[k].Handle=(k:Int)):aOs l (l.length:Int) p=l++[⟨(l.length:Int),p,0,false⟩]:=by
 have:aGt (l.length:Int) l=l.length:=by
  grind[decide_eq_true,List.mem_iff_getElem,bC4,aGt]
 unfold aOs;rw[this,cG,dy,eM]
def aKj.snoc {seed j:Int}{l:List AZ}(h:aKj seed j l):aKj seed j (l++[⟨(l.length:Int),aCx seed j l.length,0,false⟩]):=by
 intro k hk;by_cases a:k<l.length
 ·rw[jr a];exact h k a
 grind
def SiteIn.reg {seed j:Int}{n:Nat}{s:AB}(hj:j=0\/j=1)(hn:n<6)(h:SiteIn seed j n s):
  (fC s 1 (n:Int) (aCx seed j n)).2=true/\SiteIn seed j (n+1) (fC s 1 (n:Int) (aCx seed j n)).1:=by
 have c:=h.ok hj (by omega);have d:=h.find;obtain⟨h1,h2,f,l,i,e,o⟩:=h;subst o;have q:(s.Accounts.getD (aI s 1).toNat default)=⟨1,3,l⟩:=by simp[*]
 have hi:=bUc (p:=aCx seed j l.length) (λk hk=>(e k hk).1);have hs:=e.snoc;have u:=bLh (m:=3) hj e (by omega) (by grind);have x:=bLh (m:=3) hj hs (by simp;omega) (by grind);have a:gZ ⟨1,3,l⟩ (l.length:Int) (aCx seed j l.length)=(⟨1,3,l++[⟨(l.length:Int),aCx seed j l.length,0,false⟩]⟩,true):=by
  grind[bC,aOs,aCx,gZ]
 unfold fC;rw[c,d,show decide ((0:Int)<0)=false from rfl,<-d,q,a,d,i];exact⟨rfl,h1,h2,f,_,rfl,hs,by simp⟩
def bLi {seed j:Int}(hj:j=0\/j=1):SiteIn seed j 0 (oP (gM (aB j) (aV seed [281,j])) 1 3).1:=by
 have hk:=jI seed [281,j];generalize aV seed [281,j]=q at*;have hn:gM (aB j) q=⟨aB j,[],⟨q,0,[]⟩,[]⟩:=by
  grind[aOz,gM,lJ]
 have hb:dK ⟨q,0,[]⟩=true:=rfl;have a:SiteIn seed j 0 (vB ⟨aB j,[],⟨q,0,[]⟩,[]⟩ 1 3):=
  ⟨rfl,hb,hk,[],rfl,λk hk=>by simp at hk,rfl⟩
 have h0:cZ ⟨aB j,[],⟨q,0,[]⟩,[]⟩=true:=by unfold cZ lJ;rw[aOz hj,hk];rfl
 unfold oP;rw[hn,h0,a.ok hj (by omega)];exact a
def aWz {seed j:Int}(hj:j=0\/j=1):∀(m i:Nat) (s:AB),SiteIn seed j i s->i+m<=6->
  SiteIn seed j (i+m) (zB (aB j) i ((List.range' i m).map λ(k:Nat)=>bQ (aN seed (k:Int))) s)
 |0,i,s,h,_=>h
 |m+1,i,s,h,hm=>by
  have:=aWz hj m (i+1) _ (h.reg hj (by omega)).2 (by omega);rw[show i+1+m=i+(m+1) by omega] at this;exact this
theorem bIl {seed j:Int}(hj:j=0\/j=1){n:Nat}(hn:n<=6):SiteIn seed j n (O9 seed (dQ seed n) j):=by have:=aWz hj n 0 _ (bLi (seed:=seed) hj) (by omega);rw[co,<-List.range_eq_range'] at this;exact this
theorem bIm {α:Type}{r:α->α->Prop}(ht:∀a b c,r a b->r b c->r a c):∀{l:List α},(∀k (h:k+1<l.length),r l[k] l[k+1])->l.Pairwise r
 |[],_=> .nil
 |[x],_=>fL r x
 |x::y::l,h=>by
  have e:=bIm (r:=r) ht (l:=y::l) (λk hk=>by have:=h (k+1) (by simpa using hk);simpa using this);refine dl.2 ⟨λz d=> ?_,e⟩;have h0:r x y:=by simpa using h 0 (by simp)
  rcases bg.1 d with rfl|d
  ·exact h0
  ·exact ht _ _ _ h0 ((dl.1 e).1 z d)
structure BookIn (b:AN):Prop where
 next:0<=b.Next/\b.Next<=1000000
 len:b.Open.length<=16
 ord:b.Open.Pairwise (λa c=>a.Id<c.Id)
 all:∀c∈b.Open,(0<=c.Id/\c.Id<b.Next)/\(0<=c.aAH/\c.aAH<=1000005)/\(0<=c.Until/\c.Until<=1000005)
def BookIn.ok {b:AN}(h:BookIn b):dK b=true:=by
 obtain⟨h1,h2,a,c⟩:=h;have d:eF (iT b) 0 b.Open=false:=(by grind[aOy,List.getElem_mem,iT,aJ,pG,decide,default,List.pairwise_iff_getElem,List.getD,List.getElem?_eq_getElem,decide_eq_false])
 grind[pG,decide_eq_true,dK]
def bFc {b:AN}(h:dK b=true):BookIn b:=by
 unfold dK at h;simp only[ac,cn,cj] at h;obtain⟨⟨h1,h2⟩,f⟩:=h;have h1:=jK h1;have hg:∀k (hk:k<b.Open.length),((0<=b.Open[k].Id/\b.Open[k].Id<b.Next)/\(0<=b.Open[k].aAH/\b.Open[k].aAH<=1000005)/\(0<=b.Open[k].Until/\b.Open[k].Until<=1000005))/\(0<k->(b.Open.getD (k-1) default).Id<b.Open[k].Id):=λk hk=>by
  have:=bLg f k hk;unfold iT at this;rw[co,aJ (by omega) (by omega)] at this;simp only[bp,dm,Bool.and_eq_false_iff,cY] at this;obtain⟨a,i,d,e⟩:=this;have a:=jK a;have d:=jK d;have e:=jK e;omega
 refine⟨⟨h1.1,h1.2⟩,h2,(by grind[bIm,Int.lt_trans]),λc hc=> ?_⟩
 all_goals grind[List.mem_iff_getElem,Nat.add_sub_cancel,List.getD,List.getElem?_eq_getElem]
def bUd {b:AN}(h:BookIn b)(a n:Int):BookIn (jG b a n).1/\(jG b a n).1.Seed=b.Seed/\b.Next<=(jG b a n).1.Next/\(jG b a n).1.Next<=b.Next+1:=by
 unfold jG;rw[h.ok];by_cases hn:b.Next=1000000
 ·simp[*]
 ·rw[cf.2 hn];cases hr:bG a 0 1000000&&bG n 0 1000000 with
  |false=>grind
  |true=>
   rw[ac] at hr;have f:=jK hr.1;have i:=jK hr.2;obtain⟨h1,h2,j,k⟩:=h;have d:IntKind.i64.wrap (b.Next+1)=b.Next+1:=(by grind[aJ]);have e:IntKind.i64.wrap (n+5)=n+5:=(by grind[aJ]);have key:∀l:List A0,l.length<=15->l.Pairwise (λa c=>a.Id<c.Id)->(∀c∈l,c∈b.Open)->BookIn ⟨b.Seed,IntKind.i64.wrap (b.Next+1),l++[aUs b a n]⟩:=λl hl ho hm=>by
    rw[d];refine⟨(by grind),by simp;omega,?_,λc hc=> ?_⟩
    all_goals grind[q1,q2,q3,List.mem_singleton,aUs]
   grind
def bXh {b:AN}(h:BookIn b)(c a n:Int):BookIn (pV b c a n).1/\(pV b c a n).1.Seed=b.Seed:=by
 unfold pV;rw[h.ok];cases decide (bP b c<0) with
 |true=>simp[*]
 |false=>
  obtain⟨h1,h2,e,f⟩:=h;have d:(b.Open.take (bP b c).toNat++b.Open.drop ((bP b c).toNat+1)).Sublist b.Open:=by
   grind[List.drop_sublist,List.drop_drop,List.Sublist.append,List.take_append_drop,bP]
  exact⟨⟨h1,bm d.length_le h2,e.sublist d,λc hc=>f c (d.subset hc)⟩,rfl⟩
def SiteIn.aBN {seed j:Int}{n:Nat}{s:AB}(h:SiteIn seed j n s){b:AN}(hb:BookIn b)(hs:b.Seed=s.Book.Seed):SiteIn seed j n {s with Book:=b}:=
 ⟨h.name,hb.ok,by show bZ b.Seed=true;rw[hs];exact h.key,h.acc⟩
def SiteIn.begin {seed j:Int}{n:Nat}{s:AB}(h:SiteIn seed j n s)(i t:Int):SiteIn seed j n (pF s i t).1:=by
 unfold pF;cases cZ s&&(!decide (aI s i<0)&&(jG s.Book i t).2.2) with
 |false=>exact h
 |true=>have:=bUd (bFc h.book) i t;exact h.aBN this.1 this.2.1
def aKj.set {seed j:Int}{l:List AZ}(h:aKj seed j l){k:Nat}(hk:k<l.length){c:AZ}(h1:c.Handle=l[k].Handle)(h2:c.Public=l[k].Public)(a:0<=c.Counter/\c.Counter<=1000000):aKj seed j (l.set k c):=by
 intro i hi;rw[gr];rw[aw] at hi;split
 ·rename_i e;subst e;have:=h k hk;omega
 ·exact h i hi
def aW0 {α:Type}{p:α->Bool}:∀{l:List α} {i:Nat},decide (lD p i l<0)=false->∃k,∃h:k<l.length,lD p i l=((i+k:Nat):Int)/\p l[k]=true
 |[],i,h=>by simp[lD] at h
 |x::l,i,h=>by
  unfold lD at h ⊢;cases hp:p x with
  |true=>exact⟨0,by simp,by simp,by simpa using hp⟩
  |false=>rw[hp,aa] at h;obtain⟨k,hk,a,c⟩:=aW0 h;exact⟨k+1,by simpa using hk,by rw[aa,a];congr 1;omega,by simpa using c⟩
def aKj.use {seed j:Int}{l:List AZ}(h:aKj seed j l)(x:AY)(z:ByteArray)(c:Int)(y:0<=x.Counter/\x.Counter<=1000000):
  ∃l',(jS ⟨1,3,l⟩ x z c).1=⟨1,3,l'⟩/\aKj seed j l'/\l'.length=l.length/\∀k (h1:k<l.length) (h2:k<l'.length),l[k].Cut=true->l'[k].Cut=true:=by
 unfold jS;cases hb: !bC ⟨1,3,l⟩||(decide (aW ⟨1,3,l⟩ x.Handle<0)||(fI ⟨1,3,l⟩ (aW ⟨1,3,l⟩ x.Handle)).Cut) with
 |true=>simp[*]
 |false=>
  simp only[bp] at hb;obtain⟨k,hk,d,A⟩:=aW0 (l:=l) hb.2.1;have f:aW ⟨1,3,l⟩ x.Handle=(k:Int):=d.trans (by simp);have n:fI ⟨1,3,l⟩ (k:Int)=l[k]:=by grind[List.getD,List.getElem?_eq_getElem,fI]
  rw[f,n,aa,bw];have a:∀c:AZ,c.Handle=l[k].Handle->c.Public=l[k].Public->0<=c.Counter/\c.Counter<=1000000->(l[k].Cut=true->c.Cut=true)->
    ∃l',(AI.mk 1 3 (l.set k c))=⟨1,3,l'⟩/\aKj seed j l'/\l'.length=l.length/\∀i (h1:i<l.length) (h2:i<l'.length),l[i].Cut=true->l'[i].Cut=true:=λc o p s u=>
   ⟨_,rfl,h.set hk o p s,aw,λi h1 h2 e=>by
    rw[gr];split
    ·rename_i q;subst q;exact u e
    ·exact e⟩
  cases iK l[k].Public x z c l[k].Counter==0 with
  |true=>simp_all
  |false=>
   cases iK l[k].Public x z c l[k].Counter==4 with
   |true=>exact a _ rfl rfl (h k hk).2.2 (λ_=>rfl)
   |false=>simp[*]
def SiteIn.aBT {seed j:Int}{n:Nat}{s:AB}(h:SiteIn seed j n s){l:List AZ}(hl:aKj seed j l)(hn:l.length=n)(g:List Int)(b:AN)(hb:BookIn b)(hs:b.Seed=s.Book.Seed):SiteIn seed j n {s with Book:=b,Accounts:=[⟨1,3,l⟩],Logins:=g}:=
 ⟨h.name,hb.ok,by show bZ b.Seed=true;rw[hs];exact h.key,l,rfl,hl,hn⟩
def SiteIn.finish {seed j:Int}{n:Nat}{s:AB}(h:SiteIn seed j n s)(c t:Int)(x:AY)(a:0<=x.Counter/\x.Counter<=1000000):SiteIn seed j n (mP s 1 c t x).1:=by
 have d:=h.find;have hk:=bXh (bFc h.book) c 1 t;unfold mP;rw[d];cases !cZ s||decide ((0:Int)<0) with
 |true=>exact h
 |false=>
  simp only[aa];cases !(pV s.Book c 1 t).2 with
  |true=>exact h.aBN hk.1 hk.2
  |false=>
   simp only[aa];cases !rA (gJ s 0) 3 with
   |true=>exact h.aBN hk.1 hk.2
   |false=>
    obtain⟨l,e,hl,hn⟩:=h.acc;have f:gJ s 0=⟨1,3,l⟩:=by grind[gJ]
    obtain⟨l',q1,q2,q3,_⟩:=hl.use x s.Name (iA s.Book c) a;simp only[aa,f,q1];rw[show s.Accounts.set (0:Int).toNat ⟨1,3,l'⟩=[⟨1,3,l'⟩] by rw[e];rfl];cases !((jS ⟨1,3,l⟩ x s.Name (iA s.Book c)).2==0) with
    |true=>exact h.aBT q2 (q3.trans hn) s.Logins _ hk.1 hk.2
    |false=>exact h.aBT q2 (q3.trans hn) (s.Logins++[1]) _ hk.1 hk.2
def bUe (s:AJ)(z:ByteArray)(i:Int)(m:List Int):(gT s z i m).1.Seed=s.Seed/\(gT s z i m).1.Vendor=s.Vendor/\(gT s z i m).1.Serial=s.Serial/\((gT s z i m).2.2=true->(gT s z i m).1.Counter=s.Counter+1/\0<=s.Counter/\s.Counter<1000000)/\((gT s z i m).2.2=false->(gT s z i m).1=s):=by
 unfold gT;cases hb:sJ s&& !(s.Counter==1000000) with
 |false=>simp
 |true=>
  simp only[ac,cj,cf] at hb;have hs:=hb.1;unfold sJ at hs;simp only[ac] at hs;have hc:=jK hs.2.2.2;refine⟨rfl,rfl,rfl,⟨λ_=> ?_,λh=>by cases h⟩⟩
  have:IntKind.i64.wrap (s.Counter+1)=s.Counter+1:=(by grind[aJ]);exact⟨this,by omega,by have:=hb.2;omega⟩
def bIn (s:AJ)(o:AO)(z:ByteArray)(i c:Int)(p:Bool):(iU s o z i c p).1.Seed=s.Seed/\(iU s o z i c p).1.Vendor=s.Vendor/\(iU s o z i c p).1.Serial=s.Serial/\(0<=s.Counter/\s.Counter<=1000000->(0<=(iU s o z i c p).1.Counter/\(iU s o z i c p).1.Counter<=1000000)/\(0<=(iU s o z i c p).2.1.Counter/\(iU s o z i c p).2.1.Counter<=1000000)):=by
 obtain⟨h1,h2,a,d,e⟩:=bUe s z i (bF (aWn s o z i c p));unfold iU;cases hb:pW o z&&(gT s z i (bF (aWn s o z i c p))).2.2 with
 |false=>exact⟨rfl,rfl,rfl,λh=>⟨h,eS 0,show(0:Int)<=1000000 by decide⟩⟩
 |true=>
  grind
structure StIn (seed:Int) (k:Nat) (s:AJ):Prop where
 ven:s.Vendor=1
 ser:s.Serial=(k:Int)
 key:s.Seed=(aN seed (k:Int)).Seed
 cnt:0<=s.Counter/\s.Counter<=1000000
structure WIn (m:Nat) (w:AA):Prop where
 seed:bZ w.Seed=true
 now:0<=w.Now/\w.Now<=999900
 dlen:1<=w.Devices.length/\w.Devices.length<=6
 slen:w.Stolen.length=w.Devices.length
 dev:∀k (h:k<w.Devices.length),StIn w.Seed k w.Devices[k].Store
 two:w.Sites.length=2
 mle:m<=6
 site:∀j (h:j<w.Sites.length),SiteIn w.Seed (j:Int) m w.Sites[j]
 mail:fB w.Mail=true
 log:bD w.aAF.Log=true
def WIn.ok {m:Nat}{w:AA}(h:WIn m w):aK w=true:=by
 have hs:eF oK 0 w.Sites=false:=aOy λk hk=>by
  have h2:=h.two;have:=h.site k hk;unfold oK;rw[this.ok (by omega) h.mle,this.name,co];simp
 unfold aK;have h2:=h.two;have a:=h.slen;have c:=h.dlen;rw[hs,h.log,h.mail,h.seed,pG h.now.1 h.now.2,pG (by omega) (by omega),a,h2];simp
def WIn.upd {m:Nat}{w v:AA}(h:WIn m w)(h1:v.Seed=w.Seed)(h2:v.Now=w.Now)(a:v.Devices.length=w.Devices.length)(c:v.Stolen.length=w.Stolen.length)
  (i:∀k (h:k<v.Devices.length),StIn w.Seed k v.Devices[k].Store) (d:v.Sites.length=2) (l:∀j (h:j<v.Sites.length),SiteIn w.Seed (j:Int) m v.Sites[j]) (e:fB v.Mail=true) (f:bD v.aAF.Log=true):WIn m v where
 seed:=by rw[h1];exact h.seed
 now:=by rw[h2];exact h.now
 dlen:=by rw[a];exact h.dlen
 slen:=by rw[a,c];exact h.slen
 dev:=by simp[*]
 two:=d
 mle:=h.mle
 site:=by simp[*]
 mail:=e
 log:=f
def WIn.aBM {m:Nat}{w:AA}(h:WIn m w){i:Nat}{x:AD}(hi:i<w.Devices.length)(a:StIn w.Seed i x.Store):∀k (h:k<(w.Devices.set i x).length),StIn w.Seed k (w.Devices.set i x)[k].Store:=λk hk=>by
 rw[gr];rw[aw] at hk;split
 ·simp_all
 ·exact h.dev k hk
def WIn.aCY {m:Nat}{w:AA}(h:WIn m w){i:Nat}{x:AB}(hi:i<2)(a:SiteIn w.Seed (i:Int) m x):∀k (h:k<(w.Sites.set i x).length),SiteIn w.Seed (k:Int) m (w.Sites.set i x)[k]:=λk hk=>by
 rw[gr];rw[aw] at hk;split
 ·simp_all
 ·exact h.site k hk
def P8 {w:AA}{d:Int}(h:aM w d=true):0<=d/\d.toNat<w.Devices.length/\aR w d=w.Devices.getD d.toNat default:=by simp only[aM,ac,cn] at h;exact⟨h.1,by omega,rfl⟩
def bXi {w:AA}{d:Int}(h:aM w d=true):∃h:d.toNat<w.Devices.length,aR w d=w.Devices[d.toNat]:=by simp_all[List.getD,ab,P8]
def WIn.aBZ {m:Nat}{w:AA}(h:WIn m w){d:Int}(hd:aM w d=true):StIn w.Seed d.toNat (aR w d).Store:=by obtain⟨h1,h2⟩:=bXi hd;rw[h2];exact h.dev _ h1
def bQr {m:AV}(h:fB m=true)(k a t:Int):fB (qK m k a t).1=true:=by
 grind[fB,Ta,Bool.or_eq_false_iff,Bool.not_eq_false',qK]
def WIn.tell {m:Nat}{w:AA}(h:WIn m w)(k:Int):WIn m (O4 w k):=
 h.upd rfl rfl rfl rfl h.dev h.two h.site (bQr h.mail _ _ _) h.log
def StIn.make {seed:Int}{k:Nat}{s:AJ}(h:StIn seed k s)(o:AO)(z:ByteArray)(i c:Int)(p:Bool):StIn seed k (iU s o z i c p).1:=by obtain⟨h1,h2,a,d⟩:=bIn s o z i c p;exact⟨h2.trans h.ven,a.trans h.ser,h1.trans h.key,(d h.cnt).1⟩
def WIn.visit {m:Nat}{w:AA}(h:WIn m w)(d j:Int)(o:AO):WIn m (jH w d j o).1:=by
 unfold jH;cases ht:bX w d j with
 |false=>exact h
 |true=>
  have a:=ht;simp only[bX,ac] at a;have h2:=h.two;have hq:=a.2.2;simp only[iW,ac,cn] at hq;have hj:j.toNat<w.Sites.length:=by omega
  have es:kT w j=w.Sites[j.toNat]:=by grind[List.getD,List.getElem?_eq_getElem,kT]
  have hs:=h.site _ hj;rw[<-es,show((j.toNat:Nat):Int)=j by omega] at hs;have c:=h.aBZ a.2.1;have hm:=bIn (aR w d).Store o (aB j) d (oN w j).2.2.1 true;have hb:SiteIn w.Seed j m (oN w j).1:=hs.begin 1 w.Now;have f:SiteIn w.Seed j m (F4 w d j o).1:=hb.finish _ _ _ (hm.2.2.2 c.cnt).2;have i:WIn m (bE4 w d j o):=by obtain⟨k,e,_⟩:=P8 a.2.1;refine h.upd rfl rfl (aw ..) rfl (h.aBM e (c.make o (aB j) d (oN w j).2.2.1 true)) (by show(w.Sites.set _ _).length=2;rw[aw,h2]) (h.aCY (by omega) (by grind)) h.mail h.log
  simp only[aj,aa];cases !(oN w j).2.2.2 with
  |true=>exact h
  |false=>
   cases !((F4 w d j o).2.1==0) with
   |true=>exact i
   |false=>exact i.tell 1
def WIn.sync {m:Nat}{w:AA}(h:WIn m w)(d b:Int):WIn m (aH w d b).1:=by
 unfold aH;cases hb:aK w&&aM w d with
 |false=>exact h
 |true=>rw[ac] at hb;obtain⟨e,a,_⟩:=P8 hb.2;refine h.upd rfl rfl (aw ..) rfl (h.aBM a ?_) h.two h.site h.mail h.log;have c:=h.aBZ hb.2;unfold dO;cases qX (aR w d) w.aAF.Log w.aAF.Boxes (iG w.aAF b).1==0<;>exact c
def WIn.aDN {m:Nat}{w:AA}(h:WIn m w)(d:Int)(n:ByteArray)(a:Int)(r:Bool):WIn m (pR w d n a r).1:=by
 unfold pR;cases hb:aK w&&aM w d with
 |false=>exact h
 |true=>
  rw[ac] at hb;obtain⟨f,c,_⟩:=P8 hb.2;have e:=h.aBZ hb.2;simp only[ae];cases(bN (aR w d) n a r).2 with
  |false=>exact h
  |true=>refine h.upd rfl rfl (aw ..) rfl (h.aBM c ?_) h.two h.site h.mail h.log;unfold bN;cases(Fx (aR w d) n a r).2<;>exact e
theorem aR2 (d:AD):(dC d).1.Store=d.Store:=by unfold dC;cases(mE d.Key d.Epoch (IntKind.i64.wrap (d.Version+1)) d.aAE).2<;>rfl
def WIn.up {m:Nat}{w:AA}(h:WIn m w){d:Int}(hd:aM w d=true):WIn m (K9 w d).1:=by
 unfold K9;cases(dC (aR w d)).2.2&&(bW w.aAF (dC (aR w d)).2.1).2 with
 |false=>exact h
 |true=>obtain⟨c,a,_⟩:=P8 hd;refine h.upd rfl rfl (aw ..) rfl (h.aBM a (by rw[aR2];exact h.aBZ hd)) h.two h.site h.mail ?_;show bD (bW w.aAF (dC (aR w d)).2.1).1.Log=true;rw[(tC _ _).2];exact h.log
def WIn.push {m:Nat}{w:AA}(h:WIn m w)(d:Int):WIn m (eP w d).1:=by
 unfold eP;cases hb:(aH w d 0).2==0&&(K9 (aH w d 0).1 d).2 with
 |false=>exact h
 |true=>
  rw[ac] at hb;have h0:=lL hb.1;exact(h.sync d 0).up (by
   grind[aM])
theorem jE (w:AA)(d b:Int):(aH w d b).1.Seed=w.Seed/\(aH w d b).1.Now=w.Now/\(aH w d b).1.Devices.length=w.Devices.length/\(aH w d b).1.Sites=w.Sites/\(aH w d b).1.Stolen=w.Stolen/\(aH w d b).1.aAF=w.aAF:=by
 grind[aK,aM,List.length_set,aH]
theorem bFd (w:AA)(d:Int):(K9 w d).1.Seed=w.Seed/\(K9 w d).1.Now=w.Now/\(K9 w d).1.Devices.length=w.Devices.length/\(K9 w d).1.Sites=w.Sites/\(K9 w d).1.Stolen=w.Stolen/\(K9 w d).1.aAF.Log=w.aAF.Log:=by
 grind[dC,aR,bW,List.length_set,tC,K9]
def aCs (w:AA)(d:Int):(eP w d).1.Seed=w.Seed/\(eP w d).1.Now=w.Now/\(eP w d).1.Devices.length=w.Devices.length/\(eP w d).1.Sites=w.Sites/\(eP w d).1.Stolen=w.Stolen/\(eP w d).1.aAF.Log=w.aAF.Log:=by
 grind[aH,K9,jE,bFd,eP]
def aG0 (w:AA)(b k p:Int)(key:List AG->Int):(iO w b k p key).1.Seed=w.Seed/\(iO w b k p key).1.Now=w.Now/\(iO w b k p key).1.Devices=w.Devices/\(iO w b k p key).1.Sites=w.Sites/\(iO w b k p key).1.Stolen=w.Stolen/\(iO w b k p key).1.Mail=w.Mail/\(bD w.aAF.Log=true->bD (iO w b k p key).1.aAF.Log=true):=by
 unfold iO
 grind[kS,bD,dR,gY,bH,dP,aR]
def WIn.aCR {m:Nat}{w:AA}(h:WIn m w)(b k p:Int)(key:List AG->Int):WIn m (iO w b k p key).1:=by obtain⟨d,e,a,c,f,i,j⟩:=aG0 w b k p key;exact h.upd d e (by rw[a]) (by rw[f]) (by rw[a];exact h.dev) (by rw[c];exact h.two) (by rw[c];exact h.site) (by rw[i];exact h.mail) (j h.log)
def bC5 {seed:Int}{m:Nat}(hm:m<6):∀(l:List AB) (j:Nat),j+l.length<=2->(∀i (h:i<l.length),SiteIn seed ((j+i:Nat):Int) m l[i])->
  (gW (aN seed (m:Int)) (m:Int) j l).2=true/\(gW (aN seed (m:Int)) (m:Int) j l).1.length=l.length/\∀i (h:i<(gW (aN seed (m:Int)) (m:Int) j l).1.length),SiteIn seed ((j+i:Nat):Int) (m+1) (gW (aN seed (m:Int)) (m:Int) j l).1[i]
 |[],j,_,_=>⟨rfl,rfl,λi h=>by simp[gW] at h⟩
 |s::l,j,hj,h=>by
  have h0:SiteIn seed (j:Int) m s:=h 0 (by simp);simp only[aq] at hj;obtain⟨a,c⟩:=h0.reg (by omega) hm;obtain⟨d,f,k⟩:=bC5 hm l (j+1) (by omega) (λi hi=>by
   have:=h (i+1) (by simpa using hi);rw[show j+1+i=j+(i+1) by omega];simpa using this)
  have e:eQ (aN seed (m:Int)) (aB (j:Int)) (m:Int)=aCx seed (j:Int) m:=by unfold aCx;rfl
  have n:gW (aN seed (m:Int)) (m:Int) j (s::l)=((fC s 1 (m:Int) (aCx seed (j:Int) m)).1::(gW (aN seed (m:Int)) (m:Int) (j+1) l).1,true):=by rw[gW,e,a,d];rfl
  rw[n];refine⟨rfl,by simp[f],λi hi=> ?_⟩;cases i with
  |zero=>simpa using c
  |succ i=>simp only[aq] at hi;have:=k i (by omega);rw[show j+1+i=j+(i+1) by omega] at this;simpa using this
def Yk (d:AD)(n:ByteArray)(h:Int)(r:Bool):(bN d n h r).1.Store=d.Store:=by unfold bN;cases(Fx d n h r).2<;>rfl
def aW1 (d:AD)(h:Int)(r:Bool):(nI d h r).Store=d.Store:=by unfold nI;rw[Yk,Yk]
theorem Yl {w v:AA}{d:Int}(h:aM w d=true)(e:v.Devices.length=w.Devices.length):aM v d=true:=by
 grind[aM]
def WIn.app {m:Nat}{w:AA}(h:WIn m w)(hl:w.Devices.length<6):WIn m (appW w (bQ (aN w.Seed (w.Devices.length:Int)))) where
 seed:=h.seed
 now:=h.now
 dlen:=by grind[List.length_append,List.length_cons,List.length_nil,appW]
 slen:=by unfold appW;simp only[ax,aq,bc,h.slen]
 dev:=λk hk=>by
  have a:k<(w.Devices++[bQ (aN w.Seed (w.Devices.length:Int))]).length:=hk;show StIn w.Seed k ((w.Devices++[bQ (aN w.Seed (w.Devices.length:Int))])[k]'a).Store;rw[List.getElem_append];split
  ·rename_i c;exact h.dev k c
  ·simp only[ax,aq,bc] at a;have e:k=w.Devices.length:=by omega
   subst e;simp only[gt,gv];exact⟨rfl,rfl,rfl,eS 0,show(0:Int)<=1000000 by decide⟩
 two:=h.two
 mle:=h.mle
 site:=h.site
 mail:=h.mail
 log:=h.log
def WIn.aCZ {w:AA}(h:WIn w.Devices.length w){b:Int}(hn:w.Devices.length<6)(k2:aM w b=true):WIn (w.Devices.length+1) (iE w b)/\(iE w b).Seed=w.Seed/\(iE w b).Devices.length=w.Devices.length:=by
 obtain⟨s1,s2,s3,s4,s5,s6⟩:=jE w b 0;have h0:=h.sync b 0;have h1:WIn w.Devices.length (add1 w b).1:=h0.aCR _ _ _ _;obtain⟨d,l,e,n,o,p,q⟩:=aG0 (aH w b 0).1 b 1 (aZ (aN w.Seed (w.Devices.length:Int))) (λ_=>(aR (aH w b 0).1 b).Key);have a:(add1 w b).1.Seed=w.Seed:=d.trans s1;have c:(add1 w b).1.Devices.length=w.Devices.length:=by show(iO _ _ _ _ _).1.Devices.length=_;rw[e,s3]
 obtain⟨s,f,k⟩:=bC5 (seed:=w.Seed) hn (add1 w b).1.Sites 0 (by rw[h1.two];omega) (λi hi=>by
  have:=h1.site i hi;simp_all)
 have hd:aM (add1 w b).1 b=true:=Yl k2 c;obtain⟨d0,d1,_⟩:=P8 hd;refine⟨{
  seed:=by show bZ (add1 w b).1.Seed=true;exact h1.seed
  now:=h1.now
  dlen:=by show 1<=((add1 w b).1.Devices.set _ _).length/\((add1 w b).1.Devices.set _ _).length<=6;rw[aw];exact h1.dlen
  slen:=by show(add1 w b).1.Stolen.length=((add1 w b).1.Devices.set _ _).length;rw[aw];exact h1.slen
  dev:=h1.aBM d1 (by rw[aW1];exact h1.aBZ hd)
  two:=by show(aJ7 w b).1.length=2;exact f.trans h1.two
  mle:=by omega
  site:=λj hj=>by
   have:=k j hj;rw[co] at this;show SiteIn (add1 w b).1.Seed (j:Int) _ _;rw[a];exact this
  mail:=h1.mail
  log:=h1.log},a,?_⟩
 show((add1 w b).1.Devices.set _ _).length=_;rw[aw,c]
theorem WIn.add {w:AA}(h:WIn w.Devices.length w)(b:Int):WIn (fP w b).1.Devices.length (fP w b).1/\(fP w b).1.Seed=w.Seed:=by
 unfold fP;cases a:Zc w b with
 |false=>simp[*]
 |true=>
  unfold Zc at a;simp only[ac,cj,cY] at a;obtain⟨⟨k1,k2,k3,k4⟩,k5,k6,k7,k8,k9⟩:=a;have hn:w.Devices.length<6:=by omega
  obtain⟨h2,f,i⟩:=h.aCZ hn k2;have j:WIn (w.Devices.length+1) (lY w b).1:=h2.push b;obtain⟨c,o,d,p,q,s⟩:=aCs (iE w b) b;have c:(lY w b).1.Seed=w.Seed:=c.trans f;have d:(lY w b).1.Devices.length=w.Devices.length:=d.trans i;have e:=j.app (by omega);rw[c,d] at e;have k:WIn (w.Devices.length+1) (Bw w b).1:=e.sync _ _;obtain⟨q1,q2,q3,q4,q5,q6⟩:=jE (appW (lY w b).1 (bQ (aN w.Seed (w.Devices.length:Int)))) (w.Devices.length:Int) 0;have l:(O4 (Bw w b).1 2).Devices.length=w.Devices.length+1:=by
   show(Bw w b).1.Devices.length=_;refine q3.trans ?_
   grind[List.length_append,List.length_cons,List.length_nil,appW]
  have n:=k.tell 2;simp only[ae];rw[l];exact⟨n,q1.trans c⟩
def bUf {k:Int}(h:bZ k=true)(l:List Int):jB (iR k) l (Mg k l)=true:=by
 have:=bC3 h
 grind[aKi,bne,beq_eq_false_iff_ne,jB]
def bUg {l:List AG}{e:AG}(h:l=[]\/bD l=true)(hs:pQ l e=true)(hl:l.length<40):bD (l++[e])=true:=by
 grind[pG,Bool.not_eq_true',bD,eF,pQ,aOy,List.getElem_append_left,bLg]
def bUh (l:List AG)(e:AG):aG (l++[e])=mK (aG l) e:=by simp[eR,aG]
def bLj (l:List AG)(e:AG):aQ (l++[e])=bif e.Kind==2 then IntKind.i64.wrap (aQ l+1) else aQ l:=by simp[eR,aQ]
def bFe (l:List AG)(e:AG)(p:Int):jZ (l++[e]) p=(jZ l p||(e.Kind==2&&e.Device==p)):=by simp[gz,jZ]
def Cc (seed:Int)(k:Nat):Int:=aZ (aN seed (k:Int))
theorem bN1 {seed:Int}{i k:Nat}(hi:i<6)(hk:k<6)(h:i≠k):Cc seed i≠Cc seed k:=bQp (by omega) (by omega) (by omega)
def aW2 (s:AJ):bZ (jQ s)=true:=by simp[jI,jQ]
def aW3 {l:List Int}{x:Int}:jM l x=true↔x∈l:=by
 grind[List.any_eq_true,jM]
structure NewLog (seed:Int) (n:Nat) (l:List AG):Prop where
 len:l.length=n
 devs:aG l=(List.range n).map (Cc seed)
 rem:∀p,jZ l p=false
 ep:aQ l=0
 ok:n=0\/bD l=true
def Tg (seed:Int):∀n,n<=6->NewLog seed n (bA seed n)
 |0,_=>⟨rfl,rfl,λ_=>rfl,rfl, .inl rfl⟩
 |n+1,hn=>by
  obtain⟨h1,h2,h,j,c⟩:=Tg seed n (by omega);have a:jM (aG (bA seed n)) (Cc seed n)=false:=by rw[iw,Ne,aW3,h2];intro hm;obtain⟨i,hi,e⟩:=cq.1 hm;have hi:=List.mem_range.1 hi;exact bN1 (by omega) (by omega) (by omega) e
  have d:pQ (bA seed n) (bK1 (bA seed n) 1 (Cc seed n) (aN seed 0))=true:=by
   unfold pQ;have v:jB (aZ (aN seed 0)) [dG (bH9 (bA seed n) 1 (Cc seed n) (aN seed 0))] (mW (aN seed 0) [dG (bH9 (bA seed n) 1 (Cc seed n) (aN seed 0))])=true:=by unfold mW aZ;exact bUf (aW2 _) _
   show(((bA seed n).length:Int)==((bA seed n).length:Int)&&(jN (bA seed n)==jN (bA seed n)&&((jM (aG (bA seed n)) (aZ (aN seed 0))||(((bA seed n).length:Int)==0&&aZ (aN seed 0)==Cc seed n))&&(jB (aZ (aN seed 0)) [dG (bH9 (bA seed n) 1 (Cc seed n) (aN seed 0))] (mW (aN seed 0) [dG (bH9 (bA seed n) 1 (Cc seed n) (aN seed 0))])&&
    (!jZ (bA seed n) (Cc seed n)&&(true&&(!jM (aG (bA seed n)) (Cc seed n)&&decide (((aG (bA seed n)).length:Int)<6))))))))=true
   rw[v,h,a,h2,h1];have f:(jM ((List.range n).map (Cc seed)) (aZ (aN seed 0))||((n:Int)==0&&aZ (aN seed 0)==Cc seed n))=true:=by
    cases n with
    |zero=>simp[Cc]
    |succ n=>rw[show jM ((List.range (n+1)).map (Cc seed)) (aZ (aN seed 0))=true from aW3.2 (cq.2 ⟨0,by simp,rfl⟩)];rfl
   rw[f];simp;omega
  have hl:=bUg (l:=bA seed n) (by
   rcases c with c|c
   ·subst c;exact .inl rfl
   ·exact .inr c) d (by omega)
  have e:bA seed (n+1)=bA seed n++[bK1 (bA seed n) 1 (Cc seed n) (aN seed 0)]:=by
   show(dP (bA seed n) 1 (aZ (aN seed (n:Int))) (aN seed 0)).1=_;unfold dP;have hq:(decide (((bA seed n).length:Int)>0)&& !bD (bA seed n))=false:=by
    rcases c with c|c
    ·subst c;rfl
    ·rw[c];simp
   rw[hq,show aZ (aN seed (n:Int))=Cc seed n from rfl,hl];rfl
  rw[e];refine⟨by simp[h1],?_,λp=> ?_,?_, .inr hl⟩
  ·rw[bUh,dg,cQ,<-h2];unfold mK;have hc:(aG (bA seed n)).contains (Cc seed n)=false:=by rw[iw] at a ⊢;intro hc;exact a (aW3.2 (by simpa using hc))
   show(bif (1:Int)==1 then(bif (aG (bA seed n)).contains (Cc seed n) then _ else _) else _)=_;rw[hc];rfl
  ·rw[bFe,h];rfl
  ·rw[bLj,j];rfl
theorem bC6 {e:Int}{d:List Int}(hd:d.length<=200):∀(l:List Int) (i:Nat),(∀p∈l,bZ p=true)->1<=e+(i:Int)->e+(i:Int)+(l.length:Int)<=2147483646->
  (fT e d i l).2=true/\(fT e d i l).1.length=l.length/\(fT e d i l).1.map (·.To)=l/\∀k (h:k<(fT e d i l).1.length) (h2:k<l.length),(fT e d i l).1[k]=zQ l[k] (e+((i+k:Nat):Int)) d
 |[],i,_,_,_=>⟨rfl,rfl,rfl,λk h _=>by simp[fT] at h⟩
 |p::l,i,hp,h1,h2=>by
  simp only[aq] at h2;obtain⟨j,n,o,s⟩:=bC6 (e:=e) hd l (i+1) (λq hq=>hp q (by simp[hq])) (by push_cast;omega) (by push_cast at h2 ⊢;omega);have hk:=hp p (by simp);have hq:=bC3 hk;have u:IntKind.i64.wrap (e+(i:Int))=e+(i:Int):=aJ (by omega) (by push_cast at h2;omega);have a:iJ p≠0:=by unfold iJ;rw[hk,aj,aa];omega
  have hb:fQ p (IntKind.i64.wrap (e+(i:Int))) d=(zQ p (e+(i:Int)) d,true):=by unfold fQ;rw[u,cf.2 a,show bZ (e+(i:Int))=true from pG (by omega) (by push_cast at h2;omega),ay (show ¬(d.length:Int)>200 by omega)];rfl
  have x:fT e d i (p::l)=(zQ p (e+(i:Int)) d::(fT e d (i+1) l).1,true):=by rw[fT,hb,j];rfl
  rw[x];refine⟨rfl,by simp[n],?_,λk c f=> ?_⟩
  ·simp only[bn,o];rfl
  ·cases k with
   |zero=>rfl
   |succ k=>simp only[aq] at c f;have:=s k (by omega) (by omega);simp only[fa];rw[this];congr 1;push_cast;omega
def bUi {l:List AQ}{p:Int}:∀(n:Int),0<=n->n+(l.length:Int)<=1000000->l.foldl (λn b=>bif b.To==p then IntKind.i64.wrap (n+1) else n) n=n+((l.filter λb=>b.To==p).length:Int):=by induction l<;>grind[List.length_cons,aJ]
def bQs {l:List AQ}(h:(l.map (·.To)).Nodup){p:Int}(hp:p∈l.map (·.To)):(l.filter λb=>b.To==p).length=1:=by induction l<;>grind[List.nodup_cons,List.filter_eq_nil_iff,absurd,beq_eq_false_iff_ne]
def bQt {log:List AG}{bx:AP}(h1:bx.Epoch=aQ log)(h2:bx.Boxes.map (·.To)=aG log)(a:(aG log).Nodup)(c:(aG log).length<=1000):gY bx log=true:=by
 have hl:bx.Boxes.length=(aG log).length:=by rw[<-h2,bf]
 unfold gY;rw[h1,hl,dh,dh,dc,cA,cx];intro p hp;unfold qY;rw[bUi 0 (by omega) (by omega),bQs (by rw[h2];exact a) (by rw[h2];exact hp)];rfl
theorem bUj (a b:Int):(mV [a,b]).length<=12:=by
 grind[List.flatten_cons,List.flatten_nil,List.length_append,mV,aWg]
def bC7 {log:List AG}{key eph:Int}(h1:bD log=true)(h2:bZ key=true)(a:∀p∈aG log,bZ p=true)(c:(aG log).length<=1000)(d:1<=eph/\eph<=1000000):
  (bH log key eph).2=true/\(bH log key eph).1.Epoch=aQ log/\(bH log key eph).1.Boxes.map (·.To)=aG log/\∀k (h:k<(bH log key eph).1.Boxes.length) (h2:k<(aG log).length),(bH log key eph).1.Boxes[k]=zQ (aG log)[k] (eph+(k:Int)) (mV [aQ log,key]):=by
 grind[s4,s3,bH,aQ,fT,mV,aG,s1,s2,bC6,bUj]
def bIo (seed:Int)(k:Nat):bZ (Cc seed k)=true:=by simp[bNz,aW2,Cc,aZ]
def bIp {seed:Int}{n:Nat}(hn:n<=6):((List.range n).map (Cc seed)).Nodup:=by
 rw[ji,ir];refine(List.pairwise_lt_range).imp_of_mem ?_
 grind[bN1]
theorem aG1 {seed:Int}{n:Nat}(h0:1<=n)(hn:n<=6):gY (gU seed n) (bA seed n)=true/\bD (bA seed n)=true/\(gU seed n).Epoch=0:=by
 obtain⟨h1,h2,f,c,d⟩:=Tg seed n hn;have hl:bD (bA seed n)=true:=d.resolve_left (by omega);have hlen:(aG (bA seed n)).length<=1000:=by grind
 obtain⟨h,a,e,j⟩:=bC7 (key:=bL seed 0) (eph:=1000) hl (by unfold bL;exact jI _ _) (λp hp=>by
  rw[h2] at hp;obtain⟨i,_,rfl⟩:=cq.1 hp;exact bIo _ _) hlen ⟨by decide,by decide⟩
 refine⟨bQt a e (by rw[h2];exact bIp hn) hlen,hl,?_⟩;unfold gU;rw[a,c]
def bIq {seed:Int}{n:Nat}(h0:1<=n)(hn:n<=6):(jD seed n).Log=bA seed n:=by
 grind[dM,tC,jD,aG1]
theorem aR3 (d:AD)(l:List AG)(k:Int):(nV d l k).1.Store=d.Store:=by unfold nV;cases !bD l||(!dR l d.Log||(decide (aQ l<d.Epoch)|| !bZ k))<;>rfl
theorem aZt (d:AD)(l:List AG)(b:AP)(s:AK):(dO d l b s).1.Store=d.Store:=by unfold dO;cases qX d l b s==0<;>rfl
theorem aW4 (nm:ByteArray):∀(i:Nat) (d:AD),(Yi nm i d).Store=d.Store
 |0,d=>rfl
 |i+1,d=>by
  show(bN (Yi nm i d) nm (i:Int) false).1.Store=_;rw[Yk,aW4 nm i d]
def bQu {seed:Int}{n:Nat}(h0:1<=n):(mY seed n).length=n/\∀k (h:k<(mY seed n).length),(mY seed n)[k].Store=aN seed (k:Int):=by
 have hl:(mY seed n).length=n:=by
  grind[List.length_cons,List.length_map,List.length_drop,List.length_range,mY,dQ]
 grind[nwW,aR2,mQ,Fy,aW4,aR3,dQ,aOv,mY,aZt,bQ]
def bIr {n k t pin seed:Int}(h:aSt n k t pin seed=true):WIn n.toNat (gN n k t pin seed)/\(gN n k t pin seed).Devices.length=n.toNat/\(gN n k t pin seed).Seed=seed:=by
 have hb:=h;unfold aSt at hb;simp only[ac] at hb;obtain⟨b1,e,f,i,c⟩:=hb;have r:=jK b1;unfold gN;rw[h,ae];obtain⟨d1,d2⟩:=bQu (seed:=seed) (n:=n.toNat) (by omega);have a:=bIq (seed:=seed) (n:=n.toNat) (by omega) (by omega);have d:=(aG1 (seed:=seed) (n:=n.toNat) (by omega) (by omega)).2.1;refine⟨{seed:=c,now:=⟨eS 0,show(0:Int)<=999900 by decide⟩,dlen:= ?_,slen:= ?_,dev:= ?_,two:=rfl,mle:=by omega,site:= ?_,mail:=rfl,log:= ?_},d1,rfl⟩
 ·grind
 ·show(List.replicate n.toNat false).length=(mY seed n.toNat).length;rw[fe,d1]
 ·intro j hj;show StIn seed j ((mY seed n.toNat)[j]'hj).Store;rw[d2 j hj];exact⟨rfl,rfl,rfl,eS 0,show(0:Int)<=1000000 by decide⟩
 all_goals grind[bD,jD,Gz,dQ,bIl]
theorem SiteIn.cut {seed j:Int}{n:Nat}{s:AB}(h:SiteIn seed j n s)(t:Int):SiteIn seed j n (lM t s):=by
 have a:=h.find;obtain⟨l,e,hl,hn⟩:=h.acc;have c:gJ s 0=⟨1,3,l⟩:=by grind[gJ]
 unfold lM;rw[a,show decide ((0:Int)>=0)=true from rfl,ae,c,show(0:Int).toNat=0 from rfl,e];have key:∃l',(qL ⟨1,3,l⟩ t).1=⟨1,3,l'⟩/\aKj seed j l'/\l'.length=l.length:=by
  unfold qL;cases hb: !bC ⟨1,3,l⟩||(decide (aW ⟨1,3,l⟩ t<0)||(fI ⟨1,3,l⟩ (aW ⟨1,3,l⟩ t)).Cut) with
  |true=>simp[*]
  |false=>
   simp only[bp] at hb;obtain⟨k,hk,d,o⟩:=aW0 (l:=l) hb.2.1;have f:aW ⟨1,3,l⟩ t=(k:Int):=d.trans (by simp);have i:fI ⟨1,3,l⟩ (k:Int)=l[k]:=by grind[List.getD,List.getElem?_eq_getElem,fI]
   rw[f,i,aa,bw];exact⟨_,rfl,hl.set hk rfl rfl (hl k hk).2.2,aw⟩
 obtain⟨l',q1,q2,q3⟩:=key;rw[q1];have:=h.aBT q2 (q3.trans hn) s.Logins s.Book (bFc h.book) rfl;exact this
def cBd {α β:Type}{P:Nat->β->Prop}{f:α->β}{l:List α}(h:∀j (hj:j<l.length),P j (f l[j])):∀j (hj:j<(l.map f).length),P j (l.map f)[j]:=(by simp[*])
theorem WIn.cut {m:Nat}{w:AA}(h:WIn m w)(b t:Int):WIn m (fF w b t).1/\(fF w b t).1.Seed=w.Seed/\(fF w b t).1.Devices.length=w.Devices.length:=by
 unfold fF;cases hq:(aH w b 0).2==0&&(!bR w b&&(!(b==t)&&iH w t)) with
 |false=>simp[*]
 |true=>
  simp only[ac] at hq;have h0:=(lL hq.1).1;simp only[ae];unfold pU;cases(jX w b t).2&&((Yf w b t).2&&(F3 w b t).2) with
  |false=>simp[*]
  |true=>
   obtain⟨s1,s2,s3,s4,s5,s6⟩:=jE w b 0;have e:WIn m (jR w b):=h.sync b 0;have h1:WIn m (jX w b t).1:=e.aCR _ _ _ _;obtain⟨f,n,i,o,p,q,u⟩:=aG0 (jR w b) b 2 (aZ (aR w t).Store) (kN (aR (jR w b) b).Store);have d:(jX w b t).1.Devices=(jR w b).Devices:=i;have hd:aM (jX w b t).1 b=true:=Yl h0.2 (by rw[d];exact s3);obtain⟨d0,d1,_⟩:=P8 hd;have a:StIn (jX w b t).1.Seed b.toNat (nI (Yf w b t).1 t true).Store:=by
    rw[aW1];unfold Yf;rw[aR3];have:=h1.aBZ hd
    grind[aR,jX,jR]
   have k:WIn m (O7 w b t):=by refine h1.upd rfl rfl (aw ..) rfl (h1.aBM d1 a) (by show((jX w b t).1.Sites.map (lM t)).length=2;rw[bf];exact h1.two) (cBd (P:=λj s=>SiteIn (jX w b t).1.Seed ((j:Nat):Int) m s) λj hj=>(h1.site j hj).cut t) h1.mail h1.log
   have c:aM (O7 w b t) b=true:=Yl hd (aw ..);have l:WIn m (F3 w b t).1:=k.up c;obtain⟨u1,u2,u3,u4,u5,u6⟩:=bFd (O7 w b t) b;refine⟨l.tell 4,?_,?_⟩
   ·show(F3 w b t).1.Seed=w.Seed;exact u1.trans (f.trans s1)
   ·show(F3 w b t).1.Devices.length=w.Devices.length;refine u3.trans ?_;show((jX w b t).1.Devices.set _ _).length=_;rw[aw,d];exact s3
def WIn.aDJ {m:Nat}{w:AA}(h:WIn m w)(d:Int):WIn m (kH w d).1/\(kH w d).1.Seed=w.Seed/\(kH w d).1.Devices.length=w.Devices.length:=by
 unfold kH;cases bX w d 0&& !bR w d with
 |false=>simp[*]
 |true=>exact⟨h.upd rfl rfl rfl (aw ..) h.dev h.two h.site h.mail h.log,rfl,rfl⟩
def bLk (w:AA)(d j:Int)(o:AO):(jH w d j o).1.Seed=w.Seed/\(jH w d j o).1.Devices.length=w.Devices.length:=by
 unfold jH;cases !bX w d j with
 |true=>simp
 |false=>
  cases !(oN w j).2.2.2 with
  |true=>simp
  |false=>
   cases !((F4 w d j o).2.1==0) with
   |true=>exact⟨rfl,aw ..⟩
   |false=>exact⟨rfl,aw ..⟩
def bQv (w:AA)(d:Int)(n:ByteArray)(a:Int)(r:Bool):(pR w d n a r).1.Seed=w.Seed/\(pR w d n a r).1.Devices.length=w.Devices.length:=by
 grind[aK,aM,bN,aR,List.length_set,pR]
def Ti {α:Type}[Inhabited α]{f:α->Nat}{K:Nat}{x:α}:∀{l:List α} {i:Nat},i<l.length->f x<=f (l.getD i default)+K->((l.set i x).map f).sum<=(l.map f).sum+K
 |y::l,0,_,h=>by
  simp only[List.getD,fN,cJ] at h;simp only[ij,bn,dt];omega
 |y::l,i+1,hi,h=>by
  have:=Ti (f:=f) (l:=l) (i:=i) (x:=x) (K:=K) (by simpa using hi) (by simpa[List.getD] using h);simp only[gk,bn,dt];omega
def rE {w:AA}{d:Int}(hd:aM w d=true){x:AD}{K:Nat}(a:x.sz<=(aR w d).sz+K):({w with Devices:=w.Devices.set d.toNat x}:AA).sz<=w.sz+K:=by
 obtain⟨h0,h1,h2⟩:=P8 hd;have:=Ti (f:=AD.sz) (K:=K) h1 (by assumption)
 grind[AA.sz,List.length_set]
def aW5 {w:AA}{j:Nat}(hj:j<w.Sites.length){x:AB}{K:Nat}(a:x.sz<=(w.Sites.getD j default).sz+K):({w with Sites:=w.Sites.set j x}:AA).sz<=w.sz+K:=by
 have:=Ti (f:=AB.sz) (K:=K) hj a
 grind[AA.sz,List.length_set]
def WIn.aCH {m:Nat}{w:AA}(h:WIn m w):w.aAF.Log.length<=40:=by have:=h.log;unfold bD at this;rw[ac] at this;have:=jK this.1;omega
def bIs {m:Nat}{w:AA}(h:WIn m w)(d b:Int):(aH w d b).1.sz<=w.sz+60:=by
 have hl:=h.aCH;unfold aH;cases hb:aK w&&aM w d with
 |false=>simp
 |true=>rw[ac] at hb;simp only[ae];have:=aGs (aR w d) w.aAF.Log w.aAF.Boxes (iG w.aAF b).1;exact rE hb.2 (by omega)
def bIt (w:AA)(d:Int)(n:ByteArray)(a:Int)(r:Bool):(pR w d n a r).1.sz<=w.sz+1:=by
 unfold pR;cases hb:aK w&&aM w d with
 |false=>simp
 |true=>
  rw[ac] at hb;simp only[ae];cases(bN (aR w d) n a r).2 with
  |false=>simp
  |true=>simp_all[rE,Sw]
def bUk {m:Nat}{w:AA}(h:WIn m w)(d:Int):(eP w d).1.sz<=w.sz+561:=by
 have hl:=h.aCH
 grind[eP,Yd,aH,K9]
def add_add {w:AA}(h:WIn w.Devices.length w)(b:Int):(fP w b).1.sz<=w.sz+2500:=by
 have hl:=h.aCH;unfold fP;cases a:Zc w b with
 |false=>simp
 |true=>
  unfold Zc at a;simp only[ac,cj,cY] at a;obtain⟨⟨k1,k2,k3,k4⟩,k5,k6,k7,k8,k9⟩:=a;obtain⟨s1,s2,s3,s4,s5,s6⟩:=jE w b 0;have a0:=bIs h b 0;have h0:=h.sync b 0;have h1:WIn w.Devices.length (add1 w b).1:=h0.aCR _ _ _ _;obtain⟨c,e,i,o⟩:=Tc (aH w b 0).1 b 1 (aZ (aN w.Seed (w.Devices.length:Int))) (λ_=>(aR (aH w b 0).1 b).Key);rw[s6] at c e;have c:(add1 w b).1.sz<=(aH w b 0).1.sz+14*(w.aAF.Log.length+1):=c;have e:(add1 w b).1.aAF.Log.length<=w.aAF.Log.length+1:=e;have hd:aM (add1 w b).1 b=true:=Yl k2 (by show(iO _ _ _ _ _).1.Devices.length=_;rw[i,s3]);obtain⟨p,s⟩:=aCn (st:=aN w.Seed (w.Devices.length:Int)) (n:=(w.Devices.length:Int)) (j:=0) (l:=(add1 w b).1.Sites);have u:=h1.two;have k:(iE w b).sz<=(add1 w b).1.sz+4:=by
   have q:=rE (w:=(add1 w b).1) hd (x:=nI (aR (add1 w b).1 b) (w.Devices.length:Int) false) (K:=2) (aCm _ _ _)
   grind[AA.sz,iE,aJ7]
  have f:=(Yd (w:=iE w b) (d:=b) k8).2;have f:(lY w b).1.sz<=(iE w b).sz+(iE w b).aAF.Log.length+521:=f;have pl:=(Yd (w:=iE w b) (d:=b) k8).1;have pl:(lY w b).1.aAF.Log=(iE w b).aAF.Log:=pl;have y:(iE w b).aAF.Log.length=(add1 w b).1.aAF.Log.length:=rfl;have ap:=aJ8 (lY w b).1 (bQ (aN w.Seed (w.Devices.length:Int)));have nd:(bQ (aN w.Seed (w.Devices.length:Int))).sz=0:=rfl;have z:=(lL (w:=appW (lY w b).1 (bQ (aN w.Seed (w.Devices.length:Int)))) k9).2.2.2
  grind[Ye,Bw,appW,lY,bQ,aN]
def bXj {m:Nat}{w:AA}(h:WIn m w)(b t:Int):(fF w b t).1.sz<=w.sz+2500:=by
 have hl:=h.aCH;unfold fF;cases hq:(aH w b 0).2==0&&(!bR w b&&(!(b==t)&&iH w t)) with
 |false=>simp
 |true=>
  simp only[ac] at hq;obtain⟨q1,q2,q3,q4⟩:=lL hq.1;simp only[ae];unfold pU;cases(jX w b t).2&&((Yf w b t).2&&(F3 w b t).2) with
  |false=>simp
  |true=>
   obtain⟨c,e,a,i⟩:=Tc (jR w b) b 2 (aZ (aR w t).Store) (kN (aR (jR w b) b).Store);have e0:(jR w b).aAF.Log=w.aAF.Log:=by show(aH w b 0).1.aAF.Log=_;rw[q2]
   rw[e0] at c e;have c:(jX w b t).1.sz<=(jR w b).sz+14*(w.aAF.Log.length+1):=c;have a:(jX w b t).1.Devices=(jR w b).Devices:=a;have q4:(jR w b).sz<=w.sz+w.aAF.Log.length+20:=q4;have hd:aM (jX w b t).1 b=true:=Yl q1.2 (by rw[a];exact q3);have j:(O6 w b t).length<=w.aAF.Log.length+1:=by
    grind[lX,jR,aZ,aR,O6]
   have d:aR (jX w b t).1 b=aR (jR w b) b:=by unfold aR;rw[a]
   have f:(nI (Yf w b t).1 t true).sz<=(aR (jX w b t).1 b).sz+(w.aAF.Log.length+3):=by
    grind[Yf,aR,jR,O6,aJ9,kN,aCm]
   have k:(O7 w b t).sz<=(jX w b t).1.sz+(w.aAF.Log.length+3):=by
    have q:=rE (w:=(jX w b t).1) hd f
    grind[AA.sz,List.length_map,O7,aRz,jX]
   grind[Ye,F3,O7,bTr,aM,Yl,List.length_set]
structure Kept (w v:AA):Prop where
 wi:WIn v.Devices.length v
 seed:v.Seed=w.Seed
 sz:v.sz<=w.sz+3000
def Kept.of {w v:AA}(h:WIn w.Devices.length v/\v.Seed=w.Seed/\v.Devices.length=w.Devices.length)(a:v.sz<=w.sz+3000):Kept w v:=⟨by rw[h.2.2];exact h.1,h.2.1,a⟩
def bQw (s:AB)(c t:Int)(x:AY)(h:aI s 1=0)(h0:0<s.Accounts.length):(mP s 1 c t x).1.sz<=s.sz+1:=by
 have hb:(pV s.Book c 1 t).1.Open.length<=s.Book.Open.length:=by
  unfold pV;cases !dK s.Book||decide (bP s.Book c<0) with
  |true=>exact ak _
  |false=>simp only[aa,ax,bu,cm];omega
 have d:∀a x z q,(jS a x z q).1.sz=a.sz:=λa x z q=>by
  unfold jS;cases !bC a||(decide (aW a x.Handle<0)||(fI a (aW a x.Handle)).Cut) with
  |true=>rfl
  |false=>simp only[aa,AI.sz];cases iK (fI a (aW a x.Handle)).Public x z q (fI a (aW a x.Handle)).Counter==0<;>cases iK (fI a (aW a x.Handle)).Public x z q (fI a (aW a x.Handle)).Counter==4<;>simp
 have hs:=Ti (f:=AI.sz) (K:=0) (l:=s.Accounts) (i:=0) (x:=(jS (gJ s 0) x s.Name (iA s.Book c)).1) h0 (by rw[d];exact ak _);unfold mP;rw[h];cases !cZ s||decide ((0:Int)<0) with
 |true=>exact en _
 |false=>
  simp only[aa];cases !(pV s.Book c 1 t).2 with
  |true=>simp only[ae,AB.sz];omega
  |false=>
   simp only[aa];cases !rA (gJ s 0) 3 with
   |true=>simp only[ae,AB.sz];omega
   |false=>
    simp only[aa];cases !((jS (gJ s 0) x s.Name (iA s.Book c)).2==0) with
    |true=>simp only[ae,AB.sz,show(0:Int).toNat=0 from rfl,aw];omega
    |false=>simp only[aa,AB.sz,show(0:Int).toNat=0 from rfl,aw,ax,aq,bc];omega
def bC8 (s:AB)(i n:Int):(pF s i n).1.sz<=s.sz+1:=by
 unfold pF;cases cZ s&&(!decide (aI s i<0)&&(jG s.Book i n).2.2) with
 |false=>exact en _
 |true=>
  have hb:(jG s.Book i n).1.Open.length<=s.Book.Open.length+1:=by
   unfold jG;cases dK s.Book&&(!(s.Book.Next==1000000)&&(bG i 0 1000000&&bG n 0 1000000)) with
   |false=>simp only[aa];omega
   |true=>
    simp only[ae];cases decide ((s.Book.Open.length:Int)>=16) with
    |true=>simp only[ae,ax,cm,aq,bc];omega
    |false=>simp only[aa,ax,aq,bc];omega
  simp only[ae,AB.sz];omega
def bQx {m:Nat}{w:AA}(h:WIn m w)(d j:Int)(o:AO):(jH w d j o).1.sz<=w.sz+3:=by
 unfold jH;cases ht:bX w d j with
 |false=>simp only[cy,ae];omega
 |true=>
  have a:=ht;simp only[bX,ac] at a;have h2:=h.two;have hq:=a.2.2;simp only[iW,ac,cn] at hq;have hj:j.toNat<w.Sites.length:=by omega
  have es:kT w j=w.Sites[j.toNat]:=by unfold kT;simp[List.getD,ab hj]
  have hs:=h.site _ hj;rw[<-es,show((j.toNat:Nat):Int)=j by omega] at hs;have hb:SiteIn w.Seed j m (oN w j).1:=hs.begin 1 w.Now;have e:(oN w j).1.sz<=(kT w j).sz+1:=bC8 _ _ _;obtain⟨l,c,_⟩:=hb.acc;have f:(F4 w d j o).1.sz<=(oN w j).1.sz+1:=bQw _ _ _ _ hb.find (by rw[c];simp);have i:(bE4 w d j o).sz<=w.sz+2:=by have q1:=rE (w:=w) a.2.1 (x:={aR w d with Store:=(aKa w d j o).1}) (K:=0) (ak _);have q2:=aW5 (w:=w) hj (x:=(F4 w d j o).1) (K:=2) (by show _<=(kT w j).sz+2;omega);unfold bE4;simp only[AA.sz] at q1 q2 ⊢;omega
  simp only[aj,aa];cases !(oN w j).2.2.2 with
  |true=>simp only[ae];omega
  |false=>
   simp only[aa];cases !((F4 w d j o).2.1==0) with
   |true=>simp only[ae];omega
   |false=>have:=Ye (bE4 w d j o) 1;simp only[aa];omega
def bLl {w:AA}(h:WIn w.Devices.length w)(d j:Int)(o:AO):Kept w (jH w d j o).1:=by obtain⟨k1,k2⟩:=bLk w d j o;have:=bQx h d j o;exact .of ⟨h.visit d j o,k1,k2⟩ (by omega)
def Kept.refl {w:AA}(h:WIn w.Devices.length w):Kept w w:=⟨h,rfl,di _ _⟩
def bUl {w:AA}(h:WIn w.Devices.length w)(b:Bool)(d j:Int)(o:AO):Kept w (bif b then pX w d j o else(w,1)).1:=by
 cases b with
 |true=>exact bLl h d j o
 |false=>exact .refl h
def bUm (w:AA)(i b:Int):(gI w i b).1.sz<=w.sz:=by
 unfold gI;cases hc: !aK w||(decide (i<0)||decide (i>=(w.Hosts.length:Int))) with
 |true=>exact ak _
 |false=>
  have hi:=Gw (bp.1 hc).2;simp only[aa];cases(fE (w.Hosts.getD i.toNat default) b).2 with
  |false=>exact ak _
  |true=>have:=Ti (f:=AC.sz) (K:=0) (l:=w.Hosts) (i:=i.toNat) (x:=(fE (w.Hosts.getD i.toNat default) b).1) (by omega) (by rw[bHx];exact ak _);simp only[ae,AA.sz,aw];omega
def bXk (w:AA):(Mo w).1.sz<=w.sz:=by
 unfold Mo;cases aK (vE w) with
 |false=>exact ak _
 |true=>
  have he:∀b n,(lS b n).Open.length<=b.Open.length:=λb n=>by
   unfold lS;cases dK b with
   |false=>exact ak _
   |true=>exact fg _ _
  have hs:∀(l:List AB) n,((l.map λs=>({s with Book:=lS s.Book n}:AB)).map AB.sz).sum<=(l.map AB.sz).sum:=λl n=>by
   induction l with
   |nil=>exact ak _
   |cons s l a=>have:=he s.Book n;simp only[bn,dt,AB.sz] at a ⊢;omega
  have:=hs w.Sites (vE w).Now;simp only[ae,AA.sz,vE,bf] at this ⊢;omega
def bN2 {α β:Type}{y:Nat->α->β}:∀{l:List α} {i k:Nat} (h:k<l.length) (h2:k<(D9 (λi x=>[y i x]) i l).length),(D9 (λi x=>[y i x]) i l)[k]=y (i+k) l[k]
 |x::l,i,0,_,_=>rfl
 |x::l,i,k+1,h,h2=>by
  have:=bN2 (y:=y) (l:=l) (i:=i+1) (k:=k) (by simpa using h) (by rw[Sr];simpa using h);rw[show i+1+k=i+(k+1) by omega] at this;exact this
structure BoxIn (log:List AG) (bx:AP) (key:Int):Prop where
 ep:bx.Epoch=aQ log
 to:bx.Boxes.map (·.To)=aG log
 nd:(aG log).Nodup
 kok:bZ key=true
 box:∀k (h:k<bx.Boxes.length),∃e,bZ e=true/\bx.Boxes[k]=zQ bx.Boxes[k].To e (mV [aQ log,key])
 eps:0<=aQ log/\aQ log<=40
def bIu (log:List AG):dR log []=true:=by unfold dR;simp[eF]
def bUn {seed:Int}{n:Nat}(h0:1<=n)(hn:n<=6):BoxIn (bA seed n) (gU seed n) (bL seed 0):=by
 obtain⟨h1,h2,s,h,j⟩:=Tg seed n hn;have hl:bD (bA seed n)=true:=j.resolve_left (by omega);have hlen:(aG (bA seed n)).length<=1000:=by rw[h2,bf,d8];omega
 have hk:bZ (bL seed 0)=true:=by unfold bL;exact jI _ _
 obtain⟨u,l,f,o⟩:=bC7 (key:=bL seed 0) (eph:=1000) hl hk (λp hp=>by
  rw[h2] at hp;obtain⟨i,_,rfl⟩:=cq.1 hp;exact bIo _ _) hlen ⟨by decide,by decide⟩
 have a:(aG (bA seed n)).Nodup:=by rw[h2];exact bIp hn
 refine⟨l,f,a,hk,λk c=> ?_,by rw[h];exact⟨by decide,by decide⟩⟩;have q:(gU seed n).Boxes.length=(aG (bA seed n)).length:=by have:=congrArg List.length f;rw[bf] at this;exact this
 have d:k<(aG (bA seed n)).length:=by omega
 have hb:=o k c d;have e:(gU seed n).Boxes[k].To=(aG (bA seed n))[k]:=by show(bH (bA seed n) (bL seed 0) 1000).1.Boxes[k].To=_;rw[hb];rfl
 refine⟨1000+(k:Int),pG (by omega) (by omega),?_⟩;rw[e];exact hb
def nwB:Nat->AF
 |1=>⟨[⟨1464438180,0,1,false⟩,⟨1941999745,0,1,false⟩]⟩
 |2=>⟨[⟨1464438180,0,1,false⟩,⟨1464438180,1,1,false⟩,⟨1941999745,0,1,false⟩,⟨1941999745,1,1,false⟩]⟩
 |3=>⟨[⟨1464438180,0,1,false⟩,⟨1464438180,1,1,false⟩,⟨1464438180,2,1,false⟩,⟨1941999745,0,1,false⟩,⟨1941999745,1,1,false⟩,⟨1941999745,2,1,false⟩]⟩
 |_=>⟨[]⟩
def bIv (seed:Int)(n k:Nat)(v:Int)(b:AF):AD:=⟨aN seed (k:Int),bA seed n,bL seed 0,0,v,b⟩
def cBe {seed:Int}{n:Nat}(h0:1<=n)(hn:n<=6)(k:Nat):Fy seed n (bQ (aN seed (k:Int)))=bIv seed n k 0 ⟨[]⟩:=by
 obtain⟨h1,h2,d,a,c⟩:=Tg seed n hn;have hl:bD (bA seed n)=true:=c.resolve_left (by omega);have hk:bZ (bL seed 0)=true:=by unfold bL;exact jI _ _
 unfold Fy nV bQ;rw[hl,bIu,hk,a];rfl
def cCy {n:Nat}(h:n=1\/n=2\/n=3)(s:AJ)(l:List AG)(k e v:Int):Yi (aB 1) n (Yi (aB 0) n ⟨s,l,k,e,v,⟨[]⟩⟩)=⟨s,l,k,e,v,nwB n⟩:=by rcases h with rfl|rfl|rfl<;>kernel_rfl
def cBf {n:Nat}(h:n=1\/n=2\/n=3):aO (nwB n)=true/\nT ⟨[]⟩ (nwB n)=(nwB n,true)/\nT (nwB n) (nwB n)=(nwB n,true):=by rcases h with rfl|rfl|rfl<;>exact⟨by kernel_rfl,by kernel_rfl,by kernel_rfl⟩
def bQy {seed:Int}{n:Nat}(h:n=1\/n=2\/n=3):mQ seed n=bIv seed n 0 0 (nwB n):=by unfold mQ;rw[show(0:Int)=((0:Nat):Int) from rfl,cBe (by omega) (by omega)];exact cCy h _ _ _ _ _
def cCz {seed:Int}{n:Nat}(h:n=1\/n=2\/n=3):nwW seed n=(bIv seed n 0 1 (nwB n),Mk (bL seed 0) 0 1 (nwB n),true):=by
 have hk:bZ (bL seed 0)=true:=by unfold bL;exact jI _ _
 unfold nwW;rw[bQy h];unfold dC mE bIv;simp only[];rw[show IntKind.i64.wrap (0+1)=1 from by decide,hk,(cBf h).1];rfl
def bC9 {seed:Int}{n:Nat}(h:n=1\/n=2\/n=3):jD seed n=⟨bA seed n,gU seed n,[Mk (bL seed 0) 0 1 (nwB n)]⟩:=by
 obtain⟨h1,h2,_⟩:=aG1 (seed:=seed) (n:=n) (by omega) (by omega);have a:=(Tg seed n (by omega)).ep;have e:dM (bA seed n) (gU seed n)=(⟨bA seed n,gU seed n,[]⟩,true):=by unfold dM;rw[h1,h2];rfl
 unfold jD;rw[e,cCz h];show(bW ⟨bA seed n,gU seed n,[]⟩ (Mk (bL seed 0) 0 1 (nwB n))).1=_;unfold bW;rw[show(Mk (bL seed 0) 0 1 (nwB n)).Epoch=0 from rfl,a];rfl
def bIw (w:AA)(d j:Int)(o:AO):(jH w d j o).1.Hosts=w.Hosts:=by
 unfold jH;cases !bX w d j with
 |true=>rfl
 |false=>
  cases !(oN w j).2.2.2 with
  |true=>rfl
  |false=>cases !((F4 w d j o).2.1==0)<;>rfl
def Hf (w:AA)(d b:Int):(aH w d b).1.Hosts=w.Hosts:=by unfold aH;cases aK w&&aM w d<;>rfl
def bIx (w:AA)(d:Int):(K9 w d).1.Hosts=w.Hosts:=by unfold K9;cases(dC (aR w d)).2.2&&(bW w.aAF (dC (aR w d)).2.1).2<;>rfl
def aW6 (w:AA)(d:Int):(eP w d).1.Hosts=w.Hosts:=by
 unfold eP;cases(aH w d 0).2==0&&(K9 (aH w d 0).1 d).2 with
 |false=>rfl
 |true=>exact(bIx _ _).trans (Hf _ _ _)
def bLm (w:AA)(d:Int)(n:ByteArray)(a:Int)(r:Bool):(pR w d n a r).1.Hosts=w.Hosts:=by
 unfold pR;cases aK w&&aM w d with
 |false=>rfl
 |true=>cases(bN (aR w d) n a r).2<;>rfl
def aR4 (w:AA)(b k p:Int)(key:List AG->Int):(iO w b k p key).1.Hosts=w.Hosts:=by unfold iO;simp only[];generalize dP w.aAF.Log k p (aR w b).Store=l;generalize bH l.1 (key l.1) (IntKind.i64.wrap (1000+IntKind.i64.wrap (10*(l.1.length:Int))))=e;cases l.2&&(e.2&&(kS w.aAF l.1 e.1).2)<;>rfl
def bQz (w:AA)(b:Int):(fP w b).1.Hosts=w.Hosts:=by
 unfold fP;cases Zc w b with
 |false=>rfl
 |true=>
  show(Bw w b).1.Hosts=w.Hosts;have a:(lY w b).1.Hosts=w.Hosts:=by unfold lY;rw[aW6];exact(aR4 _ _ _ _ _).trans (Hf _ _ _)
  unfold Bw
  first
   |exact a
   |exact(Hf _ _ _).trans a
def bIy (w:AA)(d:Int):(kH w d).1.Hosts=w.Hosts:=by unfold kH;cases bX w d 0&& !bR w d<;>rfl
def bLn (w:AA):(Mo w).1.Hosts=w.Hosts:=by unfold Mo;cases aK (vE w)<;>rfl
def bQ0 (w:AA)(b t:Int):(fF w b t).1.Hosts=w.Hosts:=by
 unfold fF;generalize((aH w b 0).2==0&&(!bR w b&&(!(b==t)&&iH w t)))=q;cases q with
 |false=>rfl
 |true=>
  show(pU w b t).1.Hosts=w.Hosts;have h1:(jX w b t).1.Hosts=w.Hosts:=(aR4 _ _ _ _ _).trans (Hf _ _ _);have a:(F3 w b t).1.Hosts=w.Hosts:=(bIx _ _).trans h1;unfold pU;cases(jX w b t).2&&((Yf w b t).2&&(F3 w b t).2) with
  |false=>rfl
  |true=>exact a
def bIz (w:AA)(pin:Int):(zC w pin).1.Hosts.length=w.Hosts.length:=by
 show(iP w (Cb w) pin).1.Hosts.length=_;unfold iP;cases aK w with
 |false=>rfl
 |true=>exact(bNw ..).1
def bI0 (w:AA):(fH w).1.Hosts.length<=w.Hosts.length:=by
 unfold fH;cases aK w&&(fG w.Hosts (aWb w)).2 with
 |false=>exact ak _
 |true=>exact(aE4 ..).1
def bLo (w:AA)(i b:Int):(gI w i b).1.Hosts.length=w.Hosts.length:=by
 unfold gI;cases !aK w||(decide (i<0)||decide (i>=(w.Hosts.length:Int))) with
 |true=>rfl
 |false=>cases(fE (w.Hosts.getD i.toNat default) b).2 with
  |false=>rfl
  |true=>exact aw ..
def bI1 (w:AA)(d:Int):(kH w d).1.sz=w.sz:=by
 unfold kH;cases bX w d 0&& !bR w d with
 |false=>rfl
 |true=>simp only[ae,AA.sz,aw]
structure KeptH (w v:AA):Prop where
 kept:Kept w v
 hosts:v.Hosts.length<=w.Hosts.length
def KeptH.of {w v:AA}(h:Kept w v)(e:v.Hosts=w.Hosts):KeptH w v:=⟨h,by rw[e];exact ak _⟩
def gV (seed:Int):A4:=(aKc seed 2 500 3).1
def cEv (seed:Int):Int:=IntKind.i64.wrap (1+(aV seed [293]).tmod 1018)
def gSh (seed x:Int):AX:=⟨x,Gx (cEv seed) (aOw seed 2) x⟩
def gK (s:AX)(i:Nat):A3:=⟨s,0,(i:Int),5⟩
def bUo (s:AX)(i:Nat):AC:=⟨gK s i,(List.range i).map (gK s),(i:Int)⟩
def gHs (seed:Int)(i:Nat):List AC:=[bUo (gSh seed 1) i,bUo (gSh seed 2) i,bUo (gSh seed 3) 0]
structure GS (seed:Int) (i:Nat) (w:AA):Prop where
 wi:WIn 1 w
 len:w.Devices.length=1
 sd:w.Seed=seed
 now:w.Now=0
 vault:w.aAO=gV seed
 hosts:w.Hosts=gHs seed i
 le:i<=5
theorem bQ1 {a b:AH}(h:eH a b=true):¬(a.Site=b.Site/\a.Handle=b.Handle):=by grind[Su]
def rk (e:AH):Int:=2*e.Version+(bif e.Deleted then 1 else 0)
def Sub (a b:List AH):Prop:=∀e∈a,∃x∈b,x.Site=e.Site/\x.Handle=e.Handle/\rk e<=rk x
theorem Sub.trans {a b c:List AH}(h:Sub a b)(k:Sub b c):Sub a c:=λe he=>by
 obtain⟨x,d,x1,x2,f⟩:=h e he;obtain⟨y,i,j,l,n⟩:=k x d
 grind
def bUp {α:Type}[BEq α][LawfulBEq α]:∀{l S:List α},l.Nodup->(∀x∈l,x∈S)->l.length<=S.length
 |[],S,_,_=>by simp
 |x::l,S,hn,hs=>by
  obtain⟨h1,h2⟩:=cr.1 hn;have c:=hs x (dv ..);have:=bUp (l:=l) (S:=S.erase x) h2 λy d=>by
   have a:y≠x:=λe=>h1 (e▸d);exact(List.mem_erase_of_ne a).2 (hs y (dx _ d))
  rw[List.length_erase_of_mem c] at this;have:0<S.length:=List.length_pos_of_mem c;simp only[aq];omega
structure KeyS (S:List (Int×Int)):Prop where
 len:S.length<=20
 rg:∀p∈S,(0<=p.1/\p.1<=2147483646)/\(0<=p.2/\p.2<=1000000)
structure BunIn (S:List (Int×Int)) (V:Int) (b:List AH):Prop where
 st:srt b
 key:∀e∈b,(e.Site,e.Handle)∈S
 ver:∀e∈b,1<=e.Version/\e.Version<=V
def BunIn.mono {S:List (Int×Int)}{V W:Int}{b:List AH}(h:BunIn S V b)(hv:V<=W):BunIn S W b:=⟨h.st,h.key,λe he=>⟨(h.ver e he).1,fY (h.ver e he).2 hv⟩⟩
theorem BunIn.len {S:List (Int×Int)}{V:Int}{b:List AH}(h:BunIn S V b):b.length<=S.length:=by
 have hn:(b.map λe=>(e.Site,e.Handle)).Nodup:=by rw[ji,ir];exact h.st.imp (by grind[bQ1])
 have:=bUp hn λp hp=>by
  obtain⟨e,he,rfl⟩:=cq.1 hp;exact h.key e he
 rwa [bf] at this
def BunIn.ok {S:List (Int×Int)}{V:Int}{b:List AH}(a:KeyS S)(c:V<=1000000)(h:BunIn S V b):aO ⟨b⟩=true:=by
 have hl:=h.len;have:=a.len;unfold aO;rw[au (show((⟨b⟩:AF).Entries.length:Int)<=20 by show(b.length:Int)<=20;omega),cA,cj];refine aOy λk hk=> ?_;have hk:k<b.length:=hk;show aCw b (0+k) b[k]=false;have hm:=cp hk;have r:=a.rg _ (h.key _ hm);have v:=h.ver _ hm;unfold aCw;rw[pG r.1.1 r.1.2,pG r.2.1 r.2.2,pG v.1 (by omega)];simp only[aj,cC,co];by_cases h0:0<k
 ·have:b.getD (k-1) default=b[k-1]'(by omega):=by rw[List.getD,ab (by omega),cJ]
  rw[this,eh.1 h.st (k-1) k (by omega) hk (by omega)];simp
 simp[*]
structure ChgIn (S:List (Int×Int)) (V:Int) (d x:AD):Prop where
 store:x.Store=d.Store
 log:x.Log=d.Log
 key:x.Key=d.Key
 ep:x.Epoch=d.Epoch
 ver:x.Version=d.Version
 bun:BunIn S V x.aAE.Entries
 sub:Sub d.aAE.Entries x.aAE.Entries
theorem ChgIn.trans {S:List (Int×Int)}{V W:Int}{a b c:AD}(h:ChgIn S V a b)(k:ChgIn S W b c):ChgIn S W a c:=
 ⟨k.store.trans h.store,k.log.trans h.log,k.key.trans h.key,k.ep.trans h.ep,k.ver.trans h.ver,k.bun,h.sub.trans k.sub⟩
end Go.VK
set_option maxRecDepth 100000
namespace Go.VK
open D
structure Dv (S:List (Int×Int)) (T:Int) (log:List AG) (K ep v:Int) (d:AD):Prop where
 pre:∃r,log=d.Log++r
 at_:d.Epoch<ep\/(d.Epoch=ep/\d.Version<=v)
 key:d.Epoch=ep->d.Key=K
 bun:BunIn S T d.aAE.Entries
structure Hs (S:List (Int×Int)) (T:Int) (K ep v:Int) (s:AK):Prop where
 low:s.Epoch<=ep
 own:s.Epoch=ep->∃v' b',s=Mk K ep v' b'/\0<=v'/\v'<=v/\BunIn S T b'.Entries
structure Net (S:List (Int×Int)) (t m:Nat) (w:AA) (K v:Int) (r:List AK) (b:AF):Prop where
 wi:WIn m w
 bx:BoxIn w.aAF.Log w.aAF.Boxes K
 devs:∀p∈aG w.aAF.Log,∃k,k<m/\p=Cc w.Seed k
 rem:∀p,jZ w.aAF.Log p=true->∃k,k<m/\p=Cc w.Seed k
 hist:w.aAF.History=r++[Mk K (aQ w.aAF.Log) v b]
 old:∀s∈r,Hs S (t:Int) K (aQ w.aAF.Log) v s
 bun:BunIn S (t:Int) b.Entries
 ver:0<=v/\v<=(t:Int)
 dev:∀k (h:k<w.Devices.length),Dv S (t:Int) w.aAF.Log K (aQ w.aAF.Log) v w.Devices[k]
def Dv.mono {S:List (Int×Int)}{T U:Int}{log:List AG}{K ep v u:Int}{d:AD}(h:Dv S T log K ep v d)(a:T<=U)(hv:v<=u):Dv S U log K ep u d:=
 ⟨h.pre,h.at_.imp id (by omega),h.key,h.bun.mono a⟩
def Hs.mono {S:List (Int×Int)}{T U:Int}{K ep v u:Int}{s:AK}(h:Hs S T K ep v s)(a:T<=U)(hv:v<=u):Hs S U K ep u s:=
 ⟨h.low,λe=>let ⟨v',b',h1,h2,c,d⟩:=h.own e;⟨v',b',h1,h2,fY c hv,d.mono a⟩⟩
section
variable {S:List (Int×Int)} {t m:Nat} {w:AA} {K v:Int} {r:List AK} {b:AF}
def Net.last (h:Net S t m w K v r b):Hs S (t:Int) K (aQ w.aAF.Log) v (Mk K (aQ w.aAF.Log) v b):=
 ⟨eS _,λ_=>⟨v,b,rfl,h.ver.1,eS _,h.bun⟩⟩
def Net.hs (h:Net S t m w K v r b){s:AK}(hs:s∈w.aAF.History):Hs S (t:Int) K (aQ w.aAF.Log) v s:=by
 rw[h.hist] at hs;rcases ce.1 hs with hs|hs
 ·exact h.old s hs
 ·rw[cH.1 hs];exact h.last
def Net.mono (h:Net S t m w K v r b){u:Nat}(a:t<=u):Net S u m w K v r b where
 wi:=h.wi
 bx:=h.bx
 devs:=h.devs
 rem:=h.rem
 hist:=h.hist
 old:=λs hs=>(h.old s hs).mono (by omega) (eS _)
 bun:=h.bun.mono (by omega)
 ver:=by have:=h.ver;omega
 dev:=λk hk=>(h.dev k hk).mono (by omega) (eS _)
end
end Go.VK
set_option maxRecDepth 100000
namespace Go.VK
open D
def bLp (k:Int)(b:List Int):∀z∈tZ k b,0<=z/\z<=255:=λz a=>by
 obtain⟨i,hi,e⟩:=de.1 a;unfold tZ at hi e;have hl:i<b.length:=by have:=Sz k b;unfold tZ at this;omega
 rw[bN2 hl] at e;rw[<-e];unfold bK0;rw[IntKind.wrap_u8];omega
def aKk {k:Int}{b:List Int}(h:b.length<=34359738368):aU (tZ k b):=
 ⟨by rw[Sz];exact h,cx.2 λz a=>by
  have:=bLp k b z a;rw[au this.1,au this.2];rfl⟩
def bQ2 {n k t pin seed:Int}(h:aSt n k t pin seed=true):yI (gN n k t pin seed).aAF:=by
 have hn:n.toNat=1\/n.toNat=2\/n.toNat=3:=by unfold aSt at h;simp only[ac] at h;have:=jK h.1;omega
 have a:(gN n k t pin seed).aAF=⟨bA seed n.toNat,gU seed n.toNat,[Mk (bL seed 0) 0 1 (nwB n.toNat)]⟩:=by unfold gN;rw[h];exact bC9 hn
 rw[a];refine⟨λx c=> ?_,λs hs=> ?_⟩
 ·obtain⟨i,hi,e⟩:=de.1 c;obtain⟨e',_,he⟩:=(bUn (seed:=seed) (n:=n.toNat) (by omega) (by omega)).box i hi;have e:(gU seed n.toNat).Boxes[i]=x:=e;rw[<-e,he];exact aKk (by have:=bUj (aQ (bA seed n.toNat)) (bL seed 0);omega)
 ·have hs:s=Mk (bL seed 0) 0 1 (nwB n.toNat):=by simpa using hs
  rw[hs];refine aKk ?_;have:=Sy (nwB n.toNat);omega
def bN3 (l:List AK):Prop:=l.Pairwise λa b=>sZ b a=true
def bQ3 {a b:AK}:sZ a b=true↔b.Epoch<a.Epoch\/(a.Epoch=b.Epoch/\b.Version<a.Version):=by unfold sZ;simp
def bI2 {a b c:AK}(h:sZ a b=true)(k:sZ b c=true):sZ a c=true:=by rw[bQ3] at*;omega
structure CldOk (c:AR):Prop where
 bytes:yI c
 inc:bN3 c.History
def aW7 {c:AR}(h:CldOk c){s:AK}(hs:aU s.Data):CldOk (bW c s).1:=by
 unfold bW;cases hb:s.Epoch !=aQ c.Log||((decide ((c.History.length:Int)>0)&& !sZ s (c.History.getD (c.History.length-1) default))||decide ((c.History.length:Int)>=60)) with
 |true=>exact h
 |false=>
  simp only[bp] at hb;refine⟨⟨h.bytes.1,λx d=> ?_⟩,?_⟩
  ·rcases ce.1 d with d|d
   ·exact h.bytes.2 x d
   ·rw[cH.1 d];exact hs
  ·show bN3 (c.History++[s]);refine List.pairwise_append.2 ⟨h.inc,fL ..,λa j b hb'=> ?_⟩
   rw[cH.1 hb'];obtain⟨i,hi,e⟩:=de.1 j;have f:=hb.2.1;rw[au (show(c.History.length:Int)>0 by omega),cA,dm,List.getD,ab (by omega),cJ] at f;by_cases hl:i=c.History.length-1
   ·subst hl;rw[<-e];exact f
   ·have:=eh.1 h.inc i (c.History.length-1) hi (by omega) (by omega);rw[e] at this;exact bI2 f this
def bQ4 {c:AR}(h:CldOk c){log:List AG}{e:AP}(he:bFb e):CldOk (kS c log e).1:=by
 unfold kS;cases !bD log||(!dR log c.Log|| !gY e log) with
 |true=>exact h
 |false=>exact⟨⟨he,h.bytes.2⟩,h.inc⟩
def aZu (p e:Int)(d:List Int)(hd:d.length<=34359738368):aU (fQ p e d).1.Data:=by
 unfold fQ;cases iJ p==0||(!bZ e||decide ((d.length:Int)>200)) with
 |true=>exact⟨by show 0<=_;omega,rfl⟩
 |false=>exact aKk hd
def aR5 {e:Int}{d:List Int}(hd:d.length<=34359738368):∀(l:List Int) (i:Nat),∀x∈(fT e d i l).1,aU x.Data
 |[],i,x,a=>by simp[fT] at a
 |p::l,i,x,a=>by
  unfold fT at a;cases hb:(fQ p (IntKind.i64.wrap (e+(i:Int))) d).2&&(fT e d (i+1) l).2 with
  |false=>rw[hb] at a;simp at a
  |true=>
   rw[hb,ae] at a;rcases bg.1 a with rfl|a
   ·exact aZu _ _ _ hd
   ·exact aR5 hd l (i+1) x a
def aKl (log:List AG)(k e:Int):bFb (bH log k e).1:=by
 unfold bH;cases !bD log||(!bZ k|| !(fT e (mV [aQ log,k]) 0 (aG log)).2) with
 |true=>intro x a;simp at a
 |false=>exact λx a=>aR5 (by have:=bUj (aQ log) k;omega) _ _ x a
def bI3 (d:AD):aU (dC d).2.1.Data:=by
 have h0:aU ([]:List Int):=⟨by show 0<=_;omega,rfl⟩;unfold dC;cases a:(mE d.Key d.Epoch (IntKind.i64.wrap (d.Version+1)) d.aAE).2 with
 |false=>exact h0
 |true=>
  show aU (mE d.Key d.Epoch (IntKind.i64.wrap (d.Version+1)) d.aAE).1.Data;unfold mE;cases bZ d.Key&&(bG d.Epoch 0 1000000&&bG (IntKind.i64.wrap (d.Version+1)) 0 1000000)&&aO d.aAE with
  |false=>exact h0
  |true=>refine aKk ?_;have:=Sy d.aAE;omega
section
variable {w:AA}
def bUq (h:CldOk w.aAF)(d:Int):CldOk (K9 w d).1.aAF:=by
 unfold K9;cases(dC (aR w d)).2.2&&(bW w.aAF (dC (aR w d)).2.1).2 with
 |false=>exact h
 |true=>exact aW7 h (bI3 _)
def aW8 (h:CldOk w.aAF)(d:Int):CldOk (eP w d).1.aAF:=by
 unfold eP;cases(aH w d 0).2==0&&(K9 (aH w d 0).1 d).2 with
 |false=>exact h
 |true=>exact bUq (by rw[(jE w d 0).2.2.2.2.2];exact h) d
def bDa (h:CldOk w.aAF)(b k p:Int)(key:List AG->Int):CldOk (iO w b k p key).1.aAF:=by
 unfold iO;dsimp only;cases(dP w.aAF.Log k p (aR w b).Store).2&&((bH (dP w.aAF.Log k p (aR w b).Store).1 (key (dP w.aAF.Log k p (aR w b).Store).1) (IntKind.i64.wrap (1000+IntKind.i64.wrap (10*((dP w.aAF.Log k p (aR w b).Store).1.length:Int))))).2&&(kS w.aAF (dP w.aAF.Log k p (aR w b).Store).1 (bH (dP w.aAF.Log k p (aR w b).Store).1 (key (dP w.aAF.Log k p (aR w b).Store).1) (IntKind.i64.wrap (1000+IntKind.i64.wrap (10*((dP w.aAF.Log k p (aR w b).Store).1.length:Int))))).1).2) with
 |false=>exact h
 |true=>exact bQ4 h (aKl _ _ _)
def bN4 (h:CldOk w.aAF)(b:Int):CldOk (fP w b).1.aAF:=by
 unfold fP;cases Zc w b with
 |false=>exact h
 |true=>
  show CldOk (Bw w b).1.aAF;have h0:CldOk (aH w b 0).1.aAF:=by rw[(jE w b 0).2.2.2.2.2];exact h
  have h1:CldOk (add1 w b).1.aAF:=bDa h0 _ _ _ _;have a:CldOk (lY w b).1.aAF:=aW8 (w:=iE w b) h1 b;show CldOk (aH (appW (lY w b).1 (bQ (aN w.Seed (w.Devices.length:Int)))) (w.Devices.length:Int) 0).1.aAF;rw[(jE _ _ _).2.2.2.2.2];exact a
def bN5 (h:CldOk w.aAF)(c x:Int):CldOk (fF w c x).1.aAF:=by
 unfold fF;cases(aH w c 0).2==0&&(!bR w c&&(!(c==x)&&iH w x)) with
 |false=>exact h
 |true=>
  simp only[ae];unfold pU;cases(jX w c x).2&&((Yf w c x).2&&(F3 w c x).2) with
  |false=>exact h
  |true=>
   have h0:CldOk (jR w c).aAF:=by unfold jR;rw[(jE w c 0).2.2.2.2.2];exact h
   have h1:CldOk (jX w c x).1.aAF:=bDa h0 _ _ _ _;exact bUq (w:=O7 w c x) h1 c
def bI4 (h:CldOk w.aAF)(d:Int)(n:ByteArray)(a:Int)(f:Bool):CldOk (pR w d n a f).1.aAF:=by
 unfold pR;cases aK w&&aM w d with
 |false=>exact h
 |true=>simp only[ae];cases(bN (aR w d) n a f).2<;>exact h
def bDb (h:CldOk w.aAF)(d j:Int)(o:AO):CldOk (jH w d j o).1.aAF:=by
 unfold jH;cases !bX w d j with
 |true=>exact h
 |false=>
  simp only[aa];cases !(oN w j).2.2.2 with
  |true=>exact h
  |false=>simp only[aa];cases !((F4 w d j o).2.1==0)<;>exact h
def bDc (h:CldOk w.aAF)(d:Int):CldOk (kH w d).1.aAF:=by unfold kH;cases bX w d 0&& !bR w d<;>exact h
def bXl {n k t pin seed:Int}:CldOk (gN n k t pin seed).aAF:=by
 cases h:aSt n k t pin seed with
 |false=>unfold gN;rw[h];exact⟨⟨λx a=>by simp[bE6] at a,λx a=>by simp[bE6] at a⟩,List.Pairwise.nil⟩
 |true=>
  have hn:n.toNat=1\/n.toNat=2\/n.toNat=3:=by unfold aSt at h;simp only[ac] at h;have:=jK h.1;omega
  have c:(gN n k t pin seed).aAF=⟨bA seed n.toNat,gU seed n.toNat,[Mk (bL seed 0) 0 1 (nwB n.toNat)]⟩:=by unfold gN;rw[h];exact bC9 hn
  exact⟨bQ2 h,by rw[c];exact fL ..⟩
end
end Go.VK
set_option maxRecDepth 100000
namespace Go.VK
open D
def aKm {w:AA}(h:aK w=true):w.aAF.Log.length<=40:=by unfold aK at h;simp only[ac] at h;obtain⟨⟨⟨⟨⟨⟨⟨q1,q2⟩,q3⟩,q4⟩,q5⟩,q6⟩,q7⟩,q8⟩:=h;unfold bD at q6;rw[ac] at q6;have:=jK q6.1;omega
def ok_two {w:AA}(h:aK w=true):w.Sites.length=2:=by unfold aK at h;simp only[ac] at h;obtain⟨⟨⟨⟨⟨⟨⟨q1,q2⟩,q3⟩,q4⟩,q5⟩,q6⟩,q7⟩,q8⟩:=h;have:=eq_of_beq q4;omega
def bDd (w:AA)(d b:Int):(aH w d b).1.sz<=w.sz+60:=by
 unfold aH;cases hb:aK w&&aM w d with
 |false=>simp only[aa];omega
 |true=>rw[ac] at hb;have hl:=aKm hb.1;simp only[ae];have:=aGs (aR w d) w.aAF.Log w.aAF.Boxes (iG w.aAF b).1;exact rE hb.2 (by omega)
def bQ5 (w:AA)(d:Int):(eP w d).1.sz<=w.sz+561:=by
 cases hp:(eP w d).2 with
 |true=>
  have h1:=(Yd hp).2;have hs:((aH w d 0).2==0)=true:=by
   unfold eP at hp;cases hq:(aH w d 0).2==0 with
   |true=>rfl
   |false=>rw[hq] at hp;cases hp
  have:=aKm (lL hs).1.1;omega
 |false=>
  have e:(eP w d).1=w:=by
   unfold eP at hp ⊢;cases hc:(aH w d 0).2==0&&(K9 (aH w d 0).1 d).2 with
   |true=>rw[hc] at hp;cases hp
   |false=>rfl
  rw[e];omega
def bUr (w:AA)(b:Int):(fP w b).1.sz<=w.sz+2500:=by
 unfold fP;cases a:Zc w b with
 |false=>simp only[aa];omega
 |true=>
  unfold Zc at a;simp only[ac,cj,cY] at a;obtain⟨⟨k1,k2,k3,k4⟩,k5,k6,k7,k8,k9⟩:=a;have hl:=aKm k1;obtain⟨s1,s2,s3,s4,s5,s6⟩:=jE w b 0;have a0:=bDd w b 0;obtain⟨c,e,i,k⟩:=Tc (aH w b 0).1 b 1 (aZ (aN w.Seed (w.Devices.length:Int))) (λ_=>(aR (aH w b 0).1 b).Key);rw[s6] at c e;have c:(add1 w b).1.sz<=(aH w b 0).1.sz+14*(w.aAF.Log.length+1):=c;have e:(add1 w b).1.aAF.Log.length<=w.aAF.Log.length+1:=e;have hd:aM (add1 w b).1 b=true:=Yl k2 (by show(iO _ _ _ _ _).1.Devices.length=_;rw[i,s3]);obtain⟨s,u⟩:=aCn (st:=aN w.Seed (w.Devices.length:Int)) (n:=(w.Devices.length:Int)) (j:=0) (l:=(add1 w b).1.Sites);have y:(add1 w b).1.Sites.length=2:=by rw[show(add1 w b).1.Sites=(aH w b 0).1.Sites from k,s4];exact ok_two k1
  have o:(iE w b).sz<=(add1 w b).1.sz+4:=by have q:=rE (w:=(add1 w b).1) hd (x:=nI (aR (add1 w b).1 b) (w.Devices.length:Int) false) (K:=2) (aCm _ _ _);unfold iE aJ7;simp only[AA.sz] at q ⊢;omega
  have h:=(Yd (w:=iE w b) (d:=b) k8).2;have h:(lY w b).1.sz<=(iE w b).sz+(iE w b).aAF.Log.length+521:=h;have pl:=(Yd (w:=iE w b) (d:=b) k8).1;have pl:(lY w b).1.aAF.Log=(iE w b).aAF.Log:=pl;have p:(iE w b).aAF.Log.length=(add1 w b).1.aAF.Log.length:=rfl;have ap:=aJ8 (lY w b).1 (bQ (aN w.Seed (w.Devices.length:Int)));have nd:(bQ (aN w.Seed (w.Devices.length:Int))).sz=0:=rfl;have f:=(lL (w:=appW (lY w b).1 (bQ (aN w.Seed (w.Devices.length:Int)))) k9).2.2.2;have f:(Bw w b).1.sz<=(appW (lY w b).1 (bQ (aN w.Seed (w.Devices.length:Int)))).sz+(lY w b).1.aAF.Log.length+20:=f;have tl:=Ye (Bw w b).1 2;simp only[ae];rw[pl,p] at f;omega
def bUs (w:AA)(b t:Int):(fF w b t).1.sz<=w.sz+2500:=by
 unfold fF;cases hq:(aH w b 0).2==0&&(!bR w b&&(!(b==t)&&iH w t)) with
 |false=>simp only[aa];omega
 |true=>
  simp only[ac] at hq;obtain⟨q1,q2,q3,q4⟩:=lL hq.1;have hl:=aKm q1.1;simp only[ae];unfold pU;cases(jX w b t).2&&((Yf w b t).2&&(F3 w b t).2) with
  |false=>simp only[aa];omega
  |true=>
   obtain⟨e,h,d,j⟩:=Tc (jR w b) b 2 (aZ (aR w t).Store) (kN (aR (jR w b) b).Store);have e0:(jR w b).aAF.Log=w.aAF.Log:=by show(aH w b 0).1.aAF.Log=_;rw[q2]
   rw[e0] at e h;have e:(jX w b t).1.sz<=(jR w b).sz+14*(w.aAF.Log.length+1):=e;have d:(jX w b t).1.Devices=(jR w b).Devices:=d;have q4:(jR w b).sz<=w.sz+w.aAF.Log.length+20:=q4;have hd:aM (jX w b t).1 b=true:=Yl q1.2 (by rw[d];exact q3);have k:(O6 w b t).length<=w.aAF.Log.length+1:=by unfold O6;have:=lX (jR w b).aAF.Log 2 (aZ (aR w t).Store) (aR (jR w b) b).Store;rw[e0] at this ⊢;exact this
   have a:aR (jX w b t).1 b=aR (jR w b) b:=by unfold aR;rw[d]
   have i:(nI (Yf w b t).1 t true).sz<=(aR (jX w b t).1 b).sz+(w.aAF.Log.length+3):=by have x1:=aCm (Yf w b t).1 t true;have x2:=aJ9 (aR (jR w b) b) (O6 w b t) (kN (aR (jR w b) b).Store (O6 w b t));have x2:(Yf w b t).1.sz<=(aR (jR w b) b).sz+(O6 w b t).length:=x2;rw[a];omega
   have l:(O7 w b t).sz<=(jX w b t).1.sz+(w.aAF.Log.length+3):=by have q:=rE (w:=(jX w b t).1) hd i;have c:=aRz t (jX w b t).1.Sites;unfold O7;simp only[AA.sz,bf] at q ⊢;omega
   have f:aM (O7 w b t) b=true:=Yl hd (aw ..);have u:=(bTr (w:=O7 w b t) f).2.2;have u:(F3 w b t).1.sz<=(O7 w b t).sz+501:=u;have tl:=Ye (F3 w b t).1 4;simp only[ae];omega
def bLq (s:AB)(a c t:Int)(x:AY):(mP s a c t x).1.sz<=s.sz+1:=by
 have hb:(pV s.Book c a t).1.Open.length<=s.Book.Open.length:=by
  unfold pV;cases !dK s.Book||decide (bP s.Book c<0) with
  |true=>exact ak _
  |false=>simp only[aa,ax,bu,cm];omega
 have d:∀a x z q,(jS a x z q).1.sz=a.sz:=λa x z q=>by
  unfold jS;cases !bC a||(decide (aW a x.Handle<0)||(fI a (aW a x.Handle)).Cut) with
  |true=>rfl
  |false=>simp only[aa,AI.sz];cases iK (fI a (aW a x.Handle)).Public x z q (fI a (aW a x.Handle)).Counter==0<;>cases iK (fI a (aW a x.Handle)).Public x z q (fI a (aW a x.Handle)).Counter==4<;>simp
 have hs:∀y:AI,y.sz=(gJ s (aI s a)).sz->((s.Accounts.set (aI s a).toNat y).map AI.sz).sum<=(s.Accounts.map AI.sz).sum:=λy e=>by
  by_cases hl:(aI s a).toNat<s.Accounts.length
  ·exact Ti (f:=AI.sz) (K:=0) hl (by show y.sz<=(gJ s (aI s a)).sz+0;omega)
  ·rw[jq (by omega)];exact ak _
 have hs:=hs (jS (gJ s (aI s a)) x s.Name (iA s.Book c)).1 (d ..);unfold mP;cases !cZ s||decide (aI s a<0) with
 |true=>exact en _
 |false=>
  simp only[aa];cases !(pV s.Book c a t).2 with
  |true=>simp only[ae,AB.sz];omega
  |false=>
   simp only[aa];cases !rA (gJ s (aI s a)) 3 with
   |true=>simp only[ae,AB.sz];omega
   |false=>
    simp only[aa];cases !((jS (gJ s (aI s a)) x s.Name (iA s.Book c)).2==0) with
    |true=>simp only[ae,AB.sz,aw];omega
    |false=>simp only[aa,AB.sz,aw,ax,aq,bc];omega
def bLr (w:AA)(d j:Int)(o:AO):(jH w d j o).1.sz<=w.sz+3:=by
 unfold jH;cases ht:bX w d j with
 |false=>simp only[cy,ae];omega
 |true=>
  have a:=ht;simp only[bX,ac] at a;have hq:=a.2.2;simp only[iW,ac,cn] at hq;have hj:j.toNat<w.Sites.length:=by omega
  have es:kT w j=w.Sites[j.toNat]:=by unfold kT;simp[List.getD,ab hj]
  have c:(oN w j).1.sz<=(kT w j).sz+1:=bC8 _ _ _;have e:(F4 w d j o).1.sz<=(oN w j).1.sz+1:=bLq _ _ _ _ _;have f:(bE4 w d j o).sz<=w.sz+2:=by have q1:=rE (w:=w) a.2.1 (x:={aR w d with Store:=(aKa w d j o).1}) (K:=0) (ak _);have q2:=aW5 (w:=w) hj (x:=(F4 w d j o).1) (K:=2) (by show _<=(kT w j).sz+2;omega);unfold bE4;simp only[AA.sz] at q1 q2 ⊢;omega
  simp only[aj,aa];cases !(oN w j).2.2.2 with
  |true=>simp only[ae];omega
  |false=>
   simp only[aa];cases !((F4 w d j o).2.1==0) with
   |true=>simp only[ae];omega
   |false=>have:=Ye (bE4 w d j o) 1;simp only[aa];omega
def bUt {Q:AA->Prop}{w:AA}(h0:Q w)(h1:Q (Mo w).1)(h2:∀d j o,Q (jH w d j o).1)(l:∀d,Q (kH w d).1)(p:∀d,Q (fP w d).1)(q:∀d o,Q (fF w d o).1)
  (s:∀d n a f,Q (pR w d n a f).1) (u:∀d,Q (eP w d).1) (c:∀d v,Q (aH w d v).1) (h:∀v,Q (zC w v).1) (i:Q (fH w).1) (k:∀o v,Q (gI w o v).1) (e:AS):Q (yZ w e).1:=by
 have tr:∀(b:Bool) (d j:Int) (o:AO),Q (bif b then pX w d j o else(w,1)).1:=λb d j o=>by
  cases b with
  |true=>exact h2 d j o
  |false=>exact h0
 unfold yZ aWv;cases !aK w with
 |true=>exact h0
 |false=>
 cases e.Kind==1 with
 |true=>exact h1
 |false=>
 cases e.Kind==2 with
 |true=>exact tr _ _ _ _
 |false=>
 cases e.Kind==3 with
 |true=>exact tr _ _ _ _
 |false=>
 cases e.Kind==4 with
 |true=>exact l _
 |false=>
 cases e.Kind==5 with
 |true=>exact tr _ _ _ _
 |false=>
 cases e.Kind==6 with
 |true=>exact p _
 |false=>
 cases e.Kind==7 with
 |true=>exact q _ _
 |false=>
 cases e.Kind==8 with
 |true=>exact s _ _ _ _
 |false=>
 cases e.Kind==9 with
 |true=>exact u _
 |false=>
 cases e.Kind==10 with
 |true=>exact c _ _
 |false=>
 cases e.Kind==11 with
 |true=>exact h _
 |false=>
 cases e.Kind==12 with
 |true=>exact i
 |false=>
 cases e.Kind==13 with
 |true=>exact k _ _
 |false=>exact h0
def bUu (w:AA)(e:AS):(yZ w e).1.sz<=w.sz+(2502+w.Hosts.length)/\(yZ w e).1.Hosts.length<=w.Hosts.length:=by have eq:∀v:AA,v.sz<=w.sz+2500->v.Hosts=w.Hosts->v.sz<=w.sz+(2502+w.Hosts.length)/\v.Hosts.length<=w.Hosts.length:=λv h1 h2=>⟨by omega,by rw[h2];exact ak _⟩;refine bUt (Q:=λv=>v.sz<=w.sz+(2502+w.Hosts.length)/\v.Hosts.length<=w.Hosts.length) (eq _ (by omega) rfl) (eq _ (bm (bXk w) (by omega)) (bLn w)) (λd j o=>eq _ (bm (bLr w d j o) (by omega)) (bIw ..)) (λd=>eq _ (by rw[bI1];omega) (bIy ..)) (λd=>eq _ (bUr w d) (bQz ..)) (λd o=>eq _ (bUs w d o) (bQ0 ..)) (λd n a f=>eq _ (bm (bIt w d n a f) (by omega)) (bLm ..)) (λd=>eq _ (bm (bQ5 w d) (by omega)) (aW6 ..)) (λd v=>eq _ (bm (bDd w d v) (by omega)) (Hf ..)) (λv=>⟨?_,Nat.le_of_eq (bIz w v)⟩) ⟨bm (aZq w) (by omega),bI0 w⟩ (λo v=>⟨bm (bUm w o v) (by omega),Nat.le_of_eq (bLo w o v)⟩) e;have h1:=bXd w (Cb w) v;have h2:=aGx w;show(iP w (Cb w) v).1.sz<=_;omega
def bN6 (w:AA)(l:List AS):∀k,(runN w l k).sz<=w.sz+k*(2502+w.Hosts.length)/\(runN w l k).Hosts.length<=w.Hosts.length
 |0=>⟨by show w.sz<=_;omega,ak _⟩
 |k+1=>by
  obtain⟨h1,h2⟩:=bN6 w l k;obtain⟨k1,k2⟩:=bUu (runN w l k) (l.getD k default);rw[Nat.succ_mul];exact⟨by show(yZ (runN w l k) (l.getD k default)).1.sz<=_;omega,bm k2 h2⟩
def bUv {w:AA}(h:w.sz<=1048576)(l:List AS){k:Nat}(hk:k<=60):(runN w l k).sz<=65000000:=by
 have h1:=(bN6 w l k).1;have h2:k*(2502+w.Hosts.length)<=60*(2502+w.Hosts.length):=dw _ hk;have a:w.Hosts.length<=w.sz:=by simp only[AA.sz];omega
 omega
def cBg {w:AA}(h:w.sz<=1048576)(l:List AS):Tf w l:=
 ⟨by omega,λk hk=>bm (bUv h l (by omega)) (by decide)⟩
def cBh {w:AA}(h:aK w=false)(e:AS):yZ w e=(w,false):=by unfold yZ aWv;rw[h];rfl
end Go.VK
