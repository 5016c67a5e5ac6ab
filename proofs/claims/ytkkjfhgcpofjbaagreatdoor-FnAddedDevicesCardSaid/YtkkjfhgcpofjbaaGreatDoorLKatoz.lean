import Derived.Test.YtkkjfhgcpofjbaaGreatDoorXyFF
/- Printed by wip/tools: models, walks, proofs. -/
set_option linter.all false
set_option maxRecDepth 100000
namespace Go.VK
open D
def mX {h:Int}(v:Int)(h0:0<=h/\h<2147483647):∃q,hstep h v=h*1000003+v+13-2147483647*q/\(0<=hstep h v/\hstep h v<2147483647):=by
 obtain⟨h0,h1⟩:=h0;have hm:=Ac (p:=v) (q:=2147483647) (by decide);have hv:jO v 2147483647=v%2147483647:=cW (by decide);have e:hstep h v=(h*1000003+v+13)%2147483647:=by
  grind[aL,jO,Int.tmod_eq_emod_of_nonneg,hstep]
 grind
def bJy (k a b:Int):∃q,bS k [a,b]=k*1000009000027000028+a*1000006000009+b*1000003+11000145000724001630001411-2147483647*q:=by simp only[bS,Jg,cT,gh,eo,cP,bv,dp,ij];obtain⟨q0,e0,f⟩:=mX k (h:=11) (by grind);generalize hstep 11 k=c at*;obtain⟨q1,o,j⟩:=mX a (h:=c) f;generalize hstep c a=d at*;obtain⟨q2,p,l⟩:=mX b (h:=d) j;generalize hstep d b=e at*;obtain⟨q3,s,u⟩:=mX k (h:=e) l;generalize hstep e k=x at*;exact⟨q0*1000009000027000027+q1*1000006000009+q2*1000003+q3*1,by omega⟩
def bJz (k a b c:Int):∃q,bS k [a,b,c]=k*1000012000054000108000082+a*1000009000027000027+b*1000006000009+c*1000003+11000178001159003802006301004246-2147483647*q:=by simp only[bS,Jg,cT,gh,eo,cP,bv,dp,ij];obtain⟨q0,e0,l⟩:=mX k (h:=11) (by grind);generalize hstep 11 k=d at*;obtain⟨q1,u,o⟩:=mX a (h:=d) l;generalize hstep d a=e at*;obtain⟨q2,x,p⟩:=mX b (h:=e) o;generalize hstep e b=f at*;obtain⟨q3,y,s⟩:=mX c (h:=f) p;generalize hstep f c=j at*;obtain⟨q4,z,A⟩:=mX k (h:=j) s;generalize hstep j k=D at*;exact⟨q0*1000012000054000108000081+q1*1000009000027000027+q2*1000006000009+q3*1000003+q4*1,by omega⟩
def bJ0 (k a b c d:Int):∃q,bS k [a,b,c,d]=k*1000015000090000270000405000244+a*1000012000054000108000081+b*1000009000027000027+c*1000006000009+d*1000003+11000211001693007279017707023149012751-2147483647*q:=by simp only[bS,Jg,cT,gh,eo,cP,bv,dp,ij];obtain⟨q0,e0,p⟩:=mX k (h:=11) (by grind);generalize hstep 11 k=e at*;obtain⟨q1,z,s⟩:=mX a (h:=e) p;generalize hstep e a=f at*;obtain⟨q2,A,u⟩:=mX b (h:=f) s;generalize hstep f b=j at*;obtain⟨q3,D,x⟩:=mX c (h:=j) u;generalize hstep j c=l at*;obtain⟨q4,F,y⟩:=mX d (h:=l) x;generalize hstep l d=o at*;obtain⟨q5,G,H⟩:=mX k (h:=o) y;generalize hstep o k=I at*;exact⟨q0*1000015000090000270000405000243+q1*1000012000054000108000081+q2*1000009000027000027+q3*1000006000009+q4*1000003+q5*1,by omega⟩
def x8 (n:Int):∃e,jV n=n+e/\0<=e/\e<=1:=by
 unfold jV;by_cases h:n=0
 ·simp[*]
 ·rw[co.2 h];exact⟨0,by simp,by decide,by decide⟩
def bJ1 (s i:Int):(aM s i).Seed=jV (bS s [151,277,i]):=by rfl
def bJ2 (s:AI):iH s=jV (bS s.Seed [151,181]):=by rfl
def bDi (s:AI)(n:ByteArray)(i:Int):dH s n i=jV (bS s.Seed [151,179,bH n,i]):=by rfl
def aYk (s i k:Int):∃e q,(aM s i).Seed-(aM s k).Seed=(i-k)*1000003+e+2147483647*q/\-1<=e/\e<=1:=by have hi:(aM s i).Seed=jV (bS s [151,277,i]):=bJ1 s i;have hk:(aM s k).Seed=jV (bS s [151,277,k]):=bJ1 s k;obtain⟨a,c,j,l⟩:=x8 (bS s [151,277,i]);obtain⟨d,b1,o,p⟩:=x8 (bS s [151,277,k]);obtain⟨q1,f⟩:=bJz s 151 277 i;obtain⟨q2,h⟩:=bJz s 151 277 k;rw[hi,hk,c,b1,f,h];exact⟨a-d,q2-q1,by omega,by omega,by omega⟩
def dfs:List Int:=[-5,-4,-3,-2,-1,0,1,2,3,4,5]
def bFv:List Int:=[-1,0,1]
theorem bDj {d:Int}(h1: -5<=d)(h2:d<=5):d∈dfs:=by simp only[dfs,bf,dy,or_false];omega
def aCv {d:Int}(h1: -1<=d)(h2:d<=1):d∈bFv:=by grind[bFv]
def bNe:(dfs.all λd=>d==0||bFv.all λe=>bFv.all λz=> !((d*1000003+e)*1000009000027000028-z)%2147483647==0)=true:=by kernel_rfl
def bFw {s i k:Int}(hi:0<=i/\i<6)(hk:0<=k/\k<6)(h:i≠k):iH (aM s i)≠iH (aM s k):=by
 intro he;obtain⟨e,q,d1,d2,d3⟩:=aYk s i k;have h1:iH (aM s i)=jV (bS (aM s i).Seed [151,181]):=bJ2 _;have h2:iH (aM s k)=jV (bS (aM s k).Seed [151,181]):=bJ2 _;obtain⟨a,d,l,o⟩:=x8 (bS (aM s i).Seed [151,181]);obtain⟨c,b1,p,u⟩:=x8 (bS (aM s k).Seed [151,181]);obtain⟨q1,f⟩:=bJy (aM s i).Seed 151 181;obtain⟨q2,j⟩:=bJy (aM s k).Seed 151 181;rw[h1,h2,d,b1,f,j] at he;have x:(((i-k)*1000003+e)*1000009000027000028-(c-a))%2147483647=0:=by omega
 have:=ct.1 bNe (i-k) (bDj (by omega) (by omega));rw[co.2 (show i-k≠0 by omega),cX] at this;have:=ct.1 (ct.1 this e (aCv d2 d3)) (c-a) (aCv (by omega) (by omega));simp_all
def hs0:Int:=1941999745
def hs1:Int:=1464438180
def bTh:bH (aA 0)=1941999745:=by kernel_rfl
def bTi:bH (aA 1)=1464438180:=by kernel_rfl
def bJ3:(dfs.all λd=>[0,477561565,-477561565].all λ(g:Int)=>(d==0&&g==0)||bFv.all λe=>bFv.all λz=> !((d*1000003+e)*1000015000090000270000405000244+g*1000006000009+d*1000003-z)%2147483647==0)=true:=by kernel_rfl
def aYl {s i k j l:Int}(hi:0<=i/\i<6)(hk:0<=k/\k<6)(hj:j=0\/j=1)(hl:l=0\/l=1)(h:i≠k\/j≠l):dH (aM s i) (aA j) i≠dH (aM s k) (aA l) k:=by
 intro he;obtain⟨e,q,d1,d2,d3⟩:=aYk s i k;have h1:dH (aM s i) (aA j) i=jV (bS (aM s i).Seed [151,179,bH (aA j),i]):=bDi _ _ _;have h2:dH (aM s k) (aA l) k=jV (bS (aM s k).Seed [151,179,bH (aA l),k]):=bDi _ _ _;obtain⟨c,f,u,x⟩:=x8 (bS (aM s i).Seed [151,179,bH (aA j),i]);obtain⟨d,b1,y,z⟩:=x8 (bS (aM s k).Seed [151,179,bH (aA l),k]);obtain⟨q1,o⟩:=bJ0 (aM s i).Seed 151 179 (bH (aA j)) i;obtain⟨q2,p⟩:=bJ0 (aM s k).Seed 151 179 (bH (aA l)) k;rw[h1,h2,f,b1,o,p] at he;obtain⟨g,hg,a⟩:∃g,bH (aA j)-bH (aA l)=g/\(g∈[0,477561565,(-477561565:Int)]/\(j≠l->g≠0)):=by
  rcases hj with rfl|rfl<;>rcases hl with rfl|rfl<;>simp only[bTh,bTi]
  all_goals simp
 have A:(((i-k)*1000003+e)*1000015000090000270000405000244+g*1000006000009+(i-k)*1000003-(d-c))%2147483647=0:=by omega
 have:=ct.1 (ct.1 bJ3 (i-k) (by grind[bDj])) g a.1;rw[show(i-k==0&&g==0)=false by
  rcases h with h|h
  ·rw[co.2 (show i-k≠0 by omega)];rfl
  ·rw[co.2 (a.2 h),dh],cX] at this
 have:=ct.1 (ct.1 this e (aCv d2 d3)) (d-c) (aCv (by omega) (by omega));simp_all
def bFx {n:Int}(h:0<=n/\n<2147483647):bN (jV n)=true:=by
 grind[beq_eq_false_iff_ne,decide_eq_true,jV,bN,bU]
def gM (s:Int)(l:List Int):bN (aV s l)=true:=bFx (mU _ _)
theorem aNh {k:Int}(h:bN k=true):1<=k/\k<=2147483646:=iA h
theorem bO4 {k:Int}(h:bN k=true):fP k=k*48271%2147483647:=by have:=aNh h;unfold fP;rw[h,ay,ae,aL (by omega) (by omega),cz (by omega)]
theorem aVf {k:Int}(h:bN k=true):bN (fP k)=true:=by
 grind[decide_eq_true,bN,bU,bO4,aNh]
theorem Ur {k:Int}(h:bN k=true):iM (fP k)=k:=by
 have:=aNh h
 grind[aVf,Bool.not_true,bO4,iM]
def bDk {a b:Int}(c:bN a=true)(hb:bN b=true)(h:fP a=fP b):a=b:=by rw[<-Ur c,h,Ur hb]
def bA6 {s i k j l:Int}(hi:0<=i/\i<6)(hk:0<=k/\k<6)(hj:j=0\/j=1)(hl:l=0\/l=1)(h:i≠k\/j≠l):cK (aM s i) (aA j) i≠cK (aM s k) (aA l) k:=
 λhe=>aYl hi hk hj hl h (bDk (gM _ _) (gM _ _) he)
def bFy {s i k:Int}(hi:0<=i/\i<6)(hk:0<=k/\k<6)(h:i≠k):aS (aM s i)≠aS (aM s k):=
 λhe=>bFw hi hk h (bDk (gM _ _) (gM _ _) he)
theorem Ut {α:Type}{p:Nat->α->Bool}:∀{l:List α} {i:Nat},(∀k (h:k<l.length),p (i+k) l[k]=false)->iG p i l=false
 |[],i,_=>rfl
 |x::l,i,h=>by
  have h0:=h 0 (by simp);have a:=Ut (p:=p) (l:=l) (i:=i+1) (λk hk=>by
   have:=h (k+1) (by simpa using hk);rw[show i+1+k=i+(k+1) by omega];simpa using this)
  simp only[iG,dT,gE] at h0 ⊢;rw[h0,a];rfl
theorem Om {α:Type}{p:Nat->α->Bool}:∀{l:List α} {i:Nat},iG p i l=false->∀k (h:k<l.length),p (i+k) l[k]=false
 |x::l,i,h,0,_=>by simp only[iG,bj] at h;simpa using h.1
 |x::l,i,h,k+1,hk=>by
  simp only[iG,bj] at h;have:=Om h.2 k (by simpa using hk);rw[show i+(k+1)=i+1+k by omega];simpa using this
def Uu (seed j:Int)(k:Nat):Int:=cK (aM seed (k:Int)) (aA j) (k:Int)
def Oo (seed j:Int)(l:List AV):Prop:=∀k (h:k<l.length),l[k].Handle=(k:Int)/\l[k].Public=Uu seed j k/\0<=l[k].Counter/\l[k].Counter<=1000000
theorem iE {x a b:Int}(h1:a<=x)(h2:x<=b):bU x a b=true:=by grind[decide_eq_true,bU]
theorem bNf {seed j l:Int}{i k:Nat}(hi:i<6)(hk:k<6)(hj:j=0\/j=1)(hl:l=0\/l=1)(h:i≠k\/j≠l):Uu seed j i≠Uu seed l k:=
 bA6 (by omega) (by omega) hj hl (by omega)
def bFz (seed j:Int)(k:Nat):iM (Uu seed j k)=dH (aM seed (k:Int)) (aA j) (k:Int):=by simp[Ur,dH,gM,Uu,cK]
theorem aNi {seed j m:Int}{l:List AV}(hj:j=0\/j=1)(h:Oo seed j l)(hl:l.length<=6)(hm:1<=m/\m<=3):bA ⟨1,m,l⟩=true:=by
 have f:iG (wB ⟨1,m,l⟩) 0 l=false:=Ut λk hk=>by
  obtain⟨h1,h2,c,d⟩:=h k hk;have hp:=aNh (gM (aM seed (k:Int)).Seed [179,bH (aA j),(k:Int)]);unfold wB;rw[cx,h1,iE (by omega) (by omega),h2,bFz,co.2 (show dH (aM seed (k:Int)) (aA j) (k:Int)≠0 by unfold dH;omega),iE c d];have o:(decide (0<k)&&decide ((l.getD (k-1) default).Handle>=(k:Int)))=false:=by
   by_cases e:0<k
   ·have a:k-1<l.length:=by omega
    have:=(h (k-1) a).1;rw[List.getD,ab a,cM,this,av (show ¬((k-1:Nat):Int)>=(k:Int) by omega),dh]
   simp[*]
  have p:((l.take k).any λq=>q.Public==Uu seed j k)=false:=by
   rw[List.any_eq_false];intro q hq;obtain⟨i,hi,rfl⟩:=cR.1 hq;rw[cq] at hi;rw[List.getElem_take,(h i (by omega)).2.1]
   grind[bNf]
  simp_all
 grind[iE,decide_eq_true,bU,decide,iG,wB,bA]
structure SiteIn (seed j:Int) (n:Nat) (s:AD):Prop where
 name:s.Name=aA j
 book:fQ s.Book=true
 key:bN s.Book.Seed=true
 acc:∃l,s.Accounts=[⟨1,3,l⟩]/\Oo seed j l/\l.length=n
theorem x9 {j:Int}(hj:j=0\/j=1):(iD (aA j)&&decide (2<=(bP (aA j)).length))=true:=by rcases hj with rfl|rfl<;>kernel_rfl
def SiteIn.ok {seed j:Int}{n:Nat}{s:AD}(hj:j=0\/j=1)(hn:n<=6)(h:SiteIn seed j n s):bI s=true:=by
 obtain⟨h1,h2,a,l,c,d,e⟩:=h;unfold bI kM;rw[h1,x9 hj,a,h2,c];show(true&&true&&decide (1<=8)&&true&& !(Ir [⟨1,3,l⟩] 0 ⟨1,3,l⟩||false))=true
 grind[aNi,Ir]
def SiteIn.find {seed j:Int}{n:Nat}{s:AD}(h:SiteIn seed j n s):aJ s 1=0:=by obtain⟨_,_,_,l,a,_⟩:=h;unfold aJ;rw[a];rfl
theorem aTh {α:Type}{p:α->Bool}:∀{l:List α},(∀c∈l,p c=true)->l.takeWhile p=l
 |[],_=>rfl
 |x::l,h=>by rw[dc,h x (by simp),cW rfl,aTh (λc hc=>h c (by simp[hc]))]
def aYm {l:List AV}{p:Int}(h:∀k (h:k<l.length),l[k].Handle=(k:Int)):D7 l (l.length:Int) p=l++[⟨(l.length:Int),p,0,false⟩]:=by
 have:D6 (l.length:Int) l=l.length:=by
  grind[decide_eq_true,List.mem_iff_getElem,aTh,D6]
 unfold D7;rw[this,fa,dz,eo]
def Oo.snoc {seed j:Int}{l:List AV}(h:Oo seed j l):Oo seed j (l++[⟨(l.length:Int),Uu seed j l.length,0,false⟩]):=by
 intro k hk;by_cases a:k<l.length
 ·rw[fw a];exact h k a
 grind
def SiteIn.reg {seed j:Int}{n:Nat}{s:AD}(hj:j=0\/j=1)(hn:n<6)(h:SiteIn seed j n s):
  (dI s 1 (n:Int) (Uu seed j n)).2=true/\SiteIn seed j (n+1) (dI s 1 (n:Int) (Uu seed j n)).1:=by
 have c:=h.ok hj (by omega);have d:=h.find;obtain⟨h1,h2,f,l,o,e,q⟩:=h;subst q;have u:(s.Accounts.getD (aJ s 1).toNat default)=⟨1,3,l⟩:=by simp[*]
 have hi:=aYm (p:=Uu seed j l.length) (λk hk=>(e k hk).1);have hs:=e.snoc;have x:=aNi (m:=3) hj e (by omega) (by grind);have y:=aNi (m:=3) hj hs (by simp;omega) (by grind);have a:fE ⟨1,3,l⟩ (l.length:Int) (Uu seed j l.length)=(⟨1,3,l++[⟨(l.length:Int),Uu seed j l.length,0,false⟩]⟩,true):=by
  grind[bA,D7,Uu,fE]
 unfold dI;rw[c,d,show decide ((0:Int)<0)=false from rfl,<-d,u,a,d,o];exact⟨rfl,h1,h2,f,_,rfl,hs,by simp⟩
def bA7 {seed j:Int}(hj:j=0\/j=1):SiteIn seed j 0 (mF (gJ (aA j) (aV seed [281,j])) 1 3).1:=by
 have hk:=gM seed [281,j];generalize aV seed [281,j]=q at*;have hn:gJ (aA j) q=⟨aA j,[],⟨q,0,[]⟩,[]⟩:=by
  grind[x9,gJ,kM]
 have hb:fQ ⟨q,0,[]⟩=true:=rfl;have a:SiteIn seed j 0 (qP ⟨aA j,[],⟨q,0,[]⟩,[]⟩ 1 3):=
  ⟨rfl,hb,hk,[],rfl,λk hk=>by simp at hk,rfl⟩
 have h0:bI ⟨aA j,[],⟨q,0,[]⟩,[]⟩=true:=by unfold bI kM;rw[x9 hj,hk];rfl
 unfold mF;rw[hn,h0,a.ok hj (by omega)];exact a
def aNj {seed j:Int}(hj:j=0\/j=1):∀(m i:Nat) (s:AD),SiteIn seed j i s->i+m<=6->
  SiteIn seed j (i+m) (pR (aA j) i ((List.range' i m).map λ(k:Nat)=>aY (aM seed (k:Int))) s)
 |0,i,s,h,_=>h
 |m+1,i,s,h,hm=>by
  have:=aNj hj m (i+1) _ (h.reg hj (by omega)).2 (by omega);rw[show i+1+m=i+(m+1) by omega] at this;exact this
theorem aYn {seed j:Int}(hj:j=0\/j=1){n:Nat}(hn:n<=6):SiteIn seed j n (wM seed (dR seed n) j):=by have:=aNj hj n 0 _ (bA7 (seed:=seed) hj) (by omega);rw[cx,<-List.range_eq_range'] at this;exact this
theorem aYo {α:Type}{r:α->α->Prop}(ht:∀a b c,r a b->r b c->r a c):∀{l:List α},(∀k (h:k+1<l.length),r l[k] l[k+1])->l.Pairwise r
 |[],_=> .nil
 |[x],_=>fS r x
 |x::y::l,h=>by
  have e:=aYo (r:=r) ht (l:=y::l) (λk hk=>by have:=h (k+1) (by simpa using hk);simpa using this);refine cg.2 ⟨λz d=> ?_,e⟩;have h0:r x y:=by simpa using h 0 (by simp)
  rcases bf.1 d with rfl|d
  ·exact h0
  ·exact ht _ _ _ h0 ((cg.1 e).1 z d)
structure BookIn (b:AR):Prop where
 next:0<=b.Next/\b.Next<=1000000
 len:b.Open.length<=16
 ord:b.Open.Pairwise (λa c=>a.Id<c.Id)
 all:∀c∈b.Open,(0<=c.Id/\c.Id<b.Next)/\(0<=c.aAH/\c.aAH<=1000005)/\(0<=c.Until/\c.Until<=1000005)
def BookIn.ok {b:AR}(h:BookIn b):fQ b=true:=by
 obtain⟨h1,h2,a,c⟩:=h;have d:iG (iC b) 0 b.Open=false:=(by grind[Ut,List.getElem_mem,iC,aL,iE,decide,default,List.pairwise_iff_getElem,List.getD,List.getElem?_eq_getElem,decide_eq_false])
 grind[iE,decide_eq_true,fQ]
def Oq {b:AR}(h:fQ b=true):BookIn b:=by
 unfold fQ at h;simp only[aa,cu,bo] at h;obtain⟨⟨h1,h2⟩,f⟩:=h;have h1:=iA h1;have hg:∀k (hk:k<b.Open.length),((0<=b.Open[k].Id/\b.Open[k].Id<b.Next)/\(0<=b.Open[k].aAH/\b.Open[k].aAH<=1000005)/\(0<=b.Open[k].Until/\b.Open[k].Until<=1000005))/\(0<k->(b.Open.getD (k-1) default).Id<b.Open[k].Id):=λk hk=>by
  have:=Om f k hk;unfold iC at this;rw[cx,aL (by omega) (by omega)] at this;simp only[bj,cF,Bool.and_eq_false_iff,cC] at this;obtain⟨a,j,d,e⟩:=this;have a:=iA a;have d:=iA d;have e:=iA e;omega
 refine⟨⟨h1.1,h1.2⟩,h2,(by grind[aYo,Int.lt_trans]),λc hc=> ?_⟩
 all_goals grind[List.mem_iff_getElem,Nat.add_sub_cancel,List.getD,List.getElem?_eq_getElem]
def aCw {b:AR}(h:BookIn b)(a n:Int):BookIn (eU b a n).1/\(eU b a n).1.Seed=b.Seed/\b.Next<=(eU b a n).1.Next/\(eU b a n).1.Next<=b.Next+1:=by
 unfold eU;rw[h.ok];by_cases hn:b.Next=1000000
 ·simp[*]
 ·rw[co.2 hn];cases hr:bU a 0 1000000&&bU n 0 1000000 with
  |false=>grind
  |true=>
   rw[aa] at hr;have f:=iA hr.1;have j:=iA hr.2;obtain⟨h1,h2,o,p⟩:=h;have d:IntKind.i64.wrap (b.Next+1)=b.Next+1:=(by grind[aL]);have e:IntKind.i64.wrap (n+5)=n+5:=(by grind[aL]);have key:∀l:List AZ,l.length<=15->l.Pairwise (λa c=>a.Id<c.Id)->(∀c∈l,c∈b.Open)->BookIn ⟨b.Seed,IntKind.i64.wrap (b.Next+1),l++[aCs b a n]⟩:=λl hl ho hm=>by
    rw[d];refine⟨(by grind),by simp;omega,?_,λc hc=> ?_⟩
    all_goals grind[q1,q2,q3,List.mem_singleton,aCs]
   grind
def bNg {b:AR}(h:BookIn b)(c a n:Int):BookIn (nM b c a n).1/\(nM b c a n).1.Seed=b.Seed:=by
 unfold nM;rw[h.ok];cases decide (eG b c<0) with
 |true=>simp[*]
 |false=>
  obtain⟨h1,h2,e,f⟩:=h;have d:(b.Open.take (eG b c).toNat++b.Open.drop ((eG b c).toNat+1)).Sublist b.Open:=by
   grind[List.drop_sublist,List.drop_drop,List.Sublist.append,List.take_append_drop,eG]
  exact⟨⟨h1,bz d.length_le h2,e.sublist d,λc hc=>f c (d.subset hc)⟩,rfl⟩
def SiteIn.aBP {seed j:Int}{n:Nat}{s:AD}(h:SiteIn seed j n s){b:AR}(hb:BookIn b)(hs:b.Seed=s.Book.Seed):SiteIn seed j n {s with Book:=b}:=
 ⟨h.name,hb.ok,by show bN b.Seed=true;rw[hs];exact h.key,h.acc⟩
def SiteIn.begin {seed j:Int}{n:Nat}{s:AD}(h:SiteIn seed j n s)(i t:Int):SiteIn seed j n (jY s i t).1:=by
 unfold jY;cases bI s&&(!decide (aJ s i<0)&&(eU s.Book i t).2.2) with
 |false=>exact h
 |true=>have:=aCw (Oq h.book) i t;exact h.aBP this.1 this.2.1
def Oo.set {seed j:Int}{l:List AV}(h:Oo seed j l){k:Nat}(hk:k<l.length){c:AV}(h1:c.Handle=l[k].Handle)(h2:c.Public=l[k].Public)(a:0<=c.Counter/\c.Counter<=1000000):Oo seed j (l.set k c):=by
 intro i hi;rw[eL];rw[aq] at hi;split
 ·rename_i e;subst e;have:=h k hk;omega
 ·exact h i hi
theorem wO {α:Type}{p:α->Bool}:∀{l:List α} {i:Nat},decide (kV p i l<0)=false->∃k,∃h:k<l.length,kV p i l=((i+k:Nat):Int)/\p l[k]=true
 |[],i,h=>by simp[kV] at h
 |x::l,i,h=>by
  unfold kV at h ⊢;cases hp:p x with
  |true=>exact⟨0,by simp,by simp,by simpa using hp⟩
  |false=>rw[hp,ae] at h;obtain⟨k,hk,a,c⟩:=wO h;exact⟨k+1,by simpa using hk,by rw[ae,a];congr 1;omega,by simpa using c⟩
def Oo.use {seed j:Int}{l:List AV}(h:Oo seed j l)(x:AX)(z:ByteArray)(c:Int)(hx:0<=x.Counter/\x.Counter<=1000000):
  ∃l',(jE ⟨1,3,l⟩ x z c).1=⟨1,3,l'⟩/\Oo seed j l'/\l'.length=l.length/\∀k (h1:k<l.length) (h2:k<l'.length),l[k].Cut=true->l'[k].Cut=true:=by
 unfold jE;cases hb: !bA ⟨1,3,l⟩||(decide (aU ⟨1,3,l⟩ x.Handle<0)||(gB ⟨1,3,l⟩ (aU ⟨1,3,l⟩ x.Handle)).Cut) with
 |true=>simp[*]
 |false=>
  simp only[bj] at hb;obtain⟨k,hk,d,A⟩:=wO (l:=l) hb.2.1;have f:aU ⟨1,3,l⟩ x.Handle=(k:Int):=d.trans (by simp);have o:gB ⟨1,3,l⟩ (k:Int)=l[k]:=by grind[List.getD,List.getElem?_eq_getElem,gB]
  rw[f,o,ae,bm];have a:∀c:AV,c.Handle=l[k].Handle->c.Public=l[k].Public->0<=c.Counter/\c.Counter<=1000000->(l[k].Cut=true->c.Cut=true)->
    ∃l',(AH.mk 1 3 (l.set k c))=⟨1,3,l'⟩/\Oo seed j l'/\l'.length=l.length/\∀i (h1:i<l.length) (h2:i<l'.length),l[i].Cut=true->l'[i].Cut=true:=λc p s u y=>
   ⟨_,rfl,h.set hk p s u,aq,λi h1 h2 e=>by
    rw[eL];split
    ·rename_i q;subst q;exact y e
    ·exact e⟩
  cases jD l[k].Public x z c l[k].Counter==0 with
  |true=>simp_all
  |false=>
   cases jD l[k].Public x z c l[k].Counter==4 with
   |true=>exact a _ rfl rfl (h k hk).2.2 (λ_=>rfl)
   |false=>simp[*]
def SiteIn.aBV {seed j:Int}{n:Nat}{s:AD}(h:SiteIn seed j n s){l:List AV}(hl:Oo seed j l)(hn:l.length=n)(g:List Int)(b:AR)(hb:BookIn b)(hs:b.Seed=s.Book.Seed):SiteIn seed j n {s with Book:=b,Accounts:=[⟨1,3,l⟩],Logins:=g}:=
 ⟨h.name,hb.ok,by show bN b.Seed=true;rw[hs];exact h.key,l,rfl,hl,hn⟩
def SiteIn.finish {seed j:Int}{n:Nat}{s:AD}(h:SiteIn seed j n s)(c t:Int)(x:AX)(hx:0<=x.Counter/\x.Counter<=1000000):SiteIn seed j n (lS s 1 c t x).1:=by
 have a:=h.find;have hk:=bNg (Oq h.book) c 1 t;unfold lS;rw[a];cases !bI s||decide ((0:Int)<0) with
 |true=>exact h
 |false=>
  simp only[ae];cases !(nM s.Book c 1 t).2 with
  |true=>exact h.aBP hk.1 hk.2
  |false=>
   simp only[ae];cases !oC (fI s 0) 3 with
   |true=>exact h.aBP hk.1 hk.2
   |false=>
    obtain⟨l,e,hl,hn⟩:=h.acc;have d:fI s 0=⟨1,3,l⟩:=by grind[fI]
    obtain⟨l',q1,q2,q3,_⟩:=hl.use x s.Name (eF s.Book c) hx;simp only[ae,d,q1];rw[show s.Accounts.set (0:Int).toNat ⟨1,3,l'⟩=[⟨1,3,l'⟩] by rw[e];rfl];cases !((jE ⟨1,3,l⟩ x s.Name (eF s.Book c)).2==0) with
    |true=>exact h.aBV q2 (q3.trans hn) s.Logins _ hk.1 hk.2
    |false=>exact h.aBV q2 (q3.trans hn) (s.Logins++[1]) _ hk.1 hk.2
def bJ4 (s:AI)(z:ByteArray)(i:Int)(m:List Int):(iZ s z i m).1.Seed=s.Seed/\(iZ s z i m).1.Vendor=s.Vendor/\(iZ s z i m).1.Serial=s.Serial/\((iZ s z i m).2.2=true->(iZ s z i m).1.Counter=s.Counter+1/\0<=s.Counter/\s.Counter<1000000)/\((iZ s z i m).2.2=false->(iZ s z i m).1=s):=by
 unfold iZ;cases hb:jR s&& !(s.Counter==1000000) with
 |false=>simp
 |true=>
  simp only[aa,bo,co] at hb;have hs:=hb.1;unfold jR at hs;simp only[aa] at hs;have hc:=iA hs.2.2.2;refine⟨rfl,rfl,rfl,⟨λ_=> ?_,λh=>by cases h⟩⟩
  have:IntKind.i64.wrap (s.Counter+1)=s.Counter+1:=(by grind[aL]);exact⟨this,by omega,by have:=hb.2;omega⟩
def aYp (s:AI)(o:AS)(z:ByteArray)(i c:Int)(p:Bool):(iJ s o z i c p).1.Seed=s.Seed/\(iJ s o z i c p).1.Vendor=s.Vendor/\(iJ s o z i c p).1.Serial=s.Serial/\(0<=s.Counter/\s.Counter<=1000000->(0<=(iJ s o z i c p).1.Counter/\(iJ s o z i c p).1.Counter<=1000000)/\(0<=(iJ s o z i c p).2.1.Counter/\(iJ s o z i c p).2.1.Counter<=1000000)):=by
 obtain⟨h1,h2,a,d,e⟩:=bJ4 s z i (dG (Iy s o z i c p));unfold iJ;cases hb:jZ o z&&(iZ s z i (dG (Iy s o z i c p))).2.2 with
 |false=>exact⟨rfl,rfl,rfl,λh=>⟨h,cI 0,show(0:Int)<=1000000 by decide⟩⟩
 |true=>
  grind
structure StIn (seed:Int) (k:Nat) (s:AI):Prop where
 ven:s.Vendor=1
 ser:s.Serial=(k:Int)
 key:s.Seed=(aM seed (k:Int)).Seed
 cnt:0<=s.Counter/\s.Counter<=1000000
structure WIn (m:Nat) (w:AA):Prop where
 seed:bN w.Seed=true
 now:0<=w.Now/\w.Now<=999900
 dlen:1<=w.Devices.length/\w.Devices.length<=6
 slen:w.Stolen.length=w.Devices.length
 dev:∀k (h:k<w.Devices.length),StIn w.Seed k w.Devices[k].Store
 two:w.Sites.length=2
 mle:m<=6
 site:∀j (h:j<w.Sites.length),SiteIn w.Seed (j:Int) m w.Sites[j]
 mail:eY w.Mail=true
 log:aW w.aAA.Log=true
def WIn.ok {m:Nat}{w:AA}(h:WIn m w):aR w=true:=by
 have hs:iG lW 0 w.Sites=false:=Ut λk hk=>by
  have h2:=h.two;have:=h.site k hk;unfold lW;rw[this.ok (by omega) h.mle,this.name,cx];simp
 unfold aR;have h2:=h.two;have a:=h.slen;have c:=h.dlen;rw[hs,h.log,h.mail,h.seed,iE h.now.1 h.now.2,iE (by omega) (by omega),a,h2];simp
def WIn.upd {m:Nat}{w v:AA}(h:WIn m w)(h1:v.Seed=w.Seed)(h2:v.Now=w.Now)(a:v.Devices.length=w.Devices.length)(c:v.Stolen.length=w.Stolen.length)
  (l:∀k (h:k<v.Devices.length),StIn w.Seed k v.Devices[k].Store) (d:v.Sites.length=2) (o:∀j (h:j<v.Sites.length),SiteIn w.Seed (j:Int) m v.Sites[j]) (e:eY v.Mail=true) (f:aW v.aAA.Log=true):WIn m v where
 seed:=by rw[h1];exact h.seed
 now:=by rw[h2];exact h.now
 dlen:=by rw[a];exact h.dlen
 slen:=by rw[a,c];exact h.slen
 dev:=by simp[*]
 two:=d
 mle:=h.mle
 site:=by simp[*]
 mail:=e
 log:=f
def WIn.aBN {m:Nat}{w:AA}(h:WIn m w){i:Nat}{x:AC}(hi:i<w.Devices.length)(hx:StIn w.Seed i x.Store):∀k (h:k<(w.Devices.set i x).length),StIn w.Seed k (w.Devices.set i x)[k].Store:=λk hk=>by
 rw[eL];rw[aq] at hk;split
 ·simp_all
 ·exact h.dev k hk
def WIn.aDB {m:Nat}{w:AA}(h:WIn m w){i:Nat}{x:AD}(hi:i<2)(hx:SiteIn w.Seed (i:Int) m x):∀k (h:k<(w.Sites.set i x).length),SiteIn w.Seed (k:Int) m (w.Sites.set i x)[k]:=λk hk=>by
 rw[eL];rw[aq] at hk;split
 ·simp_all
 ·exact h.site k hk
def xJ {w:AA}{d:Int}(h:aO w d=true):0<=d/\d.toNat<w.Devices.length/\aF w d=w.Devices.getD d.toNat default:=by simp only[aO,aa,cu] at h;exact⟨h.1,by omega,rfl⟩
theorem kC {w:AA}{d:Int}(h:aO w d=true):∃h:d.toNat<w.Devices.length,aF w d=w.Devices[d.toNat]:=by simp_all[List.getD,ab,xJ]
def WIn.aBX {m:Nat}{w:AA}(h:WIn m w){d:Int}(hd:aO w d=true):StIn w.Seed d.toNat (aF w d).Store:=by obtain⟨h1,h2⟩:=kC hd;rw[h2];exact h.dev _ h1
def bF0 {m:AP}(h:eY m=true)(k a t:Int):eY (pY m k a t).1=true:=by
 grind[eY,Eu,Bool.or_eq_false_iff,Bool.not_eq_false',pY]
def WIn.tell {m:Nat}{w:AA}(h:WIn m w)(k:Int):WIn m (nY w k):=
 h.upd rfl rfl rfl rfl h.dev h.two h.site (bF0 h.mail _ _ _) h.log
def StIn.make {seed:Int}{k:Nat}{s:AI}(h:StIn seed k s)(o:AS)(z:ByteArray)(i c:Int)(p:Bool):StIn seed k (iJ s o z i c p).1:=by obtain⟨h1,h2,a,d⟩:=aYp s o z i c p;exact⟨h2.trans h.ven,a.trans h.ser,h1.trans h.key,(d h.cnt).1⟩
def WIn.visit {m:Nat}{w:AA}(h:WIn m w)(d j:Int)(o:AS):WIn m (fT w d j o).1:=by
 unfold fT;cases ht:dS w d j with
 |false=>exact h
 |true=>
  have a:=ht;simp only[dS,aa] at a;have h2:=h.two;have hq:=a.2.2;simp only[nI,aa,cu] at hq;have hj:j.toNat<w.Sites.length:=by omega
  have es:bT w j=w.Sites[j.toNat]:=by grind[List.getD,List.getElem?_eq_getElem,bT]
  have hs:=h.site _ hj;rw[<-es,show((j.toNat:Nat):Int)=j by omega] at hs;have c:=h.aBX a.2.1;have hm:=aYp (aF w d).Store o (aA j) d (gZ w j).2.2.1 true;have hb:SiteIn w.Seed j m (gZ w j).1:=hs.begin 1 w.Now;have f:SiteIn w.Seed j m (Au w d j o).1:=hb.finish _ _ _ (hm.2.2.2 c.cnt).2;have l:WIn m (aQh w d j o):=by obtain⟨p,e,_⟩:=xJ a.2.1;refine h.upd rfl rfl (aq ..) rfl (h.aBN e (c.make o (aA j) d (gZ w j).2.2.1 true)) (by show(w.Sites.set _ _).length=2;rw[aq,h2]) (h.aDB (by omega) (by grind)) h.mail h.log
  simp only[ay,ae];cases !(gZ w j).2.2.2 with
  |true=>exact h
  |false=>
   cases !((Au w d j o).2.1==0) with
   |true=>exact l
   |false=>exact l.tell 1
def WIn.sync {m:Nat}{w:AA}(h:WIn m w)(d b:Int):WIn m (aH w d b).1:=by
 unfold aH;cases hb:aR w&&aO w d with
 |false=>exact h
 |true=>rw[aa] at hb;obtain⟨e,a,_⟩:=xJ hb.2;refine h.upd rfl rfl (aq ..) rfl (h.aBN a ?_) h.two h.site h.mail h.log;have c:=h.aBX hb.2;unfold bR;cases jL (aF w d) w.aAA.Log w.aAA.Boxes (eZ w.aAA b).1==0<;>exact c
def WIn.aCQ {m:Nat}{w:AA}(h:WIn m w)(d:Int)(n:ByteArray)(a:Int)(r:Bool):WIn m (lX w d n a r).1:=by
 unfold lX;cases hb:aR w&&aO w d with
 |false=>exact h
 |true=>
  rw[aa] at hb;obtain⟨f,c,_⟩:=xJ hb.2;have e:=h.aBX hb.2;simp only[ac];cases(bO (aF w d) n a r).2 with
  |false=>exact h
  |true=>refine h.upd rfl rfl (aq ..) rfl (h.aBN c ?_) h.two h.site h.mail h.log;unfold bO;cases(wC (aF w d) n a r).2<;>exact e
theorem aIs (d:AC):(dO d).1.Store=d.Store:=by unfold dO;cases(kN d.Key d.Epoch (IntKind.i64.wrap (d.Version+1)) d.aAC).2<;>rfl
def WIn.up {m:Nat}{w:AA}(h:WIn m w){d:Int}(hd:aO w d=true):WIn m (Nl w d).1:=by
 unfold Nl;cases(dO (aF w d)).2.2&&(bQ w.aAA (dO (aF w d)).2.1).2 with
 |false=>exact h
 |true=>obtain⟨c,a,_⟩:=xJ hd;refine h.upd rfl rfl (aq ..) rfl (h.aBN a (by rw[aIs];exact h.aBX hd)) h.two h.site h.mail ?_;show aW (bQ w.aAA (dO (aF w d)).2.1).1.Log=true;rw[(qV _ _).2];exact h.log
def WIn.push {m:Nat}{w:AA}(h:WIn m w)(d:Int):WIn m (fD w d).1:=by
 unfold fD;cases hb:(aH w d 0).2==0&&(Nl (aH w d 0).1 d).2 with
 |false=>exact h
 |true=>
  rw[aa] at hb;have h0:=lN hb.1;exact(h.sync d 0).up (by
   grind[aO])
theorem fK (w:AA)(d b:Int):(aH w d b).1.Seed=w.Seed/\(aH w d b).1.Now=w.Now/\(aH w d b).1.Devices.length=w.Devices.length/\(aH w d b).1.Sites=w.Sites/\(aH w d b).1.Stolen=w.Stolen/\(aH w d b).1.aAA=w.aAA:=by
 grind[aR,aO,List.length_set,aH]
theorem aVg (w:AA)(d:Int):(Nl w d).1.Seed=w.Seed/\(Nl w d).1.Now=w.Now/\(Nl w d).1.Devices.length=w.Devices.length/\(Nl w d).1.Sites=w.Sites/\(Nl w d).1.Stolen=w.Stolen/\(Nl w d).1.aAA.Log=w.aAA.Log:=by
 grind[dO,aF,bQ,List.length_set,qV,Nl]
def rO (w:AA)(d:Int):(fD w d).1.Seed=w.Seed/\(fD w d).1.Now=w.Now/\(fD w d).1.Devices.length=w.Devices.length/\(fD w d).1.Sites=w.Sites/\(fD w d).1.Stolen=w.Stolen/\(fD w d).1.aAA.Log=w.aAA.Log:=by
 grind[aH,Nl,fK,aVg,fD]
def Az (w:AA)(b k p:Int)(key:List AF->Int):(gY w b k p key).1.Seed=w.Seed/\(gY w b k p key).1.Now=w.Now/\(gY w b k p key).1.Devices=w.Devices/\(gY w b k p key).1.Sites=w.Sites/\(gY w b k p key).1.Stolen=w.Stolen/\(gY w b k p key).1.Mail=w.Mail/\(aW w.aAA.Log=true->aW (gY w b k p key).1.aAA.Log=true):=by
 unfold gY
 grind[jN,aW,dJ,gT,bE,bW,aF]
def WIn.aCU {m:Nat}{w:AA}(h:WIn m w)(b k p:Int)(key:List AF->Int):WIn m (gY w b k p key).1:=by obtain⟨d,e,a,c,f,j,l⟩:=Az w b k p key;exact h.upd d e (by rw[a]) (by rw[f]) (by rw[a];exact h.dev) (by rw[c];exact h.two) (by rw[c];exact h.site) (by rw[j];exact h.mail) (l h.log)
def aTi {seed:Int}{m:Nat}(hm:m<6):∀(l:List AD) (j:Nat),j+l.length<=2->(∀i (h:i<l.length),SiteIn seed ((j+i:Nat):Int) m l[i])->
  (eH (aM seed (m:Int)) (m:Int) j l).2=true/\(eH (aM seed (m:Int)) (m:Int) j l).1.length=l.length/\∀i (h:i<(eH (aM seed (m:Int)) (m:Int) j l).1.length),SiteIn seed ((j+i:Nat):Int) (m+1) (eH (aM seed (m:Int)) (m:Int) j l).1[i]
 |[],j,_,_=>⟨rfl,rfl,λi h=>by simp[eH] at h⟩
 |s::l,j,hj,h=>by
  have h0:SiteIn seed (j:Int) m s:=h 0 (by simp);simp only[aw] at hj;obtain⟨a,c⟩:=h0.reg (by omega) hm;obtain⟨d,f,o⟩:=aTi hm l (j+1) (by omega) (λi hi=>by
   have:=h (i+1) (by simpa using hi);rw[show j+1+i=j+(i+1) by omega];simpa using this)
  have e:cK (aM seed (m:Int)) (aA (j:Int)) (m:Int)=Uu seed (j:Int) m:=by unfold Uu;rfl
  have p:eH (aM seed (m:Int)) (m:Int) j (s::l)=((dI s 1 (m:Int) (Uu seed (j:Int) m)).1::(eH (aM seed (m:Int)) (m:Int) (j+1) l).1,true):=by rw[eH,e,a,d];rfl
  rw[p];refine⟨rfl,by simp[f],λi hi=> ?_⟩;cases i with
  |zero=>simpa using c
  |succ i=>simp only[aw] at hi;have:=o i (by omega);rw[show j+1+i=j+(i+1) by omega] at this;simpa using this
def Ot (d:AC)(n:ByteArray)(h:Int)(r:Bool):(bO d n h r).1.Store=d.Store:=by unfold bO;cases(wC d n h r).2<;>rfl
def aNk (d:AC)(h:Int)(r:Bool):(jX d h r).Store=d.Store:=by unfold jX;rw[Ot,Ot]
theorem V5 {w v:AA}{d:Int}(h:aO w d=true)(e:v.Devices.length=w.Devices.length):aO v d=true:=by
 grind[aO]
def WIn.app {m:Nat}{w:AA}(h:WIn m w)(hl:w.Devices.length<6):WIn m (appW w (aY (aM w.Seed (w.Devices.length:Int)))) where
 seed:=h.seed
 now:=h.now
 dlen:=by grind[List.length_append,List.length_cons,List.length_nil,appW]
 slen:=by unfold appW;simp only[ax,aw,bu,h.slen]
 dev:=λk hk=>by
  have a:k<(w.Devices++[aY (aM w.Seed (w.Devices.length:Int))]).length:=hk;show StIn w.Seed k ((w.Devices++[aY (aM w.Seed (w.Devices.length:Int))])[k]'a).Store;rw[List.getElem_append];split
  ·rename_i c;exact h.dev k c
  ·simp only[ax,aw,bu] at a;have e:k=w.Devices.length:=by omega
   subst e;simp only[gA,gE];exact⟨rfl,rfl,rfl,cI 0,show(0:Int)<=1000000 by decide⟩
 two:=h.two
 mle:=h.mle
 site:=h.site
 mail:=h.mail
 log:=h.log
def WIn.aCN {w:AA}(h:WIn w.Devices.length w){b:Int}(hn:w.Devices.length<6)(k2:aO w b=true):WIn (w.Devices.length+1) (aAS w b)/\(aAS w b).Seed=w.Seed/\(aAS w b).Devices.length=w.Devices.length:=by
 obtain⟨s1,s2,s3,s4,s5,s6⟩:=fK w b 0;have h0:=h.sync b 0;have h1:WIn w.Devices.length (add1 w b).1:=h0.aCU _ _ _ _;obtain⟨d,o,e,p,q,s,u⟩:=Az (aH w b 0).1 b 1 (aS (aM w.Seed (w.Devices.length:Int))) (λ_=>(aF (aH w b 0).1 b).Key);have a:(add1 w b).1.Seed=w.Seed:=d.trans s1;have c:(add1 w b).1.Devices.length=w.Devices.length:=by show(gY _ _ _ _ _).1.Devices.length=_;rw[e,s3]
 obtain⟨x,f,l⟩:=aTi (seed:=w.Seed) hn (add1 w b).1.Sites 0 (by rw[h1.two];omega) (λi hi=>by
  have:=h1.site i hi;simp_all)
 have hd:aO (add1 w b).1 b=true:=V5 k2 c;obtain⟨d0,d1,_⟩:=xJ hd;refine⟨{
  seed:=by show bN (add1 w b).1.Seed=true;exact h1.seed
  now:=h1.now
  dlen:=by show 1<=((add1 w b).1.Devices.set _ _).length/\((add1 w b).1.Devices.set _ _).length<=6;rw[aq];exact h1.dlen
  slen:=by show(add1 w b).1.Stolen.length=((add1 w b).1.Devices.set _ _).length;rw[aq];exact h1.slen
  dev:=h1.aBN d1 (by rw[aNk];exact h1.aBX hd)
  two:=by show(Rf w b).1.length=2;exact f.trans h1.two
  mle:=by omega
  site:=λj hj=>by
   have:=l j hj;rw[cx] at this;show SiteIn (add1 w b).1.Seed (j:Int) _ _;rw[a];exact this
  mail:=h1.mail
  log:=h1.log},a,?_⟩
 show((add1 w b).1.Devices.set _ _).length=_;rw[aq,c]
theorem WIn.add {w:AA}(h:WIn w.Devices.length w)(b:Int):WIn (bY w b).1.Devices.length (bY w b).1/\(bY w b).1.Seed=w.Seed:=by
 unfold bY;cases a:qN w b with
 |false=>simp[*]
 |true=>
  unfold qN at a;simp only[aa,bo,cC] at a;obtain⟨⟨k1,k2,k3,k4⟩,k5,k6,k7,k8,k9⟩:=a;have hn:w.Devices.length<6:=by omega
  obtain⟨h2,f,j⟩:=h.aCN hn k2;have l:WIn (w.Devices.length+1) (lI w b).1:=h2.push b;obtain⟨c,s,d,u,x,y⟩:=rO (aAS w b) b;have c:(lI w b).1.Seed=w.Seed:=c.trans f;have d:(lI w b).1.Devices.length=w.Devices.length:=d.trans j;have e:=l.app (by omega);rw[c,d] at e;have o:WIn (w.Devices.length+1) (sG w b).1:=e.sync _ _;obtain⟨q1,q2,q3,q4,q5,q6⟩:=fK (appW (lI w b).1 (aY (aM w.Seed (w.Devices.length:Int)))) (w.Devices.length:Int) 0;have p:(nY (sG w b).1 2).Devices.length=w.Devices.length+1:=by
   show(sG w b).1.Devices.length=_;refine q3.trans ?_
   grind[List.length_append,List.length_cons,List.length_nil,appW]
  have q:=o.tell 2;simp only[ac];rw[p];exact⟨q,q1.trans c⟩
def aNl {k:Int}(h:bN k=true)(l:List Int):iI (fP k) l (qL k l)=true:=by
 have:=aNh h
 grind[Ur,bne,beq_eq_false_iff_ne,iI]
def bJ5 {l:List AF}{e:AF}(h:l=[]\/aW l=true)(hs:kZ l e=true)(hl:l.length<40):aW (l++[e])=true:=by
 grind[iE,Bool.not_eq_true',aW,iG,kZ,Ut,List.getElem_append_left,Om]
theorem Uv (l:List AF)(e:AF):aC (l++[e])=iY (aC l) e:=by simp[gt,aC]
theorem Ba (l:List AF)(e:AF):aB (l++[e])=bif e.Kind==2 then IntKind.i64.wrap (aB l+1) else aB l:=by simp[gt,aB]
theorem Ou (l:List AF)(e:AF)(p:Int):gD (l++[e]) p=(gD l p||(e.Kind==2&&e.Device==p)):=by simp[jo,gD]
def lL (seed:Int)(k:Nat):Int:=aS (aM seed (k:Int))
theorem aLb {seed:Int}{i k:Nat}(hi:i<6)(hk:k<6)(h:i≠k):lL seed i≠lL seed k:=bFy (by omega) (by omega) (by omega)
def Ov (s:AI):bN (iH s)=true:=by simp[gM,iH]
theorem lC {l:List Int}{x:Int}:jJ l x=true↔x∈l:=by
 grind[List.any_eq_true,jJ]
structure NewLog (seed:Int) (n:Nat) (l:List AF):Prop where
 len:l.length=n
 devs:aC l=(List.range n).map (lL seed)
 rem:∀p,gD l p=false
 ep:aB l=0
 ok:n=0\/aW l=true
def rP (seed:Int):∀n,n<=6->NewLog seed n (aX seed n)
 |0,_=>⟨rfl,rfl,λ_=>rfl,rfl, .inl rfl⟩
 |n+1,hn=>by
  obtain⟨h1,h2,h,j,c⟩:=rP seed n (by omega);have a:jJ (aC (aX seed n)) (lL seed n)=false:=by rw[je,Ne,lC,h2];intro hm;obtain⟨i,hi,e⟩:=cr.1 hm;have hi:=gn.1 hi;exact aLb (by omega) (by omega) (by omega) e
  have d:kZ (aX seed n) (vM (aX seed n) 1 (lL seed n) (aM seed 0))=true:=by
   unfold kZ;have v:iI (aS (aM seed 0)) [dZ (aX8 (aX seed n) 1 (lL seed n) (aM seed 0))] (mD (aM seed 0) [dZ (aX8 (aX seed n) 1 (lL seed n) (aM seed 0))])=true:=by unfold mD aS;exact aNl (Ov _) _
   show(((aX seed n).length:Int)==((aX seed n).length:Int)&&(jQ (aX seed n)==jQ (aX seed n)&&((jJ (aC (aX seed n)) (aS (aM seed 0))||(((aX seed n).length:Int)==0&&aS (aM seed 0)==lL seed n))&&(iI (aS (aM seed 0)) [dZ (aX8 (aX seed n) 1 (lL seed n) (aM seed 0))] (mD (aM seed 0) [dZ (aX8 (aX seed n) 1 (lL seed n) (aM seed 0))])&&
    (!gD (aX seed n) (lL seed n)&&(true&&(!jJ (aC (aX seed n)) (lL seed n)&&decide (((aC (aX seed n)).length:Int)<6))))))))=true
   rw[v,h,a,h2,h1];have f:(jJ ((List.range n).map (lL seed)) (aS (aM seed 0))||((n:Int)==0&&aS (aM seed 0)==lL seed n))=true:=by
    cases n with
    |zero=>simp[lL]
    |succ n=>rw[show jJ ((List.range (n+1)).map (lL seed)) (aS (aM seed 0))=true from lC.2 (cr.2 ⟨0,by simp,rfl⟩)];rfl
   rw[f];simp;omega
  have hl:=bJ5 (l:=aX seed n) (by
   rcases c with c|c
   ·subst c;exact .inl rfl
   ·exact .inr c) d (by omega)
  have e:aX seed (n+1)=aX seed n++[vM (aX seed n) 1 (lL seed n) (aM seed 0)]:=by
   show(bW (aX seed n) 1 (aS (aM seed (n:Int))) (aM seed 0)).1=_;unfold bW;have hq:(decide (((aX seed n).length:Int)>0)&& !aW (aX seed n))=false:=by
    rcases c with c|c
    ·subst c;rfl
    ·rw[c];simp
   rw[hq,show aS (aM seed (n:Int))=lL seed n from rfl,hl];rfl
  rw[e];refine⟨by simp[h1],?_,λp=> ?_,?_, .inr hl⟩
  ·rw[Uv,gR,ez,<-h2];unfold iY;have hc:(aC (aX seed n)).contains (lL seed n)=false:=by rw[je] at a ⊢;intro hc;exact a (lC.2 (by simpa using hc))
   show(bif (1:Int)==1 then(bif (aC (aX seed n)).contains (lL seed n) then _ else _) else _)=_;rw[hc];rfl
  ·rw[Ou,h];rfl
  ·rw[Ba,j];rfl
theorem aTj {e:Int}{d:List Int}(hd:d.length<=200):∀(l:List Int) (i:Nat),(∀p∈l,bN p=true)->1<=e+(i:Int)->e+(i:Int)+(l.length:Int)<=2147483646->
  (gF e d i l).2=true/\(gF e d i l).1.length=l.length/\(gF e d i l).1.map (·.To)=l/\∀k (h:k<(gF e d i l).1.length) (h2:k<l.length),(gF e d i l).1[k]=nK l[k] (e+((i+k:Nat):Int)) d
 |[],i,_,_,_=>⟨rfl,rfl,rfl,λk h _=>by simp[gF] at h⟩
 |p::l,i,hp,h1,h2=>by
  simp only[aw] at h2;obtain⟨j,o,s,u⟩:=aTj (e:=e) hd l (i+1) (λq hq=>hp q (by simp[hq])) (by push_cast;omega) (by push_cast at h2 ⊢;omega);have hk:=hp p (by simp);have hq:=aNh hk;have x:IntKind.i64.wrap (e+(i:Int))=e+(i:Int):=aL (by omega) (by push_cast at h2;omega);have a:iM p≠0:=by unfold iM;rw[hk,ay,ae];omega
  have hb:gL p (IntKind.i64.wrap (e+(i:Int))) d=(nK p (e+(i:Int)) d,true):=by unfold gL;rw[x,co.2 a,show bN (e+(i:Int))=true from iE (by omega) (by push_cast at h2;omega),av (show ¬(d.length:Int)>200 by omega)];rfl
  have y:gF e d i (p::l)=(nK p (e+(i:Int)) d::(gF e d (i+1) l).1,true):=by rw[gF,hb,j];rfl
  rw[y];refine⟨rfl,by simp[o],?_,λk c f=> ?_⟩
  ·simp only[bw,s];rfl
  ·cases k with
   |zero=>rfl
   |succ k=>simp only[aw] at c f;have:=u k (by omega) (by omega);simp only[fc];rw[this];congr 1;push_cast;omega
def bJ6 {l:List AQ}{p:Int}:∀(n:Int),0<=n->n+(l.length:Int)<=1000000->l.foldl (λn b=>bif b.To==p then IntKind.i64.wrap (n+1) else n) n=n+((l.filter λb=>b.To==p).length:Int):=by induction l<;>grind[List.length_cons,aL]
def bF1 {l:List AQ}(h:(l.map (·.To)).Nodup){p:Int}(hp:p∈l.map (·.To)):(l.filter λb=>b.To==p).length=1:=by induction l<;>grind[List.nodup_cons,List.filter_eq_nil_iff,absurd,beq_eq_false_iff_ne]
def bF2 {log:List AF}{bx:AK}(h1:bx.Epoch=aB log)(h2:bx.Boxes.map (·.To)=aC log)(a:(aC log).Nodup)(c:(aC log).length<=1000):gT bx log=true:=by
 have hl:bx.Boxes.length=(aC log).length:=by rw[<-h2,bl]
 unfold gT;rw[h1,hl,dk,dk,dl,db,ct];intro p hp;unfold pQ;rw[bJ6 0 (by omega) (by omega),bF1 (by rw[h2];exact a) (by rw[h2];exact hp)];rfl
theorem bDl (a b:Int):(iR [a,b]).length<=12:=by
 grind[List.flatten_cons,List.flatten_nil,List.length_append,iR,aM3]
def aF6 {log:List AF}{key eph:Int}(h1:aW log=true)(h2:bN key=true)(a:∀p∈aC log,bN p=true)(c:(aC log).length<=1000)(d:1<=eph/\eph<=1000000):
  (bE log key eph).2=true/\(bE log key eph).1.Epoch=aB log/\(bE log key eph).1.Boxes.map (·.To)=aC log/\∀k (h:k<(bE log key eph).1.Boxes.length) (h2:k<(aC log).length),(bE log key eph).1.Boxes[k]=nK (aC log)[k] (eph+(k:Int)) (iR [aB log,key]):=by
 grind[s4,s3,bE,aB,gF,iR,aC,s1,s2,aTj,bDl]
theorem aCx (seed:Int)(k:Nat):bN (lL seed k)=true:=by simp[aVf,Ov,lL,aS]
def aYq {seed:Int}{n:Nat}(hn:n<=6):((List.range n).map (lL seed)).Nodup:=by
 rw[jr,jc];refine(List.pairwise_lt_range).imp_of_mem ?_
 grind[aLb]
theorem V6 {seed:Int}{n:Nat}(h0:1<=n)(hn:n<=6):gT (gU seed n) (aX seed n)=true/\aW (aX seed n)=true/\(gU seed n).Epoch=0:=by
 obtain⟨h1,h2,f,c,d⟩:=rP seed n hn;have hl:aW (aX seed n)=true:=d.resolve_left (by omega);have hlen:(aC (aX seed n)).length<=1000:=by grind
 obtain⟨h,a,e,j⟩:=aF6 (key:=bK seed 0) (eph:=1000) hl (by unfold bK;exact gM _ _) (λp hp=>by
  rw[h2] at hp;obtain⟨i,_,rfl⟩:=cr.1 hp;exact aCx _ _) hlen ⟨by decide,by decide⟩
 refine⟨bF2 a e (by rw[h2];exact aYq hn) hlen,hl,?_⟩;unfold gU;rw[a,c]
def aYr {seed:Int}{n:Nat}(h0:1<=n)(hn:n<=6):(iK seed n).Log=aX seed n:=by
 grind[dP,qV,iK,V6]
theorem aIt (d:AC)(l:List AF)(k:Int):(mE d l k).1.Store=d.Store:=by unfold mE;cases !aW l||(!dJ l d.Log||(decide (aB l<d.Epoch)|| !bN k))<;>rfl
theorem aQj (d:AC)(l:List AF)(b:AK)(s:AJ):(bR d l b s).1.Store=d.Store:=by unfold bR;cases jL d l b s==0<;>rfl
theorem aNm (nm:ByteArray):∀(i:Nat) (d:AC),(Ol nm i d).Store=d.Store
 |0,d=>rfl
 |i+1,d=>by
  show(bO (Ol nm i d) nm (i:Int) false).1.Store=_;rw[Ot,aNm nm i d]
def bF3 {seed:Int}{n:Nat}(h0:1<=n):(kE seed n).length=n/\∀k (h:k<(kE seed n).length),(kE seed n)[k].Store=aM seed (k:Int):=by
 have hl:(kE seed n).length=n:=by
  grind[List.length_cons,List.length_map,List.length_drop,List.length_range,kE,dR]
 grind[nwW,aIs,lU,zL,aNm,aIt,dR,Aw,kE,aQj,aY]
def Uw {n k t pin seed:Int}(h:zM n k t pin seed=true):WIn n.toNat (bG n k t pin seed)/\(bG n k t pin seed).Devices.length=n.toNat/\(bG n k t pin seed).Seed=seed:=by
 have hb:=h;unfold zM at hb;simp only[aa] at hb;obtain⟨b1,e,f,l,c⟩:=hb;have r:=iA b1;unfold bG;rw[h,ac];obtain⟨d1,d2⟩:=bF3 (seed:=seed) (n:=n.toNat) (by omega);have a:=aYr (seed:=seed) (n:=n.toNat) (by omega) (by omega);have d:=(V6 (seed:=seed) (n:=n.toNat) (by omega) (by omega)).2.1;refine⟨{seed:=c,now:=⟨cI 0,show(0:Int)<=999900 by decide⟩,dlen:= ?_,slen:= ?_,dev:= ?_,two:=rfl,mle:=by omega,site:= ?_,mail:=rfl,log:= ?_},d1,rfl⟩
 ·grind
 ·show(List.replicate n.toNat false).length=(kE seed n.toNat).length;rw[fj,d1]
 ·intro j hj;show StIn seed j ((kE seed n.toNat)[j]'hj).Store;rw[d2 j hj];exact⟨rfl,rfl,rfl,cI 0,show(0:Int)<=1000000 by decide⟩
 all_goals grind[aW,iK,wN,dR,aYn]
theorem SiteIn.cut {seed j:Int}{n:Nat}{s:AD}(h:SiteIn seed j n s)(t:Int):SiteIn seed j n (gG t s):=by
 have a:=h.find;obtain⟨l,e,hl,hn⟩:=h.acc;have c:fI s 0=⟨1,3,l⟩:=by grind[fI]
 unfold gG;rw[a,show decide ((0:Int)>=0)=true from rfl,ac,c,show(0:Int).toNat=0 from rfl,e];have key:∃l',(nL ⟨1,3,l⟩ t).1=⟨1,3,l'⟩/\Oo seed j l'/\l'.length=l.length:=by
  unfold nL;cases hb: !bA ⟨1,3,l⟩||(decide (aU ⟨1,3,l⟩ t<0)||(gB ⟨1,3,l⟩ (aU ⟨1,3,l⟩ t)).Cut) with
  |true=>simp[*]
  |false=>
   simp only[bj] at hb;obtain⟨k,hk,d,p⟩:=wO (l:=l) hb.2.1;have f:aU ⟨1,3,l⟩ t=(k:Int):=d.trans (by simp);have o:gB ⟨1,3,l⟩ (k:Int)=l[k]:=by grind[List.getD,List.getElem?_eq_getElem,gB]
   rw[f,o,ae,bm];exact⟨_,rfl,hl.set hk rfl rfl (hl k hk).2.2,aq⟩
 obtain⟨l',q1,q2,q3⟩:=key;rw[q1];have:=h.aBV q2 (q3.trans hn) s.Logins s.Book (Oq h.book) rfl;exact this
def bRs {α β:Type}{P:Nat->β->Prop}{f:α->β}{l:List α}(h:∀j (hj:j<l.length),P j (f l[j])):∀j (hj:j<(l.map f).length),P j (l.map f)[j]:=(by simp[*])
theorem WIn.cut {m:Nat}{w:AA}(h:WIn m w)(b t:Int):WIn m (eO w b t).1/\(eO w b t).1.Seed=w.Seed/\(eO w b t).1.Devices.length=w.Devices.length:=by
 unfold eO;cases hq:(aH w b 0).2==0&&(!dV w b&&(!(b==t)&&bZ w t)) with
 |false=>simp[*]
 |true=>
  simp only[aa] at hq;have h0:=(lN hq.1).1;simp only[ac];unfold lQ;cases(lK w b t).2&&((Jw w b t).2&&(Iw w b t).2) with
  |false=>simp[*]
  |true=>
   obtain⟨s1,s2,s3,s4,s5,s6⟩:=fK w b 0;have e:WIn m (kP w b):=h.sync b 0;have h1:WIn m (lK w b t).1:=e.aCU _ _ _ _;obtain⟨f,q,l,u,x,y,z⟩:=Az (kP w b) b 2 (aS (aF w t).Store) (nZ (aF (kP w b) b).Store);have d:(lK w b t).1.Devices=(kP w b).Devices:=l;have hd:aO (lK w b t).1 b=true:=V5 h0.2 (by rw[d];exact s3);obtain⟨d0,d1,_⟩:=xJ hd;have a:StIn (lK w b t).1.Seed b.toNat (jX (Jw w b t).1 t true).Store:=by
    rw[aNk];unfold Jw;rw[aIt];have:=h1.aBX hd
    grind[aF,lK,kP]
   have o:WIn m (U7 w b t):=by refine h1.upd rfl rfl (aq ..) rfl (h1.aBN d1 a) (by show((lK w b t).1.Sites.map (gG t)).length=2;rw[bl];exact h1.two) (bRs (P:=λj s=>SiteIn (lK w b t).1.Seed ((j:Nat):Int) m s) λj hj=>(h1.site j hj).cut t) h1.mail h1.log
   have c:aO (U7 w b t) b=true:=V5 hd (aq ..);have p:WIn m (Iw w b t).1:=o.up c;obtain⟨u1,u2,u3,u4,u5,u6⟩:=aVg (U7 w b t) b;refine⟨p.tell 4,?_,?_⟩
   ·show(Iw w b t).1.Seed=w.Seed;exact u1.trans (f.trans s1)
   ·show(Iw w b t).1.Devices.length=w.Devices.length;refine u3.trans ?_;show((lK w b t).1.Devices.set _ _).length=_;rw[aq,d];exact s3
def WIn.aBS {m:Nat}{w:AA}(h:WIn m w)(d:Int):WIn m (jF w d).1/\(jF w d).1.Seed=w.Seed/\(jF w d).1.Devices.length=w.Devices.length:=by
 unfold jF;cases dS w d 0&& !dV w d with
 |false=>simp[*]
 |true=>exact⟨h.upd rfl rfl rfl (aq ..) h.dev h.two h.site h.mail h.log,rfl,rfl⟩
def V7 (w:AA)(d j:Int)(o:AS):(fT w d j o).1.Seed=w.Seed/\(fT w d j o).1.Devices.length=w.Devices.length:=by
 unfold fT;cases !dS w d j with
 |true=>simp
 |false=>
  cases !(gZ w j).2.2.2 with
  |true=>simp
  |false=>
   cases !((Au w d j o).2.1==0) with
   |true=>exact⟨rfl,aq ..⟩
   |false=>exact⟨rfl,aq ..⟩
def y7 (w:AA)(d:Int)(n:ByteArray)(a:Int)(r:Bool):(lX w d n a r).1.Seed=w.Seed/\(lX w d n a r).1.Devices.length=w.Devices.length:=by
 grind[aR,aO,bO,aF,List.length_set,lX]
def aCy {α:Type}[Inhabited α]{f:α->Nat}{K:Nat}{x:α}:∀{l:List α} {i:Nat},i<l.length->f x<=f (l.getD i default)+K->((l.set i x).map f).sum<=(l.map f).sum+K
 |y::l,0,_,h=>by
  simp only[List.getD,gz,cM] at h;simp only[List.set_cons_zero,bw,eJ];omega
 |y::l,i+1,hi,h=>by
  have:=aCy (f:=f) (l:=l) (i:=i) (x:=x) (K:=K) (by simpa using hi) (by simpa[List.getD] using h);simp only[iv,bw,eJ];omega
def Jz {w:AA}{d:Int}(hd:aO w d=true){x:AC}{K:Nat}(hx:x.sz<=(aF w d).sz+K):({w with Devices:=w.Devices.set d.toNat x}:AA).sz<=w.sz+K:=by
 obtain⟨h0,h1,h2⟩:=xJ hd;have:=aCy (f:=AC.sz) (K:=K) h1 (by assumption)
 grind[AA.sz,List.length_set]
def bA8 {w:AA}{j:Nat}(hj:j<w.Sites.length){x:AD}{K:Nat}(hx:x.sz<=(w.Sites.getD j default).sz+K):({w with Sites:=w.Sites.set j x}:AA).sz<=w.sz+K:=by
 have:=aCy (f:=AD.sz) (K:=K) hj hx
 grind[AA.sz,List.length_set]
def WIn.aCK {m:Nat}{w:AA}(h:WIn m w):w.aAA.Log.length<=40:=by have:=h.log;unfold aW at this;rw[aa] at this;have:=iA this.1;omega
def aYs {m:Nat}{w:AA}(h:WIn m w)(d b:Int):(aH w d b).1.sz<=w.sz+60:=by
 have hl:=h.aCK;unfold aH;cases hb:aR w&&aO w d with
 |false=>simp
 |true=>rw[aa] at hb;simp only[ac];have:=aM7 (aF w d) w.aAA.Log w.aAA.Boxes (eZ w.aAA b).1;exact Jz hb.2 (by omega)
def bJ7 (w:AA)(d:Int)(n:ByteArray)(a:Int)(r:Bool):(lX w d n a r).1.sz<=w.sz+1:=by
 unfold lX;cases hb:aR w&&aO w d with
 |false=>simp
 |true=>
  rw[aa] at hb;simp only[ac];cases(bO (aF w d) n a r).2 with
  |false=>simp
  |true=>simp_all[Jz,Jt]
def bJ8 {m:Nat}{w:AA}(h:WIn m w)(d:Int):(fD w d).1.sz<=w.sz+561:=by
 have hl:=h.aCK
 grind[fD,aK4,aH,Nl]
def add_add {w:AA}(h:WIn w.Devices.length w)(b:Int):(bY w b).1.sz<=w.sz+2500:=by
 have hl:=h.aCK;unfold bY;cases a:qN w b with
 |false=>simp
 |true=>
  unfold qN at a;simp only[aa,bo,cC] at a;obtain⟨⟨k1,k2,k3,k4⟩,k5,k6,k7,k8,k9⟩:=a;obtain⟨s1,s2,s3,s4,s5,s6⟩:=fK w b 0;have a0:=aYs h b 0;have h0:=h.sync b 0;have h1:WIn w.Devices.length (add1 w b).1:=h0.aCU _ _ _ _;obtain⟨c,z2,f,p⟩:=aCq (aH w b 0).1 b 1 (aS (aM w.Seed (w.Devices.length:Int))) (λ_=>(aF (aH w b 0).1 b).Key);rw[s6] at c z2;have c:(add1 w b).1.sz<=(aH w b 0).1.sz+14*(w.aAA.Log.length+1):=c;have z2:(add1 w b).1.aAA.Log.length<=w.aAA.Log.length+1:=z2;have hd:aO (add1 w b).1 b=true:=V5 k2 (by show(gY _ _ _ _ _).1.Devices.length=_;rw[f,s3]);obtain⟨s,u⟩:=aF2 (st:=aM w.Seed (w.Devices.length:Int)) (n:=(w.Devices.length:Int)) (j:=0) (l:=(add1 w b).1.Sites);have y:=h1.two;have o:(aAS w b).sz<=(add1 w b).1.sz+4:=by
   have q:=Jz (w:=(add1 w b).1) hd (x:=jX (aF (add1 w b).1 b) (w.Devices.length:Int) false) (K:=2) (aK5 _ _ _)
   grind[AA.sz,aAS,Rf]
  have e:=(aK4 (w:=aAS w b) (d:=b) k8).2;have e:(lI w b).1.sz<=(aAS w b).sz+(aAS w b).aAA.Log.length+521:=e;have pl:=(aK4 (w:=aAS w b) (d:=b) k8).1;have pl:(lI w b).1.aAA.Log=(aAS w b).aAA.Log:=pl;have z:(aAS w b).aAA.Log.length=(add1 w b).1.aAA.Log.length:=rfl;have ap:=aCr (lI w b).1 (aY (aM w.Seed (w.Devices.length:Int)));have nd:(aY (aM w.Seed (w.Devices.length:Int))).sz=0:=rfl;have A:=(lN (w:=appW (lI w b).1 (aY (aM w.Seed (w.Devices.length:Int)))) k9).2.2.2
  grind[aK6,sG,appW,lI,aY,aM]
def bNh {m:Nat}{w:AA}(h:WIn m w)(b t:Int):(eO w b t).1.sz<=w.sz+2500:=by
 have hl:=h.aCK;unfold eO;cases hq:(aH w b 0).2==0&&(!dV w b&&(!(b==t)&&bZ w t)) with
 |false=>simp
 |true=>
  simp only[aa] at hq;obtain⟨q1,q2,q3,q4⟩:=lN hq.1;simp only[ac];unfold lQ;cases(lK w b t).2&&((Jw w b t).2&&(Iw w b t).2) with
  |false=>simp
  |true=>
   obtain⟨c,z2,a,e⟩:=aCq (kP w b) b 2 (aS (aF w t).Store) (nZ (aF (kP w b) b).Store);have e0:(kP w b).aAA.Log=w.aAA.Log:=by show(aH w b 0).1.aAA.Log=_;rw[q2]
   rw[e0] at c z2;have c:(lK w b t).1.sz<=(kP w b).sz+14*(w.aAA.Log.length+1):=c;have a:(lK w b t).1.Devices=(kP w b).Devices:=a;have q4:(kP w b).sz<=w.sz+w.aAA.Log.length+20:=q4;have hd:aO (lK w b t).1 b=true:=V5 q1.2 (by rw[a];exact q3);have f:(aJg w b t).length<=w.aAA.Log.length+1:=by
    grind[oP,kP,aS,aF,aJg]
   have d:aF (lK w b t).1 b=aF (kP w b) b:=by unfold aF;rw[a]
   have hx:(jX (Jw w b t).1 t true).sz<=(aF (lK w b t).1 b).sz+(w.aAA.Log.length+3):=by
    grind[Jw,aF,kP,aJg,aM9,nZ,aK5]
   have j:(U7 w b t).sz<=(lK w b t).1.sz+(w.aAA.Log.length+3):=by
    have q:=Jz (w:=(lK w b t).1) hd hx
    grind[AA.sz,List.length_map,U7,aYf,lK]
   grind[aK6,Iw,U7,bOx,aO,V5,List.length_set]
structure Kept (w v:AA):Prop where
 wi:WIn v.Devices.length v
 seed:v.Seed=w.Seed
 sz:v.sz<=w.sz+3000
def Kept.of {w v:AA}(h:WIn w.Devices.length v/\v.Seed=w.Seed/\v.Devices.length=w.Devices.length)(a:v.sz<=w.sz+3000):Kept w v:=⟨by rw[h.2.2];exact h.1,h.2.1,a⟩
def bF4 (s:AD)(c t:Int)(x:AX)(h:aJ s 1=0)(h0:0<s.Accounts.length):(lS s 1 c t x).1.sz<=s.sz+1:=by
 have hb:(nM s.Book c 1 t).1.Open.length<=s.Book.Open.length:=by
  unfold nM;cases !fQ s.Book||decide (eG s.Book c<0) with
  |true=>exact ak _
  |false=>simp only[ae,ax,cq,cE];omega
 have d:∀a x z q,(jE a x z q).1.sz=a.sz:=λa x z q=>by
  unfold jE;cases !bA a||(decide (aU a x.Handle<0)||(gB a (aU a x.Handle)).Cut) with
  |true=>rfl
  |false=>simp only[ae,AH.sz];cases jD (gB a (aU a x.Handle)).Public x z q (gB a (aU a x.Handle)).Counter==0<;>cases jD (gB a (aU a x.Handle)).Public x z q (gB a (aU a x.Handle)).Counter==4<;>simp
 have hs:=aCy (f:=AH.sz) (K:=0) (l:=s.Accounts) (i:=0) (x:=(jE (fI s 0) x s.Name (eF s.Book c)).1) h0 (by rw[d];exact ak _);unfold lS;rw[h];cases !bI s||decide ((0:Int)<0) with
 |true=>exact eu _
 |false=>
  simp only[ae];cases !(nM s.Book c 1 t).2 with
  |true=>simp only[ac,AD.sz];omega
  |false=>
   simp only[ae];cases !oC (fI s 0) 3 with
   |true=>simp only[ac,AD.sz];omega
   |false=>
    simp only[ae];cases !((jE (fI s 0) x s.Name (eF s.Book c)).2==0) with
    |true=>simp only[ac,AD.sz,show(0:Int).toNat=0 from rfl,aq];omega
    |false=>simp only[ae,AD.sz,show(0:Int).toNat=0 from rfl,aq,ax,aw,bu];omega
def bF5 (s:AD)(i n:Int):(jY s i n).1.sz<=s.sz+1:=by
 unfold jY;cases bI s&&(!decide (aJ s i<0)&&(eU s.Book i n).2.2) with
 |false=>exact eu _
 |true=>
  have hb:(eU s.Book i n).1.Open.length<=s.Book.Open.length+1:=by
   unfold eU;cases fQ s.Book&&(!(s.Book.Next==1000000)&&(bU i 0 1000000&&bU n 0 1000000)) with
   |false=>simp only[ae];omega
   |true=>
    simp only[ac];cases decide ((s.Book.Open.length:Int)>=16) with
    |true=>simp only[ac,ax,cE,aw,bu];omega
    |false=>simp only[ae,ax,aw,bu];omega
  simp only[ac,AD.sz];omega
def bF6 {m:Nat}{w:AA}(h:WIn m w)(d j:Int)(o:AS):(fT w d j o).1.sz<=w.sz+3:=by
 unfold fT;cases ht:dS w d j with
 |false=>simp only[da,ac];omega
 |true=>
  have a:=ht;simp only[dS,aa] at a;have h2:=h.two;have hq:=a.2.2;simp only[nI,aa,cu] at hq;have hj:j.toNat<w.Sites.length:=by omega
  have es:bT w j=w.Sites[j.toNat]:=by unfold bT;simp[List.getD,ab hj]
  have hs:=h.site _ hj;rw[<-es,show((j.toNat:Nat):Int)=j by omega] at hs;have hb:SiteIn w.Seed j m (gZ w j).1:=hs.begin 1 w.Now;have e:(gZ w j).1.sz<=(bT w j).sz+1:=bF5 _ _ _;obtain⟨l,c,_⟩:=hb.acc;have z2:(Au w d j o).1.sz<=(gZ w j).1.sz+1:=bF4 _ _ _ _ hb.find (by rw[c];simp);have f:(aQh w d j o).sz<=w.sz+2:=by have q1:=Jz (w:=w) a.2.1 (x:={aF w d with Store:=(Rh w d j o).1}) (K:=0) (ak _);have q2:=bA8 (w:=w) hj (x:=(Au w d j o).1) (K:=2) (by show _<=(bT w j).sz+2;omega);unfold aQh;simp only[AA.sz] at q1 q2 ⊢;omega
  simp only[ay,ae];cases !(gZ w j).2.2.2 with
  |true=>simp only[ac];omega
  |false=>
   simp only[ae];cases !((Au w d j o).2.1==0) with
   |true=>simp only[ac];omega
   |false=>have:=aK6 (aQh w d j o) 1;simp only[ae];omega
def bA9 {w:AA}(h:WIn w.Devices.length w)(d j:Int)(o:AS):Kept w (fT w d j o).1:=by obtain⟨k1,k2⟩:=V7 w d j o;have:=bF6 h d j o;exact .of ⟨h.visit d j o,k1,k2⟩ (by omega)
def Kept.refl {w:AA}(h:WIn w.Devices.length w):Kept w w:=⟨h,rfl,cY _ _⟩
def bJ9 {w:AA}(h:WIn w.Devices.length w)(b:Bool)(d j:Int)(o:AS):Kept w (bif b then Oj w d j o else(w,1)).1:=by
 cases b with
 |true=>exact bA9 h d j o
 |false=>exact .refl h
def aF7 {b:List Int}{p:Nat}{h:Int}{t:List Int}(e:b.drop p=h::t):p<b.length/\b.getD p 0=h/\b.drop (p+1)=t:=by
 grind[List.getD,List.getElem?_eq_getElem,List.drop_eq_getElem_cons,List.length,List.length_drop,List.length_cons]
def split_mul (r P:Int):r*P=r/128*(P*128)+r%128*P:=by
 have h:128*(r/128)+r%128=r:=Int.mul_ediv_add_emod r 128
 conv=>lhs;rw[<-h]
 rw[Int.add_mul,jd 128,Int.mul_assoc,jd 128 P]
def bDm {b y:List Int}{p:Nat}:∀(k i:Nat) (n r:Int),b.drop (p+i)=uvE k r++y->0<=r->r<128^(k+1)->(0<i->r≠0)->0<=n->n+r*128^i<=1000000000000->
  uvG b p (k+1) i n=(n+r*128^i,((p+i+(uvE k r).length:Nat):Int),true)
 |0,i,n,r,hd,h0,h1,hi,hn,hm=>by
  obtain⟨d1,d2,d3⟩:=aF7 (show b.drop (p+i)=r::y from hd);have hr:r<128:=by simpa using h1
  unfold uvG;rw[cW d1,d2,au hr,ac,show r%128=r by omega,av (show ¬n+r*128^i>1000000000000 by omega),gu];have:(decide (0<i)&&r==0)=false:=by
   by_cases c:0<i
   ·rw[co.2 (hi c),dh]
   ·rw[av c,gq]
  rw[this];rfl
 |k+1,i,n,r,hd,h0,h1,hi,hn,hm=>by
  have hp:(0:Int)<=128^i:=Int.pow_nonneg (by decide);have hs:=split_mul r (128^i);have a:(128:Int)^(i+1)=128^i*128:=fq ..;unfold uvE at hd ⊢;by_cases hb:r>127
  ·rw[au hb,ac] at hd ⊢;obtain⟨d1,d2,d3⟩:=aF7 (show b.drop (p+i)=(r%128+128)::(uvE k (r/128)++y) from hd);have hq:(r/128)<128^(k+1):=by have:(128:Int)^(k+1+1)=128^(k+1)*128:=fq ..;omega
   have hx:0<=r%128*128^i:=jw (by omega) hp;have d:=bDm k (i+1) (n+r%128*128^i) (r/128) (by rw[show p+(i+1)=p+i+1 by omega];exact d3) (by omega) hq (λ_=>by omega) (by omega) (by rw[a];omega);rw[uvG,cW d1,d2,av (show ¬r%128+128<128 by omega),ae,show(r%128+128)%128=r%128 by omega,d,a];simp only[aw,cU,and_true];constructor
   ·omega
   ·congr 1;omega
  ·rw[av hb,ae] at hd ⊢;obtain⟨d1,d2,d3⟩:=aF7 (show b.drop (p+i)=r::y from hd);unfold uvG;rw[cW d1,d2,au (show r<128 by omega),ac,show r%128=r by omega,av (show ¬n+r*128^i>1000000000000 by omega),gu];have:(decide (0<i)&&r==0)=false:=by
    by_cases c:0<i
    ·rw[co.2 (hi c),dh]
    ·rw[av c,gq]
   rw[this];rfl
def bDn {x y:List Int}{n:Int}(h:0<=n/\n<=1000000000000):Ej (x++(enc1 n++y)) (x.length:Int)=(n,((x.length+(enc1 n).length:Nat):Int),true):=by
 have e:=aK2 h;unfold Ej;rw[dm (by omega),bm,e];have hp:(128:Int)^(5+1)=4398046511104:=by decide
 have:=bDm (b:=x++(uvE 5 n++y)) (y:=y) (p:=x.length) 5 0 0 n (by simp) h.1 (by omega) (λh=>by omega) (by decide) (by simp;omega);simp[*]
def aNn:∀(t x y s:List Int),aQf t->kY (x++(iR t++y)) t.length (x.length:Int) s=(s++t,((x.length+(iR t).length:Nat):Int),true)
 |[],x,y,s,_=>by simp[kY,iR]
 |n::t,x,y,s,h=>by
  have hn:=h n (by simp);have c:=bDn (x:=x) (y:=iR t++y) hn;rw[vJ,ck];show kY _ (t.length+1) _ _=_;rw[kY,c];simp only[ac];have a:=aNn t (x++enc1 n) y (s++[n]) (λv hv=>h v (by simp[hv]));rw[ax,ck] at a;rw[a];simp[fh]
def aNo:∀l:List AG,nJ (kJ l)=l/\mV (kJ l)=true
 |[]=>⟨rfl,rfl⟩
 |e::l=>by
  obtain⟨h1,h2⟩:=aNo l;have a:kJ (e::l)=aQg e++kJ l:=by simp[kJ]
  rw[a];obtain⟨s,h,v,d⟩:=e;cases d with
  |true=>exact⟨by show(⟨s,h,v,(1:Int)==1⟩:AG)::nJ (kJ l)=_;rw[h1];rfl,by show(decide ((1:Int)<=1)&&mV (kJ l))=true;rw[h2];rfl⟩
  |false=>exact⟨by show(⟨s,h,v,(0:Int)==1⟩:AG)::nJ (kJ l)=_;rw[h1];rfl,by show(decide ((0:Int)<=1)&&mV (kJ l))=true;rw[h2];rfl⟩
def bF7 {b:AB}(h:aP b=true):∀e∈b.Entries,(0<=e.Site/\e.Site<=2147483646)/\(0<=e.Handle/\e.Handle<=1000000)/\(1<=e.Version/\e.Version<=1000000):=λe he=>by
 unfold aP at h;rw[aa,bo] at h;obtain⟨i,hi,rfl⟩:=cR.1 he;have:=Om h.2 i hi;unfold Ui at this;simp only[bj,cF] at this;have h1:=iA this.1;have h2:=iA this.2.1;have a:=iA this.2.2.1;omega
def bNi {b:AB}(h:aP b=true):aQf (tY b):=λv hv=>by
 have hl:=mW h;unfold tY at hv;rcases bp.1 hv with hv|hv
 ·grind
 ·unfold kJ at hv;obtain⟨e,he,hv⟩:=List.mem_flatMap.1 hv;obtain⟨h1,h2,a⟩:=bF7 h e he
  grind[aQg]
def bF8 {b:AB}(h:aP b=true):Ju (oO b)=(b,true):=by
 have hl:=mW h;have hv:=bNi h;have he:oO b=enc1 (b.Entries.length:Int)++iR (kJ b.Entries):=by unfold oO tY;rw[h,ac];rfl
 have c:Ej (oO b) 0=((b.Entries.length:Int),(((enc1 (b.Entries.length:Int)).length:Nat):Int),true):=by have:=bDn (x:=[]) (y:=iR (kJ b.Entries)) (n:=(b.Entries.length:Int)) (by omega);simp_all
 have hd:=aNn (kJ b.Entries) (enc1 (b.Entries.length:Int)) [] [] (λv d=>hv v (by grind[tY]));rw[eo,<-he,vK,bv] at hd;have a:(((enc1 (b.Entries.length:Int)).length+(iR (kJ b.Entries)).length:Nat):Int)=((oO b).length:Int):=by rw[he,ax]
 obtain⟨e,f⟩:=aNo b.Entries;unfold Ju;rw[c,show(4*(b.Entries.length:Int)).toNat=4*b.Entries.length by omega,hd,av (show ¬(b.Entries.length:Int)>20 by omega)];simp_all[aX6]
theorem aVh {α β:Type}{y:Nat->α->β}:∀{l:List α} {i k:Nat} (h:k<l.length) (h2:k<(Ra (λi x=>[y i x]) i l).length),(Ra (λi x=>[y i x]) i l)[k]=y (i+k) l[k]
 |x::l,i,0,_,_=>rfl
 |x::l,i,k+1,h,h2=>by
  have:=aVh (y:=y) (l:=l) (i:=i+1) (k:=k) (by simpa using h) (by rw[sM];simpa using h);rw[show i+1+k=i+(k+1) by omega] at this;exact this
theorem aYt {k:Int}{d:List Int}(h:∀z∈d,0<=z/\z<=255):U2 k (lZ k d)=d:=by
 apply List.ext_getElem
 ·unfold U2 lZ;rw[sM,sM]
 ·intro i h1 h2;have a:i<(lZ k d).length:=by simp_all[sM,lZ]
  grind[IntKind.wrap_u8,bS,aU2,aX7,List.getElem_mem,lZ,aVh,U2]
def aTk {k e v:Int}{b:AB}(hk:bN k=true)(he:0<=e/\e<=1000000)(hv:0<=v/\v<=1000000)(hb:aP b=true):jC k (fA k e v b)=(b,true):=by
 have hm:(fA k e v b).MAC=jB k (fA k e v b):=by simp[fA,jB]
 unfold jC;rw[hm,cy,hk,show(fA k e v b).Epoch=e from rfl,show(fA k e v b).Version=v from rfl,iE he.1 he.2,iE hv.1 hv.2];show Ju (U2 (lY k e v) (lZ (lY k e v) (oO b)))=(b,true);rw[aYt (Ul (aCp b)),bF8 hb]
def bKa {p e:Int}{d:List Int}(hp:bN p=true)(he:bN e=true)(hl:d.length<=200)(hd:∀z∈d,0<=z/\z<=255):jA p (nK (fP p) e d)=(d,true):=by
 grind[Ar,bne_self_eq_false,decide_eq_false,aYt,jA,nK,fP,aFx,kX,Ur,lZ]
def bBa {p:Int}{b:AQ}(h:b.To≠fP p):(jA p b).2=false:=by unfold jA;rw[bne,co.2 h];cases bN p<;>rfl
def aNp {p:Int}{d:List Int}(hp:bN p=true)(hl:d.length<=200)(hd:∀z∈d,0<=z/\z<=255):∀{bs:List AQ} {k:Nat} (hk:k<bs.length),(∀j (hj:j<bs.length),j<k->bs[j].To≠fP p)->(∃e,bN e=true/\bs[k]=nK (fP p) e d)->iL bs p=(d,true)
 |b::bs,0,_,_,⟨e,he,hb⟩=>by
  have hb:b=nK (fP p) e d:=hb;rw[iL,hb,bKa hp he hl hd];rfl
 |b::bs,k+1,hk,hn,⟨e,he,hb⟩=>by
  have h0:b.To≠fP p:=hn 0 (by simp) (by omega);rw[iL,bBa h0,ae];exact aNp hp hl hd (by simpa using hk) (λj hj a=>hn (j+1) (by simpa using hj) (by omega)) ⟨e,he,hb⟩
structure BoxIn (log:List AF) (bx:AK) (key:Int):Prop where
 ep:bx.Epoch=aB log
 to:bx.Boxes.map (·.To)=aC log
 nd:(aC log).Nodup
 kok:bN key=true
 box:∀k (h:k<bx.Boxes.length),∃e,bN e=true/\bx.Boxes[k]=nK bx.Boxes[k].To e (iR [aB log,key])
 eps:0<=aB log/\aB log<=40
def bRt {k:Int}(h:bN k=true):0<=k/\k<=1000000000000:=by have:=aNh h;omega
def aCz {log:List AF}{bx:AK}{key:Int}(h:BoxIn log bx key){s:AI}(hs:aS s∈aC log):eQ s bx=(key,true):=by
 obtain⟨h1,h2,f,l,o,u⟩:=h;rw[<-h2] at hs f;obtain⟨k,hk,e⟩:=cR.1 hs;have a:k<bx.Boxes.length:=by simpa using hk
 have e:bx.Boxes[k].To=fP (iH s):=by rw[jk] at e;rw[e];rfl
 have hd:(iR [aB log,key]).length<=12:=bDl _ _;have p:iL bx.Boxes (iH s)=(iR [aB log,key],true):=by
  refine aNp (Ov s) (by omega) (U6 _) a (λj hj d he=> ?_) ?_
  ·have:=dr.1 f j k (by simpa using hj) (by simpa using a) d;rw[jk,jk] at this;exact this (by rw[he,e])
  ·obtain⟨q,hq,hb⟩:=o k a;rw[e] at hb;exact⟨q,hq,hb⟩
 have c:jW (iR [aB log,key]) 0 2=([aB log,key],((iR [aB log,key]).length:Int),true):=by
  have:=aNn [aB log,key] [] [] [] (λv hv=>by
   simp only[bf,dy,or_false] at hv;rcases hv with rfl|rfl
   ·omega
   ·exact bRt l)
  simp only[bv,eo,bu,cx] at this;unfold jW;rw[show bU 2 0 100=true from rfl,iE (by omega) (by omega)];exact this
 unfold eQ Oh;rw[p,c];show(bif !true||(!true||(((iR [aB log,key]).length:Int) !=((iR [aB log,key]).length:Int)||(aB log !=bx.Epoch|| !bN key))) then(0,false) else(key,true))=(key,true);rw[cy,h1,cy,l];rfl
def Ox {log:List AF}{bx:AK}{key:Int}(h:BoxIn log bx key)(hl:aW log=true){d:AC}(he:dJ log d.Log=true)(hs:aS d.Store∈aC log)
  {e v:Int} {b:AB} (hv:0<=v/\v<=1000000) (hb:aP b=true) (j:e=aB log) (ho:d.Epoch<e\/(d.Epoch=e/\d.Version<=v)) (hm:(fZ d.aAC b).2=true):
  bR d log bx (fA key e v b)=(⟨d.Store,log,key,e,v,(fZ d.aAC b).1⟩,0):=by
 have a:=aCz h hs;have l:=h.eps;have c:jC key (fA key e v b)=(b,true):=aTk h.kok (by omega) hv hb;have f:jL d log bx (fA key e v b)=0:=by
  unfold jL;rw[hl,he,lC.2 hs,a,h.ep,c,hm,cy,show(fA key e v b).Epoch=e from rfl,show(fA key e v b).Version=v from rfl];have:(decide (e<aB log)||(decide (e<d.Epoch)||(e==d.Epoch&&decide (v<d.Version))))=false:=by
   rw[av (show ¬e<aB log by omega),av (show ¬e<d.Epoch by omega),cX,cX];rcases ho with ho|ho
   ·rw[co.2 (show e≠d.Epoch by omega),gq]
   ·rw[av (show ¬v<d.Version by omega),dh]
  rw[this];rfl
 unfold bR;rw[f,a,c];rfl
def aIu (log:List AF):dJ log []=true:=by unfold dJ;simp[iG]
def bKb (a:AF):aU6 a a=true:=by unfold aU6;simp
theorem Ux (log r:List AF):dJ (log++r) log=true:=by
 unfold dJ;rw[au (by simp),db,bo];exact Ut λk hk=>by
  rw[cx,cF];have:(log++r).getD k default=log[k]:=by simp[List.getD,ao hk,ab hk]
  rw[this];exact bKb _
def aYu (log:List AF):dJ log log=true:=by simpa using Ux log []
theorem aNq {seed:Int}{n:Nat}(h0:1<=n)(hn:n<=6):BoxIn (aX seed n) (gU seed n) (bK seed 0):=by
 obtain⟨h1,h2,s,h,j⟩:=rP seed n hn;have hl:aW (aX seed n)=true:=j.resolve_left (by omega);have hlen:(aC (aX seed n)).length<=1000:=by rw[h2,bl,gr];omega
 have hk:bN (bK seed 0)=true:=by unfold bK;exact gM _ _
 obtain⟨u,l,f,o⟩:=aF6 (key:=bK seed 0) (eph:=1000) hl hk (λp hp=>by
  rw[h2] at hp;obtain⟨i,_,rfl⟩:=cr.1 hp;exact aCx _ _) hlen ⟨by decide,by decide⟩
 have a:(aC (aX seed n)).Nodup:=by rw[h2];exact aYq hn
 refine⟨l,f,a,hk,λk c=> ?_,by rw[h];exact⟨by decide,by decide⟩⟩;have q:(gU seed n).Boxes.length=(aC (aX seed n)).length:=by have:=congrArg List.length f;rw[bl] at this;exact this
 have d:k<(aC (aX seed n)).length:=by omega
 have hb:=o k c d;have e:(gU seed n).Boxes[k].To=(aC (aX seed n))[k]:=by show(bE (aX seed n) (bK seed 0) 1000).1.Boxes[k].To=_;rw[hb];rfl
 refine⟨1000+(k:Int),iE (by omega) (by omega),?_⟩;rw[e];exact hb
def nwB:Nat->AB
 |1=>⟨[⟨1464438180,0,1,false⟩,⟨1941999745,0,1,false⟩]⟩
 |2=>⟨[⟨1464438180,0,1,false⟩,⟨1464438180,1,1,false⟩,⟨1941999745,0,1,false⟩,⟨1941999745,1,1,false⟩]⟩
 |3=>⟨[⟨1464438180,0,1,false⟩,⟨1464438180,1,1,false⟩,⟨1464438180,2,1,false⟩,⟨1941999745,0,1,false⟩,⟨1941999745,1,1,false⟩,⟨1941999745,2,1,false⟩]⟩
 |_=>⟨[]⟩
def Ps (seed:Int)(n k:Nat)(v:Int)(b:AB):AC:=⟨aM seed (k:Int),aX seed n,bK seed 0,0,v,b⟩
def bKc {seed:Int}{n:Nat}(h0:1<=n)(hn:n<=6)(k:Nat):zL seed n (aY (aM seed (k:Int)))=Ps seed n k 0 ⟨[]⟩:=by
 obtain⟨h1,h2,d,a,c⟩:=rP seed n hn;have hl:aW (aX seed n)=true:=c.resolve_left (by omega);have hk:bN (bK seed 0)=true:=by unfold bK;exact gM _ _
 unfold zL mE aY;rw[hl,aIu,hk,a];rfl
def bTj {n:Nat}(h:n=1\/n=2\/n=3)(s:AI)(l:List AF)(k e v:Int):Ol (aA 1) n (Ol (aA 0) n ⟨s,l,k,e,v,⟨[]⟩⟩)=⟨s,l,k,e,v,nwB n⟩:=by rcases h with rfl|rfl|rfl<;>kernel_rfl
def bBb {n:Nat}(h:n=1\/n=2\/n=3):aP (nwB n)=true/\fZ ⟨[]⟩ (nwB n)=(nwB n,true)/\fZ (nwB n) (nwB n)=(nwB n,true):=by rcases h with rfl|rfl|rfl<;>exact⟨by kernel_rfl,by kernel_rfl,by kernel_rfl⟩
def bF9 {seed:Int}{n:Nat}(h:n=1\/n=2\/n=3):lU seed n=Ps seed n 0 0 (nwB n):=by unfold lU;rw[show(0:Int)=((0:Nat):Int) from rfl,bKc (by omega) (by omega)];exact bTj h _ _ _ _ _
def bKd {seed:Int}{n:Nat}(h:n=1\/n=2\/n=3):nwW seed n=(Ps seed n 0 1 (nwB n),fA (bK seed 0) 0 1 (nwB n),true):=by
 have hk:bN (bK seed 0)=true:=by unfold bK;exact gM _ _
 unfold nwW;rw[bF9 h];unfold dO kN Ps;simp only[];rw[show IntKind.i64.wrap (0+1)=1 from by decide,hk,(bBb h).1];rfl
def aNr {seed:Int}{n k:Nat}(h:n=1\/n=2\/n=3)(hk:k<n):Aw seed n (aY (aM seed (k:Int)))=Ps seed n k 1 (nwB n):=by
 obtain⟨h1,h2,f,c,e⟩:=rP seed n (by omega);obtain⟨b1,a,j⟩:=bBb h;unfold Aw;rw[bKc (by omega) (by omega),bKd h];rw[Ox (aNq (by omega) (by omega)) (e.resolve_left (by omega)) (d:=Ps seed n k 0 ⟨[]⟩) (aYu _) (by
  rw[h2];exact cr.2 ⟨k,gn.2 hk,rfl⟩) ⟨by decide,by decide⟩ b1 c.symm (.inr ⟨rfl,by show(0:Int)<=1;decide⟩) (by show(fZ ⟨[]⟩ (nwB n)).2=true;rw[a])]
 show(AC.mk (aM seed (k:Int)) (aX seed n) (bK seed 0) 0 1 (fZ ⟨[]⟩ (nwB n)).1)=_;rw[a];rfl
theorem aIv {seed:Int}{n:Nat}(h:n=1\/n=2\/n=3):kE seed n=(List.range n).map λk=>Ps seed n k 1 (nwB n):=by
 unfold kE dR;rw[bKd h];rcases h with rfl|rfl|rfl
 ·rfl
 ·show[_,Aw seed 2 (aY (aM seed ((1:Nat):Int)))]=_;rw[aNr (.inr (.inl rfl)) (by decide)];rfl
 ·show[_,Aw seed 3 (aY (aM seed ((1:Nat):Int))),Aw seed 3 (aY (aM seed ((2:Nat):Int)))]=_;rw[aNr (.inr (.inr rfl)) (by decide),aNr (.inr (.inr rfl)) (by decide)];rfl
theorem Ka {seed:Int}{n:Nat}(h:n=1\/n=2\/n=3):iK seed n=⟨aX seed n,gU seed n,[fA (bK seed 0) 0 1 (nwB n)]⟩:=by
 obtain⟨h1,h2,_⟩:=V6 (seed:=seed) (n:=n) (by omega) (by omega);have a:=(rP seed n (by omega)).ep;have e:dP (aX seed n) (gU seed n)=(⟨aX seed n,gU seed n,[]⟩,true):=by unfold dP;rw[h1,h2];rfl
 unfold iK;rw[e,bKd h];show(bQ ⟨aX seed n,gU seed n,[]⟩ (fA (bK seed 0) 0 1 (nwB n))).1=_;unfold bQ;rw[show(fA (bK seed 0) 0 1 (nwB n)).Epoch=0 from rfl,a];rfl
def aYv (w:AA)(d j:Int)(o:AS):(fT w d j o).1.Hosts=w.Hosts:=by
 unfold fT;cases !dS w d j with
 |true=>rfl
 |false=>
  cases !(gZ w j).2.2.2 with
  |true=>rfl
  |false=>cases !((Au w d j o).2.1==0)<;>rfl
def Bb (w:AA)(d b:Int):(aH w d b).1.Hosts=w.Hosts:=by unfold aH;cases aR w&&aO w d<;>rfl
def aYw (w:AA)(d:Int):(Nl w d).1.Hosts=w.Hosts:=by unfold Nl;cases(dO (aF w d)).2.2&&(bQ w.aAA (dO (aF w d)).2.1).2<;>rfl
def aNs (w:AA)(d:Int):(fD w d).1.Hosts=w.Hosts:=by
 unfold fD;cases(aH w d 0).2==0&&(Nl (aH w d 0).1 d).2 with
 |false=>rfl
 |true=>exact(aYw _ _).trans (Bb _ _ _)
def bBc (w:AA)(d:Int)(n:ByteArray)(a:Int)(r:Bool):(lX w d n a r).1.Hosts=w.Hosts:=by
 unfold lX;cases aR w&&aO w d with
 |false=>rfl
 |true=>cases(bO (aF w d) n a r).2<;>rfl
def aIw (w:AA)(b k p:Int)(key:List AF->Int):(gY w b k p key).1.Hosts=w.Hosts:=by unfold gY;simp only[];generalize bW w.aAA.Log k p (aF w b).Store=l;generalize bE l.1 (key l.1) (IntKind.i64.wrap (1000+IntKind.i64.wrap (10*(l.1.length:Int))))=e;cases l.2&&(e.2&&(jN w.aAA l.1 e.1).2)<;>rfl
def bGa (w:AA)(b:Int):(bY w b).1.Hosts=w.Hosts:=by
 unfold bY;cases qN w b with
 |false=>rfl
 |true=>
  show(sG w b).1.Hosts=w.Hosts;have a:(lI w b).1.Hosts=w.Hosts:=by unfold lI;rw[aNs];exact(aIw _ _ _ _ _).trans (Bb _ _ _)
  unfold sG
  first
   |exact a
   |exact(Bb _ _ _).trans a
def aYx (w:AA)(d:Int):(jF w d).1.Hosts=w.Hosts:=by unfold jF;cases dS w d 0&& !dV w d<;>rfl
def bGb (w:AA)(b t:Int):(eO w b t).1.Hosts=w.Hosts:=by
 unfold eO;generalize((aH w b 0).2==0&&(!dV w b&&(!(b==t)&&bZ w t)))=q;cases q with
 |false=>rfl
 |true=>
  show(lQ w b t).1.Hosts=w.Hosts;have h1:(lK w b t).1.Hosts=w.Hosts:=(aIw _ _ _ _ _).trans (Bb _ _ _);have a:(Iw w b t).1.Hosts=w.Hosts:=(aYw _ _).trans h1;unfold lQ;cases(lK w b t).2&&((Jw w b t).2&&(Iw w b t).2) with
  |false=>rfl
  |true=>exact a
def bKe (w:AA)(d:Int):(jF w d).1.sz=w.sz:=by
 unfold jF;cases dS w d 0&& !dV w d with
 |false=>rfl
 |true=>simp only[ac,AA.sz,aq]
structure KeptH (w v:AA):Prop where
 kept:Kept w v
 hosts:v.Hosts.length<=w.Hosts.length
def KeptH.of {w v:AA}(h:Kept w v)(e:v.Hosts=w.Hosts):KeptH w v:=⟨h,by rw[e];exact ak _⟩
def gV (seed:Int):AY:=(w9 seed 2 500 3).1
def bVh (seed:Int):Int:=IntKind.i64.wrap (1+(aV seed [293]).tmod 1018)
def gSh (seed x:Int):A0:=⟨x,Uj (bVh seed) (U8 seed 2) x⟩
def gK (s:A0)(i:Nat):A3:=⟨s,0,(i:Int),5⟩
def bKf (s:A0)(i:Nat):AO:=⟨gK s i,(List.range i).map (gK s),(i:Int)⟩
def gHs (seed:Int)(i:Nat):List AO:=[bKf (gSh seed 1) i,bKf (gSh seed 2) i,bKf (gSh seed 3) 0]
structure GS (seed:Int) (i:Nat) (w:AA):Prop where
 wi:WIn 1 w
 len:w.Devices.length=1
 sd:w.Seed=seed
 now:w.Now=0
 vault:w.aAO=gV seed
 hosts:w.Hosts=gHs seed i
 le:i<=5
def same (s h:Int)(e:AG):Bool:=e.Site==s&&e.Handle==h
def lk (l:List AG)(s h:Int):Option AG:=l.find? (same s h)
def bKg:Option AG->Option AG->Option AG
 |none,y=>y
 |some e,none=>some e
 |some e,some x=>some (qM e x)
theorem same_iff {s h:Int}{e:AG}:same s h e=true↔e.Site=s/\e.Handle=h:=by simp[same]
theorem zY (e:AG):same e.Site e.Handle e=true:=same_iff.2 ⟨rfl,rfl⟩
theorem y9 {a b:AG}(h:eX a b=true):¬(a.Site=b.Site/\a.Handle=b.Handle):=by grind[zR]
def bBd {a b:AG}(h:eX a b=true):eX b a=false:=by
 grind[zR]
def rQ:∀(n:Nat) {a b:List AG} {e:AG},a.length+b.length<=n->e∈bM a b->e∈a\/e∈b
 |_,[],b,e,_,h=>by rw[iQ] at h;exact .inr h
 |_,a::xs,[],e,_,h=>by rw[fJ] at h;exact .inl h
 |0,a::xs,b::bs,e,h,_=>by simp at h
 |n+1,a::xs,b::bs,e,hn,h=>by
  simp only[aw] at hn;rw[vI] at h;cases h1:eX a b with
  |true=>
   rw[h1,ac] at h;rcases bf.1 h with rfl|h
   ·exact .inl (cN ..)
   ·rcases rQ n (by simp only[aw];omega) h with h|h
    ·exact .inl (cJ _ h)
    ·exact .inr h
  |false=>
   rw[h1,ae] at h;cases h2:eX b a with
   |true=>
    rw[h2,ac] at h;rcases bf.1 h with rfl|h
    ·exact .inr (cN ..)
    ·rcases rQ n (by simp only[aw];omega) h with h|h
     ·exact .inl h
     ·exact .inr (cJ _ h)
   |false=>
    rw[h2,ae] at h;rcases bf.1 h with rfl|h
    ·rcases bC6 a b with e|e
     ·rw[e];exact .inl (cN ..)
     ·rw[e];exact .inr (cN ..)
    ·rcases rQ n (by omega) h with h|h
     ·exact .inl (cJ _ h)
     ·exact .inr (cJ _ h)
def A7:∀(n:Nat) {a b:List AG},a.length+b.length<=n->srt a->srt b->srt (bM a b)
 |_,[],b,_,_,h=>by rw[iQ];exact h
 |_,a::xs,[],_,h,_=>by rw[fJ];exact h
 |0,a::xs,b::bs,h,_,_=>by simp at h
 |n+1,a::xs,b::bs,hn,e,hb=>by
  simp only[aw] at hn;obtain⟨d,f⟩:=cg.1 e;obtain⟨b1,j⟩:=cg.1 hb;rw[vI];cases h1:eX a b with
  |true=>
   rw[ac];refine cg.2 ⟨λy c=> ?_,A7 n (by simp only[aw];omega) f hb⟩;rcases rQ _ (ak _) c with c|c
   ·exact d y c
   ·rcases bf.1 c with rfl|c
    ·exact h1
    ·exact oN h1 (b1 y c)
  |false=>
   rw[ae];cases h2:eX b a with
   |true=>
    rw[ac];refine cg.2 ⟨λy c=> ?_,A7 n (by simp only[aw];omega) e j⟩;rcases rQ _ (ak _) c with c|c
    ·rcases bf.1 c with rfl|c
     ·exact h2
     ·exact oN h2 (d y c)
    ·exact b1 y c
   |false=>
    rw[ae];have hk:=Ap h1 h2;have hp:=aCm hk;refine cg.2 ⟨λy c=> ?_,A7 n (by omega) f j⟩;rw[zS hp];rcases rQ _ (ak _) c with c|c
    ·rw[<-zS hk];exact d y c
    ·exact b1 y c
def oD (a:AG)(l:List AG)(s h:Int):lk (a::l) s h=bif same s h a then some a else lk l s h:=by unfold lk;rw[List.find?_cons];cases same s h a<;>rfl
theorem aC1 {l:List AG}{s h:Int}(hl:∀e∈l,same s h e=false):lk l s h=none:=by
 grind[List.find?_eq_none,lk]
def Uy {l:List AG}{s h:Int}{e:AG}(hl:lk l s h=some e):e∈l/\e.Site=s/\e.Handle=h:=by
 grind[List.mem_of_find?_eq_some,same_iff,lk]
theorem aVi {a:AG}{l:List AG}(hs:srt (a::l)){s h:Int}(c:same s h a=true):∀e∈l,same s h e=false:=λe he=>by
 have:=y9 ((cg.1 hs).1 e he)
 grind[trans,same_iff]
theorem bKh {l:List AG}(hs:srt l){e:AG}(he:e∈l):lk l e.Site e.Handle=some e:=by
 induction l with
 |nil=>simp at he
 |cons a l c=>
  rw[oD];rcases bf.1 he with rfl|he
  ·rw[zY];rfl
  ·cases hq:same e.Site e.Handle a with
   |true=>grind[zY,aVi]
   |false=>exact c (cg.1 hs).2 he
def bKi:∀{a b:List AG},srt a->srt b->(∀s h,lk a s h=lk b s h)->a=b
 |[],[],_,_,_=>rfl
 |[],b::bs,_,_,h=>by have:=h b.Site b.Handle;rw[oD,zY] at this;cases this
 |a::xs,[],_,_,h=>by have:=h a.Site a.Handle;rw[oD,zY] at this;cases this
 |a::xs,b::bs,c,hb,h=>by
  have d:a=b:=by
   have h1:=h a.Site a.Handle;have h2:=h b.Site b.Handle;rw[oD,zY,ac] at h1;rw[oD b,zY,ac] at h2;have f:=(Uy h1.symm).1;have j:=(Uy h2).1;rcases bf.1 f with e|f
   ·exact e
   ·rcases bf.1 j with e|j
    ·exact e.symm
    ·have q1:=(cg.1 hb).1 a f;have q2:=(cg.1 c).1 b j;rw[bBd q1] at q2;cases q2
  subst d;congr 1;refine bKi (cg.1 c).2 (cg.1 hb).2 λs l=> ?_
  have:=h s l;rw[oD,oD] at this;cases hq:same s l a with
  |true=>rw[aC1 (aVi c hq),aC1 (aVi hb hq)]
  |false=>rw[hq] at this;exact this
def bGc {a b:AG}(hk:a.Site=b.Site/\a.Handle=b.Handle)(s h:Int):same s h (qM a b)=same s h b:=by have:=aCm hk;unfold same;rw[this.1,this.2]
def aC2:∀(n:Nat) {a b:List AG},a.length+b.length<=n->srt a->srt b->∀s h,lk (bM a b) s h=bKg (lk a s h) (lk b s h)
 |_,[],b,_,_,_,s,h=>by rw[iQ];rfl
 |_,a::xs,[],_,_,_,s,h=>by
  rw[fJ];show _=bKg (lk (a::xs) s h) none;cases lk (a::xs) s h<;>rfl
 |0,a::xs,b::bs,h,_,_,_,_=>by simp at h
 |n+1,a::xs,b::bs,hn,d,hb,s,h=>by
  simp only[aw] at hn;obtain⟨j,e⟩:=cg.1 d;obtain⟨b1,f⟩:=cg.1 hb;rw[vI];cases h1:eX a b with
  |true=>
   rw[ac,oD,oD a xs,aC2 n (by grind) e hb];cases hq:same s h a with
   |false=>rfl
   |true=>have c:lk (b::bs) s h=none:=(by grind[aC1,eX,oN,y9,same_iff,trans]);rw[c];rfl
  |false=>
   rw[ae];cases h2:eX b a with
   |true=>
    rw[ac,oD,oD b bs,aC2 n (by grind) d f];cases hq:same s h b with
    |false=>rfl
    |true=>have c:lk (a::xs) s h=none:=(by grind[aC1,eX,oN,y9,same_iff,trans]);rw[c];rfl
   |false=>
    have hk:=Ap h1 h2;rw[ae,oD,oD a xs,oD b bs,aC2 n (by omega) e f,bGc hk];have:same s h a=same s h b:=by unfold same;rw[hk.1,hk.2]
    rw[this];cases same s h b<;>rfl
def lkM {a b:List AG}(c:srt a)(hb:srt b)(s h:Int):lk (bM a b) s h=bKg (lk a s h) (lk b s h):=aC2 _ (ak _) c hb s h
def bTk {a b:List AG}(c:srt a)(hb:srt b):srt (bM a b):=A7 _ (ak _) c hb
def rk (e:AG):Int:=2*e.Version+(bif e.Deleted then 1 else 0)
theorem bTl {x e:AG}(hk:x.Site=e.Site/\x.Handle=e.Handle)(h:rk x=rk e):x=e:=by obtain⟨s,a,v,d⟩:=x;obtain⟨s2,h2,c,d2⟩:=e;simp only[rk] at h hk;obtain⟨rfl,rfl⟩:=hk;cases d<;>cases d2<;>simp at h ⊢<;>omega
theorem bKj {x e:AG}:qD x e=true↔rk e<rk x\/(rk e=rk x/\x.Deleted=true):=by unfold qD rk;simp only[cp,aa,cu,de];cases x.Deleted<;>cases e.Deleted<;>simp only[ac,ae,Bool.false_eq_true,and_false,and_true,or_false]<;>omega
def bDo {e x:AG}(hk:x.Site=e.Site/\x.Handle=e.Handle):qM e x=if rk e<rk x then x else e:=by
 grind[qD,bKj,absurd,bTl,rk,qM]
def Sub (a b:List AG):Prop:=∀e∈a,∃x∈b,x.Site=e.Site/\x.Handle=e.Handle/\rk e<=rk x
def Sub.refl (a:List AG):Sub a a:=λe he=>(by grind)
theorem Sub.trans {a b c:List AG}(h:Sub a b)(k:Sub b c):Sub a c:=λe he=>by
 obtain⟨x,hx,x1,x2,d⟩:=h e he;obtain⟨y,f,j,l,o⟩:=k x hx
 grind
def Sub.merge {a b:List AG}(f:srt a)(hb:srt b)(h:Sub a b):bM b a=b:=by
 refine bKi (bTk hb f) hb λs c=> ?_;rw[lkM hb f];cases hq:lk a s c with
 |none=>cases lk b s c<;>rfl
 |some e=>
  obtain⟨j,l,o⟩:=Uy hq;obtain⟨x,hx,x1,x2,p⟩:=h e j;have d:lk b s c=some x:=by
   grind[bKh]
  rw[d];show some (qM x e)=some x;rw[bDo ⟨x1.symm,x2.symm⟩,dm (by omega)]
def Sub.left {a b:List AG}(c:srt a)(hb:srt b):Sub a (bM a b):=λe he=>by
 have h1:=lkM c hb e.Site e.Handle;rw[bKh c he] at h1;cases hq:lk b e.Site e.Handle with
 |none=>rw[hq] at h1;exact⟨e,(Uy h1).1,rfl,rfl,cI _⟩
 |some x=>rw[hq] at h1;obtain⟨d,f,h⟩:=Uy h1;obtain⟨_,q2,q3⟩:=Uy hq;refine⟨_,d,f,h,?_⟩;rw[bDo ⟨q2,q3⟩];split<;>omega
def bKk {α:Type}[BEq α][LawfulBEq α]:∀{l S:List α},l.Nodup->(∀x∈l,x∈S)->l.length<=S.length
 |[],S,_,_=>by simp
 |x::l,S,hn,hs=>by
  obtain⟨h1,h2⟩:=cw.1 hn;have hx:=hs x (cN ..);have:=bKk (l:=l) (S:=S.erase x) h2 λy c=>by
   have a:y≠x:=λe=>h1 (e▸c);exact(List.mem_erase_of_ne a).2 (hs y (cJ _ c))
  rw[List.length_erase_of_mem hx] at this;have:0<S.length:=List.length_pos_of_mem hx;simp only[aw];omega
structure KeyS (S:List (Int×Int)):Prop where
 len:S.length<=20
 rg:∀p∈S,(0<=p.1/\p.1<=2147483646)/\(0<=p.2/\p.2<=1000000)
structure BunIn (S:List (Int×Int)) (V:Int) (b:List AG):Prop where
 st:srt b
 key:∀e∈b,(e.Site,e.Handle)∈S
 ver:∀e∈b,1<=e.Version/\e.Version<=V
def BunIn.mono {S:List (Int×Int)}{V W:Int}{b:List AG}(h:BunIn S V b)(hv:V<=W):BunIn S W b:=⟨h.st,h.key,λe he=>⟨(h.ver e he).1,fe (h.ver e he).2 hv⟩⟩
def BunIn.nil (S:List (Int×Int))(V:Int):BunIn S V []:=⟨List.Pairwise.nil,(by simp),(by simp)⟩
theorem BunIn.len {S:List (Int×Int)}{V:Int}{b:List AG}(h:BunIn S V b):b.length<=S.length:=by
 have hn:(b.map λe=>(e.Site,e.Handle)).Nodup:=by rw[jr,jc];exact h.st.imp (by grind[y9])
 have:=bKk hn λp hp=>by
  obtain⟨e,he,rfl⟩:=cr.1 hp;exact h.key e he
 rwa [bl] at this
def BunIn.ok {S:List (Int×Int)}{V:Int}{b:List AG}(a:KeyS S)(c:V<=1000000)(h:BunIn S V b):aP ⟨b⟩=true:=by
 have hl:=h.len;have:=a.len;unfold aP;rw[au (show((⟨b⟩:AB).Entries.length:Int)<=20 by show(b.length:Int)<=20;omega),db,bo];refine Ut λk hk=> ?_;have hk:k<b.length:=hk;show Ui b (0+k) b[k]=false;have hm:=ce hk;have r:=a.rg _ (h.key _ hm);have v:=h.ver _ hm;unfold Ui;rw[iE r.1.1 r.1.2,iE r.2.1 r.2.2,iE v.1 (by omega)];simp only[ay,cX,cx];by_cases h0:0<k
 ·have:b.getD (k-1) default=b[k-1]'(by omega):=by rw[List.getD,ab (by omega),cM]
  rw[this,dr.1 h.st (k-1) k (by omega) hk (by omega)];simp
 simp[*]
def BunIn.merge {S:List (Int×Int)}{V:Int}{a b:List AG}(c:BunIn S V a)(hb:BunIn S V b):BunIn S V (bM a b):=
 ⟨bTk c.st hb.st,λe he=>(rQ _ (ak _) he).elim (c.key e) (hb.key e),λe he=>(rQ _ (ak _) he).elim (c.ver e) (hb.ver e)⟩
def Kb {S:List (Int×Int)}{V:Int}{a b:AB}(c:KeyS S)(d:V<=1000000)(e:BunIn S V a.Entries)(hb:BunIn S V b.Entries):fZ a b=(⟨bM a.Entries b.Entries⟩,true):=by unfold fZ;rw[show aP a=true from e.ok c d,show aP b=true from hb.ok c d,(e.merge hb).ok c d];rfl
theorem aLc {l:List AG}(hs:srt l)(s h:Int):(aN ⟨l⟩ s h<0/\lk l s h=none)\/(0<=aN ⟨l⟩ s h/\∃e,lk l s h=some e/\l.getD (aN ⟨l⟩ s h).toNat default=e/\(aN ⟨l⟩ s h).toNat<l.length):=by
 by_cases a:aN ⟨l⟩ s h<0
 ·exact .inl ⟨a,aC1 λe he=>Js (p:=same s h) a e he⟩
 ·refine .inr ⟨by omega,?_⟩;obtain⟨l1,e,l2,d,f,c⟩:=o9 (p:=same s h) (l:=l) (i:=0) (by show 0<=aN ⟨l⟩ s h;omega);have c:aN ⟨l⟩ s h=((0+l1.length:Nat):Int):=c
  grind[same_iff,bKh]
theorem bKl {x e:AG}(h:x.Version>e.Version):qD x e=true:=by
 grind[decide_eq_true,qD]
def aTl {l:List AG}(hs:srt l){x:AG}(h:∀e,lk l x.Site x.Handle=some e->x.Version>e.Version):(pO ⟨l⟩ x).Entries=bM l [x]:=by
 rw[<-aXx hs]
 grind[bKl,decide_eq_true,aLc]
def bRu (x:AG):srt [x]:=cg.2 ⟨λy a=>by simp at a,List.Pairwise.nil⟩
def BunIn.one {S:List (Int×Int)}{V:Int}{x:AG}(hk:(x.Site,x.Handle)∈S)(hv:1<=x.Version/\x.Version<=V):BunIn S V [x]:=
 ⟨bRu x,(by simp[*]),(by simp[*])⟩
def aC3 (l:List AG)(s h:Int):Bool:=match lk l s h with|some e=> !e.Deleted|none=>false
def aBJ (l:List AG)(s h:Int):Int:=match lk l s h with|some e=>e.Version|none=>0
theorem BunIn.aBJ {S:List (Int×Int)}{V:Int}{l:List AG}(h:BunIn S V l)(a:0<=V)(s q:Int):0<=aBJ l s q/\aBJ l s q<=V:=by
 unfold VK.aBJ;cases hq:lk l s q with
 |none=>simp[*]
 |some e=>have:=h.ver e (Uy hq).1;grind
def bRv {S:List (Int×Int)}{V:Int}(f:KeyS S)(j:0<=V/\V<1000000){b:AB}(h:BunIn S V b.Entries){s q:Int}(hk:(s,q)∈S):
  aFz b s q=bif aC3 b.Entries s q then(b,false) else(⟨bM b.Entries [⟨s,q,aBJ b.Entries s q+1,false⟩]⟩,true):=by
 obtain⟨l⟩:=b;have h:BunIn S V l:=h;have hv:=h.aBJ j.1 s q;have c:(aN ⟨l⟩ s q<0->lk l s q=none)/\qU ⟨l⟩ s q=⟨s,q,aBJ l s q+1,false⟩:=by
  unfold qU bFj;rcases aLc h.st s q with⟨h1,h2⟩|⟨h1,e,h2,o,p⟩
  all_goals grind[aBJ,decide,aN,default,decide_eq_true,aL,decide_eq_false]
 have a:(pO ⟨l⟩ (qU ⟨l⟩ s q))=⟨bM l [⟨s,q,aBJ l s q+1,false⟩]⟩:=by rw[c.2];have:(pO ⟨l⟩ ⟨s,q,aBJ l s q+1,false⟩).Entries=bM l [⟨s,q,aBJ l s q+1,false⟩]:=aTl h.st (by grind[aBJ,lk]);rw[<-this]
 have d:aP ⟨bM l [⟨s,q,aBJ l s q+1,false⟩]⟩=true:=((h.mono (W:=V+1) (by omega)).merge (.one (x:=⟨s,q,aBJ l s q+1,false⟩) hk (by grind))).ok f (by omega);unfold aFz;rw[a,d,h.ok f (by omega)];rcases aLc h.st s q with⟨h1,h2⟩|⟨h1,e,h2,o,p⟩
 all_goals grind[decide_eq_true,aN,default,aC3,decide_eq_false]
def bRw {S:List (Int×Int)}{V:Int}(f:KeyS S)(j:0<=V/\V<1000000){b:AB}(h:BunIn S V b.Entries){s q:Int}:
  aF0 b s q=bif aC3 b.Entries s q then(⟨bM b.Entries [⟨s,q,aBJ b.Entries s q+1,true⟩]⟩,true) else(b,false):=by
 obtain⟨l⟩:=b;have h:BunIn S V l:=h;have hv:=h.aBJ j.1 s q;unfold aF0;rw[h.ok f (by omega)];rcases aLc h.st s q with⟨h1,h2⟩|⟨h1,e,h2,d,o⟩
 ·grind[aC3,decide_eq_true,aN]
 ·have c:aBJ l s q=e.Version:=by unfold aBJ;rw[h2]
  have he:=h.ver e (Uy h2).1;have hd:aM1 ⟨l⟩ s q=⟨s,q,aBJ l s q+1,true⟩:=by unfold aM1;show(⟨s,q,IntKind.i64.wrap ((l.getD (aN ⟨l⟩ s q).toNat default).Version+1),true⟩:AG)=_;rw[d,c,aL (by omega) (by omega)]
  have a:(pO ⟨l⟩ (aM1 ⟨l⟩ s q))=⟨bM l [⟨s,q,aBJ l s q+1,true⟩]⟩:=by rw[hd];have:(pO ⟨l⟩ ⟨s,q,aBJ l s q+1,true⟩).Entries=bM l [⟨s,q,aBJ l s q+1,true⟩]:=aTl h.st (by grind);rw[<-this]
  rw[a,av (show ¬aN ⟨l⟩ s q<0 by omega)];show(bif !true||(false||((l.getD (aN ⟨l⟩ s q).toNat default).Deleted||(l.getD (aN ⟨l⟩ s q).toNat default).Version==1000000)) then _ else _)=_;have hl:aC3 l s q= !e.Deleted:=by unfold aC3;rw[h2]
  show _=bif aC3 l s q then _ else _;rw[d,co.2 (show e.Version≠1000000 by omega),hl];cases e.Deleted<;>rfl
structure ChgIn (S:List (Int×Int)) (V:Int) (d x:AC):Prop where
 store:x.Store=d.Store
 log:x.Log=d.Log
 key:x.Key=d.Key
 ep:x.Epoch=d.Epoch
 ver:x.Version=d.Version
 bun:BunIn S V x.aAC.Entries
 sub:Sub d.aAC.Entries x.aAC.Entries
def ChgIn.rfl' {S:List (Int×Int)}{V W:Int}{d:AC}(h:BunIn S V d.aAC.Entries)(hv:V<=W):ChgIn S W d d:=⟨rfl,rfl,rfl,rfl,rfl,h.mono hv, .refl _⟩
theorem ChgIn.trans {S:List (Int×Int)}{V W:Int}{a b c:AC}(h:ChgIn S V a b)(k:ChgIn S W b c):ChgIn S W a c:=
 ⟨k.store.trans h.store,k.log.trans h.log,k.key.trans h.key,k.ep.trans h.ep,k.ver.trans h.ver,k.bun,h.sub.trans k.sub⟩
def aF8 {S:List (Int×Int)}{V:Int}(c:KeyS S)(a:0<=V/\V<1000000){d:AC}(h:BunIn S V d.aAC.Entries){n:ByteArray}{q:Int}(hk:(bH n,q)∈S)(rm:Bool):ChgIn S (V+1) d (bO d n q rm).1:=by
 have hv:=h.aBJ a.1 (bH n) q;unfold bO wC;have one:∀f,BunIn S (V+1) (bM d.aAC.Entries [⟨bH n,q,aBJ d.aAC.Entries (bH n) q+1,f⟩]):=λf=>(h.mono (by omega)).merge (.one hk (by grind));cases rm with
 |true=>
  rw[ac,bRw c a h];cases aC3 d.aAC.Entries (bH n) q with
  |true=>exact⟨rfl,rfl,rfl,rfl,rfl,one _, .left h.st (bRu _)⟩
  |false=>exact .rfl' h (by omega)
 |false=>
  rw[ae,bRv c a h hk];cases aC3 d.aAC.Entries (bH n) q with
  |false=>exact⟨rfl,rfl,rfl,rfl,rfl,one _, .left h.st (bRu _)⟩
  |true=>exact .rfl' h (by omega)
def bBe {S:List (Int×Int)}{V:Int}(a:KeyS S)(e:0<=V/\V+1<1000000){d:AC}(h:BunIn S V d.aAC.Entries){q:Int}(h0:(bH (aA 0),q)∈S)(h1:(bH (aA 1),q)∈S)(rm:Bool):ChgIn S (V+2) d (jX d q rm):=by unfold jX;have c:=aF8 a (by omega) h h0 rm;exact c.trans (by have:=aF8 a (V:=V+1) (by omega) c.bun h1 rm;rwa [show V+1+1=V+2 by omega] at this)
end Go.VK
set_option maxRecDepth 100000
namespace Go.VK
open D
structure Dv (S:List (Int×Int)) (T:Int) (log:List AF) (K ep v:Int) (d:AC):Prop where
 pre:∃r,log=d.Log++r
 at_:d.Epoch<ep\/(d.Epoch=ep/\d.Version<=v)
 key:d.Epoch=ep->d.Key=K
 bun:BunIn S T d.aAC.Entries
structure Hs (S:List (Int×Int)) (T:Int) (K ep v:Int) (s:AJ):Prop where
 low:s.Epoch<=ep
 own:s.Epoch=ep->∃v' b',s=fA K ep v' b'/\0<=v'/\v'<=v/\BunIn S T b'.Entries
structure Net (S:List (Int×Int)) (t m:Nat) (w:AA) (K v:Int) (r:List AJ) (b:AB):Prop where
 wi:WIn m w
 bx:BoxIn w.aAA.Log w.aAA.Boxes K
 devs:∀p∈aC w.aAA.Log,∃k,k<m/\p=lL w.Seed k
 rem:∀p,gD w.aAA.Log p=true->∃k,k<m/\p=lL w.Seed k
 hist:w.aAA.History=r++[fA K (aB w.aAA.Log) v b]
 old:∀s∈r,Hs S (t:Int) K (aB w.aAA.Log) v s
 bun:BunIn S (t:Int) b.Entries
 ver:0<=v/\v<=(t:Int)
 dev:∀k (h:k<w.Devices.length),Dv S (t:Int) w.aAA.Log K (aB w.aAA.Log) v w.Devices[k]
def Dv.mono {S:List (Int×Int)}{T U:Int}{log:List AF}{K ep v u:Int}{d:AC}(h:Dv S T log K ep v d)(a:T<=U)(hv:v<=u):Dv S U log K ep u d:=
 ⟨h.pre,h.at_.imp id (by omega),h.key,h.bun.mono a⟩
def Hs.mono {S:List (Int×Int)}{T U:Int}{K ep v u:Int}{s:AJ}(h:Hs S T K ep v s)(a:T<=U)(hv:v<=u):Hs S U K ep u s:=
 ⟨h.low,λe=>let ⟨v',b',h1,h2,c,d⟩:=h.own e;⟨v',b',h1,h2,fe c hv,d.mono a⟩⟩
section
variable {S:List (Int×Int)} {t m:Nat} {w:AA} {K v:Int} {r:List AJ} {b:AB}
def Net.last (h:Net S t m w K v r b):Hs S (t:Int) K (aB w.aAA.Log) v (fA K (aB w.aAA.Log) v b):=
 ⟨cI _,λ_=>⟨v,b,rfl,h.ver.1,cI _,h.bun⟩⟩
theorem Net.hs (h:Net S t m w K v r b){s:AJ}(hs:s∈w.aAA.History):Hs S (t:Int) K (aB w.aAA.Log) v s:=by
 rw[h.hist] at hs;rcases bp.1 hs with hs|hs
 ·exact h.old s hs
 ·rw[cj.1 hs];exact h.last
def Net.pub (h:Net S t m w K v r b){k:Nat}(hk:k<w.Devices.length):aS w.Devices[k].Store=lL w.Seed k:=by unfold lL aS iH;rw[(h.wi.dev k hk).key]
theorem bGd (K:Int):(jC K ⟨0,0,[],0⟩).2=false:=by
 unfold jC;cases !(bN K&&(bU (AJ.mk 0 0 [] 0).Epoch 0 1000000&&bU (AJ.mk 0 0 [] 0).Version 0 1000000))||(AJ.mk 0 0 [] 0).MAC !=jB K ⟨0,0,[],0⟩ with
 |true=>rfl
 |false=>rfl
theorem bKm {d:AC}{log:List AF}{bx:AK}{s:AJ}(h:(jL d log bx s==0)=true):
  dJ log d.Log=true/\aS d.Store∈aC log/\aB log<=s.Epoch/\(jC (eQ d.Store bx).1 s).2=true/\(fZ d.aAC (jC (eQ d.Store bx).1 s).1).2=true:=by
 have h:=eq_of_beq h;unfold jL at h
 grind[aW,dJ,jJ,aC,aS,aB,eQ,bx,decide,jC,fZ,Bool.or_eq_false_iff,Bool.not_eq_false',decide_eq_false_iff_not,lC]
def Net.set (h:Net S t m w K v r b){i:Nat}{x:AC}(hi:i<w.Devices.length)(hx:Dv S (t:Int) w.aAA.Log K (aB w.aAA.Log) v x):∀k (hk:k<(w.Devices.set i x).length),Dv S (t:Int) w.aAA.Log K (aB w.aAA.Log) v (w.Devices.set i x)[k]:=λk hk=>by
 rw[eL];rw[aq] at hk;split
 ·exact hx
 ·exact h.dev k hk
def Net.upd (h:Net S t m w K v r b){u:AA}(h1:u.Seed=w.Seed)(h2:u.aAA=w.aAA)(c:u.Devices.length=w.Devices.length)(a:WIn m u)
  (d:∀k (hk:k<u.Devices.length),Dv S (t:Int) w.aAA.Log K (aB w.aAA.Log) v u.Devices[k]):Net S t m u K v r b where
 wi:=a
 bx:=by rw[h2];exact h.bx
 devs:=by rw[h1,h2];exact h.devs
 rem:=by rw[h1,h2];exact h.rem
 hist:=by rw[h2];exact h.hist
 old:=by rw[h2];exact h.old
 bun:=h.bun
 ver:=h.ver
 dev:=by simp[*]
def Net.mono (h:Net S t m w K v r b){u:Nat}(a:t<=u):Net S u m w K v r b where
 wi:=h.wi
 bx:=h.bx
 devs:=h.devs
 rem:=h.rem
 hist:=h.hist
 old:=λs hs=>(h.old s hs).mono (by omega) (cI _)
 bun:=h.bun.mono (by omega)
 ver:=by have:=h.ver;omega
 dev:=λk hk=>(h.dev k hk).mono (by omega) (cI _)
def Net.aDI (h:Net S t m w K v r b)(l:KeyS S)(ht:t<=900000){d:AC}(hd:Dv S (t:Int) w.aAA.Log K (aB w.aAA.Log) v d)(c:Int):Dv S (t:Int) w.aAA.Log K (aB w.aAA.Log) v (bR d w.aAA.Log w.aAA.Boxes (eZ w.aAA c).1).1:=by
 unfold bR;cases h0:jL d w.aAA.Log w.aAA.Boxes (eZ w.aAA c).1==0 with
 |false=>exact hd
 |true=>
  obtain⟨q1,q2,q3,q4,q5⟩:=bKm h0;have ho:=aCz h.bx q2;rw[ho] at q4 q5;rw[ac,ho];have o:=h.bx.eps;have a:(eZ w.aAA c).1=⟨0,0,[],0⟩\/(eZ w.aAA c).1∈w.aAA.History:=by
   grind[decide,Bool.or_eq_false_iff,decide_eq_false_iff_not,default,List.getD,List.getElem?_eq_getElem,List.getElem_mem,eZ]
  rcases a with a|a
  ·grind[q4,bGd]
  ·obtain⟨l1,l2⟩:=h.hs a;obtain⟨v',b',e,q,p,f⟩:=l2 (by omega);have hv:=h.ver;have j:jC K (fA K (aB w.aAA.Log) v' b')=(b',true):=aTk h.bx.kok (by omega) (by omega) (f.ok l (by omega));rw[e,j,Kb l (by omega) hd.bun f];exact⟨⟨[],by simp⟩, .inr ⟨rfl,p⟩,λ_=>rfl,hd.bun.merge f⟩
def Net.sync (h:Net S t m w K v r b)(f:KeyS S)(ht:t<=900000)(d c:Int):Net S t m (aH w d c).1 K v r b:=by
 have a:=h.wi.sync d c;unfold aH at a ⊢;cases hb:aR w&&aO w d with
 |false=>exact h
 |true=>rw[hb] at a;rw[aa] at hb;obtain⟨hd,e⟩:=kC hb.2;exact h.upd rfl rfl (aq ..) a (h.set hd (h.aDI f ht (by rw[e];exact h.dev _ hd) c))
def bRx (h:Net S t m w K v r b):(eZ w.aAA 0).1=fA K (aB w.aAA.Log) v b:=by unfold eZ;rw[av (show ¬(0:Int)<0 by decide),av (show ¬(0:Int)>=(w.aAA.History.length:Int) by rw[h.hist,ax,cn];omega)];show w.aAA.History.getD _ default=_;rw[h.hist];simp
def Net.aDN (h:Net S t m w K v r b){d:Int}(hd:aO w d=true):bZ w d=jJ (aC w.aAA.Log) (lL w.Seed d.toNat):=by obtain⟨hl,e⟩:=kC hd;unfold bZ;rw[hd,e,h.pub hl];rfl
def oF (w:AA)(K v:Int)(b:AB)(d:AC):AC:=⟨d.Store,w.aAA.Log,K,aB w.aAA.Log,v,⟨bM d.aAC.Entries b.Entries⟩⟩
def Net.aBO (h:Net S t m w K v r b)(a:KeyS S)(ht:t<=900000){d:AC}(h1:∃r',w.aAA.Log=d.Log++r')(h2:d.Epoch<aB w.aAA.Log\/(d.Epoch=aB w.aAA.Log/\d.Version<=v))(c:BunIn S (t:Int) d.aAC.Entries)(e:aS d.Store∈aC w.aAA.Log):
  bR d w.aAA.Log w.aAA.Boxes (eZ w.aAA 0).1=(oF w K v b d,0):=by
 have hm:=Kb a (by omega) c h.bun;have hv:=h.ver;obtain⟨r',hr⟩:=h1;have hs:bR d w.aAA.Log w.aAA.Boxes (fA K (aB w.aAA.Log) v b)=(⟨d.Store,w.aAA.Log,K,aB w.aAA.Log,v,(fZ d.aAC b).1⟩,0):=
  Ox h.bx h.wi.log (by grind[Ux]) e (by omega) (h.bun.ok a (by omega)) rfl h2 (by rw[hm])
 rw[bRx h,hs,hm];rfl
def Net.aBT (h:Net S t m w K v r b)(f:KeyS S)(ht:t<=900000){d:Int}(hd:bZ w d=true):
  aH w d 0=({w with Devices:=w.Devices.set d.toNat (oF w K v b (aF w d))},0):=by
 have a:aO w d=true:=by grind[bZ]
 obtain⟨hl,e⟩:=kC a;have c:=h.dev _ hl;rw[<-e] at c;have hs:=h.aBO f ht c.pre c.at_ c.bun (by
  grind[lC,bZ])
 unfold aH;rw[h.wi.ok,a,hs];rfl
def Net.aCC (h:Net S t m w K v r b){d:Int}(hd:bZ w d=false)(c:Int):((aH w d c).2==0)=false:=by
 grind[aR,aO,bR,jL,aF,eZ,bKm,bZ,lC,aH]
def aNt (w:AA)(K v:Int)(b:AB)(d:AC):AC:={oF w K v b d with Version:=v+1}
def aBZ (w:AA)(K v:Int)(b:AB)(d:Int):AA:=
 {w with Devices:=w.Devices.set d.toNat (aNt w K v b (aF w d)),aAA:={w.aAA with History:=w.aAA.History++[fA K (aB w.aAA.Log) (v+1) ⟨bM (aF w d).aAC.Entries b.Entries⟩]}}
def aNu {S:List (Int×Int)}{d:AC}(a:KeyS S){T:Int}(c:T<=1000000)(h1:bN d.Key=true)(h2:0<=d.Epoch/\d.Epoch<=1000000)(f: -1<=d.Version/\d.Version<1000000)(e:BunIn S T d.aAC.Entries):
  dO d=({d with Version:=d.Version+1},fA d.Key d.Epoch (d.Version+1) d.aAC,true):=by
 have hs:kN d.Key d.Epoch (IntKind.i64.wrap (d.Version+1)) d.aAC=(fA d.Key d.Epoch (d.Version+1) d.aAC,true):=by rw[aL (by omega) (by omega)];unfold kN;rw[h1,iE h2.1 h2.2,iE (by omega) (by omega),show aP d.aAC=true from e.ok a c];rfl
 grind[aL,dO]
def aF9 {c:AM}{s:AJ}(h1:s.Epoch=aB c.Log)(h2:c.History.length<60)(a:∀l,c.History.getLast? =some l->lH s l=true):bQ c s=({c with History:=c.History++[s]},true):=by
 grind[bne_self_eq_false,decide_eq_false,bQ,decide,lH,default,List.getD,List.getElem?_eq_getElem]
theorem Net.aBH (h:Net S t m w K v r b)(j:KeyS S)(ht:t<=900000)(hr:r.length<=58){d:Int}(hd:bZ w d=true):fD w d=(aBZ w K v b d,true):=by
 have a:aO w d=true:=by grind[bZ]
 obtain⟨hl,e⟩:=kC a;have hs:=h.aBT j (by omega) hd;have hv:=h.ver;have p:=h.bx.eps;have o:=h.dev _ hl;rw[<-e] at o;have c:aF (aH w d 0).1 d=oF w K v b (aF w d):=by
  grind[List.getD,List.getElem?_set_self,default,aF,hs]
 have q:dO (oF w K v b (aF w d))=(aNt w K v b (aF w d),fA K (aB w.aAA.Log) (v+1) ⟨bM (aF w d).aAC.Entries b.Entries⟩,true):=
  aNu j (T:=(t:Int)) (by omega) h.bx.kok (show 0<=aB w.aAA.Log/\aB w.aAA.Log<=1000000 by omega) (show-1<=v/\v<1000000 by omega) (o.bun.merge h.bun)
 have f:bQ w.aAA (fA K (aB w.aAA.Log) (v+1) ⟨bM (aF w d).aAC.Entries b.Entries⟩)=({w.aAA with History:=w.aAA.History++[fA K (aB w.aAA.Log) (v+1) ⟨bM (aF w d).aAC.Entries b.Entries⟩]},true):=by
  refine aF9 rfl ?_ λl hl=> ?_
  ·rw[h.hist];simp;omega
  ·rw[h.hist,ig] at hl
   grind[decide_eq_true,decide,aB,lH,fA]
 unfold fD Nl;rw[c,q];rw[show(aH w d 0).1.aAA=w.aAA by rw[hs]];rw[f,hs];show(bif (0:Int)==0&&(bif true&&true then _ else _:AA×Bool).2 then _ else _)=_;simp only[dl,ac,dk,d8];rfl
def Net.aCL (h:Net S t m w K v r b){d:Int}(hd:bZ w d=false):fD w d=(w,false):=by unfold fD;rw[h.aCC hd 0];rfl
def Net.aBZ (h:Net S t m w K v r b)(j:KeyS S)(ht:t<=900000)(hr:r.length<=58){d:Int}(hd:bZ w d=true):
  Net S (t+1) m (VK.aBZ w K v b d) K (v+1) (r++[fA K (aB w.aAA.Log) v b]) ⟨bM (aF w d).aAC.Entries b.Entries⟩:=by
 have c:aO w d=true:=by grind[bZ]
 obtain⟨hl,e⟩:=kC c;have a:=h.wi.push d;rw[h.aBH j ht hr hd] at a;have hv:=h.ver;have hlen:(VK.aBZ w K v b d).Devices.length=w.Devices.length:=aq ..;have f:=h.dev _ hl;rw[<-e] at f;refine⟨a,h.bx,h.devs,h.rem,?_,λs hs=> ?_,(f.bun.merge h.bun).mono (by omega),by omega,λk hk=> ?_⟩
 ·show w.aAA.History++[_]=_;rw[h.hist];rfl
 ·rcases bp.1 hs with hs|hs
  ·exact(h.old s hs).mono (by omega) (by omega)
  ·rw[cj.1 hs];exact h.last.mono (by omega) (by omega)
 ·have:∀k (hk:k<(w.Devices.set d.toNat (aNt w K v b (aF w d))).length),Dv S ((t+1:Nat):Int) w.aAA.Log K (aB w.aAA.Log) (v+1) (w.Devices.set d.toNat (aNt w K v b (aF w d)))[k]:=λk hk=>by
   rw[eL];rw[aq] at hk;split
   ·exact⟨⟨[],by show w.aAA.Log=w.aAA.Log++[];simp⟩, .inr ⟨rfl,cI _⟩,λ_=>rfl,(f.bun.merge h.bun).mono (by omega)⟩
   ·exact(h.dev k hk).mono (by omega) (by omega)
  exact this k hk
def Net.aCQ (h:Net S t m w K v r b)(p:KeyS S)(ht:t<=900000)(d:Int){n:ByteArray}{a:Int}(hk:(bH n,a)∈S)(f:Bool):Net S (t+1) m (lX w d n a f).1 K v r b:=by
 have l:=h.wi.aCQ d n a f;unfold lX at l ⊢;cases hb:aR w&&aO w d with
 |false=>exact h.mono (by omega)
 |true=>
  rw[hb] at l;rw[aa] at hb;obtain⟨hd,e⟩:=kC hb.2;have j:=h.dev _ hd;rw[<-e] at j;have c:=aF8 p (by omega) j.bun hk f;cases hc:(bO (aF w d) n a f).2 with
  |false=>exact h.mono (by omega)
  |true=>rw[hc] at l;have o:=h.mono (u:=t+1) (by omega);exact o.upd rfl rfl (aq ..) l (o.set hd ⟨by rw[c.log];exact j.pre,by rw[c.ep,c.ver];exact j.at_,by rw[c.ep,c.key];exact j.key,c.bun.mono (by omega)⟩)
end
end Go.VK
set_option maxRecDepth 100000
namespace Go.VK
open D
def aNv {l:List AF}{e:AF}(h:aW (l++[e])=true):kZ l e=true/\(l=[]\/aW l=true)/\l.length<40:=by
 unfold aW at h;rw[aa,bo] at h;have hr:=iA h.1;have hlen:(l++[e]).length=l.length+1:=by simp
 rw[hlen] at hr;have h1:=Om h.2 l.length (by simp)
 grind[List.length_pos_iff,aW,iE,Bool.not_eq_true',Ut,Om,List.getElem_append_left]
def aNw {α:Type}{P:List α->Prop}(h0:P [])(hs:∀l a,P l->P (l++[a])):∀(n:Nat) (l:List α),l.length=n->P l
 |0,l,h=>by rw[gy.1 h];exact h0
 |n+1,l,h=>by
  have c:l≠[]:=by rintro rfl;simp at h
  rw[<-List.dropLast_concat_getLast c];exact hs _ _ (aNw h0 hs n _ (by rw[List.length_dropLast];omega))
def bRy (l:List AF):(aC l).Nodup:=
 aNw (P:=λl=>(aC l).Nodup) gm (by grind[Uv,aNc]) l.length l rfl
def aYz (l:List AF):l.length<=1000->0<=aB l/\aB l<=(l.length:Int):=
 aNw (P:=λl=>l.length<=1000->0<=aB l/\aB l<=(l.length:Int)) (λ_=>⟨cI 0,cI 0⟩) (by grind[List.length_append,Ba,aL]) l.length l rfl
theorem bKn (l:List AF)(e:AF)(h:l.length<=999)(hk:e.Kind=2):aB (l++[e])=aB l+1:=by have:=aYz l (by omega);rw[Ba,hk,show((2:Int)==2)=true from rfl,ac,aL (by omega) (by omega)]
theorem bRz {log:List AF}{key eph:Int}(hl:aW log=true)(hk:bN key=true)(hp:∀p∈aC log,bN p=true)(d:(aC log).length<=1000)(h:1<=eph/\eph<=1000000):(bE log key eph).2=true/\BoxIn log (bE log key eph).1 key:=by
 obtain⟨j,l,e,o⟩:=aF6 hl hk hp d h;have f:log.length<=40:=by unfold aW at hl;rw[aa] at hl;have:=iA hl.1;omega
 refine⟨j,l,e,bRy log,hk,λk a=> ?_,by have:=aYz log (by omega);omega⟩;have q:(bE log key eph).1.Boxes.length=(aC log).length:=by have:=congrArg List.length e;rwa [bl] at this
 have c:k<(aC log).length:=by omega
 have s:(aC log).length<=1000:=d;have hb:=o k a c;refine⟨eph+(k:Int),iE (by omega) (by omega),?_⟩
 grind
theorem bKo (l:List AF):(aC l).length<=l.length:=gP l
def bKp {log:List AF}{k d:Int}{s:AI}(h:(bW log k d s).2=true):bW log k d s=(log++[vM log k d s],true)/\aW (log++[vM log k d s])=true:=by
 grind[decide,aW,vM,Bool.or_eq_false_iff,Bool.not_eq_false',bW]
theorem bKq {log:List AF}{key e:Int}(h:(bE log key e).2=true):bN key=true:=by
 grind[aW,bN,gF,iR,aB,aC,Bool.or_eq_false_iff,Bool.not_eq_false',bE]
def bNj {c:AM}{log:List AF}{e:AK}(h:(jN c log e).2=true):jN c log e=({c with Log:=log,Boxes:=e},true):=by
 grind[aW,dJ,gT,jN]
def aVj {w:AA}{b k p:Int}{key:List AF->Int}{l:List AF}(hl:l=w.aAA.Log++[vM w.aAA.Log k p (aF w b).Store])(h:(gY w b k p key).2=true):
  ∃bx,gY w b k p key=({w with aAA:={w.aAA with Log:=l,Boxes:=bx}},true)/\aW l=true/\bN (key l)=true/\((∀q∈aC l,bN q=true)->BoxIn l bx (key l))/\(bW w.aAA.Log k p (aF w b).Store).1=l:=by
 have h0:(bW w.aAA.Log k p (aF w b).Store).2=true/\(bE (bW w.aAA.Log k p (aF w b).Store).1 (key (bW w.aAA.Log k p (aF w b).Store).1) (IntKind.i64.wrap (1000+IntKind.i64.wrap (10*((bW w.aAA.Log k p (aF w b).Store).1.length:Int))))).2=true/\(jN w.aAA (bW w.aAA.Log k p (aF w b).Store).1 (bE (bW w.aAA.Log k p (aF w b).Store).1 (key (bW w.aAA.Log k p (aF w b).Store).1) (IntKind.i64.wrap (1000+IntKind.i64.wrap (10*((bW w.aAA.Log k p (aF w b).Store).1.length:Int))))).1).2=true:=by
  grind[bW,aF,bE,jN,gY]
 obtain⟨h1,h2,a⟩:=h0;obtain⟨c,d⟩:=bKp h1;rw[c,<-hl] at h2 a;rw[<-hl] at c d;have e:=bNj a;have hlen:l.length<=40:=by have:=d;unfold aW at this;rw[aa] at this;have:=iA this.1;omega
 grind[gY,aL,bRz,bKq,bKo,bE]
end Go.VK
set_option maxRecDepth 100000
namespace Go.VK
open D
structure KeyD (S:List (Int×Int)):Prop where
 ks:KeyS S
 dv:∀q:Nat,q<6->(bH (aA 0),(q:Int))∈S/\(bH (aA 1),(q:Int))∈S
section
variable {S:List (Int×Int)} {t m:Nat} {w:AA} {K v:Int} {r:List AJ} {b:AB}
def Net.keys (h:Net S t m w K v r b):∀q∈aC w.aAA.Log,bN q=true:=λq hq=>by
 obtain⟨k,_,rfl⟩:=h.devs q hq;exact aCx _ _
theorem mG {w:AA}{c:Int}(h:bZ w c=true):aO w c=true:=by
 grind[bZ]
theorem Net.inl (h:Net S t m w K v r b){c:Int}(hc:((aH w c 0).2==0)=true):bZ w c=true:=by
 cases hl:bZ w c with
 |true=>rfl
 |false=>rw[h.aCC hl 0] at hc;cases hc
def vN (w:AA)(c:Int):List AF:=w.aAA.Log++[vM w.aAA.Log 1 (lL w.Seed w.Devices.length) (aF w c).Store]
def aVk {w:AA}{c:Int}(hl:aW (vN w c)=true):
  aC (vN w c)=aC w.aAA.Log++[lL w.Seed w.Devices.length]/\(∀p,gD (vN w c) p=gD w.aAA.Log p)/\aB (vN w c)=aB w.aAA.Log:=by
 obtain⟨h1,_,_⟩:=aNv hl;have hk:(vM w.aAA.Log 1 (lL w.Seed w.Devices.length) (aF w c).Store).Kind=1:=rfl;have hd:(vM w.aAA.Log 1 (lL w.Seed w.Devices.length) (aF w c).Store).Device=lL w.Seed w.Devices.length:=rfl
 grind[vN,Ba,Ou,Uv,iY,aC,lL,lC,jJ,Bool.not_eq_true',kZ]
theorem Net.aAS (h:Net S t w.Devices.length w K v r b)(u:KeyD S)(ht:t<=900000){c:Int}(h0:((aH w c 0).2==0)=true)(h1:(add1 w c).2=true)(hn:w.Devices.length<6):
  Net S (t+2) (w.Devices.length+1) (VK.aAS w c) K v r b/\(VK.aAS w c).Devices=w.Devices.set c.toNat (jX (oF w K v b (aF w c)) (w.Devices.length:Int) false)/\(VK.aAS w c).aAA.Log=vN w c/\(VK.aAS w c).Seed=w.Seed:=by
 have f:=h.inl h0;have a:=mG f;obtain⟨hl,e⟩:=kC a;have hs:=h.aBT u.ks ht f;have D:=h.dev _ hl;rw[<-e] at D;have j:aF (aH w c 0).1 c=oF w K v b (aF w c):=by
  grind[List.getD,List.getElem?_set_self,default,aF,hs]
 obtain⟨bx,y,G,L,x,_⟩:=aVj (w:=(aH w c 0).1) (b:=c) (k:=1) (p:=aS (aM w.Seed (w.Devices.length:Int))) (key:=λ_=>(aF (aH w c 0).1 c).Key) (l:=vN w c) (by rw[j,hs];rfl) h1;obtain⟨F,H,z⟩:=aVk G;have y:add1 w c=({(aH w c 0).1 with aAA:={(aH w c 0).1.aAA with Log:=vN w c,Boxes:=bx}},true):=y;have x:(∀q∈aC (vN w c),bN q=true)->BoxIn (vN w c) bx (aF (aH w c 0).1 c).Key:=x;rw[j] at x;have o:=x λq hq=>by
  rw[F] at hq;rcases bp.1 hq with hq|hq
  ·exact h.keys q hq
  grind[List.mem_singleton,aCx]
 have I:(VK.aAS w c).Devices=w.Devices.set c.toNat (jX (oF w K v b (aF w c)) (w.Devices.length:Int) false):=by
  show(add1 w c).1.Devices.set c.toNat (jX (aF (add1 w c).1 c) (w.Devices.length:Int) false)=_
  grind[List.set_set,hs,aH,aF,add1,oF]
 have d:(VK.aAS w c).aAA={w.aAA with Log:=vN w c,Boxes:=bx}:=by show(add1 w c).1.aAA=_;rw[y];show({(aH w c 0).1.aAA with Log:=vN w c,Boxes:=bx}:AM)=_;rw[hs]
 obtain⟨J,A,M⟩:=h.wi.aCN hn a;have hx:ChgIn S ((t:Int)+2) (oF w K v b (aF w c)) (jX (oF w K v b (aF w c)) (w.Devices.length:Int) false):=bBe u.ks (by omega) (D.bun.merge h.bun) (u.dv _ hn).1 (u.dv _ hn).2 false;have hv:=h.ver;refine⟨⟨J,by rw[d];exact o,λp hp=> ?_,λp hp=> ?_,?_,λs hs=> ?_,h.bun.mono (by omega),by omega,?_⟩,I,by rw[d],A⟩
 ·rw[d] at hp;rw[A];have hp:p∈aC (vN w c):=hp;rw[F] at hp;rcases bp.1 hp with hp|hp
  ·obtain⟨k,hk,e⟩:=h.devs p hp;grind
  grind
 ·rw[d] at hp;rw[A];have hp:gD (vN w c) p=true:=hp;rw[H] at hp;obtain⟨k,hk,e⟩:=h.rem p hp;grind
 ·rw[d];show w.aAA.History=r++[fA K (aB (vN w c)) v b];rw[z];exact h.hist
 ·rw[d];show Hs S _ K (aB (vN w c)) v s;rw[z];exact(h.old s hs).mono (by omega) (cI _)
 ·rw[d];show ∀k (hk:k<(VK.aAS w c).Devices.length),Dv S _ (vN w c) K (aB (vN w c)) v (VK.aAS w c).Devices[k];rw[z];have:∀k (hk:k<(w.Devices.set c.toNat (jX (oF w K v b (aF w c)) (w.Devices.length:Int) false)).length),Dv S ((t+2:Nat):Int) (vN w c) K (aB w.aAA.Log) v (w.Devices.set c.toNat (jX (oF w K v b (aF w c)) (w.Devices.length:Int) false))[k]:=λk hk=>by
   rw[eL];rw[aq] at hk;split
   ·refine⟨⟨[vM w.aAA.Log 1 (lL w.Seed w.Devices.length) (aF w c).Store],?_⟩, .inr ⟨?_,?_⟩,λ_=> ?_,hx.bun.mono (by omega)⟩
    ·rw[hx.log];rfl
    ·rw[hx.ep];rfl
    ·rw[hx.ver];exact cI _
    ·rw[hx.key];rfl
   ·have q:=(h.dev k hk).mono (U:=((t+2:Nat):Int)) (by omega) (cI v);obtain⟨r',hr⟩:=q.pre;exact⟨⟨r'++[vM w.aAA.Log 1 (lL w.Seed w.Devices.length) (aF w c).Store],by unfold vN;rw[<-ck,<-hr]⟩,q.at_,q.key,q.bun⟩
  simp_all
def bR0 (U:AA)(K v:Int)(B:AB)(n:Nat):AC:=⟨aM U.Seed (n:Int),U.aAA.Log,K,aB U.aAA.Log,v,⟨bM [] B.Entries⟩⟩
def bGe (U:AA)(K v:Int)(B:AB):AA:={U with Devices:=U.Devices++[bR0 U K v B U.Devices.length],Stolen:=U.Stolen++[false]}
def Net.app (h:Net S t (w.Devices.length+1) w K v r b)(q:KeyS S)(ht:t<=900000)(hn:w.Devices.length<6)(j:lL w.Seed w.Devices.length∈aC w.aAA.Log):
  aH (appW w (aY (aM w.Seed (w.Devices.length:Int)))) (w.Devices.length:Int) 0=(bGe w K v b,0)/\Net S t (w.Devices.length+1) (bGe w K v b) K v r b:=by
 have hv:=h.ver;have s:=h.bx.eps;have a:=h.wi.app hn;have hs:=h.aBO q ht (d:=aY (aM w.Seed (w.Devices.length:Int))) ⟨w.aAA.Log,rfl⟩ (by
  show(0:Int)<_\/((0:Int)=_/\(0:Int)<=v);omega) (BunIn.nil S _) j
 have c:aO (appW w (aY (aM w.Seed (w.Devices.length:Int)))) (w.Devices.length:Int)=true:=by
  grind[aO,appW]
 have l:aF (appW w (aY (aM w.Seed (w.Devices.length:Int)))) (w.Devices.length:Int)=aY (aM w.Seed (w.Devices.length:Int)):=by simp[aF,appW]
 have e:∀x,(w.Devices++[aY (aM w.Seed (w.Devices.length:Int))]).set w.Devices.length x=w.Devices++[x]:=(by simp);have he:aH (appW w (aY (aM w.Seed (w.Devices.length:Int)))) (w.Devices.length:Int) 0=(bGe w K v b,0):=by unfold aH;rw[a.ok,c,l];show(({appW w (aY (aM w.Seed (w.Devices.length:Int))) with Devices:=(w.Devices++[aY (aM w.Seed (w.Devices.length:Int))]).set ((w.Devices.length:Int)).toNat (bR (aY (aM w.Seed (w.Devices.length:Int))) w.aAA.Log w.aAA.Boxes (eZ w.aAA 0).1).1}:AA),(bR (aY (aM w.Seed (w.Devices.length:Int))) w.aAA.Log w.aAA.Boxes (eZ w.aAA 0).1).2)=_;rw[hs,bm,e];rfl
 have f:=a.sync (w.Devices.length:Int) 0;rw[he] at f;refine⟨he,⟨f,h.bx,h.devs,h.rem,h.hist,h.old,h.bun,h.ver,λk hk=> ?_⟩⟩;have o:k<(w.Devices++[bR0 w K v b w.Devices.length]).length:=hk;show Dv S _ w.aAA.Log K (aB w.aAA.Log) v ((w.Devices++[bR0 w K v b w.Devices.length])[k]'o);rw[List.getElem_append];split
 ·rename_i p;exact h.dev k p
 ·rw[List.getElem_singleton];exact⟨⟨[],by show w.aAA.Log=w.aAA.Log++[];simp⟩, .inr ⟨rfl,cI _⟩,λ_=>rfl,(BunIn.nil S _).merge h.bun⟩
def Net.tell (h:Net S t m w K v r b)(k:Int):Net S t m (nY w k) K v r b:=h.upd rfl rfl rfl (h.wi.tell k) h.dev
def Uz (w:AA)(K v:Int)(b:AB)(c:Int):AA:=VK.aBZ (VK.aAS w c) K v b c
def bBf (w:AA)(K v:Int)(b:AB)(c:Int):AB:=⟨bM (jX (oF w K v b (aF w c)) (w.Devices.length:Int) false).aAC.Entries b.Entries⟩
theorem Net.add (h:Net S t w.Devices.length w K v r b)(u:KeyD S)(ht:t<=800000)(hr:r.length<=58){c:Int}(d:qN w c=true):
  Net S (t+3) (w.Devices.length+1) (Uz w K v b c) K (v+1) (r++[fA K (aB w.aAA.Log) v b]) (bBf w K v b c)/\(Uz w K v b c).Devices.length=w.Devices.length/\(Uz w K v b c).Seed=w.Seed/\
  Net S (t+3) (w.Devices.length+1) (bY w c).1 K (v+1) (r++[fA K (aB w.aAA.Log) v b]) (bBf w K v b c)/\(bY w c).1=nY (bGe (Uz w K v b c) K (v+1) (bBf w K v b c)) 2/\(Uz w K v b c).aAA.Log=vN w c/\bZ w c=true/\
  (Uz w K v b c).Devices=w.Devices.set c.toNat (aNt (VK.aAS w c) K v b (jX (oF w K v b (aF w c)) (w.Devices.length:Int) false)):=by
 have l:=d;unfold qN at d;simp only[aa,bo,cC] at d;obtain⟨⟨k1,k2,k3,k4⟩,k5,k6,k7,k8,k9⟩:=d;have hn:w.Devices.length<6:=by omega
 obtain⟨n1,n2,n3,n4⟩:=h.aAS u (by omega) k5 k6 hn;have a:=h.inl k5;obtain⟨hl,e⟩:=kC (mG a);have n5:(VK.aAS w c).Devices.length=w.Devices.length:=by rw[n2,aq]
 have x:c.toNat<(VK.aAS w c).Devices.length:=by omega
 have o:aW (vN w c)=true:=by rw[<-n3];exact n1.wi.log
 obtain⟨y,D,z⟩:=aVk o;have j:aO (VK.aAS w c) c=true:=V5 (mG a) n5;have f:bZ (VK.aAS w c) c=true:=by rw[n1.aDN j,n3,n4,y,lC];rw[h.aDN (mG a),lC] at a;simp[*]
 have p:aF (VK.aAS w c) c=jX (oF w K v b (aF w c)) (w.Devices.length:Int) false:=by
  grind[n2,List.getD,List.getElem?_set_self,aF]
 have hp:=n1.aBH u.ks (by omega) hr f;have q:=n1.aBZ u.ks (by omega) hr f;rw[p,n3,z] at q;have F:lI w c=(Uz w K v b c,true):=hp;have u1:(Uz w K v b c).Devices.length=w.Devices.length:=by show((VK.aAS w c).Devices.set _ _).length=_;rw[aq,n5]
 have u2:(Uz w K v b c).Seed=w.Seed:=n4;have u3:(Uz w K v b c).aAA.Log=vN w c:=n3;have u4:(Uz w K v b c).Devices=w.Devices.set c.toNat (aNt (VK.aAS w c) K v b (jX (oF w K v b (aF w c)) (w.Devices.length:Int) false)):=by show(VK.aAS w c).Devices.set c.toNat (aNt (VK.aAS w c) K v b (aF (VK.aAS w c) c))=_;rw[p,n2,d8]
 have q:Net S (t+3) (w.Devices.length+1) (Uz w K v b c) K (v+1) (r++[fA K (aB w.aAA.Log) v b]) (bBf w K v b c):=q;have s:=q;rw[<-u1] at s;obtain⟨s1,s2⟩:=s.app u.ks (by omega) (by omega) (by simp[*]);have A:sG w c=(bGe (Uz w K v b c) K (v+1) (bBf w K v b c),0):=by
  grind[s1,u2,u1,sG]
 have eA:(bY w c).1=nY (bGe (Uz w K v b c) K (v+1) (bBf w K v b c)) 2:=by unfold bY;rw[l,ac,A]
 rw[u1] at s2;exact⟨q,u1,u2,by rw[eA];exact s2.tell 2,eA,u3,a,u4⟩
end
end Go.VK
set_option maxRecDepth 100000
namespace Go.VK
open D
def mY (w:AA)(c x:Int):List AF:=w.aAA.Log++[vM w.aAA.Log 2 (aS (aF w x).Store) (aF w c).Store]
def aGa (w:AA)(c x:Int):Int:=nZ (aF w c).Store (mY w c x)
def bDp {w:AA}{c x:Int}(hl:aW (mY w c x)=true):
  aC (mY w c x)=(aC w.aAA.Log).filter (λd=>d !=aS (aF w x).Store)/\(∀p,gD (mY w c x) p=(gD w.aAA.Log p||aS (aF w x).Store==p))/\aB (mY w c x)=aB w.aAA.Log+1:=by
 obtain⟨_,_,h1⟩:=aNv hl;have hk:(vM w.aAA.Log 2 (aS (aF w x).Store) (aF w c).Store).Kind=2:=rfl;have hd:(vM w.aAA.Log 2 (aS (aF w x).Store) (aF w c).Store).Device=aS (aF w x).Store:=rfl;refine⟨?_,λp=> ?_,?_⟩
 all_goals grind[mY,bKn,Ou,Uv,iY]
def bNk {d:AC}{log:List AF}{key:Int}(h:(mE d log key).2=true):(mE d log key).1={d with Log:=log,Key:=key,Epoch:=aB log,Version:=0}:=by
 grind[aW,dJ,decide,aB,bN,mE]
section
variable {S:List (Int×Int)} {t m:Nat} {w:AA} {K v:Int} {r:List AJ} {b:AB}
def Ja (w:AA)(K v:Int)(b:AB)(c x:Int):AC:=jX {oF w K v b (aF w c) with Log:=mY w c x,Key:=aGa w c x,Epoch:=aB (mY w c x),Version:=0} x true
def bGf (w:AA)(K v:Int)(b:AB)(bx:AK)(c x:Int):AA:=
 {w with Devices:=w.Devices.set c.toNat {Ja w K v b c x with Version:=1},Sites:=w.Sites.map (gG x),aAA:=⟨mY w c x,bx,w.aAA.History++[fA (aGa w c x) (aB (mY w c x)) 1 (Ja w K v b c x).aAC]⟩}
theorem bBg {w:AA}{c x:Int}(h:(eO w c x).2=false):eO w c x=(w,false):=by
 grind[aH,dV,bZ,lQ,lK,Jw,Iw,eO]
def bDq {w:AA}{c x:Int}(h:(eO w c x).2=true):((aH w c 0).2==0)=true/\dV w c=false/\(c==x)=false/\bZ w x=true/\(lK w c x).2=true/\(Jw w c x).2=true/\(Iw w c x).2=true/\eO w c x=(nY (Iw w c x).1 4,true):=by
 unfold eO at h ⊢
 grind[aH,dV,bZ,lQ,lK,Jw,Iw,Bool.not_eq_true']
def Net.cutAt (h:Net S t m w K v r b)(d:KeyD S)(ht:t<=900000){c:Int}(a:bZ w c=true):aH w c 0=({w with Devices:=w.Devices.set c.toNat (oF w K v b (aF w c))},0)/\aF (kP w c) c=oF w K v b (aF w c):=by
 have hs:=h.aBT d.ks ht a
 grind[List.getD,List.getElem?_set_self,default,aF,hs,kP,kC,mG]
def Net.aDM (h:Net S t m w K v r b)(d:KeyD S){T:Int}(o:0<=T/\T<=900000)(ht:(t:Int)<=T){c x:Int}(a:bZ w c=true)(hx:bZ w x=true):
  ChgIn S (T+2) {oF w K v b (aF w c) with Log:=mY w c x,Key:=aGa w c x,Epoch:=aB (mY w c x),Version:=0} (Ja w K v b c x):=by
 obtain⟨hl,e⟩:=kC (mG a);obtain⟨j,p⟩:=kC (mG hx);have f:=h.dev _ hl;rw[<-e] at f;obtain⟨l,_,_⟩:=xJ (mG hx);have hd:=h.wi.dlen;have hk:=d.dv x.toNat (by omega);rw[en l] at hk;exact bBe d.ks (by omega) ((f.bun.merge h.bun).mono (by omega)) hk.1 hk.2 true
def Net.aDL (h:Net S t m w K v r b)(A:KeyD S)(ht:t<=800000)(hr:r.length<=58){c x:Int}(o:bZ w c=true)(k2:dV w c=false)(k3:(c==x)=false)(k4:bZ w x=true)(k5:(lK w c x).2=true)(k6:(Jw w c x).2=true):
  ∃bx,eO w c x=(nY (bGf w K v b bx c x) 4,true)/\Net S (t+3) m (nY (bGf w K v b bx c x) 4) (aGa w c x) 1 (r++[fA K (aB w.aAA.Log) v b]) (Ja w K v b c x).aAC:=by
 obtain⟨hl,e⟩:=kC (mG o);obtain⟨D,M⟩:=kC (mG k4);obtain⟨hs,u⟩:=h.cutAt A (by omega) o;have y:kP w c={w with Devices:=w.Devices.set c.toNat (oF w K v b (aF w c))}:=by unfold kP;rw[hs]
 obtain⟨bx,F,N,e4,O,Q⟩:=aVj (w:=kP w c) (b:=c) (k:=2) (p:=aS (aF w x).Store) (key:=nZ (aF (kP w c) c).Store) (l:=mY w c x) (by rw[u,y];rfl) k5;obtain⟨g1,R,g3⟩:=bDp N;have j:∀q∈aC (mY w c x),q∈aC w.aAA.Log:=(by simp_all);have f:BoxIn (mY w c x) bx (aGa w c x):=by have:=O λq hq=>h.keys q (j q hq);rw[u] at this;exact this
 have G:aJg w c x=mY w c x:=Q;have h2:(Jw w c x).1={oF w K v b (aF w c) with Log:=mY w c x,Key:=aGa w c x,Epoch:=aB (mY w c x),Version:=0}:=by have:=bNk k6;unfold Jw;rw[this,G,u];rfl
 have a:=h.aDM A (T:=(t:Int)) (by omega) (cI _) o k4;have V:=f.eps;have hv:=h.ver;have W:dO (Ja w K v b c x)=({Ja w K v b c x with Version:=1},fA (aGa w c x) (aB (mY w c x)) 1 (Ja w K v b c x).aAC,true):=by
  have:=aNu (d:=Ja w K v b c x) A.ks (T:=(t:Int)+2) (by omega) (by rw[a.key];exact f.kok) (by rw[a.ep];grind) (by rw[a.ver];simp) a.bun;have X:(Ja w K v b c x).Key=aGa w c x:=a.key;have Z:(Ja w K v b c x).Epoch=aB (mY w c x):=a.ep;have f3:(Ja w K v b c x).Version+1=1:=by rw[show(Ja w K v b c x).Version=0 from a.ver];rfl
  refine this.trans ?_;rw[f3,<-X,<-Z]
 have H:bQ {w.aAA with Log:=mY w c x,Boxes:=bx} (fA (aGa w c x) (aB (mY w c x)) 1 (Ja w K v b c x).aAC)=({w.aAA with Log:=mY w c x,Boxes:=bx,History:=w.aAA.History++[fA (aGa w c x) (aB (mY w c x)) 1 (Ja w K v b c x).aAC]},true):=by
  refine aF9 rfl ?_ λl hl=> ?_
  ·show w.aAA.History.length<60;rw[h.hist];simp;omega
  ·have hl:w.aAA.History.getLast? =some l:=hl;rw[h.hist,ig] at hl
   grind[decide_eq_true,decide,aB,mY,lH,fA]
 have I:U7 w c x={w with Devices:=w.Devices.set c.toNat (Ja w K v b c x),Sites:=w.Sites.map (gG x),aAA:={w.aAA with Log:=mY w c x,Boxes:=bx}}:=by unfold U7;rw[h2];have F:lK w c x=({kP w c with aAA:={(kP w c).aAA with Log:=mY w c x,Boxes:=bx}},true):=F;rw[F,y];show(AA.mk _ _ ((w.Devices.set c.toNat _).set c.toNat _) _ _ _ _ _ _ _)=_;rw[d8];rfl
 have h3:Iw w c x=(bGf w K v b bx c x,true):=by
  unfold Iw Nl;have:aF (U7 w c x) c=Ja w K v b c x:=by
   grind[List.getD,List.getElem?_set_self,default,aF]
  rw[this,W,I];show(bif true&&(bQ {w.aAA with Log:=mY w c x,Boxes:=bx} _).2 then(({w with Devices:=(w.Devices.set c.toNat _).set c.toNat _,Sites:=_,aAA:=(bQ {w.aAA with Log:=mY w c x,Boxes:=bx} _).1}:AA),true) else _)=_;rw[H,d8];rfl
 have L:eO w c x=(nY (bGf w K v b bx c x) 4,true):=by
  grind[aH,hs,k2,k3,k4,k5,k6,eO,lQ]
 have z:=(h.wi.cut c x).1;rw[L] at z;refine⟨bx,L,z,f,λp hp=>h.devs p (j p hp),λp hp=> ?_,?_,λs hs=> ?_,a.bun.mono (by omega),by omega,?_⟩
 ·have hp:gD (mY w c x) p=true:=hp;rw[R,cp] at hp;rcases hp with hp|hp
  ·exact h.rem p hp
  ·rw[<-eq_of_beq hp];have:=(h.aDN (mG k4)).symm.trans k4;rw[lC] at this;rw[M,h.pub D];exact h.devs _ this
 ·show w.aAA.History++[_]=_;rw[h.hist];rfl
 ·have hle:s.Epoch<=aB w.aAA.Log:=by
   rcases bp.1 hs with hs|hs
   ·exact(h.old s hs).low
   ·rw[cj.1 hs];exact cI _
  refine⟨?_,λhe=> ?_⟩
  ·show s.Epoch<=aB (mY w c x);omega
  ·have he:s.Epoch=aB (mY w c x):=he;omega
 ·have:∀k (hk:k<(w.Devices.set c.toNat {Ja w K v b c x with Version:=1}).length),Dv S ((t+3:Nat):Int) (mY w c x) (aGa w c x) (aB (mY w c x)) 1 (w.Devices.set c.toNat {Ja w K v b c x with Version:=1})[k]:=λk hk=>by
   rw[eL];rw[aq] at hk;split
   ·exact⟨⟨[],by show mY w c x=(Ja w K v b c x).Log++[];rw[a.log];simp⟩, .inr ⟨a.ep,cI 1⟩,λ_=>a.key,a.bun.mono (by omega)⟩
   ·have q:=h.dev k hk;obtain⟨r',hr⟩:=q.pre;have J:w.Devices[k].Epoch<aB (mY w c x):=by rcases q.at_ with q|q<;>omega
    exact⟨⟨r'++[vM w.aAA.Log 2 (aS (aF w x).Store) (aF w c).Store],by unfold mY;rw[<-ck,<-hr]⟩, .inl J,λhe=>by omega,q.bun.mono (by omega)⟩
  exact this
theorem Net.cut (h:Net S t m w K v r b)(d:KeyD S)(ht:t<=800000)(hr:r.length<=58){c x:Int}(a:(eO w c x).2=true):
  ∃bx,eO w c x=(nY (bGf w K v b bx c x) 4,true)/\Net S (t+3) m (nY (bGf w K v b bx c x) 4) (aGa w c x) 1 (r++[fA K (aB w.aAA.Log) v b]) (Ja w K v b c x).aAC:=by
 obtain⟨k1,k2,k3,k4,k5,k6,k7,k8⟩:=bDq a;exact h.aDL d ht hr (h.inl k1) k2 k3 k4 k5 k6
end
end Go.VK
set_option maxRecDepth 100000
namespace Go.VK
open D
def Va (w:AA)(d j:Int)(o:AS):((fT w d j o).1=w/\(fT w d j o).2.2=1)\/(dS w d j=true/\(gZ w j).2.2.2=true/\(fT w d j o).1=aQh w d j o/\(fT w d j o).2.2=2/\((Au w d j o).2.1==0)=false)\/
  (dS w d j=true/\(gZ w j).2.2.2=true/\(fT w d j o).1=nY (aQh w d j o) 1/\(fT w d j o).2.2=0/\((Au w d j o).2.1==0)=true):=by
 grind[dS,gZ,Au,fT]
def Kc {w:AA}{d j:Int}(h:dS w d j=true):aR w=true/\aO w d=true/\nI w j=true:=by
 grind[dS]
section
variable {S:List (Int×Int)} {t m:Nat} {w:AA} {K v:Int} {r:List AJ} {b:AB}
def Net.visit (h:Net S t m w K v r b)(d j:Int)(o:AS):Net S t m (fT w d j o).1 K v r b:=by
 have c:=h.wi.visit d j o;have key:∀u,WIn m u->dS w d j=true->u.Seed=w.Seed->u.aAA=w.aAA->u.Devices=(aQh w d j o).Devices->Net S t m u K v r b:=λu l ht p q f=>by
  obtain⟨hl,e⟩:=kC (Kc ht).2.1;have a:=h.dev _ hl;rw[<-e] at a;refine h.upd p q (by rw[f];exact aq ..) l (by rw[f];exact h.set hl ⟨a.pre,a.at_,a.key,a.bun⟩)
 rcases Va w d j o with⟨e,_⟩|⟨ht,_,e,_,_⟩|⟨ht,_,e,_,_⟩
 ·simp[*]
 ·rw[e] at c ⊢;exact key _ c ht rfl rfl rfl
 ·rw[e] at c ⊢;exact key _ c ht rfl rfl rfl
def Net.same (h:Net S t m w K v r b){u:AA}(c:WIn m u)(d:u.Seed=w.Seed)(e:u.aAA=w.aAA)(a:u.Devices=w.Devices):Net S t m u K v r b:=
 h.upd d e (by rw[a]) c (by rw[a];exact h.dev)
def Net.aBS (h:Net S t m w K v r b)(d:Int):Net S t m (jF w d).1 K v r b:=by
 have:=(h.wi.aBS d).1;unfold jF at this ⊢;cases hb:dS w d 0&& !dV w d with
 |false=>exact h
 |true=>rw[hb] at this;exact h.same this rfl rfl rfl
end
def M4 (Q:AV->Prop)(s:AD):Prop:=∀a∈s.Accounts,∀c∈a.Credentials,Q c
def aVl (P:Int->Prop)(s:AD):Prop:=M4 (λc=>P c.Handle->c.Cut=true) s
def aJh (log:List AF)(seed q:Int):Prop:=gD log (lL seed q.toNat)=true
def Em (w:AA):Prop:=∀s∈w.Sites,aVl (aJh w.aAA.Log w.Seed) s
def bNl {a:AH}{x:AX}{z:ByteArray}{q:Int}{d:AV}(h:d∈(jE a x z q).1.Credentials):∃c∈a.Credentials,c.Handle=d.Handle/\(c.Cut=true->d.Cut=true):=by
 unfold jE at h
 grind[bA,decide,aU,gB,id,Bool.or_eq_false_iff,wO,List.getD,List.getElem?_eq_getElem,Int.toNat_natCast,List.mem_or_eq_of_mem_set,List.getElem_mem,jD]
def aVl.finish {P:Int->Prop}{seed j:Int}{n:Nat}{s:AD}(hs:SiteIn seed j n s)(h:aVl P s)(c t:Int)(x:AX):aVl P (lS s 1 c t x).1:=by
 have p:=hs.find;obtain⟨l,e,hl,hn⟩:=hs.acc;have q:fI s 0=⟨1,3,l⟩:=by grind[fI]
 have d:aVl P {s with Accounts:=s.Accounts.set (0:Int).toNat (jE ⟨1,3,l⟩ x s.Name (eF s.Book c)).1}:=λa f A o hp=>by
  have f:a∈s.Accounts.set (0:Int).toNat (jE ⟨1,3,l⟩ x s.Name (eF s.Book c)).1:=f;rw[e] at f;have f:a=(jE ⟨1,3,l⟩ x s.Name (eF s.Book c)).1:=by simp_all
  subst f;obtain⟨u,y,D,z⟩:=bNl o;exact z (h ⟨1,3,l⟩ (by grind) u y (by simp[*]))
 unfold lS;rw[p];cases !bI s||decide ((0:Int)<0) with
 |true=>exact h
 |false=>
  simp only[ae];cases !(nM s.Book c 1 t).2 with
  |true=>exact h
  |false=>
   simp only[ae];cases !oC (fI s 0) 3 with
   |true=>exact h
   |false=>
    simp only[ae,q];cases !((jE ⟨1,3,l⟩ x s.Name (eF s.Book c)).2==0) with
    |true=>exact d
    |false=>exact d
def bBh (s:AD)(i n:Int):(jY s i n).1.Accounts=s.Accounts/\(jY s i n).1.Logins=s.Logins/\(jY s i n).1.Name=s.Name:=by unfold jY;cases bI s&&(!decide (aJ s i<0)&&(eU s.Book i n).2.2)<;>exact⟨rfl,rfl,rfl⟩
section
variable {m:Nat} {w:AA}
def aLd (h:WIn m w){j:Int}(hj:nI w j=true):∃hl:j.toNat<w.Sites.length,bT w j=w.Sites[j.toNat]/\(j=0\/j=1)/\SiteIn w.Seed j m (bT w j):=by
 simp only[nI,aa,cu] at hj;have h2:=h.two;have hl:j.toNat<w.Sites.length:=by omega
 have e:bT w j=w.Sites[j.toNat]:=by unfold bT;rw[List.getD,ab hl,cM]
 refine⟨hl,e,by omega,?_⟩;have:=h.site _ hl
 grind
def Em.visit (h:WIn m w)(hc:Em w)(d j:Int)(o:AS):Em (fT w d j o).1:=by
 have key:dS w d j=true->Em (aQh w d j o):=λht=>by
  obtain⟨hl,e,hj,hs⟩:=aLd h (Kc ht).2.2;intro s hm;have hm:s∈w.Sites.set j.toNat (Au w d j o).1:=hm;show aVl (aJh w.aAA.Log w.Seed) s;rcases e8 hm with hm|rfl
  ·exact hc s hm
  ·have hb:=hs.begin 1 w.Now;refine aVl.finish hb (λa c=> ?_) _ _ _;have c:a∈(jY (bT w j) 1 w.Now).1.Accounts:=c;rw[(bBh _ _ _).1] at c;exact hc (bT w j) (by simp[*]) a c
 rcases Va w d j o with⟨e,_⟩|⟨ht,_,e,_,_⟩|⟨ht,_,e,_,_⟩
 ·simp[*]
 ·simp[*]
 ·rw[e];exact key ht
def Em.same (hc:Em w){u:AA}(d:u.Seed=w.Seed)(f:u.aAA.Log=w.aAA.Log)(h:∀s∈u.Sites,∃s'∈w.Sites,s.Accounts=s'.Accounts):Em u:=λs hs=>by
 obtain⟨s',hm,e⟩:=h s hs;rw[d,f];intro a c;rw[e] at c;exact hc s' hm a c
def Em.keep (hc:Em w){u:AA}(a:u.Seed=w.Seed)(c:u.aAA.Log=w.aAA.Log)(d:u.Sites=w.Sites):Em u:=hc.same a c λs hs=>(by grind)
def bDr {Q:AV->Prop}{s:AD}(h:M4 Q s){id q p:Int}(hq:Q ⟨q,p,0,false⟩):M4 Q (dI s id q p).1:=by
 unfold dI;cases hb: !bI s||decide (aJ s id<0) with
 |true=>exact h
 |false=>
  rw[ae];cases h2:(fE (s.Accounts.getD (aJ s id).toNat default) q p).2 with
  |false=>exact h
  |true=>
   intro a d c hc;rw[bj] at hb;obtain⟨k,hk,e,o⟩:=wO (l:=s.Accounts) hb.2;have f:aJ s id=(k:Int):=e.trans (by simp);have j:s.Accounts.getD (aJ s id).toNat default=s.Accounts[k]:=by rw[f,bm,List.getD,ab hk,cM]
   have d:a∈s.Accounts.set (aJ s id).toNat (fE (s.Accounts.getD (aJ s id).toNat default) q p).1:=d;rcases e8 d with d|d
   ·exact h a d c hc
   ·rw[j] at d;have hm:c∈s.Accounts[k].Credentials\/c=⟨q,p,0,false⟩:=by
     grind[bA,D7,D6,List.mem_singleton,List.mem_of_mem_take,List.mem_of_mem_drop,fE]
    rcases hm with hm|rfl
    ·exact h _ (ce hk) c hm
    ·exact hq
def aNx {Q:AV->Prop}{st:AI}{q:Int}(hq:∀p,Q ⟨q,p,0,false⟩):∀{l:List AD} {j:Nat},(∀s∈l,M4 Q s)->∀s∈(eH st q j l).1,M4 Q s
 |[],j,_,s,hs=>by simp[eH] at hs
 |x::l,j,h,s,hs=>by
  unfold eH at hs;cases hb:(dI x 1 q (cK st (aA (j:Int)) q)).2&&(eH st q (j+1) l).2 with
  |false=>rw[hb] at hs;simp at hs
  |true=>
   rw[hb,ac] at hs;rcases bf.1 hs with rfl|hs
   ·exact bDr (h x (cN ..)) (hq _)
   ·exact aNx hq (λs hs=>h s (cJ _ hs)) s hs
def bDs {seed j:Int}{l:List AV}(h:Oo seed j l){k:Nat}(hk:k<l.length):aU ⟨1,3,l⟩ (k:Int)=(k:Int):=by
 have hd:decide (aU ⟨1,3,l⟩ (k:Int)<0)=false:=by rw[cC];intro hn;have:=Js (p:=λc:AV=>c.Handle==(k:Int)) hn l[k] (ce hk);rw[(h k hk).1,dk] at this;cases this
 obtain⟨i,hi,a,d⟩:=wO (l:=l) hd;have:=(h i hi).1
 grind[aU]
def bKr {seed j:Int}{n:Nat}{s:AD}(hj:j=0\/j=1)(hn:n<=6)(hs:SiteIn seed j n s){k:Nat}(hk:k<n):∃l l',s.Accounts=[⟨1,3,l⟩]/\(gG (k:Int) s).Accounts=[⟨1,3,l'⟩]/\l'.length=l.length/\Oo seed j l/\Oo seed j l'/\
  (∀c∈l',c.Handle=(k:Int)->c.Cut=true)/\(∀i (h1:i<l.length) (h2:i<l'.length),i≠k->l'[i]=l[i])/\(∀d∈l',∃c∈l,c.Handle=d.Handle/\c.Counter=d.Counter/\(c.Cut=true->d.Cut=true))/\(gG (k:Int) s).Logins=s.Logins/\(gG (k:Int) s).Book=s.Book:=by
 have z:=hs.find;obtain⟨l,e,hl,f⟩:=hs.acc;subst f;have A:fI s 0=⟨1,3,l⟩:=by grind[fI]
 have o:=bDs hl hk;have p:gB ⟨1,3,l⟩ (k:Int)=l[k]:=by grind[List.getD,List.getElem?_eq_getElem,gB]
 have q:=aNi (m:=3) hj hl hn (by grind);have x:gG (k:Int) s={s with Accounts:=[(nL ⟨1,3,l⟩ (k:Int)).1]}:=by unfold gG;simp[*]
 have y:∀{l':List AV},Oo seed j l'->∀c∈l',c.Handle=(k:Int)->∃h:k<l'.length,c=l'[k]:=λa c hc D=>by
  obtain⟨i,hi,e⟩:=cR.1 hc;have:=(a i hi).1
  grind
 rw[x];unfold nL;rw[q,o,p,av (show ¬(k:Int)<0 by omega)];cases u:l[k].Cut with
 |true=>
  grind
 |false=>
  have a:Oo seed j (l.set k {l[k] with Cut:=true}):=hl.set hk rfl rfl (hl k hk).2.2
  grind
end
end Go.VK
set_option maxRecDepth 100000
namespace Go.VK
open D
def bBi:List (Int×Int):=[(1941999745,0),(1941999745,1),(1941999745,2),(1941999745,3),(1941999745,4),(1941999745,5),(1464438180,0),(1464438180,1),(1464438180,2),(1464438180,3),(1464438180,4),(1464438180,5)]
def bNm {x:List (Int×Int)}(h:x.length<=8)(hx:∀p∈x,(0<=p.1/\p.1<=2147483646)/\(0<=p.2/\p.2<=1000000)):KeyD (bBi++x):=by
 refine⟨⟨by rw[ax];show 12+x.length<=20;omega,λp hp=> ?_⟩,λq hq=> ?_⟩
 ·rcases bp.1 hp with hp|hp
  ·have:∀p∈bBi,(0<=p.1/\p.1<=2147483646)/\(0<=p.2/\p.2<=1000000):=by decide
   simp[*]
  simp[*]
 simp_all[bTh,bTi,bBi,ie];omega
def bKs {x:List (Int×Int)}{n:Nat}(h:n=1\/n=2\/n=3):BunIn (bBi++x) 3 (nwB n).Entries:=by
 refine⟨(aMx (bBb h).1).2,λe he=>ie _ ?_,λe he=> ?_⟩
 ·rcases h with rfl|rfl|rfl<;>revert e<;>decide
 ·rcases h with rfl|rfl|rfl<;>revert e<;>decide
def bNn {x:List (Int×Int)}{n k t pin seed:Int}(h:zM n k t pin seed=true):Net (bBi++x) 3 (bG n k t pin seed).Devices.length (bG n k t pin seed) (bK seed 0) 1 [] (nwB n.toNat):=by
 obtain⟨a,c,l⟩:=Uw h;have hn:n.toNat=1\/n.toNat=2\/n.toNat=3:=by unfold zM at h;simp only[aa] at h;have:=iA h.1;omega
 obtain⟨h1,h2,o,d,q⟩:=rP seed n.toNat (by omega);have f:(bG n k t pin seed).aAA=⟨aX seed n.toNat,gU seed n.toNat,[fA (bK seed 0) 0 1 (nwB n.toNat)]⟩:=by
  grind[Ka,bG]
 have s:(bG n k t pin seed).Devices=(List.range n.toNat).map λk=>Ps seed n.toNat k 1 (nwB n.toNat):=by
  grind[aIv,bG]
 rw[c];refine⟨a,by grind[aNq],λp hp=> ?_,λp hp=> ?_,?_,(by simp),bKs hn,by decide,λi hi=> ?_⟩
 ·grind
 ·simp_all
 ·simp[*]
 ·rw[f];show Dv _ _ (aX seed n.toNat) _ (aB (aX seed n.toNat)) 1 (bG n k t pin seed).Devices[i];have j:i<((List.range n.toNat).map λk=>Ps seed n.toNat k 1 (nwB n.toNat)).length:=by simp_all
  have e:(bG n k t pin seed).Devices[i]=Ps seed n.toNat i 1 (nwB n.toNat):=by simp[*]
  rw[e,d];exact⟨⟨[],by show _=aX seed n.toNat++[];simp⟩, .inr ⟨rfl,cI _⟩,λ_=>rfl,bKs hn⟩
def bNo {n k t pin seed:Int}(h:zM n k t pin seed=true):Em (bG n k t pin seed):=λs hs a e c hc hp=>by
 have hn:n.toNat=1\/n.toNat=2\/n.toNat=3:=by unfold zM at h;simp only[aa] at h;have:=iA h.1;omega
 have d:(bG n k t pin seed).aAA.Log=aX seed n.toNat:=by unfold bG;rw[h];show(iK seed n.toNat).Log=_;rw[Ka hn]
 unfold aJh at hp;rw[d,(rP seed n.toNat (by omega)).rem] at hp;cases hp
section
variable {S:List (Int×Int)} {t m:Nat} {w:AA} {K v:Int} {r:List AJ} {b:AB}
theorem aVm {w:AA}{c:Int}(h:(bY w c).2=false):bY w c=(w,false):=by
 grind[qN,bY]
def V8 {w:AA}{c:Int}(h:(bY w c).2=true):qN w c=true:=by
 grind[qN,bY]
theorem Em.add (h:Net S t w.Devices.length w K v r b)(f:KeyD S)(ht:t<=800000)(hr:r.length<=58)(hc:Em w)(a:Int):Em (bY w a).1:=by
 cases hk:(bY w a).2 with
 |false=>grind[aVm]
 |true=>
  obtain⟨n1,u1,u2,n2,eA,u3,j,u4⟩:=h.add f ht hr (V8 hk);have d:aW (vN w a)=true:=by rw[<-u3];exact n1.wi.log
  obtain⟨x,l,y⟩:=aVk d;have hd:=h.wi.dlen;have o:=n1.wi.mle;have eP:aJh (vN w a) w.Seed=aJh w.aAA.Log w.Seed:=by funext q;unfold aJh;rw[l]
  have p:¬aJh (vN w a) w.Seed (w.Devices.length:Int):=λhq=>by
   rw[eP] at hq;obtain⟨k,hk,e⟩:=h.rem _ hq
   grind[aLb,Int.toNat_natCast]
  rw[eA];intro s hs;show aVl (aJh (Uz w K v b a).aAA.Log (Uz w K v b a).Seed) s;rw[u3,u2];have hs:s∈(Rf w a).1:=hs;have es:(add1 w a).1.Sites=w.Sites:=by obtain⟨z,A,D,u,_⟩:=Az (aH w a 0).1 a 1 (aS (aM w.Seed (w.Devices.length:Int))) (λ_=>(aF (aH w a 0).1 a).Key);exact u.trans (fK w a 0).2.2.2.1
  unfold Rf at hs;rw[es] at hs;exact aNx (Q:=λc=>aJh (vN w a) w.Seed c.Handle->c.Cut=true) (by simp[*]) (λs hs=>by rw[eP];exact hc s hs) s hs
theorem Em.cut (h:Net S t m w K v r b)(hm:m=w.Devices.length)(A:KeyD S)(ht:t<=800000)(hr:r.length<=58)(hc:Em w)(c x:Int):Em (eO w c x).1:=by
 cases hk:(eO w c x).2 with
 |false=>grind[bBg]
 |true=>
  obtain⟨bx,e,n1⟩:=h.cut A ht hr hk;obtain⟨k1,k2,k3,k4,_⟩:=bDq hk;obtain⟨q,D⟩:=kC (mG k4);obtain⟨F,_,_⟩:=xJ (mG k4);have o:aW (mY w c x)=true:=n1.wi.log;obtain⟨N,G,O⟩:=bDp o;have hd:=h.wi.dlen;have y:=h.wi.mle;rw[e];intro s hs;have hs:s∈w.Sites.map (gG x):=hs;obtain⟨s',p,rfl⟩:=cr.1 hs;obtain⟨j,hj,es⟩:=cR.1 p;have h2:=h.wi.two;have f:=h.wi.site j hj;rw[es] at f;obtain⟨l,l',q1,q2,q3,q4,q5,q6,q7,q8,_⟩:=bKr (j:=(j:Int)) (by omega) h.wi.mle f (k:=x.toNat) (by omega);rw[en F] at q2 q6;show aVl (aJh (mY w c x) w.Seed) _;intro a u z d hp;rw[q2] at u;have u:a=⟨1,3,l'⟩:=by simp_all
  subst u;have d:z∈l':=d;unfold aJh at hp;rw[G,cp] at hp;rcases hp with hp|hp
  ·obtain⟨H,I,Q,_,J⟩:=q8 z d;exact J (hc s' p ⟨1,3,l⟩ (by simp[*]) H I (by grind[aJh]))
  ·have hp:=eq_of_beq hp;rw[D,h.pub q] at hp;obtain⟨i,hi,L⟩:=cR.1 d;have M:=(q5 i hi).1;rw[L] at M;have hl:=f.acc
   grind[q6,aLb,Int.toNat_natCast,q1]
end
def bKt (M:Int)(k:A3):Prop:=k.Guesses<=k.Limit/\Ud k<=M
def bKu (h:AO):Prop:=bKt h.Monotonic h.State/\∀k∈h.Saved,bKt h.Monotonic k
def bKt.mono {M N:Int}{k:A3}(h:bKt M k)(hm:M<=N):bKt N k:=⟨h.1,fe h.2 hm⟩
def aLe (l:List AO):Prop:=∀h∈l,bKu h
theorem bGg {k:A3}(h:k.Guesses<=k.Limit):bKu (Ez k):=⟨⟨h,cI _⟩,λk hk=>by simp[Ez] at hk⟩
end Go.VK
set_option maxRecDepth 100000
namespace Go.VK
open D
structure All (S:List (Int×Int)) (t:Nat) (w:AA):Prop where
 net:∃K v r b,Net S (3+3*t) w.Devices.length w K v r b/\r.length<=t
 cut:Em w
 hosts:aLe w.Hosts
def All.wi {S:List (Int×Int)}{t:Nat}{w:AA}(h:All S t w):WIn w.Devices.length w:=let ⟨_,_,_,_,n,_⟩:=h.net;n.wi
def All.mono {S:List (Int×Int)}{t u:Nat}{w:AA}(h:All S t w)(a:t<=u):All S u w:=
 let ⟨K,v,r,b,n,hr⟩:=h.net;⟨⟨K,v,r,b,n.mono (by omega),by omega⟩,h.cut,h.hosts⟩
def bGh {n k t pin seed:Int}:aLe (bG n k t pin seed).Hosts:=by
 unfold bG;cases zM n k t pin seed with
 |false=>intro h a;grind[aK8]
 |true=>
  intro h a
  grind[aK7,aV,xI,U8,Ez,bGg,w9,Iz]
def bNp {x:List (Int×Int)}{n k t pin seed:Int}(h:zM n k t pin seed=true):All (bBi++x) 0 (bG n k t pin seed):=
 ⟨⟨_,_,_,_,bNn (x:=x) h,ak _⟩,bNo h,bGh⟩
section
variable {S:List (Int×Int)} {t:Nat} {w:AA}
def All.of (h:All S t w){u:AA}{t':Nat}(ht:t<=t')(hn:∀K v r b,Net S (3+3*t) w.Devices.length w K v r b->Net S (3+3*t') w.Devices.length u K v r b)(hl:u.Devices.length=w.Devices.length)(hc:Em u)(a:aLe u.Hosts):All S t' u:=
 let ⟨K,v,r,b,n,hr⟩:=h.net;⟨(by grind),hc,a⟩
def All.visit (h:All S t w)(d j:Int)(o:AS):All S t (fT w d j o).1:=
 h.of (ak _) (λK v r b n=>n.visit d j o) (V7 w d j o).2 (h.cut.visit h.wi d j o) (by rw[aYv];exact h.hosts)
def All.aBS (h:All S t w)(d:Int):All S t (jF w d).1:=
 h.of (ak _) (λK v r b n=>n.aBS d) (h.wi.aBS d).2.2 (by
  unfold jF;cases dS w d 0&& !dV w d with
  |false=>exact h.cut
  |true=>exact h.cut.keep rfl rfl rfl) (by rw[aYx];exact h.hosts)
def All.sync (h:All S t w)(a:KeyD S)(ht:t<=58)(d c:Int):All S t (aH w d c).1:=
 h.of (ak _) (λK v r b n=>n.sync a.ks (by omega) d c) (fK w d c).2.2.1 (h.cut.keep (fK w d c).1 (by rw[(fK w d c).2.2.2.2.2]) (fK w d c).2.2.2.1) (by rw[Bb];exact h.hosts)
def aNy (w:AA)(d:Int)(n:ByteArray)(a:Int)(f:Bool):(lX w d n a f).1.aAA=w.aAA/\(lX w d n a f).1.Sites=w.Sites:=by
 grind[aR,aO,bO,aF,lX]
def All.aCQ (h:All S t w)(c:KeyD S)(ht:t<=58)(d:Int){n:ByteArray}{a:Int}(hk:(bH n,a)∈S)(f:Bool):All S (t+1) (lX w d n a f).1:=
 h.of (eu _) (λK v r b q=>(q.aCQ c.ks (by omega) d hk f).mono (by omega)) (y7 w d n a f).2 (h.cut.keep (y7 w d n a f).1 (by rw[(aNy w d n a f).1]) (aNy w d n a f).2) (by rw[bBc];exact h.hosts)
def All.push (h:All S t w)(a:KeyD S)(ht:t<=58)(d:Int):All S (t+1) (fD w d).1:=by
 obtain⟨K,v,r,b,n,hr⟩:=h.net;obtain⟨c,o,e,f,p,j⟩:=rO w d;have hc:Em (fD w d).1:=h.cut.keep c j f;have l:aLe (fD w d).1.Hosts:=by rw[aNs];exact h.hosts
 cases hl:bZ w d with
 |false=>rw[n.aCL hl];exact h.mono (by omega)
 |true=>
  have:=n.aBZ a.ks (by omega) (by omega) hl;refine⟨⟨K,v+1,r++[fA K (aB w.aAA.Log) v b],⟨bM (aF w d).aAC.Entries b.Entries⟩,?_,by simp;omega⟩,hc,l⟩
  ·rw[e,n.aBH a.ks (by omega) (by omega) hl];exact this.mono (by omega)
theorem All.add (h:All S t w)(a:KeyD S)(ht:t<=58)(d:Int):All S (t+1) (bY w d).1:=by
 obtain⟨K,v,r,b,n,hr⟩:=h.net;cases hk:(bY w d).2 with
 |false=>rw[aVm hk];exact h.mono (by omega)
 |true=>
  obtain⟨n1,u1,u2,n2,eA,u3,c,u4⟩:=n.add a (by omega) (by omega) (V8 hk);refine⟨⟨K,v+1,r++[fA K (aB w.aAA.Log) v b],bBf w K v b d,?_,by simp;omega⟩,Em.add n a (by omega) (by omega) h.cut d,by rw[bGa];exact h.hosts⟩
  ·have hl:(bY w d).1.Devices.length=w.Devices.length+1:=by rw[eA];show((Uz w K v b d).Devices++[_]).length=_;simp[*]
   grind
def All.aDR (h:All S t w)(a:KeyD S)(ht:t<=58)(d x:Int):All S (t+1) (eO w d x).1:=by
 obtain⟨K,v,r,b,n,hr⟩:=h.net;cases hk:(eO w d x).2 with
 |false=>rw[bBg hk];exact h.mono (by omega)
 |true=>obtain⟨bx,e,n1⟩:=n.cut a (by omega) (by omega) hk;refine⟨⟨aGa w d x,1,r++[fA K (aB w.aAA.Log) v b],(Ja w K v b d x).aAC,?_,by simp;omega⟩,Em.cut n rfl a (by omega) (by omega) h.cut d x,by rw[bGb];exact h.hosts⟩;rw[(h.wi.cut d x).2.2,e];assumption
end
end Go.VK
set_option maxRecDepth 100000
namespace Go.VK
open D
section
variable {S:List (Int×Int)} {t m:Nat} {w:AA} {K v:Int} {r:List AJ} {b:AB}
structure Settled (S:List (Int×Int)) (t:Nat) (w:AA) (K:Int) (r:List AJ) (b:AB) (y:AA) (v':Int) (r':List AJ) (b':AB):Prop where
 eq:bM4 w=(y,true)
 net:Net S (t+w.Devices.length) w.Devices.length y K v' r' b'
 rlen:r'.length<=r.length+w.Devices.length
 log:y.aAA.Log=w.aAA.Log
 seed:y.Seed=w.Seed
 stolen:y.Stolen=w.Stolen
 len:y.Devices.length=w.Devices.length
 sites:y.Sites=w.Sites
 hosts:y.Hosts=w.Hosts
 reach:Ao y=Ao w
 own:∀d∈Ao w,(aF y d).aAC=b'/\(aF y d).Epoch=aB w.aAA.Log/\(aF y d).Version=v'/\(aF y d).Key=K
 other:∀d,aO w d=true->(aF y d).Store=(aF w d).Store/\(d∉Ao w->aF y d=aF w d)
 sub:∀d∈Ao w,Sub (aF w d).aAC.Entries b'.Entries
 last:Sub b.Entries b'.Entries
 mem:∀e∈b'.Entries,e∈b.Entries\/∃d∈Ao w,e∈(aF w d).aAC.Entries
end
end Go.VK
set_option maxRecDepth 100000
namespace Go.VK
open D
theorem bKv (s:AI)(o:AS)(z:ByteArray)(i c:Int)(p:Bool):iJ s o z i c p=(s,bFp,false)\/(jZ o z=true/\jR s=true/\s.Counter<1000000/\iJ s o z i c p=({s with Counter:=s.Counter+1},{Iy s o z i c p with Counter:=s.Counter+1,Signature:=qL (dH s z i) (dG (Iy s o z i c p)++[s.Counter+1])},true)):=by
 unfold iJ;cases hm:jZ o z with
 |false=>simp
 |true=>
  unfold iZ;cases hs:jR s&& !(s.Counter==1000000) with
  |false=>simp
  |true=>
   simp only[aa,bo,co] at hs;have hc:=hs.1;unfold jR at hc;simp only[aa] at hc;have hr:=iA hc.2.2.2
   grind[bJs,aL]
def bDt {s:AI}{o:AS}{z:ByteArray}{i c:Int}{p:Bool}(h1:jZ o z=true)(h2:jR s=true)(a:s.Counter<1000000):iJ s o z i c p=({s with Counter:=s.Counter+1},{Iy s o z i c p with Counter:=s.Counter+1,Signature:=qL (dH s z i) (dG (Iy s o z i c p)++[s.Counter+1])},true):=by
 grind[iJ,iZ,beq_eq_false_iff_ne,bKv]
def bO5 {seed:Int}{k:Nat}{s:AI}(h:StIn seed k s)(hk:k<6):jR s=true:=by unfold jR;rw[h.ven,h.ser,h.key,iE (show(0:Int)<=(k:Int) by omega) (by omega),iE h.cnt.1 h.cnt.2];show(true&&(true&&(bN (aV seed [277,(k:Int)])&&true)))=true;rw[gM];rfl
def aNz {b:AR}(h:BookIn b)(hn:b.Next<1000000){now:Int}(ht:0<=now/\now<=999900):eU b 1 now=((eU b 1 now).1,⟨b.Next,1,now+5⟩,true)/\(eU b 1 now).1.Next=b.Next+1/\(nM (eU b 1 now).1 b.Next 1 now).2=true:=by
 have q:=Oq h.ok;have hq:=(aCw h 1 now).1;have s:IntKind.i64.wrap (now+5)=now+5:=(by grind[aL]);have u:0<=b.Next:=by have:=h.ok;unfold fQ at this;simp only[aa] at this;exact(iA this.1.1).1
 have f:eU b 1 now=(⟨b.Seed,b.Next+1,(bif decide ((b.Open.length:Int)>=16) then b.Open.drop 1 else b.Open)++[⟨b.Next,1,now+5⟩]⟩,⟨b.Next,1,now+5⟩,true):=by unfold eU aCs;rw[h.ok,co.2 (show b.Next≠1000000 by omega),iE (show(0:Int)<=1 by decide) (by decide),iE ht.1 (by omega),s,aL (by omega) (by omega)];rfl
 refine⟨by rw[f],by rw[f],?_⟩;have j:∀c∈b.Open,c.Id<=b.Next-1:=λc hc=>by
  have:=h.ok;unfold fQ at this;simp only[aa,bo] at this;obtain⟨i,hi,e⟩:=cR.1 hc;have h2:=Om this.2 i hi;unfold iC at h2;simp only[bj,cF] at h2;have:=(iA h2.1).2
  grind[aL]
 have hm:∀c∈(eU b 1 now).1.Open,c.Id=b.Next->c=⟨b.Next,1,now+5⟩:=(by grind[decide,List.mem_of_mem_drop,List.mem_singleton]);have d:(⟨b.Next,1,now+5⟩:AZ)∈(eU b 1 now).1.Open:=by simp[*]
 have o:decide (eG (eU b 1 now).1 b.Next<0)=false:=by
  rw[cC];intro a;have:=Js (p:=λc:AZ=>c.Id==b.Next) a _ d
  grind
 obtain⟨k,hk,y,z⟩:=wO (l:=(eU b 1 now).1.Open) o;have x:aF4 (eU b 1 now).1 (eG (eU b 1 now).1 b.Next)=⟨b.Next,1,now+5⟩:=by
  grind[List.getElem_mem,Int.toNat_natCast,List.getD,List.getElem?_eq_getElem,aF4,eG,eU]
 unfold nM;rw[hq.ok,o,x]
 grind
section
variable {m:Nat} {w:AA}
def bKw (h:WIn m w){d j:Int}{o:AS}(ht:dS w d j=true)(hm:d.toNat<m)(ho:jZ o (aA j)=true)(hn:(bT w j).Book.Next<1000000)(hc:(aF w d).Store.Counter<1000000)
  (D:∀a∈(bT w j).Accounts,∀(hk:d.toNat<a.Credentials.length),a.Credentials[d.toNat].Cut=false/\a.Credentials[d.toNat].Counter<=(aF w d).Store.Counter):(fT w d j o).2.2=0:=by
 obtain⟨R,t2,F⟩:=Kc ht;obtain⟨hl,es,hj,hs⟩:=aLd h F;obtain⟨d0,d1,_⟩:=xJ t2;have y:=h.mle;have hb:=Oq hs.book;obtain⟨G,T,V⟩:=aNz hb hn h.now;have H:gZ w j=({bT w j with Book:=(eU (bT w j).Book 1 w.Now).1},(bT w j).Book.Next,eF (eU (bT w j).Book 1 w.Now).1 (bT w j).Book.Next,true):=by unfold gZ jY;rw[hs.ok hj h.mle,hs.find,G];rfl
 have p:=h.aBX t2;have q:=bO5 p (by omega);have z:Rh w d j o=({(aF w d).Store with Counter:=(aF w d).Store.Counter+1},{Iy (aF w d).Store o (aA j) d (gZ w j).2.2.1 true with Counter:=(aF w d).Store.Counter+1,Signature:=qL (dH (aF w d).Store (aA j) d) (dG (Iy (aF w d).Store o (aA j) d (gZ w j).2.2.1 true)++[(aF w d).Store.Counter+1])},true):=bDt ho q hc;have c:=hs.begin 1 w.Now;rw[show(jY (bT w j) 1 w.Now)=gZ w j from rfl] at c;obtain⟨l,e,f,u⟩:=hs.acc;subst u;have x:=f d.toNat hm;obtain⟨u1,u2⟩:=D ⟨1,3,l⟩ (by grind) hm;have u2:l[d.toNat].Counter<=(aF w d).Store.Counter:=u2;have u1:l[d.toNat].Cut=false:=u1;have I:fI (gZ w j).1 0=⟨1,3,l⟩:=by grind[bT,fI]
 have J:=aNi (m:=3) hj f h.mle (by grind);have L:aU ⟨1,3,l⟩ d=(d.toNat:Int):=by have:=bDs f hm;rwa [en d0] at this ⊢
 have N:gB ⟨1,3,l⟩ (d.toNat:Int)=l[d.toNat]:=by unfold gB;rw[bm];show l.getD d.toNat default=_;rw[List.getD,ab hm,cM]
 have s:dH (aF w d).Store (aA j) d=dH (aM w.Seed (d.toNat:Int)) (aA j) (d.toNat:Int):=by rw[dH,dH,p.key,en d0]
 have hv:∀M,iI (fP (dH (aM w.Seed (d.toNat:Int)) (aA j) (d.toNat:Int))) M (qL (dH (aM w.Seed (d.toNat:Int)) (aA j) (d.toNat:Int)) M)=true:=(by simp[aNl,dH,gM]);have A:jD l[d.toNat].Public (Rh w d j o).2.1 (gZ w j).1.Name (eF (gZ w j).1.Book (gZ w j).2.1) l[d.toNat].Counter=0:=by rw[c.name,z,H];unfold jD;show(bif !((aA j).toList==(aA j).toList) then(1:Int) else bif !true then 2 else bif !(eF (eU (bT w j).Book 1 w.Now).1 (bT w j).Book.Next==eF (eU (bT w j).Book 1 w.Now).1 (bT w j).Book.Next) then 3 else bif !iI l[d.toNat].Public (dG (Iy (aF w d).Store o (aA j) d (eF (eU (bT w j).Book 1 w.Now).1 (bT w j).Book.Next) true)++[(aF w d).Store.Counter+1]) (qL (dH (aF w d).Store (aA j) d) (dG (Iy (aF w d).Store o (aA j) d (eF (eU (bT w j).Book 1 w.Now).1 (bT w j).Book.Next) true)++[(aF w d).Store.Counter+1])) then 5 else bif decide ((aF w d).Store.Counter+1<=l[d.toNat].Counter) then 4 else 0)=0;rw[x.2.1,s,show Uu w.Seed j d.toNat=fP (dH (aM w.Seed (d.toNat:Int)) (aA j) (d.toNat:Int)) from rfl,hv,av (show ¬(aF w d).Store.Counter+1<=l[d.toNat].Counter by omega)];simp
 have W:(Au w d j o).2.1=0:=by
  unfold Au lS;rw[c.ok hj h.mle,c.find];have O:(nM (gZ w j).1.Book (gZ w j).2.1 1 w.Now).2=true:=by grind
  have Q:oC (fI (gZ w j).1 0) 3=true:=by
   grind[List.any_eq_true,List.getElem_mem,u1,oC]
  have X:(Rh w d j o).2.1.Handle=d:=by rw[z];rfl
  grind[jE,fI,gZ,Rh,eF,u1,decide_eq_false]
 grind[fT]
end
end Go.VK
set_option maxRecDepth 100000
namespace Go.VK
open D
def aY0 (w:AA)(k:Nat):Int:=(w.Devices.getD k default).Store.Counter
def bO6 (w:AA)(k:Nat):Prop:=gD w.aAA.Log (lL w.Seed k)=true
def CrU (cnt:Nat->Int)(rem:Nat->Prop)(c:AV):Prop:=c.Counter<=cnt c.Handle.toNat/\(c.Cut=true->rem c.Handle.toNat)
structure Us (B:Int) (w:AA):Prop where
 cnt:∀k,k<w.Devices.length->aY0 w k<=B
 next:∀s∈w.Sites,s.Book.Next<=B
 cred:∀s∈w.Sites,M4 (CrU (aY0 w) (bO6 w)) s
def CrU.mono {cnt cnt':Nat->Int}{rem rem':Nat->Prop}(hc:∀k,cnt k<=cnt' k)(hr:∀k,rem k->rem' k){c:AV}(h:CrU cnt rem c):CrU cnt' rem' c:=⟨fe h.1 (hc _),λq=>hr _ (h.2 q)⟩
def bGi (b:AR)(i a n:Int):(nM b i a n).1.Next=b.Next:=by unfold nM;cases !fQ b||decide (eG b i<0)<;>rfl
section
variable {m:Nat} {w:AA} {B:Int}
end
section
variable {S:List (Int×Int)} {t m:Nat} {w:AA} {K v:Int} {r:List AJ} {b:AB} {B:Int}
end
def bGj {n k t pin seed:Int}(h:zM n k t pin seed=true):(∀i,aY0 (bG n k t pin seed) i=0)/\∀s∈(bG n k t pin seed).Sites,s.Book.Next=0/\s.Logins=[]/\M4 (λc=>c.Counter=0/\c.Cut=false) s:=by
 have hn:n.toNat=1\/n.toNat=2\/n.toNat=3:=by unfold zM at h;simp only[aa] at h;have:=iA h.1;omega
 have f:(bG n k t pin seed).Devices=(List.range n.toNat).map λk=>Ps seed n.toNat k 1 (nwB n.toNat):=by
  grind[aIv,bG]
 refine⟨λi=> ?_,λs hs=> ?_⟩
 ·unfold aY0;rw[f,List.getD,bn];cases hq:(List.range n.toNat)[i]? with
  |none=>rfl
  |some q=>rfl
 ·have reg:∀(nm:ByteArray) (l:List AC) (i:Nat) (s:AD),(s.Book.Next=0/\s.Logins=[]/\M4 (λc=>c.Counter=0/\c.Cut=false) s)->((pR nm i l s).Book.Next=0/\(pR nm i l s).Logins=[]/\M4 (λc=>c.Counter=0/\c.Cut=false) (pR nm i l s)):=by
   intro nm l;induction l with
   |nil=>intro i s hs;exact hs
   |cons d l o=>
    intro i s hs;refine o _ _ ⟨?_,?_,bDr hs.2.2 ⟨rfl,rfl⟩⟩
    all_goals grind[dI,bI,decide,aJ,fE,default]
  have one:∀j:Int,j=0\/j=1->((wM seed (dR seed n.toNat) j).Book.Next=0/\(wM seed (dR seed n.toNat) j).Logins=[]/\M4 (λc=>c.Counter=0/\c.Cut=false) (wM seed (dR seed n.toNat) j)):=λj hj=>by
   refine reg _ _ _ _ ?_;have hk:=gM seed [281,j];generalize aV seed [281,j]=q at*;have p:gJ (aA j) q=⟨aA j,[],⟨q,0,[]⟩,[]⟩:=by
    grind[x9,gJ,kM]
   rw[p];unfold mF;cases bI ⟨aA j,[],⟨q,0,[]⟩,[]⟩&&bI (qP ⟨aA j,[],⟨q,0,[]⟩,[]⟩ 1 3) with
   |false=>exact⟨rfl,rfl,λa e=>by simp at e⟩
   |true=>refine⟨rfl,rfl,λa e c hc=> ?_⟩;have e:a∈[(⟨1,3,[]⟩:AH)]:=e;simp_all
  grind[List.mem_singleton,wN,dR,bG]
def bR1 {n k t pin seed:Int}(h:zM n k t pin seed=true):Us 0 (bG n k t pin seed):=by obtain⟨h1,h2⟩:=bGj (k:=k) h;exact⟨(by simp[*]),(by simp_all),λs hs a d c hc=>⟨by rw[((h2 s hs).2.2 a d c hc).1,h1];exact cI _,λq=>by rw[((h2 s hs).2.2 a d c hc).2] at q;cases q⟩⟩
section
variable {m:Nat} {w:AA} {B:Int}
def Us.ok (s:WIn m w)(h:Us B w)(x:B<1000000){d j:Int}{o:AS}(ht:dS w d j=true)(hm:d.toNat<m)(ho:jZ o (aA j)=true)(hr:¬bO6 w d.toNat):(fT w d j o).2.2=0:=by
 obtain⟨y,t2,u⟩:=Kc ht;obtain⟨hl,es,hj,hs⟩:=aLd s u;obtain⟨f,z⟩:=kC t2;have p:aY0 w d.toNat=(aF w d).Store.Counter:=rfl;have c:bT w j∈w.Sites:=by simp[*]
 have hn:=h.next _ c;have hc:=h.cnt _ f;rw[p] at hc;refine bKw s ht hm ho (by omega) (by omega) λa e hk=> ?_;have hq:=h.cred _ c a e _ (ce hk);obtain⟨l,el,q,_⟩:=hs.acc;rw[el] at e;have e:a=⟨1,3,l⟩:=by simp_all
 subst e;have A:(AH.mk 1 3 l).Credentials[d.toNat].Handle=(d.toNat:Int):=(q d.toNat hk).1
 grind[absurd,Int.toNat_natCast,CrU]
end
end Go.VK
set_option maxRecDepth 100000
namespace Go.VK
open D
def bGk {n k t pin seed:Int}(h:zM n k t pin seed=true):(bG n k t pin seed).Stolen=List.replicate n.toNat false/\(bG n k t pin seed).aAA.Log=aX seed n.toNat/\(bG n k t pin seed).Devices.length=n.toNat/\(bG n k t pin seed).Seed=seed:=by
 have hn:n.toNat=1\/n.toNat=2\/n.toNat=3:=by unfold zM at h;simp only[aa] at h;have:=iA h.1;omega
 obtain⟨_,h2,a⟩:=Uw h;refine⟨by unfold bG;rw[h];rfl,?_,h2,a⟩;unfold bG;rw[h];show(iK seed n.toNat).Log=_;rw[Ka hn]
end Go.VK
set_option maxRecDepth 100000
namespace Go.VK
open D
def bBj (k:Int)(b:List Int):∀z∈lZ k b,0<=z/\z<=255:=λz a=>by
 obtain⟨i,hi,e⟩:=cR.1 a;unfold lZ at hi e;have hl:i<b.length:=by have:=Ar k b;unfold lZ at this;omega
 rw[aVh hl] at e;rw[<-e];unfold aX7;rw[IntKind.wrap_u8];omega
def aC4 {k:Int}{b:List Int}(h:b.length<=34359738368):aT (lZ k b):=
 ⟨by rw[Ar];exact h,ct.2 λz a=>by
  have:=bBj k b z a;rw[au this.1,au this.2];rfl⟩
def bGl {n k t pin seed:Int}(h:zM n k t pin seed=true):Ay (bG n k t pin seed).aAA:=by
 have hn:n.toNat=1\/n.toNat=2\/n.toNat=3:=by unfold zM at h;simp only[aa] at h;have:=iA h.1;omega
 have a:(bG n k t pin seed).aAA=⟨aX seed n.toNat,gU seed n.toNat,[fA (bK seed 0) 0 1 (nwB n.toNat)]⟩:=by unfold bG;rw[h];exact Ka hn
 rw[a];refine⟨λx hx=> ?_,λs hs=> ?_⟩
 ·obtain⟨i,hi,e⟩:=cR.1 hx;obtain⟨e',_,he⟩:=(aNq (seed:=seed) (n:=n.toNat) (by omega) (by omega)).box i hi;have e:(gU seed n.toNat).Boxes[i]=x:=e;rw[<-e,he];exact aC4 (by have:=bDl (aB (aX seed n.toNat)) (bK seed 0);omega)
 ·have hs:s=fA (bK seed 0) 0 1 (nwB n.toNat):=by simpa using hs
  rw[hs];refine aC4 ?_;have:=Jv (nwB n.toNat);omega
def bDu (l:List AJ):Prop:=l.Pairwise λa b=>lH b a=true
def bGm {a b:AJ}:lH a b=true↔b.Epoch<a.Epoch\/(a.Epoch=b.Epoch/\b.Version<a.Version):=by unfold lH;simp
def aY1 {a b c:AJ}(h:lH a b=true)(k:lH b c=true):lH a c=true:=by rw[bGm] at*;omega
structure CldOk (c:AM):Prop where
 bytes:Ay c
 inc:bDu c.History
def aN0 {c:AM}(h:CldOk c){s:AJ}(hs:aT s.Data):CldOk (bQ c s).1:=by
 unfold bQ;cases hb:s.Epoch !=aB c.Log||((decide ((c.History.length:Int)>0)&& !lH s (c.History.getD (c.History.length-1) default))||decide ((c.History.length:Int)>=60)) with
 |true=>exact h
 |false=>
  simp only[bj] at hb;refine⟨⟨h.bytes.1,λx hx=> ?_⟩,?_⟩
  ·rcases bp.1 hx with hx|hx
   ·exact h.bytes.2 x hx
   ·rw[cj.1 hx];exact hs
  ·show bDu (c.History++[s]);refine List.pairwise_append.2 ⟨h.inc,fS ..,λa f b hb'=> ?_⟩
   rw[cj.1 hb'];obtain⟨i,hi,e⟩:=cR.1 f;have d:=hb.2.1;rw[au (show(c.History.length:Int)>0 by omega),db,cF,List.getD,ab (by omega),cM] at d;by_cases hl:i=c.History.length-1
   ·subst hl;rw[<-e];exact d
   ·have:=dr.1 h.inc i (c.History.length-1) hi (by omega) (by omega);rw[e] at this;exact aY1 d this
def bGn {c:AM}(h:CldOk c){log:List AF}{e:AK}(he:aVe e):CldOk (jN c log e).1:=by
 unfold jN;cases !aW log||(!dJ log c.Log|| !gT e log) with
 |true=>exact h
 |false=>exact⟨⟨he,h.bytes.2⟩,h.inc⟩
def aQk (p e:Int)(d:List Int)(hd:d.length<=34359738368):aT (gL p e d).1.Data:=by
 unfold gL;cases iM p==0||(!bN e||decide ((d.length:Int)>200)) with
 |true=>exact⟨by show 0<=_;omega,rfl⟩
 |false=>exact aC4 hd
def aIx {e:Int}{d:List Int}(hd:d.length<=34359738368):∀(l:List Int) (i:Nat),∀x∈(gF e d i l).1,aT x.Data
 |[],i,x,hx=>by simp[gF] at hx
 |p::l,i,x,hx=>by
  unfold gF at hx;cases hb:(gL p (IntKind.i64.wrap (e+(i:Int))) d).2&&(gF e d (i+1) l).2 with
  |false=>rw[hb] at hx;simp at hx
  |true=>
   rw[hb,ac] at hx;rcases bf.1 hx with rfl|hx
   ·exact aQk _ _ _ hd
   ·exact aIx hd l (i+1) x hx
def aC5 (log:List AF)(k e:Int):aVe (bE log k e).1:=by
 unfold bE;cases !aW log||(!bN k|| !(gF e (iR [aB log,k]) 0 (aC log)).2) with
 |true=>intro x hx;simp at hx
 |false=>exact λx hx=>aIx (by have:=bDl (aB log) k;omega) _ _ x hx
def aY2 (d:AC):aT (dO d).2.1.Data:=by
 have h0:aT ([]:List Int):=⟨by show 0<=_;omega,rfl⟩;unfold dO;cases a:(kN d.Key d.Epoch (IntKind.i64.wrap (d.Version+1)) d.aAC).2 with
 |false=>exact h0
 |true=>
  show aT (kN d.Key d.Epoch (IntKind.i64.wrap (d.Version+1)) d.aAC).1.Data;unfold kN;cases bN d.Key&&(bU d.Epoch 0 1000000&&bU (IntKind.i64.wrap (d.Version+1)) 0 1000000)&&aP d.aAC with
  |false=>exact h0
  |true=>refine aC4 ?_;have:=Jv d.aAC;omega
section
variable {w:AA}
def bKx (h:CldOk w.aAA)(d:Int):CldOk (Nl w d).1.aAA:=by
 unfold Nl;cases(dO (aF w d)).2.2&&(bQ w.aAA (dO (aF w d)).2.1).2 with
 |false=>exact h
 |true=>exact aN0 h (aY2 _)
def aY3 (h:CldOk w.aAA)(d:Int):CldOk (fD w d).1.aAA:=by
 unfold fD;cases(aH w d 0).2==0&&(Nl (aH w d 0).1 d).2 with
 |false=>exact h
 |true=>exact bKx (by rw[(fK w d 0).2.2.2.2.2];exact h) d
def aTm (h:CldOk w.aAA)(b k p:Int)(key:List AF->Int):CldOk (gY w b k p key).1.aAA:=by
 unfold gY;dsimp only;cases(bW w.aAA.Log k p (aF w b).Store).2&&((bE (bW w.aAA.Log k p (aF w b).Store).1 (key (bW w.aAA.Log k p (aF w b).Store).1) (IntKind.i64.wrap (1000+IntKind.i64.wrap (10*((bW w.aAA.Log k p (aF w b).Store).1.length:Int))))).2&&(jN w.aAA (bW w.aAA.Log k p (aF w b).Store).1 (bE (bW w.aAA.Log k p (aF w b).Store).1 (key (bW w.aAA.Log k p (aF w b).Store).1) (IntKind.i64.wrap (1000+IntKind.i64.wrap (10*((bW w.aAA.Log k p (aF w b).Store).1.length:Int))))).1).2) with
 |false=>exact h
 |true=>exact bGn h (aC5 _ _ _)
def bNq (h:CldOk w.aAA)(b:Int):CldOk (bY w b).1.aAA:=by
 unfold bY;cases qN w b with
 |false=>exact h
 |true=>
  show CldOk (sG w b).1.aAA;have h0:CldOk (aH w b 0).1.aAA:=by rw[(fK w b 0).2.2.2.2.2];exact h
  have h1:CldOk (add1 w b).1.aAA:=aTm h0 _ _ _ _;have a:CldOk (lI w b).1.aAA:=aY3 (w:=aAS w b) h1 b;show CldOk (aH (appW (lI w b).1 (aY (aM w.Seed (w.Devices.length:Int)))) (w.Devices.length:Int) 0).1.aAA;rw[(fK _ _ _).2.2.2.2.2];exact a
def bNr (h:CldOk w.aAA)(c x:Int):CldOk (eO w c x).1.aAA:=by
 unfold eO;cases(aH w c 0).2==0&&(!dV w c&&(!(c==x)&&bZ w x)) with
 |false=>exact h
 |true=>
  simp only[ac];unfold lQ;cases(lK w c x).2&&((Jw w c x).2&&(Iw w c x).2) with
  |false=>exact h
  |true=>
   have h0:CldOk (kP w c).aAA:=by unfold kP;rw[(fK w c 0).2.2.2.2.2];exact h
   have h1:CldOk (lK w c x).1.aAA:=aTm h0 _ _ _ _;exact bKx (w:=U7 w c x) h1 c
def bKy (h:CldOk w.aAA)(d:Int)(n:ByteArray)(a:Int)(f:Bool):CldOk (lX w d n a f).1.aAA:=by
 unfold lX;cases aR w&&aO w d with
 |false=>exact h
 |true=>simp only[ac];cases(bO (aF w d) n a f).2<;>exact h
def bGo (h:CldOk w.aAA)(d j:Int)(o:AS):CldOk (fT w d j o).1.aAA:=by
 unfold fT;cases !dS w d j with
 |true=>exact h
 |false=>
  simp only[ae];cases !(gZ w j).2.2.2 with
  |true=>exact h
  |false=>simp only[ae];cases !((Au w d j o).2.1==0)<;>exact h
def bGp (h:CldOk w.aAA)(d:Int):CldOk (jF w d).1.aAA:=by unfold jF;cases dS w d 0&& !dV w d<;>exact h
def bNs {n k t pin seed:Int}:CldOk (bG n k t pin seed).aAA:=by
 cases h:zM n k t pin seed with
 |false=>unfold bG;rw[h];exact⟨⟨λx hx=>by simp[aK8] at hx,λx hx=>by simp[aK8] at hx⟩,List.Pairwise.nil⟩
 |true=>
  have hn:n.toNat=1\/n.toNat=2\/n.toNat=3:=by unfold zM at h;simp only[aa] at h;have:=iA h.1;omega
  have a:(bG n k t pin seed).aAA=⟨aX seed n.toNat,gU seed n.toNat,[fA (bK seed 0) 0 1 (nwB n.toNat)]⟩:=by unfold bG;rw[h];exact Ka hn
  exact⟨bGl h,by rw[a];exact fS ..⟩
end
end Go.VK
set_option maxRecDepth 100000
namespace Go.VK
open D
def aQl (n k:Int)(m:AP)(w:AA):AA:={w with Now:=n,Seed:=k,Mail:=m}
section
variable {n k:Int} {m:AP} {w:AA}
def bGq (h:aR (aQl n k m w)=true):bU n 0 999900=true/\bN k=true/\eY m=true:=by unfold aR at h;simp only[aa] at h;obtain⟨⟨⟨⟨⟨⟨⟨q1,q2⟩,q3⟩,q4⟩,q5⟩,q6⟩,q7⟩,q8⟩:=h;exact⟨q1,q7,q5⟩
def bKz (h:aR (aQl n k m w)=true)(h0:aR w=true)(d b:Int):aH (aQl n k m w) d b=(aQl n k m (aH w d b).1,(aH w d b).2):=by unfold aH;rw[h,h0];show(bif true&&aO w d then _ else _)=_;cases aO w d<;>rfl
def bGr {t:Int}(h:eY m=true)(q:Int):eY (pY m q 1 t).1=true:=by
 unfold pY;cases hb: !eY m|| !eY ⟨Eu (m.Notices++[⟨q,1,t,false⟩])⟩ with
 |true=>exact h
 |false=>simp only[bj,cF] at hb;exact hb.2
end
end Go.VK
set_option maxRecDepth 100000
namespace Go.VK
open D
def kk (s:Int)(c:Nat)(e:Int):Int:=bK (aV (aV s [277,(c:Int)]) [311]) e
def Ks (s E K:Int):Prop:=K=bK s 0\/∃(c:Nat) (e:Int),c<6/\1<=e/\e<=E/\K=kk s c e
def Ks.mono {s E F K:Int}(h:Ks s E K)(d:E<=F):Ks s F K:=h.imp id λ⟨c,e,h1,h2,f,a⟩=>⟨c,e,h1,h2,by omega,a⟩
structure KyW (S:List (Int×Int)) (t:Nat) (w:AA):Prop where
 net:∃K v r b,Net S (3+3*t) w.Devices.length w K v r b/\r.length<=t/\Ks w.Seed (aB w.aAA.Log) K
 dev:∀d∈w.Devices,Ks w.Seed (aB w.aAA.Log) d.Key
section
variable {S:List (Int×Int)} {t:Nat} {w:AA}
def KyW.mono (h:KyW S t w){u:Nat}(a:t<=u):KyW S u w:=
 let ⟨K,v,r,b,n,hr,hk⟩:=h.net;⟨⟨K,v,r,b,n.mono (by omega),by omega,hk⟩,h.dev⟩
def KyW.of (h:KyW S t w){u:AA}{t':Nat}(ht:t<=t')(hn:∀K v r b,Net S (3+3*t) w.Devices.length w K v r b->Net S (3+3*t') w.Devices.length u K v r b)(hl:u.Devices.length=w.Devices.length)(a:u.Seed=w.Seed)(c:aB u.aAA.Log=aB w.aAA.Log)
  (hd:∀d∈u.Devices,(∃d'∈w.Devices,d.Key=d'.Key)\/∀K v r b,Net S (3+3*t) w.Devices.length w K v r b->d.Key=K):KyW S t' u:=by
 obtain⟨K,v,r,b,n,hr,hk⟩:=h.net;refine⟨⟨K,v,r,b,by rw[hl];exact hn K v r b n,by omega,by rw[a,c];exact hk⟩,λd hm=> ?_⟩;rw[a,c];rcases hd d hm with⟨d',h1,h2⟩|h2
 ·rw[h2];exact h.dev d' h1
 ·rw[h2 K v r b n];exact hk
def All.now (h:All S t w){n:Int}(hn:0<=n/\n<=999900):All S t {w with Now:=n}:=
 h.of (ak _) (λK v r b q=>q.same ⟨q.wi.seed,hn,q.wi.dlen,q.wi.slen,q.wi.dev,q.wi.two,q.wi.mle,q.wi.site,q.wi.mail,q.wi.log⟩ rfl rfl rfl) rfl (h.cut.keep rfl rfl rfl) h.hosts
end
end Go.VK
set_option maxRecDepth 100000
namespace Go.VK
open D
def aTn (n:Int):AI:=⟨1,n,IntKind.i64.wrap (500+n),0⟩
def aN1:List Int:=[866342416,827955894,789569372,751182850,712796328,674409806]
def bNt {n:Int}(h:0<=n/\n<6):aS (aTn n)∈aN1:=by
 have:∀k:Nat,k<6->aN1.contains (aS (aTn (k:Int)))=true:=by
  intro k hk;have:(List.range 6).all (λk=>aN1.contains (aS (aTn (k:Int))))=true:=by kernel_rfl
  exact ct.1 this k (gn.2 hk)
 have:=this n.toNat (by omega);rw[en h.1] at this;simpa using this
def oU (l:List AF):Prop:=∀e∈l,e.Device∈aN1
def bNu:∀{l:List AF},oU l->∀p∈aC l,p∈aN1:=λ{l} h=>by
 have:∀(l:List AF) (s:List Int),(∀e∈l,e.Device∈aN1)->(∀p∈s,p∈aN1)->∀p∈l.foldl iY s,p∈aN1:=by
  intro l;induction l with
  |nil=>exact λs _ hs=>hs
  |cons e l a=>
   intro s hl hs;refine a _ (λe he=>hl e (by simp[he])) λp hp=> ?_
   unfold iY at hp;have he:=hl e (by simp)
   revert hp
   cases e.Kind==1 with
   |true=>
    cases s.contains e.Device with
    |true=>exact λhp=>hs p hp
    |false=>
     intro hp;rcases bp.1 hp with hp|hp
     ·exact hs p hp
     ·rw[cj.1 hp];exact he
   |false=>
    cases e.Kind==2 with
    |true=>exact λhp=>hs p (List.mem_filter.1 hp).1
    |false=>exact λhp=>hs p hp
 exact this l [] h (λp hp=>by simp at hp)
def bNv {l:List AF}(h:oU l){n:Int}(hn:0<=n/\n<6)(k:Int)(s:AI):oU (bW l k (aS (aTn n)) s).1:=by
 unfold bW;cases(decide ((l.length:Int)>0)&& !aW l)|| !aW (l++[vM l k (aS (aTn n)) s]) with
 |true=>exact h
 |false=>
  intro e he;rcases bp.1 he with he|he
  ·exact h e he
  ·rw[cj.1 he];exact bNt hn
def bVj (s:Int):Bool:=(List.range 6).all λk=> !aN1.contains (lL s k)
def bR2:((List.range 1000).all λ(s:Nat)=>bVj ((s:Int)+1))=true:=by kernel_rfl
def bR3 {s:Int}(h:1<=s/\s<=1000){k:Nat}(hk:k<6):lL s k∉aN1:=λhm=>by
 have h1:=ct.1 bR2 (s-1).toNat (gn.2 (by omega));rw[show(((s-1).toNat:Nat):Int)+1=s by omega] at h1;have h2:=ct.1 h1 k (gn.2 hk);rw[show aN1.contains (lL s k)=true by simpa using hm] at h2;cases h2
def bK0 {S:List (Int×Int)}{t m:Nat}{w:AA}{K v:Int}{r:List AJ}{b:AB}(h:Net S t m w K v r b)(hs:1<=w.Seed/\w.Seed<=1000){q:AM}(hq:oU q.Log)(d c:Int):((aH {w with aAA:=q} d c).2==0)=false:=by
 unfold aH;cases hb:aR {w with aAA:=q}&&aO {w with aAA:=q} d with
 |false=>rfl
 |true=>
  rw[aa] at hb;have hd:aO w d=true:=hb.2;obtain⟨hl,e⟩:=kC hd;have a:=h.wi.dlen;show((bR (aF w d) q.Log q.Boxes (eZ q c).1).2==0)=false;unfold bR;cases h0:jL (aF w d) q.Log q.Boxes (eZ q c).1==0 with
  |false=>exact h0
  |true=>have:=bNu hq _ (bKm h0).2.1;rw[e,h.pub hl] at this;exact absurd this (bR3 hs (by omega))
def exL:List (Int×Int):=[(387010709,0),(387010709,1),(387010709,2),(387010709,3),(192960288,0),(192960288,1),(192960288,2),(192960288,3)]
def drS:List (Int×Int):=bBi++exL
def V9:KeyD drS:=bNm (x:=exL) (by decide) (by decide)
structure DrW (i:Nat) (w:AA):Prop where
 all:All drS i w
 ky:KyW drS i w
 ep:aB w.aAA.Log<=(i:Int)
 seed:1<=w.Seed/\w.Seed<=1000
def DrW.mono {i:Nat}{w:AA}(h:DrW i w){j:Nat}(hj:i<=j):DrW j w:=⟨h.all.mono hj,h.ky.mono hj,by have:=h.ep;omega,h.seed⟩
section
variable {i:Nat} {w:AA}
end
def aN2 (w v:AA):Prop:=(∃n k m,v=aQl n k m w)\/aR v=false\/∃q,v={w with aAA:=q}/\oU q.Log
end Go.VK
set_option maxRecDepth 100000
namespace Go.VK
open D
def bO7 {s:ByteArray}{a:Int}(hs:s∈[ByteArray.mk #[UInt8.ofNat 98,UInt8.ofNat 97,UInt8.ofNat 110,UInt8.ofNat 107,UInt8.ofNat 46,UInt8.ofNat 99,UInt8.ofNat 111,UInt8.ofNat 109],ByteArray.mk #[UInt8.ofNat 97,UInt8.ofNat 46,UInt8.ofNat 110,UInt8.ofNat 101,UInt8.ofNat 116],ByteArray.mk #[UInt8.ofNat 98,UInt8.ofNat 46,UInt8.ofNat 110,UInt8.ofNat 101,UInt8.ofNat 116]])(d:0<=a/\a<4):(bH s,a)∈drS/\s.size<=100:=by
 obtain⟨k,rfl,hk⟩:∃k:Nat,a=(k:Int)/\k<4:=⟨a.toNat,by omega,by omega⟩;simp only[bf,dy,or_false] at hs;have c:∀k:Nat,k<4->((1941999745:Int),(k:Int))∈drS/\((387010709:Int),(k:Int))∈drS/\((192960288:Int),(k:Int))∈drS:=by decide
 obtain⟨q1,q2,q3⟩:=c k hk;rcases hs with rfl|rfl|rfl
 ·exact⟨by rw[show bH (ByteArray.mk #[UInt8.ofNat 98,UInt8.ofNat 97,UInt8.ofNat 110,UInt8.ofNat 107,UInt8.ofNat 46,UInt8.ofNat 99,UInt8.ofNat 111,UInt8.ofNat 109])=1941999745 by kernel_rfl];exact q1,by decide⟩
 ·exact⟨by rw[show bH (ByteArray.mk #[UInt8.ofNat 97,UInt8.ofNat 46,UInt8.ofNat 110,UInt8.ofNat 101,UInt8.ofNat 116])=387010709 by kernel_rfl];exact q2,by decide⟩
 ·exact⟨by rw[show bH (ByteArray.mk #[UInt8.ofNat 98,UInt8.ofNat 46,UInt8.ofNat 110,UInt8.ofNat 101,UInt8.ofNat 116])=192960288 by kernel_rfl];exact q3,by decide⟩
def bDv {w:AA}(h:w.Stolen.length≠w.Devices.length):aR w=false:=by unfold aR;rw[show((w.Stolen.length:Int)==(w.Devices.length:Int))=false by rw[co];omega];simp
def bNx {w:AA}(h:w.Sites.length≠2):aR w=false:=by unfold aR;rw[show((w.Sites.length:Int)==2)=false by rw[co];omega];simp
def bNy {l:List AF}(h:oU l){b:AK}:oU (dP l b).1.Log:=by
 unfold dP;cases aW l&&gT b l with
 |true=>exact h
 |false=>exact λe he=>absurd he dy
def bR4 {q:AM}(h:oU q.Log){s:AJ}:oU (bQ q s).1.Log:=by unfold bQ;cases s.Epoch !=aB q.Log||((decide ((q.History.length:Int)>0)&& !lH s (q.History.getD (q.History.length-1) default))||decide ((q.History.length:Int)>=60))<;>exact h
def bK1 {s:AD}{a:AH}(h:bI s=true)(e:s.Accounts=[a]):bA a=true:=by unfold bI at h;simp only[aa,bo] at h;have:=Om h.2 0 (by rw[e];simp);unfold Ir at this;simp only[bj,cF] at this;have h1:=this.1;simp only[e] at h1;exact h1
def bDw {s:AD}(h:bI s=true):fQ s.Book=true:=by unfold bI at h;simp only[aa] at h;exact h.1.2
def bGs {s:AD}(h:bI s=true){b:AR}(hb:fQ b=true)(hs:b.Seed=s.Book.Seed):bI {s with Book:=b}=true:=by unfold bI at h ⊢;simp only[aa] at h ⊢;exact⟨⟨⟨by rw[hs];exact h.1.1.1,h.1.1.2⟩,hb⟩,h.2⟩
def bGt {w:AA}{d j:Int}{o:AS}(hj:j=0\/j=1)(ht:dS w d j=true)(hs:bI (bT w j)=true)(f:(bT w j).Name=aA j)(hn:(bT w j).Book.Next<1000000)(q:0<=w.Now/\w.Now<=999900)(ho:jZ o (aA j)=true){l:List AV}(e:(bT w j).Accounts=[⟨1,3,l⟩])
  (s:jR (aF w d).Store=true) (hc:(aF w d).Store.Counter<1000000) {p:Nat} (hp:p<l.length) (D:aU ⟨1,3,l⟩ d=(p:Int)) (u:l[p].Public=cK (aF w d).Store (aA j) d) (u1:l[p].Cut=false) (u2:l[p].Counter<=(aF w d).Store.Counter):(fT w d j o).2.2=0:=by
 have F:=bDw hs;have hb:=Oq F;have x:=bK1 hs e;obtain⟨Q,W,R⟩:=aNz hb hn q;obtain⟨q1,q2,q3,q4⟩:=aCw hb 1 w.Now;have a:aJ (bT w j) 1=0:=by unfold aJ;rw[e];rfl
 have h:gZ w j=({bT w j with Book:=(eU (bT w j).Book 1 w.Now).1},(bT w j).Book.Next,eF (eU (bT w j).Book 1 w.Now).1 (bT w j).Book.Next,true):=by unfold gZ jY;rw[hs,a,Q];rfl
 have O:Rh w d j o=({(aF w d).Store with Counter:=(aF w d).Store.Counter+1},{Iy (aF w d).Store o (aA j) d (gZ w j).2.2.1 true with Counter:=(aF w d).Store.Counter+1,Signature:=qL (dH (aF w d).Store (aA j) d) (dG (Iy (aF w d).Store o (aA j) d (gZ w j).2.2.1 true)++[(aF w d).Store.Counter+1])},true):=bDt ho s hc;have G:bI (gZ w j).1=true:=by rw[h];exact bGs hs q1.ok q2
 have H:aJ (gZ w j).1 1=0:=by rw[h];exact a
 have I:(gZ w j).1.Name=aA j:=by rw[h];exact f
 have y:fI (gZ w j).1 0=⟨1,3,l⟩:=by rw[h];unfold fI;show((bT w j).Accounts.getD _ _)=_;rw[e];rfl
 have J:gB ⟨1,3,l⟩ (p:Int)=l[p]:=by unfold gB;rw[bm];show l.getD p default=_;rw[List.getD,ab hp,cM]
 have hv:∀M,iI (cK (aF w d).Store (aA j) d) M (qL (dH (aF w d).Store (aA j) d) M)=true:=λM=>aNl (by unfold dH;exact gM _ _) M;have z:jD l[p].Public (Rh w d j o).2.1 (gZ w j).1.Name (eF (gZ w j).1.Book (gZ w j).2.1) l[p].Counter=0:=by rw[I,O,h];unfold jD;show(bif !((aA j).toList==(aA j).toList) then(1:Int) else bif !true then 2 else bif !(eF (eU (bT w j).Book 1 w.Now).1 (bT w j).Book.Next==eF (eU (bT w j).Book 1 w.Now).1 (bT w j).Book.Next) then 3 else bif !iI l[p].Public (dG (Iy (aF w d).Store o (aA j) d (eF (eU (bT w j).Book 1 w.Now).1 (bT w j).Book.Next) true)++[(aF w d).Store.Counter+1]) (qL (dH (aF w d).Store (aA j) d) (dG (Iy (aF w d).Store o (aA j) d (eF (eU (bT w j).Book 1 w.Now).1 (bT w j).Book.Next) true)++[(aF w d).Store.Counter+1])) then 5 else bif decide ((aF w d).Store.Counter+1<=l[p].Counter) then 4 else 0)=0;rw[u,hv,av (show ¬(aF w d).Store.Counter+1<=l[p].Counter by omega)];simp
 have T:(Au w d j o).2.1=0:=by
  unfold Au lS;rw[G,H];have L:(nM (gZ w j).1.Book (gZ w j).2.1 1 w.Now).2=true:=by rw[h];exact R
  have N:oC (fI (gZ w j).1 0) 3=true:=by rw[y];unfold oC;rw[x];have:(l.any λc=> !c.Cut)=true:=fp.2 ⟨l[p],ce hp,by rw[u1];rfl⟩;show(true&&(true&&(true&&(false||l.any λc=> !c.Cut))))=true;rw[this];rfl
  have V:(Rh w d j o).2.1.Handle=d:=by rw[O];rfl
  have A:(jE (fI (gZ w j).1 0) (Rh w d j o).2.1 (gZ w j).1.Name (eF (gZ w j).1.Book (gZ w j).2.1)).2=0:=by rw[y];unfold jE;rw[x,V,D,J,u1,av (show ¬(p:Int)<0 by omega)];exact z
  rw[L,N,A];rfl
 unfold fT;rw[ht,T,h];rfl
def NxW (B:Int)(w:AA):Prop:=∀s∈w.Sites,s.Book.Next<=B
def NxW.of {B C:Int}{w u:AA}(h:NxW B w)(a:B<=C)(e:u.Sites=w.Sites):NxW C u:=λs hs=>by
 rw[e] at hs;have:=h s hs;omega
def bK2 (s:AD)(i n:Int):(jY s i n).1.Book.Next<=s.Book.Next+1:=by
 unfold jY;cases hb:bI s&&(!decide (aJ s i<0)&&(eU s.Book i n).2.2) with
 |false=>show s.Book.Next<=_;omega
 |true=>rw[aa] at hb;exact(aCw (Oq (bDw hb.1)) i n).2.2.2
def bGv (s:AD)(a c t:Int)(x:AX):(lS s a c t x).1.Book.Next=s.Book.Next:=by
 have d:=bGi s.Book c a t;unfold lS;cases !bI s||decide (aJ s a<0) with
 |true=>rfl
 |false=>
  simp only[ae];cases !(nM s.Book c a t).2 with
  |true=>exact d
  |false=>
   simp only[ae];cases !oC (fI s (aJ s a)) 3 with
   |true=>exact d
   |false=>simp only[ae];cases !((jE (fI s (aJ s a)) x s.Name (eF s.Book c)).2==0)<;>exact d
def NxW.visit {m:Nat}{B:Int}{w:AA}(a:WIn m w)(h:NxW B w)(d j:Int)(o:AS):NxW (B+1) (fT w d j o).1:=by
 have key:dS w d j=true->∀s∈w.Sites.set j.toNat (Au w d j o).1,s.Book.Next<=B+1:=λht s hs=>by
  obtain⟨hl,es,_,_⟩:=aLd a (Kc ht).2.2;rcases e8 hs with hs|rfl
  ·have:=h s hs;omega
  ·have c:(Au w d j o).1.Book.Next=(jY (bT w j) 1 w.Now).1.Book.Next:=bGv ..;have f:=bK2 (bT w j) 1 w.Now;have l:=h (bT w j) (by rw[es];exact ce hl);rw[c];omega
 rcases Va w d j o with⟨e,_⟩|⟨ht,_,e,_,_⟩|⟨ht,_,e,_,_⟩
 ·rw[e];exact h.of (by omega) rfl
 ·rw[e];exact key ht
 ·rw[e];exact key ht
def aY4 (s:AD)(i a p:Int):(dI s i a p).1.Book=s.Book:=by
 unfold dI;cases !bI s||decide (aJ s i<0) with
 |true=>rfl
 |false=>simp only[ae];cases(fE (s.Accounts.getD (aJ s i).toNat default) a p).2<;>rfl
def aTo {B:Int}{st:AI}{n:Int}:∀{l:List AD} {j:Nat},(∀s∈l,s.Book.Next<=B)->∀s∈(eH st n j l).1,s.Book.Next<=B
 |[],j,h,s,hs=>by simp[eH] at hs
 |x::l,j,h,s,hs=>by
  unfold eH at hs;cases hb:(dI x 1 n (cK st (aA (j:Int)) n)).2&&(eH st n (j+1) l).2 with
  |false=>rw[hb] at hs;simp at hs
  |true=>
   rw[hb,ac] at hs;rcases bf.1 hs with rfl|hs
   ·rw[aY4];exact h x (cN ..)
   ·exact aTo (λs hs=>h s (cJ _ hs)) s hs
theorem NxW.add {B:Int}{w:AA}(h:NxW B w)(d:Int):NxW B (bY w d).1:=by
 unfold bY;cases qN w d with
 |false=>exact h
 |true=>have a:(add1 w d).1.Sites=w.Sites:=((Az (aH w d 0).1 d 1 (aS (aM w.Seed (w.Devices.length:Int))) (λ_=>(aF (aH w d 0).1 d).Key)).2.2.2.1).trans (fK w d 0).2.2.2.1;have c:(lI w d).1.Sites=(Rf w d).1:=(rO _ d).2.2.2.1;have e:(sG w d).1.Sites=(Rf w d).1:=(fK _ _ 0).2.2.2.1.trans c;intro s hs;have hs:s∈(sG w d).1.Sites:=hs;rw[e] at hs;refine aTo (λs hs=> ?_) s hs;rw[a] at hs;exact h s hs
structure DrV (i:Nat) (w:AA):Prop where
 all:All drS i w
 seed:1<=w.Seed/\w.Seed<=1000
 nx:NxW (i:Int) w
section
variable {i:Nat} {w:AA}
def DrV.mono (h:DrV i w){j:Nat}(hj:i<=j):DrV j w:=⟨h.all.mono hj,h.seed,h.nx.of (by omega) rfl⟩
def DrV.new {n k t pin seed:Int}(h:zM n k t pin seed=true)(hs:1<=seed/\seed<=1000):DrV 0 (bG n k t pin seed):=⟨bNp h,by rw[(bGk h).2.2.2];exact hs,(bR1 h).next⟩
def DrV.aBS (h:DrV i w)(d:Int):DrV (i+1) (jF w d).1:=by
 have e:(jF w d).1.Seed=w.Seed/\(jF w d).1.Sites=w.Sites:=by unfold jF;cases dS w d 0&& !dV w d<;>exact⟨rfl,rfl⟩
 exact⟨(h.all.aBS d).mono (by omega),by rw[e.1];exact h.seed,h.nx.of (by omega) e.2⟩
def DrV.person (h:DrV i w)(d j:Int):DrV (i+1) (lT w d j).1:=by
 unfold lT;cases dS w d j&& !dV w d with
 |false=>exact h.mono (by omega)
 |true=>exact⟨(h.all.visit d j _).mono (by omega),by show 1<=(fT w d j (Ew j)).1.Seed/\(fT w d j (Ew j)).1.Seed<=1000;rw[(V7 w d j (Ew j)).1];exact h.seed,NxW.of (h.nx.visit h.all.wi d j (Ew j)) (by omega) rfl⟩
def DrV.aCQ (h:DrV i w)(hi:i<=50)(d:Int){n:ByteArray}{a:Int}(hk:(bH n,a)∈drS)(f:Bool):DrV (i+1) (lX w d n a f).1:=by
 refine⟨h.all.aCQ V9 (by omega) d hk f,by rw[(y7 w d n a f).1];exact h.seed,h.nx.of (by omega) ?_⟩;unfold lX;cases aR w&&aO w d with
 |false=>rfl
 |true=>simp only[ac];cases(bO (aF w d) n a f).2<;>rfl
def DrV.push (h:DrV i w)(hi:i<=50)(d:Int):DrV (i+1) (fD w d).1:=⟨h.all.push V9 (by omega) d,by rw[(rO w d).1];exact h.seed,h.nx.of (by omega) (rO w d).2.2.2.1⟩
def DrV.sync (h:DrV i w)(hi:i<=50)(d c:Int):DrV (i+1) (aH w d c).1:=⟨(h.all.sync V9 (by omega) d c).mono (by omega),by rw[(fK w d c).1];exact h.seed,h.nx.of (by omega) (fK w d c).2.2.2.1⟩
def DrV.now (h:DrV i w){n:Int}(hn:0<=n/\n<=999900):DrV (i+1) {w with Now:=n}:=⟨(h.all.now hn).mono (by omega),h.seed,h.nx.of (by omega) rfl⟩
theorem DrV.add (h:DrV i w)(hi:i<=50)(d:Int):DrV (i+1) (bY w d).1:=by refine⟨h.all.add V9 (by omega) d,?_,NxW.of (h.nx.add d) (by omega) rfl⟩;rw[(h.all.wi.add d).2];exact h.seed
theorem DrV.cut (h:DrV i w)(hi:i<=50)(d x:Int):DrV (i+1) (eO w d x).1:=by
 have f:=h.all.aDR V9 (by omega) d x;cases a:(eO w d x).2 with
 |false=>rw[bBg a];exact h.mono (by omega)
 |true=>
  obtain⟨K,v,r,b,n,hr⟩:=h.all.net;obtain⟨bx,e,n1⟩:=n.cut V9 (by omega) (by omega) a;refine⟨f,by rw[e];exact h.seed,?_⟩;rw[e];intro s hs;have hs:s∈w.Sites.map (gG x):=hs;obtain⟨s',c,rfl⟩:=cr.1 hs;have:(gG x s').Book=s'.Book:=by unfold gG;cases decide (aJ s' 1>=0)<;>rfl
  rw[this];have:=h.nx s' c;omega
end
def bK3 {log:List AF}{p:Int}{s:AI}(hl:aW (log++[vM log 1 p s])=true):
  aC (log++[vM log 1 p s])=aC log++[p]/\aB (log++[vM log 1 p s])=aB log:=by
 obtain⟨h1,_,_⟩:=aNv hl;have hk:(vM log 1 p s).Kind=1:=rfl;have hd:(vM log 1 p s).Device=p:=rfl;unfold kZ at h1;simp only[aa,hk,hd] at h1;obtain⟨_,_,_,_,h1⟩:=h1;simp only[show((1:Int)==2)=false from rfl,ae,aa,bo] at h1;have a:jJ (aC log) p=false:=h1.2.2.1;refine⟨?_,by rw[Ba,hk];rfl⟩;rw[Uv];unfold iY;rw[hk,hd];have hc:(aC log).contains p=false:=by rw[je] at a ⊢;intro hc;exact a (lC.2 (by simpa using hc))
 rw[hc];rfl
def aN3 {q:AM}{r:List AJ}{s:AJ}(h:q.History=r++[s]):(eZ q 0).1=s:=by unfold eZ;rw[av (show ¬(0:Int)<0 by decide),av (show ¬(0:Int)>=(q.History.length:Int) by rw[h,ax,cn];omega)];show q.History.getD _ default=_;rw[h];simp
def bNz {l:List AV}(h:∀k (h:k<l.length),l[k].Handle=(k:Int)){k:Nat}(hk:k<l.length):aU ⟨1,3,l⟩ (k:Int)=(k:Int):=by
 have hd:decide (aU ⟨1,3,l⟩ (k:Int)<0)=false:=by rw[cC];intro hn;have:=Js (p:=λc:AV=>c.Handle==(k:Int)) hn l[k] (ce hk);rw[h k hk,dk] at this;cases this
 obtain⟨i,hi,a,d⟩:=wO (l:=l) hd;have:=h i hi;have d:(l[i].Handle==(k:Int))=true:=d;have:=eq_of_beq d;have a:aU ⟨1,3,l⟩ (k:Int)=((0+i:Nat):Int):=a;rw[a];omega
def bN0 {seed j:Int}{n:Nat}{s:AD}(hj:j=0\/j=1)(hn:n<6)(h:SiteIn seed j n s){p:Int}(hk:(dI s 1 (n:Int) p).2=true):
  (dI s 1 (n:Int) p).1.Name=aA j/\∃l:List AV,l.length=n/\(∀(k:Nat) (h:k<l.length),l[k].Handle=(k:Int))/\(dI s 1 (n:Int) p).1.Accounts=[⟨1,3,l++[⟨(n:Int),p,0,false⟩]⟩]:=by
 have d:=h.ok hj (by omega);have c:=h.find;obtain⟨h1,h2,u,l,e,f,o⟩:=h;subst o;have q:(s.Accounts.getD (aJ s 1).toNat default)=⟨1,3,l⟩:=by rw[c,e];rfl
 have hi:=aYm (p:=p) (λk hk=>(f k hk).1);unfold dI at hk ⊢;rw[d,c,show decide ((0:Int)<0)=false from rfl,<-c,q,c,e] at hk ⊢;cases hc:(fE ⟨1,3,l⟩ (l.length:Int) p).2 with
 |false=>rw[hc] at hk;cases hk
 |true=>
  refine⟨h1,l,rfl,λk hk=>(f k hk).1,?_⟩;have a:(fE ⟨1,3,l⟩ (l.length:Int) p).1=⟨1,3,l++[⟨(l.length:Int),p,0,false⟩]⟩:=by
   unfold fE at hc ⊢;cases hb: !bA ⟨1,3,l⟩|| !bA {(⟨1,3,l⟩:AH) with Credentials:=D7 (⟨1,3,l⟩:AH).Credentials (l.length:Int) p} with
   |true=>rw[hb] at hc;cases hc
   |false=>show(⟨1,3,D7 l (l.length:Int) p⟩:AH)=_;rw[hi]
  show([(⟨1,3,l⟩:AH)].set (0:Int).toNat (fE ⟨1,3,l⟩ (l.length:Int) p).1)=_;rw[a];rfl
def aTp {st:AI}{n:Int}:∀{l:List AD} {j:Nat},(eH st n j l).2=true->(eH st n j l).1.length=l.length/\∀i (h:i<l.length) (f:i<(eH st n j l).1.length),(eH st n j l).1[i]=(dI l[i] 1 n (cK st (aA ((j+i:Nat):Int)) n)).1/\(dI l[i] 1 n (cK st (aA ((j+i:Nat):Int)) n)).2=true
 |[],j,h=>⟨rfl,λi hi=>by simp at hi⟩
 |x::l,j,h=>by
  cases hb:(dI x 1 n (cK st (aA (j:Int)) n)).2&&(eH st n (j+1) l).2 with
  |false=>unfold eH at h;rw[hb] at h;cases h
  |true=>
   have e:eH st n j (x::l)=((dI x 1 n (cK st (aA (j:Int)) n)).1::(eH st n (j+1) l).1,true):=by rw[eH,hb];rfl
   rw[aa] at hb;obtain⟨a,c⟩:=aTp hb.2;rw[e];refine⟨by simp[a],λi hi d=> ?_⟩;cases i with
   |zero=>exact⟨rfl,hb.1⟩
   |succ i=>simp only[aw] at hi;have:=c i (by omega) (by omega);rw[show j+1+i=j+(i+1) by omega] at this;simpa using this
def bN1 {u:AA}{l:List AC}(hl:l.length=u.Devices.length){m:AP}(hm:eY m=true)(h:aR u=true):aR {u with Devices:=l,Mail:=m}=true:=by unfold aR at h ⊢;simp only[aa,hl] at h ⊢;obtain⟨⟨⟨⟨⟨⟨⟨q1,q2⟩,q3⟩,q4⟩,q5⟩,q6⟩,q7⟩,q8⟩:=h;exact⟨⟨⟨⟨⟨⟨⟨q1,q2⟩,q3⟩,q4⟩,hm⟩,q6⟩,q7⟩,q8⟩
def bN2 {u:AA}(h:aR u=true){i:Nat}(hi:i<u.Sites.length):bI u.Sites[i]=true:=by unfold aR at h;simp only[aa,bo] at h;have:=Om h.2 i hi;unfold lW at this;simp only[bj,cF] at this;exact this.1
structure Join (w x:AA) (c:Int):Prop where
 len:x.Devices.length=w.Devices.length+1
 inl:bZ x (w.Devices.length:Int)=true
 bun:(aF x (w.Devices.length:Int)).aAC=(aF x c).aAC
 key:(aF x (w.Devices.length:Int)).Key=(aF x c).Key
 login:∀j,j=0\/j=1->(lT x (w.Devices.length:Int) j).2=0
 ok:aR x=true
 inc:fZ (aF x (w.Devices.length:Int)).aAC (aF w c).aAC=((aF x (w.Devices.length:Int)).aAC,true)
 hc:aO w c=true
 hx:aO x c=true
 hn:aO x (w.Devices.length:Int)=true
def bN3 {S:List (Int×Int)}{i:Nat}{w0:AA}(h:All S i w0)(J:KeyD S)(hi:i<=40){B:Int}(hB:B<1000000)(hN:NxW B w0){n k:Int}{mb:AP}{c:Int}(z:qN (aQl n k mb w0) c=true):
  Join (aQl n k mb w0) (bY (aQl n k mb w0) c).1 c:=by
 obtain⟨w,y⟩:∃w,w=aQl n k mb w0:=⟨_,rfl⟩;rw[<-y] at z ⊢;have D:bY w c=(nY (sG w c).1 2,true):=by unfold bY;rw[z];rfl
 unfold qN at z;simp only[aa,bo,cC] at z;obtain⟨⟨k1,k2,k3,k4⟩,k5,k6,k7,k8,k9⟩:=z;obtain⟨K,v,r,b,h0,hr⟩:=h.net;have eD:w.Devices=w0.Devices:=by rw[y];rfl
 have eC:w.aAA=w0.aAA:=by rw[y];rfl
 have eS:w.Sites=w0.Sites:=by rw[y];rfl
 have eT:w.Stolen=w0.Stolen:=by rw[y];rfl
 obtain⟨p1,p2,p3⟩:=bGq (n:=n) (k:=k) (m:=mb) (w:=w0) (by rw[<-y];exact k1);have hs:aH w c 0=(aQl n k mb (aH w0 c 0).1,(aH w0 c 0).2):=by rw[y];exact bKz (by rw[<-y];exact k1) h.wi.ok c 0
 have hc0:aO w0 c=true:=by rw[y] at k2;exact k2
 have O:bZ w0 c=true:=h0.inl (by rw[hs] at k5;exact k5);obtain⟨hl,ec⟩:=kC hc0;have hs0:=h0.aBT J.ks (by omega) O;have hD:=h0.dev _ hl;rw[<-ec] at hD;have hv:=h0.ver;have hep:=h0.bx.eps;obtain⟨f,dD⟩:∃f,f=oF w0 K v b (aF w0 c):=⟨_,rfl⟩;rw[<-dD] at hs0;have hs1:aH w c 0=({w with Devices:=w0.Devices.set c.toNat f},0):=by rw[hs,hs0,y];rfl
 have hDb:BunIn S ((3+3*i:Nat):Int) f.aAC.Entries:=by rw[dD];exact hD.bun.merge h0.bun
 have at1:aF (aH w c 0).1 c=f:=by rw[hs1];unfold aF;show(w0.Devices.set c.toNat f).getD c.toNat default=_;rw[List.getD,ba hl];rfl
 have hcl:(aH w c 0).1.aAA=w0.aAA:=by rw[hs1];exact eC
 obtain⟨N,dN⟩:∃N,N=w.Devices.length:=⟨_,rfl⟩;have G:N=w0.Devices.length:=by rw[dN,eD]
 obtain⟨st,dst⟩:∃st,st=aM w.Seed (N:Int):=⟨_,rfl⟩;obtain⟨L,dL⟩:∃L,L=w0.aAA.Log++[vM w0.aAA.Log 1 (aS st) f.Store]:=⟨_,rfl⟩;obtain⟨bx,e1,e2,_,e4,_⟩:=aVj (w:=(aH w c 0).1) (b:=c) (k:=1) (p:=aS (aM w.Seed (w.Devices.length:Int))) (key:=λ_=>(aF (aH w c 0).1 c).Key) (l:=L) (by rw[at1,hcl,dL,dst,dN]) k6;have e1:add1 w c=({w with Devices:=w0.Devices.set c.toNat f,aAA:=⟨L,bx,w0.aAA.History⟩},true):=by rw[show add1 w c=_ from e1,hs1];show(({w with Devices:=w0.Devices.set c.toNat f,aAA:=⟨L,bx,w.aAA.History⟩}:AA),true)=_;rw[eC]
 have e4:(∀q∈aC L,bN q=true)->BoxIn L bx (aF (aH w c 0).1 c).Key:=e4;rw[at1,show f.Key=K by rw[dD];rfl] at e4;obtain⟨g1,g2⟩:=bK3 (by rw[<-dL];exact e2);rw[<-dL] at g1 g2;have R:BoxIn L bx K:=e4 λq hq=>by
  rw[g1] at hq;rcases bp.1 hq with hq|hq
  ·exact h0.keys q hq
  ·rw[cj.1 hq];exact aVf (Ov _)
 have Z:N<6:=by omega
 obtain⟨E,dE⟩:∃E,E=jX f (N:Int) false:=⟨_,rfl⟩;have hx:ChgIn S (((3+3*i:Nat):Int)+2) f E:=by rw[dE];exact bBe J.ks (by omega) hDb (J.dv _ Z).1 (J.dv _ Z).2 false
 have hbb:=h0.bun.mono (W:=((3+3*i:Nat):Int)+2) (by omega);obtain⟨A,dA⟩:∃A,A=(Rf w c).1:=⟨_,rfl⟩;have at2:aF (add1 w c).1 c=f:=by rw[e1];unfold aF;show(w0.Devices.set c.toNat f).getD c.toNat default=_;rw[List.getD,ba hl];rfl
 have eW:aAS w c={w with Devices:=w0.Devices.set c.toNat E,aAA:=⟨L,bx,w0.aAA.History⟩,Sites:=A}:=by unfold aAS;rw[at2,<-dN,<-dE,<-dA,e1];show(({w with Devices:=(w0.Devices.set c.toNat f).set c.toNat E,aAA:=⟨L,bx,w0.aAA.History⟩,Sites:=A}:AA))=_;rw[d8]
 have k8:(fD (aAS w c) c).2=true:=k8;have m1:((aH (aAS w c) c 0).2==0)=true:=by
  unfold fD at k8;cases hq:(aH (aAS w c) c 0).2==0&&(Nl (aH (aAS w c) c 0).1 c).2 with
  |false=>rw[hq] at k8;cases k8
  |true=>rw[aa] at hq;exact hq.1
 obtain⟨⟨ok2,hd2⟩,_⟩:=lN m1;have at3:aF (aAS w c) c=E:=by rw[eW];unfold aF;show(w0.Devices.set c.toNat E).getD c.toNat default=_;rw[List.getD,ba hl];rfl
 obtain⟨M,dM⟩:∃M,M=bM E.aAC.Entries b.Entries:=⟨_,rfl⟩;have H:BunIn S (((3+3*i:Nat):Int)+2) M:=by rw[dM];exact hx.bun.merge hbb
 have hst:E.Store=(aF w0 c).Store:=by rw[hx.store,dD];rfl
 have hmE:fZ E.aAC b=(⟨M⟩,true):=by rw[dM];exact Kb J.ks (by omega) hx.bun hbb
 have hsy:bR E L bx (fA K (aB w0.aAA.Log) v b)=(⟨E.Store,L,K,aB w0.aAA.Log,v,⟨M⟩⟩,0):=by
  have:=Ox R e2 (d:=E) (by rw[hx.log,dD,dL];exact Ux _ _) (by
   rw[g1,hst];refine ie _ ?_;unfold bZ at O;rw[aa] at O;exact lC.1 O.2) (e:=aB w0.aAA.Log) (v:=v) (b:=b) (by omega) (h0.bun.ok J.ks (by omega)) g2.symm (.inr ⟨by rw[hx.ep,dD];rfl,by rw[hx.ver,dD];exact cI _⟩) (by rw[hmE])
  rw[this,hmE]
 have I:aH (aAS w c) c 0=({aAS w c with Devices:=w0.Devices.set c.toNat ⟨E.Store,L,K,aB w0.aAA.Log,v,⟨M⟩⟩},0):=by
  have hf:(eZ (aAS w c).aAA 0).1=fA K (aB w0.aAA.Log) v b:=aN3 (r:=r) (by rw[eW];exact h0.hist);have hL:(aAS w c).aAA.Log=L/\(aAS w c).aAA.Boxes=bx/\(aAS w c).Devices=w0.Devices.set c.toNat E:=by rw[eW];exact⟨rfl,rfl,rfl⟩
  unfold aH;rw[ok2,hd2,at3,hf,hL.1,hL.2.1,hsy,hL.2.2,d8];rfl
 have hwr:dO ⟨E.Store,L,K,aB w0.aAA.Log,v,⟨M⟩⟩=(⟨E.Store,L,K,aB w0.aAA.Log,v+1,⟨M⟩⟩,fA K (aB w0.aAA.Log) (v+1) ⟨M⟩,true):=
  aNu (d:=⟨E.Store,L,K,aB w0.aAA.Log,v,⟨M⟩⟩) J.ks (T:=((3+3*i:Nat):Int)+2) (by omega) h0.bx.kok (show 0<=aB w0.aAA.Log/\aB w0.aAA.Log<=1000000 by omega) (show-1<=v/\v<1000000 by omega) H
 obtain⟨C3,dC⟩:∃C3:AM,C3=⟨L,bx,w0.aAA.History++[fA K (aB w0.aAA.Log) (v+1) ⟨M⟩]⟩:=⟨_,rfl⟩;have hup:bQ ⟨L,bx,w0.aAA.History⟩ (fA K (aB w0.aAA.Log) (v+1) ⟨M⟩)=(C3,true):=by
  rw[dC];refine aF9 (c:=⟨L,bx,w0.aAA.History⟩) g2.symm ?_ λl hl=> ?_
  ·show w0.aAA.History.length<60;rw[h0.hist,ax,cn];omega
  ·have hl:w0.aAA.History.getLast? =some l:=hl;rw[h0.hist,ig] at hl;have hl:fA K (aB w0.aAA.Log) v b=l:=by simpa using hl
   subst hl;unfold lH;show(decide (aB w0.aAA.Log>aB w0.aAA.Log)||(aB w0.aAA.Log==aB w0.aAA.Log&&decide (v+1>v)))=true;rw[dk,au (show v+1>v by omega)];simp
 obtain⟨F,dF⟩:∃F:AC,F=⟨E.Store,L,K,aB w0.aAA.Log,v+1,⟨M⟩⟩:=⟨_,rfl⟩;obtain⟨U,dU⟩:∃U:AA,U={w with Devices:=w0.Devices.set c.toNat F,aAA:=C3,Sites:=A}:=⟨_,rfl⟩;have h3:lI w c=(U,true):=by
  show fD (aAS w c) c=_;have at4:aF (aH (aAS w c) c 0).1 c=⟨E.Store,L,K,aB w0.aAA.Log,v,⟨M⟩⟩:=by rw[I];unfold aF;show(w0.Devices.set c.toNat _).getD c.toNat default=_;rw[List.getD,ba hl];rfl
  have hcl2:(aH (aAS w c) c 0).1.aAA=⟨L,bx,w0.aAA.History⟩:=by rw[I,eW]
  have hu:Nl (aH (aAS w c) c 0).1 c=(U,true):=by unfold Nl;rw[at4,hcl2,hwr,hup,I,eW];show(({w with Devices:=(w0.Devices.set c.toNat _).set c.toNat _,aAA:=C3,Sites:=A}:AA),true)=_;rw[d8,dU,dF]
  unfold fD;rw[hu,m1];rfl
 have hUd:U.Devices=w0.Devices.set c.toNat F:=by rw[dU]
 have hUl:U.Devices.length=N:=by rw[hUd,aq,G]
 have e5:sG w c=aH (appW U (aY st)) (N:Int) 0:=by show aH (appW (lI w c).1 (aY (aM w.Seed (w.Devices.length:Int)))) (w.Devices.length:Int) 0=_;rw[h3,<-dN,<-dst]
 rw[e5] at k9 D;obtain⟨⟨ok4,hd4⟩,_⟩:=lN k9;have hX:bR (aY st) L bx (fA K (aB w0.aAA.Log) (v+1) ⟨M⟩)=(⟨st,L,K,aB w0.aAA.Log,v+1,⟨M⟩⟩,0):=by
  have hm:=Kb (S:=S) (V:=((3+3*i:Nat):Int)+2) (a:=⟨[]⟩) (b:=⟨M⟩) J.ks (by omega) (BunIn.nil _ _) H;rw[show(⟨[]⟩:AB).Entries=[] from rfl,iQ] at hm;have hm:fZ (⟨[]⟩:AB) ⟨M⟩=(⟨M⟩,true):=hm;have:=Ox R e2 (d:=aY st) (aIu L) (by rw[g1];exact List.mem_append_right _ (by show aS st∈[aS st];simp)) (e:=aB w0.aAA.Log) (v:=v+1) (b:=⟨M⟩) (by omega) (H.ok J.ks (by omega)) g2.symm (by
   show(0:Int)<_\/((0:Int)=_/\(0:Int)<=v+1);omega) (by show(fZ (⟨[]⟩:AB) ⟨M⟩).2=true;rw[hm])
  rw[this];show((⟨st,L,K,aB w0.aAA.Log,v+1,(fZ (⟨[]⟩:AB) ⟨M⟩).1⟩:AC),(0:Int))=_;rw[hm]
 obtain⟨X,dX⟩:∃X:AC,X=⟨st,L,K,aB w0.aAA.Log,v+1,⟨M⟩⟩:=⟨_,rfl⟩;rw[<-dX] at hX;have e6:aH (appW U (aY st)) (N:Int) 0=(appW U X,0):=by
  have hf:(eZ (appW U (aY st)).aAA 0).1=fA K (aB w0.aAA.Log) (v+1) ⟨M⟩:=aN3 (r:=w0.aAA.History) (by show U.aAA.History=_;rw[dU,dC]);have hL:(appW U (aY st)).aAA.Log=L/\(appW U (aY st)).aAA.Boxes=bx:=by show U.aAA.Log=L/\U.aAA.Boxes=bx;rw[dU,dC];exact⟨rfl,rfl⟩
  have hat:aF (appW U (aY st)) (N:Int)=aY st:=by unfold aF appW;rw[<-hUl];simp
  unfold aH;rw[ok4,hd4,hat,hf,hL.1,hL.2,hX];show(({appW U (aY st) with Devices:=(U.Devices++[aY st]).set ((N:Int)).toNat X}:AA),(0:Int))=_;rw[bm,<-hUl,eR _ _ (ak _)];simp[appW]
 rw[e6] at D;rw[D];show Join w (nY (appW U X) 2) c;obtain⟨x,dx⟩:∃x,x=nY (appW U X) 2:=⟨_,rfl⟩;rw[<-dx];have hmail:eY U.Mail=true:=by rw[dU,y];exact p3
 have okx:aR x=true:=by rw[dx];exact bN1 (u:=appW U (aY st)) (l:=U.Devices++[X]) (by show _=(U.Devices++[aY st]).length;simp) (bGr hmail 2) ok4
 have hxd:x.Devices=w0.Devices.set c.toNat F++[X]:=by rw[dx];show U.Devices++[X]=_;rw[hUd]
 have hlen:x.Devices.length=N+1:=by rw[hxd,ax,aq,<-G];rfl
 have atN:aF x (N:Int)=X:=by unfold aF;rw[hxd,bm,G,List.getD,az (by rw[aq];exact ak _),aq];simp
 have atc:aF x c=F:=by unfold aF;rw[hxd,List.getD,ao (by rw[aq];exact hl),ba hl];rfl
 have hnx:aO x (N:Int)=true:=by unfold aO;rw[hlen];simp;omega
 have hcx:aO x c=true:=by obtain⟨c0,c1,_⟩:=xJ hc0;unfold aO;rw[hlen];simp;omega
 have hxc:x.aAA=C3:=by rw[dx];show U.aAA=_;rw[dU]
 refine⟨by rw[<-dN];exact hlen,?_,?_,?_,λj hj=> ?_,okx,?_,k2,hcx,by rw[<-dN];exact hnx⟩
 ·rw[<-dN];unfold bZ;rw[hnx,atN,hxc,dC];show(true&&jJ (aC L) (aS X.Store))=true;rw[db,lC,g1,dX];exact List.mem_append_right _ (by simp)
 ·rw[<-dN,atN,atc,dX,dF]
 ·rw[<-dN,atN,atc,dX,dF]
 ·rw[<-dN];have h2:=h0.wi.two;obtain⟨a1,a2⟩:=aTp (st:=aM w.Seed (w.Devices.length:Int)) (n:=(w.Devices.length:Int)) (j:=0) (l:=(add1 w c).1.Sites) k7;have es1:(add1 w c).1.Sites=w0.Sites:=by rw[e1];exact eS
  have s:j.toNat<w0.Sites.length:=by omega
  have hjA:j.toNat<A.length:=by rw[dA];show j.toNat<(eH _ _ _ _).1.length;rw[a1,es1];exact s
  obtain⟨b1,b2⟩:=a2 j.toNat (by rw[es1];exact s) (by rw[a1,es1];exact s);have Q:x.Sites=A:=by rw[dx];show U.Sites=_;rw[dU]
  have hsj:bT x j=A[j.toNat]:=by unfold bT;rw[Q,List.getD,ab hjA];rfl
  have hSi:=h0.wi.site j.toNat s;rw[en (by omega)] at hSi;rw[cx,en (by omega)] at b1 b2;have eA:A[j.toNat]=(dI w0.Sites[j.toNat] 1 (N:Int) (cK st (aA j) (N:Int))).1:=by
   have:A[j.toNat]=(eH (aM w.Seed (w.Devices.length:Int)) (w.Devices.length:Int) 0 (add1 w c).1.Sites).1[j.toNat]'(by rw[a1,es1];exact s):=by simp only[dA];rfl
   rw[this,b1,<-dN,<-dst];simp only[es1]
  have b2:(dI w0.Sites[j.toNat] 1 (N:Int) (cK st (aA j) (N:Int))).2=true:=by rw[<-dN,<-dst] at b2;simp only[es1] at b2;exact b2
  rw[G] at b2 eA;obtain⟨r1,l,r2,r3,r4⟩:=bN0 hj (by omega) hSi b2;rw[<-eA,<-hsj] at r1 r4;rw[<-G] at r2 r4;have r5:=λ(q:Nat) (hq:q<(l++[(⟨(N:Int),cK st (aA j) (N:Int),0,false⟩:AV)]).length)=>show(l++[(⟨(N:Int),cK st (aA j) (N:Int),0,false⟩:AV)])[q].Handle=(q:Int) by
   by_cases hq1:q<l.length
   ·rw[fw hq1];exact r3 q hq1
   ·have:q=l.length:=by simp at hq;omega
    subst this;simp[r2]
  have hNl:N<(l++[(⟨(N:Int),cK st (aA j) (N:Int),0,false⟩:AV)]).length:=by simp[r2]
  have hge:(l++[(⟨(N:Int),cK st (aA j) (N:Int),0,false⟩:AV)])[N]=⟨(N:Int),cK st (aA j) (N:Int),0,false⟩:=by rw[List.getElem_append_right (by omega)];simp
  have hth:dS x (N:Int) j=true:=by unfold dS nI;rw[okx,hnx,Q,au (show(0:Int)<=j by omega),au (show j<(A.length:Int) by omega)];rfl
  have hsto:dV x (N:Int)=false:=by
   unfold dV;have hsl:=h0.wi.slen;have:x.Stolen=w0.Stolen++[false]:=by rw[dx];show U.Stolen++[false]=_;rw[dU,<-eT]
   rw[this,bm,List.getD,az (by omega)];rw[show N-w0.Stolen.length=0 by omega];rfl
  have o:(aF x (N:Int)).Store=st:=by rw[atN,dX]
  have hstok:jR st=true:=by rw[dst];exact bO5 (seed:=w.Seed) (k:=N) ⟨rfl,rfl,rfl,cI 0,show(0:Int)<=1000000 by decide⟩ Z
  have may:jZ (Ew j) (aA j)=true:=by
   have may:jZ (Ew 0) (aA 0)=true/\jZ (Ew 1) (aA 1)=true:=by decide
   rcases hj with rfl|rfl
   ·exact may.1
   ·exact may.2
  have hnow:0<=x.Now/\x.Now<=999900:=by
   have:x.Now=n:=by rw[dx];show U.Now=n;rw[dU,y];rfl
   rw[this];exact iA p1
  have hnxt:(bT x j).Book.Next<1000000:=by rw[hsj,eA,aY4];have:=hN _ (ce s);omega
  have hvis:(fT x (N:Int) j (Ew j)).2.2=0:=by
   refine bGt hj hth ?_ r1 hnxt hnow may r4 (by rw[o];exact hstok) (by rw[o,dst];exact(by decide:(0:Int)<1000000)) hNl (bNz r5 hNl) ?_ ?_ ?_
   ·have:=bN2 okx (i:=j.toNat) (by rw[Q];exact hjA);rw[hsj];simpa only[Q] using this
   ·rw[hge,o]
   ·rw[hge]
   ·rw[hge,o,dst];exact cI _
  unfold lT;rw[hth,hsto];exact hvis
 ·rw[<-dN,atN];have ew:aF w c=aF w0 c:=by unfold aF;rw[eD]
  have hXb:X.aAC=⟨M⟩:=by rw[dX]
  rw[ew,hXb];have hwb:BunIn S (((3+3*i:Nat):Int)+2) (aF w0 c).aAC.Entries:=hD.bun.mono (by omega);rw[Kb J.ks (by omega) (show BunIn S (((3+3*i:Nat):Int)+2) (⟨M⟩:AB).Entries from H) hwb];have hsub:Sub (aF w0 c).aAC.Entries M:=by
   refine Sub.trans (b:=f.aAC.Entries) ?_ (Sub.trans hx.sub ?_)
   ·rw[dD];exact .left hD.bun.st h0.bun.st
   ·rw[dM];exact .left hx.bun.st h0.bun.st
  show((⟨bM M (aF w0 c).aAC.Entries⟩:AB),true)=_;rw[Sub.merge hwb.st H.st hsub]
def bN4 {w0 w:AA}(h:DrV 4 w0)(f:aN2 w0 w){c:Int}(d:(bY w c).2=true):Join w (bY w c).1 c:=by
 have a:=V8 d;have e:=a;unfold qN at a;simp only[aa,bo,cC] at a;obtain⟨⟨k1,k2,k3,k4⟩,k5,_⟩:=a;rcases f with⟨n,k,m,rfl⟩|hb|⟨q,rfl,hq⟩
 ·exact bN3 h.all V9 (by omega) (B:=4) (by omega) h.nx e
 ·rw[hb] at k1;cases k1
 ·obtain⟨K,v,r,b,n,hr⟩:=h.all.net;rw[bK0 n h.seed hq c 0] at k5;cases k5
end Go.VK
