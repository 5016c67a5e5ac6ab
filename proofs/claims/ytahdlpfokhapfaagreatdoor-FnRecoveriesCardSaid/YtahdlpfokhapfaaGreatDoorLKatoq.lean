import Derived.Test.YtahdlpfokhapfaaGreatDoorXvFF
/- Printed by wip/tools: models, walks, proofs. -/
set_option linter.all false
set_option maxRecDepth 100000
namespace Go.VK
open D
def kG {h:Int}(v:Int)(h0:0<=h/\h<2147483647):∃q,hstep h v=h*1000003+v+13-2147483647*q/\(0<=hstep h v/\hstep h v<2147483647):=by
 obtain⟨h0,h1⟩:=h0;have hm:=lJ (p:=v) (q:=2147483647) (by decide);have hv:bJ v 2147483647=v%2147483647:=cG (by decide);have e:hstep h v=(h*1000003+v+13)%2147483647:=by
  grind[aH,bJ,Int.tmod_eq_emod_of_nonneg,hstep]
 grind
def bDp (k a b:Int):∃q,bH k [a,b]=k*1000009000027000028+a*1000006000009+b*1000003+11000145000724001630001411-2147483647*q:=by simp only[bH,tN,cC,fx,eI,cJ,bo,df,gq];obtain⟨q0,e0,f⟩:=kG k (h:=11) (by grind);generalize hstep 11 k=c at*;obtain⟨q1,l,i⟩:=kG a (h:=c) f;generalize hstep c a=d at*;obtain⟨q2,n,j⟩:=kG b (h:=d) i;generalize hstep d b=e at*;obtain⟨q3,o,p⟩:=kG k (h:=e) j;generalize hstep e k=s at*;exact⟨q0*1000009000027000027+q1*1000006000009+q2*1000003+q3*1,by omega⟩
def bDq (k a b c:Int):∃q,bH k [a,b,c]=k*1000012000054000108000082+a*1000009000027000027+b*1000006000009+c*1000003+11000178001159003802006301004246-2147483647*q:=by simp only[bH,tN,cC,fx,eI,cJ,bo,df,gq];obtain⟨q0,e0,j⟩:=kG k (h:=11) (by grind);generalize hstep 11 k=d at*;obtain⟨q1,p,l⟩:=kG a (h:=d) j;generalize hstep d a=e at*;obtain⟨q2,s,n⟩:=kG b (h:=e) l;generalize hstep e b=f at*;obtain⟨q3,u,o⟩:=kG c (h:=f) n;generalize hstep f c=i at*;obtain⟨q4,x,y⟩:=kG k (h:=i) o;generalize hstep i k=z at*;exact⟨q0*1000012000054000108000081+q1*1000009000027000027+q2*1000006000009+q3*1000003+q4*1,by omega⟩
def bDr (k a b c d:Int):∃q,bH k [a,b,c,d]=k*1000015000090000270000405000244+a*1000012000054000108000081+b*1000009000027000027+c*1000006000009+d*1000003+11000211001693007279017707023149012751-2147483647*q:=by simp only[bH,tN,cC,fx,eI,cJ,bo,df,gq];obtain⟨q0,e0,n⟩:=kG k (h:=11) (by grind);generalize hstep 11 k=e at*;obtain⟨q1,x,o⟩:=kG a (h:=e) n;generalize hstep e a=f at*;obtain⟨q2,y,p⟩:=kG b (h:=f) o;generalize hstep f b=i at*;obtain⟨q3,z,s⟩:=kG c (h:=i) p;generalize hstep i c=j at*;obtain⟨q4,A,u⟩:=kG d (h:=j) s;generalize hstep j d=l at*;obtain⟨q5,D,F⟩:=kG k (h:=l) u;generalize hstep l k=G at*;exact⟨q0*1000015000090000270000405000243+q1*1000012000054000108000081+q2*1000009000027000027+q3*1000006000009+q4*1000003+q5*1,by omega⟩
def Qc (n:Int):∃e,gQ n=n+e/\0<=e/\e<=1:=by
 unfold gQ;by_cases h:n=0
 ·simp[*]
 ·rw[cm.2 h];exact⟨0,by simp,by decide,by decide⟩
def bDs (s i:Int):(aQ s i).Seed=gQ (bH s [151,277,i]):=by rfl
def bDt (s:AO):iU s=gQ (bH s.Seed [151,181]):=by rfl
def aXr (s:AO)(n:ByteArray)(i:Int):bY s n i=gQ (bH s.Seed [151,179,cB n,i]):=by rfl
def aSz (s i k:Int):∃e q,(aQ s i).Seed-(aQ s k).Seed=(i-k)*1000003+e+2147483647*q/\-1<=e/\e<=1:=by have hi:(aQ s i).Seed=gQ (bH s [151,277,i]):=bDs s i;have hk:(aQ s k).Seed=gQ (bH s [151,277,k]):=bDs s k;obtain⟨a,c,j,l⟩:=Qc (bH s [151,277,i]);obtain⟨d,b1,n,o⟩:=Qc (bH s [151,277,k]);obtain⟨q1,f⟩:=bDq s 151 277 i;obtain⟨q2,h⟩:=bDq s 151 277 k;rw[hi,hk,c,b1,f,h];exact⟨a-d,q2-q1,by omega,by omega,by omega⟩
def dfs:List Int:=[-5,-4,-3,-2,-1,0,1,2,3,4,5]
def aZ5:List Int:=[-1,0,1]
theorem aXs {d:Int}(h1: -5<=d)(h2:d<=5):d∈dfs:=by simp only[dfs,ay,fb,or_false];omega
def q9 {d:Int}(h1: -1<=d)(h2:d<=1):d∈aZ5:=by grind[aZ5]
def bGm:(dfs.all λd=>d==0||aZ5.all λe=>aZ5.all λz=> !((d*1000003+e)*1000009000027000028-z)%2147483647==0)=true:=by kernel_rfl
def aZ6 {s i k:Int}(hi:0<=i/\i<6)(hk:0<=k/\k<6)(h:i≠k):iU (aQ s i)≠iU (aQ s k):=by
 intro he;obtain⟨e,q,d1,d2,d3⟩:=aSz s i k;have h1:iU (aQ s i)=gQ (bH (aQ s i).Seed [151,181]):=bDt _;have h2:iU (aQ s k)=gQ (bH (aQ s k).Seed [151,181]):=bDt _;obtain⟨a,d,l,n⟩:=Qc (bH (aQ s i).Seed [151,181]);obtain⟨c,b1,o,p⟩:=Qc (bH (aQ s k).Seed [151,181]);obtain⟨q1,f⟩:=bDp (aQ s i).Seed 151 181;obtain⟨q2,j⟩:=bDp (aQ s k).Seed 151 181;rw[h1,h2,d,b1,f,j] at he;have u:(((i-k)*1000003+e)*1000009000027000028-(c-a))%2147483647=0:=by omega
 have:=ck.1 bGm (i-k) (aXs (by omega) (by omega));rw[cm.2 (show i-k≠0 by omega),cV] at this;have:=ck.1 (ck.1 this e (q9 d2 d3)) (c-a) (q9 (by omega) (by omega));simp_all
def hs1:Int:=1464438180
def bN7:cB (aA 0)=1941999745:=by kernel_rfl
def bN8:cB (aA 1)=1464438180:=by kernel_rfl
def bDu:(dfs.all λd=>[0,477561565,-477561565].all λ(g:Int)=>(d==0&&g==0)||aZ5.all λe=>aZ5.all λz=> !((d*1000003+e)*1000015000090000270000405000244+g*1000006000009+d*1000003-z)%2147483647==0)=true:=by kernel_rfl
def aS0 {s i k j l:Int}(hi:0<=i/\i<6)(hk:0<=k/\k<6)(hj:j=0\/j=1)(hl:l=0\/l=1)(h:i≠k\/j≠l):bY (aQ s i) (aA j) i≠bY (aQ s k) (aA l) k:=by
 intro he;obtain⟨e,q,d1,d2,d3⟩:=aSz s i k;have h1:bY (aQ s i) (aA j) i=gQ (bH (aQ s i).Seed [151,179,cB (aA j),i]):=aXr _ _ _;have h2:bY (aQ s k) (aA l) k=gQ (bH (aQ s k).Seed [151,179,cB (aA l),k]):=aXr _ _ _;obtain⟨c,f,p,u⟩:=Qc (bH (aQ s i).Seed [151,179,cB (aA j),i]);obtain⟨d,b1,x,y⟩:=Qc (bH (aQ s k).Seed [151,179,cB (aA l),k]);obtain⟨q1,n⟩:=bDr (aQ s i).Seed 151 179 (cB (aA j)) i;obtain⟨q2,o⟩:=bDr (aQ s k).Seed 151 179 (cB (aA l)) k;rw[h1,h2,f,b1,n,o] at he;obtain⟨g,hg,a⟩:∃g,cB (aA j)-cB (aA l)=g/\(g∈[0,477561565,(-477561565:Int)]/\(j≠l->g≠0)):=by
  rcases hj with rfl|rfl<;>rcases hl with rfl|rfl<;>simp only[bN7,bN8]
  all_goals simp
 have z:(((i-k)*1000003+e)*1000015000090000270000405000244+g*1000006000009+(i-k)*1000003-(d-c))%2147483647=0:=by omega
 have:=ck.1 (ck.1 bDu (i-k) (by grind[aXs])) g a.1;rw[show(i-k==0&&g==0)=false by
  rcases h with h|h
  ·rw[cm.2 (show i-k≠0 by omega)];rfl
  ·rw[cm.2 (a.2 h),dn],cV] at this
 have:=ck.1 (ck.1 this e (q9 d2 d3)) (d-c) (q9 (by omega) (by omega));simp_all
def aZ7 {n:Int}(h:0<=n/\n<2147483647):bQ (gQ n)=true:=by
 grind[beq_eq_false_iff_ne,decide_eq_true,gQ,bQ,bD]
def eP (s:Int)(l:List Int):bQ (aJ s l)=true:=aZ7 (mD _ _)
theorem aNz {k:Int}(h:bQ k=true):1<=k/\k<=2147483646:=fZ h
theorem bHs {k:Int}(h:bQ k=true):fH k=k*48271%2147483647:=by have:=aNz h;unfold fH;rw[h,bf,ah,aH (by omega) (by omega),cf (by omega)]
theorem aXt {k:Int}(h:bQ k=true):bQ (fH k)=true:=by
 grind[decide_eq_true,bQ,bD,bHs,aNz]
theorem r9 {k:Int}(h:bQ k=true):eX (fH k)=k:=by
 have:=aNz h
 grind[aXt,Bool.not_true,bHs,eX]
def aXu {a b:Int}(c:bQ a=true)(hb:bQ b=true)(h:fH a=fH b):a=b:=by rw[<-r9 c,h,r9 hb]
def aVf {s i k j l:Int}(hi:0<=i/\i<6)(hk:0<=k/\k<6)(hj:j=0\/j=1)(hl:l=0\/l=1)(h:i≠k\/j≠l):gI (aQ s i) (aA j) i≠gI (aQ s k) (aA l) k:=
 λhe=>aS0 hi hk hj hl h (aXu (eP _ _) (eP _ _) he)
def aZ8 {s i k:Int}(hi:0<=i/\i<6)(hk:0<=k/\k<6)(h:i≠k):bO (aQ s i)≠bO (aQ s k):=
 λhe=>aZ6 hi hk h (aXu (eP _ _) (eP _ _) he)
theorem Y8 {α:Type}{p:Nat->α->Bool}:∀{l:List α} {i:Nat},(∀k (h:k<l.length),p (i+k) l[k]=false)->dP p i l=false
 |[],i,_=>rfl
 |x::l,i,h=>by
  have h0:=h 0 (by simp);have a:=Y8 (p:=p) (l:=l) (i:=i+1) (λk hk=>by
   have:=h (k+1) (by simpa using hk);rw[show i+1+k=i+(k+1) by omega];simpa using this)
  simp only[dP,eh,List.getElem_cons_zero] at h0 ⊢;rw[h0,a];rfl
theorem aPy {α:Type}{p:Nat->α->Bool}:∀{l:List α} {i:Nat},dP p i l=false->∀k (h:k<l.length),p (i+k) l[k]=false
 |x::l,i,h,0,_=>by simp only[dP,bz] at h;simpa using h.1
 |x::l,i,h,k+1,hk=>by
  simp only[dP,bz] at h;have:=aPy h.2 k (by simpa using hk);rw[show i+(k+1)=i+1+k by omega];simpa using this
def w9 (seed j:Int)(k:Nat):Int:=gI (aQ seed (k:Int)) (aA j) (k:Int)
def aZ9 (seed j:Int)(l:List AV):Prop:=∀k (h:k<l.length),l[k].Handle=(k:Int)/\l[k].Public=w9 seed j k/\0<=l[k].Counter/\l[k].Counter<=1000000
theorem iK {x a b:Int}(h1:a<=x)(h2:x<=b):bD x a b=true:=by grind[decide_eq_true,bD]
theorem bGn {seed j l:Int}{i k:Nat}(hi:i<6)(hk:k<6)(hj:j=0\/j=1)(hl:l=0\/l=1)(h:i≠k\/j≠l):w9 seed j i≠w9 seed l k:=
 aVf (by omega) (by omega) hj hl (by omega)
def bAa (seed j:Int)(k:Nat):eX (w9 seed j k)=bY (aQ seed (k:Int)) (aA j) (k:Int):=by simp[r9,bY,eP,w9,gI]
theorem aPz {seed j m:Int}{l:List AV}(hj:j=0\/j=1)(h:aZ9 seed j l)(hl:l.length<=6)(hm:1<=m/\m<=3):bR ⟨1,m,l⟩=true:=by
 have f:dP (rP ⟨1,m,l⟩) 0 l=false:=Y8 λk hk=>by
  obtain⟨h1,h2,c,d⟩:=h k hk;have hp:=aNz (eP (aQ seed (k:Int)).Seed [179,cB (aA j),(k:Int)]);unfold rP;rw[cn,h1,iK (by omega) (by omega),h2,bAa,cm.2 (show bY (aQ seed (k:Int)) (aA j) (k:Int)≠0 by unfold bY;omega),iK c d];have n:(decide (0<k)&&decide ((l.getD (k-1) default).Handle>=(k:Int)))=false:=by
   by_cases e:0<k
   ·have a:k-1<l.length:=by omega
    have:=(h (k-1) a).1;rw[List.getD,aa a,cA,this,ax (show ¬((k-1:Nat):Int)>=(k:Int) by omega),dn]
   simp[*]
  have o:((l.take k).any λq=>q.Public==w9 seed j k)=false:=by
   rw[List.any_eq_false];intro q hq;obtain⟨i,hi,rfl⟩:=dr.1 hq;rw[cq] at hi;rw[List.getElem_take,(h i (by omega)).2.1]
   grind[bGn]
  simp_all
 grind[iK,decide_eq_true,bD,decide,dP,rP,bR]
structure SiteIn (seed j:Int) (n:Nat) (s:AF):Prop where
 name:s.Name=aA j
 book:fI s.Book=true
 key:bQ s.Book.Seed=true
 acc:∃l,s.Accounts=[⟨1,3,l⟩]/\aZ9 seed j l/\l.length=n
theorem Y9 {j:Int}(hj:j=0\/j=1):(gU (aA j)&&decide (2<=(bA (aA j)).length))=true:=by rcases hj with rfl|rfl<;>kernel_rfl
def SiteIn.ok {seed j:Int}{n:Nat}{s:AF}(hj:j=0\/j=1)(hn:n<=6)(h:SiteIn seed j n s):dN s=true:=by
 obtain⟨h1,h2,a,l,c,d,e⟩:=h;unfold dN iW;rw[h1,Y9 hj,a,h2,c];show(true&&true&&decide (1<=8)&&true&& !(Ew [⟨1,3,l⟩] 0 ⟨1,3,l⟩||false))=true
 grind[aPz,Ew]
def SiteIn.find {seed j:Int}{n:Nat}{s:AF}(h:SiteIn seed j n s):aU s 1=0:=by obtain⟨_,_,_,l,a,_⟩:=h;unfold aU;rw[a];rfl
theorem aN0 {α:Type}{p:α->Bool}:∀{l:List α},(∀c∈l,p c=true)->l.takeWhile p=l
 |[],_=>rfl
 |x::l,h=>by rw[cP,h x (by simp),cG rfl,aN0 (λc hc=>h c (by simp[hc]))]
def bDv {l:List AV}{p:Int}(h:∀k (h:k<l.length),l[k].Handle=(k:Int)):aDu l (l.length:Int) p=l++[⟨(l.length:Int),p,0,false⟩]:=by
 have:Uy (l.length:Int) l=l.length:=by
  grind[decide_eq_true,List.mem_iff_getElem,aN0,Uy]
 unfold aDu;rw[this,cI,gb,eI]
def aZ9.snoc {seed j:Int}{l:List AV}(h:aZ9 seed j l):aZ9 seed j (l++[⟨(l.length:Int),w9 seed j l.length,0,false⟩]):=by
 intro k hk;by_cases a:k<l.length
 ·rw[jc a];exact h k a
 grind
def SiteIn.reg {seed j:Int}{n:Nat}{s:AF}(hj:j=0\/j=1)(hn:n<6)(h:SiteIn seed j n s):
  (iL s 1 (n:Int) (w9 seed j n)).2=true/\SiteIn seed j (n+1) (iL s 1 (n:Int) (w9 seed j n)).1:=by
 have c:=h.ok hj (by omega);have d:=h.find;obtain⟨h1,h2,f,l,i,e,o⟩:=h;subst o;have q:(s.Accounts.getD (aU s 1).toNat default)=⟨1,3,l⟩:=by simp[*]
 have hi:=bDv (p:=w9 seed j l.length) (λk hk=>(e k hk).1);have hs:=e.snoc;have u:=aPz (m:=3) hj e (by omega) (by grind);have x:=aPz (m:=3) hj hs (by simp;omega) (by grind);have a:iG ⟨1,3,l⟩ (l.length:Int) (w9 seed j l.length)=(⟨1,3,l++[⟨(l.length:Int),w9 seed j l.length,0,false⟩]⟩,true):=by
  grind[bR,aDu,w9,iG]
 unfold iL;rw[c,d,show decide ((0:Int)<0)=false from rfl,<-d,q,a,d,i];exact⟨rfl,h1,h2,f,_,rfl,hs,by simp⟩
def aVg {seed j:Int}(hj:j=0\/j=1):SiteIn seed j 0 (iY (dR (aA j) (aJ seed [281,j])) 1 3).1:=by
 have hk:=eP seed [281,j];generalize aJ seed [281,j]=q at*;have hn:dR (aA j) q=⟨aA j,[],⟨q,0,[]⟩,[]⟩:=by
  grind[Y9,dR,iW]
 have hb:fI ⟨q,0,[]⟩=true:=rfl;have a:SiteIn seed j 0 (oK ⟨aA j,[],⟨q,0,[]⟩,[]⟩ 1 3):=
  ⟨rfl,hb,hk,[],rfl,λk hk=>by simp at hk,rfl⟩
 have h0:dN ⟨aA j,[],⟨q,0,[]⟩,[]⟩=true:=by unfold dN iW;rw[Y9 hj,hk];rfl
 unfold iY;rw[hn,h0,a.ok hj (by omega)];exact a
def aHw {seed j:Int}(hj:j=0\/j=1):∀(m i:Nat) (s:AF),SiteIn seed j i s->i+m<=6->
  SiteIn seed j (i+m) (rR (aA j) i ((List.range' i m).map λ(k:Nat)=>cZ (aQ seed (k:Int))) s)
 |0,i,s,h,_=>h
 |m+1,i,s,h,hm=>by
  have:=aHw hj m (i+1) _ (h.reg hj (by omega)).2 (by omega);rw[show i+1+m=i+(m+1) by omega] at this;exact this
theorem aS1 {seed j:Int}(hj:j=0\/j=1){n:Nat}(hn:n<=6):SiteIn seed j n (Lc seed (bB seed n) j):=by have:=aHw hj n 0 _ (aVg (seed:=seed) hj) (by omega);rw[cn,<-List.range_eq_range'] at this;exact this
theorem aS2 {α:Type}{r:α->α->Prop}(ht:∀a b c,r a b->r b c->r a c):∀{l:List α},(∀k (h:k+1<l.length),r l[k] l[k+1])->l.Pairwise r
 |[],_=> .nil
 |[x],_=>fm r x
 |x::y::l,h=>by
  have e:=aS2 (r:=r) ht (l:=y::l) (λk hk=>by have:=h (k+1) (by simpa using hk);simpa using this);refine da.2 ⟨λz d=> ?_,e⟩;have h0:r x y:=by simpa using h 0 (by simp)
  rcases ay.1 d with rfl|d
  ·exact h0
  ·exact ht _ _ _ h0 ((da.1 e).1 z d)
structure BookIn (b:AQ):Prop where
 next:0<=b.Next/\b.Next<=1000000
 len:b.Open.length<=16
 ord:b.Open.Pairwise (λa c=>a.Id<c.Id)
 all:∀c∈b.Open,(0<=c.Id/\c.Id<b.Next)/\(0<=c.aAG/\c.aAG<=1000005)/\(0<=c.Until/\c.Until<=1000005)
def BookIn.ok {b:AQ}(h:BookIn b):fI b=true:=by
 obtain⟨h1,h2,a,c⟩:=h;have d:dP (fB b) 0 b.Open=false:=(by grind[Y8,List.getElem_mem,fB,aH,iK,decide,default,List.pairwise_iff_getElem,List.getD,List.getElem?_eq_getElem,decide_eq_false])
 grind[iK,decide_eq_true,fI]
def aP0 {b:AQ}(h:fI b=true):BookIn b:=by
 unfold fI at h;simp only[ab,cY,cu] at h;obtain⟨⟨h1,h2⟩,f⟩:=h;have h1:=fZ h1;have hg:∀k (hk:k<b.Open.length),((0<=b.Open[k].Id/\b.Open[k].Id<b.Next)/\(0<=b.Open[k].aAG/\b.Open[k].aAG<=1000005)/\(0<=b.Open[k].Until/\b.Open[k].Until<=1000005))/\(0<k->(b.Open.getD (k-1) default).Id<b.Open[k].Id):=λk hk=>by
  have:=aPy f k hk;unfold fB at this;rw[cn,aH (by omega) (by omega)] at this;simp only[bz,dc,Bool.and_eq_false_iff,cR] at this;obtain⟨a,i,d,e⟩:=this;have a:=fZ a;have d:=fZ d;have e:=fZ e;omega
 refine⟨⟨h1.1,h1.2⟩,h2,(by grind[aS2,Int.lt_trans]),λc hc=> ?_⟩
 all_goals grind[List.mem_iff_getElem,Nat.add_sub_cancel,List.getD,List.getElem?_eq_getElem]
def aS3 {b:AQ}(h:BookIn b)(a n:Int):BookIn (eZ b a n).1/\(eZ b a n).1.Seed=b.Seed/\b.Next<=(eZ b a n).1.Next/\(eZ b a n).1.Next<=b.Next+1:=by
 unfold eZ;rw[h.ok];by_cases hn:b.Next=1000000
 ·simp[*]
 ·rw[cm.2 hn];cases hr:bD a 0 1000000&&bD n 0 1000000 with
  |false=>grind
  |true=>
   rw[ab] at hr;have f:=fZ hr.1;have i:=fZ hr.2;obtain⟨h1,h2,j,k⟩:=h;have d:IntKind.i64.wrap (b.Next+1)=b.Next+1:=(by grind[aH]);have e:IntKind.i64.wrap (n+5)=n+5:=(by grind[aH]);have key:∀l:List AX,l.length<=15->l.Pairwise (λa c=>a.Id<c.Id)->(∀c∈l,c∈b.Open)->BookIn ⟨b.Seed,IntKind.i64.wrap (b.Next+1),l++[o7 b a n]⟩:=λl hl ho hm=>by
    rw[d];refine⟨(by grind),by simp;omega,?_,λc hc=> ?_⟩
    all_goals grind[q1,q2,q3,List.mem_singleton,o7]
   grind
def SiteIn.aBY {seed j:Int}{n:Nat}{s:AF}(h:SiteIn seed j n s){b:AQ}(hb:BookIn b)(hs:b.Seed=s.Book.Seed):SiteIn seed j n {s with Book:=b}:=
 ⟨h.name,hb.ok,by show bQ b.Seed=true;rw[hs];exact h.key,h.acc⟩
def SiteIn.begin {seed j:Int}{n:Nat}{s:AF}(h:SiteIn seed j n s)(i t:Int):SiteIn seed j n (aHq s i t).1:=by
 unfold aHq;cases dN s&&(!decide (aU s i<0)&&(eZ s.Book i t).2.2) with
 |false=>exact h
 |true=>have:=aS3 (aP0 h.book) i t;exact h.aBY this.1 this.2.1
def aHx {α:Type}{p:α->Bool}:∀{l:List α} {i:Nat},decide (iR p i l<0)=false->∃k,∃h:k<l.length,iR p i l=((i+k:Nat):Int)/\p l[k]=true
 |[],i,h=>by simp[iR] at h
 |x::l,i,h=>by
  unfold iR at h ⊢;cases hp:p x with
  |true=>exact⟨0,by simp,by simp,by simpa using hp⟩
  |false=>rw[hp,ah] at h;obtain⟨k,hk,a,c⟩:=aHx h;exact⟨k+1,by simpa using hk,by rw[ah,a];congr 1;omega,by simpa using c⟩
structure StIn (seed:Int) (k:Nat) (s:AO):Prop where
 ven:s.Vendor=1
 ser:s.Serial=(k:Int)
 key:s.Seed=(aQ seed (k:Int)).Seed
 cnt:0<=s.Counter/\s.Counter<=1000000
structure WIn (m:Nat) (w:AA):Prop where
 seed:bQ w.Seed=true
 now:0<=w.Now/\w.Now<=999900
 dlen:1<=w.Devices.length/\w.Devices.length<=6
 slen:w.Stolen.length=w.Devices.length
 dev:∀k (h:k<w.Devices.length),StIn w.Seed k w.Devices[k].Store
 two:w.Sites.length=2
 mle:m<=6
 site:∀j (h:j<w.Sites.length),SiteIn w.Seed (j:Int) m w.Sites[j]
 mail:dM w.Mail=true
 log:bI w.aAH.Log=true
def WIn.ok {m:Nat}{w:AA}(h:WIn m w):aX w=true:=by
 have hs:dP oD 0 w.Sites=false:=Y8 λk hk=>by
  have h2:=h.two;have:=h.site k hk;unfold oD;rw[this.ok (by omega) h.mle,this.name,cn];simp
 unfold aX;have h2:=h.two;have a:=h.slen;have c:=h.dlen;rw[hs,h.log,h.mail,h.seed,iK h.now.1 h.now.2,iK (by omega) (by omega),a,h2];simp
def WIn.upd {m:Nat}{w v:AA}(h:WIn m w)(h1:v.Seed=w.Seed)(h2:v.Now=w.Now)(a:v.Devices.length=w.Devices.length)(c:v.Stolen.length=w.Stolen.length)
  (i:∀k (h:k<v.Devices.length),StIn w.Seed k v.Devices[k].Store) (d:v.Sites.length=2) (l:∀j (h:j<v.Sites.length),SiteIn w.Seed (j:Int) m v.Sites[j]) (e:dM v.Mail=true) (f:bI v.aAH.Log=true):WIn m v where
 seed:=by rw[h1];exact h.seed
 now:=by rw[h2];exact h.now
 dlen:=by rw[a];exact h.dlen
 slen:=by rw[a,c];exact h.slen
 dev:=by simp[*]
 two:=d
 mle:=h.mle
 site:=by simp[*]
 mail:=e
 log:=f
def bDw {w:AA}{d:Int}(h:mE w d=true):0<=d/\d.toNat<w.Devices.length/\dA w d=w.Devices.getD d.toNat default:=by simp only[mE,ab,cY] at h;exact⟨h.1,by omega,rfl⟩
def aXv {w:AA}{d:Int}(h:mE w d=true):∃h:d.toNat<w.Devices.length,dA w d=w.Devices[d.toNat]:=by simp_all[List.getD,aa,bDw]
def WIn.aCT {m:Nat}{w:AA}(h:WIn m w){d:Int}(hd:mE w d=true):StIn w.Seed d.toNat (dA w d).Store:=by obtain⟨h1,h2⟩:=aXv hd;rw[h2];exact h.dev _ h1
def bAb {m:AM}(h:dM m=true)(k a t:Int):dM (mO m k a t).1=true:=by
 grind[dM,Bp,Bool.or_eq_false_iff,Bool.not_eq_false',mO]
def WIn.tell {m:Nat}{w:AA}(h:WIn m w)(k:Int):WIn m (o6 w k):=
 h.upd rfl rfl rfl rfl h.dev h.two h.site (bAb h.mail _ _ _) h.log
theorem aS4 (d:AC):(jS d).1.Store=d.Store:=by unfold jS;cases(mX d.Key d.Epoch (IntKind.i64.wrap (d.Version+1)) d.aAF).2<;>rfl
def aP1 (d:AC)(n:ByteArray)(h:Int)(r:Bool):(fT d n h r).1.Store=d.Store:=by unfold fT;cases(Pq d n h r).2<;>rfl
def aS5 {k:Int}(h:bQ k=true)(l:List Int):fQ (fH k) l (pU k l)=true:=by
 have:=aNz h
 grind[r9,bne,beq_eq_false_iff_ne,fQ]
def bDx {l:List AD}{e:AD}(h:l=[]\/bI l=true)(hs:lF l e=true)(hl:l.length<40):bI (l++[e])=true:=by
 grind[iK,Bool.not_eq_true',bI,dP,lF,Y8,List.getElem_append_left,aPy]
def bDy (l:List AD)(e:AD):aD (l++[e])=jK (aD l) e:=by simp[fv,aD]
def aVh (l:List AD)(e:AD):aK (l++[e])=bif e.Kind==2 then IntKind.i64.wrap (aK l+1) else aK l:=by simp[fv,aK]
def aP2 (l:List AD)(e:AD)(p:Int):fJ (l++[e]) p=(fJ l p||(e.Kind==2&&e.Device==p)):=by simp[io,fJ]
def rA (seed:Int)(k:Nat):Int:=bO (aQ seed (k:Int))
theorem aXw {seed:Int}{i k:Nat}(hi:i<6)(hk:k<6)(h:i≠k):rA seed i≠rA seed k:=aZ8 (by omega) (by omega) (by omega)
def aHy (s:AO):bQ (iU s)=true:=by simp[eP,iU]
theorem Lh {l:List Int}{x:Int}:gT l x=true↔x∈l:=by
 grind[List.any_eq_true,gT]
structure NewLog (seed:Int) (n:Nat) (l:List AD):Prop where
 len:l.length=n
 devs:aD l=(List.range n).map (rA seed)
 rem:∀p,fJ l p=false
 ep:aK l=0
 ok:n=0\/bI l=true
def Bv (seed:Int):∀n,n<=6->NewLog seed n (aM seed n)
 |0,_=>⟨rfl,rfl,λ_=>rfl,rfl, .inl rfl⟩
 |n+1,hn=>by
  obtain⟨h1,h2,h,j,c⟩:=Bv seed n (by omega);have a:gT (aD (aM seed n)) (rA seed n)=false:=by rw[Bool.eq_false_iff,Ne,Lh,h2];intro hm;obtain⟨i,hi,e⟩:=cj.1 hm;have hi:=List.mem_range.1 hi;exact aXw (by omega) (by omega) (by omega) e
  have d:lF (aM seed n) (aZv (aM seed n) 1 (rA seed n) (aQ seed 0))=true:=by
   unfold lF;have v:fQ (bO (aQ seed 0)) [bU (aU2 (aM seed n) 1 (rA seed n) (aQ seed 0))] (oI (aQ seed 0) [bU (aU2 (aM seed n) 1 (rA seed n) (aQ seed 0))])=true:=by unfold oI bO;exact aS5 (aHy _) _
   show(((aM seed n).length:Int)==((aM seed n).length:Int)&&(fK (aM seed n)==fK (aM seed n)&&((gT (aD (aM seed n)) (bO (aQ seed 0))||(((aM seed n).length:Int)==0&&bO (aQ seed 0)==rA seed n))&&(fQ (bO (aQ seed 0)) [bU (aU2 (aM seed n) 1 (rA seed n) (aQ seed 0))] (oI (aQ seed 0) [bU (aU2 (aM seed n) 1 (rA seed n) (aQ seed 0))])&&
    (!fJ (aM seed n) (rA seed n)&&(true&&(!gT (aD (aM seed n)) (rA seed n)&&decide (((aD (aM seed n)).length:Int)<6))))))))=true
   rw[v,h,a,h2,h1];have f:(gT ((List.range n).map (rA seed)) (bO (aQ seed 0))||((n:Int)==0&&bO (aQ seed 0)==rA seed n))=true:=by
    cases n with
    |zero=>simp[rA]
    |succ n=>rw[show gT ((List.range (n+1)).map (rA seed)) (bO (aQ seed 0))=true from Lh.2 (cj.2 ⟨0,by simp,rfl⟩)];rfl
   rw[f];simp;omega
  have hl:=bDx (l:=aM seed n) (by
   rcases c with c|c
   ·subst c;exact .inl rfl
   ·exact .inr c) d (by omega)
  have e:aM seed (n+1)=aM seed n++[aZv (aM seed n) 1 (rA seed n) (aQ seed 0)]:=by
   show(jM (aM seed n) 1 (bO (aQ seed (n:Int))) (aQ seed 0)).1=_;unfold jM;have hq:(decide (((aM seed n).length:Int)>0)&& !bI (aM seed n))=false:=by
    rcases c with c|c
    ·subst c;rfl
    ·rw[c];simp
   rw[hq,show bO (aQ seed (n:Int))=rA seed n from rfl,hl];rfl
  rw[e];refine⟨by simp[h1],?_,λp=> ?_,?_, .inr hl⟩
  ·rw[bDy,ef,cQ,<-h2];unfold jK;have hc:(aD (aM seed n)).contains (rA seed n)=false:=by rw[Bool.eq_false_iff] at a ⊢;intro hc;exact a (Lh.2 (by simpa using hc))
   show(bif (1:Int)==1 then(bif (aD (aM seed n)).contains (rA seed n) then _ else _) else _)=_;rw[hc];rfl
  ·rw[aP2,h];rfl
  ·rw[aVh,j];rfl
theorem aN1 {e:Int}{d:List Int}(hd:d.length<=200):∀(l:List Int) (i:Nat),(∀p∈l,bQ p=true)->1<=e+(i:Int)->e+(i:Int)+(l.length:Int)<=2147483646->
  (eU e d i l).2=true/\(eU e d i l).1.length=l.length/\(eU e d i l).1.map (·.To)=l/\∀k (h:k<(eU e d i l).1.length) (h2:k<l.length),(eU e d i l).1[k]=sG l[k] (e+((i+k:Nat):Int)) d
 |[],i,_,_,_=>⟨rfl,rfl,rfl,λk h _=>by simp[eU] at h⟩
 |p::l,i,hp,h1,h2=>by
  simp only[au] at h2;obtain⟨j,n,o,s⟩:=aN1 (e:=e) hd l (i+1) (λq hq=>hp q (by simp[hq])) (by push_cast;omega) (by push_cast at h2 ⊢;omega);have hk:=hp p (by simp);have hq:=aNz hk;have u:IntKind.i64.wrap (e+(i:Int))=e+(i:Int):=aH (by omega) (by push_cast at h2;omega);have a:eX p≠0:=by unfold eX;rw[hk,bf,ah];omega
  have hb:eH p (IntKind.i64.wrap (e+(i:Int))) d=(sG p (e+(i:Int)) d,true):=by unfold eH;rw[u,cm.2 a,show bQ (e+(i:Int))=true from iK (by omega) (by push_cast at h2;omega),ax (show ¬(d.length:Int)>200 by omega)];rfl
  have x:eU e d i (p::l)=(sG p (e+(i:Int)) d::(eU e d (i+1) l).1,true):=by rw[eU,hb,j];rfl
  rw[x];refine⟨rfl,by simp[n],?_,λk c f=> ?_⟩
  ·simp only[bh,o];rfl
  ·cases k with
   |zero=>rfl
   |succ k=>simp only[au] at c f;have:=s k (by omega) (by omega);simp only[eR];rw[this];congr 1;push_cast;omega
def bDz {l:List AN}{p:Int}:∀(n:Int),0<=n->n+(l.length:Int)<=1000000->l.foldl (λn b=>bif b.To==p then IntKind.i64.wrap (n+1) else n) n=n+((l.filter λb=>b.To==p).length:Int):=by induction l<;>grind[List.length_cons,aH]
def bAc {l:List AN}(h:(l.map (·.To)).Nodup){p:Int}(hp:p∈l.map (·.To)):(l.filter λb=>b.To==p).length=1:=by induction l<;>grind[List.nodup_cons,List.filter_eq_nil_iff,absurd,beq_eq_false_iff_ne]
def bAd {log:List AD}{bx:AK}(h1:bx.Epoch=aK log)(h2:bx.Boxes.map (·.To)=aD log)(a:(aD log).Nodup)(c:(aD log).length<=1000):kE bx log=true:=by
 have hl:bx.Boxes.length=(aD log).length:=by rw[<-h2,ba]
 unfold kE;rw[h1,hl,eo,eo,dm,d8,ck];intro p hp;unfold rQ;rw[bDz 0 (by omega) (by omega),bAc (by rw[h2];exact a) (by rw[h2];exact hp)];rfl
theorem bD0 (a b:Int):(kY [a,b]).length<=12:=by
 grind[List.flatten_cons,List.flatten_nil,List.length_append,kY,aHh]
def aN2 {log:List AD}{key eph:Int}(h1:bI log=true)(h2:bQ key=true)(a:∀p∈aD log,bQ p=true)(c:(aD log).length<=1000)(d:1<=eph/\eph<=1000000):
  (bK log key eph).2=true/\(bK log key eph).1.Epoch=aK log/\(bK log key eph).1.Boxes.map (·.To)=aD log/\∀k (h:k<(bK log key eph).1.Boxes.length) (h2:k<(aD log).length),(bK log key eph).1.Boxes[k]=sG (aD log)[k] (eph+(k:Int)) (kY [aK log,key]):=by
 grind[s4,s3,bK,aK,eU,kY,aD,s1,s2,aN1,bD0]
def aS6 (seed:Int)(k:Nat):bQ (rA seed k)=true:=by simp[aXt,aHy,rA,bO]
def aS7 {seed:Int}{n:Nat}(hn:n<=6):((List.range n).map (rA seed)).Nodup:=by
 rw[iv,ia];refine(List.pairwise_lt_range).imp_of_mem ?_
 grind[aXw]
theorem Vf {seed:Int}{n:Nat}(h0:1<=n)(hn:n<=6):kE (dS seed n) (aM seed n)=true/\bI (aM seed n)=true/\(dS seed n).Epoch=0:=by
 obtain⟨h1,h2,f,c,d⟩:=Bv seed n hn;have hl:bI (aM seed n)=true:=d.resolve_left (by omega);have hlen:(aD (aM seed n)).length<=1000:=by grind
 obtain⟨h,a,e,j⟩:=aN2 (key:=bE seed 0) (eph:=1000) hl (by unfold bE;exact eP _ _) (λp hp=>by
  rw[h2] at hp;obtain⟨i,_,rfl⟩:=cj.1 hp;exact aS6 _ _) hlen ⟨by decide,by decide⟩
 refine⟨bAd a e (by rw[h2];exact aS7 hn) hlen,hl,?_⟩;unfold dS;rw[a,c]
def aS8 {seed:Int}{n:Nat}(h0:1<=n)(hn:n<=6):(dU seed n).Log=aM seed n:=by
 grind[bT,Fa,dU,Vf]
theorem aS9 (d:AC)(l:List AD)(k:Int):(nJ d l k).1.Store=d.Store:=by unfold nJ;cases !bI l||(!dY l d.Log||(decide (aK l<d.Epoch)|| !bQ k))<;>rfl
theorem aK8 (d:AC)(l:List AD)(b:AK)(s:AH):(dD d l b s).1.Store=d.Store:=by unfold dD;cases nD d l b s==0<;>rfl
theorem aHz (nm:ByteArray):∀(i:Nat) (d:AC),(Fe nm i d).Store=d.Store
 |0,d=>rfl
 |i+1,d=>by
  show(fT (Fe nm i d) nm (i:Int) false).1.Store=_;rw[aP1,aHz nm i d]
def bAe {seed:Int}{n:Nat}(h0:1<=n):(iB seed n).length=n/\∀k (h:k<(iB seed n).length),(iB seed n)[k].Store=aQ seed (k:Int):=by
 have hl:(iB seed n).length=n:=by
  grind[List.length_cons,List.length_map,List.length_drop,List.length_range,iB,bB]
 grind[Qf,aS4,gF,nK,aHz,aS9,bB,Y6,iB,aK8,cZ]
def aDf {n k t pin seed:Int}(h:Qg n k t pin seed=true):WIn n.toNat (aT n k t pin seed)/\(aT n k t pin seed).Devices.length=n.toNat/\(aT n k t pin seed).Seed=seed:=by
 have hb:=h;unfold Qg at hb;simp only[ab] at hb;obtain⟨b1,e,f,i,c⟩:=hb;have r:=fZ b1;unfold aT;rw[h,ac];obtain⟨d1,d2⟩:=bAe (seed:=seed) (n:=n.toNat) (by omega);have a:=aS8 (seed:=seed) (n:=n.toNat) (by omega) (by omega);have d:=(Vf (seed:=seed) (n:=n.toNat) (by omega) (by omega)).2.1;refine⟨{seed:=c,now:=⟨e9 0,show(0:Int)<=999900 by decide⟩,dlen:= ?_,slen:= ?_,dev:= ?_,two:=rfl,mle:=by omega,site:= ?_,mail:=rfl,log:= ?_},d1,rfl⟩
 ·grind
 ·show(List.replicate n.toNat false).length=(iB seed n.toNat).length;rw[eC,d1]
 ·intro j hj;show StIn seed j ((iB seed n.toNat)[j]'hj).Store;rw[d2 j hj];exact⟨rfl,rfl,rfl,e9 0,show(0:Int)<=1000000 by decide⟩
 all_goals grind[bI,dU,kN,bB,aS1]
def WIn.aCW {m:Nat}{w:AA}(h:WIn m w)(a:List Int)(pin:Int):WIn m (bL w a pin).1/\(bL w a pin).1.Seed=w.Seed/\(bL w a pin).1.Devices.length=w.Devices.length:=by
 unfold bL;cases !aX w with
 |true=>simp[*]
 |false=>have h1:WIn m {w with Hosts:=(jT w.aAK w.Hosts a pin (vY w)).1}:=h.upd rfl rfl rfl rfl h.dev h.two h.site h.mail h.log;exact⟨h1.tell 5,rfl,rfl⟩
def WIn.aCU {m:Nat}{w:AA}(h:WIn m w)(pin:Int):WIn m (oN w pin).1/\(oN w pin).1.Seed=w.Seed/\(oN w pin).1.Devices.length=w.Devices.length:=h.aCW _ _
def WIn.renew {m:Nat}{w:AA}(h:WIn m w):WIn m (dG w).1/\(dG w).1.Seed=w.Seed/\(dG w).1.Devices.length=w.Devices.length:=by
 unfold dG;cases aX w&&(eQ w.Hosts (aHe w)).2 with
 |false=>simp[*]
 |true=>exact⟨h.upd rfl rfl rfl rfl h.dev h.two h.site h.mail h.log,rfl,rfl⟩
def WIn.roll {m:Nat}{w:AA}(h:WIn m w)(i b:Int):WIn m (dX w i b).1/\(dX w i b).1.Seed=w.Seed/\(dX w i b).1.Devices.length=w.Devices.length:=by
 unfold dX;cases !aX w||(decide (i<0)||decide (i>=(w.Hosts.length:Int))) with
 |true=>simp[*]
 |false=>
  simp only[ah];cases(eY (w.Hosts.getD i.toNat default) b).2 with
  |false=>simp[*]
  |true=>exact⟨h.upd rfl rfl rfl rfl h.dev h.two h.site h.mail h.log,rfl,rfl⟩
def aTa {α:Type}[Inhabited α]{f:α->Nat}{K:Nat}{x:α}:∀{l:List α} {i:Nat},i<l.length->f x<=f (l.getD i default)+K->((l.set i x).map f).sum<=(l.map f).sum+K
 |y::l,0,_,h=>by
  simp only[List.getD,fo,cA] at h;simp only[gz,bh,du];omega
 |y::l,i+1,hi,h=>by
  have:=aTa (f:=f) (l:=l) (i:=i) (x:=x) (K:=K) (by simpa using hi) (by simpa[List.getD] using h);simp only[fR,bh,du];omega
structure Kept (w v:AA):Prop where
 wi:WIn v.Devices.length v
 seed:v.Seed=w.Seed
 sz:v.sz<=w.sz+3000
def Kept.of {w v:AA}(h:WIn w.Devices.length v/\v.Seed=w.Seed/\v.Devices.length=w.Devices.length)(a:v.sz<=w.sz+3000):Kept w v:=⟨by rw[h.2.2];exact h.1,h.2.1,a⟩
def bD1 (w:AA)(i b:Int):(dX w i b).1.sz<=w.sz:=by
 unfold dX;cases hc: !aX w||(decide (i<0)||decide (i>=(w.Hosts.length:Int))) with
 |true=>exact ak _
 |false=>
  have hi:=Kt (bz.1 hc).2;simp only[ah];cases(eY (w.Hosts.getD i.toNat default) b).2 with
  |false=>exact ak _
  |true=>have:=aTa (f:=AB.sz) (K:=0) (l:=w.Hosts) (i:=i.toNat) (x:=(eY (w.Hosts.getD i.toNat default) b).1) (by omega) (by rw[aSd];exact ak _);simp only[ac,AA.sz,bm];omega
def aXx {α β:Type}{y:Nat->α->β}:∀{l:List α} {i k:Nat} (h:k<l.length) (h2:k<(Ic (λi x=>[y i x]) i l).length),(Ic (λi x=>[y i x]) i l)[k]=y (i+k) l[k]
 |x::l,i,0,_,_=>rfl
 |x::l,i,k+1,h,h2=>by
  have:=aXx (y:=y) (l:=l) (i:=i+1) (k:=k) (by simpa using h) (by rw[Bg];simpa using h);rw[show i+1+k=i+(k+1) by omega] at this;exact this
structure BoxIn (log:List AD) (bx:AK) (key:Int):Prop where
 ep:bx.Epoch=aK log
 to:bx.Boxes.map (·.To)=aD log
 nd:(aD log).Nodup
 kok:bQ key=true
 box:∀k (h:k<bx.Boxes.length),∃e,bQ e=true/\bx.Boxes[k]=sG bx.Boxes[k].To e (kY [aK log,key])
 eps:0<=aK log/\aK log<=40
def aTb (log:List AD):dY log []=true:=by unfold dY;simp[dP]
def bD2 {seed:Int}{n:Nat}(h0:1<=n)(hn:n<=6):BoxIn (aM seed n) (dS seed n) (bE seed 0):=by
 obtain⟨h1,h2,s,h,j⟩:=Bv seed n hn;have hl:bI (aM seed n)=true:=j.resolve_left (by omega);have hlen:(aD (aM seed n)).length<=1000:=by rw[h2,ba,eK];omega
 have hk:bQ (bE seed 0)=true:=by unfold bE;exact eP _ _
 obtain⟨u,l,f,o⟩:=aN2 (key:=bE seed 0) (eph:=1000) hl hk (λp hp=>by
  rw[h2] at hp;obtain⟨i,_,rfl⟩:=cj.1 hp;exact aS6 _ _) hlen ⟨by decide,by decide⟩
 have a:(aD (aM seed n)).Nodup:=by rw[h2];exact aS7 hn
 refine⟨l,f,a,hk,λk c=> ?_,by rw[h];exact⟨by decide,by decide⟩⟩;have q:(dS seed n).Boxes.length=(aD (aM seed n)).length:=by have:=congrArg List.length f;rw[ba] at this;exact this
 have d:k<(aD (aM seed n)).length:=by omega
 have hb:=o k c d;have e:(dS seed n).Boxes[k].To=(aD (aM seed n))[k]:=by show(bK (aM seed n) (bE seed 0) 1000).1.Boxes[k].To=_;rw[hb];rfl
 refine⟨1000+(k:Int),iK (by omega) (by omega),?_⟩;rw[e];exact hb
def nwB:Nat->AE
 |1=>⟨[⟨1464438180,0,1,false⟩,⟨1941999745,0,1,false⟩]⟩
 |2=>⟨[⟨1464438180,0,1,false⟩,⟨1464438180,1,1,false⟩,⟨1941999745,0,1,false⟩,⟨1941999745,1,1,false⟩]⟩
 |3=>⟨[⟨1464438180,0,1,false⟩,⟨1464438180,1,1,false⟩,⟨1464438180,2,1,false⟩,⟨1941999745,0,1,false⟩,⟨1941999745,1,1,false⟩,⟨1941999745,2,1,false⟩]⟩
 |_=>⟨[]⟩
def aTc (seed:Int)(n k:Nat)(v:Int)(b:AE):AC:=⟨aQ seed (k:Int),aM seed n,bE seed 0,0,v,b⟩
def bJ7 {seed:Int}{n:Nat}(h0:1<=n)(hn:n<=6)(k:Nat):nK seed n (cZ (aQ seed (k:Int)))=aTc seed n k 0 ⟨[]⟩:=by
 obtain⟨h1,h2,d,a,c⟩:=Bv seed n hn;have hl:bI (aM seed n)=true:=c.resolve_left (by omega);have hk:bQ (bE seed 0)=true:=by unfold bE;exact eP _ _
 unfold nK nJ cZ;rw[hl,aTb,hk,a];rfl
def bL1 {n:Nat}(h:n=1\/n=2\/n=3)(s:AO)(l:List AD)(k e v:Int):Fe (aA 1) n (Fe (aA 0) n ⟨s,l,k,e,v,⟨[]⟩⟩)=⟨s,l,k,e,v,nwB n⟩:=by rcases h with rfl|rfl|rfl<;>kernel_rfl
def bJ8 {n:Nat}(h:n=1\/n=2\/n=3):aS (nwB n)=true/\nG ⟨[]⟩ (nwB n)=(nwB n,true)/\nG (nwB n) (nwB n)=(nwB n,true):=by rcases h with rfl|rfl|rfl<;>exact⟨by kernel_rfl,by kernel_rfl,by kernel_rfl⟩
def bAf {seed:Int}{n:Nat}(h:n=1\/n=2\/n=3):gF seed n=aTc seed n 0 0 (nwB n):=by unfold gF;rw[show(0:Int)=((0:Nat):Int) from rfl,bJ7 (by omega) (by omega)];exact bL1 h _ _ _ _ _
def bL2 {seed:Int}{n:Nat}(h:n=1\/n=2\/n=3):Qf seed n=(aTc seed n 0 1 (nwB n),Bn (bE seed 0) 0 1 (nwB n),true):=by
 have hk:bQ (bE seed 0)=true:=by unfold bE;exact eP _ _
 unfold Qf;rw[bAf h];unfold jS mX aTc;simp only[];rw[show IntKind.i64.wrap (0+1)=1 from by decide,hk,(bJ8 h).1];rfl
def aN3 {seed:Int}{n:Nat}(h:n=1\/n=2\/n=3):dU seed n=⟨aM seed n,dS seed n,[Bn (bE seed 0) 0 1 (nwB n)]⟩:=by
 obtain⟨h1,h2,_⟩:=Vf (seed:=seed) (n:=n) (by omega) (by omega);have a:=(Bv seed n (by omega)).ep;have e:bT (aM seed n) (dS seed n)=(⟨aM seed n,dS seed n,[]⟩,true):=by unfold bT;rw[h1,h2];rfl
 unfold dU;rw[e,bL2 h];show(dO ⟨aM seed n,dS seed n,[]⟩ (Bn (bE seed 0) 0 1 (nwB n))).1=_;unfold dO;rw[show(Bn (bE seed 0) 0 1 (nwB n)).Epoch=0 from rfl,a];rfl
def aTd (w:AA)(pin:Int):(oN w pin).1.Hosts.length=w.Hosts.length:=by
 show(bL w (kZ w) pin).1.Hosts.length=_;unfold bL;cases aX w with
 |false=>rfl
 |true=>exact(aXp ..).1
def aTe (w:AA):(dG w).1.Hosts.length<=w.Hosts.length:=by
 unfold dG;cases aX w&&(eQ w.Hosts (aHe w)).2 with
 |false=>exact ak _
 |true=>exact(Td ..).1
def aVi (w:AA)(i b:Int):(dX w i b).1.Hosts.length=w.Hosts.length:=by
 unfold dX;cases !aX w||(decide (i<0)||decide (i>=(w.Hosts.length:Int))) with
 |true=>rfl
 |false=>cases(eY (w.Hosts.getD i.toNat default) b).2 with
  |false=>rfl
  |true=>exact bm ..
structure KeptH (w v:AA):Prop where
 kept:Kept w v
 hosts:v.Hosts.length<=w.Hosts.length
def KeptH.of {w v:AA}(h:Kept w v)(e:v.Hosts=w.Hosts):KeptH w v:=⟨h,by rw[e];exact ak _⟩
def bJ9 {k:Int}(h:0<=k):¬bJ (IntKind.i64.wrap (1+k.tmod 1018)) 1019=0:=by have h1:0<=k.tmod 1018/\k.tmod 1018<1018:=⟨eJ _ h,ey _ (by decide)⟩;rw[aH (by omega) (by omega),aVe];omega
def gV (seed:Int):AS:=(Fg seed 2 500 3).1
def bGo (seed:Int):Int:=IntKind.i64.wrap (1+(aJ seed [293]).tmod 1018)
def gSh (seed x:Int):AR:=⟨x,Gp (bGo seed) (Ff seed 2) x⟩
def gK (s:AR)(i:Nat):AU:=⟨s,0,(i:Int),5⟩
def bD3 (s:AR)(i:Nat):AB:=⟨gK s i,(List.range i).map (gK s),(i:Int)⟩
def gHs (seed:Int)(i:Nat):List AB:=[bD3 (gSh seed 1) i,bD3 (gSh seed 2) i,bD3 (gSh seed 3) 0]
def gBl (seed:Int):Int:=IntKind.i64.wrap (1+(aJ seed [313,0]).tmod 1018)
structure GS (seed:Int) (i:Nat) (w:AA):Prop where
 wi:WIn 1 w
 len:w.Devices.length=1
 sd:w.Seed=seed
 now:w.Now=0
 vault:w.aAK=gV seed
 hosts:w.Hosts=gHs seed i
 le:i<=5
theorem bAg {a b:AI}(h:fC a b=true):¬(a.Site=b.Site/\a.Handle=b.Handle):=by grind[Bh]
def rk (e:AI):Int:=2*e.Version+(bif e.Deleted then 1 else 0)
def Sub (a b:List AI):Prop:=∀e∈a,∃x∈b,x.Site=e.Site/\x.Handle=e.Handle/\rk e<=rk x
theorem Sub.trans {a b c:List AI}(h:Sub a b)(k:Sub b c):Sub a c:=λe he=>by
 obtain⟨x,d,x1,x2,f⟩:=h e he;obtain⟨y,i,j,l,n⟩:=k x d
 grind
def bD4 {α:Type}[BEq α][LawfulBEq α]:∀{l S:List α},l.Nodup->(∀x∈l,x∈S)->l.length<=S.length
 |[],S,_,_=>by simp
 |x::l,S,hn,hs=>by
  obtain⟨h1,h2⟩:=cg.1 hn;have c:=hs x (dp ..);have:=bD4 (l:=l) (S:=S.erase x) h2 λy d=>by
   have a:y≠x:=λe=>h1 (e▸d);exact(List.mem_erase_of_ne a).2 (hs y (dt _ d))
  rw[List.length_erase_of_mem c] at this;have:0<S.length:=List.length_pos_of_mem c;simp only[au];omega
structure KeyS (S:List (Int×Int)):Prop where
 len:S.length<=20
 rg:∀p∈S,(0<=p.1/\p.1<=2147483646)/\(0<=p.2/\p.2<=1000000)
structure BunIn (S:List (Int×Int)) (V:Int) (b:List AI):Prop where
 st:srt b
 key:∀e∈b,(e.Site,e.Handle)∈S
 ver:∀e∈b,1<=e.Version/\e.Version<=V
def BunIn.mono {S:List (Int×Int)}{V W:Int}{b:List AI}(h:BunIn S V b)(hv:V<=W):BunIn S W b:=⟨h.st,h.key,λe he=>⟨(h.ver e he).1,eS (h.ver e he).2 hv⟩⟩
theorem BunIn.len {S:List (Int×Int)}{V:Int}{b:List AI}(h:BunIn S V b):b.length<=S.length:=by
 have hn:(b.map λe=>(e.Site,e.Handle)).Nodup:=by rw[iv,ia];exact h.st.imp (by grind[bAg])
 have:=bD4 hn λp hp=>by
  obtain⟨e,he,rfl⟩:=cj.1 hp;exact h.key e he
 rwa [ba] at this
def BunIn.ok {S:List (Int×Int)}{V:Int}{b:List AI}(a:KeyS S)(c:V<=1000000)(h:BunIn S V b):aS ⟨b⟩=true:=by
 have hl:=h.len;have:=a.len;unfold aS;rw[ap (show((⟨b⟩:AE).Entries.length:Int)<=20 by show(b.length:Int)<=20;omega),d8,cu];refine Y8 λk hk=> ?_;have hk:k<b.length:=hk;show aR9 b (0+k) b[k]=false;have hm:=ce hk;have r:=a.rg _ (h.key _ hm);have v:=h.ver _ hm;unfold aR9;rw[iK r.1.1 r.1.2,iK r.2.1 r.2.2,iK v.1 (by omega)];simp only[bf,cV,cn];by_cases h0:0<k
 ·have:b.getD (k-1) default=b[k-1]'(by omega):=by rw[List.getD,aa (by omega),cA]
  rw[this,dz.1 h.st (k-1) k (by omega) hk (by omega)];simp
 simp[*]
structure ChgIn (S:List (Int×Int)) (V:Int) (d x:AC):Prop where
 store:x.Store=d.Store
 log:x.Log=d.Log
 key:x.Key=d.Key
 ep:x.Epoch=d.Epoch
 ver:x.Version=d.Version
 bun:BunIn S V x.aAF.Entries
 sub:Sub d.aAF.Entries x.aAF.Entries
theorem ChgIn.trans {S:List (Int×Int)}{V W:Int}{a b c:AC}(h:ChgIn S V a b)(k:ChgIn S W b c):ChgIn S W a c:=
 ⟨k.store.trans h.store,k.log.trans h.log,k.key.trans h.key,k.ep.trans h.ep,k.ver.trans h.ver,k.bun,h.sub.trans k.sub⟩
end Go.VK
set_option maxRecDepth 100000
namespace Go.VK
open D
structure Dv (S:List (Int×Int)) (T:Int) (log:List AD) (K ep v:Int) (d:AC):Prop where
 pre:∃r,log=d.Log++r
 at_:d.Epoch<ep\/(d.Epoch=ep/\d.Version<=v)
 key:d.Epoch=ep->d.Key=K
 bun:BunIn S T d.aAF.Entries
structure Hs (S:List (Int×Int)) (T:Int) (K ep v:Int) (s:AH):Prop where
 low:s.Epoch<=ep
 own:s.Epoch=ep->∃v' b',s=Bn K ep v' b'/\0<=v'/\v'<=v/\BunIn S T b'.Entries
structure Net (S:List (Int×Int)) (t m:Nat) (w:AA) (K v:Int) (r:List AH) (b:AE):Prop where
 wi:WIn m w
 bx:BoxIn w.aAH.Log w.aAH.Boxes K
 devs:∀p∈aD w.aAH.Log,∃k,k<m/\p=rA w.Seed k
 rem:∀p,fJ w.aAH.Log p=true->∃k,k<m/\p=rA w.Seed k
 hist:w.aAH.History=r++[Bn K (aK w.aAH.Log) v b]
 old:∀s∈r,Hs S (t:Int) K (aK w.aAH.Log) v s
 bun:BunIn S (t:Int) b.Entries
 ver:0<=v/\v<=(t:Int)
 dev:∀k (h:k<w.Devices.length),Dv S (t:Int) w.aAH.Log K (aK w.aAH.Log) v w.Devices[k]
def Dv.mono {S:List (Int×Int)}{T U:Int}{log:List AD}{K ep v u:Int}{d:AC}(h:Dv S T log K ep v d)(a:T<=U)(hv:v<=u):Dv S U log K ep u d:=
 ⟨h.pre,h.at_.imp id (by omega),h.key,h.bun.mono a⟩
def Hs.mono {S:List (Int×Int)}{T U:Int}{K ep v u:Int}{s:AH}(h:Hs S T K ep v s)(a:T<=U)(hv:v<=u):Hs S U K ep u s:=
 ⟨h.low,λe=>let ⟨v',b',h1,h2,c,d⟩:=h.own e;⟨v',b',h1,h2,eS c hv,d.mono a⟩⟩
section
variable {S:List (Int×Int)} {t m:Nat} {w:AA} {K v:Int} {r:List AH} {b:AE}
def Net.last (h:Net S t m w K v r b):Hs S (t:Int) K (aK w.aAH.Log) v (Bn K (aK w.aAH.Log) v b):=
 ⟨e9 _,λ_=>⟨v,b,rfl,h.ver.1,e9 _,h.bun⟩⟩
def Net.hs (h:Net S t m w K v r b){s:AH}(hs:s∈w.aAH.History):Hs S (t:Int) K (aK w.aAH.Log) v s:=by
 rw[h.hist] at hs;rcases bu.1 hs with hs|hs
 ·exact h.old s hs
 ·rw[cx.1 hs];exact h.last
theorem bL4 {d:AC}{log:List AD}{bx:AK}{s:AH}(h:(nD d log bx s==0)=true):
  dY log d.Log=true/\bO d.Store∈aD log/\aK log<=s.Epoch/\(oH (eO d.Store bx).1 s).2=true/\(nG d.aAF (oH (eO d.Store bx).1 s).1).2=true:=by
 have h:=eq_of_beq h;unfold nD at h
 grind[bI,dY,gT,aD,bO,aK,eO,bx,decide,oH,nG,Bool.or_eq_false_iff,Bool.not_eq_false',decide_eq_false_iff_not,Lh]
def Net.mono (h:Net S t m w K v r b){u:Nat}(a:t<=u):Net S u m w K v r b where
 wi:=h.wi
 bx:=h.bx
 devs:=h.devs
 rem:=h.rem
 hist:=h.hist
 old:=λs hs=>(h.old s hs).mono (by omega) (e9 _)
 bun:=h.bun.mono (by omega)
 ver:=by have:=h.ver;omega
 dev:=λk hk=>(h.dev k hk).mono (by omega) (e9 _)
def Net.aBZ (h:Net S t m w K v r b){d:Int}(hd:uX w d=false)(c:Int):((tV w d c).2==0)=false:=by
 grind[aX,mE,dD,nD,dA,jR,bL4,uX,Lh,tV]
end
end Go.VK
set_option maxRecDepth 100000
namespace Go.VK
open D
structure KeyD (S:List (Int×Int)):Prop where
 ks:KeyS S
 dv:∀q:Nat,q<6->(cB (aA 0),(q:Int))∈S/\(cB (aA 1),(q:Int))∈S
section
variable {S:List (Int×Int)} {t m:Nat} {w:AA} {K v:Int} {r:List AH} {b:AE}
theorem Net.inl (h:Net S t m w K v r b){c:Int}(hc:((tV w c 0).2==0)=true):uX w c=true:=by
 cases hl:uX w c with
 |true=>rfl
 |false=>rw[h.aBZ hl 0] at hc;cases hc
end
end Go.VK
set_option maxRecDepth 100000
namespace Go.VK
open D
def aN4 {w:AA}{d j:Int}(h:Fb w d j=true):aX w=true/\mE w d=true/\Kq w j=true:=by
 grind[Fb]
section
variable {S:List (Int×Int)} {t m:Nat} {w:AA} {K v:Int} {r:List AH} {b:AE}
end
def bHt (Q:AV->Prop)(s:AF):Prop:=∀a∈s.Accounts,∀c∈a.Credentials,Q c
def bOa (P:Int->Prop)(s:AF):Prop:=bHt (λc=>P c.Handle->c.Cut=true) s
def bOb (log:List AD)(seed q:Int):Prop:=fJ log (rA seed q.toNat)=true
def bL5 (w:AA):Prop:=∀s∈w.Sites,bOa (bOb w.aAH.Log w.Seed) s
section
variable {m:Nat} {w:AA}
def aXy (h:WIn m w){j:Int}(hj:Kq w j=true):∃hl:j.toNat<w.Sites.length,iH w j=w.Sites[j.toNat]/\(j=0\/j=1)/\SiteIn w.Seed j m (iH w j):=by
 simp only[Kq,ab,cY] at hj;have h2:=h.two;have hl:j.toNat<w.Sites.length:=by omega
 have e:iH w j=w.Sites[j.toNat]:=by unfold iH;rw[List.getD,aa hl,cA]
 refine⟨hl,e,by omega,?_⟩;have:=h.site _ hl
 grind
def bGp {seed j:Int}{l:List AV}(h:aZ9 seed j l){k:Nat}(hk:k<l.length):dV ⟨1,3,l⟩ (k:Int)=(k:Int):=by
 have hd:decide (dV ⟨1,3,l⟩ (k:Int)<0)=false:=by rw[cR];intro hn;have:=Zx (p:=λc:AV=>c.Handle==(k:Int)) hn l[k] (ce hk);rw[(h k hk).1,eo] at this;cases this
 obtain⟨i,hi,a,d⟩:=aHx (l:=l) hd;have:=(h i hi).1
 grind[dV]
end
end Go.VK
set_option maxRecDepth 100000
namespace Go.VK
open D
def bL6:List (Int×Int):=[(1941999745,0),(1941999745,1),(1941999745,2),(1941999745,3),(1941999745,4),(1941999745,5),(1464438180,0),(1464438180,1),(1464438180,2),(1464438180,3),(1464438180,4),(1464438180,5)]
section
variable {S:List (Int×Int)} {t m:Nat} {w:AA} {K v:Int} {r:List AH} {b:AE}
end
def bD5 (M:Int)(k:AU):Prop:=k.Guesses<=k.Limit/\iE k<=M
def bKb (h:AB):Prop:=bD5 h.Monotonic h.State/\∀k∈h.Saved,bD5 h.Monotonic k
def bD5.mono {M N:Int}{k:AU}(h:bD5 M k)(hm:M<=N):bD5 N k:=⟨h.1,eS h.2 hm⟩
def aXz (l:List AB):Prop:=∀h∈l,bKb h
end Go.VK
set_option maxRecDepth 100000
namespace Go.VK
open D
structure All (S:List (Int×Int)) (t:Nat) (w:AA):Prop where
 net:∃K v r b,Net S (3+3*t) w.Devices.length w K v r b/\r.length<=t
 cut:bL5 w
 hosts:aXz w.Hosts
def All.mono {S:List (Int×Int)}{t u:Nat}{w:AA}(h:All S t w)(a:t<=u):All S u w:=
 let ⟨K,v,r,b,n,hr⟩:=h.net;⟨⟨K,v,r,b,n.mono (by omega),by omega⟩,h.cut,h.hosts⟩
section
variable {S:List (Int×Int)} {t:Nat} {w:AA}
def All.of (h:All S t w){u:AA}{t':Nat}(ht:t<=t')(hn:∀K v r b,Net S (3+3*t) w.Devices.length w K v r b->Net S (3+3*t') w.Devices.length u K v r b)(hl:u.Devices.length=w.Devices.length)(hc:bL5 u)(a:aXz u.Hosts):All S t' u:=
 let ⟨K,v,r,b,n,hr⟩:=h.net;⟨(by grind),hc,a⟩
end
end Go.VK
set_option maxRecDepth 100000
namespace Go.VK
open D
section
variable {S:List (Int×Int)} {t m:Nat} {w:AA} {K v:Int} {r:List AH} {b:AE}
structure Settled (S:List (Int×Int)) (t:Nat) (w:AA) (K:Int) (r:List AH) (b:AE) (y:AA) (v':Int) (r':List AH) (b':AE):Prop where
 eq:bF9 w=(y,true)
 net:Net S (t+w.Devices.length) w.Devices.length y K v' r' b'
 rlen:r'.length<=r.length+w.Devices.length
 log:y.aAH.Log=w.aAH.Log
 seed:y.Seed=w.Seed
 stolen:y.Stolen=w.Stolen
 len:y.Devices.length=w.Devices.length
 sites:y.Sites=w.Sites
 hosts:y.Hosts=w.Hosts
 reach:vR y=vR w
 own:∀d∈vR w,(dA y d).aAF=b'/\(dA y d).Epoch=aK w.aAH.Log/\(dA y d).Version=v'/\(dA y d).Key=K
 other:∀d,mE w d=true->(dA y d).Store=(dA w d).Store/\(d∉vR w->dA y d=dA w d)
 sub:∀d∈vR w,Sub (dA w d).aAF.Entries b'.Entries
 last:Sub b.Entries b'.Entries
 mem:∀e∈b'.Entries,e∈b.Entries\/∃d∈vR w,e∈(dA w d).aAF.Entries
end
end Go.VK
set_option maxRecDepth 100000
namespace Go.VK
open D
theorem bD6 (s:AO)(o:AY)(z:ByteArray)(i c:Int)(p:Bool):Py s o z i c p=(s,bGh,false)\/(Px o z=true/\vV s=true/\s.Counter<1000000/\Py s o z i c p=({s with Counter:=s.Counter+1},{Y5 s o z i c p with Counter:=s.Counter+1,Signature:=pU (bY s z i) (jF (Y5 s o z i c p)++[s.Counter+1])},true)):=by
 unfold Py;cases hm:Px o z with
 |false=>simp
 |true=>
  unfold Pw;cases hs:vV s&& !(s.Counter==1000000) with
  |false=>simp
  |true=>
   simp only[ab,cu,cm] at hs;have hc:=hs.1;unfold vV at hc;simp only[ab] at hc;have hr:=fZ hc.2.2.2
   grind[bDf,aH]
def bGq {s:AO}{o:AY}{z:ByteArray}{i c:Int}{p:Bool}(h1:Px o z=true)(h2:vV s=true)(a:s.Counter<1000000):Py s o z i c p=({s with Counter:=s.Counter+1},{Y5 s o z i c p with Counter:=s.Counter+1,Signature:=pU (bY s z i) (jF (Y5 s o z i c p)++[s.Counter+1])},true):=by
 grind[Py,Pw,beq_eq_false_iff_ne,bD6]
def bL7 {seed:Int}{k:Nat}{s:AO}(h:StIn seed k s)(hk:k<6):vV s=true:=by unfold vV;rw[h.ven,h.ser,h.key,iK (show(0:Int)<=(k:Int) by omega) (by omega),iK h.cnt.1 h.cnt.2];show(true&&(true&&(bQ (aJ seed [277,(k:Int)])&&true)))=true;rw[eP];rfl
def aVj {b:AQ}(h:BookIn b)(hn:b.Next<1000000){now:Int}(ht:0<=now/\now<=999900):eZ b 1 now=((eZ b 1 now).1,⟨b.Next,1,now+5⟩,true)/\(eZ b 1 now).1.Next=b.Next+1/\(aDc (eZ b 1 now).1 b.Next 1 now).2=true:=by
 have o:=aP0 h.ok;have hq:=(aS3 h 1 now).1;have q:IntKind.i64.wrap (now+5)=now+5:=(by grind[aH]);have s:0<=b.Next:=by have:=h.ok;unfold fI at this;simp only[ab] at this;exact(fZ this.1.1).1
 have f:eZ b 1 now=(⟨b.Seed,b.Next+1,(bif decide ((b.Open.length:Int)>=16) then b.Open.drop 1 else b.Open)++[⟨b.Next,1,now+5⟩]⟩,⟨b.Next,1,now+5⟩,true):=by unfold eZ o7;rw[h.ok,cm.2 (show b.Next≠1000000 by omega),iK (show(0:Int)<=1 by decide) (by decide),iK ht.1 (by omega),q,aH (by omega) (by omega)];rfl
 refine⟨by rw[f],by rw[f],?_⟩;have j:∀c∈b.Open,c.Id<=b.Next-1:=λc hc=>by
  have:=h.ok;unfold fI at this;simp only[ab,cu] at this;obtain⟨i,hi,e⟩:=dr.1 hc;have h2:=aPy this.2 i hi;unfold fB at h2;simp only[bz,dc] at h2;have:=(fZ h2.1).2
  grind[aH]
 have hm:∀c∈(eZ b 1 now).1.Open,c.Id=b.Next->c=⟨b.Next,1,now+5⟩:=(by grind[decide,List.mem_of_mem_drop,List.mem_singleton]);have d:(⟨b.Next,1,now+5⟩:AX)∈(eZ b 1 now).1.Open:=by simp[*]
 have n:decide (nT (eZ b 1 now).1 b.Next<0)=false:=by
  rw[cR];intro a;have:=Zx (p:=λc:AX=>c.Id==b.Next) a _ d
  grind
 obtain⟨k,hk,x,y⟩:=aHx (l:=(eZ b 1 now).1.Open) n;have u:aPt (eZ b 1 now).1 (nT (eZ b 1 now).1 b.Next)=⟨b.Next,1,now+5⟩:=by
  grind[List.getElem_mem,Int.toNat_natCast,List.getD,List.getElem?_eq_getElem,aPt,nT,eZ]
 unfold aDc;rw[hq.ok,n,u]
 grind
section
variable {m:Nat} {w:AA}
def bD7 (h:WIn m w){d j:Int}{o:AY}(ht:Fb w d j=true)(hm:d.toNat<m)(ho:Px o (aA j)=true)(hn:(iH w j).Book.Next<1000000)(hc:(dA w d).Store.Counter<1000000)
  (y:∀a∈(iH w j).Accounts,∀(hk:d.toNat<a.Credentials.length),a.Credentials[d.toNat].Cut=false/\a.Credentials[d.toNat].Counter<=(dA w d).Store.Counter):(aHs w d j o).2.2=0:=by
 obtain⟨N,t2,z⟩:=aN4 ht;obtain⟨hl,es,hj,hs⟩:=aXy h z;obtain⟨d0,d1,_⟩:=bDw t2;have s:=h.mle;have hb:=aP0 hs.book;obtain⟨A,O,Q⟩:=aVj hb hn h.now;have D:La w j=({iH w j with Book:=(eZ (iH w j).Book 1 w.Now).1},(iH w j).Book.Next,kM (eZ (iH w j).Book 1 w.Now).1 (iH w j).Book.Next,true):=by unfold La aHq;rw[hs.ok hj h.mle,hs.find,A];rfl
 have i:=h.aCT t2;have k:=bL7 i (by omega);have u:aSv w d j o=({(dA w d).Store with Counter:=(dA w d).Store.Counter+1},{Y5 (dA w d).Store o (aA j) d (La w j).2.2.1 true with Counter:=(dA w d).Store.Counter+1,Signature:=pU (bY (dA w d).Store (aA j) d) (jF (Y5 (dA w d).Store o (aA j) d (La w j).2.2.1 true)++[(dA w d).Store.Counter+1])},true):=bGq ho k hc;have c:=hs.begin 1 w.Now;rw[show(aHq (iH w j) 1 w.Now)=La w j from rfl] at c;obtain⟨l,e,f,p⟩:=hs.acc;subst p;have q:=f d.toNat hm;obtain⟨u1,u2⟩:=y ⟨1,3,l⟩ (by grind) hm;have u2:l[d.toNat].Counter<=(dA w d).Store.Counter:=u2;have u1:l[d.toNat].Cut=false:=u1;have F:Aj (La w j).1 0=⟨1,3,l⟩:=by grind[iH,Aj]
 have G:=aPz (m:=3) hj f h.mle (by grind);have H:dV ⟨1,3,l⟩ d=(d.toNat:Int):=by have:=bGp f hm;rwa [gv d0] at this ⊢
 have I:qY ⟨1,3,l⟩ (d.toNat:Int)=l[d.toNat]:=by unfold qY;rw[bv];show l.getD d.toNat default=_;rw[List.getD,aa hm,cA]
 have n:bY (dA w d).Store (aA j) d=bY (aQ w.Seed (d.toNat:Int)) (aA j) (d.toNat:Int):=by rw[bY,bY,i.key,gv d0]
 have hv:∀M,fQ (fH (bY (aQ w.Seed (d.toNat:Int)) (aA j) (d.toNat:Int))) M (pU (bY (aQ w.Seed (d.toNat:Int)) (aA j) (d.toNat:Int)) M)=true:=(by simp[aS5,bY,eP]);have x:Ky l[d.toNat].Public (aSv w d j o).2.1 (La w j).1.Name (kM (La w j).1.Book (La w j).2.1) l[d.toNat].Counter=0:=by rw[c.name,u,D];unfold Ky;show(bif !((aA j).toList==(aA j).toList) then(1:Int) else bif !true then 2 else bif !(kM (eZ (iH w j).Book 1 w.Now).1 (iH w j).Book.Next==kM (eZ (iH w j).Book 1 w.Now).1 (iH w j).Book.Next) then 3 else bif !fQ l[d.toNat].Public (jF (Y5 (dA w d).Store o (aA j) d (kM (eZ (iH w j).Book 1 w.Now).1 (iH w j).Book.Next) true)++[(dA w d).Store.Counter+1]) (pU (bY (dA w d).Store (aA j) d) (jF (Y5 (dA w d).Store o (aA j) d (kM (eZ (iH w j).Book 1 w.Now).1 (iH w j).Book.Next) true)++[(dA w d).Store.Counter+1])) then 5 else bif decide ((dA w d).Store.Counter+1<=l[d.toNat].Counter) then 4 else 0)=0;rw[q.2.1,n,show w9 w.Seed j d.toNat=fH (bY (aQ w.Seed (d.toNat:Int)) (aA j) (d.toNat:Int)) from rfl,hv,ax (show ¬(dA w d).Store.Counter+1<=l[d.toNat].Counter by omega)];simp
 have R:(bGi w d j o).2.1=0:=by
  unfold bGi aXg;rw[c.ok hj h.mle,c.find];have J:(aDc (La w j).1.Book (La w j).2.1 1 w.Now).2=true:=by grind
  have L:aPu (Aj (La w j).1 0) 3=true:=by
   grind[List.any_eq_true,List.getElem_mem,u1,aPu]
  have T:(aSv w d j o).2.1.Handle=d:=by rw[u];rfl
  grind[aHr,Aj,La,aSv,kM,u1,decide_eq_false]
 grind[aHs]
end
end Go.VK
set_option maxRecDepth 100000
namespace Go.VK
open D
def bD8 (w:AA)(k:Nat):Int:=(w.Devices.getD k default).Store.Counter
def bHu (w:AA)(k:Nat):Prop:=fJ w.aAH.Log (rA w.Seed k)=true
def CrU (cnt:Nat->Int)(rem:Nat->Prop)(c:AV):Prop:=c.Counter<=cnt c.Handle.toNat/\(c.Cut=true->rem c.Handle.toNat)
structure Us (B:Int) (w:AA):Prop where
 cnt:∀k,k<w.Devices.length->bD8 w k<=B
 next:∀s∈w.Sites,s.Book.Next<=B
 cred:∀s∈w.Sites,bHt (CrU (bD8 w) (bHu w)) s
def CrU.mono {cnt cnt':Nat->Int}{rem rem':Nat->Prop}(hc:∀k,cnt k<=cnt' k)(hr:∀k,rem k->rem' k){c:AV}(h:CrU cnt rem c):CrU cnt' rem' c:=⟨eS h.1 (hc _),λq=>hr _ (h.2 q)⟩
section
variable {m:Nat} {w:AA} {B:Int}
end
section
variable {S:List (Int×Int)} {t m:Nat} {w:AA} {K v:Int} {r:List AH} {b:AE} {B:Int}
end
section
variable {m:Nat} {w:AA} {B:Int}
def Us.ok (n:WIn m w)(h:Us B w)(q:B<1000000){d j:Int}{o:AY}(ht:Fb w d j=true)(hm:d.toNat<m)(ho:Px o (aA j)=true)(hr:¬bHu w d.toNat):(aHs w d j o).2.2=0:=by
 obtain⟨s,t2,p⟩:=aN4 ht;obtain⟨hl,es,hj,hs⟩:=aXy n p;obtain⟨f,u⟩:=aXv t2;have i:bD8 w d.toNat=(dA w d).Store.Counter:=rfl;have c:iH w j∈w.Sites:=by simp[*]
 have hn:=h.next _ c;have hc:=h.cnt _ f;rw[i] at hc;refine bD7 n ht hm ho (by omega) (by omega) λa e hk=> ?_;have hq:=h.cred _ c a e _ (ce hk);obtain⟨l,el,k,_⟩:=hs.acc;rw[el] at e;have e:a=⟨1,3,l⟩:=by simp_all
 subst e;have x:(AJ.mk 1 3 l).Credentials[d.toNat].Handle=(d.toNat:Int):=(k d.toNat hk).1
 grind[absurd,Int.toNat_natCast,CrU]
end
end Go.VK
set_option maxRecDepth 100000
namespace Go.VK
open D
def aVk (k:Int)(b:List Int):∀z∈pV k b,0<=z/\z<=255:=λz a=>by
 obtain⟨i,hi,e⟩:=dr.1 a;unfold pV at hi e;have hl:i<b.length:=by have:=Bo k b;unfold pV at this;omega
 rw[aXx hl] at e;rw[<-e];unfold aZu;rw[IntKind.wrap_u8];omega
def aFs {k:Int}{b:List Int}(h:b.length<=34359738368):aR (pV k b):=
 ⟨by rw[Bo];exact h,ck.2 λz a=>by
  have:=aVk k b z a;rw[ap this.1,ap this.2];rfl⟩
def bAh {n k t pin seed:Int}(h:Qg n k t pin seed=true):tJ (aT n k t pin seed).aAH:=by
 have hn:n.toNat=1\/n.toNat=2\/n.toNat=3:=by unfold Qg at h;simp only[ab] at h;have:=fZ h.1;omega
 have a:(aT n k t pin seed).aAH=⟨aM seed n.toNat,dS seed n.toNat,[Bn (bE seed 0) 0 1 (nwB n.toNat)]⟩:=by unfold aT;rw[h];exact aN3 hn
 rw[a];refine⟨λx c=> ?_,λs hs=> ?_⟩
 ·obtain⟨i,hi,e⟩:=dr.1 c;obtain⟨e',_,he⟩:=(bD2 (seed:=seed) (n:=n.toNat) (by omega) (by omega)).box i hi;have e:(dS seed n.toNat).Boxes[i]=x:=e;rw[<-e,he];exact aFs (by have:=bD0 (aK (aM seed n.toNat)) (bE seed 0);omega)
 ·have hs:s=Bn (bE seed 0) 0 1 (nwB n.toNat):=by simpa using hs
  rw[hs];refine aFs ?_;have:=Pt (nwB n.toNat);omega
def aX0 (l:List AH):Prop:=l.Pairwise λa b=>nI b a=true
def bAi {a b:AH}:nI a b=true↔b.Epoch<a.Epoch\/(a.Epoch=b.Epoch/\b.Version<a.Version):=by unfold nI;simp
def aTf {a b c:AH}(h:nI a b=true)(k:nI b c=true):nI a c=true:=by rw[bAi] at*;omega
structure CldOk (c:AL):Prop where
 bytes:tJ c
 inc:aX0 c.History
def aVl {c:AL}(h:CldOk c){s:AH}(hs:aR s.Data):CldOk (dO c s).1:=by
 unfold dO;cases hb:s.Epoch !=aK c.Log||((decide ((c.History.length:Int)>0)&& !nI s (c.History.getD (c.History.length-1) default))||decide ((c.History.length:Int)>=60)) with
 |true=>exact h
 |false=>
  simp only[bz] at hb;refine⟨⟨h.bytes.1,λx d=> ?_⟩,?_⟩
  ·rcases bu.1 d with d|d
   ·exact h.bytes.2 x d
   ·rw[cx.1 d];exact hs
  ·show aX0 (c.History++[s]);refine List.pairwise_append.2 ⟨h.inc,fm ..,λa j b hb'=> ?_⟩
   rw[cx.1 hb'];obtain⟨i,hi,e⟩:=dr.1 j;have f:=hb.2.1;rw[ap (show(c.History.length:Int)>0 by omega),d8,dc,List.getD,aa (by omega),cA] at f;by_cases hl:i=c.History.length-1
   ·subst hl;rw[<-e];exact f
   ·have:=dz.1 h.inc i (c.History.length-1) hi (by omega) (by omega);rw[e] at this;exact aTf f this
def aK9 (p e:Int)(d:List Int)(hd:d.length<=34359738368):aR (eH p e d).1.Data:=by
 unfold eH;cases eX p==0||(!bQ e||decide ((d.length:Int)>200)) with
 |true=>exact⟨by show 0<=_;omega,rfl⟩
 |false=>exact aFs hd
def aDg {e:Int}{d:List Int}(hd:d.length<=34359738368):∀(l:List Int) (i:Nat),∀x∈(eU e d i l).1,aR x.Data
 |[],i,x,a=>by simp[eU] at a
 |p::l,i,x,a=>by
  unfold eU at a;cases hb:(eH p (IntKind.i64.wrap (e+(i:Int))) d).2&&(eU e d (i+1) l).2 with
  |false=>rw[hb] at a;simp at a
  |true=>
   rw[hb,ac] at a;rcases ay.1 a with rfl|a
   ·exact aK9 _ _ _ hd
   ·exact aDg hd l (i+1) x a
def aP3 (log:List AD)(k e:Int):aSy (bK log k e).1:=by
 unfold bK;cases !bI log||(!bQ k|| !(eU e (kY [aK log,k]) 0 (aD log)).2) with
 |true=>intro x a;simp at a
 |false=>exact λx a=>aDg (by have:=bD0 (aK log) k;omega) _ _ x a
section
variable {w:AA}
def bGr {n k t pin seed:Int}:CldOk (aT n k t pin seed).aAH:=by
 cases h:Qg n k t pin seed with
 |false=>unfold aT;rw[h];exact⟨⟨λx a=>by simp[aPw] at a,λx a=>by simp[aPw] at a⟩,List.Pairwise.nil⟩
 |true=>
  have hn:n.toNat=1\/n.toNat=2\/n.toNat=3:=by unfold Qg at h;simp only[ab] at h;have:=fZ h.1;omega
  have c:(aT n k t pin seed).aAH=⟨aM seed n.toNat,dS seed n.toNat,[Bn (bE seed 0) 0 1 (nwB n.toNat)]⟩:=by unfold aT;rw[h];exact aN3 hn
  exact⟨bAh h,by rw[c];exact fm ..⟩
end
end Go.VK
set_option maxRecDepth 100000
namespace Go.VK
open D
structure Cut1 (s b:Int) (x:AA):Prop where
 all:All (bL6++[]) 1 x
 len:x.Devices.length=3
 bJz:bCw x 2=true
 cut0:bCw x 0=false
 inl:uX x b=true
 ep:(dA x b).Epoch=aK x.aAH.Log
 key:∃K,bQ K=true/\(dA x b).Key=K/\(eO (dA x b).Store x.aAH.Boxes).1=K
 hosts:x.Hosts=(aT 3 2 1 5 s).Hosts
end Go.VK
