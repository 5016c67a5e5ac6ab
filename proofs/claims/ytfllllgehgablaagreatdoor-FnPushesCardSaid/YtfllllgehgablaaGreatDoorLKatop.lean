import Derived.Test.YtfllllgehgablaaGreatDoorXsFF
/- Printed by wip/tools: models, walks, proofs. -/
set_option linter.all false
set_option maxRecDepth 100000
namespace Go.VK
def kS {h:Int}(v:Int)(h0:0<=h/\h<2147483647):∃q,hstep h v=h*1000003+v+13-2147483647*q/\(0<=hstep h v/\hstep h v<2147483647):=by
 obtain⟨h0,h1⟩:=h0;have hm:=xA (p:=v) (q:=2147483647) (by decide);have hv:gP v 2147483647=v%2147483647:=cH (by decide);have e:hstep h v=(h*1000003+v+13)%2147483647:=by unfold hstep;rw[aJ (n:=h*1000003) (by omega) (by omega),aJ (n:=h*1000003+gP v 2147483647) (by omega) (by omega),aJ (by omega) (by omega),cp (by omega),hv];omega
 rw[e];refine⟨(h*1000003+v+13)/2147483647,?_,jo _ (by decide),ir _ (by decide)⟩;have:=Int.emod_add_mul_ediv (h*1000003+v+13) 2147483647;omega
def bIc (k a b:Int):∃q,bJ k [a,b]=k*1000009000027000028+a*1000006000009+b*1000003+11000145000724001630001411-2147483647*q:=by simp only[bJ,vC,cR,gb,cY,cC,bn,dc,ij];obtain⟨q0,e0,r0⟩:=kS k (h:=11) ⟨by decide,by decide⟩;generalize hstep 11 k=y0 at*;obtain⟨q1,e1,r1⟩:=kS a (h:=y0) r0;generalize hstep y0 a=y1 at*;obtain⟨q2,e2,r2⟩:=kS b (h:=y1) r1;generalize hstep y1 b=y2 at*;obtain⟨q3,e3,r3⟩:=kS k (h:=y2) r2;generalize hstep y2 k=y3 at*;exact⟨q0*1000009000027000027+q1*1000006000009+q2*1000003+q3*1,by omega⟩
def bId (k a b c:Int):∃q,bJ k [a,b,c]=k*1000012000054000108000082+a*1000009000027000027+b*1000006000009+c*1000003+11000178001159003802006301004246-2147483647*q:=by simp only[bJ,vC,cR,gb,cY,cC,bn,dc,ij];obtain⟨q0,e0,r0⟩:=kS k (h:=11) ⟨by decide,by decide⟩;generalize hstep 11 k=y0 at*;obtain⟨q1,e1,r1⟩:=kS a (h:=y0) r0;generalize hstep y0 a=y1 at*;obtain⟨q2,e2,r2⟩:=kS b (h:=y1) r1;generalize hstep y1 b=y2 at*;obtain⟨q3,e3,r3⟩:=kS c (h:=y2) r2;generalize hstep y2 c=y3 at*;obtain⟨q4,e4,r4⟩:=kS k (h:=y3) r3;generalize hstep y3 k=y4 at*;exact⟨q0*1000012000054000108000081+q1*1000009000027000027+q2*1000006000009+q3*1000003+q4*1,by omega⟩
def bIe (k a b c d:Int):∃q,bJ k [a,b,c,d]=k*1000015000090000270000405000244+a*1000012000054000108000081+b*1000009000027000027+c*1000006000009+d*1000003+11000211001693007279017707023149012751-2147483647*q:=by simp only[bJ,vC,cR,gb,cY,cC,bn,dc,ij];obtain⟨q0,e0,r0⟩:=kS k (h:=11) ⟨by decide,by decide⟩;generalize hstep 11 k=y0 at*;obtain⟨q1,e1,r1⟩:=kS a (h:=y0) r0;generalize hstep y0 a=y1 at*;obtain⟨q2,e2,r2⟩:=kS b (h:=y1) r1;generalize hstep y1 b=y2 at*;obtain⟨q3,e3,r3⟩:=kS c (h:=y2) r2;generalize hstep y2 c=y3 at*;obtain⟨q4,e4,r4⟩:=kS d (h:=y3) r3;generalize hstep y3 d=y4 at*;obtain⟨q5,e5,r5⟩:=kS k (h:=y4) r4;generalize hstep y4 k=y5 at*;exact⟨q0*1000015000090000270000405000243+q1*1000012000054000108000081+q2*1000009000027000027+q3*1000006000009+q4*1000003+q5*1,by omega⟩
def Su (n:Int):∃e,iE n=n+e/\0<=e/\e<=1:=by
 unfold iE;by_cases h:n=0
 ·subst h;exact⟨1,rfl,by decide,by decide⟩
 ·rw[cM.2 h];exact⟨0,by simp,by decide,by decide⟩
def bIf (s i:Int):(aP s i).Seed=iE (bJ s [151,277,i]):=by unfold aP aU;simp only[cC,bn]
def bIg (s:D.aAI):fU s=iE (bJ s.Seed [151,181]):=by unfold fU aU;simp only[cC,bn]
def bCb (s:D.aAI)(n:ByteArray)(i:Int):eT s n i=iE (bJ s.Seed [151,179,bH n,i]):=by unfold eT aU;simp only[cC,bn]
def aXa (s i k:Int):∃e q,(aP s i).Seed-(aP s k).Seed=(i-k)*1000003+e+2147483647*q/\-1<=e/\e<=1:=by have hi:(aP s i).Seed=iE (bJ s [151,277,i]):=bIf s i;have hk:(aP s k).Seed=iE (bJ s [151,277,k]):=bIf s k;obtain⟨e1,a1,a2,a3⟩:=Su (bJ s [151,277,i]);obtain⟨e2,b1,b2,b3⟩:=Su (bJ s [151,277,k]);obtain⟨q1,c1⟩:=bId s 151 277 i;obtain⟨q2,c2⟩:=bId s 151 277 k;rw[hi,hk,a1,b1,c1,c2];exact⟨e1-e2,q2-q1,by omega,by omega,by omega⟩
def dfs:List Int:=[-5,-4,-3,-2,-1,0,1,2,3,4,5]
def bEi:List Int:=[-1,0,1]
def bCc {d:Int}(h1: -5<=d)(h2:d<=5):d∈dfs:=by simp only[dfs,aE,et,or_false];omega
def T9 {d:Int}(h1: -1<=d)(h2:d<=1):d∈bEi:=by simp only[bEi,aE,et,or_false];omega
def bLd:(dfs.all λd=>d==0||bEi.all λe=>bEi.all λz=> !((d*1000003+e)*1000009000027000028-z)%2147483647==0)=true:=by kernel_rfl
def bEj {s i k:Int}(hi:0<=i/\i<6)(hk:0<=k/\k<6)(h:i≠k):fU (aP s i)≠fU (aP s k):=by
 intro he;obtain⟨e,q,d1,d2,d3⟩:=aXa s i k;have h1:fU (aP s i)=iE (bJ (aP s i).Seed [151,181]):=bIg _;have h2:fU (aP s k)=iE (bJ (aP s k).Seed [151,181]):=bIg _;obtain⟨e1,a1,a2,a3⟩:=Su (bJ (aP s i).Seed [151,181]);obtain⟨e2,b1,b2,b3⟩:=Su (bJ (aP s k).Seed [151,181]);obtain⟨q1,c1⟩:=bIc (aP s i).Seed 151 181;obtain⟨q2,c2⟩:=bIc (aP s k).Seed 151 181;rw[h1,h2,a1,b1,c1,c2] at he;have hz:(((i-k)*1000003+e)*1000009000027000028-(e2-e1))%2147483647=0:=by clear h1 h2 a1 b1 c1 c2;generalize(aP s i).Seed=x at*;generalize(aP s k).Seed=y at*;omega
 have:=cF.1 bLd (i-k) (bCc (by omega) (by omega));rw[cM.2 (show i-k≠0 by omega),cL] at this;have:=cF.1 (cF.1 this e (T9 d2 d3)) (e2-e1) (T9 (by omega) (by omega));rw[hz] at this;cases this
def hs1:Int:=1464438180
def bSq:bH (aA 0)=1941999745:=by kernel_rfl
def bSr:bH (aA 1)=1464438180:=by kernel_rfl
def bIh:(dfs.all λd=>[0,477561565,-477561565].all λ(g:Int)=>(d==0&&g==0)||bEi.all λe=>bEi.all λz=> !((d*1000003+e)*1000015000090000270000405000244+g*1000006000009+d*1000003-z)%2147483647==0)=true:=by kernel_rfl
def aXb {s i k j l:Int}(hi:0<=i/\i<6)(hk:0<=k/\k<6)(hj:j=0\/j=1)(hl:l=0\/l=1)(h:i≠k\/j≠l):eT (aP s i) (aA j) i≠eT (aP s k) (aA l) k:=by
 intro he;obtain⟨e,q,d1,d2,d3⟩:=aXa s i k;have h1:eT (aP s i) (aA j) i=iE (bJ (aP s i).Seed [151,179,bH (aA j),i]):=bCb _ _ _;have h2:eT (aP s k) (aA l) k=iE (bJ (aP s k).Seed [151,179,bH (aA l),k]):=bCb _ _ _;obtain⟨e1,a1,a2,a3⟩:=Su (bJ (aP s i).Seed [151,179,bH (aA j),i]);obtain⟨e2,b1,b2,b3⟩:=Su (bJ (aP s k).Seed [151,179,bH (aA l),k]);obtain⟨q1,c1⟩:=bIe (aP s i).Seed 151 179 (bH (aA j)) i;obtain⟨q2,c2⟩:=bIe (aP s k).Seed 151 179 (bH (aA l)) k;rw[h1,h2,a1,b1,c1,c2] at he;obtain⟨g,hg,hg2⟩:∃g,bH (aA j)-bH (aA l)=g/\(g∈[0,477561565,(-477561565:Int)]/\(j≠l->g≠0)):=by
  rcases hj with rfl|rfl<;>rcases hl with rfl|rfl<;>simp only[bSq,bSr]
  ·exact⟨0,by decide,by decide,by decide⟩
  ·exact⟨477561565,by decide,by decide,by decide⟩
  ·exact⟨-477561565,by decide,by decide,by decide⟩
  ·exact⟨0,by decide,by decide,by decide⟩
 have hz:(((i-k)*1000003+e)*1000015000090000270000405000244+g*1000006000009+(i-k)*1000003-(e2-e1))%2147483647=0:=by clear h1 h2 a1 b1 c1 c2;generalize(aP s i).Seed=x at*;generalize(aP s k).Seed=y at*;generalize bH (aA j)=x1 at*;generalize bH (aA l)=y1 at*;clear hg2 hj hl h;omega
 have:=cF.1 (cF.1 bIh (i-k) (bCc (by omega) (by omega))) g hg2.1;rw[show(i-k==0&&g==0)=false by
  rcases h with h|h
  ·rw[cM.2 (show i-k≠0 by omega)];rfl
  ·rw[cM.2 (hg2.2 h),dl],cL] at this
 have:=cF.1 (cF.1 this e (T9 d2 d3)) (e2-e1) (T9 (by omega) (by omega));rw[hz] at this;cases this
def bEk {n:Int}(h:0<=n/\n<2147483647):bG (iE n)=true:=by
 unfold iE bG bF;by_cases h0:n=0
 ·subst h0;rfl
 ·rw[cM.2 h0,ab,ao (show 1<=n by omega),ao (show n<=2147483646 by omega)];rfl
def gZ (s:Int)(l:List Int):bG (aU s l)=true:=bEk (kM _ _)
def aLi {k:Int}(h:bG k=true):1<=k/\k<=2147483646:=jJ h
def bMs {k:Int}(h:bG k=true):cK k=k*48271%2147483647:=by have:=aLi h;unfold cK;rw[h,ba,ab,aJ (by omega) (by omega),cp (by omega)]
def bCd {k:Int}(h:bG k=true):bG (cK k)=true:=by
 have:=aLi h;rw[bMs h];have:k*48271%2147483647≠0:=by omega
 unfold bG bF;rw[ao (show 1<=k*48271%2147483647 by omega),ao (show k*48271%2147483647<=2147483646 by omega)];rfl
def Dq {k:Int}(h:bG k=true):eU (cK k)=k:=by have:=aLi h;unfold eU;rw[bCd h,ba,ab,bMs h];omega
def bCe {a b:Int}(ha:bG a=true)(hb:bG b=true)(h:cK a=cK b):a=b:=by rw[<-Dq ha,h,Dq hb]
def aZw {s i k j l:Int}(hi:0<=i/\i<6)(hk:0<=k/\k<6)(hj:j=0\/j=1)(hl:l=0\/l=1)(h:i≠k\/j≠l):dP (aP s i) (aA j) i≠dP (aP s k) (aA l) k:=
 λhe=>aXb hi hk hj hl h (bCe (gZ _ _) (gZ _ _) he)
def bEl {s i k:Int}(hi:0<=i/\i<6)(hk:0<=k/\k<6)(h:i≠k):bA (aP s i)≠bA (aP s k):=
 λhe=>bEj hi hk h (bCe (gZ _ _) (gZ _ _) he)
def aC6 {α:Type}{p:Nat->α->Bool}:∀{l:List α} {i:Nat},(∀k (h:k<l.length),p (i+k) l[k]=false)->fO p i l=false
 |[],i,_=>rfl
 |x::l,i,h=>by
  have h0:=h 0 (by simp);have ih:=aC6 (p:=p) (l:=l) (i:=i+1) (λk hk=>by
   have:=h (k+1) (by simpa using hk);rw[show i+1+k=i+(k+1) by omega];simpa using this)
  simp only[fO,eg,gR] at h0 ⊢;rw[h0,ih];rfl
def aUe {α:Type}{p:Nat->α->Bool}:∀{l:List α} {i:Nat},fO p i l=false->∀k (h:k<l.length),p (i+k) l[k]=false
 |x::l,i,h,0,_=>by simp only[fO,bq] at h;simpa using h.1
 |x::l,i,h,k+1,hk=>by
  simp only[fO,bq] at h;have:=aUe h.2 k (by simpa using hk);rw[show i+(k+1)=i+1+k by omega];simpa using this
def Oh (seed j:Int)(k:Nat):Int:=dP (aP seed (k:Int)) (aA j) (k:Int)
def U0 (seed j:Int)(l:List D.aAK):Prop:=∀k (h:k<l.length),l[k].Handle=(k:Int)/\l[k].Public=Oh seed j k/\0<=l[k].Counter/\l[k].Counter<=1000000
def iT {x a b:Int}(h1:a<=x)(h2:x<=b):bF x a b=true:=by unfold bF;rw[ao h1,ao h2];rfl
def bLe {seed j l:Int}{i k:Nat}(hi:i<6)(hk:k<6)(hj:j=0\/j=1)(hl:l=0\/l=1)(h:i≠k\/j≠l):Oh seed j i≠Oh seed l k:=
 aZw (by omega) (by omega) hj hl (by omega)
def bEm (seed j:Int)(k:Nat):eU (Oh seed j k)=eT (aP seed (k:Int)) (aA j) (k:Int):=by unfold Oh dP;exact Dq (by unfold eT;exact gZ _ _)
def aZx {seed j m:Int}{l:List D.aAK}(hj:j=0\/j=1)(h:U0 seed j l)(hl:l.length<=6)(hm:1<=m/\m<=3):aZ ⟨1,m,l⟩=true:=by
 have ha:fO (tL ⟨1,m,l⟩) 0 l=false:=aC6 λk hk=>by
  obtain⟨h1,h2,h3,h4⟩:=h k hk;have hp:=aLi (gZ (aP seed (k:Int)).Seed [179,bH (aA j),(k:Int)]);unfold tL;rw[ca,h1,iT (by omega) (by omega),h2,bEm,cM.2 (show eT (aP seed (k:Int)) (aA j) (k:Int)≠0 by unfold eT;omega),iT h3 h4];have e1:(decide (0<k)&&decide ((l.getD (k-1) default).Handle>=(k:Int)))=false:=by
   by_cases hk0:0<k
   ·have hk1:k-1<l.length:=by omega
    have:=(h (k-1) hk1).1;rw[List.getD,ae hk1,cD,this,aw (show ¬((k-1:Nat):Int)>=(k:Int) by omega),dl]
   ·rw[aw hk0,eM]
  have e2:((l.take k).any λq=>q.Public==Oh seed j k)=false:=by rw[List.any_eq_false];intro q hq;obtain⟨i,hi,rfl⟩:=du.1 hq;rw[ce] at hi;rw[gu,(h i (by omega)).2.1];simp only[cG];exact bLe (by omega) (by omega) hj hj (.inl (by omega))
  show(!true||((decide (0<k)&&decide ((l.getD (k-1) default).Handle>=(k:Int)))||(false|| !true))||(l.take k).any λq=>q.Public==Oh seed j k)=false;rw[e1,e2];rfl
 unfold aZ;show(bF 1 0 1000000&&bF m 1 3&&decide (l.length<=8)&& !fO (tL ⟨1,m,l⟩) 0 l)=true;rw[ha,iT hm.1 hm.2,ao (show l.length<=8 by omega)];rfl
structure SiteIn (seed j:Int) (n:Nat) (s:D.Site):Prop where
 name:s.Name=aA j
 book:eD s.Book=true
 key:bG s.Book.Seed=true
 acc:∃l,s.Accounts=[⟨1,3,l⟩]/\U0 seed j l/\l.length=n
def aC7 {j:Int}(hj:j=0\/j=1):(fI (aA j)&&decide (2<=(bI (aA j)).length))=true:=by rcases hj with rfl|rfl<;>kernel_rfl
def SiteIn.ok {seed j:Int}{n:Nat}{s:D.Site}(hj:j=0\/j=1)(hn:n<=6)(h:SiteIn seed j n s):dD s=true:=by obtain⟨h1,h2,h3,l,h4,h5,h6⟩:=h;unfold dD jO;rw[h1,aC7 hj,h3,h2,h4];show(true&&true&&decide (1<=8)&&true&& !(Hu [⟨1,3,l⟩] 0 ⟨1,3,l⟩||false))=true;unfold Hu;rw[aZx hj h5 (by omega) ⟨by decide,by decide⟩];rfl
def SiteIn.find {seed j:Int}{n:Nat}{s:D.Site}(h:SiteIn seed j n s):aD s 1=0:=by obtain⟨_,_,_,l,h4,_⟩:=h;unfold aD;rw[h4];rfl
def aSk {α:Type}{p:α->Bool}:∀{l:List α},(∀c∈l,p c=true)->l.takeWhile p=l
 |[],_=>rfl
 |x::l,h=>by rw[dh,h x (by simp),cH rfl,aSk (λc hc=>h c (by simp[hc]))]
def bIi {l:List D.aAK}{p:Int}(h:∀k (h:k<l.length),l[k].Handle=(k:Int)):aG1 l (l.length:Int) p=l++[⟨(l.length:Int),p,0,false⟩]:=by
 have:Yc (l.length:Int) l=l.length:=by unfold Yc;rw[aSk];intro c hc;obtain⟨i,hi,rfl⟩:=du.1 hc;rw[h i hi];exact ao (by omega)
 unfold aG1;rw[this,eV,dz,cY]
def U0.snoc {seed j:Int}{l:List D.aAK}(h:U0 seed j l):U0 seed j (l++[⟨(l.length:Int),Oh seed j l.length,0,false⟩]):=by
 intro k hk;by_cases hk1:k<l.length
 ·rw[ke hk1];exact h k hk1
 ·have:k=l.length:=by simp at hk;omega
  subst this;simp
def SiteIn.reg {seed j:Int}{n:Nat}{s:D.Site}(hj:j=0\/j=1)(hn:n<6)(h:SiteIn seed j n s):
  (eQ s 1 (n:Int) (Oh seed j n)).2=true/\SiteIn seed j (n+1) (eQ s 1 (n:Int) (Oh seed j n)).1:=by
 have hok:=h.ok hj (by omega);have hf:=h.find;obtain⟨h1,h2,h3,l,h4,h5,h6⟩:=h;subst h6;have ha:(s.Accounts.getD (aD s 1).toNat default)=⟨1,3,l⟩:=by rw[hf,h4];rfl
 have hi:=bIi (p:=Oh seed j l.length) (λk hk=>(h5 k hk).1);have hs:=h5.snoc;have e1:=aZx (m:=3) hj h5 (by omega) ⟨by decide,by decide⟩;have e2:=aZx (m:=3) hj hs (by simp;omega) ⟨by decide,by decide⟩;have hadd:iB ⟨1,3,l⟩ (l.length:Int) (Oh seed j l.length)=(⟨1,3,l++[⟨(l.length:Int),Oh seed j l.length,0,false⟩]⟩,true):=by unfold iB;rw[e1];show(bif !true|| !aZ ⟨1,3,aG1 l (l.length:Int) (Oh seed j l.length)⟩ then _ else _)=_;rw[hi,e2];rfl
 unfold eQ;rw[hok,hf,show decide ((0:Int)<0)=false from rfl,<-hf,ha,hadd,hf,h4];exact⟨rfl,h1,h2,h3,_,rfl,hs,by simp⟩
def aZy {seed j:Int}(hj:j=0\/j=1):SiteIn seed j 0 (lC (fD (aA j) (aU seed [281,j])) 1 3).1:=by
 have hk:=gZ seed [281,j];generalize aU seed [281,j]=q at*;have hn:fD (aA j) q=⟨aA j,[],⟨q,0,[]⟩,[]⟩:=by unfold fD jO;rw[aC7 hj,hk];rfl
 have hb:eD ⟨q,0,[]⟩=true:=rfl;have hin:SiteIn seed j 0 (oD ⟨aA j,[],⟨q,0,[]⟩,[]⟩ 1 3):=
  ⟨rfl,hb,hk,[],rfl,λk hk=>by simp at hk,rfl⟩
 have h0:dD ⟨aA j,[],⟨q,0,[]⟩,[]⟩=true:=by unfold dD jO;rw[aC7 hj,hk];rfl
 unfold lC;rw[hn,h0,hin.ok hj (by omega)];exact hin
def aLj {seed j:Int}(hj:j=0\/j=1):∀(m i:Nat) (s:D.Site),SiteIn seed j i s->i+m<=6->
  SiteIn seed j (i+m) (tQ (aA j) i ((List.range' i m).map λ(k:Nat)=>bQ (aP seed (k:Int))) s)
 |0,i,s,h,_=>h
 |m+1,i,s,h,hm=>by
  have:=aLj hj m (i+1) _ (h.reg hj (by omega)).2 (by omega);rw[show i+1+m=i+(m+1) by omega] at this;exact this
def aGi {seed j:Int}(hj:j=0\/j=1){n:Nat}(hn:n<=6):SiteIn seed j n (Oe seed (dB seed n) j):=by have:=aLj hj n 0 _ (aZy (seed:=seed) hj) (by omega);rw[ca,<-List.range_eq_range'] at this;exact this
def aXc {α:Type}{r:α->α->Prop}(ht:∀a b c,r a b->r b c->r a c):∀{l:List α},(∀k (h:k+1<l.length),r l[k] l[k+1])->l.Pairwise r
 |[],_=> .nil
 |[x],_=>eW r x
 |x::y::l,h=>by
  have ih:=aXc (r:=r) ht (l:=y::l) (λk hk=>by have:=h (k+1) (by simpa using hk);simpa using this);refine cm.2 ⟨λz hz=> ?_,ih⟩;have h0:r x y:=by simpa using h 0 (by simp)
  rcases aE.1 hz with rfl|hz
  ·exact h0
  ·exact ht _ _ _ h0 ((cm.1 ih).1 z hz)
structure BookIn (b:D.aAE):Prop where
 next:0<=b.Next/\b.Next<=1000000
 len:b.Open.length<=16
 ord:b.Open.Pairwise (λa c=>a.Id<c.Id)
 all:∀c∈b.Open,(0<=c.Id/\c.Id<b.Next)/\(0<=c.aAH/\c.aAH<=1000005)/\(0<=c.Until/\c.Until<=1000005)
def BookIn.ok {b:D.aAE}(h:BookIn b):eD b=true:=by
 obtain⟨h1,h2,h3,h4⟩:=h;have ha:fO (gJ b) 0 b.Open=false:=aC6 λk hk=>by
  obtain⟨a1,a2,a3⟩:=h4 b.Open[k] (cN hk);unfold gJ;rw[ca,aJ (by omega) (by omega),iT (by omega) (by omega),iT a2.1 a2.2,iT a3.1 a3.2];have e1:(decide (0<k)&&decide ((b.Open.getD (k-1) default).Id>=b.Open[k].Id))=false:=by
   by_cases hk0:0<k
   ·have hk1:k-1<b.Open.length:=by omega
    have:=dT.1 h3 (k-1) k hk1 hk (by omega);rw[List.getD,ae hk1,cD,aw (show ¬b.Open[k-1].Id>=b.Open[k].Id by omega),dl]
   ·rw[aw hk0,eM]
  rw[e1];rfl
 unfold eD;rw[ha,iT h1.1 h1.2,ao h2];rfl
def aJi {b:D.aAE}(h:eD b=true):BookIn b:=by
 unfold eD at h;simp only[aa,bp,cq] at h;obtain⟨⟨h1,h2⟩,h3⟩:=h;have h1:=jJ h1;have hg:∀k (hk:k<b.Open.length),((0<=b.Open[k].Id/\b.Open[k].Id<b.Next)/\(0<=b.Open[k].aAH/\b.Open[k].aAH<=1000005)/\(0<=b.Open[k].Until/\b.Open[k].Until<=1000005))/\(0<k->(b.Open.getD (k-1) default).Id<b.Open[k].Id):=λk hk=>by
  have:=aUe h3 k hk;unfold gJ at this;rw[ca,aJ (by omega) (by omega)] at this;simp only[bq,dv,Bool.and_eq_false_iff,di] at this;obtain⟨a1,a2,a3,a4⟩:=this;have a1:=jJ a1;have a3:=jJ a3;have a4:=jJ a4;exact⟨⟨⟨a1.1,by omega⟩,⟨a3.1,a3.2⟩,a4.1,a4.2⟩,λh0=>by rcases a2 with a2|a2<;>omega⟩
 refine⟨⟨h1.1,h1.2⟩,h2,aXc (r:=λa c:D.aAM=>a.Id<c.Id) (λa b c h1 h2=>Int.lt_trans h1 h2) (λk hk=> ?_),λc hc=> ?_⟩
 ·have:=(hg (k+1) hk).2 (by omega);rw[Nat.add_sub_cancel,List.getD,ae (show k<b.Open.length by omega),cD] at this;exact this
 ·obtain⟨i,hi,rfl⟩:=du.1 hc;exact(hg i hi).1
def bIj {b:D.aAE}(h:BookIn b)(a n:Int):BookIn (jE b a n).1/\(jE b a n).1.Seed=b.Seed/\b.Next<=(jE b a n).1.Next/\(jE b a n).1.Next<=b.Next+1:=by
 unfold jE;rw[h.ok];by_cases hn:b.Next=1000000
 ·have e:∀{x y:D.aAE×D.aAM×Bool},(bif true&&(!(b.Next==1000000)&&(bF a 0 1000000&&bF n 0 1000000)) then x else y)=y:=by intro x y;rw[hn];rfl
  rw[e];exact⟨h,rfl,dt _,by show b.Next<=_;omega⟩
 ·rw[cM.2 hn];cases hr:bF a 0 1000000&&bF n 0 1000000 with
  |false=>exact⟨h,rfl,dt _,by show b.Next<=_;omega⟩
  |true=>
   rw[aa] at hr;have r1:=jJ hr.1;have r2:=jJ hr.2;obtain⟨h1,h2,h3,h4⟩:=h;have hw:IntKind.i64.wrap (b.Next+1)=b.Next+1:=aJ (by omega) (by omega);have hw2:IntKind.i64.wrap (n+5)=n+5:=aJ (by omega) (by omega);have key:∀l:List D.aAM,l.length<=15->l.Pairwise (λa c=>a.Id<c.Id)->(∀c∈l,c∈b.Open)->BookIn ⟨b.Seed,IntKind.i64.wrap (b.Next+1),l++[aJe b a n]⟩:=λl hl ho hm=>by
    rw[hw];refine⟨⟨show 0<=b.Next+1 by omega,show b.Next+1<=1000000 by omega⟩,by simp;omega,?_,λc hc=> ?_⟩
    ·show(l++[aJe b a n]).Pairwise _;refine List.pairwise_append.2 ⟨ho,eW _ _,λx hx y hy=> ?_⟩
     rw[cz.1 hy];exact(h4 x (hm x hx)).1.2
    ·rcases bz.1 hc with hc|hc
     ·obtain⟨q1,q2,q3⟩:=h4 c (hm c hc);exact⟨⟨q1.1,show c.Id<b.Next+1 by omega⟩,q2,q3⟩
     ·rw[cz.1 hc];refine⟨⟨h1.1,show b.Next<b.Next+1 by omega⟩,⟨show 0<=a by omega,show a<=1000005 by omega⟩,?_⟩;show 0<=IntKind.i64.wrap (n+5)/\IntKind.i64.wrap (n+5)<=1000005;rw[hw2];omega
   simp only[dk,cW,ac];cases hd:decide ((b.Open.length:Int)>=16) with
   |true=>refine⟨key _ (by simp only[ac,cn];omega) ?_ (λc hc=>dn hc),by first|rfl|trivial,by first|(rw[hw];omega)|(simp only[hw];omega),by first|(rw[hw];omega)|(simp only[hw];omega)⟩;exact h3.sublist (List.drop_sublist _ _)
   |false=>have:=of_decide_eq_false hd;exact⟨key _ (by simp only[ab];omega) h3 (λc hc=>hc),by first|rfl|trivial,by first|(rw[hw];omega)|(simp only[hw];omega),by first|(rw[hw];omega)|(simp only[hw];omega)⟩
def bLf {b:D.aAE}(h:BookIn b)(c a n:Int):BookIn (uF b c a n).1/\(uF b c a n).1.Seed=b.Seed:=by
 unfold uF;rw[h.ok];cases decide (dJ b c<0) with
 |true=>exact⟨h,rfl⟩
 |false=>
  obtain⟨h1,h2,h3,h4⟩:=h;have hsub:(b.Open.take (dJ b c).toNat++b.Open.drop ((dJ b c).toNat+1)).Sublist b.Open:=by
   conv=>rhs;rw[<-cE (dJ b c).toNat b.Open]
   refine List.Sublist.append (List.Sublist.refl _) ?_;rw[<-jv];exact List.drop_sublist _ _
  exact⟨⟨h1,bu hsub.length_le h2,h3.sublist hsub,λc hc=>h4 c (hsub.subset hc)⟩,rfl⟩
def SiteIn.aBJ {seed j:Int}{n:Nat}{s:D.Site}(h:SiteIn seed j n s){b:D.aAE}(hb:BookIn b)(hs:b.Seed=s.Book.Seed):SiteIn seed j n {s with Book:=b}:=
 ⟨h.name,hb.ok,by show bG b.Seed=true;rw[hs];exact h.key,h.acc⟩
def SiteIn.begin {seed j:Int}{n:Nat}{s:D.Site}(h:SiteIn seed j n s)(i t:Int):SiteIn seed j n (sS s i t).1:=by
 unfold sS;cases dD s&&(!decide (aD s i<0)&&(jE s.Book i t).2.2) with
 |false=>exact h
 |true=>have:=bIj (aJi h.book) i t;exact h.aBJ this.1 this.2.1
def U0.set {seed j:Int}{l:List D.aAK}(h:U0 seed j l){k:Nat}(hk:k<l.length){c:D.aAK}(h1:c.Handle=l[k].Handle)(h2:c.Public=l[k].Public)(h3:0<=c.Counter/\c.Counter<=1000000):U0 seed j (l.set k c):=by
 intro i hi;rw[ga];rw[ax] at hi;split
 ·rename_i e;subst e;have:=h k hk;exact⟨h1.trans this.1,h2.trans this.2.1,h3⟩
 ·exact h i hi
def aLk {α:Type}{p:α->Bool}:∀{l:List α} {i:Nat},decide (iL p i l<0)=false->∃k,∃h:k<l.length,iL p i l=((i+k:Nat):Int)/\p l[k]=true
 |[],i,h=>by simp[iL] at h
 |x::l,i,h=>by
  unfold iL at h ⊢;cases hp:p x with
  |true=>exact⟨0,by simp,by simp,by simpa using hp⟩
  |false=>rw[hp,ab] at h;obtain⟨k,hk,e1,e2⟩:=aLk h;exact⟨k+1,by simpa using hk,by rw[ab,e1];congr 1;omega,by simpa using e2⟩
def U0.use {seed j:Int}{l:List D.aAK}(h:U0 seed j l)(x:D.aAL)(z:ByteArray)(c:Int)(hx:0<=x.Counter/\x.Counter<=1000000):
  ∃l',(nP ⟨1,3,l⟩ x z c).1=⟨1,3,l'⟩/\U0 seed j l'/\l'.length=l.length/\∀k (h1:k<l.length) (h2:k<l'.length),l[k].Cut=true->l'[k].Cut=true:=by
 unfold nP;cases hb: !aZ ⟨1,3,l⟩||(decide (aW ⟨1,3,l⟩ x.Handle<0)||(fJ ⟨1,3,l⟩ (aW ⟨1,3,l⟩ x.Handle)).Cut) with
 |true=>exact⟨l,rfl,h,rfl,λk h1 h2 e=>e⟩
 |false=>
  simp only[bq] at hb;obtain⟨k,hk,e1,e2⟩:=aLk (l:=l) hb.2.1;have ef:aW ⟨1,3,l⟩ x.Handle=(k:Int):=e1.trans (by simp);have ec:fJ ⟨1,3,l⟩ (k:Int)=l[k]:=by unfold fJ;simp[List.getD,ae hk]
  rw[ef,ec,ab,co];have hset:∀c:D.aAK,c.Handle=l[k].Handle->c.Public=l[k].Public->0<=c.Counter/\c.Counter<=1000000->(l[k].Cut=true->c.Cut=true)->
    ∃l',(D.aAH.mk 1 3 (l.set k c))=⟨1,3,l'⟩/\U0 seed j l'/\l'.length=l.length/\∀i (h1:i<l.length) (h2:i<l'.length),l[i].Cut=true->l'[i].Cut=true:=λc c1 c2 c3 c4=>
   ⟨_,rfl,h.set hk c1 c2 c3,ax,λi h1 h2 e=>by
    rw[ga];split
    ·rename_i q;subst q;exact c4 e
    ·exact e⟩
  cases kZ l[k].Public x z c l[k].Counter==0 with
  |true=>exact hset _ rfl rfl hx (λe=>e)
  |false=>
   cases kZ l[k].Public x z c l[k].Counter==4 with
   |true=>exact hset _ rfl rfl (h k hk).2.2 (λ_=>rfl)
   |false=>exact⟨l,rfl,h,rfl,λk h1 h2 e=>e⟩
def SiteIn.aBT {seed j:Int}{n:Nat}{s:D.Site}(h:SiteIn seed j n s){l:List D.aAK}(hl:U0 seed j l)(hn:l.length=n)(g:List Int)(b:D.aAE)(hb:BookIn b)(hs:b.Seed=s.Book.Seed):SiteIn seed j n {s with Book:=b,Accounts:=[⟨1,3,l⟩],Logins:=g}:=
 ⟨h.name,hb.ok,by show bG b.Seed=true;rw[hs];exact h.key,l,rfl,hl,hn⟩
def SiteIn.finish {seed j:Int}{n:Nat}{s:D.Site}(h:SiteIn seed j n s)(c t:Int)(x:D.aAL)(hx:0<=x.Counter/\x.Counter<=1000000):SiteIn seed j n (tO s 1 c t x).1:=by
 have hf:=h.find;have hk:=bLf (aJi h.book) c 1 t;unfold tO;rw[hf];cases !dD s||decide ((0:Int)<0) with
 |true=>exact h
 |false=>
  simp only[ab];cases !(uF s.Book c 1 t).2 with
  |true=>exact h.aBJ hk.1 hk.2
  |false=>
   simp only[ab];cases !Ac (fQ s 0) 3 with
   |true=>exact h.aBJ hk.1 hk.2
   |false=>
    obtain⟨l,e,hl,hn⟩:=h.acc;have ea:fQ s 0=⟨1,3,l⟩:=by unfold fQ;rw[e];rfl
    obtain⟨l',q1,q2,q3,_⟩:=hl.use x s.Name (jR s.Book c) hx;simp only[ab,ea,q1];rw[show s.Accounts.set (0:Int).toNat ⟨1,3,l'⟩=[⟨1,3,l'⟩] by rw[e];rfl];cases !((nP ⟨1,3,l⟩ x s.Name (jR s.Book c)).2==0) with
    |true=>exact h.aBT q2 (q3.trans hn) s.Logins _ hk.1 hk.2
    |false=>exact h.aBT q2 (q3.trans hn) (s.Logins++[1]) _ hk.1 hk.2
def bIk (s:D.aAI)(z:ByteArray)(i:Int)(m:List Int):(fK s z i m).1.Seed=s.Seed/\(fK s z i m).1.Vendor=s.Vendor/\(fK s z i m).1.Serial=s.Serial/\((fK s z i m).2.2=true->(fK s z i m).1.Counter=s.Counter+1/\0<=s.Counter/\s.Counter<1000000)/\((fK s z i m).2.2=false->(fK s z i m).1=s):=by
 unfold fK;cases hb:uG s&& !(s.Counter==1000000) with
 |false=>exact⟨rfl,rfl,rfl,λh=>(by cases h),λ_=>rfl⟩
 |true=>
  simp only[aa,cq,cM] at hb;have hs:=hb.1;unfold uG at hs;simp only[aa] at hs;have hc:=jJ hs.2.2.2;refine⟨rfl,rfl,rfl,⟨λ_=> ?_,λh=>by cases h⟩⟩
  have:IntKind.i64.wrap (s.Counter+1)=s.Counter+1:=aJ (by omega) (by omega);exact⟨this,by omega,by have:=hb.2;omega⟩
def aXd (s:D.aAI)(o:D.aAN)(z:ByteArray)(i c:Int)(p:Bool):(jS s o z i c p).1.Seed=s.Seed/\(jS s o z i c p).1.Vendor=s.Vendor/\(jS s o z i c p).1.Serial=s.Serial/\(0<=s.Counter/\s.Counter<=1000000->(0<=(jS s o z i c p).1.Counter/\(jS s o z i c p).1.Counter<=1000000)/\(0<=(jS s o z i c p).2.1.Counter/\(jS s o z i c p).2.1.Counter<=1000000)):=by
 obtain⟨h1,h2,h3,h4,h5⟩:=bIk s z i (dA (aC4 s o z i c p));unfold jS;cases hb:tN o z&&(fK s z i (dA (aC4 s o z i c p))).2.2 with
 |false=>exact⟨rfl,rfl,rfl,λh=>⟨h,dt 0,show(0:Int)<=1000000 by decide⟩⟩
 |true=>
  rw[aa] at hb;obtain⟨q1,q2,q3⟩:=h4 hb.2;refine⟨h1,h2,h3,λh=>⟨?_,?_⟩⟩
  ·show 0<=(fK s z i (dA (aC4 s o z i c p))).1.Counter/\(fK s z i (dA (aC4 s o z i c p))).1.Counter<=1000000;omega
  ·show 0<=(fK s z i (dA (aC4 s o z i c p))).1.Counter/\(fK s z i (dA (aC4 s o z i c p))).1.Counter<=1000000;omega
structure StIn (seed:Int) (k:Nat) (s:D.aAI):Prop where
 ven:s.Vendor=1
 ser:s.Serial=(k:Int)
 key:s.Seed=(aP seed (k:Int)).Seed
 cnt:0<=s.Counter/\s.Counter<=1000000
structure WIn (m:Nat) (w:D.World):Prop where
 seed:bG w.Seed=true
 now:0<=w.Now/\w.Now<=999900
 dlen:1<=w.Devices.length/\w.Devices.length<=6
 slen:w.Stolen.length=w.Devices.length
 dev:∀k (h:k<w.Devices.length),StIn w.Seed k w.Devices[k].Store
 two:w.Sites.length=2
 mle:m<=6
 site:∀j (h:j<w.Sites.length),SiteIn w.Seed (j:Int) m w.Sites[j]
 mail:dZ w.Mail=true
 log:bB w.aAD.Log=true
def WIn.ok {m:Nat}{w:D.World}(h:WIn m w):aR w=true:=by
 have hs:fO kY 0 w.Sites=false:=aC6 λk hk=>by
  have h2:=h.two;have:=h.site k hk;unfold kY;rw[this.ok (by omega) h.mle,this.name,ca];simp
 unfold aR;have h2:=h.two;have h3:=h.slen;have h4:=h.dlen;rw[hs,h.log,h.mail,h.seed,iT h.now.1 h.now.2,iT (by omega) (by omega),h3,h2];simp
def WIn.upd {m:Nat}{w v:D.World}(h:WIn m w)(h1:v.Seed=w.Seed)(h2:v.Now=w.Now)(h3:v.Devices.length=w.Devices.length)(h4:v.Stolen.length=w.Stolen.length)
  (h5:∀k (h:k<v.Devices.length),StIn w.Seed k v.Devices[k].Store) (h6:v.Sites.length=2) (h7:∀j (h:j<v.Sites.length),SiteIn w.Seed (j:Int) m v.Sites[j]) (h8:dZ v.Mail=true) (h9:bB v.aAD.Log=true):WIn m v where
 seed:=by rw[h1];exact h.seed
 now:=by rw[h2];exact h.now
 dlen:=by rw[h3];exact h.dlen
 slen:=by rw[h3,h4];exact h.slen
 dev:=by rw[h1];exact h5
 two:=h6
 mle:=h.mle
 site:=by rw[h1];exact h7
 mail:=h8
 log:=h9
def WIn.aBO {m:Nat}{w:D.World}(h:WIn m w){i:Nat}{x:D.Device}(hi:i<w.Devices.length)(hx:StIn w.Seed i x.Store):∀k (h:k<(w.Devices.set i x).length),StIn w.Seed k (w.Devices.set i x)[k].Store:=λk hk=>by
 rw[ga];rw[ax] at hk;split
 ·rename_i e;subst e;exact hx
 ·exact h.dev k hk
def WIn.aCX {m:Nat}{w:D.World}(h:WIn m w){i:Nat}{x:D.Site}(hi:i<2)(hx:SiteIn w.Seed (i:Int) m x):∀k (h:k<(w.Sites.set i x).length),SiteIn w.Seed (k:Int) m (w.Sites.set i x)[k]:=λk hk=>by
 rw[ga];rw[ax] at hk;split
 ·rename_i e;subst e;exact hx
 ·exact h.site k hk
def Ib {w:D.World}{d:Int}(h:aM w d=true):0<=d/\d.toNat<w.Devices.length/\aN w d=w.Devices.getD d.toNat default:=by simp only[aM,aa,bp] at h;exact⟨h.1,by omega,rfl⟩
def U1 {w:D.World}{d:Int}(h:aM w d=true):∃h:d.toNat<w.Devices.length,aN w d=w.Devices[d.toNat]:=by obtain⟨h1,h2,h3⟩:=Ib h;exact⟨h2,by rw[h3];simp[List.getD,ae h2]⟩
def WIn.aBZ {m:Nat}{w:D.World}(h:WIn m w){d:Int}(hd:aM w d=true):StIn w.Seed d.toNat (aN w d).Store:=by obtain⟨h1,h2⟩:=U1 hd;rw[h2];exact h.dev _ h1
def bEn {m:D.aAJ}(h:dZ m=true)(k a t:Int):dZ (vI m k a t).1=true:=by
 unfold vI;cases hb: !dZ m|| !dZ ⟨Jb (m.Notices++[⟨k,a,t,false⟩])⟩ with
 |true=>exact h
 |false=>simp only[bq,dv] at hb;exact hb.2
def WIn.tell {m:Nat}{w:D.World}(h:WIn m w)(k:Int):WIn m (Oa w k):=
 h.upd rfl rfl rfl rfl h.dev h.two h.site (bEn h.mail _ _ _) h.log
def StIn.make {seed:Int}{k:Nat}{s:D.aAI}(h:StIn seed k s)(o:D.aAN)(z:ByteArray)(i c:Int)(p:Bool):StIn seed k (jS s o z i c p).1:=by obtain⟨h1,h2,h3,h4⟩:=aXd s o z i c p;exact⟨h2.trans h.ven,h3.trans h.ser,h1.trans h.key,(h4 h.cnt).1⟩
def WIn.visit {m:Nat}{w:D.World}(h:WIn m w)(d j:Int)(o:D.aAN):WIn m (lJ w d j o).1:=by
 unfold lJ;cases ht:eO w d j with
 |false=>exact h
 |true=>
  have ht2:=ht;simp only[eO,aa] at ht2;have h2:=h.two;have hq:=ht2.2.2;simp only[xL,aa,bp] at hq;have hj:j.toNat<w.Sites.length:=by omega
  have es:nQ w j=w.Sites[j.toNat]:=by unfold nQ;simp[List.getD,ae hj]
  have hs:=h.site _ hj;rw[<-es,show((j.toNat:Nat):Int)=j by omega] at hs;have hst:=h.aBZ ht2.2.1;have hm:=aXd (aN w d).Store o (aA j) d (uH w j).2.2.1 true;have hb:SiteIn w.Seed j m (uH w j).1:=hs.begin 1 w.Now;have hfin:SiteIn w.Seed j m (aG2 w d j o).1:=hb.finish _ _ _ (hm.2.2.2 hst.cnt).2;have hw:WIn m (bEc w d j o):=by obtain⟨hd0,hd1,_⟩:=Ib ht2.2.1;refine h.upd rfl rfl (ax ..) rfl (h.aBO hd1 (hst.make o (aA j) d (uH w j).2.2.1 true)) (by show(w.Sites.set _ _).length=2;rw[ax,h2]) (h.aCX (by omega) (by rw[show((j.toNat:Nat):Int)=j by omega];exact hfin)) h.mail h.log
  simp only[ba,ab];cases !(uH w j).2.2.2 with
  |true=>exact h
  |false=>
   cases !((aG2 w d j o).2.1==0) with
   |true=>exact hw
   |false=>exact hw.tell 1
def WIn.sync {m:Nat}{w:D.World}(h:WIn m w)(d b:Int):WIn m (aI w d b).1:=by
 unfold aI;cases hb:aR w&&aM w d with
 |false=>exact h
 |true=>rw[aa] at hb;obtain⟨hd0,hd1,_⟩:=Ib hb.2;refine h.upd rfl rfl (ax ..) rfl (h.aBO hd1 ?_) h.two h.site h.mail h.log;have hst:=h.aBZ hb.2;unfold bS;cases gU (aN w d) w.aAD.Log w.aAD.Boxes (dI w.aAD b).1==0<;>exact hst
def WIn.aDH {m:Nat}{w:D.World}(h:WIn m w)(d:Int)(n:ByteArray)(a:Int)(r:Bool):WIn m (jB w d n a r).1:=by
 unfold jB;cases hb:aR w&&aM w d with
 |false=>exact h
 |true=>
  rw[aa] at hb;obtain⟨hd0,hd1,_⟩:=Ib hb.2;have hst:=h.aBZ hb.2;simp only[ac];cases(bW (aN w d) n a r).2 with
  |false=>exact h
  |true=>refine h.upd rfl rfl (ax ..) rfl (h.aBO hd1 ?_) h.two h.site h.mail h.log;unfold bW;cases(oH (aN w d) n a r).2<;>exact hst
def aGj (d:D.Device):(bN d).1.Store=d.Store:=by unfold bN;cases(jD d.Key d.Epoch (IntKind.i64.wrap (d.Version+1)) d.aAB).2<;>rfl
def WIn.up {m:Nat}{w:D.World}(h:WIn m w){d:Int}(hd:aM w d=true):WIn m (Gq w d).1:=by
 unfold Gq;cases(bN (aN w d)).2.2&&(bO w.aAD (bN (aN w d)).2.1).2 with
 |false=>exact h
 |true=>obtain⟨hd0,hd1,_⟩:=Ib hd;refine h.upd rfl rfl (ax ..) rfl (h.aBO hd1 (by rw[aGj];exact h.aBZ hd)) h.two h.site h.mail ?_;show bB (bO w.aAD (bN (aN w d)).2.1).1.Log=true;rw[(oI _ _).2];exact h.log
def WIn.push {m:Nat}{w:D.World}(h:WIn m w)(d:Int):WIn m (dL w d).1:=by
 unfold dL;cases hb:(aI w d 0).2==0&&(Gq (aI w d 0).1 d).2 with
 |false=>exact h
 |true=>
  rw[aa] at hb;have h0:=kR hb.1;exact(h.sync d 0).up (by
   have:=h0.1.2;simp only[aM,aa,bp] at this ⊢;rw[h0.2.2.1];exact this)
def gW (w:D.World)(d b:Int):(aI w d b).1.Seed=w.Seed/\(aI w d b).1.Now=w.Now/\(aI w d b).1.Devices.length=w.Devices.length/\(aI w d b).1.Sites=w.Sites/\(aI w d b).1.Stolen=w.Stolen/\(aI w d b).1.aAD=w.aAD:=by
 unfold aI;cases aR w&&aM w d with
 |false=>exact⟨rfl,rfl,rfl,rfl,rfl,rfl⟩
 |true=>exact⟨rfl,rfl,ax ..,rfl,rfl,rfl⟩
def aUf (w:D.World)(d:Int):(Gq w d).1.Seed=w.Seed/\(Gq w d).1.Now=w.Now/\(Gq w d).1.Devices.length=w.Devices.length/\(Gq w d).1.Sites=w.Sites/\(Gq w d).1.Stolen=w.Stolen/\(Gq w d).1.aAD.Log=w.aAD.Log:=by
 unfold Gq;cases(bN (aN w d)).2.2&&(bO w.aAD (bN (aN w d)).2.1).2 with
 |false=>exact⟨rfl,rfl,rfl,rfl,rfl,rfl⟩
 |true=>exact⟨rfl,rfl,ax ..,rfl,rfl,(oI _ _).2⟩
def Dt (w:D.World)(d:Int):(dL w d).1.Seed=w.Seed/\(dL w d).1.Now=w.Now/\(dL w d).1.Devices.length=w.Devices.length/\(dL w d).1.Sites=w.Sites/\(dL w d).1.Stolen=w.Stolen/\(dL w d).1.aAD.Log=w.aAD.Log:=by
 unfold dL;cases(aI w d 0).2==0&&(Gq (aI w d 0).1 d).2 with
 |false=>exact⟨rfl,rfl,rfl,rfl,rfl,rfl⟩
 |true=>obtain⟨a1,a2,a3,a4,a5,a6⟩:=gW w d 0;obtain⟨b1,b2,b3,b4,b5,b6⟩:=aUf (aI w d 0).1 d;exact⟨b1.trans a1,b2.trans a2,b3.trans a3,b4.trans a4,b5.trans a5,b6.trans (by rw[a6])⟩
def Yg (w:D.World)(b k p:Int)(key:List D.aAC->Int):(iF w b k p key).1.Seed=w.Seed/\(iF w b k p key).1.Now=w.Now/\(iF w b k p key).1.Devices=w.Devices/\(iF w b k p key).1.Sites=w.Sites/\(iF w b k p key).1.Stolen=w.Stolen/\(iF w b k p key).1.Mail=w.Mail/\(bB w.aAD.Log=true->bB (iF w b k p key).1.aAD.Log=true):=by
 unfold iF;simp only[];generalize dS w.aAD.Log k p (aN w b).Store=l;generalize bC l.1 (key l.1) (IntKind.i64.wrap (1000+IntKind.i64.wrap (10*(l.1.length:Int))))=e;cases l.2&&(e.2&&(jV w.aAD l.1 e.1).2) with
 |false=>exact⟨rfl,rfl,rfl,rfl,rfl,rfl,λh=>h⟩
 |true=>
  refine⟨rfl,rfl,rfl,rfl,rfl,rfl,λh=> ?_⟩;show bB (jV w.aAD l.1 e.1).1.Log=true;unfold jV;cases hl:bB l.1 with
  |false=>exact h
  |true=>
   cases !cO l.1 w.aAD.Log|| !gK e.1 l.1 with
   |true=>exact h
   |false=>exact hl
def WIn.aCN {m:Nat}{w:D.World}(h:WIn m w)(b k p:Int)(key:List D.aAC->Int):WIn m (iF w b k p key).1:=by obtain⟨a1,a2,a3,a4,a5,a6,a7⟩:=Yg w b k p key;exact h.upd a1 a2 (by rw[a3]) (by rw[a5]) (by rw[a3];exact h.dev) (by rw[a4];exact h.two) (by rw[a4];exact h.site) (by rw[a6];exact h.mail) (a7 h.log)
def aSl {seed:Int}{m:Nat}(hm:m<6):∀(l:List D.Site) (j:Nat),j+l.length<=2->(∀i (h:i<l.length),SiteIn seed ((j+i:Nat):Int) m l[i])->
  (fP (aP seed (m:Int)) (m:Int) j l).2=true/\(fP (aP seed (m:Int)) (m:Int) j l).1.length=l.length/\∀i (h:i<(fP (aP seed (m:Int)) (m:Int) j l).1.length),SiteIn seed ((j+i:Nat):Int) (m+1) (fP (aP seed (m:Int)) (m:Int) j l).1[i]
 |[],j,_,_=>⟨rfl,rfl,λi h=>by simp[fP] at h⟩
 |s::l,j,hj,h=>by
  have h0:SiteIn seed (j:Int) m s:=h 0 (by simp);simp only[av] at hj;obtain⟨r1,r2⟩:=h0.reg (by omega) hm;obtain⟨i1,i2,i3⟩:=aSl hm l (j+1) (by omega) (λi hi=>by
   have:=h (i+1) (by simpa using hi);rw[show j+1+i=j+(i+1) by omega];simpa using this)
  have e:dP (aP seed (m:Int)) (aA (j:Int)) (m:Int)=Oh seed (j:Int) m:=by unfold Oh;rfl
  have hu:fP (aP seed (m:Int)) (m:Int) j (s::l)=((eQ s 1 (m:Int) (Oh seed (j:Int) m)).1::(fP (aP seed (m:Int)) (m:Int) (j+1) l).1,true):=by rw[fP,e,r1,i1];rfl
  rw[hu];refine⟨rfl,by simp[i2],λi hi=> ?_⟩;cases i with
  |zero=>simpa using r2
  |succ i=>simp only[av] at hi;have:=i3 i (by omega);rw[show j+1+i=j+(i+1) by omega] at this;simpa using this
def Ic (d:D.Device)(n:ByteArray)(h:Int)(r:Bool):(bW d n h r).1.Store=d.Store:=by unfold bW;cases(oH d n h r).2<;>rfl
def aLl (d:D.Device)(h:Int)(r:Bool):(nH d h r).Store=d.Store:=by unfold nH;rw[Ic,Ic]
def aC8 {w v:D.World}{d:Int}(h:aM w d=true)(e:v.Devices.length=w.Devices.length):aM v d=true:=by simp only[aM,aa,bp] at h ⊢;rw[e];exact h
def WIn.app {m:Nat}{w:D.World}(h:WIn m w)(hl:w.Devices.length<6):WIn m (appW w (bQ (aP w.Seed (w.Devices.length:Int)))) where
 seed:=h.seed
 now:=h.now
 dlen:=by unfold appW;simp only[au,av,bo];have:=h.dlen;omega
 slen:=by unfold appW;simp only[au,av,bo,h.slen]
 dev:=λk hk=>by
  have hk':k<(w.Devices++[bQ (aP w.Seed (w.Devices.length:Int))]).length:=hk;show StIn w.Seed k ((w.Devices++[bQ (aP w.Seed (w.Devices.length:Int))])[k]'hk').Store;rw[List.getElem_append];split
  ·rename_i hk1;exact h.dev k hk1
  ·simp only[au,av,bo] at hk';have e:k=w.Devices.length:=by omega
   subst e;simp only[fm,gR];exact⟨rfl,rfl,rfl,dt 0,show(0:Int)<=1000000 by decide⟩
 two:=h.two
 mle:=h.mle
 site:=h.site
 mail:=h.mail
 log:=h.log
def WIn.aCY {w:D.World}(h:WIn w.Devices.length w){b:Int}(hn:w.Devices.length<6)(k2:aM w b=true):WIn (w.Devices.length+1) (jQ w b)/\(jQ w b).Seed=w.Seed/\(jQ w b).Devices.length=w.Devices.length:=by
 obtain⟨s1,s2,s3,s4,s5,s6⟩:=gW w b 0;have h0:=h.sync b 0;have h1:WIn w.Devices.length (add1 w b).1:=h0.aCN _ _ _ _;obtain⟨a1,a2,a3,a4,a5,a6,a7⟩:=Yg (aI w b 0).1 b 1 (bA (aP w.Seed (w.Devices.length:Int))) (λ_=>(aN (aI w b 0).1 b).Key);have e1:(add1 w b).1.Seed=w.Seed:=a1.trans s1;have e3:(add1 w b).1.Devices.length=w.Devices.length:=by show(iF _ _ _ _ _).1.Devices.length=_;rw[a3,s3]
 obtain⟨r1,r2,r3⟩:=aSl (seed:=w.Seed) hn (add1 w b).1.Sites 0 (by rw[h1.two];omega) (λi hi=>by
  have:=h1.site i hi;rw[e1] at this;rw[ca];exact this)
 have hd:aM (add1 w b).1 b=true:=aC8 k2 e3;obtain⟨d0,d1,_⟩:=Ib hd;refine⟨{
  seed:=by show bG (add1 w b).1.Seed=true;exact h1.seed
  now:=h1.now
  dlen:=by show 1<=((add1 w b).1.Devices.set _ _).length/\((add1 w b).1.Devices.set _ _).length<=6;rw[ax];exact h1.dlen
  slen:=by show(add1 w b).1.Stolen.length=((add1 w b).1.Devices.set _ _).length;rw[ax];exact h1.slen
  dev:=h1.aBO d1 (by rw[aLl];exact h1.aBZ hd)
  two:=by show(aK8 w b).1.length=2;exact r2.trans h1.two
  mle:=by omega
  site:=λj hj=>by
   have:=r3 j hj;rw[ca] at this;show SiteIn (add1 w b).1.Seed (j:Int) _ _;rw[e1];exact this
  mail:=h1.mail
  log:=h1.log},e1,?_⟩
 show((add1 w b).1.Devices.set _ _).length=_;rw[ax,e3]
def WIn.add {w:D.World}(h:WIn w.Devices.length w)(b:Int):WIn (iG w b).1.Devices.length (iG w b).1/\(iG w b).1.Seed=w.Seed:=by
 unfold iG;cases hok:Q8 w b with
 |false=>exact⟨h,rfl⟩
 |true=>
  unfold Q8 at hok;simp only[aa,cq,di] at hok;obtain⟨⟨k1,k2,k3,k4⟩,k5,k6,k7,k8,k9⟩:=hok;have hn:w.Devices.length<6:=by omega
  obtain⟨h2,e1,e4⟩:=h.aCY hn k2;have h3:WIn (w.Devices.length+1) (oK w b).1:=h2.push b;obtain⟨p1,p2,p3,p4,p5,p6⟩:=Dt (jQ w b) b;have p1:(oK w b).1.Seed=w.Seed:=p1.trans e1;have p3:(oK w b).1.Devices.length=w.Devices.length:=p3.trans e4;have h4:=h3.app (by omega);rw[p1,p3] at h4;have h5:WIn (w.Devices.length+1) (zT w b).1:=h4.sync _ _;obtain⟨q1,q2,q3,q4,q5,q6⟩:=gW (appW (oK w b).1 (bQ (aP w.Seed (w.Devices.length:Int)))) (w.Devices.length:Int) 0;have e5:(Oa (zT w b).1 2).Devices.length=w.Devices.length+1:=by show(zT w b).1.Devices.length=_;refine q3.trans ?_;unfold appW;simp only[au,av,bo,p3]
  have h6:=h5.tell 2;simp only[ac];rw[e5];exact⟨h6,q1.trans p1⟩
def bIl {k:Int}(h:bG k=true)(l:List Int):gI (cK k) l (Ab k l)=true:=by have:=aLi h;unfold gI;rw[Dq h,bne,cM.2 (show k≠0 by omega)];simp
def bIm {l:List D.aAC}{e:D.aAC}(h:l=[]\/bB l=true)(hs:lS l e=true)(hl:l.length<40):bB (l++[e])=true:=by
 have ha:fO (λi x=> !lS ((l++[e]).take i) x) 0 (l++[e])=false:=aC6 λk hk=>by
  rw[ca];by_cases hk1:k<l.length
  ·rw[ke hk1,List.take_append_of_le_length (by omega)];rcases h with h|h
   ·subst h;simp at hk1
   ·unfold bB at h;rw[aa,cq] at h;have:=aUe h.2 k hk1;rw[ca] at this;exact this
  ·have e1:k=l.length:=by simp at hk;omega
   subst e1;simp[hs]
 unfold bB;rw[aa,cq];exact⟨iT (by simp;omega) (by simp;omega),ha⟩
def bIn (l:List D.aAC)(e:D.aAC):aH (l++[e])=iZ (aH l) e:=by unfold aH;rw[gv];rfl
def aZz (l:List D.aAC)(e:D.aAC):aL (l++[e])=bif e.Kind==2 then IntKind.i64.wrap (aL l+1) else aL l:=by unfold aL;rw[gv];rfl
def aUg (l:List D.aAC)(e:D.aAC)(p:Int):iN (l++[e]) p=(iN l p||(e.Kind==2&&e.Device==p)):=by unfold iN;rw[jn];simp
def uV (seed:Int)(k:Nat):Int:=bA (aP seed (k:Int))
def bCf {seed:Int}{i k:Nat}(hi:i<6)(hk:k<6)(h:i≠k):uV seed i≠uV seed k:=bEl (by omega) (by omega) (by omega)
def Yh (s:D.aAI):bG (fU s)=true:=by unfold fU;exact gZ _ _
def U2 {l:List Int}{x:Int}:gX l x=true↔x∈l:=by
 unfold gX;rw[gC];constructor
 ·rintro⟨y,hy,e⟩;rw[<-eq_of_beq e];exact hy
 ·exact λh=>⟨x,h,dx x⟩
structure NewLog (seed:Int) (n:Nat) (l:List D.aAC):Prop where
 len:l.length=n
 devs:aH l=(List.range n).map (uV seed)
 rem:∀p,iN l p=false
 ep:aL l=0
 ok:n=0\/bB l=true
def Du (seed:Int):∀n,n<=6->NewLog seed n (aT seed n)
 |0,_=>⟨rfl,rfl,λ_=>rfl,rfl, .inl rfl⟩
 |n+1,hn=>by
  obtain⟨h1,h2,h3,h4,h5⟩:=Du seed n (by omega);have hnot:gX (aH (aT seed n)) (uV seed n)=false:=by rw[fi,Ne,U2,h2];intro hm;obtain⟨i,hi,e⟩:=cj.1 hm;have hi:=jt.1 hi;exact bCf (by omega) (by omega) (by omega) e
  have hst:lS (aT seed n) (bD7 (aT seed n) 1 (uV seed n) (aP seed 0))=true:=by
   unfold lS;have v:gI (bA (aP seed 0)) [cB (aZh (aT seed n) 1 (uV seed n) (aP seed 0))] (qE (aP seed 0) [cB (aZh (aT seed n) 1 (uV seed n) (aP seed 0))])=true:=by unfold qE bA;exact bIl (Yh _) _
   show(((aT seed n).length:Int)==((aT seed n).length:Int)&&(fV (aT seed n)==fV (aT seed n)&&((gX (aH (aT seed n)) (bA (aP seed 0))||(((aT seed n).length:Int)==0&&bA (aP seed 0)==uV seed n))&&(gI (bA (aP seed 0)) [cB (aZh (aT seed n) 1 (uV seed n) (aP seed 0))] (qE (aP seed 0) [cB (aZh (aT seed n) 1 (uV seed n) (aP seed 0))])&&
    (!iN (aT seed n) (uV seed n)&&(true&&(!gX (aH (aT seed n)) (uV seed n)&&decide (((aH (aT seed n)).length:Int)<6))))))))=true
   rw[v,h3,hnot,h2,h1];have hby:(gX ((List.range n).map (uV seed)) (bA (aP seed 0))||((n:Int)==0&&bA (aP seed 0)==uV seed n))=true:=by
    cases n with
    |zero=>simp[uV]
    |succ n=>rw[show gX ((List.range (n+1)).map (uV seed)) (bA (aP seed 0))=true from U2.2 (cj.2 ⟨0,by simp,rfl⟩)];rfl
   rw[hby];simp;omega
  have hl:=bIm (l:=aT seed n) (by
   rcases h5 with h5|h5
   ·subst h5;exact .inl rfl
   ·exact .inr h5) hst (by omega)
  have e:aT seed (n+1)=aT seed n++[bD7 (aT seed n) 1 (uV seed n) (aP seed 0)]:=by
   show(dS (aT seed n) 1 (bA (aP seed (n:Int))) (aP seed 0)).1=_;unfold dS;have hq:(decide (((aT seed n).length:Int)>0)&& !bB (aT seed n))=false:=by
    rcases h5 with h5|h5
    ·subst h5;rfl
    ·rw[h5];simp
   rw[hq,show bA (aP seed (n:Int))=uV seed n from rfl,hl];rfl
  rw[e];refine⟨by simp[h1],?_,λp=> ?_,?_, .inr hl⟩
  ·rw[bIn,ia,cT,<-h2];unfold iZ;have hc:(aH (aT seed n)).contains (uV seed n)=false:=by rw[fi] at hnot ⊢;intro hc;exact hnot (U2.2 (by simpa using hc))
   show(bif (1:Int)==1 then(bif (aH (aT seed n)).contains (uV seed n) then _ else _) else _)=_;rw[hc];rfl
  ·rw[aUg,h3];rfl
  ·rw[aZz,h4];rfl
def aSm {e:Int}{d:List Int}(hd:d.length<=200):∀(l:List Int) (i:Nat),(∀p∈l,bG p=true)->1<=e+(i:Int)->e+(i:Int)+(l.length:Int)<=2147483646->
  (eH e d i l).2=true/\(eH e d i l).1.length=l.length/\(eH e d i l).1.map (·.To)=l/\∀k (h:k<(eH e d i l).1.length) (h2:k<l.length),(eH e d i l).1[k]=gB l[k] (e+((i+k:Nat):Int)) d
 |[],i,_,_,_=>⟨rfl,rfl,rfl,λk h _=>by simp[eH] at h⟩
 |p::l,i,hp,h1,h2=>by
  simp only[av] at h2;obtain⟨i1,i2,i3,i4⟩:=aSm (e:=e) hd l (i+1) (λq hq=>hp q (by simp[hq])) (by push_cast;omega) (by push_cast at h2 ⊢;omega);have hk:=hp p (by simp);have hq:=aLi hk;have hw:IntKind.i64.wrap (e+(i:Int))=e+(i:Int):=aJ (by omega) (by push_cast at h2;omega);have hpr:eU p≠0:=by unfold eU;rw[hk,ba,ab];omega
  have hb:eG p (IntKind.i64.wrap (e+(i:Int))) d=(gB p (e+(i:Int)) d,true):=by unfold eG;rw[hw,cM.2 hpr,show bG (e+(i:Int))=true from iT (by omega) (by push_cast at h2;omega),aw (show ¬(d.length:Int)>200 by omega)];rfl
  have hu:eH e d i (p::l)=(gB p (e+(i:Int)) d::(eH e d (i+1) l).1,true):=by rw[eH,hb,i1];rfl
  rw[hu];refine⟨rfl,by simp[i2],?_,λk hk1 hk2=> ?_⟩
  ·simp only[bm,i3];rfl
  ·cases k with
   |zero=>rfl
   |succ k=>simp only[av] at hk1 hk2;have:=i4 k (by omega) (by omega);simp only[eJ];rw[this];congr 1;push_cast;omega
def bIo {l:List D.Box}{p:Int}:∀(n:Int),0<=n->n+(l.length:Int)<=1000000->l.foldl (λn b=>bif b.To==p then IntKind.i64.wrap (n+1) else n) n=n+((l.filter λb=>b.To==p).length:Int):=by
 induction l with
 |nil=>intro n _ _;simp
 |cons b l ih=>
  intro n h0 h1;simp only[av] at h1
  push_cast at h1
  rw[dc,jh];cases hb:b.To==p with
  |true=>
   rw[ac,aJ (by omega) (by omega),cH rfl,ih (n+1) (by omega) (by omega),av]
   push_cast;omega
  |false=>rw[ab,cX (by simp),ih n h0 (by omega)]
def bEo {l:List D.Box}(h:(l.map (·.To)).Nodup){p:Int}(hp:p∈l.map (·.To)):(l.filter λb=>b.To==p).length=1:=by
 induction l with
 |nil=>simp at hp
 |cons b l ih=>
  simp only[bm,cw,aE] at h hp;rw[jh];by_cases hb:b.To=p
  ·have hn:(l.filter λb=>b.To==p)=[]:=by rw[List.filter_eq_nil_iff];intro c hc he;exact h.1 (cj.2 ⟨c,hc,by rw[hb];exact eq_of_beq he⟩)
   rw[cG.2 hb,cH rfl,hn];rfl
  ·have hp2:p∈l.map (·.To):=by
    rcases hp with hp|hp
    ·exact absurd hp.symm hb
    ·exact hp
   rw[cM.2 hb,cX (by simp)];exact ih h.2 hp2
def bEp {log:List D.aAC}{bx:D.aAF}(h1:bx.Epoch=aL log)(h2:bx.Boxes.map (·.To)=aH log)(h3:(aH log).Nodup)(h4:(aH log).length<=1000):gK bx log=true:=by
 have hl:bx.Boxes.length=(aH log).length:=by rw[<-h2,bl]
 unfold gK;rw[h1,hl,dx,dx,dw,cW,cF];intro p hp;unfold qF;rw[bIo 0 (by omega) (by omega),bEo (by rw[h2];exact h3) (by rw[h2];exact hp)];rfl
def bCg (a b:Int):(gF [a,b]).length<=12:=by have h1:=Nv a;have h2:=Nv b;unfold gF;simp only[bm,ex,cR,gb,cY,au];omega
def aSn {log:List D.aAC}{key eph:Int}(h1:bB log=true)(h2:bG key=true)(h3:∀p∈aH log,bG p=true)(h4:(aH log).length<=1000)(h5:1<=eph/\eph<=1000000):
  (bC log key eph).2=true/\(bC log key eph).1.Epoch=aL log/\(bC log key eph).1.Boxes.map (·.To)=aH log/\∀k (h:k<(bC log key eph).1.Boxes.length) (h2:k<(aH log).length),(bC log key eph).1.Boxes[k]=gB (aH log)[k] (eph+(k:Int)) (gF [aL log,key]):=by
 have hd:=bCg (aL log) key;obtain⟨s1,s2,s3,s4⟩:=aSm (e:=eph) (d:=gF [aL log,key]) (by omega) (aH log) 0 h3 (by omega) (by omega);have e:bC log key eph=(⟨aL log,(eH eph (gF [aL log,key]) 0 (aH log)).1⟩,true):=by unfold bC;rw[h1,h2,s1];rfl
 rw[e];refine⟨rfl,rfl,s3,λk hk hk2=> ?_⟩;have:=s4 k hk hk2;rw[ca] at this;exact this
def aXe (seed:Int)(k:Nat):bG (uV seed k)=true:=by unfold uV bA;exact bCd (Yh _)
def aXf {seed:Int}{n:Nat}(hn:n<=6):((List.range n).map (uV seed)).Nodup:=by rw[jr,gr];refine(List.pairwise_lt_range).imp_of_mem ?_;intro a b ha hb hab;have ha:=jt.1 ha;have hb:=jt.1 hb;exact bCf (by omega) (by omega) (by omega)
def Yi {seed:Int}{n:Nat}(h0:1<=n)(hn:n<=6):gK (eX seed n) (aT seed n)=true/\bB (aT seed n)=true/\(eX seed n).Epoch=0:=by
 obtain⟨h1,h2,h3,h4,h5⟩:=Du seed n hn;have hl:bB (aT seed n)=true:=h5.resolve_left (by omega);have hlen:(aH (aT seed n)).length<=1000:=by rw[h2,bl,fS];omega
 obtain⟨m1,m2,m3,m4⟩:=aSn (key:=bP seed 0) (eph:=1000) hl (by unfold bP;exact gZ _ _) (λp hp=>by
  rw[h2] at hp;obtain⟨i,_,rfl⟩:=cj.1 hp;exact aXe _ _) hlen ⟨by decide,by decide⟩
 refine⟨bEp m2 m3 (by rw[h2];exact aXf hn) hlen,hl,?_⟩;unfold eX;rw[m2,h4]
def aXg {seed:Int}{n:Nat}(h0:1<=n)(hn:n<=6):(gV seed n).Log=aT seed n:=by obtain⟨h1,h2,_⟩:=Yi (seed:=seed) h0 hn;unfold gV;rw[(oI _ _).2];unfold dE;rw[h1,h2];rfl
def Oi (d:D.Device)(l:List D.aAC)(k:Int):(mQ d l k).1.Store=d.Store:=by unfold mQ;cases !bB l||(!cO l d.Log||(decide (aL l<d.Epoch)|| !bG k))<;>rfl
def aPa (d:D.Device)(l:List D.aAC)(b:D.aAF)(s:D.aAA):(bS d l b s).1.Store=d.Store:=by unfold bS;cases gU d l b s==0<;>rfl
def Yj (nm:ByteArray):∀(i:Nat) (d:D.Device),(Dp nm i d).Store=d.Store
 |0,d=>rfl
 |i+1,d=>by
  show(bW (Dp nm i d) nm (i:Int) false).1.Store=_;rw[Ic,Yj nm i d]
def bEq {seed:Int}{n:Nat}(h0:1<=n):(iK seed n).length=n/\∀k (h:k<(iK seed n).length),(iK seed n)[k].Store=aP seed (k:Int):=by
 have hl:(iK seed n).length=n:=by unfold iK dB;simp only[av,bl,cn,fS];omega
 refine⟨hl,λk hk=> ?_⟩;cases k with
 |zero=>show(nwW seed n).1.Store=_;unfold nwW;rw[aGj];unfold kD uI;rw[Yj,Yj,Oi];rfl
 |succ k=>
  have hk2:k<(((dB seed n).drop 1).map (Ia seed n)).length:=by have:(iK seed n).length=(((dB seed n).drop 1).map (Ia seed n)).length+1:=rfl;omega
  show((((dB seed n).drop 1).map (Ia seed n))[k]'hk2).Store=_;rw[fq];unfold Ia uI;rw[aPa,Oi,List.getElem_drop];unfold dB;rw[fq,List.getElem_range];unfold bQ;rw[show((1+k:Nat):Int)=((k+1:Nat):Int) by omega]
def aXh {n k t pin seed:Int}(h:aG4 n k t pin seed=true):WIn n.toNat (fE n k t pin seed)/\(fE n k t pin seed).Devices.length=n.toNat/\(fE n k t pin seed).Seed=seed:=by
 have hb:=h;unfold aG4 at hb;simp only[aa] at hb;obtain⟨b1,b2,b3,b4,b5⟩:=hb;have r:=jJ b1;unfold fE;rw[h,ac];obtain⟨d1,d2⟩:=bEq (seed:=seed) (n:=n.toNat) (by omega);have hlog:=aXg (seed:=seed) (n:=n.toNat) (by omega) (by omega);have hok:=(Yi (seed:=seed) (n:=n.toNat) (by omega) (by omega)).2.1;refine⟨{seed:=b5,now:=⟨dt 0,show(0:Int)<=999900 by decide⟩,dlen:= ?_,slen:= ?_,dev:= ?_,two:=rfl,mle:=by omega,site:= ?_,mail:=rfl,log:= ?_},d1,rfl⟩
 ·show 1<=(iK seed n.toNat).length/\(iK seed n.toNat).length<=6;omega
 ·show(List.replicate n.toNat false).length=(iK seed n.toNat).length;rw[fg,d1]
 ·intro j hj;show StIn seed j ((iK seed n.toNat)[j]'hj).Store;rw[d2 j hj];exact⟨rfl,rfl,rfl,dt 0,show(0:Int)<=1000000 by decide⟩
 ·intro j hj;show SiteIn seed (j:Int) n.toNat ((xS (dB seed n.toNat) seed)[j]'hj)
  match j,hj with
  |0,_=>exact aGi (.inl rfl) (by omega)
  |1,_=>exact aGi (.inr rfl) (by omega)
  |j+2,hj=>have:j+2<2:=hj;omega
 ·show bB (gV seed n.toNat).Log=true;rw[hlog];exact hok
def SiteIn.cut {seed j:Int}{n:Nat}{s:D.Site}(h:SiteIn seed j n s)(t:Int):SiteIn seed j n (kC t s):=by
 have hf:=h.find;obtain⟨l,e,hl,hn⟩:=h.acc;have ea:fQ s 0=⟨1,3,l⟩:=by unfold fQ;rw[e];rfl
 unfold kC;rw[hf,show decide ((0:Int)>=0)=true from rfl,ac,ea,show(0:Int).toNat=0 from rfl,e];have key:∃l',(nZ ⟨1,3,l⟩ t).1=⟨1,3,l'⟩/\U0 seed j l'/\l'.length=l.length:=by
  unfold nZ;cases hb: !aZ ⟨1,3,l⟩||(decide (aW ⟨1,3,l⟩ t<0)||(fJ ⟨1,3,l⟩ (aW ⟨1,3,l⟩ t)).Cut) with
  |true=>exact⟨l,rfl,hl,rfl⟩
  |false=>
   simp only[bq] at hb;obtain⟨k,hk,e1,e2⟩:=aLk (l:=l) hb.2.1;have ef:aW ⟨1,3,l⟩ t=(k:Int):=e1.trans (by simp);have ec:fJ ⟨1,3,l⟩ (k:Int)=l[k]:=by unfold fJ;simp[List.getD,ae hk]
   rw[ef,ec,ab,co];exact⟨_,rfl,hl.set hk rfl rfl (hl k hk).2.2,ax⟩
 obtain⟨l',q1,q2,q3⟩:=key;rw[q1];have:=h.aBT q2 (q3.trans hn) s.Logins s.Book (aJi h.book) rfl;exact this
def bIp {α β:Type}{P:Nat->β->Prop}{f:α->β}{l:List α}(h:∀j (hj:j<l.length),P j (f l[j])):∀j (hj:j<(l.map f).length),P j (l.map f)[j]:=λj hj=>by
 rw[fq];exact h j (by simpa using hj)
def WIn.cut {m:Nat}{w:D.World}(h:WIn m w)(b t:Int):WIn m (iH w b t).1/\(iH w b t).1.Seed=w.Seed/\(iH w b t).1.Devices.length=w.Devices.length:=by
 unfold iH;cases hq:(aI w b 0).2==0&&(!dG w b&&(!(b==t)&&kN w t)) with
 |false=>exact⟨h,rfl,rfl⟩
 |true=>
  simp only[aa] at hq;have h0:=(kR hq.1).1;simp only[ac];unfold qG;cases(mR w b t).2&&((R4 w b t).2&&(R6 w b t).2) with
  |false=>exact⟨h,rfl,rfl⟩
  |true=>
   obtain⟨s1,s2,s3,s4,s5,s6⟩:=gW w b 0;have hO:WIn m (iC w b):=h.sync b 0;have h1:WIn m (mR w b t).1:=hO.aCN _ _ _ _;obtain⟨a1,a2,a3,a4,a5,a6,a7⟩:=Yg (iC w b) b 2 (bA (aN w t).Store) (nI (aN (iC w b) b).Store);have e1:(mR w b t).1.Devices=(iC w b).Devices:=a3;have hd:aM (mR w b t).1 b=true:=aC8 h0.2 (by rw[e1];exact s3);obtain⟨d0,d1,_⟩:=Ib hd;have hst:StIn (mR w b t).1.Seed b.toNat (nH (R4 w b t).1 t true).Store:=by
    rw[aLl];unfold R4;rw[Oi];have:=h1.aBZ hd;have e2:aN (mR w b t).1 b=aN (iC w b) b:=by unfold aN;rw[e1]
    rw[e2] at this;exact this
   have hW:WIn m (R5 w b t):=by refine h1.upd rfl rfl (ax ..) rfl (h1.aBO d1 hst) (by show((mR w b t).1.Sites.map (kC t)).length=2;rw[bl];exact h1.two) (bIp (P:=λj s=>SiteIn (mR w b t).1.Seed ((j:Nat):Int) m s) λj hj=>(h1.site j hj).cut t) h1.mail h1.log
   have hdW:aM (R5 w b t) b=true:=aC8 hd (ax ..);have h3:WIn m (R6 w b t).1:=hW.up hdW;obtain⟨u1,u2,u3,u4,u5,u6⟩:=aUf (R5 w b t) b;refine⟨h3.tell 4,?_,?_⟩
   ·show(R6 w b t).1.Seed=w.Seed;exact u1.trans (a1.trans s1)
   ·show(R6 w b t).1.Devices.length=w.Devices.length;refine u3.trans ?_;show((mR w b t).1.Devices.set _ _).length=_;rw[ax,e1];exact s3
def WIn.aDK {m:Nat}{w:D.World}(h:WIn m w)(d:Int):WIn m (nR w d).1/\(nR w d).1.Seed=w.Seed/\(nR w d).1.Devices.length=w.Devices.length:=by
 unfold nR;cases eO w d 0&& !dG w d with
 |false=>exact⟨h,rfl,rfl⟩
 |true=>exact⟨h.upd rfl rfl rfl (ax ..) h.dev h.two h.site h.mail h.log,rfl,rfl⟩
def bEr {b:D.aAE}(h:BookIn b)(now:Int):BookIn (aJh b now)/\(aJh b now).Seed=b.Seed:=by unfold aJh;rw[h.ok];have hs:(b.Open.filter λc=>decide (c.Until>=now)).Sublist b.Open:=List.filter_sublist;exact⟨⟨h.next,bu hs.length_le h.len,h.ord.sublist hs,λc hc=>h.all c (hs.subset hc)⟩,rfl⟩
def WIn.tick {m:Nat}{w:D.World}(h:WIn m w):WIn m (aW8 w).1/\(aW8 w).1.Seed=w.Seed/\(aW8 w).1.Devices.length=w.Devices.length:=by
 unfold aW8;cases hw:aR (aLg w) with
 |false=>exact⟨h,rfl,rfl⟩
 |true=>
  refine⟨?_,rfl,rfl⟩;have hn:0<=(aLg w).Now/\(aLg w).Now<=999900:=by unfold aR at hw;simp only[aa] at hw;have:=jJ hw.1.1.1.1.1.1.1;exact⟨by omega,by omega⟩
  exact {
   seed:=h.seed
   now:=hn
   dlen:=h.dlen
   slen:=h.slen
   dev:=h.dev
   two:=by show(w.Sites.map _).length=2;rw[bl];exact h.two
   mle:=h.mle
   site:=bIp (P:=λj s=>SiteIn w.Seed ((j:Nat):Int) m s) λj hj=>by
    have hs:=h.site j hj;have he:=bEr (aJi hs.book) (aLg w).Now;exact hs.aBJ he.1 he.2
   mail:=h.mail
   log:=h.log}
def aZ0 (w:D.World)(d j:Int)(o:D.aAN):(lJ w d j o).1.Seed=w.Seed/\(lJ w d j o).1.Devices.length=w.Devices.length:=by
 unfold lJ;cases !eO w d j with
 |true=>exact⟨rfl,rfl⟩
 |false=>
  cases !(uH w j).2.2.2 with
  |true=>exact⟨rfl,rfl⟩
  |false=>
   cases !((aG2 w d j o).2.1==0) with
   |true=>exact⟨rfl,ax ..⟩
   |false=>exact⟨rfl,ax ..⟩
def bEs (w:D.World)(d:Int)(n:ByteArray)(a:Int)(r:Bool):(jB w d n a r).1.Seed=w.Seed/\(jB w d n a r).1.Devices.length=w.Devices.length:=by
 unfold jB;cases aR w&&aM w d with
 |false=>exact⟨rfl,rfl⟩
 |true=>
  cases(bW (aN w d) n a r).2 with
  |false=>exact⟨rfl,rfl⟩
  |true=>exact⟨rfl,ax ..⟩
def U3 {α:Type}[Inhabited α]{f:α->Nat}{K:Nat}{x:α}:∀{l:List α} {i:Nat},i<l.length->f x<=f (l.getD i default)+K->((l.set i x).map f).sum<=(l.map f).sum+K
 |y::l,0,_,h=>by
  simp only[List.getD,gA,cD] at h;simp only[List.set_cons_zero,bm,dg];omega
 |y::l,i+1,hi,h=>by
  have:=U3 (f:=f) (l:=l) (i:=i) (x:=x) (K:=K) (by simpa using hi) (by simpa[List.getD] using h);simp only[gn,bm,dg];omega
def Dw {w:D.World}{d:Int}(hd:aM w d=true){x:D.Device}{K:Nat}(hx:x.sz<=(aN w d).sz+K):({w with Devices:=w.Devices.set d.toNat x}:D.World).sz<=w.sz+K:=by obtain⟨h0,h1,h2⟩:=Ib hd;have:=U3 (f:=D.Device.sz) (K:=K) h1 (by rw[<-h2];exact hx);simp only[D.World.sz,ax] at this ⊢;omega
def aZ1 {w:D.World}{j:Nat}(hj:j<w.Sites.length){x:D.Site}{K:Nat}(hx:x.sz<=(w.Sites.getD j default).sz+K):({w with Sites:=w.Sites.set j x}:D.World).sz<=w.sz+K:=by have:=U3 (f:=D.Site.sz) (K:=K) hj hx;simp only[D.World.sz,ax] at this ⊢;omega
def WIn.aCG {m:Nat}{w:D.World}(h:WIn m w):w.aAD.Log.length<=40:=by have:=h.log;unfold bB at this;rw[aa] at this;have:=jJ this.1;omega
def aXi {m:Nat}{w:D.World}(h:WIn m w)(d b:Int):(aI w d b).1.sz<=w.sz+60:=by
 have hl:=h.aCG;unfold aI;cases hb:aR w&&aM w d with
 |false=>simp only[ab];omega
 |true=>rw[aa] at hb;simp only[ac];have:=aK7 (aN w d) w.aAD.Log w.aAD.Boxes (dI w.aAD b).1;exact Dw hb.2 (by omega)
def aXj (w:D.World)(d:Int)(n:ByteArray)(a:Int)(r:Bool):(jB w d n a r).1.sz<=w.sz+1:=by
 unfold jB;cases hb:aR w&&aM w d with
 |false=>simp only[ab];omega
 |true=>
  rw[aa] at hb;simp only[ac];cases(bW (aN w d) n a r).2 with
  |false=>simp only[ab];omega
  |true=>exact Dw hb.2 (Dk _ _ _ _)
def bIq {m:Nat}{w:D.World}(h:WIn m w)(d:Int):(dL w d).1.sz<=w.sz+561:=by
 have hl:=h.aCG;cases hp:(dL w d).2 with
 |true=>have:=(aJc hp).2;omega
 |false=>
  have e:(dL w d).1=w:=by
   unfold dL at hp ⊢;cases hc:(aI w d 0).2==0&&(Gq (aI w d 0).1 d).2 with
   |true=>rw[hc] at hp;cases hp
   |false=>rfl
  rw[e];omega
def add_add {w:D.World}(h:WIn w.Devices.length w)(b:Int):(iG w b).1.sz<=w.sz+2500:=by
 have hl:=h.aCG;unfold iG;cases hok:Q8 w b with
 |false=>simp only[ab];omega
 |true=>
  unfold Q8 at hok;simp only[aa,cq,di] at hok;obtain⟨⟨k1,k2,k3,k4⟩,k5,k6,k7,k8,k9⟩:=hok;obtain⟨s1,s2,s3,s4,s5,s6⟩:=gW w b 0;have a0:=aXi h b 0;have h0:=h.sync b 0;have h1:WIn w.Devices.length (add1 w b).1:=h0.aCN _ _ _ _;obtain⟨z1,z2,z3,z4⟩:=Q7 (aI w b 0).1 b 1 (bA (aP w.Seed (w.Devices.length:Int))) (λ_=>(aN (aI w b 0).1 b).Key);rw[s6] at z1 z2;have z1:(add1 w b).1.sz<=(aI w b 0).1.sz+14*(w.aAD.Log.length+1):=z1;have z2:(add1 w b).1.aAD.Log.length<=w.aAD.Log.length+1:=z2;have hd:aM (add1 w b).1 b=true:=aC8 k2 (by show(iF _ _ _ _ _).1.Devices.length=_;rw[z3,s3]);obtain⟨r1,r2⟩:=aC3 (st:=aP w.Seed (w.Devices.length:Int)) (n:=(w.Devices.length:Int)) (j:=0) (l:=(add1 w b).1.Sites);have e2:=h1.two;have hw2:(jQ w b).sz<=(add1 w b).1.sz+4:=by have q:=Dw (w:=(add1 w b).1) hd (x:=nH (aN (add1 w b).1 b) (w.Devices.length:Int) false) (K:=2) (aJd _ _ _);unfold jQ aK8;simp only[D.World.sz] at q ⊢;omega
  have p1:=(aJc (w:=jQ w b) (d:=b) k8).2;have p1:(oK w b).1.sz<=(jQ w b).sz+(jQ w b).aAD.Log.length+521:=p1;have pl:=(aJc (w:=jQ w b) (d:=b) k8).1;have pl:(oK w b).1.aAD.Log=(jQ w b).aAD.Log:=pl;have e3:(jQ w b).aAD.Log.length=(add1 w b).1.aAD.Log.length:=rfl;have ap:=Q9 (oK w b).1 (bQ (aP w.Seed (w.Devices.length:Int)));have nd:(bQ (aP w.Seed (w.Devices.length:Int))).sz=0:=rfl;have f1:=(kR (w:=appW (oK w b).1 (bQ (aP w.Seed (w.Devices.length:Int)))) k9).2.2.2;have f1:(zT w b).1.sz<=(appW (oK w b).1 (bQ (aP w.Seed (w.Devices.length:Int)))).sz+(oK w b).1.aAD.Log.length+20:=f1;have tl:=aT6 (zT w b).1 2;simp only[ac];rw[pl,e3] at f1;omega
def bLg {m:Nat}{w:D.World}(h:WIn m w)(b t:Int):(iH w b t).1.sz<=w.sz+2500:=by
 have hl:=h.aCG;unfold iH;cases hq:(aI w b 0).2==0&&(!dG w b&&(!(b==t)&&kN w t)) with
 |false=>simp only[ab];omega
 |true=>
  simp only[aa] at hq;obtain⟨q1,q2,q3,q4⟩:=kR hq.1;simp only[ac];unfold qG;cases(mR w b t).2&&((R4 w b t).2&&(R6 w b t).2) with
  |false=>simp only[ab];omega
  |true=>
   obtain⟨z1,z2,z3,z4⟩:=Q7 (iC w b) b 2 (bA (aN w t).Store) (nI (aN (iC w b) b).Store);have e0:(iC w b).aAD.Log=w.aAD.Log:=by show(aI w b 0).1.aAD.Log=_;rw[q2]
   rw[e0] at z1 z2;have z1:(mR w b t).1.sz<=(iC w b).sz+14*(w.aAD.Log.length+1):=z1;have z3:(mR w b t).1.Devices=(iC w b).Devices:=z3;have q4:(iC w b).sz<=w.sz+w.aAD.Log.length+20:=q4;have hd:aM (mR w b t).1 b=true:=aC8 q1.2 (by rw[z3];exact q3);have hL:(R3 w b t).length<=w.aAD.Log.length+1:=by unfold R3;have:=oJ (iC w b).aAD.Log 2 (bA (aN w t).Store) (aN (iC w b) b).Store;rw[e0] at this ⊢;exact this
   have hdev:aN (mR w b t).1 b=aN (iC w b) b:=by unfold aN;rw[z3]
   have hx:(nH (R4 w b t).1 t true).sz<=(aN (mR w b t).1 b).sz+(w.aAD.Log.length+3):=by have x1:=aJd (R4 w b t).1 t true;have x2:=aK9 (aN (iC w b) b) (R3 w b t) (nI (aN (iC w b) b).Store (R3 w b t));have x2:(R4 w b t).1.sz<=(aN (iC w b) b).sz+(R3 w b t).length:=x2;rw[hdev];omega
   have hW:(R5 w b t).sz<=(mR w b t).1.sz+(w.aAD.Log.length+3):=by have q:=Dw (w:=(mR w b t).1) hd hx;have c:=aW4 t (mR w b t).1.Sites;unfold R5;simp only[D.World.sz,bl] at q ⊢;omega
   have hdW:aM (R5 w b t) b=true:=aC8 hd (ax ..);have u:=(bMk (w:=R5 w b t) hdW).2.2;have u:(R6 w b t).1.sz<=(R5 w b t).sz+501:=u;have tl:=aT6 (R6 w b t).1 4;simp only[ac];omega
structure Kept (w v:D.World):Prop where
 wi:WIn v.Devices.length v
 seed:v.Seed=w.Seed
 sz:v.sz<=w.sz+3000
def Kept.of {w v:D.World}(h:WIn w.Devices.length v/\v.Seed=w.Seed/\v.Devices.length=w.Devices.length)(hz:v.sz<=w.sz+3000):Kept w v:=⟨by rw[h.2.2];exact h.1,h.2.1,hz⟩
def bEt (s:D.Site)(c t:Int)(x:D.aAL)(h:aD s 1=0)(h0:0<s.Accounts.length):(tO s 1 c t x).1.sz<=s.sz+1:=by
 have hb:(uF s.Book c 1 t).1.Open.length<=s.Book.Open.length:=by
  unfold uF;cases !eD s.Book||decide (dJ s.Book c<0) with
  |true=>exact aj _
  |false=>simp only[ab,au,ce,cn];omega
 have hu:∀a x z q,(nP a x z q).1.sz=a.sz:=λa x z q=>by
  unfold nP;cases !aZ a||(decide (aW a x.Handle<0)||(fJ a (aW a x.Handle)).Cut) with
  |true=>rfl
  |false=>simp only[ab,D.aAH.sz];cases kZ (fJ a (aW a x.Handle)).Public x z q (fJ a (aW a x.Handle)).Counter==0<;>cases kZ (fJ a (aW a x.Handle)).Public x z q (fJ a (aW a x.Handle)).Counter==4<;>simp
 have hs:=U3 (f:=D.aAH.sz) (K:=0) (l:=s.Accounts) (i:=0) (x:=(nP (fQ s 0) x s.Name (jR s.Book c)).1) h0 (by rw[hu];exact aj _);unfold tO;rw[h];cases !dD s||decide ((0:Int)<0) with
 |true=>exact eo _
 |false=>
  simp only[ab];cases !(uF s.Book c 1 t).2 with
  |true=>simp only[ac,D.Site.sz];omega
  |false=>
   simp only[ab];cases !Ac (fQ s 0) 3 with
   |true=>simp only[ac,D.Site.sz];omega
   |false=>
    simp only[ab];cases !((nP (fQ s 0) x s.Name (jR s.Book c)).2==0) with
    |true=>simp only[ac,D.Site.sz,show(0:Int).toNat=0 from rfl,ax];omega
    |false=>simp only[ab,D.Site.sz,show(0:Int).toNat=0 from rfl,ax,au,av,bo];omega
def bEu (s:D.Site)(i n:Int):(sS s i n).1.sz<=s.sz+1:=by
 unfold sS;cases dD s&&(!decide (aD s i<0)&&(jE s.Book i n).2.2) with
 |false=>exact eo _
 |true=>
  have hb:(jE s.Book i n).1.Open.length<=s.Book.Open.length+1:=by
   unfold jE;cases eD s.Book&&(!(s.Book.Next==1000000)&&(bF i 0 1000000&&bF n 0 1000000)) with
   |false=>simp only[ab];omega
   |true=>
    simp only[ac];cases decide ((s.Book.Open.length:Int)>=16) with
    |true=>simp only[ac,au,cn,av,bo];omega
    |false=>simp only[ab,au,av,bo];omega
  simp only[ac,D.Site.sz];omega
def bEv {m:Nat}{w:D.World}(h:WIn m w)(d j:Int)(o:D.aAN):(lJ w d j o).1.sz<=w.sz+3:=by
 unfold lJ;cases ht:eO w d j with
 |false=>simp only[dk,ac];omega
 |true=>
  have ht2:=ht;simp only[eO,aa] at ht2;have h2:=h.two;have hq:=ht2.2.2;simp only[xL,aa,bp] at hq;have hj:j.toNat<w.Sites.length:=by omega
  have es:nQ w j=w.Sites[j.toNat]:=by unfold nQ;simp[List.getD,ae hj]
  have hs:=h.site _ hj;rw[<-es,show((j.toNat:Nat):Int)=j by omega] at hs;have hb:SiteIn w.Seed j m (uH w j).1:=hs.begin 1 w.Now;have z1:(uH w j).1.sz<=(nQ w j).sz+1:=bEu _ _ _;obtain⟨l,ea,_⟩:=hb.acc;have z2:(aG2 w d j o).1.sz<=(uH w j).1.sz+1:=bEt _ _ _ _ hb.find (by rw[ea];simp);have hw:(bEc w d j o).sz<=w.sz+2:=by have q1:=Dw (w:=w) ht2.2.1 (x:={aN w d with Store:=(aO8 w d j o).1}) (K:=0) (aj _);have q2:=aZ1 (w:=w) hj (x:=(aG2 w d j o).1) (K:=2) (by show _<=(nQ w j).sz+2;omega);unfold bEc;simp only[D.World.sz] at q1 q2 ⊢;omega
  simp only[ba,ab];cases !(uH w j).2.2.2 with
  |true=>simp only[ac];omega
  |false=>
   simp only[ab];cases !((aG2 w d j o).2.1==0) with
   |true=>simp only[ac];omega
   |false=>have:=aT6 (bEc w d j o) 1;simp only[ab];omega
def aZ2 {w:D.World}(h:WIn w.Devices.length w)(d j:Int)(o:D.aAN):Kept w (lJ w d j o).1:=by obtain⟨k1,k2⟩:=aZ0 w d j o;have:=bEv h d j o;exact .of ⟨h.visit d j o,k1,k2⟩ (by omega)
def Kept.refl {w:D.World}(h:WIn w.Devices.length w):Kept w w:=⟨h,rfl,db _ _⟩
def bIr {w:D.World}(h:WIn w.Devices.length w)(b:Bool)(d j:Int)(o:D.aAN):Kept w (bif b then Hy w d j o else(w,1)).1:=by
 cases b with
 |true=>exact aZ2 h d j o
 |false=>exact .refl h
def aC9 {b:List Int}{p:Nat}{h:Int}{t:List Int}(e:b.drop p=h::t):p<b.length/\b.getD p 0=h/\b.drop (p+1)=t:=by
 have hp:p<b.length:=by have:=congrArg List.length e;rw[cn,av] at this;omega
 rw[ct hp] at e;injection e with e1 e2;exact⟨hp,by simp[List.getD,ae hp,e1],e2⟩
def split_mul (r P:Int):r*P=r/128*(P*128)+r%128*P:=by
 have h:128*(r/128)+r%128=r:=Int.mul_ediv_add_emod r 128
 conv=>lhs;rw[<-h]
 rw[Int.add_mul,ja 128,Int.mul_assoc,ja 128 P]
def bCh {b y:List Int}{p:Nat}:∀(k i:Nat) (n r:Int),b.drop (p+i)=uvE k r++y->0<=r->r<128^(k+1)->(0<i->r≠0)->0<=n->n+r*128^i<=1000000000000->
  uvG b p (k+1) i n=(n+r*128^i,((p+i+(uvE k r).length:Nat):Int),true)
 |0,i,n,r,hd,h0,h1,hi,hn,hm=>by
  obtain⟨d1,d2,d3⟩:=aC9 (show b.drop (p+i)=r::y from hd);have hr:r<128:=by simpa using h1
  unfold uvG;rw[cH d1,d2,ao hr,ac,show r%128=r by omega,aw (show ¬n+r*128^i>1000000000000 by omega),gh];have:(decide (0<i)&&r==0)=false:=by
   by_cases hz:0<i
   ·rw[cM.2 (hi hz),dl]
   ·rw[aw hz,eM]
  rw[this];rfl
 |k+1,i,n,r,hd,h0,h1,hi,hn,hm=>by
  have hp:(0:Int)<=128^i:=Int.pow_nonneg (by decide);have hs:=split_mul r (128^i);have hpow:(128:Int)^(i+1)=128^i*128:=e9 ..;unfold uvE at hd ⊢;by_cases hb:r>127
  ·rw[ao hb,ac] at hd ⊢;obtain⟨d1,d2,d3⟩:=aC9 (show b.drop (p+i)=(r%128+128)::(uvE k (r/128)++y) from hd);have hq:(r/128)<128^(k+1):=by have:(128:Int)^(k+1+1)=128^(k+1)*128:=e9 ..;omega
   have hx:0<=r%128*128^i:=jy (by omega) hp;have ih:=bCh k (i+1) (n+r%128*128^i) (r/128) (by rw[show p+(i+1)=p+i+1 by omega];exact d3) (by omega) hq (λ_=>by omega) (by omega) (by rw[hpow];omega);rw[uvG,cH d1,d2,aw (show ¬r%128+128<128 by omega),ab,show(r%128+128)%128=r%128 by omega,ih,hpow];simp only[av,cU,and_true];constructor
   ·omega
   ·congr 1;omega
  ·rw[aw hb,ab] at hd ⊢;obtain⟨d1,d2,d3⟩:=aC9 (show b.drop (p+i)=r::y from hd);unfold uvG;rw[cH d1,d2,ao (show r<128 by omega),ac,show r%128=r by omega,aw (show ¬n+r*128^i>1000000000000 by omega),gh];have:(decide (0<i)&&r==0)=false:=by
    by_cases hz:0<i
    ·rw[cM.2 (hi hz),dl]
    ·rw[aw hz,eM]
   rw[this];rfl
def bCi {x y:List Int}{n:Int}(h:0<=n/\n<=1000000000000):wK (x++(enc1 n++y)) (x.length:Int)=(n,((x.length+(enc1 n).length:Nat):Int),true):=by
 have e:=aJb h;unfold wK;rw[cX (by omega),co,e];have hp:(128:Int)^(5+1)=4398046511104:=by decide
 have:=bCh (b:=x++(uvE 5 n++y)) (y:=y) (p:=x.length) 5 0 0 n (by simp) h.1 (by omega) (λh=>by omega) (by decide) (by simp;omega);rw[this];simp
def aLm:∀(t x y s:List Int),aO6 t->jN (x++(gF t++y)) t.length (x.length:Int) s=(s++t,((x.length+(gF t).length:Nat):Int),true)
 |[],x,y,s,_=>by simp[jN,gF]
 |n::t,x,y,s,h=>by
  have hn:=h n (by simp);have hu:=bCi (x:=x) (y:=gF t++y) hn;rw[sO,cf];show jN _ (t.length+1) _ _=_;rw[jN,hu];simp only[ac];have ih:=aLm t (x++enc1 n) y (s++[n]) (λv hv=>h v (by simp[hv]));rw[au,cf] at ih;rw[ih];simp[gf]
def aLn:∀l:List D.Entry,kJ (iR l)=l/\jZ (iR l)=true
 |[]=>⟨rfl,rfl⟩
 |e::l=>by
  obtain⟨h1,h2⟩:=aLn l;have hf:iR (e::l)=aO7 e++iR l:=by simp[iR]
  rw[hf];obtain⟨s,h,v,d⟩:=e;cases d with
  |true=>exact⟨by show(⟨s,h,v,(1:Int)==1⟩:D.Entry)::kJ (iR l)=_;rw[h1];rfl,by show(decide ((1:Int)<=1)&&jZ (iR l))=true;rw[h2];rfl⟩
  |false=>exact⟨by show(⟨s,h,v,(0:Int)==1⟩:D.Entry)::kJ (iR l)=_;rw[h1];rfl,by show(decide ((0:Int)<=1)&&jZ (iR l))=true;rw[h2];rfl⟩
def bEw {b:D.aAB}(h:aK b=true):∀e∈b.Entries,(0<=e.Site/\e.Site<=2147483646)/\(0<=e.Handle/\e.Handle<=1000000)/\(1<=e.Version/\e.Version<=1000000):=λe he=>by
 unfold aK at h;rw[aa,cq] at h;obtain⟨i,hi,rfl⟩:=du.1 he;have:=aUe h.2 i hi;unfold Nu at this;simp only[bq,dv] at this;have h1:=jJ this.1;have h2:=jJ this.2.1;have h3:=jJ this.2.2.1;exact⟨⟨h1.1,by omega⟩,⟨h2.1,by omega⟩,⟨h3.1,by omega⟩⟩
def bLh {b:D.aAB}(h:aK b=true):aO6 (nX b):=λv hv=>by
 have hl:=kQ h;unfold nX at hv;rcases bz.1 hv with hv|hv
 ·rw[cz.1 hv];omega
 ·unfold iR at hv;obtain⟨e,he,hv⟩:=List.mem_flatMap.1 hv;obtain⟨h1,h2,h3⟩:=bEw h e he;unfold aO7 at hv;simp only[aE,et,or_false] at hv;rcases hv with rfl|rfl|rfl|rfl
  ·omega
  ·omega
  ·omega
  ·cases e.Deleted<;>simp
def bEx {b:D.aAB}(h:aK b=true):xN (lT b)=(b,true):=by
 have hl:=kQ h;have hv:=bLh h;have he:lT b=enc1 (b.Entries.length:Int)++gF (iR b.Entries):=by unfold lT nX;rw[h,ac];rfl
 have hu:wK (lT b) 0=((b.Entries.length:Int),(((enc1 (b.Entries.length:Int)).length:Nat):Int),true):=by have:=bCi (x:=[]) (y:=gF (iR b.Entries)) (n:=(b.Entries.length:Int)) (by omega);rw[bn,<-he] at this;simpa using this
 have hd:=aLm (iR b.Entries) (enc1 (b.Entries.length:Int)) [] [] (λv hv'=>hv v (by unfold nX;simp[hv']));rw[cY,<-he,sP,bn] at hd;have hend:(((enc1 (b.Entries.length:Int)).length+(gF (iR b.Entries)).length:Nat):Int)=((lT b).length:Int):=by rw[he,au]
 obtain⟨e1,e2⟩:=aLn b.Entries;unfold xN;rw[hu,show(4*(b.Entries.length:Int)).toNat=4*b.Entries.length by omega,hd,aw (show ¬(b.Entries.length:Int)>20 by omega)];unfold aWy;simp only[hend,e1,e2];rw[h];simp
def aJj {α β:Type}{y:Nat->α->β}:∀{l:List α} {i k:Nat} (h:k<l.length) (h2:k<(Kj (λi x=>[y i x]) i l).length),(Kj (λi x=>[y i x]) i l)[k]=y (i+k) l[k]
 |x::l,i,0,_,_=>rfl
 |x::l,i,k+1,h,h2=>by
  have:=aJj (y:=y) (l:=l) (i:=i+1) (k:=k) (by simpa using h) (by rw[qC];simpa using h);rw[show i+1+k=i+(k+1) by omega] at this;exact this
def aXk {k:Int}{d:List Int}(h:∀z∈d,0<=z/\z<=255):Kl k (jC k d)=d:=by
 apply List.ext_getElem
 ·unfold Kl jC;rw[qC,qC]
 ·intro i h1 h2;have h3:i<(jC k d).length:=by unfold jC;rw[qC];exact h2
  have e1:(Kl k (jC k d))[i]=aKu k (0+i) (jC k d)[i]:=aJj h3 h1;have e2:(jC k d)[i]=aT5 k (0+i) d[i]:=aJj h2 h3;rw[e1,e2];have hz:=h d[i] (cN h2);unfold aKu aT5;generalize bJ k [((0+i:Nat):Int)]=q;rw[IntKind.wrap_u8,IntKind.wrap_u8];omega
def bEy {k e v:Int}{b:D.aAB}(hk:bG k=true)(he:0<=e/\e<=1000000)(hv:0<=v/\v<=1000000)(hb:aK b=true):eZ k (nY k e v b)=(b,true):=by
 have hm:(nY k e v b).MAC=fZ k (nY k e v b):=by simp only[nY,fZ]
 unfold eZ;rw[hm,cI,hk,show(nY k e v b).Epoch=e from rfl,show(nY k e v b).Version=v from rfl,iT he.1 he.2,iT hv.1 hv.2];show xN (Kl (jP k e v) (jC (jP k e v) (lT b)))=(b,true);rw[aXk (Ny (Q6 b)),bEx hb]
def bIs {p e:Int}{d:List Int}(hp:bG p=true)(he:bG e=true)(hl:d.length<=200)(hd:∀z∈d,0<=z/\z<=255):eF p (gB (cK p) e d)=(d,true):=by
 have e1:(gB (cK p) e d).To=cK p:=rfl;have e2:(gB (cK p) e d).Ephemeral=e:=rfl;have e3:(gB (cK p) e d).Data=jC (fH p e) d:=by unfold gB;rw[Dq hp]
 have e4:(gB (cK p) e d).MAC=Np (fH p e) (gB (cK p) e d):=by unfold gB Np;rw[Dq hp]
 unfold eF;rw[e2,e1,e4,hp,he,e3,xO,cI,cI,aw (show ¬(d.length:Int)>200 by omega),aXk hd];rfl
def aZ3 {p:Int}{b:D.Box}(h:b.To≠cK p):(eF p b).2=false:=by unfold eF;rw[bne,cM.2 h];cases bG p<;>rfl
def aLo {p:Int}{d:List Int}(hp:bG p=true)(hl:d.length<=200)(hd:∀z∈d,0<=z/\z<=255):∀{bs:List D.Box} {k:Nat} (hk:k<bs.length),(∀j (hj:j<bs.length),j<k->bs[j].To≠cK p)->(∃e,bG e=true/\bs[k]=gB (cK p) e d)->fC bs p=(d,true)
 |b::bs,0,_,_,⟨e,he,hb⟩=>by
  have hb:b=gB (cK p) e d:=hb;rw[fC,hb,bIs hp he hl hd];rfl
 |b::bs,k+1,hk,hn,⟨e,he,hb⟩=>by
  have h0:b.To≠cK p:=hn 0 (by simp) (by omega);rw[fC,aZ3 h0,ab];exact aLo hp hl hd (by simpa using hk) (λj hj hjk=>hn (j+1) (by simpa using hj) (by omega)) ⟨e,he,hb⟩
structure BoxIn (log:List D.aAC) (bx:D.aAF) (key:Int):Prop where
 ep:bx.Epoch=aL log
 to:bx.Boxes.map (·.To)=aH log
 nd:(aH log).Nodup
 kok:bG key=true
 box:∀k (h:k<bx.Boxes.length),∃e,bG e=true/\bx.Boxes[k]=gB bx.Boxes[k].To e (gF [aL log,key])
 eps:0<=aL log/\aL log<=40
def bO4 {k:Int}(h:bG k=true):0<=k/\k<=1000000000000:=by have:=aLi h;omega
def aUh {log:List D.aAC}{bx:D.aAF}{key:Int}(h:BoxIn log bx key){s:D.aAI}(hs:bA s∈aH log):bD s bx=(key,true):=by
 obtain⟨h1,h2,h3,h4,h5,h6⟩:=h;rw[<-h2] at hs h3;obtain⟨k,hk,e⟩:=du.1 hs;have hk2:k<bx.Boxes.length:=by simpa using hk
 have e:bx.Boxes[k].To=cK (fU s):=by rw[fq] at e;rw[e];rfl
 have hd:(gF [aL log,key]).length<=12:=bCg _ _;have hf:fC bx.Boxes (fU s)=(gF [aL log,key],true):=by
  refine aLo (Yh s) (by omega) (Ya _) hk2 (λj hj hjk he=> ?_) ?_
  ·have:=dT.1 h3 j k (by simpa using hj) (by simpa using hk2) hjk;rw[fq,fq] at this;exact this (by rw[he,e])
  ·obtain⟨q,hq,hb⟩:=h5 k hk2;rw[e] at hb;exact⟨q,hq,hb⟩
 have hdec:gT (gF [aL log,key]) 0 2=([aL log,key],((gF [aL log,key]).length:Int),true):=by
  have:=aLm [aL log,key] [] [] [] (λv hv=>by
   simp only[aE,et,or_false] at hv;rcases hv with rfl|rfl
   ·omega
   ·exact bO4 h4)
  simp only[bn,cY,bo,ca] at this;unfold gT;rw[show bF 2 0 100=true from rfl,iT (by omega) (by omega)];exact this
 unfold bD Ht;rw[hf,hdec];show(bif !true||(!true||(((gF [aL log,key]).length:Int) !=((gF [aL log,key]).length:Int)||(aL log !=bx.Epoch|| !bG key))) then(0,false) else(key,true))=(key,true);rw[cI,h1,cI,h4];rfl
def aXl (log:List D.aAC):cO log []=true:=by unfold cO;simp[fO]
def bIt {seed:Int}{n:Nat}(h0:1<=n)(hn:n<=6):BoxIn (aT seed n) (eX seed n) (bP seed 0):=by
 obtain⟨h1,h2,h3,h4,h5⟩:=Du seed n hn;have hl:bB (aT seed n)=true:=h5.resolve_left (by omega);have hlen:(aH (aT seed n)).length<=1000:=by rw[h2,bl,fS];omega
 have hk:bG (bP seed 0)=true:=by unfold bP;exact gZ _ _
 obtain⟨m1,m2,m3,m4⟩:=aSn (key:=bP seed 0) (eph:=1000) hl hk (λp hp=>by
  rw[h2] at hp;obtain⟨i,_,rfl⟩:=cj.1 hp;exact aXe _ _) hlen ⟨by decide,by decide⟩
 have hnd:(aH (aT seed n)).Nodup:=by rw[h2];exact aXf hn
 refine⟨m2,m3,hnd,hk,λk hk'=> ?_,by rw[h4];exact⟨by decide,by decide⟩⟩;have hlb:(eX seed n).Boxes.length=(aH (aT seed n)).length:=by have:=congrArg List.length m3;rw[bl] at this;exact this
 have hk2:k<(aH (aT seed n)).length:=by omega
 have hb:=m4 k hk' hk2;have hto:(eX seed n).Boxes[k].To=(aH (aT seed n))[k]:=by show(bC (aT seed n) (bP seed 0) 1000).1.Boxes[k].To=_;rw[hb];rfl
 refine⟨1000+(k:Int),iT (by omega) (by omega),?_⟩;rw[hto];exact hb
def nwB:Nat->D.aAB
 |1=>⟨[⟨1464438180,0,1,false⟩,⟨1941999745,0,1,false⟩]⟩
 |2=>⟨[⟨1464438180,0,1,false⟩,⟨1464438180,1,1,false⟩,⟨1941999745,0,1,false⟩,⟨1941999745,1,1,false⟩]⟩
 |3=>⟨[⟨1464438180,0,1,false⟩,⟨1464438180,1,1,false⟩,⟨1464438180,2,1,false⟩,⟨1941999745,0,1,false⟩,⟨1941999745,1,1,false⟩,⟨1941999745,2,1,false⟩]⟩
 |_=>⟨[]⟩
def aXm (seed:Int)(n k:Nat)(v:Int)(b:D.aAB):D.Device:=⟨aP seed (k:Int),aT seed n,bP seed 0,0,v,b⟩
def bO5 {seed:Int}{n:Nat}(h0:1<=n)(hn:n<=6)(k:Nat):uI seed n (bQ (aP seed (k:Int)))=aXm seed n k 0 ⟨[]⟩:=by
 obtain⟨h1,h2,h3,h4,h5⟩:=Du seed n hn;have hl:bB (aT seed n)=true:=h5.resolve_left (by omega);have hk:bG (bP seed 0)=true:=by unfold bP;exact gZ _ _
 unfold uI mQ bQ;rw[hl,aXl,hk,h4];rfl
def bQm {n:Nat}(h:n=1\/n=2\/n=3)(s:D.aAI)(l:List D.aAC)(k e v:Int):Dp (aA 1) n (Dp (aA 0) n ⟨s,l,k,e,v,⟨[]⟩⟩)=⟨s,l,k,e,v,nwB n⟩:=by rcases h with rfl|rfl|rfl<;>kernel_rfl
def bO6 {n:Nat}(h:n=1\/n=2\/n=3):aK (nwB n)=true/\dX ⟨[]⟩ (nwB n)=(nwB n,true)/\dX (nwB n) (nwB n)=(nwB n,true):=by rcases h with rfl|rfl|rfl<;>exact⟨by kernel_rfl,by kernel_rfl,by kernel_rfl⟩
def bEz {seed:Int}{n:Nat}(h:n=1\/n=2\/n=3):kD seed n=aXm seed n 0 0 (nwB n):=by unfold kD;rw[show(0:Int)=((0:Nat):Int) from rfl,bO5 (by omega) (by omega)];exact bQm h _ _ _ _ _
def bQn {seed:Int}{n:Nat}(h:n=1\/n=2\/n=3):nwW seed n=(aXm seed n 0 1 (nwB n),nY (bP seed 0) 0 1 (nwB n),true):=by
 have hk:bG (bP seed 0)=true:=by unfold bP;exact gZ _ _
 unfold nwW;rw[bEz h];unfold bN jD aXm;simp only[];rw[show IntKind.i64.wrap (0+1)=1 from by decide,hk,(bO6 h).1];rfl
def aSo {seed:Int}{n:Nat}(h:n=1\/n=2\/n=3):gV seed n=⟨aT seed n,eX seed n,[nY (bP seed 0) 0 1 (nwB n)]⟩:=by
 obtain⟨h1,h2,_⟩:=Yi (seed:=seed) (n:=n) (by omega) (by omega);have h4:=(Du seed n (by omega)).ep;have e:dE (aT seed n) (eX seed n)=(⟨aT seed n,eX seed n,[]⟩,true):=by unfold dE;rw[h1,h2];rfl
 unfold gV;rw[e,bQn h];show(bO ⟨aT seed n,eX seed n,[]⟩ (nY (bP seed 0) 0 1 (nwB n))).1=_;unfold bO;rw[show(nY (bP seed 0) 0 1 (nwB n)).Epoch=0 from rfl,h4];rfl
def bIu (w:D.World)(d:Int):(nR w d).1.sz=w.sz:=by
 unfold nR;cases eO w d 0&& !dG w d with
 |false=>rfl
 |true=>simp only[ac,D.World.sz,ax]
structure KeptH (w v:D.World):Prop where
 kept:Kept w v
 hosts:v.Hosts.length<=w.Hosts.length
def KeptH.of {w v:D.World}(h:Kept w v)(e:v.Hosts=w.Hosts):KeptH w v:=⟨h,by rw[e];exact aj _⟩
def same (s h:Int)(e:D.Entry):Bool:=e.Site==s&&e.Handle==h
def lk (l:List D.Entry)(s h:Int):Option D.Entry:=l.find? (same s h)
def bIv:Option D.Entry->Option D.Entry->Option D.Entry
 |none,y=>y
 |some e,none=>some e
 |some e,some x=>some (nW e x)
def same_iff {s h:Int}{e:D.Entry}:same s h e=true↔e.Site=s/\e.Handle=h:=by simp[same]
def wW (e:D.Entry):same e.Site e.Handle e=true:=same_iff.2 ⟨rfl,rfl⟩
def Sw {a b:D.Entry}(h:dF a b=true):¬(a.Site=b.Site/\a.Handle=b.Handle):=by rw[pJ] at h;omega
def aZ4 {a b:D.Entry}(h:dF a b=true):dF b a=false:=by rw[fi,Ne,pJ];rw[pJ] at h;omega
def pO:∀(n:Nat) {a b:List D.Entry} {e:D.Entry},a.length+b.length<=n->e∈bM a b->e∈a\/e∈b
 |_,[],b,e,_,h=>by rw[gY] at h;exact .inr h
 |_,a::xs,[],e,_,h=>by rw[dQ] at h;exact .inl h
 |0,a::xs,b::bs,e,h,_=>by simp at h
 |n+1,a::xs,b::bs,e,hn,h=>by
  simp only[av] at hn;rw[sN] at h;cases h1:dF a b with
  |true=>
   rw[h1,ac] at h;rcases aE.1 h with rfl|h
   ·exact .inl (de ..)
   ·rcases pO n (by simp only[av];omega) h with h|h
    ·exact .inl (da _ h)
    ·exact .inr h
  |false=>
   rw[h1,ab] at h;cases h2:dF b a with
   |true=>
    rw[h2,ac] at h;rcases aE.1 h with rfl|h
    ·exact .inr (de ..)
    ·rcases pO n (by simp only[av];omega) h with h|h
     ·exact .inl h
     ·exact .inr (da _ h)
   |false=>
    rw[h2,ab] at h;rcases aE.1 h with rfl|h
    ·rcases bBy a b with e|e
     ·rw[e];exact .inl (de ..)
     ·rw[e];exact .inr (de ..)
    ·rcases pO n (by omega) h with h|h
     ·exact .inl (da _ h)
     ·exact .inr (da _ h)
def Sy:∀(n:Nat) {a b:List D.Entry},a.length+b.length<=n->K6 a->K6 b->K6 (bM a b)
 |_,[],b,_,_,h=>by rw[gY];exact h
 |_,a::xs,[],_,h,_=>by rw[dQ];exact h
 |0,a::xs,b::bs,h,_,_=>by simp at h
 |n+1,a::xs,b::bs,hn,ha,hb=>by
  simp only[av] at hn;obtain⟨a1,a2⟩:=cm.1 ha;obtain⟨b1,b2⟩:=cm.1 hb;rw[sN];cases h1:dF a b with
  |true=>
   rw[ac];refine cm.2 ⟨λy hy=> ?_,Sy n (by simp only[av];omega) a2 hb⟩;rcases pO _ (aj _) hy with hy|hy
   ·exact a1 y hy
   ·rcases aE.1 hy with rfl|hy
    ·exact h1
    ·exact mM h1 (b1 y hy)
  |false=>
   rw[ab];cases h2:dF b a with
   |true=>
    rw[ac];refine cm.2 ⟨λy hy=> ?_,Sy n (by simp only[av];omega) ha b2⟩;rcases pO _ (aj _) hy with hy|hy
    ·rcases aE.1 hy with rfl|hy
     ·exact h2
     ·exact mM h2 (a1 y hy)
    ·exact b1 y hy
   |false=>
    rw[ab];have hk:=xM h1 h2;have hp:=P8 hk;refine cm.2 ⟨λy hy=> ?_,Sy n (by omega) a2 b2⟩;rw[wQ hp];rcases pO _ (aj _) hy with hy|hy
    ·rw[<-wQ hk];exact a1 y hy
    ·exact b1 y hy
def lU (a:D.Entry)(l:List D.Entry)(s h:Int):lk (a::l) s h=bif same s h a then some a else lk l s h:=by unfold lk;rw[List.find?_cons];cases same s h a<;>rfl
def U4 {l:List D.Entry}{s h:Int}(hl:∀e∈l,same s h e=false):lk l s h=none:=by unfold lk;rw[List.find?_eq_none];intro x hx;rw[hl x hx];exact eL
def Oj {l:List D.Entry}{s h:Int}{e:D.Entry}(hl:lk l s h=some e):e∈l/\e.Site=s/\e.Handle=h:=by unfold lk at hl;exact⟨List.mem_of_find?_eq_some hl,same_iff.1 (List.find?_some hl)⟩
def aUi {a:D.Entry}{l:List D.Entry}(hs:K6 (a::l)){s h:Int}(ha:same s h a=true):∀e∈l,same s h e=false:=λe he=>by
 have:=Sw ((cm.1 hs).1 e he);rw[fi,Ne,same_iff];have h2:=same_iff.1 ha;exact λq=>this ⟨h2.1.trans q.1.symm,h2.2.trans q.2.symm⟩
def bIw {l:List D.Entry}(hs:K6 l){e:D.Entry}(he:e∈l):lk l e.Site e.Handle=some e:=by
 induction l with
 |nil=>simp at he
 |cons a l ih=>
  rw[lU];rcases aE.1 he with rfl|he
  ·rw[wW];rfl
  ·cases hq:same e.Site e.Handle a with
   |true=>have:=aUi hs hq e he;rw[wW] at this;cases this
   |false=>exact ih (cm.1 hs).2 he
def bIx:∀{a b:List D.Entry},K6 a->K6 b->(∀s h,lk a s h=lk b s h)->a=b
 |[],[],_,_,_=>rfl
 |[],b::bs,_,_,h=>by have:=h b.Site b.Handle;rw[lU,wW] at this;cases this
 |a::xs,[],_,_,h=>by have:=h a.Site a.Handle;rw[lU,wW] at this;cases this
 |a::xs,b::bs,ha,hb,h=>by
  have hab:a=b:=by
   have h1:=h a.Site a.Handle;have h2:=h b.Site b.Handle;rw[lU,wW,ac] at h1;rw[lU b,wW,ac] at h2;have m1:=(Oj h1.symm).1;have m2:=(Oj h2).1;rcases aE.1 m1 with e|m1
   ·exact e
   ·rcases aE.1 m2 with e|m2
    ·exact e.symm
    ·have q1:=(cm.1 hb).1 a m1;have q2:=(cm.1 ha).1 b m2;rw[aZ4 q1] at q2;cases q2
  subst hab;congr 1;refine bIx (cm.1 ha).2 (cm.1 hb).2 λs h'=> ?_
  have:=h s h';rw[lU,lU] at this;cases hq:same s h' a with
  |true=>rw[U4 (aUi ha hq),U4 (aUi hb hq)]
  |false=>rw[hq] at this;exact this
def bE0 {a b:D.Entry}(hk:a.Site=b.Site/\a.Handle=b.Handle)(s h:Int):same s h (nW a b)=same s h b:=by have:=P8 hk;unfold same;rw[this.1,this.2]
def U5:∀(n:Nat) {a b:List D.Entry},a.length+b.length<=n->K6 a->K6 b->∀s h,lk (bM a b) s h=bIv (lk a s h) (lk b s h)
 |_,[],b,_,_,_,s,h=>by rw[gY];rfl
 |_,a::xs,[],_,_,_,s,h=>by
  rw[dQ];show _=bIv (lk (a::xs) s h) none;cases lk (a::xs) s h<;>rfl
 |0,a::xs,b::bs,h,_,_,_,_=>by simp at h
 |n+1,a::xs,b::bs,hn,ha,hb,s,h=>by
  simp only[av] at hn;obtain⟨a1,a2⟩:=cm.1 ha;obtain⟨b1,b2⟩:=cm.1 hb;rw[sN];cases h1:dF a b with
  |true=>
   rw[ac,lU,lU a xs,U5 n (by simp only[av];omega) a2 hb];cases hq:same s h a with
   |false=>rfl
   |true=>
    have hno:lk (b::bs) s h=none:=U4 λe he=>by
     have he:dF a e=true:=by
      rcases aE.1 he with rfl|he
      ·exact h1
      ·exact mM h1 (b1 e he)
     have:=Sw he;have h2:=same_iff.1 hq;rw[fi,Ne,same_iff];exact λq=>this ⟨h2.1.trans q.1.symm,h2.2.trans q.2.symm⟩
    rw[hno];rfl
  |false=>
   rw[ab];cases h2:dF b a with
   |true=>
    rw[ac,lU,lU b bs,U5 n (by simp only[av];omega) ha b2];cases hq:same s h b with
    |false=>rfl
    |true=>
     have hno:lk (a::xs) s h=none:=U4 λe he=>by
      have he:dF b e=true:=by
       rcases aE.1 he with rfl|he
       ·exact h2
       ·exact mM h2 (a1 e he)
      have:=Sw he;have h2:=same_iff.1 hq;rw[fi,Ne,same_iff];exact λq=>this ⟨h2.1.trans q.1.symm,h2.2.trans q.2.symm⟩
     rw[hno];rfl
   |false=>
    have hk:=xM h1 h2;rw[ab,lU,lU a xs,lU b bs,U5 n (by omega) a2 b2,bE0 hk];have:same s h a=same s h b:=by unfold same;rw[hk.1,hk.2]
    rw[this];cases same s h b<;>rfl
def lkM {a b:List D.Entry}(ha:K6 a)(hb:K6 b)(s h:Int):lk (bM a b) s h=bIv (lk a s h) (lk b s h):=U5 _ (aj _) ha hb s h
def bO7 {a b:List D.Entry}(ha:K6 a)(hb:K6 b):K6 (bM a b):=Sy _ (aj _) ha hb
def rk (e:D.Entry):Int:=2*e.Version+(bif e.Deleted then 1 else 0)
def bQo {x e:D.Entry}(hk:x.Site=e.Site/\x.Handle=e.Handle)(h:rk x=rk e):x=e:=by obtain⟨s,hh,v,d⟩:=x;obtain⟨s2,h2,v2,d2⟩:=e;simp only[rk] at h hk;obtain⟨rfl,rfl⟩:=hk;cases d<;>cases d2<;>simp at h ⊢<;>omega
def aXn {x e:D.Entry}:nO x e=true↔rk e<rk x\/(rk e=rk x/\x.Deleted=true):=by unfold nO rk;simp only[cr,aa,bp,cG];cases x.Deleted<;>cases e.Deleted<;>simp only[ac,ab,Bool.false_eq_true,and_false,and_true,or_false]<;>omega
def bCj {e x:D.Entry}(hk:x.Site=e.Site/\x.Handle=e.Handle):nW e x=if rk e<rk x then x else e:=by
 unfold nW;by_cases h:rk e<rk x
 ·rw[cH h,aXn.2 (.inl h)];rfl
 ·rw[cX h];cases hn:nO x e with
  |false=>rfl
  |true=>
   rcases aXn.1 hn with q|q
   ·exact absurd q h
   ·exact bQo hk q.1.symm
def Sub (a b:List D.Entry):Prop:=∀e∈a,∃x∈b,x.Site=e.Site/\x.Handle=e.Handle/\rk e<=rk x
def Sub.refl (a:List D.Entry):Sub a a:=λe he=>⟨e,he,rfl,rfl,dt _⟩
def Sub.trans {a b c:List D.Entry}(h:Sub a b)(k:Sub b c):Sub a c:=λe he=>by
 obtain⟨x,hx,x1,x2,x3⟩:=h e he;obtain⟨y,hy,y1,y2,y3⟩:=k x hx;exact⟨y,hy,y1.trans x1,y2.trans x2,fa x3 y3⟩
def Sub.nil (b:List D.Entry):Sub [] b:=λe he=>by simp at he
def Sub.merge {a b:List D.Entry}(ha:K6 a)(hb:K6 b)(h:Sub a b):bM b a=b:=by
 refine bIx (bO7 hb ha) hb λs h'=> ?_;rw[lkM hb ha];cases hq:lk a s h' with
 |none=>cases lk b s h'<;>rfl
 |some e=>
  obtain⟨m1,m2,m3⟩:=Oj hq;obtain⟨x,hx,x1,x2,x3⟩:=h e m1;have hx2:lk b s h'=some x:=by have:=bIw hb hx;rw[x1,x2,m2,m3] at this;exact this
  rw[hx2];show some (nW x e)=some x;rw[bCj ⟨x1.symm,x2.symm⟩,cX (by omega)]
def Sub.left {a b:List D.Entry}(ha:K6 a)(hb:K6 b):Sub a (bM a b):=λe he=>by
 have h1:=lkM ha hb e.Site e.Handle;rw[bIw ha he] at h1;cases hq:lk b e.Site e.Handle with
 |none=>rw[hq] at h1;exact⟨e,(Oj h1).1,rfl,rfl,dt _⟩
 |some x=>rw[hq] at h1;obtain⟨m1,m2,m3⟩:=Oj h1;obtain⟨_,q2,q3⟩:=Oj hq;refine⟨_,m1,m2,m3,?_⟩;rw[bCj ⟨q2,q3⟩];split<;>omega
def bIy {α:Type}[BEq α][LawfulBEq α]:∀{l S:List α},l.Nodup->(∀x∈l,x∈S)->l.length<=S.length
 |[],S,_,_=>by simp
 |x::l,S,hn,hs=>by
  obtain⟨h1,h2⟩:=cw.1 hn;have hx:=hs x (de ..);have:=bIy (l:=l) (S:=S.erase x) h2 λy hy=>by
   have hne:y≠x:=λe=>h1 (e▸hy);exact(List.mem_erase_of_ne hne).2 (hs y (da _ hy))
  rw[List.length_erase_of_mem hx] at this;have:0<S.length:=List.length_pos_of_mem hx;simp only[av];omega
structure KeyS (S:List (Int×Int)):Prop where
 len:S.length<=20
 rg:∀p∈S,(0<=p.1/\p.1<=2147483646)/\(0<=p.2/\p.2<=1000000)
structure BunIn (S:List (Int×Int)) (V:Int) (b:List D.Entry):Prop where
 st:K6 b
 key:∀e∈b,(e.Site,e.Handle)∈S
 ver:∀e∈b,1<=e.Version/\e.Version<=V
def BunIn.mono {S:List (Int×Int)}{V W:Int}{b:List D.Entry}(h:BunIn S V b)(hv:V<=W):BunIn S W b:=⟨h.st,h.key,λe he=>⟨(h.ver e he).1,fa (h.ver e he).2 hv⟩⟩
def BunIn.nil (S:List (Int×Int))(V:Int):BunIn S V []:=⟨List.Pairwise.nil,λe he=>by simp at he,λe he=>by simp at he⟩
def BunIn.len {S:List (Int×Int)}{V:Int}{b:List D.Entry}(h:BunIn S V b):b.length<=S.length:=by
 have hn:(b.map λe=>(e.Site,e.Handle)).Nodup:=by rw[jr,gr];exact h.st.imp λ{a b} hk (e:(a.Site,a.Handle)=(b.Site,b.Handle))=>Sw hk ⟨congrArg Prod.fst e,congrArg Prod.snd e⟩
 have:=bIy hn λp hp=>by
  obtain⟨e,he,rfl⟩:=cj.1 hp;exact h.key e he
 rwa [bl] at this
def BunIn.ok {S:List (Int×Int)}{V:Int}{b:List D.Entry}(hS:KeyS S)(hV:V<=1000000)(h:BunIn S V b):aK ⟨b⟩=true:=by
 have hl:=h.len;have:=hS.len;unfold aK;rw[ao (show((⟨b⟩:D.aAB).Entries.length:Int)<=20 by show(b.length:Int)<=20;omega),cW,cq];refine aC6 λk hk=> ?_;have hk:k<b.length:=hk;show Nu b (0+k) b[k]=false;have hm:=cN hk;have r:=hS.rg _ (h.key _ hm);have v:=h.ver _ hm;unfold Nu;rw[iT r.1.1 r.1.2,iT r.2.1 r.2.2,iT v.1 (by omega)];simp only[ba,cL,ca];by_cases h0:0<k
 ·have:b.getD (k-1) default=b[k-1]'(by omega):=by rw[List.getD,ae (by omega),cD]
  rw[this,dT.1 h.st (k-1) k (by omega) hk (by omega)];simp
 ·rw[aw (by omega)];rfl
def BunIn.merge {S:List (Int×Int)}{V:Int}{a b:List D.Entry}(ha:BunIn S V a)(hb:BunIn S V b):BunIn S V (bM a b):=
 ⟨bO7 ha.st hb.st,λe he=>(pO _ (aj _) he).elim (ha.key e) (hb.key e),λe he=>(pO _ (aj _) he).elim (ha.ver e) (hb.ver e)⟩
def bE1 {S:List (Int×Int)}{V:Int}{a b:D.aAB}(hS:KeyS S)(hV:V<=1000000)(ha:BunIn S V a.Entries)(hb:BunIn S V b.Entries):dX a b=(⟨bM a.Entries b.Entries⟩,true):=by unfold dX;rw[show aK a=true from ha.ok hS hV,show aK b=true from hb.ok hS hV,(ha.merge hb).ok hS hV];rfl
def aJk {l:List D.Entry}(hs:K6 l)(s h:Int):(aG ⟨l⟩ s h<0/\lk l s h=none)\/(0<=aG ⟨l⟩ s h/\∃e,lk l s h=some e/\l.getD (aG ⟨l⟩ s h).toNat default=e/\(aG ⟨l⟩ s h).toNat<l.length):=by
 by_cases hf:aG ⟨l⟩ s h<0
 ·exact .inl ⟨hf,U4 λe he=>aK0 (p:=same s h) hf e he⟩
 ·refine .inr ⟨by omega,?_⟩;obtain⟨l1,e,l2,e1,e2,e3⟩:=Sq (p:=same s h) (l:=l) (i:=0) (by show 0<=aG ⟨l⟩ s h;omega);have e3:aG ⟨l⟩ s h=((0+l1.length:Nat):Int):=e3;have hm:e∈l:=by rw[e1];simp
  have:=bIw hs hm;have h2:=same_iff.1 e2;rw[h2.1,h2.2] at this;refine⟨e,this,?_,?_⟩
  ·rw[e3,e1];simp
  ·rw[e3,e1];simp
def bIz {x e:D.Entry}(h:x.Version>e.Version):nO x e=true:=by unfold nO;rw[ao h];rfl
def aSp {l:List D.Entry}(hs:K6 l){x:D.Entry}(h:∀e,lk l x.Site x.Handle=some e->x.Version>e.Version):(nE ⟨l⟩ x).Entries=bM l [x]:=by
 rw[<-aWo hs];rcases aJk hs x.Site x.Handle with⟨h1,h2⟩|⟨h1,e,h2,h3,h4⟩
 ·rw[ao h1];rfl
 ·rw[h3,bIz (h e h2),jc];rfl
def bO8 (x:D.Entry):K6 [x]:=cm.2 ⟨λy hy=>by simp at hy,List.Pairwise.nil⟩
def BunIn.one {S:List (Int×Int)}{V:Int}{x:D.Entry}(hk:(x.Site,x.Handle)∈S)(hv:1<=x.Version/\x.Version<=V):BunIn S V [x]:=
 ⟨bO8 x,λe he=>by rw[cz.1 he];exact hk,λe he=>by rw[cz.1 he];exact hv⟩
def Jd (l:List D.Entry)(s h:Int):Bool:=match lk l s h with|some e=> !e.Deleted|none=>false
def aBE (l:List D.Entry)(s h:Int):Int:=match lk l s h with|some e=>e.Version|none=>0
def BunIn.aBE {S:List (Int×Int)}{V:Int}{l:List D.Entry}(h:BunIn S V l)(hV:0<=V)(s q:Int):0<=aBE l s q/\aBE l s q<=V:=by
 unfold VK.aBE;cases hq:lk l s q with
 |none=>exact⟨dt _,hV⟩
 |some e=>have:=h.ver e (Oj hq).1;show 0<=e.Version/\e.Version<=V;omega
def bO9 {S:List (Int×Int)}{V:Int}(hS:KeyS S)(hV:0<=V/\V<1000000){b:D.aAB}(h:BunIn S V b.Entries){s q:Int}(hk:(s,q)∈S):
  Xx b s q=bif Jd b.Entries s q then(b,false) else(⟨bM b.Entries [⟨s,q,aBE b.Entries s q+1,false⟩]⟩,true):=by
 obtain⟨l⟩:=b;have h:BunIn S V l:=h;have hv:=h.aBE hV.1 s q;have hpv:(aG ⟨l⟩ s q<0->lk l s q=none)/\nG ⟨l⟩ s q=⟨s,q,aBE l s q+1,false⟩:=by
  unfold nG bD6;rcases aJk h.st s q with⟨h1,h2⟩|⟨h1,e,h2,h3,h4⟩
  ·refine⟨λ_=>h2,?_⟩;rw[aw (by omega)];unfold aBE;rw[h2];rfl
  ·refine⟨λh0=>by omega,?_⟩;have hve:aBE l s q=e.Version:=by unfold aBE;rw[h2]
   show(⟨s,q,bif decide (aG ⟨l⟩ s q>=0) then IntKind.i64.wrap ((l.getD (aG ⟨l⟩ s q).toNat default).Version+1) else 1,false⟩:D.Entry)=_;rw[ao h1,h3,ac,hve,aJ (by omega) (by omega)]
 have hset:(nE ⟨l⟩ (nG ⟨l⟩ s q))=⟨bM l [⟨s,q,aBE l s q+1,false⟩]⟩:=by
  rw[hpv.2];have:(nE ⟨l⟩ ⟨s,q,aBE l s q+1,false⟩).Entries=bM l [⟨s,q,aBE l s q+1,false⟩]:=aSp h.st λe he=>by
   have:aBE l s q=e.Version:=by unfold aBE;rw[show lk l s q=some e from he]
   show aBE l s q+1>e.Version;omega
  rw[<-this]
 have hok:aK ⟨bM l [⟨s,q,aBE l s q+1,false⟩]⟩=true:=((h.mono (W:=V+1) (by omega)).merge (.one (x:=⟨s,q,aBE l s q+1,false⟩) hk ⟨by show 1<=aBE l s q+1;omega,by show aBE l s q+1<=V+1;omega⟩)).ok hS (by omega);unfold Xx;rw[hset,hok,h.ok hS (by omega)];rcases aJk h.st s q with⟨h1,h2⟩|⟨h1,e,h2,h3,h4⟩
 ·rw[aw (show ¬aG ⟨l⟩ s q>=0 by omega)];unfold Jd;rw[h2];rfl
 ·rw[ao (show aG ⟨l⟩ s q>=0 from h1)];show(bif !(true&& !(l.getD (aG ⟨l⟩ s q).toNat default).Deleted)&&(true&&true) then _ else _)=_;have hl:Jd l s q= !e.Deleted:=by unfold Jd;rw[h2]
  show _=bif Jd l s q then _ else _;rw[h3,hl];cases e.Deleted<;>rfl
def bPa {S:List (Int×Int)}{V:Int}(hS:KeyS S)(hV:0<=V/\V<1000000){b:D.aAB}(h:BunIn S V b.Entries){s q:Int}:
  Xz b s q=bif Jd b.Entries s q then(⟨bM b.Entries [⟨s,q,aBE b.Entries s q+1,true⟩]⟩,true) else(b,false):=by
 obtain⟨l⟩:=b;have h:BunIn S V l:=h;have hv:=h.aBE hV.1 s q;unfold Xz;rw[h.ok hS (by omega)];rcases aJk h.st s q with⟨h1,h2⟩|⟨h1,e,h2,h3,h4⟩
 ·rw[ao (show aG ⟨l⟩ s q<0 by omega)];unfold Jd;rw[h2];rfl
 ·have hve:aBE l s q=e.Version:=by unfold aBE;rw[h2]
  have he:=h.ver e (Oj h2).1;have hd:Xy ⟨l⟩ s q=⟨s,q,aBE l s q+1,true⟩:=by unfold Xy;show(⟨s,q,IntKind.i64.wrap ((l.getD (aG ⟨l⟩ s q).toNat default).Version+1),true⟩:D.Entry)=_;rw[h3,hve,aJ (by omega) (by omega)]
  have hset:(nE ⟨l⟩ (Xy ⟨l⟩ s q))=⟨bM l [⟨s,q,aBE l s q+1,true⟩]⟩:=by
   rw[hd];have:(nE ⟨l⟩ ⟨s,q,aBE l s q+1,true⟩).Entries=bM l [⟨s,q,aBE l s q+1,true⟩]:=aSp h.st λe' he'=>by
    have:aBE l s q=e'.Version:=by unfold aBE;rw[show lk l s q=some e' from he']
    show aBE l s q+1>e'.Version;omega
   rw[<-this]
  rw[hset,aw (show ¬aG ⟨l⟩ s q<0 by omega)];show(bif !true||(false||((l.getD (aG ⟨l⟩ s q).toNat default).Deleted||(l.getD (aG ⟨l⟩ s q).toNat default).Version==1000000)) then _ else _)=_;have hl:Jd l s q= !e.Deleted:=by unfold Jd;rw[h2]
  show _=bif Jd l s q then _ else _;rw[h3,cM.2 (show e.Version≠1000000 by omega),hl];cases e.Deleted<;>rfl
structure ChgIn (S:List (Int×Int)) (V:Int) (d x:D.Device):Prop where
 store:x.Store=d.Store
 log:x.Log=d.Log
 key:x.Key=d.Key
 ep:x.Epoch=d.Epoch
 ver:x.Version=d.Version
 bun:BunIn S V x.aAB.Entries
 sub:Sub d.aAB.Entries x.aAB.Entries
def ChgIn.rfl' {S:List (Int×Int)}{V W:Int}{d:D.Device}(h:BunIn S V d.aAB.Entries)(hv:V<=W):ChgIn S W d d:=⟨rfl,rfl,rfl,rfl,rfl,h.mono hv, .refl _⟩
def ChgIn.trans {S:List (Int×Int)}{V W:Int}{a b c:D.Device}(h:ChgIn S V a b)(k:ChgIn S W b c):ChgIn S W a c:=
 ⟨k.store.trans h.store,k.log.trans h.log,k.key.trans h.key,k.ep.trans h.ep,k.ver.trans h.ver,k.bun,h.sub.trans k.sub⟩
def bE2 {S:List (Int×Int)}{V:Int}(hS:KeyS S)(hV:0<=V/\V<1000000){d:D.Device}(h:BunIn S V d.aAB.Entries){n:ByteArray}{q:Int}(hk:(bH n,q)∈S)(rm:Bool):ChgIn S (V+1) d (bW d n q rm).1:=by
 have hv:=h.aBE hV.1 (bH n) q;unfold bW oH;have one:∀f,BunIn S (V+1) (bM d.aAB.Entries [⟨bH n,q,aBE d.aAB.Entries (bH n) q+1,f⟩]):=λf=>(h.mono (by omega)).merge (.one hk ⟨by show 1<=aBE _ _ _+1;omega,by show aBE _ _ _+1<=V+1;omega⟩);cases rm with
 |true=>
  rw[ac,bPa hS hV h];cases Jd d.aAB.Entries (bH n) q with
  |true=>exact⟨rfl,rfl,rfl,rfl,rfl,one _, .left h.st (bO8 _)⟩
  |false=>exact .rfl' h (by omega)
 |false=>
  rw[ab,bO9 hS hV h hk];cases Jd d.aAB.Entries (bH n) q with
  |false=>exact⟨rfl,rfl,rfl,rfl,rfl,one _, .left h.st (bO8 _)⟩
  |true=>exact .rfl' h (by omega)
end Go.VK
set_option maxRecDepth 100000
namespace Go.VK
structure Dv (S:List (Int×Int)) (T:Int) (log:List D.aAC) (K ep v:Int) (d:D.Device):Prop where
 pre:∃r,log=d.Log++r
 at_:d.Epoch<ep\/(d.Epoch=ep/\d.Version<=v)
 key:d.Epoch=ep->d.Key=K
 bun:BunIn S T d.aAB.Entries
structure Hs (S:List (Int×Int)) (T:Int) (K ep v:Int) (s:D.aAA):Prop where
 low:s.Epoch<=ep
 own:s.Epoch=ep->∃v' b',s=nY K ep v' b'/\0<=v'/\v'<=v/\BunIn S T b'.Entries
structure Net (S:List (Int×Int)) (t m:Nat) (w:D.World) (K v:Int) (r:List D.aAA) (b:D.aAB):Prop where
 wi:WIn m w
 bx:BoxIn w.aAD.Log w.aAD.Boxes K
 devs:∀p∈aH w.aAD.Log,∃k,k<m/\p=uV w.Seed k
 rem:∀p,iN w.aAD.Log p=true->∃k,k<m/\p=uV w.Seed k
 hist:w.aAD.History=r++[nY K (aL w.aAD.Log) v b]
 old:∀s∈r,Hs S (t:Int) K (aL w.aAD.Log) v s
 bun:BunIn S (t:Int) b.Entries
 ver:0<=v/\v<=(t:Int)
 dev:∀k (h:k<w.Devices.length),Dv S (t:Int) w.aAD.Log K (aL w.aAD.Log) v w.Devices[k]
def Dv.mono {S:List (Int×Int)}{T U:Int}{log:List D.aAC}{K ep v u:Int}{d:D.Device}(h:Dv S T log K ep v d)(hT:T<=U)(hv:v<=u):Dv S U log K ep u d:=
 ⟨h.pre,h.at_.imp id λq=>⟨q.1,fa q.2 hv⟩,h.key,h.bun.mono hT⟩
def Hs.mono {S:List (Int×Int)}{T U:Int}{K ep v u:Int}{s:D.aAA}(h:Hs S T K ep v s)(hT:T<=U)(hv:v<=u):Hs S U K ep u s:=
 ⟨h.low,λe=>let ⟨v',b',h1,h2,h3,h4⟩:=h.own e;⟨v',b',h1,h2,fa h3 hv,h4.mono hT⟩⟩
section
variable {S:List (Int×Int)} {t m:Nat} {w:D.World} {K v:Int} {r:List D.aAA} {b:D.aAB}
def Net.last (h:Net S t m w K v r b):Hs S (t:Int) K (aL w.aAD.Log) v (nY K (aL w.aAD.Log) v b):=
 ⟨dt _,λ_=>⟨v,b,rfl,h.ver.1,dt _,h.bun⟩⟩
def Net.hs (h:Net S t m w K v r b){s:D.aAA}(hs:s∈w.aAD.History):Hs S (t:Int) K (aL w.aAD.Log) v s:=by
 rw[h.hist] at hs;rcases bz.1 hs with hs|hs
 ·exact h.old s hs
 ·rw[cz.1 hs];exact h.last
def bE3 (K:Int):(eZ K ⟨0,0,[],0⟩).2=false:=by
 unfold eZ;cases !(bG K&&(bF (D.aAA.mk 0 0 [] 0).Epoch 0 1000000&&bF (D.aAA.mk 0 0 [] 0).Version 0 1000000))||(D.aAA.mk 0 0 [] 0).MAC !=fZ K ⟨0,0,[],0⟩ with
 |true=>rfl
 |false=>show(xN (Kl (jP K 0 0) [])).2=false;rfl
def bMt {d:D.Device}{log:List D.aAC}{bx:D.aAF}{s:D.aAA}(h:(gU d log bx s==0)=true):
  cO log d.Log=true/\bA d.Store∈aH log/\aL log<=s.Epoch/\(eZ (bD d.Store bx).1 s).2=true/\(dX d.aAB (eZ (bD d.Store bx).1 s).1).2=true:=by
 have h:=eq_of_beq h;unfold gU at h;cases h1: !bB log|| !cO log d.Log with
 |true=>rw[h1] at h;cases h
 |false=>
 cases h2: !gX (aH log) (bA d.Store) with
 |true=>rw[h1,h2] at h;cases h
 |false=>
 cases h3:bx.Epoch !=aL log|| !(bD d.Store bx).2 with
 |true=>rw[h1,h2,h3] at h;cases h
 |false=>
 cases h4:decide (s.Epoch<aL log)||(decide (s.Epoch<d.Epoch)||(s.Epoch==d.Epoch&&decide (s.Version<d.Version))) with
 |true=>rw[h1,h2,h3,h4] at h;cases h
 |false=>
 cases h5: !(eZ (bD d.Store bx).1 s).2|| !(dX d.aAB (eZ (bD d.Store bx).1 s).1).2 with
 |true=>rw[h1,h2,h3,h4,h5] at h;cases h
 |false=>
 simp only[bq,dv,di] at h1 h2 h4 h5;exact⟨h1.2,U2.1 h2,by omega,h5.1,h5.2⟩
def Net.set (h:Net S t m w K v r b){i:Nat}{x:D.Device}(hi:i<w.Devices.length)(hx:Dv S (t:Int) w.aAD.Log K (aL w.aAD.Log) v x):∀k (hk:k<(w.Devices.set i x).length),Dv S (t:Int) w.aAD.Log K (aL w.aAD.Log) v (w.Devices.set i x)[k]:=λk hk=>by
 rw[ga];rw[ax] at hk;split
 ·exact hx
 ·exact h.dev k hk
def Net.upd (h:Net S t m w K v r b){u:D.World}(h1:u.Seed=w.Seed)(h2:u.aAD=w.aAD)(h3:u.Devices.length=w.Devices.length)(h4:WIn m u)
  (h5:∀k (hk:k<u.Devices.length),Dv S (t:Int) w.aAD.Log K (aL w.aAD.Log) v u.Devices[k]):Net S t m u K v r b where
 wi:=h4
 bx:=by rw[h2];exact h.bx
 devs:=by rw[h1,h2];exact h.devs
 rem:=by rw[h1,h2];exact h.rem
 hist:=by rw[h2];exact h.hist
 old:=by rw[h2];exact h.old
 bun:=h.bun
 ver:=h.ver
 dev:=by rw[h2];exact h5
def Net.mono (h:Net S t m w K v r b){u:Nat}(hu:t<=u):Net S u m w K v r b where
 wi:=h.wi
 bx:=h.bx
 devs:=h.devs
 rem:=h.rem
 hist:=h.hist
 old:=λs hs=>(h.old s hs).mono (by omega) (dt _)
 bun:=h.bun.mono (by omega)
 ver:=by have:=h.ver;omega
 dev:=λk hk=>(h.dev k hk).mono (by omega) (dt _)
def Net.aDE (h:Net S t m w K v r b)(hS:KeyS S)(ht:t<=900000){d:D.Device}(hd:Dv S (t:Int) w.aAD.Log K (aL w.aAD.Log) v d)(c:Int):Dv S (t:Int) w.aAD.Log K (aL w.aAD.Log) v (bS d w.aAD.Log w.aAD.Boxes (dI w.aAD c).1).1:=by
 unfold bS;cases h0:gU d w.aAD.Log w.aAD.Boxes (dI w.aAD c).1==0 with
 |false=>exact hd
 |true=>
  obtain⟨q1,q2,q3,q4,q5⟩:=bMt h0;have ho:=aUh h.bx q2;rw[ho] at q4 q5;rw[ac,ho];have hep:=h.bx.eps;have hf:(dI w.aAD c).1=⟨0,0,[],0⟩\/(dI w.aAD c).1∈w.aAD.History:=by
   unfold dI;cases hb:decide (c<0)||decide (c>=(w.aAD.History.length:Int)) with
   |true=>exact .inl rfl
   |false=>
    simp only[bq,di] at hb;refine .inr ?_;have hl:w.aAD.History.length-1-c.toNat<w.aAD.History.length:=by omega
    show w.aAD.History.getD (w.aAD.History.length-1-c.toNat) default∈_;rw[List.getD,ae hl,cD];exact cN hl
  rcases hf with hf|hf
  ·rw[hf,bE3] at q4;cases q4
  ·obtain⟨l1,l2⟩:=h.hs hf;obtain⟨v',b',e,e1,e2,e3⟩:=l2 (by omega);have hv:=h.ver;have hop:eZ K (nY K (aL w.aAD.Log) v' b')=(b',true):=bEy h.bx.kok (by omega) (by omega) (e3.ok hS (by omega));rw[e,hop,bE1 hS (by omega) hd.bun e3];exact⟨⟨[],by simp⟩, .inr ⟨rfl,e2⟩,λ_=>rfl,hd.bun.merge e3⟩
def Net.sync (h:Net S t m w K v r b)(hS:KeyS S)(ht:t<=900000)(d c:Int):Net S t m (aI w d c).1 K v r b:=by
 have hw:=h.wi.sync d c;unfold aI at hw ⊢;cases hb:aR w&&aM w d with
 |false=>exact h
 |true=>rw[hb] at hw;rw[aa] at hb;obtain⟨hd,e⟩:=U1 hb.2;exact h.upd rfl rfl (ax ..) hw (h.set hd (h.aDE hS ht (by rw[e];exact h.dev _ hd) c))
def Net.aDH (h:Net S t m w K v r b)(hS:KeyS S)(ht:t<=900000)(d:Int){n:ByteArray}{a:Int}(hk:(bH n,a)∈S)(f:Bool):Net S (t+1) m (jB w d n a f).1 K v r b:=by
 have hw:=h.wi.aDH d n a f;unfold jB at hw ⊢;cases hb:aR w&&aM w d with
 |false=>exact h.mono (by omega)
 |true=>
  rw[hb] at hw;rw[aa] at hb;obtain⟨hd,e⟩:=U1 hb.2;have hD:=h.dev _ hd;rw[<-e] at hD;have c:=bE2 hS (by omega) hD.bun hk f;cases hc:(bW (aN w d) n a f).2 with
  |false=>exact h.mono (by omega)
  |true=>rw[hc] at hw;have h':=h.mono (u:=t+1) (by omega);exact h'.upd rfl rfl (ax ..) hw (h'.set hd ⟨by rw[c.log];exact hD.pre,by rw[c.ep,c.ver];exact hD.at_,by rw[c.ep,c.key];exact hD.key,c.bun.mono (by omega)⟩)
end
end Go.VK
set_option maxRecDepth 100000
namespace Go.VK
def aZ5 (k:Int)(b:List Int):∀z∈jC k b,0<=z/\z<=255:=λz hz=>by
 obtain⟨i,hi,e⟩:=du.1 hz;unfold jC at hi e;have hl:i<b.length:=by have:=xO k b;unfold jC at this;omega
 rw[aJj hl] at e;rw[<-e];unfold aT5;rw[IntKind.wrap_u8];omega
def U6 {k:Int}{b:List Int}(h:b.length<=34359738368):aQ (jC k b):=
 ⟨by rw[xO];exact h,cF.2 λz hz=>by
  have:=aZ5 k b z hz;rw[ao this.1,ao this.2];rfl⟩
def bE4 {n k t pin seed:Int}(h:aG4 n k t pin seed=true):oM (fE n k t pin seed).aAD:=by
 have hn:n.toNat=1\/n.toNat=2\/n.toNat=3:=by unfold aG4 at h;simp only[aa] at h;have:=jJ h.1;omega
 have ec:(fE n k t pin seed).aAD=⟨aT seed n.toNat,eX seed n.toNat,[nY (bP seed 0) 0 1 (nwB n.toNat)]⟩:=by unfold fE;rw[h];exact aSo hn
 rw[ec];refine⟨λx hx=> ?_,λs hs=> ?_⟩
 ·obtain⟨i,hi,e⟩:=du.1 hx;obtain⟨e',_,he⟩:=(bIt (seed:=seed) (n:=n.toNat) (by omega) (by omega)).box i hi;have e:(eX seed n.toNat).Boxes[i]=x:=e;rw[<-e,he];exact U6 (by have:=bCg (aL (aT seed n.toNat)) (bP seed 0);omega)
 ·have hs:s=nY (bP seed 0) 0 1 (nwB n.toNat):=by simpa using hs
  rw[hs];refine U6 ?_;have:=Dl (nwB n.toNat);omega
def bCl (l:List D.aAA):Prop:=l.Pairwise λa b=>kF b a=true
def bE5 {a b:D.aAA}:kF a b=true↔b.Epoch<a.Epoch\/(a.Epoch=b.Epoch/\b.Version<a.Version):=by unfold kF;simp
def aXo {a b c:D.aAA}(h:kF a b=true)(k:kF b c=true):kF a c=true:=by rw[bE5] at*;omega
structure CldOk (c:D.aAD):Prop where
 bytes:oM c
 inc:bCl c.History
def aLp {c:D.aAD}(h:CldOk c){s:D.aAA}(hs:aQ s.Data):CldOk (bO c s).1:=by
 unfold bO;cases hb:s.Epoch !=aL c.Log||((decide ((c.History.length:Int)>0)&& !kF s (c.History.getD (c.History.length-1) default))||decide ((c.History.length:Int)>=60)) with
 |true=>exact h
 |false=>
  simp only[bq] at hb;refine⟨⟨h.bytes.1,λx hx=> ?_⟩,?_⟩
  ·rcases bz.1 hx with hx|hx
   ·exact h.bytes.2 x hx
   ·rw[cz.1 hx];exact hs
  ·show bCl (c.History++[s]);refine List.pairwise_append.2 ⟨h.inc,eW ..,λa ha b hb'=> ?_⟩
   rw[cz.1 hb'];obtain⟨i,hi,e⟩:=du.1 ha;have hf:=hb.2.1;rw[ao (show(c.History.length:Int)>0 by omega),cW,dv,List.getD,ae (by omega),cD] at hf;by_cases hl:i=c.History.length-1
   ·subst hl;rw[<-e];exact hf
   ·have:=dT.1 h.inc i (c.History.length-1) hi (by omega) (by omega);rw[e] at this;exact aXo hf this
def bE6 {c:D.aAD}(h:CldOk c){log:List D.aAC}{e:D.aAF}(he:aUd e):CldOk (jV c log e).1:=by
 unfold jV;cases !bB log||(!cO log c.Log|| !gK e log) with
 |true=>exact h
 |false=>exact⟨⟨he,h.bytes.2⟩,h.inc⟩
def aPb (p e:Int)(d:List Int)(hd:d.length<=34359738368):aQ (eG p e d).1.Data:=by
 unfold eG;cases eU p==0||(!bG e||decide ((d.length:Int)>200)) with
 |true=>exact⟨by show 0<=_;omega,rfl⟩
 |false=>exact U6 hd
def aGk {e:Int}{d:List Int}(hd:d.length<=34359738368):∀(l:List Int) (i:Nat),∀x∈(eH e d i l).1,aQ x.Data
 |[],i,x,hx=>by simp[eH] at hx
 |p::l,i,x,hx=>by
  unfold eH at hx;cases hb:(eG p (IntKind.i64.wrap (e+(i:Int))) d).2&&(eH e d (i+1) l).2 with
  |false=>rw[hb] at hx;simp at hx
  |true=>
   rw[hb,ac] at hx;rcases aE.1 hx with rfl|hx
   ·exact aPb _ _ _ hd
   ·exact aGk hd l (i+1) x hx
def U7 (log:List D.aAC)(k e:Int):aUd (bC log k e).1:=by
 unfold bC;cases !bB log||(!bG k|| !(eH e (gF [aL log,k]) 0 (aH log)).2) with
 |true=>intro x hx;simp at hx
 |false=>exact λx hx=>aGk (by have:=bCg (aL log) k;omega) _ _ x hx
def aXp (d:D.Device):aQ (bN d).2.1.Data:=by
 have h0:aQ ([]:List Int):=⟨by show 0<=_;omega,rfl⟩;unfold bN;cases hw:(jD d.Key d.Epoch (IntKind.i64.wrap (d.Version+1)) d.aAB).2 with
 |false=>exact h0
 |true=>
  show aQ (jD d.Key d.Epoch (IntKind.i64.wrap (d.Version+1)) d.aAB).1.Data;unfold jD;cases bG d.Key&&(bF d.Epoch 0 1000000&&bF (IntKind.i64.wrap (d.Version+1)) 0 1000000)&&aK d.aAB with
  |false=>exact h0
  |true=>refine U6 ?_;have:=Dl d.aAB;omega
section
variable {w:D.World}
def bI0 (h:CldOk w.aAD)(d:Int):CldOk (Gq w d).1.aAD:=by
 unfold Gq;cases(bN (aN w d)).2.2&&(bO w.aAD (bN (aN w d)).2.1).2 with
 |false=>exact h
 |true=>exact aLp h (aXp _)
def aXq (h:CldOk w.aAD)(d:Int):CldOk (dL w d).1.aAD:=by
 unfold dL;cases(aI w d 0).2==0&&(Gq (aI w d 0).1 d).2 with
 |false=>exact h
 |true=>exact bI0 (by rw[(gW w d 0).2.2.2.2.2];exact h) d
def aSq (h:CldOk w.aAD)(b k p:Int)(key:List D.aAC->Int):CldOk (iF w b k p key).1.aAD:=by
 unfold iF;dsimp only;cases(dS w.aAD.Log k p (aN w b).Store).2&&((bC (dS w.aAD.Log k p (aN w b).Store).1 (key (dS w.aAD.Log k p (aN w b).Store).1) (IntKind.i64.wrap (1000+IntKind.i64.wrap (10*((dS w.aAD.Log k p (aN w b).Store).1.length:Int))))).2&&(jV w.aAD (dS w.aAD.Log k p (aN w b).Store).1 (bC (dS w.aAD.Log k p (aN w b).Store).1 (key (dS w.aAD.Log k p (aN w b).Store).1) (IntKind.i64.wrap (1000+IntKind.i64.wrap (10*((dS w.aAD.Log k p (aN w b).Store).1.length:Int))))).1).2) with
 |false=>exact h
 |true=>exact bE6 h (U7 _ _ _)
def bLi (h:CldOk w.aAD)(b:Int):CldOk (iG w b).1.aAD:=by
 unfold iG;cases Q8 w b with
 |false=>exact h
 |true=>
  show CldOk (zT w b).1.aAD;have h0:CldOk (aI w b 0).1.aAD:=by rw[(gW w b 0).2.2.2.2.2];exact h
  have h1:CldOk (add1 w b).1.aAD:=aSq h0 _ _ _ _;have h3:CldOk (oK w b).1.aAD:=aXq (w:=jQ w b) h1 b;show CldOk (aI (appW (oK w b).1 (bQ (aP w.Seed (w.Devices.length:Int)))) (w.Devices.length:Int) 0).1.aAD;rw[(gW _ _ _).2.2.2.2.2];exact h3
def bLj (h:CldOk w.aAD)(c x:Int):CldOk (iH w c x).1.aAD:=by
 unfold iH;cases(aI w c 0).2==0&&(!dG w c&&(!(c==x)&&kN w x)) with
 |false=>exact h
 |true=>
  simp only[ac];unfold qG;cases(mR w c x).2&&((R4 w c x).2&&(R6 w c x).2) with
  |false=>exact h
  |true=>
   have h0:CldOk (iC w c).aAD:=by unfold iC;rw[(gW w c 0).2.2.2.2.2];exact h
   have h1:CldOk (mR w c x).1.aAD:=aSq h0 _ _ _ _;exact bI0 (w:=R5 w c x) h1 c
def aXr (h:CldOk w.aAD)(d:Int)(n:ByteArray)(a:Int)(f:Bool):CldOk (jB w d n a f).1.aAD:=by
 unfold jB;cases aR w&&aM w d with
 |false=>exact h
 |true=>simp only[ac];cases(bW (aN w d) n a f).2<;>exact h
def bE7 (h:CldOk w.aAD)(d j:Int)(o:D.aAN):CldOk (lJ w d j o).1.aAD:=by
 unfold lJ;cases !eO w d j with
 |true=>exact h
 |false=>
  simp only[ab];cases !(uH w j).2.2.2 with
  |true=>exact h
  |false=>simp only[ab];cases !((aG2 w d j o).2.1==0)<;>exact h
def bE8 (h:CldOk w.aAD)(d:Int):CldOk (nR w d).1.aAD:=by unfold nR;cases eO w d 0&& !dG w d<;>exact h
def bLk {n k t pin seed:Int}:CldOk (fE n k t pin seed).aAD:=by
 cases h:aG4 n k t pin seed with
 |false=>unfold fE;rw[h];exact⟨⟨λx hx=>by simp[aT9] at hx,λx hx=>by simp[aT9] at hx⟩,List.Pairwise.nil⟩
 |true=>
  have hn:n.toNat=1\/n.toNat=2\/n.toNat=3:=by unfold aG4 at h;simp only[aa] at h;have:=jJ h.1;omega
  have ec:(fE n k t pin seed).aAD=⟨aT seed n.toNat,eX seed n.toNat,[nY (bP seed 0) 0 1 (nwB n.toNat)]⟩:=by unfold fE;rw[h];exact aSo hn
  exact⟨bE4 h,by rw[ec];exact eW ..⟩
def bPb {d:Int}(h:aM w d=true):w.Devices.set d.toNat (aN w d)=w.Devices:=by obtain⟨hl,e⟩:=U1 h;rw[e];exact List.set_getElem_self hl
def bLl {d c:Int}(h:((aI w d c).2==0)=false):(aI w d c).1=w:=by
 unfold aI at h ⊢;cases hb:aR w&&aM w d with
 |false=>rfl
 |true=>
  rw[hb] at h;rw[aa] at hb;unfold bS at h ⊢;cases h0:gU (aN w d) w.aAD.Log w.aAD.Boxes (dI w.aAD c).1==0 with
  |true=>rw[h0] at h;cases h
  |false=>show({w with Devices:=w.Devices.set d.toNat (aN w d)}:D.World)=w;rw[bPb hb.2]
def bI1 {d:Int}(h:(dL w d).2=true):(dX (aN (dL w d).1 d).aAB (aN w d).aAB)=((aN (dL w d).1 d).aAB,true)/\(dL w d).1.aAD.History.length=w.aAD.History.length+1:=by
 unfold dL at h ⊢;cases hb:(aI w d 0).2==0&&(Gq (aI w d 0).1 d).2 with
 |false=>rw[hb] at h;cases h
 |true=>
  rw[ac];rw[aa] at hb;obtain⟨h0,hu⟩:=hb;obtain⟨⟨k1,k2⟩,k3,k4,k5⟩:=kR h0;obtain⟨hl,e⟩:=U1 k2;have hs:aI w d 0=({w with Devices:=w.Devices.set d.toNat (bS (aN w d) w.aAD.Log w.aAD.Boxes (dI w.aAD 0).1).1},(bS (aN w d) w.aAD.Log w.aAD.Boxes (dI w.aAD 0).1).2):=by unfold aI;rw[k1,k2];rfl
  have hX:aN (aI w d 0).1 d=(bS (aN w d) w.aAD.Log w.aAD.Boxes (dI w.aAD 0).1).1:=by rw[hs];unfold aN;show(w.Devices.set d.toNat _).getD d.toNat default=_;rw[List.getD,bg hl];rfl
  have hbad:(gU (aN w d) w.aAD.Log w.aAD.Boxes (dI w.aAD 0).1==0)=true:=by
   rw[hs] at h0;unfold bS at h0;cases hq:gU (aN w d) w.aAD.Log w.aAD.Boxes (dI w.aAD 0).1==0 with
   |true=>rfl
   |false=>rw[hq] at h0;have h0:(gU (aN w d) w.aAD.Log w.aAD.Boxes (dI w.aAD 0).1==0)=true:=h0;rw[hq] at h0;cases h0
  obtain⟨_,_,_,_,hm⟩:=bMt hbad;generalize hBB:(eZ (bD (aN w d).Store w.aAD.Boxes).1 (dI w.aAD 0).1).1=B at hm;have hXb:(aN (aI w d 0).1 d).aAB=(dX (aN w d).aAB B).1:=by rw[hX];unfold bS;rw[hbad,ac,hBB]
  have hM:dX (aN w d).aAB B=(⟨bM (aN w d).aAB.Entries B.Entries⟩,true)/\aK (aN w d).aAB=true/\aK B=true/\aK ⟨bM (aN w d).aAB.Entries B.Entries⟩=true:=by
   unfold dX at hm ⊢;cases q1:aK (aN w d).aAB&&aK B with
   |false=>rw[q1] at hm;cases hm
   |true=>
    rw[q1] at hm;cases q2:aK ⟨bM (aN w d).aAB.Entries B.Entries⟩ with
    |false=>rw[q2] at hm;cases hm
    |true=>rw[aa] at q1;exact⟨rfl,q1.1,q1.2,rfl⟩
  obtain⟨m1,m2,m3,m4⟩:=hM;rw[m1] at hXb;have hU:(Gq (aI w d 0).1 d).1={(aI w d 0).1 with Devices:=(aI w d 0).1.Devices.set d.toNat (bN (aN (aI w d 0).1 d)).1,aAD:=(bO (aI w d 0).1.aAD (bN (aN (aI w d 0).1 d)).2.1).1}/\(bO (aI w d 0).1.aAD (bN (aN (aI w d 0).1 d)).2.1).2=true:=by
   unfold Gq at hu ⊢;cases q:(bN (aN (aI w d 0).1 d)).2.2&&(bO (aI w d 0).1.aAD (bN (aN (aI w d 0).1 d)).2.1).2 with
   |false=>rw[q] at hu;cases hu
   |true=>rw[aa] at q;exact⟨rfl,q.2⟩
  obtain⟨u1,u2⟩:=hU;have hB2:(aN (Gq (aI w d 0).1 d).1 d).aAB=⟨bM (aN w d).aAB.Entries B.Entries⟩:=by
   have:aN (Gq (aI w d 0).1 d).1 d=(bN (aN (aI w d 0).1 d)).1:=by rw[u1];unfold aN;show((aI w d 0).1.Devices.set d.toNat _).getD d.toNat default=_;rw[List.getD,bg (by rw[k4];exact hl)];rfl
   rw[this];refine Eq.trans ?_ hXb;unfold bN;cases(jD (aN (aI w d 0).1 d).Key (aN (aI w d 0).1 d).Epoch (IntKind.i64.wrap ((aN (aI w d 0).1 d).Version+1)) (aN (aI w d 0).1 d).aAB).2<;>rfl
  refine⟨?_,?_⟩
  ·rw[hB2];have s1:=(aC1 m2).2;have s2:=(aC1 m3).2;unfold dX;rw[m4,m2];show(bif aK ⟨bM (bM (aN w d).aAB.Entries B.Entries) (aN w d).aAB.Entries⟩ then _ else _)=_;rw[(Sub.left s1 s2).merge s1 (bO7 s1 s2),m4];rfl
  ·rw[u1];show(bO (aI w d 0).1.aAD _).1.History.length=_;unfold bO at u2 ⊢;cases q:(bN (aN (aI w d 0).1 d)).2.1.Epoch !=aL (aI w d 0).1.aAD.Log||((decide (((aI w d 0).1.aAD.History.length:Int)>0)&& !kF (bN (aN (aI w d 0).1 d)).2.1 ((aI w d 0).1.aAD.History.getD ((aI w d 0).1.aAD.History.length-1) default))||decide (((aI w d 0).1.aAD.History.length:Int)>=60)) with
   |true=>rw[q] at u2;cases u2
   |false=>show((aI w d 0).1.aAD.History++[_]).length=_;rw[au,(gW w d 0).2.2.2.2.2];rfl
end
end Go.VK
